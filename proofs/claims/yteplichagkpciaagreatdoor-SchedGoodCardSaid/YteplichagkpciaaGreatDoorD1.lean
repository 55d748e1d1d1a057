/- A part. -/
import GoSem.Step
import Derived.Below
import Derived.Laws.Rows
import Derived.ChangeKeysEq
import Derived.Laws.Entries
import Derived.Laws.StructEq
import Derived.Great.BuildSlice
import Derived.Laws.BytesString
import Derived.Laws.IdiomStrings
import Derived.Laws.MakeOwn
import Derived.Lib.UnsafeStr
import Derived.RangeFuncLeaves
set_option linter.all false
set_option maxRecDepth 10000
set_option maxHeartbeats 1000000
namespace Go.Den
open Go Go.RowKit
abbrev oN:=Option Nat
abbrev lN:=List Nat
abbrev lB:=List UInt8
variable{i j b nt m aj sz k n l:Nat}{a:Act}{vs:List Value}{v v' d:Value}{w w':World}{c:Array Value}{O:Obj}{t e:TypeId}{ak:Option Value}{r:Bool}{f:FuncId}
def aex:=@List.getElem?_set_ne
def aez:=@List.getElem?_append_left
def aeA:=@List.getElem?_eq_some_iff
def afh:=@Option.some.injEq
def afi:=@if_neg
def afl:=@if_pos
def afq:=@List.append_assoc
def afr:=@Go.run_underlying
def afu:=@List.getElem?_eq_getElem
def agQ:=@List.take_of_length_le
def agS:=@Nat.zero_le
def agT:=@List.mem_append
def agU:=@List.length_append
def agW:=@Nat.le_refl
def agX:=@Bool.false_eq_true
def agY:=@Option.map_eq_some_iff
def agZ:=@List.length_map
def ag0:=@Option.map_some
def ag1:=@List.getElem?_set_self
def ag2:=@List.mem_map
def ag4:=@List.take_length
def ag5:=@List.length_cons
def ag6:=@List.all_eq_true
def ag8:=@List.getElem?_append_right
def ag9:=@List.map_append
def aha:=@List.getD_eq_getElem?_getD
def ahc:=@Nat.add_zero
def aiq:=@Bool.and_eq_true
def air:=@List.mem_filter
def ait:=@List.take_add_one
def aiH:=@if_true
def aiI:=@List.length_take
def aiK:=@List.mem_cons
def aiL:=@List.nil_append
def ajR:=@Nat.le_trans
def akp:=@congrArg
def akr:=@List.cons_append
def akU:=@List.drop_eq_nil_of_le
def alP:=@List.mem_of_mem_take
def alR:=@Nat.lt_of_lt_of_le
def amn:=@if_false
def ams:=@List.length_eq_zero_iff
def amv:=@Option.some.inj
def amy:=@List.drop_zero
def amB:=@decide_eq_true_eq
def am9:=@List.mem_of_getElem?
def ana:=@Nat.zero_add
def anb:=@Nat.add_sub_cancel_left
def ane:=@List.getElem?_eq_none
def anp:=@List.getElem?_drop
def anr:=@Array.length_toList
def ans:=@Array.getElem?_setIfInBounds
def ant:=@Nat.mul_le_mul_right
def anu:=@Array.getElem?_eq_some_iff
def anv:=@Nat.add_assoc
def anw:=@List.map_cons
def anx:=@List.drop_succ_cons
def aoI:=@List.ext_getElem?
def aoL:=@List.getElem?_take
def aoZ:=@List.flatten_append
def ao0:=@Nat.mod_eq_of_lt
def aph:=@List.drop_eq_getElem_cons
def aps:=@List.flatMap_append
def apt:=@List.take_append_drop
def ap0:=@List.mem_of_mem_drop
def ap1:=@List.flatten_cons
def aqR:=@Bool.or_eq_true
def aqT:=@Option.bind_some
def aqV:=@Nat.add_mul
def aqX:=@List.drop_drop
def aqY:=@Go.heap_alloc_new
def aq2:=@List.mem_flatMap
def aq4:=@Array.ext'
def aq9:=@Nat.succ_mul
def ari:=@Nat.min_eq_left
def ark:=@List.take_succ_cons
def arA:=@List.take_take
def arC:=@Go.run_program
def arE:=@Nat.le_max_left
def arF:=@List.length_singleton
def arI:=@List.flatMap_cons
def arU:=@List.extract_eq_take_drop
def atu:=@List.replicate_succ
def atx:=@Option.isSome_iff_exists
def atY:=@List.eq_of_mem_replicate
def aud:=@beq_iff_eq
def auK:=@List.take_append_of_le_length
def auM:=@List.drop_append
def awh:=@Array.toList_extract
def awi:=@List.all_cons
def awz:=@Bool.not_true
def awB:=@List.map_congr_left
def ayu:=@List.map_nil
def ayE:=@List.drop_take
def ay5:=@Array.getElem?_eq_getElem
def ay9:=@Array.getElem?_replicate
def azj:=@List.take_append
def azk:=@Go.callsIn_of_wp_marks
def azl:=@Nat.ne_of_lt
def azm:=@Nat.min_self
def azo:=@List.foldl_cons
def azp:=@List.cons.injEq
def aAl:=@List.range_eq_range'
def aAV:=@List.mapM_cons
def aAW:=@Go.grownCap_ge
def aAY:=@Go.wpIn_seq
def aBn:=@List.size_toArray
def aBp:=@List.replicate_append_replicate
def aCG:=@Go.size_zeroCells
def aCH:=@Bool.not_eq_true'
def aCI:=@Array.size_append
def aCM:=@decide_false
def aCY:=@List.map_map
def aC0:=@List.drop_append_of_le_length
inductive AV where
 |bool(b:Bool)
 |int(k:IntKind)(n:Int)
 |str(s:ByteArray)
 |agg(cs:List AV)
 |au(vs:List AV)
 |dY
 |ptr(id off:Nat)
 |dp(id aj i off:Nat)
 |eL(cs:List AV)(off:Nat)
 |df(g:Nat)
 |ai
 |sl(af:List (List AV))(cy:Bool)
 |ref(id aj sz off len:Nat)(cy:Bool)
 |eZ(id sz off len:Nat)
 |mc
 |mp(id:Nat)
 |iY(g:Nat)
 |fn(f:Fn)(first cap:List AV)
 |cJ
 |c9(t:TypeId)(v:AV)
 |ew
 |iB
 deriving Inhabited
abbrev AV.undef:AV:=.au []
def AV.cells:AV->List AV
 |.agg cs=>cs
 |v=>[v]
def AV.cb:AV->Bool
 |.au _=>true
 |.iB=>true
 |_=>false
def AV.jT:Value->AV
 |.bool b=>.bool b
 |.int k n=>.int k n
 |.string s=>.str s
 |.pointer none=>.dY
 |.slice none n c=>if n=0/\c=0 then .ai else .iB
 |.map none=>.mc
 |.nilFunc=>.cJ
 |.nilIface=>.ew
 |.tuple vs=>if vs.size=0 then .au []else .iB
 |_=>.iB
def AV.ofValue:Value->AV
 |.agg cs=>.agg (cs.toList.map AV.jT)
 |.iface t v=>.c9 t (AV.jT v)
 |v=>AV.jT v
mutual
def AV.refs:AV->Nat
 |.ptr id _=>id+1
 |.dp id _ _ _=>id+1
 |.ref id _ _ _ _ _=>id+1
 |.eZ id _ _ _=>id+1
 |.mp id=>id+1
 |.agg cs=>aG cs
 |.au cs=>aG cs
 |.eL cs _=>aG cs
 |.sl af _=>b8 af
 |.fn f a b=>max (match f with|.yield l=>l+1|_=>0) (max (aG a) (aG b))
 |.c9 _ v=>v.refs
 |_=>0
def aG:List AV->Nat
 | []=>0
 |a::as=>max a.refs (aG as)
def b8:List (List AV)->Nat
 | []=>0
 |a::as=>max (aG a) (b8 as)
end
abbrev Env:=Nat->AV
def Env.set(e:Env)(d:Nat)(v:AV):Env:=λt=>if t=d then v else e t
inductive ao where
 |t(i:Nat)
 |c(v:AV)
 deriving Inhabited
def ao.get(e:Env):ao->AV
 |.t i=>e i
 |.c v=>v
inductive EK where
 |bool
 |int
 |str
 |ptr
 |sl
 |map
 |cap
 |fn
 |c9
 |z9(ts:List TypeId)
 |agg(ks:List EK)
 deriving Inhabited
inductive I where
 |mov(x:ao)
 |pick(c a b:ao)
 |alloc(z:List AV)(tg:Option TypeId)
 |box(x:ao)(tg:Option TypeId:=none)
 |build(z:List AV)(parts:List (Nat×Nat×ao))
 |bslice(z:List AV)(len:Nat)(parts:List (Nat×Nat×ao))
 |rN(ty:TypeId)(z:List AV)(len:Nat)(parts:List (Nat×Nat×ao))
 |load(agg:Bool)(n:Nat)(a:ao)
 |store(n:Nat)(a v:ao)
 |nilck(x:ao)
 |bin(op:BinOp)(x y:ao)
 |shf(op:BinOp)(x y:ao)
 |eq(k:EK)(x y:ao)
 |ne(k:EK)(x y:ao)
 |un(op:UnOp)(x:ao)
 |conv(k:IntKind)(x:ao)
 |s2b(x:ao)
 |mki(t:TypeId)(x:ao)
 |mkf(f:Fn)(first cap:List ao)
 |nJ
 |CX(ty:TypeId)(z:List AV)(bytes:Nat)(l c:ao)
 |slstr(x:ao)(lo hi:Option ao)
 |slsl(sz:Nat)(x:ao)(lo hi mx:Option ao)
 |slarr(n sz:Nat)(x:ao)(lo hi:Option ao)
 |faddr(off:Nat)(x:ao)
 |fld(agg:Bool)(n off:Nat)(x:ao)
 |iaddra(len sz:Nat)(x i:ao)
 |iaddrs(sz:Nat)(x i:ao)
 |idxa(agg:Bool)(len sz:Nat)(x i:ao)
 |idxs(x i:ao)
 |lookup(kk:EK)(z:AV)(m k:ao)(ok:Bool)
 |oV(kk:EK)(m k v:ao)
 |ta(z:AV)(x:ao)(t:TypeId)(ok:Bool)
 |ext(x:ao)(i:Nat)
 |len(k:EK)(x:ao)
 |append(ty:TypeId)(sz bytes:Nat)(s x:ao)
 |copy(sz:Nat)(d s:ao)
 |clear(z:List AV)(x:ao)
 |max(xs:List ao)
 |min(xs:List ao)
 |call(f:ao)(args:List ao)
 |panic(x:ao)
 deriving Inhabited
structure aO where
 g:Option (Nat×Bool)
 dst:oN
 i:I
 deriving Inhabited
inductive PC where
 |skip
 |aL(ops:List aO)
 |ui(ops:List (aO×lN))
 |seq(a b:PC)
 |cond(c:ao)(a b:PC)
 |block(id:Nat)(b:PC)
 |loop(b:PC)
 |hZ(g:ao)(params:lN)(assign body:PC)
 |exit(id:Nat)
 |ret
 deriving Inhabited
inductive RV where
 |t(i:Nat)
 |cell(a:Nat)(agg:Bool)(n:Nat)
 deriving Inhabited
structure PF where
 ntmps:Nat
 results:List RV
 body:PC
 deriving Inhabited
inductive ae where
 |box(cs:List AV)(tg:Option TypeId)
 |row(aj sz:Nat)(ty:TypeId)(af:List (List AV))
 |map(es:List (AV×AV))
 |loop(state:LoopState)(pending:Option PC)(fn:FuncId)(env:Env)(params:lN)(assign body:PC)
 |bD
 |dead
 deriving Inhabited
structure AS where
 heap:List ae
 lo:oN
 deriving Inhabited
inductive aS where
 |ret(v:AV)(E:AS)
 |panic(v:AV)(E:AS)
 deriving Inhabited
abbrev bu:=AV->List AV->AS->Option aS
structure Ctx where
 df:Nat->Option (List AV)
 code:FuncId->Option PF
 bU:FuncId->Option (List AV->AS->Option aS)
 fa:Nat->Option (List (AV×AV)):=λ_=>none
def AS.push(E:AS)(o:ae):AS:={E with heap:=E.heap++[o]}
def cC(a:oN)(i:Nat):oN:=match a with|none=>some i|some j=>some (Nat.min i j)
def fU(a b:oN):oN:=match b with|none=>a|some j=>cC a j
def AS.set(E:AS)(id:Nat)(o:ae)(refs:Nat):AS:=
 {heap:=E.heap.set id o,lo:=if refs<=id+1 then E.lo else cC E.lo id}
def part(agg:Bool)(n:Nat)(cs:List AV)(off:Nat):Option AV:=
 if agg then(if off+n<=cs.length then some (.agg ((cs.drop off).take n))else none)else cs[off]?
def aH(cs:List AV)(off:Nat)(vs:List AV):List AV:=cs.take off++(vs++cs.drop (off+vs.length))
def dZ(cs:List AV):List (Nat×Nat×AV)->Option (List AV)
 | []=>some cs
 | (off,n,v)::rest=>if v.cb=false/\v.cells.length=n/\off+n<=cs.length then dZ (aH cs off v.cells) rest else none
def chunks(sz:Nat):Nat->List AV->List (List AV)
 |0,_=>[]
 |k+1,cs=>cs.take sz::chunks sz k (cs.drop sz)
def AV.Aa:AV->Bool
 |.ptr .. |.dp .. |.eL .. |.df _=>true
 |_=>false
def AV.Ab:AV->Bool
 |.sl .. |.ref .. |.eZ .. =>true
 |_=>false
def qq:EK->AV->AV->Option Bool
 |.bool,.bool a,.bool b=>some (a==b)
 |.int,.int k a,.int k' b=>if k=k' then some (a==b)else none
 |.str,.str a,.str b=>some (a.toList==b.toList)
 |.ptr,.dY,.dY=>some true
 |.ptr,.dY,b=>if b.Aa then some false else none
 |.ptr,a,.dY=>if a.Aa then some false else none
 |.sl,.ai,.ai=>some true
 |.sl,.ai,b=>if b.Ab then some false else none
 |.sl,a,.ai=>if a.Ab then some false else none
 |.map,.mc,.mc=>some true
 |.map,.mc,.mp _=>some false
 |.map,.mp _,.mc=>some false
 |.fn,.cJ,.cJ=>some true
 |.fn,.cJ,.fn .. =>some false
 |.fn,.fn ..,.cJ=>some false
 |.c9,.ew,.ew=>some true
 |.c9,.ew,.c9 .. =>some false
 |.c9,.c9 ..,.ew=>some false
 |.z9 ts,.c9 t (.int k a),.c9 c (.int k' b)=>if t=c then(if ts.contains t/\k=k' then some (a==b)else none)else some false
 |_,_,_=>none
def iZ:List EK->List AV->List AV->Option Bool
 | [],[],[]=>some true
 |k::c,a::as,b::bs=>match qq k a b with
  |some true=>iZ c as bs
  |some false=>some false
  |none=>none
 |_,_,_=>none
def ea:EK->AV->AV->Option Bool
 |.agg a,.agg xs,.agg ys=>if xs.length=a.length/\ys.length=a.length then iZ a xs ys else none
 |.agg _,_,_=>none
 |k,x,y=>qq k x y
def vY(a:BinOp)(k:IntKind)(x y:Int):Option AV:=
 match a with
 |.and=>some (.int k (k.wrap (BitVec.ofInt k.bits x&&&BitVec.ofInt k.bits y).toNat))
 |.or=>some (.int k (k.wrap (BitVec.ofInt k.bits x|||BitVec.ofInt k.bits y).toNat))
 |.xor=>some (.int k (k.wrap (BitVec.ofInt k.bits x^^^BitVec.ofInt k.bits y).toNat))
 |.andNot=>some (.int k (k.wrap (BitVec.ofInt k.bits x&&& ~~~ (BitVec.ofInt k.bits y)).toNat))
 |_=>none
def me(a:BinOp)(k:IntKind)(x y:Int):Option AV:=
 match a with
 |.add=>some (.int k (k.wrap (x+y)))
 |.sub=>some (.int k (k.wrap (x-y)))
 |.mul=>some (.int k (k.wrap (x*y)))
 |.quo=>if y=0 then none else some (.int k (k.wrap (x.tdiv y)))
 |.rem=>if y=0 then none else some (.int k (x.tmod y))
 |.eql=>some (.bool (x==y))
 |.neq=>some (.bool (x !=y))
 |.lss=>some (.bool (x<y))
 |.leq=>some (.bool (x<=y))
 |.gtr=>some (.bool (x>y))
 |.geq=>some (.bool (x>=y))
 |a=>vY a k x y
def vZ(a:BinOp)(k:IntKind)(x y:Int):Option AV:=
 if y<0 then none else
 match a with
 |.shl=>some (.int k (k.wrap (x*2^(min y.toNat k.bits))))
 |.shr=>some (.int k (x.fdiv (2^(min y.toNat k.bits))))
 |_=>none
def Xe:Nat:=1152921504606846976
def Xf(a:BinOp)(x y:ByteArray):Option AV:=
 match a with
 |.add=>if x.size+y.size<=Xe then some (.str (x++y))else none
 |.eql=>some (.bool (x.toList==y.toList))
 |.neq=>some (.bool !(x.toList==y.toList))
 |.lss=>some (.bool (Op.bytesLess x.toList y.toList))
 |.leq=>some (.bool (Op.bytesLess x.toList y.toList||x.toList==y.toList))
 |.gtr=>some (.bool !(Op.bytesLess x.toList y.toList||x.toList==y.toList))
 |.geq=>some (.bool !(Op.bytesLess x.toList y.toList))
 |_=>none
def dg(c:BinOp):AV->AV->Option AV
 |.int k a,.int k' b=>if k=k' then me c k a b else none
 |.str a,.str b=>Xf c a b
 |_,_=>none
def xU(a:UnOp)(x:AV):Option AV:=
 match a,x with
 |.neg,.int k n=>some (.int k (k.wrap (0-n)))
 |.xor,.int k n=>vY .xor k (if k.signed then-1 else k.max) n
 |.not,.bool b=>some (.bool !b)
 |_,_=>none
inductive Out where
 |ok(v:AV)(E:AS)
 |panic(v:AV)(E:AS)
def fF(E:AS):Option AV->Option Out
 |some v=>some (.ok v E)
 |none=>none
variable(X:Ctx)
def cg(E:AS)(agg:Bool)(n:Nat)(a:AV):Option AV:=
 match a with
 |.ptr id off=>match E.heap[id]? with
  |some (.box cs _)=>part agg n cs off
  |_=>none
 |.dp id aj i off=>match E.heap[id]? with
  |some (.row v sz _ af)=>if v=aj then(af[i]?).bind λel=>if el.length=sz then part agg n el off else none else none
  |_=>none
 |.eL cs off=>part agg n cs off
 |.df g=>(X.df g).bind λcs=>part agg n cs 0
 |_=>none
def kK(E:AS)(n:Nat)(a v:AV):Option AS:=
 match a with
 |.ptr id off=>match E.heap[id]? with
  |some (.box cs tg)=>if v.cb=false/\v.cells.length=n/\off+n<=cs.length then some (E.set id (.box (aH cs off v.cells) tg) v.refs)else none
  |_=>none
 |.dp id aj i off=>match E.heap[id]? with
  |some (.row w sz ty af)=>match af[i]? with
   |some el=>if w=aj/\el.length=sz/\v.cb=false/\v.cells.length=n/\off+n<=el.length then some (E.set id (.row aj sz ty (af.set i (aH el off v.cells))) v.refs)else none
   |none=>none
  |_=>none
 |_=>none
def elems(E:AS)(sz:Nat):AV->Option (List (List AV))
 |.ai=>some []
 |.sl af _=>if af.all (λel=>el.length==sz)then some af else none
 |.ref id aj a off len _=>match E.heap[id]? with
  |some (.row v b _ af)=>if v=aj/\b=sz/\a=sz/\off+len<=af.length then some ((af.drop off).take len)else none
  |_=>none
 |.eZ id b off len=>match E.heap[id]? with
  |some (.box cs _)=>if b=sz/\off+len*sz<=cs.length then some (chunks sz len (cs.drop off))else none
  |_=>none
 |_=>none
def rO:AV->Option Int
 |.int _ n=>some n
 |_=>none
def lF(n:Nat):Option AV->Nat->oN
 |none,d=>some d
 |some (.int _ i),_=>if 0<=i/\i<=n then some i.toNat else none
 |some _,_=>none
def fV(len:Nat)(b a:Option AV):Option (Nat×Nat):=
 match lF len a len with
 |some h=>match lF h b 0 with
  |some l=>some (l,h)
  |none=>none
 |none=>none
def uj(x:AV)(b a:Option AV):Option AV:=
 match x with
 |.str s=>match fV s.size b a with
  |some (l,h)=>some (.str (s.extract l h))
  |none=>none
 |_=>none
def lG(len h:Nat)(cy:Bool):Option AV->Option Bool
 |none=>some (cy&&h==len)
 |some (.int _ i)=>if(h:Int)<=i/\i<=len then some (i==h)else none
 |some _=>none
def fW(n:Nat)(x:AV)(b a d:Option AV):Option AV:=
 match x with
 |.ai=>match fV 0 b a,lG 0 0 true d with
  |some _,some _=>some .ai
  |_,_=>none
 |.sl af cy=>match fV af.length b a with
  |some (l,h)=>match lG af.length h cy d with
   |some c=>if af.all (λel=>el.length==n)then some (.sl ((af.drop l).take (h-l)) c)else none
   |none=>none
  |none=>none
 |.ref id aj sz off len cy=>match fV len b a with
  |some (l,h)=>match lG len h cy d with
   |some c=>if sz=n then some (.ref id aj sz (off+l) (h-l) c)else none
   |none=>none
  |none=>none
 |.eZ id sz off len=>match fV len b a,d with
  |some (l,h),none=>if sz=n then some (.eZ id sz (off+l*sz) (h-l))else none
  |_,_=>none
 |_=>none
def qs(n sz:Nat)(x:AV)(b a:Option AV):Option AV:=
 match fV n b a with
 |some (l,h)=>match x with
  |.ptr id off=>some (.eZ id sz (off+l*sz) (h-l))
  |.eL cs off=>if off+n*sz<=cs.length then some (.sl (chunks sz (h-l) (cs.drop (off+l*sz))) false)else none
  |.df g=>match X.df g with
   |some cs=>if n*sz<=cs.length then some (.sl (chunks sz (h-l) (cs.drop (l*sz))) false)else none
   |none=>none
  |_=>none
 |none=>none
def rP(s:ByteArray):List (List AV):=s.data.toList.map λb=>[.int .u8 b.toNat]
def v5:List (List AV)->Option lB
 | []=>some []
 | [.int .u8 n]::r=>(v5 r).map (UInt8.ofNat n.toNat:: ·)
 |_=>none
def room:Nat:=1099511627776
def dw(E:AS)(ty:TypeId)(sz bytes:Nat)(s:AV)(ys:List (List AV)):Option (AV×AS):=
 if 0<sz/\ys.all (λel=>el.length==sz)then
  match s with
  |.ai=>if ys.length=0 then some (.ai,E)else
   if ys.length*bytes<=room then some (.ref E.heap.length 0 sz 0 ys.length false,E.push (.row 0 sz ty ys))else none
  |.sl af true=>if ys.length=0 then some (s,E)else
   if(af.length+ys.length)*bytes<=room/\af.all (λel=>el.length==sz)then
    some (.ref E.heap.length 0 sz 0 (af.length+ys.length) false,E.push (.row 0 sz ty (af++ys)))else none
  |.sl _ false=>if ys.length=0 then some (s,E)else none
  |.ref id aj a off len cy=>
   match E.heap[id]? with
   |some (.row v c b af)=>
    if v=aj/\c=sz/\a=sz/\b=ty/\off+len<=af.length/\ (len+ys.length)*bytes<=room then
     if ys.length=0 then some (s,E)else
     if cy then some (.ref E.heap.length 0 sz 0 (len+ys.length) false,E.push (.row 0 sz ty ((af.drop off).take len++ys)))else
     some (.ref id (aj+1) sz 0 (len+ys.length) false,E.set id (.row (aj+1) sz ty ((af.drop off).take len++ys)) (b8 ys))
    else none
   |_=>none
  |_=>none
 else none
def oW:AV->AV->Option Bool
 |.int k a,.int k' b=>if k=k' then some (a==b)else none
 |.str a,.str b=>some (a==b)
 |.bool a,.bool b=>some (a==b)
 |_,_=>none
def dR(k:AV):List (AV×AV)->Option (Option AV)
 | []=>some none
 | (k',v)::es=>match oW k k' with
   |some true=>some (some v)
   |some false=>dR k es
   |none=>none
def lH(k v:AV):List (AV×AV)->Option (List (AV×AV))
 | []=>some [(k,v)]
 | (k',v')::es=>match oW k k' with
   |some true=>some ((k,v)::es)
   |some false=>(lH k v es).map ((k',v'):: ·)
   |none=>none
def mapOf(gm:Nat->Option (List (AV×AV)))(E:AS):AV->Option (List (AV×AV))
 |.mc=>some []
 |.iY g=>gm g
 |.mp id=>match E.heap[id]? with
  |some (.map es)=>some es
  |_=>none
 |_=>none
def isKey:AV->Bool
 |.int _ _|.str _|.bool _=>true
 |_=>false
def kM:EK->AV->Bool
 |.int,.int _ _|.str,.str _|.bool,.bool _=>true
 |_,_=>false
def gQ(gm:Nat->Option (List (AV×AV)))(E:AS)(b:EK)(z m k:AV)(a:Bool):Option AV:=
 if kM b k then
  match mapOf gm E m with
  |some es=>match dR k es with
   |some (some v)=>some (if a then .au [v,.bool true]else v)
   |some none=>some (if a then .au [z,.bool false]else z)
   |none=>none
  |none=>none
 else none
def mf(E:AS)(b:EK)(m k v:AV):Option AS:=
 if kM b k then
  match m with
  |.mp id=>match E.heap[id]? with
   |some (.map es)=>match lH k v es with
    |some a=>some (E.set id (.map a) v.refs)
    |none=>none
   |_=>none
  |_=>none
 else none
def qt:AV->AV->Option AV
 |.int k x,.int _ y=>some (.int k (if y>x then y else x))
 |_,_=>none
def v7:AV->AV->Option AV
 |.int k x,.int _ y=>some (.int k (if y<x then y else x))
 |_,_=>none
def fj(E:AS):EK->AV->Option AV
 |.str,.str s=>some (.int .i64 s.size)
 |.sl,.ai=>some (.int .i64 0)
 |.sl,.sl af _=>some (.int .i64 af.length)
 |.sl,.ref _ _ _ _ n _=>some (.int .i64 n)
 |.sl,.eZ _ _ _ n=>some (.int .i64 n)
 |.map,.mc=>some (.int .i64 0)
 |.map,.mp id=>match E.heap[id]? with
  |some (.map es)=>some (.int .i64 es.length)
  |_=>none
 |.cap,.ai=>some (.int .i64 0)
 |.cap,.sl af true=>some (.int .i64 af.length)
 |.cap,.ref _ _ _ _ n true=>some (.int .i64 n)
 |_,_=>none
def CY(E:AS)(sz:Nat)(s:AV):Option (List (List AV)):=
 match s with
 |.str b=>if sz=1 then some (rP b)else none
 |s=>elems E sz s
def rQ(E:AS)(sz:Nat)(d s:AV):Option (AV×AS):=
 match CY E sz s with
 |some ys=>match d with
  |.ai=>some (.int .i64 0,E)
  |.ref id aj a off len _=>match E.heap[id]? with
   |some (.row v b ty af)=>
    if v=aj/\b=sz/\a=sz/\off+len<=af.length then
     some (.int .i64 (Nat.min ys.length len),E.set id (.row aj sz ty (af.take off++(ys.take (Nat.min ys.length len)++af.drop (off+Nat.min ys.length len)))) (b8 ys))
    else none
   |_=>none
  |.eZ id b off len=>match E.heap[id]? with
   |some (.box cs tg)=>
    if b=sz/\off+len*sz<=cs.length/\ys.all (λel=>el.length==sz)then
     some (.int .i64 (Nat.min ys.length len),E.set id (.box (aH cs off (ys.take (Nat.min ys.length len)).flatten) tg) (b8 ys))
    else none
   |_=>none
  |_=>none
 |none=>none
def rR(E:AS)(z:List AV)(x:AV):Option AS:=
 match x with
 |.ai=>some E
 |.ref id aj a off len _=>match E.heap[id]? with
  |some (.row v sz ty af)=>
   if v=aj/\a=sz/\sz=z.length/\off+len<=af.length/\aG z=0 then
    some (E.set id (.row aj sz ty (af.take off++(List.replicate len z++af.drop (off+len)))) 0)
   else none
  |_=>none
 |.eZ id sz off len=>match E.heap[id]? with
  |some (.box cs tg)=>
   if sz=z.length/\off+len*sz<=cs.length/\aG z=0 then
    some (E.set id (.box (aH cs off (List.replicate len z).flatten) tg) 0)
   else none
  |_=>none
 |_=>none
def rS(o:Nat)(x:AV):Option AV:=
 match x with
 |.ptr id off=>some (.ptr id (off+o))
 |.dp id aj i off=>some (.dp id aj i (off+o))
 |.eL cs off=>some (.eL cs (off+o))
 |.df g=>match X.df g with
  |some cs=>some (.eL cs o)
  |none=>none
 |_=>none
def uk(n sz:Nat)(x a:AV):Option AV:=
 match rO a with
 |some i=>if 0<=i/\i<n then
    match x with
    |.ptr id off=>some (.ptr id (off+i.toNat*sz))
    |.dp id aj j off=>some (.dp id aj j (off+i.toNat*sz))
    |.eL cs off=>some (.eL cs (off+i.toNat*sz))
    |.df g=>match X.df g with
     |some cs=>some (.eL cs (i.toNat*sz))
     |none=>none
    |_=>none
  else none
 |none=>none
def jU(sz:Nat)(x b:AV):Option AV:=
 match rO b with
 |some i=>match x with
  |.sl af _=>if 0<=i then match af[i.toNat]? with
     |some el=>if el.length=sz then some (.eL el 0)else none
     |none=>none
   else none
  |.ref id aj a off len _=>if 0<=i/\i<len/\a=sz then some (.dp id aj (off+i.toNat) 0)else none
  |.eZ id a off len=>if 0<=i/\i<len/\a=sz then some (.ptr id (off+i.toNat*sz))else none
  |_=>none
 |none=>none
def qu(agg:Bool)(n sz:Nat)(x a:AV):Option AV:=
 match rO a,x with
 |some i,.agg cs=>if 0<=i/\i<n then part agg sz cs (i.toNat*sz)else none
 |_,_=>none
def xV(x a:AV):Option AV:=
 match rO a,x with
 |some i,.str s=>if 0<=i then match s.data.toList[i.toNat]? with
    |some b=>some (.int .u8 b.toNat)
    |none=>none
  else none
 |_,_=>none
def Nq(E:AS)(ty:TypeId)(z:List AV)(bytes:Nat)(l c:AV):Option (AV×AS):=
 match l,c with
 |.int _ l,.int _ c=>if 0<=l/\l<=c/\c*bytes<=room/\c<=room then
    some (.ref E.heap.length 0 z.length 0 l.toNat false,E.push (.row 0 z.length ty (List.replicate l.toNat z)))
  else none
 |_,_=>none
def Ac(z x:AV)(t:TypeId)(a:Bool):Option AV:=
 match x with
 |.ew=>if a then some (.au [z,.bool false])else none
 |.c9 b v=>if b=t then some (if a then .au [v,.bool true]else v)else if a then some (.au [z,.bool false])else none
 |_=>none
def aCm(a:List TypeId)(x:AV)(b:Bool):Option AV:=
 match x with
 |.ew=>if b then some (.au [.ew,.bool false])else none
 |.c9 t v=>if a.contains t then some (if b then .au [.c9 t v,.bool true]else .c9 t v)else none
 |_=>none
def fX(f:AV->AV->Option AV):List AV->Option AV
 | []=>none
 | [x]=>some x
 |x::y::r=>match f x y with
  |some z=>fX f (z::r)
  |none=>none
termination_by l=>l.length
def v8:AV->Option AV
 |.ptr id off=>some (.ptr id off)
 |.dp id aj i off=>some (.dp id aj i off)
 |.eL cs off=>some (.eL cs off)
 |.df g=>some (.df g)
 |.fn (.func f) a b=>some (.fn (.func f) a b)
 |.fn (.yield l) a b=>some (.fn (.yield l) a b)
 |_=>none
def exec(C:bu)(i:I)(e:Env)(E:AS):Option Out:=
 match i with
 |.mov x=>some (.ok (x.get e) E)
 |.pick c a b=>match c.get e with
  |.bool t=>some (.ok (if t then a.get e else b.get e) E)
  |_=>none
 |.alloc z tg=>some (.ok (.ptr E.heap.length 0) (E.push (.box z tg)))
 |.box x tg=>if(x.get e).cb then none else some (.ok (.ptr E.heap.length 0) (E.push (.box (x.get e).cells tg)))
 |.build z parts=>match dZ z (parts.map λp=>(p.1,p.2.1,p.2.2.get e))with
  |some cs=>some (.ok (.agg cs) E)
  |none=>none
 |.bslice z len parts=>match dZ (List.replicate len z).flatten (parts.map λp=>(p.1,p.2.1,p.2.2.get e))with
  |some cs=>some (.ok (.sl (chunks z.length len cs) true) E)
  |none=>none
 |.rN ty z len parts=>match dZ (List.replicate len z).flatten (parts.map λp=>(p.1,p.2.1,p.2.2.get e))with
  |some cs=>some (.ok (.ref E.heap.length 0 z.length 0 len false) (E.push (.row 0 z.length ty (chunks z.length len cs))))
  |none=>none
 |.load agg n a=>fF E (cg X E agg n (a.get e))
 |.store n a v=>match kK E n (a.get e) (v.get e)with
  |some g=>some (.ok .undef g)
  |none=>none
 |.nilck x=>fF E (v8 (x.get e))
 |.bin op x y=>fF E (dg op (x.get e) (y.get e))
 |.shf op x y=>match x.get e,y.get e with
  |.int k a,.int _ b=>fF E (vZ op k a b)
  |_,_=>none
 |.eq k x y=>match ea k (x.get e) (y.get e)with
  |some b=>some (.ok (.bool b) E)
  |none=>none
 |.ne k x y=>match ea k (x.get e) (y.get e)with
  |some b=>some (.ok (.bool !b) E)
  |none=>none
 |.un op x=>fF E (xU op (x.get e))
 |.conv k x=>match x.get e with
  |.int _ n=>some (.ok (.int k (k.wrap n)) E)
  |_=>none
 |.s2b x=>match x.get e with
  |.str s=>if s.size<=room then some (.ok (.sl (rP s) false) E)else none
  |_=>none
 |.mki t x=>some (.ok (.c9 t (x.get e)) E)
 |.mkf f first cap=>some (.ok (.fn f (first.map (·.get e)) (cap.map (·.get e))) E)
 |.nJ=>some (.ok (.mp E.heap.length) (E.push (.map [])))
 |.CX ty z bytes l c=>match Nq E ty z bytes (l.get e) (c.get e)with
  |some (v,g)=>some (.ok v g)
  |none=>none
 |.slstr x lo h=>fF E (uj (x.get e) (lo.map (·.get e)) (h.map (·.get e)))
 |.slsl n x lo h q=>fF E (fW n (x.get e) (lo.map (·.get e)) (h.map (·.get e)) (q.map (·.get e)))
 |.slarr n sz x lo h=>fF E (qs X n sz (x.get e) (lo.map (·.get e)) (h.map (·.get e)))
 |.faddr o x=>fF E (rS X o (x.get e))
 |.fld agg n off x=>match x.get e with
  |.agg cs=>fF E (part agg n cs off)
  |_=>none
 |.iaddra n sz x i=>fF E (uk X n sz (x.get e) (i.get e))
 |.iaddrs sz x i=>fF E (jU sz (x.get e) (i.get e))
 |.idxa agg n sz x i=>fF E (qu agg n sz (x.get e) (i.get e))
 |.idxs x i=>fF E (xV (x.get e) (i.get e))
 |.lookup j z m k ok=>fF E (gQ X.fa E j z (m.get e) (k.get e) ok)
 |.oV j m k v=>match mf E j (m.get e) (k.get e) (v.get e)with
  |some g=>some (.ok .undef g)
  |none=>none
 |.ta z x t ok=>fF E (Ac z (x.get e) t ok)
 |.ext x i=>match x.get e with
  |.au vs=>fF E (vs[i]?)
  |_=>none
 |.len k x=>fF E (fj E k (x.get e))
 |.append ty sz bytes s x=>match elems E sz (x.get e)with
  |some ys=>match dw E ty sz bytes (s.get e) ys with
   |some (v,g)=>some (.ok v g)
   |none=>none
  |none=>none
 |.copy sz d s=>match rQ E sz (d.get e) (s.get e)with
  |some (v,g)=>some (.ok v g)
  |none=>none
 |.clear z x=>match rR E z (x.get e)with
  |some g=>some (.ok .undef g)
  |none=>none
 |.max xs=>fF E (fX qt (xs.map (·.get e)))
 |.min xs=>fF E (fX v7 (xs.map (·.get e)))
 |.call f args=>match C (f.get e) (args.map (·.get e)) E with
  |some (.ret v g)=>some (.ok v g)
  |some (.panic v g)=>some (.panic v g)
  |none=>none
 |.panic x=>match x.get e with
  |.c9 t v=>some (.panic (.c9 t v) E)
  |_=>none
structure Fr where
 env:Env
 marks:lN
 deriving Inhabited
def Fr.put(a:Fr)(dst:oN)(v:AV):Fr:=
 match dst with
 |some d=>{a with env:=a.env.set d v}
 |none=>a
inductive Ex where
 |normal
 |exit(id:Nat)
 |ret
 |panic(v:AV)
abbrev ja:=Option (Ex×Fr×AS)
def fK(e:Env):Option (Nat×Bool)->Bool
 |none=>true
 |some (t,want)=>match e t with
  |.bool b=>b==want
  |_=>false
def eD(C:bu):List aO->Fr->AS->ja
 | [],fr,E=>some (.normal,fr,E)
 |o::os,fr,E=>
  if fK fr.env o.g then
   match exec X C o.i fr.env E with
   |some (.ok v a)=>eD C os (fr.put o.dst v) a
   |some (.panic v a)=>some (.panic v,fr,a)
   |none=>none
  else eD C os (fr.put o.dst .undef) E
inductive FP where
 |no
 |rd(id off n:Nat)
 |q
 |wr(id off n:Nat)
 |app
 |all
def FP.ok:FP->FP->Bool
 |.no,_=>true
 |_,.no=>true
 |.rd ..,.rd .. =>true
 |.rd ..,.q=>true
 |.q,.rd .. =>true
 |.q,.q=>true
 |.rd id off n,.wr b a c=>id !=b||off+n<=a||a+c<=off
 |.wr id off n,.rd b a c=>id !=b||off+n<=a||a+c<=off
 |.rd ..,.app=>true
 |.app,.rd .. =>true
 |_,_=>false
open Classical in
noncomputable def ba(i:I)(e:Env)(E b:AS):FP:=
 match i with
 |.load _ n a=>match a.get e with
  |.ptr id off=>.rd id off (Nat.max n 1)
  |.dp .. =>.q
  |.eL .. =>.no
  |.df _=>.no
  |_=>.all
 |.lookup .. =>.q
 |.len k _=>match k with
  |.map=>.q
  |_=>.no
 |.store n a _=>match a.get e with
  |.ptr id off=>.wr id off n
  |.dp .. =>.app
  |_=>.all
 |.append .. =>.app
 |.call .. =>if b=E then .q else .all
 |.alloc _ _|.box .. |.rN .. |.nJ|.CX .. |.oV .. |.copy .. |.clear .. |.panic _=>.all
 |_=>.no
def I.cls:I->Nat
 |.mov _|.pick .. |.build .. |.bslice .. |.nilck _|.bin .. |.shf .. |.eq .. |.ne .. |.un .. |.conv .. |.s2b _|.mki .. |.mkf .. =>0
 |.slstr .. |.slsl .. |.slarr .. |.faddr .. |.fld .. |.iaddra .. |.iaddrs .. |.idxa .. |.idxs .. |.ta .. |.ext .. |.max _|.min _=>0
 |.load .. |.lookup .. |.len .. =>1
 |.call .. =>2
 |_=>3
def ao.tmps:ao->lN
 |.t i=>[i]
 |.c _=>[]
def gB(l:List ao):lN:=l.flatMap ao.tmps
def I.reads:I->lN
 |.mov x|.box x _|.nilck x|.un _ x|.conv _ x|.s2b x|.mki _ x|.ta _ x _ _|.ext x _|.len _ x|.clear _ x|.panic x=>x.tmps
 |.alloc _ _|.nJ=>[]
 |.pick a b c|.oV _ a b c=>gB [a,b,c]
 |.build _ ps|.bslice _ _ ps|.rN _ _ _ ps=>gB (ps.map (·.2.2))
 |.load _ _ a=>a.tmps
 |.store _ a v|.bin _ a v|.shf _ a v|.eq _ a v|.ne _ a v|.CX _ _ _ a v|.iaddra _ _ a v|.iaddrs _ a v|.idxa _ _ _ a v|.idxs a v
 |.lookup _ _ a v _|.append _ _ _ a v|.copy _ a v=>gB [a,v]
 |.mkf _ a b=>gB (a++b)
 |.slstr x lo d|.slarr _ _ x lo d=>gB (x:: (lo.toList++d.toList))
 |.slsl _ x lo d e=>gB (x:: (lo.toList++d.toList++e.toList))
 |.faddr _ x|.fld _ _ _ x=>x.tmps
 |.max xs|.min xs=>gB xs
 |.call f as=>gB (f::as)
def aO.reads(o:aO):lN:=o.i.reads++(match o.g with|some (t,_)=>[t]|none=>[])
def CZ(l m:lN):Bool:=l.all λx=>!m.contains x
def jV(x y:aO):Bool:=
 CZ x.dst.toList y.reads&&CZ y.dst.toList x.reads&&CZ x.dst.toList y.dst.toList
def FP.is:FP->Bool
 |.no=>false
 |_=>true
def C0(a:List FP)(o:aO×lN)(os:List (aO×lN)):Bool:=
 o.2.isEmpty&& (o.1.i.cls !=0&& ((o.1.i.cls==2||a.all FP.is)&&os.all λo'=>if o'.1.i.cls=0 then !jV o.1 o'.1 else !o'.2.contains a.length))
noncomputable def fY(C:bu):List FP->List (aO×lN)->Fr->AS->ja
 |_,[],fr,E=>some (.normal,fr,E)
 |a,o::os,fr,E=>
  if fK fr.env o.1.g then
   match exec X C o.1.i fr.env E with
   |some (.ok v b)=>
    if o.2.all (λj=>((a.getD j .all).ok (ba o.1.i fr.env E b)))then
     fY C (a++[ba o.1.i fr.env E b]) os (fr.put o.1.dst v) b
    else none
   |some (.panic v b)=>if C0 a o os then some (.panic v,fr,b)else none
   |none=>none
  else fY C (a++[.no]) os (fr.put o.1.dst .undef) E
def aO.fA(x:aO):Option ae:=match x.i with
 |.alloc z tg=>some (.box z tg)
 |_=>none
def lI(m:Nat)(x:aO):aO:=match x.fA with
 |some _=>{x with i:=.mov (.c (.ptr m 0))}
 |none=>x
def gR:Nat->List (aO×lN)->List (aO×lN)
 |_,[]=>[]
 |n,o::os=>(lI n o.1,o.2)::gR (match o.1.fA with|some _=>n+1|none=>n) os
def dq:List (aO×lN)->List ae
 | []=>[]
 |o::os=>match o.1.fA with
  |some b=>b::dq os
  |none=>dq os
def AS.mg(E:AS)(os:List ae):AS:={E with heap:=E.heap++os}
def Ad:PC->Option Ex
 |.ret=>some .ret
 |.exit id=>some (.exit id)
 |_=>none
abbrev ed:=(Fr->AS->ja)->Fr->AS->ja
def rT:AV->Bool
 |.fn (.func f) _ _=>(X.bU f).isNone&& (X.code f).isSome
 |_=>false
def endLoop(l:Nat)(b:Fr)(E:AS):ja:=
 match E.heap[l]? with
 |some (.loop st a f env ps as bd)=>
  if st= .busy then none else
  match a with
  |none=>some (.normal,b,E.set l (.loop .exhausted a f env ps as bd) 0)
  |some j=>match Ad j with
   |some ex=>some (ex,b,E.set l (.loop .exhausted a f env ps as bd) 0)
   |none=>none
 |_=>none
noncomputable def aX(C:bu)(L:ed)(bO:FuncId)(rd:Bool):PC->Fr->AS->ja
 |.skip,fr,E=>some (.normal,fr,E)
 |.seq a b,fr,E=>match aX C L bO rd a fr E with
  |some (.normal,d,e)=>aX C L bO rd b d e
  |r=>r
 |.cond c a b,fr,E=>match c.get fr.env with
  |.bool t=>if t then aX C L bO rd a fr E else aX C L bO rd b fr E
  |_=>none
 |.block id body,fr,E=>match aX C L bO rd body fr E with
  |some (.exit f,d,e)=>if f=id then some (.normal,d,e)else some (.exit f,d,e)
  |r=>r
 |.loop body,fr,E=>L (aX C L bO rd body) fr E
 |.exit id,fr,E=>some (.exit id,fr,E)
 |.ret,fr,E=>some (.ret,fr,E)
 |.aL ops,fr,E=>eD X C ops fr E
 |.ui ops,fr,E=>fY X C [] (gR E.heap.length ops) fr (E.mg (dq ops))
 |.hZ g params assign body,fr,E=>
  if rd then none else
  if rT X (g.get fr.env)then
   match C (g.get fr.env) [.fn (.yield (E.heap.length+1)) [] []] ((E.push .bD).push (.loop .ready none bO fr.env params assign body))with
   |some (.ret _ e)=>endLoop (E.heap.length+1) {fr with marks:=E.heap.length::fr.marks} e
   |some (.panic v e)=>some (.panic v,{fr with marks:=E.heap.length::fr.marks},e)
   |none=>none
  else none
mutual
def freeze(E:AS)(n:Nat):Nat->AV->Option AV
 |0,_=>none
 |k+1,v=>if v.refs<=n then some v else
  match v with
  |.ref id aj sz off len cy=>match E.heap[id]? with
   |some (.row v c _ af)=>if v=aj/\c=sz/\off+len<=af.length then
      match rU E n k ((af.drop off).take len)with
      |some a=>some (.sl a cy)
      |none=>none
    else none
   |_=>none
  |.agg cs=>match ia E n k cs with
   |some b=>some (.agg b)
   |none=>none
  |.au cs=>match ia E n k cs with
   |some b=>some (.au b)
   |none=>none
  |.sl af cy=>match rU E n k af with
   |some a=>some (.sl a cy)
   |none=>none
  |_=>none
def ia(E:AS)(n:Nat):Nat->List AV->Option (List AV)
 |_,[]=>some []
 |0,_::_=>none
 |k+1,a::as=>match freeze E n k a with
  |some a'=>match ia E n (k+1) as with
   |some b=>some (a'::b)
   |none=>none
  |none=>none
def rU(E:AS)(n:Nat):Nat->List (List AV)->Option (List (List AV))
 |_,[]=>some []
 |0,_::_=>none
 |k+1,a::as=>match ia E n k a with
  |some a'=>match rU E n (k+1) as with
   |some b=>some (a'::b)
   |none=>none
  |none=>none
end
def finish(n:Nat)(dx:oN)(v:AV)(E:AS):AV×AS:=
 if(match E.lo with|none=>true|some j=>n<=j)then
  match freeze E n 12 v with
  |some v'=>(v',{heap:=E.heap.take n,lo:=dx})
  |none=>(v,{heap:=E.heap,lo:=fU dx E.lo})
 else(v,{heap:=E.heap,lo:=fU dx E.lo})
def nK(E:AS)(e:Env):RV->Option AV
 |.t i=>some (e i)
 |.cell a agg n=>cg X E agg n (e a)
def ju(E:AS)(e:Env):List RV->Option (List AV)
 | []=>some []
 |r::rs=>match nK X E e r with
  |some v=>match ju E e rs with
   |some vs=>some (v::vs)
   |none=>none
  |none=>none
def fk(E:AS)(e:Env)(a:List RV):Option AV:=
 match ju X E e a with
 |some [v]=>some v
 |some vs=>some (.au vs)
 |none=>none
def dy(E:AS):lN->Option AS
 | []=>some E
 |m::ms=>match E.heap[m]? with
  |some .bD=>dy (E.set m .dead 0) ms
  |_=>none
def cZ(args:List AV):Env:=λt=>args.getD t .undef
def iD(e:Env):lN->List AV->Env
 |p::ps,a::as=>iD (e.set p a) ps as
 |_,_=>e
def qw(n:Nat)(dx:oN)(pf:PF)(b:Fr)(E:AS):Option aS:=
 match dy E b.marks with
 |some a=>match fk X a b.env pf.results with
  |some v=>some (.ret (finish n dx v a).1 (finish n dx v a).2)
  |none=>none
 |none=>none
def leave(n:Nat)(dx:oN)(pf:PF):ja->Option aS
 |some (.normal,fr,E)=>qw X n dx pf fr E
 |some (.ret,fr,E)=>qw X n dx pf fr E
 |some (.panic v,fr,E)=>match dy E fr.marks with
  |some a=>some (.panic (finish n dx v a).1 (finish n dx v a).2)
  |none=>none
 |_=>none
def rV:Ex->Option (Option PC)
 |.normal=>some none
 |.ret=>some (some .ret)
 |.exit id=>some (some (.exit id))
 |.panic _=>none
def endRound(l n:Nat)(dx:oN):ja->Option aS
 |some (ex,_,E)=>match rV ex,E.heap[l]? with
  |some j,some (.loop _ _ f env ps as bd)=>
   some (.ret (.bool j.isNone) (finish n dx (.bool j.isNone) (E.set l (.loop (if j.isNone then .ready else .done) j f env ps as bd) 0)).2)
  |_,_=>none
 |none=>none
noncomputable def jW(C:bu)(L:ed)(l:Nat)(args:List AV)(E:AS):Option aS:=
 match E.heap[l]? with
 |some (.loop _ _ f env ps assign body)=>
  if args.length=ps.length then
   match aX X C L f true assign {env:=iD env ps args,marks:=[]} {E with lo:=none}with
   |some (.normal,fr,a)=>
    match a.heap[l]? with
    |some (.loop .ready b g c d e iE)=>
     endRound l E.heap.length E.lo (aX X C L f true body fr (a.set l (.loop .busy b g c d e iE) 0))
    |_=>none
   |_=>none
  else none
 |_=>none
noncomputable def step(C:bu)(L:ed):bu
 |.fn (.func f) first cap,args,E=>
  match X.bU f with
  |some p=>p (first++args++cap) E
  |none=>
   match X.code f with
   |some pf=>
    if(first++args++cap).length<=pf.ntmps then
     leave X E.heap.length E.lo pf (aX X C L f false pf.body {env:=cZ (first++args++cap),marks:=[]} {E with lo:=none})
    else none
   |none=>none
 |.fn (.yield l) [] _,args,E=>jW X C L l args E
 |_,_,_=>none
def iter:Nat->ed
 |0,_,_,_=>none
 |n+1,body,fr,E=>match body fr E with
  |some (.normal,a,b)=>iter n body a b
  |r=>r
noncomputable def ib:Nat->bu
 |0=>λ_ _ _=>none
 |n+1=>step X (ib n) (iter n)
section
variable(P:Program)
def cn(t:TypeId):oN:=(P.info? t).map (·.size)
def xW(t:TypeId):oN:=(P.info? t).map (·.bytes)
def mY(t:TypeId):Option Bool:=(P.underlying t).map λ |.struct _|.array _ _=>true|_=>false
def AV.plain:AV->Bool
 |.iB=>false
 |_=>true
def GX:Value->Bool
 |.agg cs=>cs.toList.all λv=>(AV.jT v).plain&& !(AV.jT v).cb
 |.iface _ v=>(AV.jT v).plain
 |v=>(AV.jT v).plain
def zeroV(t:TypeId):Option Value:=(P.info? t).bind (·.zero)
def xX(t:TypeId):Option AV:=
 match zeroV P t with
 |some z=>if GX z then some (AV.ofValue z)else none
 |none=>none
def gC(t:TypeId):Option (List AV):=
 match xX P t,cn P t with
 |some z,some n=>if z.cb=false/\z.cells.length=n then some z.cells else none
 |_,_=>none
def rW:List AV->TypeId->Option TypeId
 | [.dY,.ai],t=>some t
 |_,_=>none
def bJ:Operand->Option ao
 |.tmp t=>some (.t t)
 |.const v=>if GX v then some (.c (AV.ofValue v))else none
 |.global g=>some (.c (.df g))
 |.func f=>some (.c (.fn (.func f) [] []))
def nL:List Operand->Option (List ao)
 | []=>some []
 |x::xs=>match bJ x,nL xs with
  |some y,some ys=>some (y::ys)
  |_,_=>none
def um:Option Operand->Option (Option ao)
 |none=>some none
 |some x=>(bJ x).map some
def parts(a:Nat->Option (Nat×Nat)):List (Nat×Operand)->Option (List (Nat×Nat×ao))
 | []=>some []
 | (i,x)::r=>match a i,bJ x,parts a r with
   |some (off,n),some y,some b=>some ((off,n,y)::b)
   |_,_,_=>none
def Ae(f:TypeId->Option (List EK)):List Field->Nat->Option (List EK)
 | [],_=>some []
 |g::gs,off=>match f g.type with
  |some a=>if g.name≠ "_" /\g.offset=off/\cn P g.type=some a.length then(Ae f gs (off+a.length)).map (a++ ·)else none
  |none=>none
def nN:Nat->TypeId->Option (List EK)
 |0,_=>none
 |d+1,t=>match P.underlying t with
  |some .bool=>some [.bool]
  |some (.int _)=>some [.int]
  |some .string=>some [.str]
  |some (.struct fields)=>if P.stoodInHeld t=false then Ae P (nN d) fields.toList 0 else none
  |some (.array n e)=>match nN d e with
   |some a=>if cn P e=some a.length/\n*a.length<=1024 then some (List.replicate n a).flatten else none
   |none=>none
  |_=>none
def Xg:List TypeId:=
 (List.range P.types.size).filter λt=>match P.info? t,P.underlying t with
   |some i,some (.int _)=>i.comparable
   |_,_=>false
def xY(t:TypeId)(x y:Operand):Option EK:=
 match P.underlying t with
 |some .bool=>some .bool
 |some (.int _)=>some .int
 |some .string=>some .str
 |some (.pointer _)=>some .ptr
 |some (.slice _)=>some .sl
 |some (.map _ _)=>some .map
 |some (.func _ _ _)=>some .fn
 |some (.interface _)=>(match x,y with|.const .nilIface,_=>some .c9|_,.const .nilIface=>some .c9|_,_=>some (.z9 (Xg P)))
 |some (.struct _)=>if P.eqGuardType P.depth t=false then(nN P 10 t).map .agg else none
 |some (.array _ _)=>if P.eqGuardType P.depth t=false then(nN P 10 t).map .agg else none
 |_=>none
def Af(t:TypeId):Option EK:=
 match P.underlying t with
 |some .bool=>some .bool
 |some (.int _)=>some .int
 |some .string=>some .str
 |_=>none
def aCn(t:TypeId):Bool:=match zeroV P t with|some .nilIface=>true|_=>false
def Xh:Fn->Bool
 |.yield _=>true
 |_=>false
def aCo(a:Array (String×TypeId)):List TypeId:=
 (List.range P.types.size).filter λt=>match P.info? t with
   |some i=>(Instr.missingMethod a i.methods).isNone
   |none=>false
def C2(a:TypeId)(c:Call):Option I:=
 match c.callee,c.argTypes.toList,c.args.toList with
 |.value f,_,args=>match bJ f,nL args with
  |some f,some as=>some (.call f as)
  |_,_=>none
 |.builtin .len,[t],[x]=>match P.underlying t with
  |some .string=>(bJ x).map (.len .str)
  |some (.slice _)=>(bJ x).map (.len .sl)
  |some (.map _ _)=>(bJ x).map (.len .map)
  |_=>none
 |.builtin .append,[st,g],[s,x]=>match P.underlying st with
  |some (.slice e)=>match cn P e,xW P e,bJ s,bJ x with
   |some sz,some b,some s,some x=>match P.underlying g with
    |some (.slice _)=>if 0<b/\ (gC P e).isSome then some (.append e sz b s x)else none
    |_=>none
   |_,_,_,_=>none
  |_=>none
 |.builtin .copy,[h,_],[d,s]=>match P.underlying h with
  |some (.slice e)=>match cn P e,bJ d,bJ s with
   |some sz,some d,some s=>some (.copy sz d s)
   |_,_,_=>none
  |_=>none
 |.builtin .clear,[t],[x]=>match P.underlying t with
  |some (.slice e)=>match gC P e,bJ x with
   |some z,some x=>some (.clear z x)
   |_,_=>none
  |_=>none
 |.builtin .max,_,xs=>match P.underlying a with
  |some (.int _)=>(nL xs).map .max
  |_=>none
 |.builtin .min,_,xs=>match P.underlying a with
  |some (.int _)=>(nL xs).map .min
  |_=>none
 |.builtin .cap,[t],[x]=>match P.underlying t with
  |some (.slice _)=>(bJ x).map (.len .cap)
  |_=>none
 |_,_,_=>none
def kN(rows:Bool)(o:Oper):Option I:=
 match o.op with
 |.move x|.assign x=>(bJ x).map .mov
 |.pick c a b=>match bJ c,bJ a,bJ b with
  |some c,some a,some b=>some (.pick c a b)
  |_,_,_=>none
 |.alloc t=>(gC P t).map λz=>.alloc z (rW z t)
 |.box t x=>(bJ x).map λx=>.box x ((gC P t).bind λz=>rW z t)
 |.build t ps=>match P.underlying t,gC P t with
  |some (.struct fields),some z=>if fields.toList.all (λf=>(cn P f.type).isSome)then(parts (λi=>match fields[i]? with
    |some f=>(cn P f.type).map λn=>(f.offset,n)
    |none=>none) ps.toList).map (.build z)else none
  |some (.array _ e),some z=>match cn P e with
   |some sz=>(parts (λi=>some (i*sz,sz)) ps.toList).map (.build z)
   |none=>none
  |_,_=>none
 |.buildSlice t len ps=>match P.underlying t with
  |some (.slice e)=>match gC P e with
   |some z=>if len*z.length<=65536/\0<z.length then
      (parts (λi=>some (i*z.length,z.length)) ps.toList).map λps=>if rows then .rN e z len ps else .bslice z len ps
    else none
   |none=>none
  |_=>none
 |.load t a=>match mY P t,cn P t,bJ a with
  |some b,some n,some a=>some (.load b n a)
  |_,_,_=>none
 |.store t a v=>match cn P t,bJ a,bJ v with
  |some n,some a,some v=>some (.store n a v)
  |_,_,_=>none
 |.nilCheck x=>(bJ x).map .nilck
 |.binOp op t x y _=>match bJ x,bJ y with
  |some p,some j=>match op,P.underlying t with
   |.shl,some (.int _)|.shr,some (.int _)=>some (.shf op p j)
   |.eql,_=>(xY P t x y).map λk=>.eq k p j
   |.neq,_=>(xY P t x y).map λk=>.ne k p j
   |_,some (.int _)|_,some .string=>some (.bin op p j)
   |_,_=>none
  |_,_=>none
 |.unOp op _ x=>(bJ x).map (.un op)
 |.convert src dst x=>match P.underlying src,P.underlying dst,bJ x with
  |some (.int _),some (.int k),some x=>some (.conv k x)
  |some .string,some (.slice e),some x=>match P.underlying e with
   |some (.int .u8)=>some (.s2b x)
   |_=>none
  |_,_,_=>none
 |.makeInterface t x=>match P.underlying t with
  |some (.interface _)|none=>none
  |some _=>(bJ x).map (.mki t)
 |.makeFunc f first cap=>match nL first.toList,nL cap.toList with
  |some a,some b=>if Xh f then none else some (.mkf f a b)
  |_,_=>none
 |.makeMap _ none=>some .nJ
 |.makeSlice t l c=>match P.underlying t with
  |some (.slice e)=>match gC P e,xW P e,bJ l,bJ c with
   |some z,some b,some l,some c=>if 0<z.length/\0<b then some (.CX e z b l c)else none
   |_,_,_,_=>none
  |_=>none
 |.slice t x lo h d=>match bJ x,um lo,um h,um d with
  |some x,some lo,some h,some d=>match P.underlying t with
   |some .string=>if d.isNone then some (.slstr x lo h)else none
   |some (.slice e)=>if d.isNone||h.isSome then(cn P e).map λn=>.slsl n x lo h d else none
   |some (.array n e)=>if d.isNone then(cn P e).map λsz=>.slarr n sz x lo h else none
   |_=>none
  |_,_,_,_=>none
 |.fieldAddr s x f=>match P.underlying s,bJ x with
  |some (.struct fields),some x=>match fields[f]? with
   |some g=>match cn P g.type with
    |some n=>if 0<n then some (.faddr g.offset x)else none
    |none=>none
   |none=>none
  |_,_=>none
 |.field s x f=>match P.underlying s,bJ x with
  |some (.struct fields),some x=>match fields[f]? with
   |some g=>match mY P g.type,cn P g.type with
    |some b,some n=>some (.fld b n g.offset x)
    |_,_=>none
   |none=>none
  |_,_=>none
 |.indexAddr t x i=>match P.underlying t,bJ x,bJ i with
  |some (.array n e),some x,some i=>(cn P e).map λsz=>.iaddra n sz x i
  |some (.slice e),some x,some i=>(cn P e).map λsz=>.iaddrs sz x i
  |_,_,_=>none
 |.index t x i=>match P.underlying t,bJ x,bJ i with
  |some (.array n e),some x,some i=>match mY P e,cn P e with
   |some b,some sz=>some (.idxa b n sz x i)
   |_,_=>none
  |some .string,some x,some i=>some (.idxs x i)
  |_,_,_=>none
 |.lookup t m k ok=>match P.underlying t with
  |some (.map q u)=>match Af P q,xX P u,bJ m,bJ k with
   |some r,some z,some m,some k=>some (.lookup r z m k ok)
   |_,_,_,_=>none
  |_=>none
 |.mapUpdate t m k v|.insert t m k v=>match P.underlying t with
  |some (.map q _)=>match Af P q,bJ m,bJ k,bJ v with
   |some r,some m,some k,some v=>some (.oV r m k v)
   |_,_,_,_=>none
  |_=>none
 |.typeAssert x _ asserted ok=>match P.underlying asserted,bJ x with
  |some (.interface _),some _=>none
  |some _,some x=>match xX P asserted with
   |some z=>some (.ta z x asserted ok)
   |none=>none
  |_,_=>none
 |.extract x i=>(bJ x).map λx=>.ext x i
 |.call c=>C2 P o.type c
 |.panic x=>(bJ x).map .panic
 |_=>none
def guardOf(a:Array Oper)(o:Oper):Option (Option (Nat×Bool)):=
 match o.guard with
 |none=>some none
 |some (j,want)=>match(a[j]?).bind (·.dst)with
  |some t=>some (some (t,want))
  |none=>none
def ic(rows:Bool)(a:Array Oper)(o:Oper):Option aO:=
 match kN P rows o,guardOf a o with
 |some i,some g=>some {g:=g,dst:=o.dst,i:=i}
 |_,_=>none
def kO(rows:Bool)(a:Array Oper):List Oper->Option (List aO)
 | []=>some []
 |o::os=>match ic P rows a o,kO rows a os with
  |some x,some xs=>some (x::xs)
  |_,_=>none
def kQ(o:Oper):lN:=(o.after.toList.filter (Region.binds .any)).map (·.on)
def Ag(a:lN)(n:Nat):lN->Nat
 | []=>0
 |e::es=>Nat.lor (Nat.lor (Nat.shiftLeft 1 e) (if e<n then a.getD (n-1-e) 0 else 0)) (Ag a n es)
def uo(a:Array Oper):Nat->lN
 |0=>[]
 |n+1=>Ag (uo a n) n (match a[n]? with|some o=>kQ o|none=>[])::uo a n
def gE(b:Array Oper)(_:Nat)(i:Nat):lN:=(List.range i).filter λa=>Nat.testBit ((uo b (i+1)).headD 0) a
def GY(b:Region.Mode)(a:Array Oper):lN->lN->Bool
 |_,[]=>true
 |pre,i::rest=>(match a[i]? with|some o=>o.after.toList.all (λe=>!Region.binds b e||pre.contains e.on)|none=>false)&&GY b a (i::pre) rest
def uq(c:Region.Mode)(b:Array Oper)(a:lN):Bool:=(List.range b.size).all (λi=>a.contains i)&&GY c b [] a
def rX(ys:List (aO×Nat))(a:List lN)(y:aO)(j:Nat):lN:=
 if y.i.cls=0 then[]else
 match(ys.filter λ (x,i)=>i<j&&x.i.cls>=1&& !(a.getD j []).contains i).map (·.2)with
 | []=>if y.i.cls=2 then((ys.filter λ (x,i)=>i<j&&x.i.cls=0&& !(a.getD j []).contains i).map (·.2)).take 1 else[]
 |l=>l
def Nr{ys:List (aO×Nat)}{a:List lN}{y x:aO}(c: (x,i)∈ys)(b:i<j)(f:x.i.cls≠0)(e:y.i.cls≠0)(d: (a.getD j []).contains i=false):i∈rX ys a y j:=by
 unfold rX;have hm:i∈(ys.filter λ (x,i)=>i<j&&x.i.cls>=1&& !(a.getD j []).contains i).map (·.2):=by
  simp only[ag2,air]
  grind
 grind
def anK{ys:List (aO×Nat)}{b:List lN}{y x:aO}(d: (x,i)∈ys)(c:i<j)(k:y.i.cls=2)(f: (b.getD j []).contains i=false):rX ys b y j≠[]:=by
 intro h;by_cases ci:x.i.cls=0
 ·unfold rX at h;rw[afi (by omega)]at h;split at h
  ·have hm:i∈(ys.filter λ (x,i)=>i<j&&x.i.cls=0&& !(b.getD j []).contains i).map (·.2):=by
     simp only[ag2,air]
     grind
   cases e: (ys.filter λ (x,i)=>i<j&&x.i.cls=0&& !(b.getD j []).contains i).map (·.2)with
   |nil=>grind
   |cons a g=>grind
  grind
 ·have:=Nr (y:=y) d c ci (by omega) f
  grind
def Ns(a:Array Oper)(xs:List aO):Option (List (aO×lN)):=
 let n:=xs.length
 let before:=(List.range n).map λi=>(gE a 64 i).eraseDups
 let ordered (i j:Nat):Bool:=(before.getD j []).contains i
 let ys:=xs.zipIdx
 if(uq .any a (List.range a.size)&&uq .text a (List.range a.size)&&uq .gc a (Region.linearise .gc a 0))&& (List.range n).all (λi=>match a[i]? with|some o=>(kQ o).all (· <i)|none=>false)&&
   ys.all (λ (x,i)=>ys.all λ (y,j)=>i>=j||ordered i j||jV x y)
 then some (ys.map λ (y,j)=>(y,rX ys before y j))
 else none
def eF(rows:Bool)(nt:Nat):Code->Option PC
 |.skip|.label _=>some .skip
 |.seq a b=>match eF rows nt a,eF rows nt b with
  |some a,some b=>some (.seq a b)
  |_,_=>none
 |.cond c a b=>match bJ c,eF rows nt a,eF rows nt b with
  |some c,some a,some b=>some (.cond c a b)
  |_,_,_=>none
 |.block id b=>(eF rows nt b).map (.block id)
 |.loop b=>(eF rows nt b).map .loop
 |.exit id=>some (.exit id)
 |.ret=>some .ret
 |.region _ ops draw=>match kO P rows ops ops.toList with
  |some xs=>
   if xs.all (λx=>match x.dst with|some d=>d<nt|none=>true)then
    if draw then(Ns ops xs).map .ui else some (.aL xs)
   else none
  |none=>none
 |.rangeFunc g ps assign body=>match bJ g,eF rows nt assign,eF rows nt body with
  |some g,some a,some b=>if ps.toList.all (· <nt)then some (.hZ g ps.toList a b)else none
  |_,_,_=>none
 |.scope _|.goto _|.refuse _=>none
def oX:List ResultVar->Option (List RV)
 | []=>some []
 |.tmp t::r=>(oX r).map (.t t:: ·)
 |.cell a t::r=>match mY P t,cn P t,oX r with
  |some b,some n,some rs=>some (.cell a b n::rs)
  |_,_,_=>none
def C3(rows:Bool)(fn:Func):Option PF:=
 match fn.body with
 |some c=>match eF P rows fn.ntmps c,oX P fn.results.toList with
  |some b,some rs=>if(fn.name != "runtime.NumGoroutine")then some {ntmps:=fn.ntmps,results:=rs,body:=b}else none
  |_,_=>none
 |none=>none
end
structure Gh where
 bt:Nat->Nat->Option Value
 n:Nat
 aY:Nat->Nat
 base:Nat->Nat
 aj:Nat->Nat
 dS:Nat->Nat
 sz:Nat->Nat
 pz:Nat->Option ae:=λ_=>none
def Gh.on(G:Gh)(i:Nat):Prop:=i<G.n/\G.pz i=none
def leaf:Value->Bool
 |.agg _=>false
 |.tuple _=>false
 |_=>true
def mZ(G:Gh)(b o:Nat)(vs:List Value):Prop:= ∀j v,vs[j]?=some v->G.bt b (o+j)=some v
def Leaves(vs:List Value):Prop:= ∀v∈vs,leaf v=true
def kR(G:Gh):Fn->Fn->Prop
 |.yield l,f=>G.on l/\ (∃k,f= .yield k/\ (G.aj l=0->k=G.aY l))
 |g,f=>f=g
mutual
def an(G:Gh):AV->Value->Prop
 |.bool b,v=>v= .bool b
 |.int k n,v=>v= .int k n
 |.str s,v=>v= .string s
 |.agg cs,v=> ∃vs:Array Value,v= .agg vs/\aD G cs vs.toList/\Leaves vs.toList
 |.au cs,v=> ∃vs:Array Value,v= .tuple vs/\aD G cs vs.toList
 |.dY,v=>v= .pointer none
 |.ptr id off,v=>G.on id/\ ∃a,v= .pointer (some a)/\ (G.aj id=0->a=⟨G.aY id,off,none⟩)
 |.dp id aj i off,v=>G.on id/\aj<=G.aj id/\ ∃a,v= .pointer (some a)/\ (G.aj id=aj->a=⟨G.aY id,G.base id+i*G.sz id+off,none⟩)
 |.eL cs off,v=> ∃b o vs,v= .pointer (some ⟨b,o+off,none⟩)/\mZ G b o vs/\Leaves vs/\aD G cs vs
 |.df g,v=>v= .pointer (some ⟨g,0,none⟩)
 |.ai,v=>v= .slice none 0 0
 |.sl af cy,v=> ∃b o cap sz vs,v= .slice (some ⟨b,o,none⟩) af.length cap/\af.length<=cap/\ (cy=true->cap=af.length)/\ (∀el∈af,el.length=sz)/\mZ G b o vs/\Leaves vs/\bp G af vs
 |.ref id aj sz off len cy,v=>G.on id/\aj<=G.aj id/\ ∃a cap,v= .slice (some a) len cap/\ (len<=cap/\a.spot=none)/\ (cy=true->cap=len)/\
   (G.aj id=aj->G.sz id=sz/\ (0<cap->a=⟨G.aY id,G.base id+off*sz,none⟩)/\off*sz+cap*sz<=G.dS id)
 |.eZ id _ off len,v=>G.on id/\ ∃a cap,v= .slice (some a) len cap/\len<=cap/\ (G.aj id=0->0<cap->a=⟨G.aY id,off,none⟩)
 |.mc,v=>v= .map none
 |.iY g,v=>(∃r,v= .map (some r))/\G.bt g 0=some v
 |.mp id,v=>G.on id/\ ∃r,v= .map (some r)/\ (G.aj id=0->r=G.aY id)
 |.fn f a b,v=> ∃ (c:Fn) (a' d:Array Value),v= .func c a' d/\kR G f c/\aD G a a'.toList/\aD G b d.toList
 |.cJ,v=>v= .nilFunc
 |.c9 t x,v=> ∃y,v= .iface t y/\an G x y
 |.ew,v=>v= .nilIface
 |.iB,_=>False
def aD(G:Gh):List AV->List Value->Prop
 | [],vs=>vs=[]
 |a::as,vs=> ∃v r,vs=v::r/\an G a v/\aD G as r
def bp(G:Gh):List (List AV)->List Value->Prop
 | [],vs=>vs=[]
 |a::as,vs=> ∃v r,vs=v++r/\aD G a v/\bp G as r
end
structure Gh.sub(G G':Gh):Prop where
 bt: ∀b o v,G.bt b o=some v->G'.bt b o=some v
 n:G.n<=G'.n
 on: ∀i,G.on i->G'.on i
 aj: ∀i,G.on i->G.aj i<=G'.aj i
 same: ∀i,G.on i->G'.aj i=G.aj i->G'.aY i=G.aY i/\G'.base i=G.base i/\G'.dS i=G.dS i/\G'.sz i=G.sz i
structure Gh.le(G G':Gh):Prop extends toSub:Gh.sub G G' where
 pz: ∀i,i<G.n->G'.pz i=G.pz i
theorem Gh.le.mk'{G a:Gh}(bt: ∀b o v,G.bt b o=some v->a.bt b o=some v)(n:G.n<=a.n)(pz: ∀i,i<G.n->a.pz i=G.pz i)(aj: ∀i,i<G.n->G.aj i<=a.aj i)
  (same: ∀i,i<G.n->a.aj i=G.aj i->a.aY i=G.aY i/\a.base i=G.base i/\a.dS i=G.dS i/\a.sz i=G.sz i):G.le a:=
 {bt:=bt,n:=n,pz:=pz,on:=λi h=>⟨alR h.1 n,by rw[pz i h.1];exact h.2⟩,aj:=λi h=>aj i h.1,same:=λi h=>same i h.1}
theorem Gh.anL(G:Gh):G.sub G:=⟨λ_ _ _ h=>h,agW _,λ_ h=>h,λ_ _=>agW _,λ_ _ _=>⟨rfl,rfl,rfl,rfl⟩⟩
theorem Gh.le_refl(G:Gh):G.le G:={G.anL with pz:=λ_ _=>rfl}
def Gh.Xi{f c d:Gh}(h:f.sub c)(k:c.sub d):f.sub d where
 bt b o v e:=k.bt b o v (h.bt b o v e)
 n:=ajR h.n k.n
 on i g:=k.on i (h.on i g)
 aj i g:=ajR (h.aj i g) (k.aj i (h.on i g))
 same i g e:=by
  have a:=h.aj i g;have b:=k.aj i (h.on i g);have e1:c.aj i=f.aj i:=by omega
  have j:d.aj i=c.aj i:=by omega
  obtain⟨u,t,s,r⟩:=h.same i g e1;obtain⟨q,p,m,l⟩:=k.same i (h.on i g) j;omega
theorem Gh.le_trans{c b a:Gh}(h:c.le b)(k:b.le a):c.le a:=
 {Gh.Xi h.toSub k.toSub with pz:=λi d=>(k.pz i (alR d h.n)).trans (h.pz i d)}
theorem mZ.de{G a:Gh}(h:G.sub a){o:Nat}(f:mZ G b o vs):mZ a b o vs:=λj v e=>h.bt _ _ _ (f j v e)
def kR.de{G b:Gh}(h:G.sub b){f g:Fn}(r:kR G f g):kR b f g:=by
 cases f<;>simp only[kR]at* <;>try exact r
 obtain⟨a,k,e,c⟩:=r;refine⟨h.on _ a,k,e,λi=>?_⟩;have d:=h.aj _ a;rw[(h.same _ a (by omega)).1];omega
mutual
theorem an.de{G z:Gh}(h:G.sub z): ∀ (x:AV) (v:Value),an G x v->an z x v
 |.bool _,_,r=>by simpa[an]using r
 |.int _ _,_,r=>by simpa[an]using r
 |.str _,_,r=>by simpa[an]using r
 |.agg cs,_,r=>by
  simp only[an]at*;obtain⟨vs,e,l,d⟩:=r;exact⟨vs,e,aD.de h cs _ l,d⟩
 |.au cs,_,r=>by
  simp only[an]at*;obtain⟨vs,e,l⟩:=r;exact⟨vs,e,aD.de h cs _ l⟩
 |.dY,_,r=>by simpa[an]using r
 |.ptr id off,_,r=>by
  simp only[an]at*;obtain⟨a,x,e,c⟩:=r;refine⟨h.on _ a,x,e,λn=>?_⟩;have m:=h.aj id a;rw[(h.same id a (by omega)).1];exact c (by omega)
 |.dp id aj i off,_,r=>by
  simp only[an]at*;obtain⟨a,b,x,e,c⟩:=r;have m:=h.aj id a;refine⟨h.on _ a,by omega,x,e,λn=>?_⟩;obtain⟨s,q,w,p⟩:=h.same id a (by omega);rw[s,q,p];exact c (by omega)
 |.eL cs off,_,r=>by
  simp only[an]at*;obtain⟨b,o,vs,e,f,d,l⟩:=r;exact⟨b,o,vs,e,f.de h,d,aD.de h cs _ l⟩
 |.df _,_,r=>by simpa[an]using r
 |.ai,_,r=>by simpa[an]using r
 |.sl af cy,_,r=>by
  simp only[an]at*;obtain⟨b,o,cap,sz,vs,e,k,j,u,f,d,l⟩:=r;exact⟨b,o,cap,sz,vs,e,k,j,u,f.de h,d,bp.de h af _ l⟩
 |.ref id aj sz off len cy,_,r=>by
  simp only[an]at*;obtain⟨a,b,x,cap,e,k,j,u⟩:=r;have m:=h.aj id a;refine⟨h.on _ a,by omega,x,cap,e,k,j,λn=>?_⟩;obtain⟨s,q,w,p⟩:=h.same id a (by omega);rw[s,q,w,p];exact u (by omega)
 |.eZ id sz off len,_,r=>by
  simp only[an]at*;obtain⟨a,x,cap,e,k,j⟩:=r;have m:=h.aj id a;refine⟨h.on _ a,x,cap,e,k,λn D=>?_⟩;rw[(h.same id a (by omega)).1];exact j (by omega) D
 |.mc,_,r=>by simpa[an]using r
 |.iY g,_,r=>by
  simp only[an]at*;exact⟨r.1,h.bt _ _ _ r.2⟩
 |.mp id,_,r=>by
  simp only[an]at*;obtain⟨a,x,e,c⟩:=r;have m:=h.aj id a;refine⟨h.on _ a,x,e,λn=>?_⟩;rw[(h.same id a (by omega)).1];exact c (by omega)
 |.fn f a b,_,r=>by
  simp only[an]at*;obtain⟨E,a',F,e,A,C,B⟩:=r;exact⟨E,a',F,e,A.de h,aD.de h a _ C,aD.de h b _ B⟩
 |.cJ,_,r=>by simpa[an]using r
 |.c9 t x,_,r=>by
  simp only[an]at*;obtain⟨y,e,l⟩:=r;exact⟨y,e,an.de h x _ l⟩
 |.ew,_,r=>by simpa[an]using r
 |.iB,_,r=>by simp[an]at r
theorem aD.de{G b:Gh}(h:G.sub b): ∀ (xs:List AV) (vs:List Value),aD G xs vs->aD b xs vs
 | [],_,r=>by simpa[aD]using r
 |a::as,_,r=>by
  simp only[aD]at*;obtain⟨v,q,e,d,c⟩:=r;exact⟨v,q,e,an.de h a _ d,aD.de h as _ c⟩
theorem bp.de{G b:Gh}(h:G.sub b): ∀ (xs:List (List AV)) (vs:List Value),bp G xs vs->bp b xs vs
 | [],_,r=>by simpa[bp]using r
 |a::as,_,r=>by
  simp only[bp]at*;obtain⟨v,q,e,d,c⟩:=r;exact⟨v,q,e,aD.de h a _ d,bp.de h as _ c⟩
end
theorem mZ.mono{G a:Gh}(h:G.le a){o:Nat}(f:mZ G b o vs):mZ a b o vs:=f.de h.toSub
theorem kR.mono{G a:Gh}(h:G.le a){f g:Fn}(r:kR G f g):kR a f g:=r.de h.toSub
theorem an.mono{G a:Gh}(h:G.le a)(x:AV)(v:Value)(r:an G x v):an a x v:=an.de h.toSub x v r
theorem aD.mono{G a:Gh}(h:G.le a)(xs:List AV)(vs:List Value)(r:aD G xs vs):aD a xs vs:=aD.de h.toSub xs vs r
theorem bp.mono{G a:Gh}(h:G.le a)(xs:List (List AV))(vs:List Value)(r:bp G xs vs):bp a xs vs:=bp.de h.toSub xs vs r
theorem aD.length{G:Gh}: ∀ {xs:List AV} {vs:List Value},aD G xs vs->vs.length=xs.length
 | [],_,r=>by simp only[aD]at r;simp[r]
 |_::as,_,r=>by
  obtain⟨v,q,rfl,_,a⟩:=r;simp[aD.length a]
theorem aD.get{G:Gh}: ∀ {xs:List AV} {vs:List Value},aD G xs vs-> ∀ (j:Nat) (x:AV),xs[j]?=some x-> ∃v,vs[j]?=some v/\an G x v
 | [],_,_,_,_,e=>by grind
 |a::as,_,r,j,x,e=>by
  obtain⟨v,q,rfl,d,b⟩:=r;cases j with
  |zero=>grind
  |succ j=>obtain⟨u,hu,c⟩:=aD.get b j x e;grind
theorem aD.Nt{G:Gh}: ∀ {xs:List AV} {vs:List Value},vs.length=xs.length->(∀ (j:Nat) (x:AV) (v:Value),xs[j]?=some x->vs[j]?=some v->an G x v)->aD G xs vs
 | [],vs,b,_=>by cases vs<;>simp_all[aD]
 |a::as,vs,b,h=>by
  cases vs with
  |nil=>grind
  |cons v vs=>
   refine⟨v,vs,rfl,h 0 a v (by simp) (by simp),aD.Nt (by grind) λj x u c hu=>h (j+1) x u (by grind) (by grind)⟩
theorem aD.append{G:Gh}: ∀ {xs ys:List AV} {vs us:List Value},aD G xs vs->aD G ys us->aD G (xs++ys) (vs++us)
 | [],_,_,_,r,k=>by simp only[aD]at r;grind
 |a::as,_,_,_,r,k=>by
  obtain⟨v,q,rfl,c,b⟩:=r;exact⟨v,q++_,rfl,c,aD.append b k⟩
theorem aD.split{G:Gh}: ∀ {xs ys:List AV} {vs:List Value},aD G (xs++ys) vs-> ∃v1 v2,vs=v1++v2/\aD G xs v1/\aD G ys v2
 | [],_,vs,r=>⟨[],vs,rfl,by rfl,r⟩
 |a::as,_,_,r=>by
  obtain⟨v,q,rfl,e,d⟩:=r;obtain⟨v1,v2,rfl,c,b⟩:=aD.split d;exact⟨v::v1,v2,rfl,⟨v,v1,rfl,e,c⟩,b⟩
theorem aD.take{G:Gh}{xs:List AV}(r:aD G xs vs)(n:Nat):aD G (xs.take n) (vs.take n):=
 .Nt (by simp[r.length]) λj x v a b=>by
  rw[aoL]at a b;split at a
  ·obtain⟨u,hu,c⟩:=r.get j x a
   grind
  grind
theorem aD.drop{G:Gh}{xs:List AV}(r:aD G xs vs)(n:Nat):aD G (xs.drop n) (vs.drop n):=
 .Nt (by simp[r.length]) λj x v a b=>by
  rw[anp]at a b;obtain⟨u,hu,c⟩:=r.get _ x a
  grind
theorem bp.iff{G:Gh}: ∀ {af:List (List AV)} {vs:List Value},bp G af vs↔aD G af.flatten vs
 | [],_=>by rfl
 |a::as,vs=>by
  constructor
  ·rintro⟨v,r,rfl,e,d⟩;exact e.append (bp.iff.1 d)
  ·intro h;obtain⟨v1,v2,rfl,c,b⟩:=aD.split h;exact⟨v1,v2,rfl,c,bp.iff.2 b⟩
def aD.single{G:Gh}{x:AV}:aD G [x] [v]↔an G x v:=by simp[aD]
theorem Leaves.append{a b:List Value}(h:Leaves a)(k:Leaves b):Leaves (a++b):=λv c=>(agT.1 c).elim (h v) (k v)
theorem Leaves.take{a:List Value}(h:Leaves a)(n:Nat):Leaves (a.take n):=λv b=>h v (alP b)
theorem Leaves.drop{a:List Value}(h:Leaves a)(n:Nat):Leaves (a.drop n):=λv b=>h v (ap0 b)
theorem Leaves.get{a:List Value}(h:Leaves a)(e:a[j]?=some v):leaf v=true:=h v (am9 e)
theorem an.cells{G:Gh}{x:AV}(r:an G x v)(h:x.cb=false):aD G x.cells v.cells.toList/\Leaves v.cells.toList:=by
 cases x<;>simp[AV.cb]at h<;>simp only[AV.cells]
 case agg cs=>
  obtain⟨vs,rfl,l,b⟩:=r;exact⟨l,b⟩
 all_goals
  have a:=r;simp only[an]at r
  first
   |rfl
   | (obtain⟨_,_,rfl,_⟩:=r;exact⟨aD.single.2 a,by simp[Leaves,Value.cells,leaf]⟩)
   | (obtain⟨_,rfl,_⟩:=r;exact⟨aD.single.2 a,by simp[Leaves,Value.cells,leaf]⟩)
   | (obtain⟨_,_,_,rfl,_⟩:=r;exact⟨aD.single.2 a,by simp[Leaves,Value.cells,leaf]⟩)
   | (obtain⟨_,_,_,_,rfl,_⟩:=r;exact⟨aD.single.2 a,by simp[Leaves,Value.cells,leaf]⟩)
   | (obtain⟨_,_,_,_,_,rfl,_⟩:=r;exact⟨aD.single.2 a,by simp[Leaves,Value.cells,leaf]⟩)
   | (obtain⟨⟨_,rfl⟩,_⟩:=r;exact⟨aD.single.2 a,by simp[Leaves,Value.cells,leaf]⟩)
mutual
theorem an.refs{G:Gh}: ∀ (x:AV) (v:Value),an G x v->x.refs<=G.n
 |.bool _,_,_|.int _ _,_,_|.str _,_,_|.dY,_,_|.df _,_,_|.ai,_,_|.mc,_,_|.iY _,_,_|.cJ,_,_|.ew,_,_|.iB,_,_=>by simp[AV.refs]
 |.agg cs,_,r=>by simp only[an]at r;obtain⟨vs,_,l,_⟩:=r;simp only[AV.refs];exact aD.refs cs _ l
 |.au cs,_,r=>by simp only[an]at r;obtain⟨vs,_,l⟩:=r;simp only[AV.refs];exact aD.refs cs _ l
 |.ptr id off,_,r=>by simp only[an]at r;have:=r.1.1;simp only[AV.refs];omega
 |.dp id aj i off,_,r=>by simp only[an]at r;have:=r.1.1;simp only[AV.refs];omega
 |.ref id aj sz off len cy,_,r=>by simp only[an]at r;have:=r.1.1;simp only[AV.refs];omega
 |.eZ id sz off len,_,r=>by simp only[an]at r;have:=r.1.1;simp only[AV.refs];omega
 |.mp id,_,r=>by simp only[an]at r;have:=r.1.1;simp only[AV.refs];omega
 |.eL cs off,_,r=>by simp only[an]at r;obtain⟨b,o,vs,_,_,_,l⟩:=r;simp only[AV.refs];exact aD.refs cs _ l
 |.sl af cy,_,r=>by simp only[an]at r;obtain⟨b,o,cap,sz,vs,_,_,_,_,_,_,l⟩:=r;simp only[AV.refs];exact bp.refs af _ l
 |.fn f a b,_,r=>by
  simp only[an]at r;obtain⟨j,a',k,_,c,e,d⟩:=r;have h:=aD.refs a _ e;have g:=aD.refs b _ d;simp only[AV.refs];cases f<;>simp only[kR]at c<;>simp only<;>first|omega| (have:=c.1.1;omega)
 |.c9 t x,_,r=>by simp only[an]at r;obtain⟨y,_,l⟩:=r;simp only[AV.refs];exact an.refs x _ l
theorem aD.refs{G:Gh}: ∀ (xs:List AV) (vs:List Value),aD G xs vs->aG xs<=G.n
 | [],_,_=>by simp[aG]
 |a::as,_,r=>by
  simp only[aD]at r;obtain⟨v,q,_,c,b⟩:=r;have:=an.refs a _ c;have:=aD.refs as _ b;simp only[aG];omega
theorem bp.refs{G:Gh}: ∀ (xs:List (List AV)) (vs:List Value),bp G xs vs->b8 xs<=G.n
 | [],_,_=>by simp[b8]
 |a::as,_,r=>by
  simp only[bp]at r;obtain⟨v,q,_,c,b⟩:=r;have:=aD.refs a _ c;have:=bp.refs as _ b;simp only[b8];omega
end
structure Gh.dM(m:Nat)(G G':Gh):Prop where
 bt: ∀b o v,G.bt b o=some v->G'.bt b o=some v
 n:m<=G'.n
 pz: ∀i,i<m->G'.pz i=G.pz i
 aj: ∀i,i<m->G'.aj i=G.aj i
 aY: ∀i,i<m->G'.aY i=G.aY i
 base: ∀i,i<m->G'.base i=G.base i
 dS: ∀i,i<m->G'.dS i=G.dS i
 sz: ∀i,i<m->G'.sz i=G.sz i
mutual
theorem an.dM{m:Nat}{G n:Gh}(h:G.dM m n): ∀ (x:AV) (v:Value),an G x v->x.refs<=m->an n x v
 |.bool _,_,r,_|.int _ _,_,r,_|.str _,_,r,_|.dY,_,r,_|.df _,_,r,_|.ai,_,r,_|.mc,_,r,_|.cJ,_,r,_|.ew,_,r,_=>by simpa[an]using r
 |.iB,_,r,_=>by simp[an]at r
 |.iY g,_,r,_=>by
  simp only[an]at*;exact⟨r.1,h.bt _ _ _ r.2⟩
 |.agg cs,_,r,hm=>by
  simp only[an,AV.refs]at*;obtain⟨vs,e,l,c⟩:=r;exact⟨vs,e,aD.dM h cs _ l hm,c⟩
 |.au cs,_,r,hm=>by
  simp only[an,AV.refs]at*;obtain⟨vs,e,l⟩:=r;exact⟨vs,e,aD.dM h cs _ l hm⟩
 |.ptr id off,_,r,hm=>by
  simp only[an,AV.refs]at*;rw[h.aj id (by omega),h.aY id (by omega)];exact⟨⟨alR (by omega) h.n,by rw[h.pz id (by omega)];exact r.1.2⟩,r.2⟩
 |.dp id aj i off,_,r,hm=>by
  simp only[an,AV.refs]at*;rw[h.aj id (by omega),h.aY id (by omega),h.base id (by omega),h.sz id (by omega)];exact⟨⟨alR (by omega) h.n,by rw[h.pz id (by omega)];exact r.1.2⟩,r.2⟩
 |.eL cs off,_,r,hm=>by
  simp only[an,AV.refs]at*;obtain⟨b,o,vs,e,f,c,l⟩:=r;exact⟨b,o,vs,e,λj v d=>h.bt _ _ _ (f j v d),c,aD.dM h cs _ l hm⟩
 |.sl af cy,_,r,hm=>by
  simp only[an,AV.refs]at*;obtain⟨b,o,cap,sz,vs,e,z,w,u,f,c,l⟩:=r;exact⟨b,o,cap,sz,vs,e,z,w,u,λj v d=>h.bt _ _ _ (f j v d),c,bp.dM h af _ l hm⟩
 |.ref id aj sz off len cy,_,r,hm=>by
  simp only[an,AV.refs]at*;rw[h.aj id (by omega),h.aY id (by omega),h.base id (by omega),h.sz id (by omega),h.dS id (by omega)];exact⟨⟨alR (by omega) h.n,by rw[h.pz id (by omega)];exact r.1.2⟩,r.2⟩
 |.eZ id sz off len,_,r,hm=>by
  simp only[an,AV.refs]at*;rw[h.aj id (by omega),h.aY id (by omega)];exact⟨⟨alR (by omega) h.n,by rw[h.pz id (by omega)];exact r.1.2⟩,r.2⟩
 |.mp id,_,r,hm=>by
  simp only[an,AV.refs]at*;rw[h.aj id (by omega),h.aY id (by omega)];exact⟨⟨alR (by omega) h.n,by rw[h.pz id (by omega)];exact r.1.2⟩,r.2⟩
 |.fn f a b,_,r,hm=>by
  simp only[an,AV.refs]at*;obtain⟨s,a',A,e,k,q,p⟩:=r;refine⟨s,a',A,e,?_,aD.dM h a _ q (by omega),aD.dM h b _ p (by omega)⟩;cases f<;>simp only[kR]at* <;>try exact k
  rename_i l;rw[h.aj l (by omega),h.aY l (by omega)];exact⟨⟨alR (by omega) h.n,by rw[h.pz l (by omega)];exact k.1.2⟩,k.2⟩
 |.c9 t x,_,r,hm=>by
  simp only[an,AV.refs]at*;obtain⟨y,e,l⟩:=r;exact⟨y,e,an.dM h x _ l hm⟩
theorem aD.dM{m:Nat}{G b:Gh}(h:G.dM m b): ∀ (xs:List AV) (vs:List Value),aD G xs vs->aG xs<=m->aD b xs vs
 | [],_,r,_=>by simpa[aD]using r
 |a::as,_,r,hm=>by
  simp only[aD,aG]at*;obtain⟨v,q,e,d,c⟩:=r;exact⟨v,q,e,an.dM h a _ d (by omega),aD.dM h as _ c (by omega)⟩
theorem bp.dM{m:Nat}{G b:Gh}(h:G.dM m b): ∀ (xs:List (List AV)) (vs:List Value),bp G xs vs->b8 xs<=m->bp b xs vs
 | [],_,r,_=>by simpa[bp]using r
 |a::as,_,r,hm=>by
  simp only[bp,b8]at*;obtain⟨v,q,e,d,c⟩:=r;exact⟨v,q,e,aD.dM h a _ d (by omega),bp.dM h as _ c (by omega)⟩
end
def ae.le(n:Nat):ae->Prop
 |.box cs _=>aG cs<=n
 |.row _ _ _ af=>b8 af<=n
 |.map es=> ∀p∈es,p.2.refs<=n
 |.loop _ _ _ env _ _ _=> ∀t,(env t).refs<=n
 |_=>True
theorem ae.le.mono{n a:Nat}(h:n<=a): ∀ {o:ae},o.le n->o.le a
 |.box _ _,r=>ajR r h
 |.row _ _ _ _,r=>ajR r h
 |.map _,r=>λp b=>ajR (r p b) h
 |.loop _ _ _ _ _ _ _,r=>λt=>ajR (r t) h
 |.bD,_|.dead,_=>trivial
def xZ:Option PC->Option Code->Prop
 |none,c=>c=none
 |some .ret,c=>c=some .ret
 |some (.exit id),c=>c=some (.exit id)
 |_,_=>False
structure cD(G:Gh)(nt:Nat)(e:Env)(tmps:Array Value):Prop where
 size:tmps.size=nt
 get: ∀t v,tmps[t]?=some v->an G (e t) v
 out: ∀t,nt<=t->e t= .undef
theorem cD.refs{G:Gh}{e:Env}{a:Array Value}(h:cD G nt e a)(t:Nat): (e t).refs<=G.n:=by
 by_cases b:t<nt
 ·have:t<a.size:=by rw[h.size];exact b
  exact an.refs _ _ (h.get t a[t] (by simp))
 ·rw[h.out t (by omega)];simp[AV.refs,aG]
theorem cD.de{G b:Gh}(h:G.sub b){e:Env}{a:Array Value}(r:cD G nt e a):cD b nt e a:=
 ⟨r.size,λt v c=>(r.get t v c).de h,r.out⟩
theorem cD.mono{G b:Gh}(h:G.le b){e:Env}{a:Array Value}(r:cD G nt e a):cD b nt e a:=r.de h.toSub
theorem cD.dM{G b:Gh}(h:G.dM m b){e:Env}{a:Array Value}(r:cD G nt e a)(d: ∀t,(e t).refs<=m):cD b nt e a:=
 ⟨r.size,λt v c=>(r.get t v c).dM h _ _ (d t),r.out⟩
def eN(G:Gh):List (AV×AV)->List MapEntry->Prop
 | [],ms=>ms=[]
 | (k,v)::es,ms=> ∃m r,ms=m::r/\isKey k=true/\an G k m.key/\an G v m.val/\eN G es r
theorem eN.de{G a:Gh}(h:G.sub a): ∀ {es:List (AV×AV)} {ms:List MapEntry},eN G es ms->eN a es ms
 | [],_,r=>by trivial
 | (k,v)::es,_,r=>by
   obtain⟨m,q,e,f,d,c,b⟩:=r;exact⟨m,q,e,f,d.de h,c.de h,b.de h⟩
theorem eN.mono{G b:Gh}(h:G.le b){es:List (AV×AV)}{a:List MapEntry}(r:eN G es a):eN b es a:=r.de h.toSub
def anM{k:AV}(h:isKey k=true):k.refs=0:=by cases k<;>simp[isKey]at h<;>simp[AV.refs]
theorem eN.dM{m:Nat}{G b:Gh}(h:G.dM m b): ∀ {es:List (AV×AV)} {ms:List MapEntry},eN G es ms->(∀p∈es,p.2.refs<=m)->eN b es ms
 | [],_,r,_=>by trivial
 | (k,v)::es,_,r,hm=>by
   obtain⟨e,q,he,a,f,d,c⟩:=r;exact⟨e,q,he,a,f.dM h _ _ (by simp[anM a]),d.dM h _ _ (hm (k,v) (by simp)),c.dM h λp g=>hm p (by grind)⟩
def an.aCp{G:Gh}{id off:Nat}(r:an G (.ptr id off) v):G.pz id=none:=by exact r.1.2
def an.aCq{G:Gh}{id off:Nat}(r:an G (.dp id aj i off) v):G.pz id=none:=by exact r.1.2
def an.Nu{G:Gh}{id off len:Nat}{c:Bool}(r:an G (.ref id aj sz off len c) v):G.pz id=none:=by exact r.1.2
def an.anN{G:Gh}{id off len:Nat}(r:an G (.eZ id sz off len) v):G.pz id=none:=by exact r.1.2
def an.GZ{G:Gh}{id:Nat}(r:an G (.mp id) v):G.pz id=none:=by exact r.1.2
variable(P:Program)
def ie(G:Gh)(id:Nat)(w:World):ae->Prop
 |.box cs tg=>G.aj id=0/\ ∃ (c:Array Value) (ty:TypeId),w.heap[G.aY id]?=some (.cells c ty (0,0))/\aD G cs c.toList/\Leaves c.toList/\ ∀t,tg=some t->ty=t
 |.row aj sz ty af=>G.aj id=aj/\G.sz id=sz/\ (∀el∈af,el.length=sz)/\ ∃ (c:Array Value) (pre vs post:List Value),w.heap[G.aY id]?=some (.cells c ty (0,0))/\
   c.toList=pre++(vs++post)/\pre.length=G.base id/\c.size=G.base id+G.dS id/\bp G af vs/\Leaves vs
 |.map es=>G.aj id=0/\ ∃ms clock,w.heap[G.aY id]?=some (.map ms clock)/\eN G es ms.toList
 |.loop st a fn env ps as bd=>G.aj id=0/\ ∃L:Loop,w.heap[G.aY id]?=some (.loop L)/\L.state=st/\xZ a L.pending/\True/\cD G L.tmps.size env L.tmps/\L.params.toList=ps/\
   ps.all (· <L.tmps.size)=true/\ ∃rows,eF P rows L.tmps.size L.assign=some as/\eF P rows L.tmps.size L.body=some bd
 |.bD=>G.aj id=0/\w.heap[G.aY id]?=some (.deferred (some []))
 |.dead=>True
structure aU(B:Nat)(av:World)(G:Gh)(E:AS)(w:World):Prop where
 len:G.n=E.heap.length
 bt: ∀b o v,G.bt b o=some v->w.cell? ⟨b,o,none⟩=some v
 obj: ∀ (id:Nat) (o:ae),E.heap[id]?=some o->G.pz id=none->ie P G id w o
 inj: ∀i j,G.on i->G.on j->G.aY i=G.aY j->i=j
 sep: ∀i,G.on i-> ∀o,G.bt (G.aY i) o=none
 low: ∀i,G.on i->B<=G.aY i/\G.aY i<w.heap.size
 lJ:Below B av w
 hB:B<=w.heap.size
 lK: ∀id o,id<G.n->G.pz id=some o->E.heap[id]?=some o/\ ∃z tg,o= .box z tg/\aG z=0
 dA: ∀b o v,b<B->av.cell? ⟨b,o,none⟩=some v->G.bt b o=some v
def aU.x0{B:Nat}{a:World}{G:Gh}{E:AS}(h:aU P B a G E w){o:Nat}(e:G.bt b o=some v):b<w.heap.size:=by
 have:=h.bt b o v e;simp only[World.cell?]at this
 grind
variable{P}
theorem eN.refs{G:Gh}: ∀ {es:List (AV×AV)} {ms:List MapEntry},eN G es ms-> ∀p∈es,p.2.refs<=G.n
 | [],_,_,_,a=>by grind
 | (k,v)::es,_,r,p,a=>by
   obtain⟨m,q,_,_,_,c,b⟩:=r;rcases aiK.1 a with rfl|a
   ·exact an.refs _ _ c
   ·exact eN.refs b p a
theorem ie.le{G:Gh}{id:Nat}{w:World}: ∀ {o:ae},ie P G id w o->o.le G.n
 |.box _ _,r=>by obtain⟨_,c,ty,_,l,_⟩:=r;exact aD.refs _ _ l
 |.row _ _ _ _,r=>by obtain⟨_,_,_,c,pre,vs,post,_,_,_,_,l,_⟩:=r;exact bp.refs _ _ l
 |.map es,r=>by obtain⟨_,ms,clock,_,l⟩:=r;exact l.refs
 |.loop _ _ _ _ _ _ _,r=>by obtain⟨_,L,_,_,_,_,he,_⟩:=r;exactλt=>he.refs t
 |.bD,_|.dead,_=>trivial
def aU.anO{B:Nat}{a:World}{G:Gh}{E:AS}(h:aU P B a G E w){id:Nat}{o:ae}(e:E.heap[id]?=some o):o.le G.n:=by
 cases c:G.pz id with
 |none=>exact(h.obj id o e c).le
 |some o'=>
  obtain⟨b,z,tg,rfl,d⟩:=h.lK id o' (by rw[h.len];grind) c;rw[e]at b;cases b;simp only[ae.le,d];omega
theorem ie.de{G d:Gh}(h:G.sub d){id:Nat}(j:G.on id)(g:d.aj id=G.aj id)(i:w'.heap[G.aY id]?=w.heap[G.aY id]?): ∀ {o:ae},ie P G id w o->ie P d id w' o:=by
 obtain⟨k,x,v,u⟩:=h.same id j g;intro o r;cases o with
 |box cs tg=>
  obtain⟨b,c,ty,e,l,a⟩:=r;exact⟨by omega,c,ty,by grind,l.de h,a⟩
 |row aj sz ty af=>
  obtain⟨b,e1,hu,c,pre,vs,post,e,m,e3,y,l,a⟩:=r;exact⟨by omega,by omega,hu,c,pre,vs,post,by grind,m,by omega,by omega,l.de h,a⟩
 |map es=>
  obtain⟨b,ms,clock,e,l⟩:=r;exact⟨by omega,ms,clock,by grind,l.de h⟩
 |loop st f fn env ps as bd=>
  obtain⟨b,L,e,t,s,q,p,n⟩:=r;exact⟨by omega,L,by grind,t,s,q,p.de h,n⟩
 |bD=>exact⟨by rw[g];exact r.1,by rw[k,i];exact r.2⟩
 |dead=>trivial
theorem ie.mono{G a:Gh}(h:G.le a){id:Nat}(d:G.on id)(c:a.aj id=G.aj id)(b:w'.heap[G.aY id]?=w.heap[G.aY id]?){o:ae}(r:ie P G id w o):ie P a id w' o:=r.de h.toSub d c b
theorem ie.dM{G g:Gh}(h:G.dM m g){id:Nat}(a:id<m)(i:w'.heap[G.aY id]?=w.heap[G.aY id]?): ∀ {o:ae},ie P G id w o->o.le m->ie P g id w' o:=by
 have k:=h.aY id a;have y:=h.base id a;have x:=h.dS id a;have v:=h.sz id a;have j:=h.aj id a;intro o r hm;cases o with
 |box cs tg=>
  obtain⟨d,c,ty,e,l,b⟩:=r;exact⟨by omega,c,ty,by grind,aD.dM h _ _ l hm,b⟩
 |row aj sz ty af=>
  obtain⟨d,e1,hu,c,pre,vs,post,e,n,e3,z,l,b⟩:=r;exact⟨by omega,by omega,hu,c,pre,vs,post,by grind,n,by omega,by omega,bp.dM h _ _ l hm,b⟩
 |map es=>
  obtain⟨d,ms,clock,e,l⟩:=r;exact⟨by omega,ms,clock,by grind,l.dM h hm⟩
 |loop st f fn env ps as bd=>
  obtain⟨d,L,e,u,t,s,q,p⟩:=r;exact⟨by omega,L,by grind,u,t,s,q.dM h hm,p⟩
 |bD=>exact⟨by rw[j];exact r.1,by rw[k,i];exact r.2⟩
 |dead=>trivial
section
def Ah(lo:oN)(j:Nat):Prop:= ∃l,lo=some l/\l<=j
structure AS.Ext(E E':AS):Prop where
 len:E.heap.length<=E'.heap.length
 lo: ∀j,Ah E.lo j->Ah E'.lo j
 obj: ∀ (j:Nat) (o:ae),E.heap[j]?=some o-> ∃o',E'.heap[j]?=some o'/\ ((∀n,o.le n->o'.le (max n (j+1)))\/Ah E'.lo j)
theorem AS.Ext.refl(E:AS):E.Ext E:=⟨agW _,λ_ h=>h,λ_ o h=>⟨o,h,.inl λ_ k=>k.mono (by omega)⟩⟩
def AS.Ext.trans{a b c:AS}(h:a.Ext b)(k:b.Ext c):a.Ext c where
 len:=ajR h.len k.len
 lo j x:=k.lo j (h.lo j x)
 obj j o e:=by
  obtain⟨i,m,d⟩:=h.obj j o e;obtain⟨g,l,f⟩:=k.obj j i m;refine⟨g,l,?_⟩;rcases f with f|f
  ·rcases d with d|d
   ·grind
   ·exact .inr (k.lo j d)
  grind
theorem AS.Ext.push(E:AS)(o:ae):E.Ext (E.push o)where
 len:=by simp[AS.push]
 lo _ h:=h
 obj j x e:=⟨x,by
  have:j<E.heap.length:=(aeA.1 e).1;simp[AS.push,aez this,e],.inl λ_ k=>k.mono (by omega)⟩
def Ai{lo:oN}{id:Nat}(h:Ah lo j\/id<=j):Ah (cC lo id) j:=by
 cases lo with
 |none=>
  rcases h with⟨l,e,_⟩|h
  ·cases e
  ·exact⟨id,rfl,h⟩
 |some a=>
  refine⟨Nat.min a id,by simp[cC,Nat.min_comm],?_⟩;rcases h with⟨l,e,b⟩|h
  ·grind
  grind
theorem AS.Ext.set{E:AS}{id:Nat}{o o':ae}{refs:Nat}(d:E.heap[id]?=some o)(h: ∀n,o.le n->refs<=n->o'.le n):E.Ext (E.set id o' refs)where
 len:=by simp[AS.set]
 lo j x:=by
  simp only[AS.set];split
  ·exact x
  ·exact Ai (.inl x)
 obj j x e:=by
  by_cases b:j=id
  ·subst b;obtain rfl:o=x:=by grind
   have a:j<E.heap.length:=(aeA.1 e).1;refine⟨o',by simp[AS.set,a],?_⟩;simp only[AS.set];split
   ·exact .inl λn c=>h _ (c.mono (by omega)) (by omega)
   ·simp_all[Ai,agW]
  ·exact⟨x,by simp[AS.set,aex (λh=>b h.symm),e],.inl λ_ k=>k.mono (by omega)⟩
theorem Below.anP{B:Nat}{av:World}(h:Below B av w)(ho:w'.os=w.os)(b:w'.tape=w.tape)(a:w'.output=w.output)(c:w.heap.size<=w'.heap.size)
 (d: ∀k,k<B->w'.heap[k]?=w.heap[k]?):Below B av w':=h.trans ⟨ho,b,a,c,d⟩
variable{P:Program}{B:Nat}{av:World}
def Gh.push(G:Gh)(b:Nat)(dS sz:Nat):Gh:=
 {G with n:=G.n+1,aY:=λi=>if i=G.n then b else G.aY i,base:=λi=>if i=G.n then 0 else G.base i,
         aj:=λi=>if i=G.n then 0 else G.aj i,dS:=λi=>if i=G.n then dS else G.dS i,sz:=λi=>if i=G.n then sz else G.sz i,pz:=λi=>if i=G.n then none else G.pz i}
theorem Gh.Aj(G:Gh)(b dS sz:Nat):G.le (G.push b dS sz):=
 .mk' (λ_ _ _ h=>h) (by simp[Gh.push]) (λi a=>by simp[Gh.push,azl a]) (λi a=>by simp[Gh.push,azl a]) (λi a _=>by simp[Gh.push,azl a])
def Gh.G4{G:Gh}{dS:Nat}(h: (G.push b dS sz).on i):i=G.n\/ (i≠G.n/\G.on i):=by
 obtain⟨c,a⟩:=h;simp only[Gh.push]at c a;by_cases e:i=G.n
 ·omega
 ·rw[afi e]at a;exact .inr ⟨e,by omega,a⟩
theorem cell?_alloc_old{o:Obj}(h:b<w.heap.size): (w.alloc o).cell? ⟨b,k,none⟩=w.cell? ⟨b,k,none⟩:=World.cell?_alloc_lt w o ⟨b,k,none⟩ h
theorem aU.push{G:Gh}{E:AS}(h:aU P B av G E w)(O:Obj)(o:ae)(dS sz:Nat)
  (ho:ie P (G.push w.heap.size dS sz) G.n (w.alloc O) o):aU P B av (G.push w.heap.size dS sz) (E.push o) (w.alloc O)where
 len:=by simp[Gh.push,AS.push,h.len]
 bt b k v e:=by
  have q:G.bt b k=some v:=e;rw[cell?_alloc_old (h.x0 P q)];exact h.bt b k v q
 obj id x e d:=by
  simp only[AS.push,List.getElem?_append]at e;split at e
  ·rename_i m;have c:id<G.n:=by rw[h.len];exact m
   simp only[Gh.push,afi (azl c)]at d;exact ie.mono (G.Aj _ _ _) ⟨c,d⟩ (by simp[Gh.push,azl c]) (Below.heap_alloc _ _ _ (h.low id ⟨c,d⟩).2) (h.obj id x e d)
  ·rename_i u;have:id=E.heap.length:=by
    cases s:id-E.heap.length with
    |zero=>omega
    |succ k=>rw[s]at e;simp at e
   subst this;simp at e;subst e;rw[<-h.len];exact ho
 inj i j g t e:=by
  rcases Gh.G4 g with a| ⟨f,a⟩<;>rcases Gh.G4 t with l| ⟨p,l⟩
  ·rw[a,l]
  ·simp only[Gh.push,a,aiH,afi p]at e;have:=(h.low j l).2;omega
  ·simp only[Gh.push,l,aiH,afi f]at e;have:=(h.low i a).2;omega
  ·simp only[Gh.push,afi f,afi p]at e;exact h.inj i j a l e
 sep i g k:=by
  rcases Gh.G4 g with a| ⟨f,a⟩
  ·simp only[Gh.push,a,aiH];cases y:G.bt w.heap.size k with
   |none=>rfl
   |some v=>have:=h.x0 P y;omega
  ·simp only[Gh.push,afi f];exact h.sep i a k
 low i g:=by
  rcases Gh.G4 g with a| ⟨f,a⟩
  ·simp only[Gh.push,a,aiH];exact⟨h.hB,by simp⟩
  ·simp only[Gh.push,afi f];have:=h.low i a;exact⟨this.1,by simp;omega⟩
 lK id x c d:=by
  simp only[Gh.push]at c d;by_cases a:id=G.n
  ·rw[afl a]at d;cases d
  ·rw[afi a]at d;obtain⟨n,r⟩:=h.lK id x (by omega) d;exact⟨by simp only[AS.push];rw[aez (aeA.1 n).1];exact n,r⟩
 lJ:=h.lJ.alloc h.hB O
 hB:=by have:=h.hB;simp;omega
 dA:=h.dA
theorem Gh.C4{G:Gh}{E:AS}(h:aU P B av G E w){dS:Nat}: (G.push b dS sz).on E.heap.length:=⟨by simp[Gh.push,h.len],by simp[Gh.push,h.len]⟩
def Gh.freeze(G:Gh)(b:Nat)(vs:List Value):Gh:={G with bt:=λa o=>if a=b then vs[o]? else G.bt a o}
def aU.Xj{G:Gh}{E:AS}(h:aU P B av G E w)(c:Array Value)(ty:TypeId)(g:Nat×Nat)(vs:List Value)(n: ∀ (j:Nat) (v:Value),vs[j]?=some v->c[j]?=some v):
  G.le (G.freeze w.heap.size vs)/\aU P B av (G.freeze w.heap.size vs) E (w.alloc (.cells c ty g)):=by
 have hle:G.le (G.freeze w.heap.size vs):=by
  refine .mk' (λb o v e=>?_) (agW _) (λ_ _=>rfl) (λ_ _=>agW _) (λ_ _ _=>⟨rfl,rfl,rfl,rfl⟩);have:=h.x0 P e;simp only[Gh.freeze]
  grind
 refine⟨hle,h.len,λb o v e=>?_,λid x e f=>?_,h.inj,λi d k=>?_,λi d=>?_,h.lJ.alloc h.hB _,?_,h.lK,λb o v l e=>hle.bt _ _ _ (h.dA b o v l e)⟩
 ·simp only[Gh.freeze]at e;split at e
  ·have p: (w.alloc (.cells c ty g)).heap[w.heap.size]?=some (.cells c ty g):=aqY w _;unfold World.cell?
   grind
  ·rw[cell?_alloc_old (h.x0 P e)];exact h.bt b o v e
 ·have a:id<G.n:=by rw[h.len];exact(aeA.1 e).1
  exact ie.mono hle ⟨a,f⟩ rfl (Below.heap_alloc _ _ _ (h.low id ⟨a,f⟩).2) (h.obj id x e f)
 ·have:=(h.low i d).2;simp only[Gh.freeze];rw[afi (by omega)];exact h.sep i d k
 ·obtain⟨m,q⟩:=h.low i d
  exact⟨m,by have e: (G.freeze w.heap.size vs).aY i=G.aY i:=rfl
             rw[e];simp;omega⟩
 ·have:=h.hB;simp;omega
theorem aU.set{G p:Gh}{E:AS}(h:aU P B av G E w){id:Nat}(d:G.on id)(o':ae)(refs:Nat)
  (c:G.le p) (q:p.n=G.n) (C:p.bt=G.bt)
  (l: ∀i,i<G.n->i≠id->p.aj i=G.aj i)
  (m:p.aY id=G.aY id\/w.heap.size<=p.aY id) (z:p.aY id<w'.heap.size)
  (D: ∀k,k≠G.aY id->k<w.heap.size->w'.heap[k]?=w.heap[k]?) (I:w.heap.size<=w'.heap.size)
  (n:w'.os=w.os) (y:w'.tape=w.tape) (J:w'.output=w.output)
  (ho:ie P p id w' o'):aU P B av p (E.set id o' refs) w' where
 len:=by simp[AS.set,q,h.len]
 bt b k v e:=by
  rw[C]at e;have g:b≠G.aY id:=λg=>by rw[g,h.sep id d k]at e;cases e
  have:=h.bt b k v e;simp only[World.cell?]at*
  grind
 obj j x e r:=by
  by_cases f:j=id
  ·subst f;have:E.heap.length=G.n:=h.len.symm;simp[AS.set,this,d.1]at e;subst e;exact ho
  ·simp only[AS.set,aex (λh=>f h.symm)]at e;have t:j<G.n:=by rw[h.len];exact(aeA.1 e).1
   rw[c.pz j t]at r;have u:G.on j:=⟨t,r⟩;refine ie.mono c u (l j t f) (D _ (λhe=>f (h.inj j id u d he)) (h.low j u).2) (h.obj j x e r)
 inj i j a f e:=by
  have a:G.on i:=⟨by rw[<-q];exact a.1,by rw[<-c.pz i (by rw[<-q];exact a.1)];exact a.2⟩;have f:G.on j:=⟨by rw[<-q];exact f.1,by rw[<-c.pz j (by rw[<-q];exact f.1)];exact f.2⟩;have key: ∀i,G.on i->i≠id->p.aY i=G.aY i:=λi a s=>(c.same i a (l i a.1 s)).1
  by_cases n:i=id<;>by_cases y:j=id
  ·omega
  ·rw[n,key j f y]at e;rcases m with g|g
   ·rw[g]at e;rw[n];exact h.inj id j d f e
   ·have:=(h.low j f).2;omega
  ·rw[y,key i a n]at e;rcases m with g|g
   ·rw[g]at e;rw[y];exact h.inj i id a d e
   ·have:=(h.low i a).2;omega
  ·rw[key i a n,key j f y]at e;exact h.inj i j a f e
 sep i a k:=by
  have a:G.on i:=⟨by rw[<-q];exact a.1,by rw[<-c.pz i (by rw[<-q];exact a.1)];exact a.2⟩;rw[C];by_cases n:i=id
  ·subst n;rcases m with g|g
   ·rw[g];exact h.sep i d k
   ·cases A:G.bt (p.aY i) k with
    |none=>rfl
    |some v=>have:=h.x0 P A;omega
  ·rw[(c.same i a (l i a.1 n)).1];exact h.sep i a k
 low i a:=by
  have a:G.on i:=⟨by rw[<-q];exact a.1,by rw[<-c.pz i (by rw[<-q];exact a.1)];exact a.2⟩;by_cases n:i=id
  ·subst n;rcases m with g|g
   ·exact⟨by rw[g];exact(h.low i d).1,z⟩
   ·have:=h.hB;exact⟨by omega,z⟩
  ·rw[(c.same i a (l i a.1 n)).1];have:=h.low i a;exact⟨this.1,by omega⟩
 lJ:=Below.anP h.lJ n y J I λk K=>D k (by have:=(h.low id d).1;omega) (by have:=h.hB;omega)
 hB:=by have:=h.hB;omega
 lK j x f r:=by
  rw[q]at f;rw[c.pz j f]at r;obtain⟨H,F⟩:=h.lK j x f r;have s:id≠j:=λe=>by rw[<-e,d.2]at r;cases r
  exact⟨by simp only[AS.set];rw[aex s];exact H,F⟩
 dA b o v g e:=by rw[C];exact h.dA b o v g e
theorem aU.drew{G:Gh}{E:AS}(h:aU P B av G E w):aU P B av G E w.drew:=
 ⟨h.len,h.bt,λid x e a=>ie.mono G.le_refl ⟨by rw[h.len];grind,a⟩ rfl rfl (h.obj id x e a),h.inj,h.sep,h.low,h.lJ.drew,h.hB,h.lK,h.dA⟩
theorem aU.lo{G:Gh}{E:AS}(h:aU P B av G E w)(lo:oN):aU P B av G {E with lo:=lo} w:=
 ⟨h.len,h.bt,h.obj,h.inj,h.sep,h.low,h.lJ,h.hB,h.lK,h.dA⟩
end
section
variable{P:Program}
def ez(w:World)(b:Nat)(O:Obj):World:={w with heap:=w.heap.setIfInBounds b O}
def anQ(w:World)(b:Nat)(O a:Obj):ez (ez w b O) b a=ez w b a:=by simp[ez]
def ur(h:b<w.heap.size): (ez w b O).heap[b]?=some O:=by simp[ez,h]
def Xk(h:k≠b): (ez w b O).heap[k]?=w.heap[k]?:=by
 simp only[ez]
 grind
def anR(h:w.heap[b]?=some O):ez w b O=w:=by
 have:w.heap.setIfInBounds b O=w.heap:=by grind
 unfold ez;rw[this]
@[simp]theorem anS (w:World) (b:Nat) (O:Obj): (ez w b O).heap.size=w.heap.size:=by simp[ez]
def anT{o:Nat}{ty:TypeId}{a:Nat×Nat}(h:w.heap[b]?=some (.cells c ty a))(v:Value):
  w.setCell ⟨b,o,none⟩ v=ez w b (.cells (c.setIfInBounds o v) ty a):=by
 simp only[World.setCell,ez]
 congr 1
 grind
def kS(c:Array Value)(o:Nat):List Value->Array Value
 | []=>c
 |v::vs=>kS (c.setIfInBounds o v) (o+1) vs
@[simp]theorem aCr (c:Array Value) (o:Nat) (vs:List Value): (kS c o vs).size=c.size:=by
  induction vs generalizing c o with
  |nil=>rfl
  |cons v vs ih=>simp[kS,ih]
def G5(c:Array Value)(o:Nat)(vs:List Value)(h:o+vs.length<=c.size):
  (kS c o vs).toList=c.toList.take o++(vs++c.toList.drop (o+vs.length)):=by
 induction vs generalizing c o with
 |nil=>simp[kS]
 |cons v vs a=>
  rw[kS,a _ _ (by grind)];have ho:o<c.toList.length:=by grind
  simp only[Array.toList_setIfInBounds,ag5];rw[List.take_set,List.drop_set];simp only[show(o<o+1+vs.length) by omega,aiH,ait,afu ho];have hm:min o c.size=o:=ari (by omega);simp[show o+1+vs.length=o+(vs.length+1) by omega,hm]
theorem jb(b o i:Nat): (⟨b,o,none⟩:Addr).add i=⟨b,o+i,none⟩:=by
 unfold Addr.add
 grind
def anU(h:leaf v=true):v.oneCell'=true:=by trivial
def Nv{ty:TypeId}(vs:List Value): ∀ (c:Array Value) (w:World) (o i:Nat),w.heap[b]?=some (.cells c ty (0,0))->o+i+vs.length<=c.size->Leaves vs->
  (storeCells ⟨b,o,none⟩ vs i).run P w= .ok () (ez w b (.cells (kS c (o+i) vs) ty (0,0))):=by
 induction vs with
 |nil=>intro c w o i h _ _;simp[storeCells,kS,anR h]
 |cons v vs e=>
  intro c w o i h g d;simp only[ag5]at g;have j:w.cell? (Addr.add ⟨b,o,none⟩ i)=some (c[o+i]'(by omega)):=by
   rw[jb,cell_of_row w b (o+i) c ty (0,0) h];grind
  have f:w.frozen? (Addr.add ⟨b,o,none⟩ i)=false:=by grind [jb,frozen_of_row]
  simp only[storeCells,Sem.run_bind];rw[run_store P w _ v .plain (anU (d v (by simp)))];simp only[j,f];rw[jb,anT h];have a:b<w.heap.size:=(anu.1 h).1;simp only[agX,amn,Result.andThen_ok];rw[e (c.setIfInBounds (o+i) v) _ o (i+1) (ur a) (by grind) (λu hu=>d u (by grind)),anQ];rfl
def run_loadCellsFrom{o:Nat}(n:Nat): ∀ (i:Nat) (acc:Array Value) (vs:List Value),vs.length=n->(∀j v,vs[j]?=some v->w.cell? ⟨b,o+i+j,none⟩=some v)->
  (loadCellsFrom ⟨b,o,none⟩ i n acc).run P w= .ok (acc++vs.toArray) w:=by
 induction n with
 |zero=>intro i acc vs c _;have:vs=[]:=ams.1 c;subst this;simp[loadCellsFrom]
 |succ n e=>
  intro i acc vs c a;cases vs with
  |nil=>grind
  |cons v vs=>
   have d:=a 0 v (by simp);simp only[loadCellsFrom,Sem.run_bind];rw[jb,run_load];simp only[ahc]at d;simp only[d];simp only[Result.andThen_ok];rw[e (i+1) (acc.push v) vs (by grind) (λj u f=>by
    have:=a (j+1) u (by grind)
    grind)]
   simp_all
def run_loadCells{o:Nat}(vs:List Value)(a:vs.length=n)(c: ∀j v,vs[j]?=some v->w.cell? ⟨b,o+j,none⟩=some v):
  (loadCells ⟨b,o,none⟩ n).run P w= .ok vs.toArray w:=by
 unfold loadCells;rw[run_loadCellsFrom n 0 #[] vs a (by omega)];simp
end
section
section
variable{P:Program}
def nO(h:cn P t=some n)(w:World): (sizeOf t).run P w= .ok n w:=by
 unfold cn at h;cases b:P.info? t with
 |none=>grind
 |some i=>
  simp[b]at h;simp only[sizeOf,Sem.run_bind,run_typeInfo _ b,Result.andThen_ok,Sem.run_pure];rw[h]
def rY{b:Bool}(h:mY P t=some b)(w:World): (isAgg t).run P w= .ok b w:=by
 unfold mY at h;cases hu:P.underlying t with
 |none=>grind
 |some d=>
  simp only[hu,ag0,afh]at h;subst h;simp only[isAgg,Sem.run_bind,afr hu,Result.andThen_ok];cases d<;>simp[Sem.run_pure]
end
def G0(B:Nat)(av:World):Gh:={bt:=λb o=>if b<B then av.cell? ⟨b,o,none⟩else none,n:=0,aY:=id,base:=id,aj:=id,dS:=id,sz:=id}
def fo(X:Ctx)(B:Nat)(av:World):Prop:=
 (∀g cs,X.df g=some cs->g<B/\ ∃vs,(∀ (j:Nat) v,vs[j]?=some v->av.cell? ⟨g,j,none⟩=some v)/\Leaves vs/\
   aD (G0 B av) cs vs)/\
 (∀g es,X.fa g=some es->g<B/\ ∃b r ms clock,r<B/\av.cell? ⟨g,0,none⟩=some (.map (some r))/\av.heap[r]?=some (.map ms clock)/\eN (G0 B av) b ms.toList/\ ∀k v,dR k es=some v->dR k b=some v)
variable{P:Program}{X:Ctx}{B:Nat}{av:World}
def Xl{G:Gh}{E:AS}(h:aU P B av G E w): (G0 B av).dM 0 G:=by
 refine⟨λb o v c=>?_,agS _,?_,?_,?_,?_,?_,?_⟩
 ·simp only[G0]at c;split at c
  ·exact h.dA b o v ‹_› c
  grind
 all_goals simp
def fo.rel(d:fo X B av){G:Gh}{E:AS}(h:aU P B av G E w){g:Nat}{cs:List AV}(e:X.df g=some cs):
  ∃vs,mZ G g 0 vs/\Leaves vs/\aD G cs vs:=by
 obtain⟨f,vs,k,i,b⟩:=d.1 g cs e;refine⟨vs,λj v c=>?_,i,aD.dM (Xl h) _ _ b (by have:=aD.refs _ _ b;simpa[G0]using this)⟩;rw[ana];exact h.dA g j v f (k j v c)
def fo.anV(i:fo X B av){G:Gh}{E:AS}(h:aU P B av G E w){g:Nat}{es:List (AV×AV)}(e:X.fa g=some es)(d:an G (.iY g) v):
  ∃b r ms clock,v= .map (some r)/\w.heap[r]?=some (.map ms clock)/\eN G b ms.toList/\ ∀k v,dR k es=some v->dR k b=some v:=by
 obtain⟨j,b,r,ms,clock,o,n,m,c,l⟩:=i.2 g es e;have:=h.dA g 0 _ j n;rw[d.2]at this;cases this;exact⟨b,r,ms,clock,rfl,by rw[h.lJ.block r o];exact m,eN.dM (Xl h) c (λp f=>by have:=eN.refs c p f;simpa[G0]using this),l⟩
def Good(P:Program)(B:Nat)(av:World)(G:Gh)(E:AS)(v:AV)(c:AS)(r:Result Next):Prop:=
 ∃b w' v',(r= .ok (.value v') w'\/ (r= .ok .skip w'/\v'=undef))/\G.le b/\aU P B av b c w'/\an b v v'/\E.Ext c
theorem Good.same{G:Gh}{E:AS}(h:aU P B av G E w){v:AV}(b:an G v v'):Good P B av G E v E (.ok (.value v') w):=
 ⟨G,w,v',.inl rfl,G.le_refl,h,b,.refl E⟩
def Nw{G:Gh}: ∀ (v:Value),(AV.jT v).plain=true->an G (AV.jT v) v:=by
 intro v h;cases v with
 |pointer a=>cases a<;>simp_all[AV.jT,an,AV.plain]
 |slice a n c=>
  cases a with
  |none=>
   simp only[AV.jT]at*;split at h
   ·rename_i e;simp[e,an]
   ·trivial
  |some a=>trivial
 |map r=>cases r<;>simp_all[AV.jT,an,AV.plain]
 |tuple vs=>
  simp only[AV.jT]at*;split at h
  ·rename_i e;have:vs= #[]:=Array.eq_empty_of_size_eq_zero e;subst this;simp[an,aD]
  ·trivial
 |_=>trivial
theorem Xm{G:Gh}: ∀ (vs:List Value),(∀v∈vs,(AV.jT v).plain=true)->aD G (vs.map AV.jT) vs
 | [],_=>by rfl
 |v::vs,h=>⟨v,vs.map id,by simp,Nw v (h v (by simp)),by simpa using Xm vs λu hu=>h u (by grind)⟩
def anW(h: (AV.jT v).plain=true)(k: (AV.jT v).cb=false):leaf v=true:=by
 cases v with
 |agg cs=>trivial
 |tuple vs=>simp only[AV.jT]at k;split at k<;>simp[AV.cb]at k
 |_=>rfl
def Xn{G:Gh}(v:Value)(h:GX v=true):an G (AV.ofValue v) v:=by
 cases v with
 |agg cs=>
  simp only[GX,ag6,aiq,aCH]at h;exact⟨cs,rfl,Xm _ λv b=>(h v b).1,λv b=>anW (h v b).1 (h v b).2⟩
 |iface t v=>exact⟨v,rfl,Nw v h⟩
 |_=>simp only[AV.ofValue];apply Nw;exact h
def Nx{G:Gh}{e:Env}{b:Array Value}(h:cD G nt e b)(t:Nat):an G (e t) (b.getD t undef):=by
 by_cases c:t<b.size
 ·have:=h.get t b[t] (by simp);simp_all
 ·rw[h.out t (by have:=h.size;omega)];simp[Array.getD,c,an,aD,undef]
def cu{G:Gh}{e:Env}(h:cD G nt e a.tmps){x:Operand}{y:ao}(b:bJ x=some y):an G (y.get e) (a.eval x):=by
 cases x with
 |tmp t=>simp only[bJ,afh]at b;subst b;exact Nx h t
 |const v=>
  simp only[bJ]at b;split at b
  ·rename_i c;cases b;exact Xn v c
  grind
 |global g=>simp only[bJ,afh]at b;subst b;simp[ao.get,an,Act.eval]
 |func f=>simp only[bJ,afh]at b;subst b;exact⟨.func f,#[],#[],rfl,rfl,by rfl,by rfl⟩
theorem x5{G:Gh}{nt:Nat}{e:Env}{a:Act}(h:cD G nt e a.tmps): ∀ {xs:List Operand} {ys:List ao},nL xs=some ys->aD G (ys.map (·.get e)) (xs.map a.eval)
 | [],_,b=>by simp only[nL,afh]at b;subst b;simp[aD]
 |x::xs,ys,b=>by
  simp only[nL]at b;split at b
  ·rename_i y c f d;cases b;exact⟨_,_,rfl,cu h f,x5 h d⟩
  grind
section ops
variable{G:Gh}{E:AS}{w:World}(hw:aU P B av G E w){nt:Nat}{e:Env}{a:Act}(he:cD G nt e a.tmps)
include hw
omit hw in
theorem Xo{b:Bool}{off:Nat}{cs:List AV}{v:AV}(c:aD G cs vs)(d:Leaves vs)(h:part b n cs off=some v):
  (b=true/\off+n<=vs.length/\an G v (.agg ((vs.drop off).take n).toArray))\/ (b=false/\ ∃u,vs[off]?=some u/\an G v u):=by
 unfold part at h;cases b with
 |true=>
  simp only[aiH]at h;split at h
  ·rename_i hle;cases h;refine .inl ⟨rfl,by rw[c.length];exact hle,⟨_,rfl,by simpa using(c.drop off).take n,by simpa using(d.drop off).take n⟩⟩
  ·cases h
 |false=>
  simp only[agX,amn]at h;obtain⟨u,hu,f⟩:=c.get off v h;exact .inr ⟨rfl,u,hu,f⟩
omit hw in
theorem G6{h:Bool}{o:Nat}{v:AV}{cs:List AV}{off:Nat}(g:mY P t=some h)(m:cn P t=some n)
  (l:aD G cs vs) (i:Leaves vs) (k:part h n cs off=some v) (f: ∀j u,vs[j]?=some u->w.cell? ⟨b,o+j,none⟩=some u):
  ∃v',(loadVar t ⟨b,o+off,none⟩).run P w= .ok v' w/\an G v v':=by
 rcases Xo l i k with⟨rfl,hle,d⟩| ⟨rfl,u,hu,d⟩
 ·refine⟨_,?_,d⟩;simp only[loadVar,Sem.run_bind,rY g,Result.andThen_ok,aiH,nO m];rw[run_loadCells ((vs.drop off).take n) (by simp;omega) (λj u c=>by
   rw[aoL]at c;split at c
   ·rw[anp]at c;rw[anv];exact f _ _ c
   ·cases c)]
  simp
 ·refine⟨u,?_,d⟩;simp only[loadVar,Sem.run_bind,rY g,Result.andThen_ok,agX,amn,run_load];rw[f off u hu]
theorem Ak{id:Nat}{cs:List AV}{tg:Option TypeId}(h:E.heap[id]?=some (.box cs tg))(b:G.pz id=none):G.aj id=0/\G.on id/\ ∃c ty,w.heap[G.aY id]?=some (.cells c ty (0,0))/\aD G cs c.toList/\Leaves c.toList/\ ∀t,tg=some t->ty=t:=by
 obtain⟨i,c,ty,g,f,d⟩:=hw.obj id _ h b;exact⟨i,⟨by rw[hw.len];grind,b⟩,c,ty,g,f,d⟩
omit hw in
theorem C5{ty:TypeId}(h:w.heap[b]?=some (.cells c ty (0,0)))(j:Nat)(u:Value)(d:c.toList[j]?=some u):w.cell? ⟨b,j,none⟩=some u:=by
 rw[cell_of_row w b j c ty (0,0) h];simpa using d
theorem Xp(hg:fo X B av){W:Bool}(H:mY P t=some W)(F:cn P t=some n){x v:AV}{C:Value}(d:an G x C)(h:cg X E W n x=some v):
  ∃v',(Instr.loadAt t C).run P w= .ok v' w/\an G v v':=by
 have key: ∀ (A:Addr),C= .pointer (some A)->(∃v',(loadVar t A).run P w= .ok v' w/\an G v v')-> ∃v',(Instr.loadAt t C).run P w= .ok v' w/\an G v v':=by
  rintro A rfl ⟨v',K,hr⟩;refine⟨v',?_,hr⟩;exact K
 unfold cg at h;split at h
 ·rename_i id off;simp only[an]at d;obtain⟨r,A,rfl,z⟩:=d;split at h
  ·rename_i cs N;obtain⟨S,_,c,ty,R,f,m,_⟩:=Ak hw N r.2;refine key A rfl ?_;rw[z S];have:=G6 (b:=G.aY id) (o:=0) H F f m h (λj u hu=>by rw[ana];exact C5 R j u hu);rwa[ana]at this
  ·cases h
 ·rename_i id aj i off;simp only[an]at d;obtain⟨r,_,A,rfl,z⟩:=d;split at h
  ·rename_i T sz ty af N;split at h
   ·rename_i K;obtain⟨S,q,hu,c,pre,vs,post,R,hc,hp,hs,f,m⟩:=hw.obj id _ N r.2;subst K;cases k:af[i]? with
    |none=>simp[k]at h
    |some el=>
     simp only[k,aqT]at h;split at h
     ·rename_i D;refine key A rfl ?_;rw[z S];have M:i<af.length:=(aeA.1 k).1;have O:af.flatten=(af.take i).flatten++(el++(af.drop (i+1)).flatten):=by
       conv=>lhs;rw[<-apt i af]
       rw[aoZ,aph M];have:af[i]=el:=by simpa[afu M]using k
       simp[this]
      have L: (af.take i).flatten.length=i*sz:=by
       have: ∀ (l:List (List AV)),(∀x∈l,x.length=sz)->l.flatten.length=l.length*sz:=by
        intro l f
        induction l with
        |nil=>simp
        |cons x xs ih=>simp[ih λy J=>f y (by simp[J]),f x (by simp)];rw[aq9];omega
       rw[this _ λx d=>hu x (alP d),aiI,ari (Nat.le_of_lt M)]
      have V:=bp.iff.1 f;rw[O]at V;obtain⟨v1,v2,rfl,k1,Z⟩:=V.split;obtain⟨U,v4,rfl,Y,k4⟩:=Z.split;have p:v1.length=i*sz:=by rw[k1.length,L]
      have I:Leaves U:=λy J=>m y (by simp[J])
      have:=G6 (b:=G.aY id) (o:=G.base id+i*G.sz id) H F Y I h (λj u hu=>by
       refine C5 R _ u ?_;rw[hc];have hj:j<U.length:=(aeA.1 hu).1;rw[ag8 (by omega),afq,ag8 (by rw[p,q];omega),afq,aez (by rw[p,q];omega)];rw[<-hu];congr 1;rw[p,q];omega)
      exact this
     ·cases h
   ·cases h
  ·cases h
 ·rename_i cs off;simp only[an]at d;obtain⟨b,o,vs,rfl,Q,m,f⟩:=d;exact key _ rfl (G6 H F f m h λj u hu=>hw.bt _ _ _ (Q j u hu))
 ·rename_i g;simp only[an]at d;subst d;cases s:X.df g with
  |none=>simp[s]at h
  |some cs=>
   simp only[s,aqT]at h;obtain⟨vs,Q,m,f⟩:=hg.rel hw s;have:=G6 (b:=g) (o:=0) H F f m h λj u hu=>hw.bt _ _ _ (Q j u hu)
   exact key _ rfl (by simpa using this)
 grind
end ops
end
section
variable{P:Program}{X:Ctx}{B:Nat}{av:World}
variable{G:Gh}{E:AS}{w:World}
def anX(t:aU P B av G E w)(y:fo X B av){s:TypeId}{a:Array Field}{f:Nat}{g:Field}(D:P.underlying s=some (.struct a))(C:a[f]?=some g)
  (A:cn P g.type=some n) (F:0<n) {x v:AV} {j:Value} (i:an G x j) (h:rS X g.offset x=some v):
  ∃v',(Instr.fieldAt s j f).run P w= .ok v' w/\an G v v':=by
 have key: ∀d,j= .pointer (some d)->(Instr.fieldAt s j f).run P w= .ok (.pointer (some (d.add g.offset))) w:=by
  rintro d rfl;simp only[Instr.fieldAt,Sem.run_bind,afr D,Result.andThen_ok,C,Instr.sureAddr,Sem.run_pure,fieldPlace,nO A,Sem.run_ite];rw[afi (by omega)];simp
 unfold rS at h;split at h
 ·obtain⟨p,d,e,c⟩:=i;cases h;refine⟨_,key d e,p,_,rfl,λk=>?_⟩;rw[c k,jb]
 ·obtain⟨p,m,d,e,c⟩:=i;cases h;refine⟨_,key d e,p,m,_,rfl,λk=>?_⟩;rw[c k,jb];grind
 ·obtain⟨b,o,vs,e,r⟩:=i;cases h;refine⟨_,key _ e,b,o,vs,?_,r⟩;rw[jb,anv]
 ·simp only[an]at i;split at h
  ·rename_i cs l;cases h;obtain⟨vs,z,q,u⟩:=y.rel t l;refine⟨_,key _ i,_,0,vs,?_,z,q,u⟩;rw[jb]
  ·cases h
 grind
def G7{x:AV}{a:Value}{i:Int}(b:an G x a)(h:rO x=some i): ∃k,x= .int k i/\a= .int k i:=by
 cases x<;>simp[rO]at h;simp only[an]at b
 grind
def anY(y:aU P B av G E w)(C:fo X B av){a:TypeId}(I:P.underlying t=some (.array n a))(H:cn P a=some sz)
  {x s v:AV} {j g:Value} (d:an G x j) (A:an G s g) (h:uk X n sz x s=some v):
  ∃v',(Instr.indexAt t j g).run P w= .ok v' w/\an G v v':=by
 unfold uk at h;split at h
 ·rename_i i hint;obtain⟨k,_,rfl⟩:=G7 A hint;split at h
  ·rename_i F;have key: ∀f,j= .pointer (some f)->(Instr.indexAt t j (.int k i)).run P w= .ok (.pointer (some (f.add (i.toNat*sz)))) w:=by
    rintro f rfl;simp only[Instr.indexAt,Sem.run_bind,asIntOf,Sem.run_pure,Result.andThen_ok,afr I,Instr.sureAddr];by_cases J:n<=1<;>simp[F,nO H]
   split at h
   ·obtain⟨q,f,e,c⟩:=d;cases h;refine⟨_,key f e,q,_,rfl,λl=>?_⟩;rw[c l,jb]
   ·simp only[an]at d;obtain⟨q,p,f,e,c⟩:=d;cases h;refine⟨_,key f e,q,p,_,rfl,λl=>?_⟩;rw[c l,jb];congr 1;omega
   ·simp only[an]at d;obtain⟨b,o,vs,e,r⟩:=d;cases h;refine⟨_,key _ e,b,o,vs,?_,r⟩;rw[jb,anv]
   ·simp only[an]at d;split at h
    ·rename_i cs m;cases h;obtain⟨vs,D,u,z⟩:=C.rel y m;refine⟨_,key _ d,_,0,vs,?_,D,u,z⟩;rw[jb]
    ·cases h
   grind
  grind
 grind
theorem anZ{af:List (List AV)}(h: ∀el∈af,el.length=sz):af.flatten.length=af.length*sz:=by
 induction af with
 |nil=>simp
 |cons x xs a=>grind
def bp.at{af:List (List AV)}{el:List AV}(k:bp G af vs)(n: ∀x∈af,x.length=sz)(l:af[i]?=some el):
  aD G el ((vs.drop (i*sz)).take sz):=by
 have b:af.flatten=(af.take i).flatten++(el++(af.drop (i+1)).flatten):=by grind [List.take_append_drop,List.flatten_append,List.drop_eq_getElem_cons]
 have a: (af.take i).flatten.length=i*sz:=by grind [anZ,List.mem_of_mem_take,List.length_take,Nat.min_eq_left,Nat.le_of_lt]
 have c:=bp.iff.1 k;rw[b]at c;obtain⟨v1,v2,rfl,g,f⟩:=c.split;obtain⟨d,v4,rfl,e,m⟩:=f.split;have j:v1.length=i*sz:=by rw[g.length,a]
 have h:d.length=sz:=by rw[e.length];grind
 grind
def an0{d:TypeId}(O:P.underlying t=some (.slice d))(N:cn P d=some sz)
  {x H v:AV} {s m:Value} (g:an G x s) (I:an G H m) (h:jU sz x H=some v):
  ∃v',(Instr.indexAt t s m).run P w= .ok v' w/\an G v v':=by
 unfold jU at h;split at h
 ·rename_i i hint;obtain⟨k,_,rfl⟩:=G7 I hint;have key: ∀ (r:Addr) (len cap:Nat),s= .slice (some r) len cap->0<=i/\i<len->(Instr.indexAt t s (.int k i)).run P w= .ok (.pointer (some (r.add (i.toNat*sz)))) w:=by
   rintro r len cap rfl l;simp only[Instr.indexAt,Sem.run_bind,asIntOf,Sem.run_pure,Result.andThen_ok,afr O];by_cases Q:len<=1<;>simp[l,nO N]
  split at h
  ·rename_i af cy;split at h
   ·rename_i p;split at h
    ·rename_i el f;split at h
     ·rename_i c;cases h;simp only[an]at g;obtain⟨b,o,cap,a,vs,e,J,F,q,M,K,L⟩:=g;have I:i.toNat<af.length:=(aeA.1 f).1;have z:a=sz:=by rw[<-c];exact(q el (am9 f)).symm
      subst z;refine⟨_,key _ _ _ e ⟨p,by omega⟩,b,o+i.toNat*a,(vs.drop (i.toNat*a)).take a,?_,?_,(K.drop _).take _,L.at q f⟩
      ·rw[jb];rfl
      ·intro j u n;rw[aoL]at n;split at n
       ·rw[anp]at n;rw[anv];exact M _ _ n
       ·cases n
     ·cases h
    ·cases h
   grind
  ·rename_i id aj a off len cy;split at h
   ·rename_i l;obtain⟨C,A,rfl⟩:=l;cases h;simp only[an]at g;obtain⟨p,D,r,cap,e,J,F,q⟩:=g;refine⟨_,key _ _ _ e ⟨C,A⟩,p,D,_,rfl,λy=>?_⟩;rw[(q y).2.1 (by omega),jb,(q y).1,aqV];congr 1;omega
   ·cases h
  ·rename_i id a off len;split at h
   ·rename_i l;cases h;simp only[an]at g;obtain⟨p,r,cap,e,J,F⟩:=g;refine⟨_,key _ _ _ e ⟨l.1,l.2.1⟩,p,_,rfl,λy=>?_⟩;rw[F y (by omega),jb]
   ·cases h
  grind
 grind
end
section
variable{P:Program}{X:Ctx}{B:Nat}{av:World}
variable{G:Gh}{E:AS}{w:World}
def Xq{e:Bool}{off:Nat}{cs:List AV}{v:AV}(d:mY P t=some e)(i:cn P t=some n)
  (h:aD G cs c.toList) (f:Leaves c.toList) (g:Den.part e n cs off=some v) (w:World): ∃v',(Go.part t c off).run P w= .ok v' w/\an G v v':=by
 rcases Xo h f g with⟨rfl,hle,b⟩| ⟨rfl,u,hu,b⟩
 ·refine⟨_,?_,b⟩;simp only[Go.part,Sem.run_bind,rY d,Result.andThen_ok,aiH,nO i,Sem.run_pure]
  congr 2
  grind
 ·refine⟨u,?_,b⟩;have a:c[off]?=some u:=by grind
  simp only[Go.part,Sem.run_bind,rY d,Result.andThen_ok,agX,amn,a,Sem.run_pure]
def an1{s:TypeId}{a:Array Field}{f:Nat}{g:Field}{d:Bool}(q:P.underlying s=some (.struct a))(p:a[f]?=some g)
  (o:mY P g.type=some d) (m:cn P g.type=some n) {cs:List AV} {v:AV} {b:Value} (i:an G (.agg cs) b) (h:Den.part d n cs g.offset=some v) (w:World):
  ∃v',(Instr.field s b f).run P w= .ok v' w/\an G v v':=by
 obtain⟨c,rfl,l,e⟩:=i;obtain⟨v',j,k⟩:=Xq o m l e h w;refine⟨v',?_,k⟩;simp only[Instr.field,Sem.run_bind,afr q,Result.andThen_ok,p,asAgg,Sem.run_pure];exact j
def an2{a:TypeId}{g:Bool}(u:P.underlying t=some (.array n a))(s:mY P a=some g)(f:cn P a=some sz)
  {x e v:AV} {b:Value} (l:an G x d) (q:an G e b) (h:qu g n sz x e=some v) (w:World):
  ∃v',(Instr.index t d b).run P w= .ok v' w/\an G v v':=by
 unfold qu at h;split at h
 ·rename_i i cs hint;obtain⟨k,_,rfl⟩:=G7 q hint;split at h
  ·rename_i r;obtain⟨c,rfl,p,j⟩:=l;obtain⟨v',m,o⟩:=Xq s f p j h w;refine⟨v',?_,o⟩;simp only[Instr.index,Sem.run_bind,asIntOf,Sem.run_pure,Result.andThen_ok,afr u];rw[afl r];simp only[Sem.run_bind,nO f,Result.andThen_ok];exact m
  grind
 grind
def an3(n:P.underlying t=some .string){x j v:AV}{g a:Value}(l:an G x g)(m:an G j a)(h:xV x j=some v)(w:World):
  ∃v',(Instr.index t g a).run P w= .ok v' w/\an G v v':=by
 unfold xV at h;split at h
 ·rename_i i s hint;obtain⟨k,_,rfl⟩:=G7 m hint;subst l;split at h
  ·rename_i o;split at h
   ·rename_i b p;cases h;refine⟨.int .u8 b.toNat,?_,by rfl⟩;have f:s[i.toNat]?=some b:=by
     have:s.data[i.toNat]?=some b:=by grind
     obtain⟨d,e⟩:=anu.1 this;have c:i.toNat<s.size:=d;rw[getElem?_pos s i.toNat c];exact akp some e
    simp only[Instr.index,Sem.run_bind,asIntOf,Sem.run_pure,Result.andThen_ok,afr n,afl o,f]
   grind
  grind
 grind
def an4{x:AV}{a:Value}{vs:List AV}{v:AV}(b:an G (.au vs) a)(h:vs[i]?=some v)(w:World):
  ∃v',(Instr.extract a i).run P w= .ok v' w/\an G v v':=by
 obtain⟨c,rfl,e⟩:=b;obtain⟨v',f,d⟩:=e.get i v h;refine⟨v',?_,d⟩;have:c[i]?=some v':=by grind
 simp[Instr.extract,this]
def Al{d r:Nat}{o:Option AV}(h:lF n o d=some r):
  (o=none/\r=d)\/ ∃k i,o=some (.int k i)/\0<=i/\i<=n/\r=i.toNat:=by
 unfold lF at h
 grind
def uu{k:IntKind}{i:Int}{y:Nat}(h:0<=i/\i<=y)(a:BoundsCode)(w:World): (Instr.sliceBound (.int k i) y a).run P w= .ok i.toNat w:=by
 simp[Instr.sliceBound,asIntOf,h]
def lL(G:Gh):Option AV->Option Value->Prop
 |none,o=>o=none
 |some x,o=> ∃v,o=some v/\an G x v
def G8{C6:Bool}{len cap:Nat}(t:len<=cap){lo n:Option AV}{d:Option Value}(a:lL G lo ak)(e:lL G n d){h:Nat}(f:fV len lo n=some (l,h))(w:World):
  (Instr.sliceBounds C6 len cap ak d none).run P w= .ok (l,h,cap) w/\l<=h/\h<=len:=by
 unfold fV at f;split at f
 ·rename_i u p;split at f
  ·rename_i s m;cases f;rcases Al p with⟨rfl,rfl⟩| ⟨k,i,rfl,g,o,rfl⟩
   ·subst e;rcases Al m with⟨rfl,rfl⟩| ⟨k,i,rfl,g,o,rfl⟩
    ·subst a;exact⟨by rfl,by omega,by omega⟩
    ·obtain⟨v,rfl,c⟩:=a;subst c;exact⟨by simp[Instr.sliceBounds,uu ⟨g,o⟩],by omega,by omega⟩
   ·obtain⟨v,rfl,c⟩:=e;simp only[an]at c;subst c;have b: (0:Int)<=i/\i<=cap:=⟨g,by omega⟩;rcases Al m with⟨rfl,rfl⟩| ⟨k,j,rfl,r,q,rfl⟩
    ·simp only[lL]at a;subst a;exact⟨by simp[Instr.sliceBounds,uu b],by omega,by omega⟩
    ·obtain⟨v,rfl,c⟩:=a;simp only[an]at c;subst c;exact⟨by simp[Instr.sliceBounds,uu b,uu ⟨r,q⟩],by omega,by omega⟩
  grind
 grind
def an5(j:P.underlying t=some .string){x v:AV}{lo e:Option AV}{a:Option Value}(f:an G x d)(b:lL G lo ak)(c:lL G e a)
  (h:uj x lo e=some v) (w:World): ∃v',(Instr.sliceAt t d ak a none).run P w= .ok v' w/\an G v v':=by
 unfold uj at h;split at h
 ·rename_i s;split at h
  ·rename_i l k i;cases h;subst f;obtain⟨g,_,_⟩:=G8 (P:=P) (C6:=false) (agW _) b c i w;refine⟨.string (s.extract l k),?_,by rfl⟩;simp[Instr.sliceAt,Instr.slice,afr j,g]
  grind
 grind
def an6{len h:Nat}{cy c:Bool}{a:Option AV}(b:lG len h cy a=some c):
  (a=none/\c=(cy&&h==len))\/ ∃k i,a=some (.int k i)/\ (h:Int)<=i/\i<=len/\c=(i==h):=by
 unfold lG at b
 grind
def an7{len cap:Nat}{cy:Bool}(r:len<=cap)(p:cy=true->cap=len){lo t u:Option AV}{n f:Option Value}(a:lL G lo ak)(o:lL G t n)(g:lL G u f)
  (d:u=none\/t≠none) {h:Nat} {c:Bool} (s:fV len lo t=some (l,h)) (D:lG len h cy u=some c) (w:World):
  ∃m,(Instr.sliceBounds true len cap ak n f).run P w= .ok (l,h,m) w/\l<=h/\h<=len/\h<=m/\m<=cap/\ (c=true->m=h):=by
 rcases an6 D with⟨rfl,rfl⟩| ⟨k,i,rfl,K,J,rfl⟩
 ·subst g;obtain⟨I,N,M⟩:=G8 (P:=P) (C6:=true) r a o s w
  grind
 ·obtain⟨v,rfl,b⟩:=g;simp only[an]at b;subst b;have d:t≠none:=d.resolve_left (by simp);have hm: (0:Int)<=i/\i<=cap:=⟨by omega,by omega⟩;unfold fV at s;split at s
  ·rename_i L C;split at s
   ·rename_i H z;cases s;rcases Al C with⟨rfl,rfl⟩| ⟨k',j,rfl,F,g1,rfl⟩
    ·grind
    ·obtain⟨v,rfl,b⟩:=o;simp only[an]at b;subst b;have A: (0:Int)<=j/\j<=i.toNat:=⟨F,by omega⟩;refine⟨i.toNat,?_,?_,by omega,by omega,by omega,λe=>by simp only[aud]at e;omega⟩
     ·rcases Al z with⟨rfl,rfl⟩| ⟨k',q,rfl,y,x,rfl⟩
      ·simp only[lL]at a;subst a;simp[Instr.sliceBounds,uu hm,uu A]
      ·obtain⟨v,rfl,b⟩:=a;simp only[an]at b;subst b;simp[Instr.sliceBounds,uu hm,uu A,uu ⟨y,x⟩]
     ·rcases Al z with⟨rfl,rfl⟩| ⟨k',q,rfl,y,x,rfl⟩<;>omega
   grind
  grind
theorem Ny{sz:Nat}: ∀ {l:Nat} {af:List (List AV)},(∀el∈af,el.length=sz)->(af.drop l).flatten=af.flatten.drop (l*sz)
 |0,_,_=>by simp
 |l+1,[],_=>by simp
 |l+1,x::xs,hu=>by
  have a:=Ny (l:=l) (af:=xs) λel h=>hu el (by grind)
  simp only[anx,ap1,a];have e: (l+1)*sz=x.length+l*sz:=by grind
  rw[e,auM];simp_all
theorem G9{sz:Nat}: ∀ {n:Nat} {af:List (List AV)},(∀el∈af,el.length=sz)->(af.take n).flatten=af.flatten.take (n*sz)
 |0,_,_=>by simp
 |n+1,[],_=>by simp
 |n+1,x::xs,hu=>by
  have a:=G9 (n:=n) (af:=xs) λel h=>hu el (by grind)
  have e: (n+1)*sz=x.length+n*sz:=by grind
  grind
def Xr{af:List (List AV)}(a: ∀el∈af,el.length=sz): ((af.drop l).take n).flatten=(af.flatten.drop (l*sz)).take (n*sz):=by grind [G9,List.mem_of_mem_drop,Ny]
def bp.slice{af:List (List AV)}(b:bp G af vs)(a: ∀x∈af,x.length=sz):bp G ((af.drop l).take n) ((vs.drop (l*sz)).take (n*sz)):=by
 rw[bp.iff,Xr a];exact((bp.iff.1 b).drop _).take _
def mZ.slice{o:Nat}(c:mZ G b o vs)(l n:Nat):mZ G b (o+l) ((vs.drop l).take n):=by
 intro j u a;rw[aoL]at a;split at a
 ·rw[anp]at a;rw[anv];exact c _ _ a
 grind
def an8{a:Addr}(h:a.spot=none)(k:Nat): (a.add k).spot=none:=by
 unfold Addr.add
 grind
def Nz(a:Addr)(b o k:Nat)(h:a=⟨b,o,none⟩):a.add k=⟨b,o+k,none⟩:=by rw[h,jb]
def an9{z:TypeId}(h1:P.underlying t=some (.slice z))(h2:cn P z=some n){x v:AV}{O:Value}{lo R Q:Option AV}{D A:Option Value}
  (y:an G x O) (J:lL G lo ak) (L:lL G R D) (T:lL G Q A) (K:Q=none\/R≠none)
  (h:fW n x lo R Q=some v) (w:World): ∃v',(Instr.sliceAt t O ak D A).run P w= .ok v' w/\an G v v':=by
 have key: ∀ {a:Option Addr} {len cap:Nat} {cy:Bool} {l h:Nat} {c:Bool},O= .slice a len cap->len<=cap->(cy=true->cap=len)->fV len lo R=some (l,h)->lG len h cy Q=some c->
   ∃m,(Instr.sliceAt t O ak D A).run P w= .ok (.slice (if m=l then a else a.map (·.add (l*n))) (h-l) (m-l)) w/\l<=h/\h<=len/\h<=m/\m<=cap/\ (c=true->m=h):=by
  intro a len cap cy l h c e hle f g H;obtain⟨m,i,r⟩:=an7 (P:=P) hle f J L T K g H w;refine⟨m,?_,r⟩;subst e;simp[Instr.sliceAt,Instr.slice,afr h1,i,nO h2]
 unfold fW at h;split at h
 ·simp only[an]at y;split at h
  ·rename_i p q g H;cases h;obtain⟨l,s⟩:=p;obtain⟨-,k1,k2⟩:=G8 (P:=P) (C6:=false) (agW 0) J L g w;have U:s=0:=by omega
   subst U;obtain⟨m,i,c1,Z,Y,W,M⟩:=key (cy:=true) y (agW _) (λ_=>rfl) g H;refine⟨_,i,?_⟩;have e1:l=0:=by omega
   have e3:m=0:=by omega
   subst e1 e3;simp[an]
  ·cases h
 ·rename_i af cy;split at h
  ·rename_i l s g;split at h
   ·rename_i c H;split at h
    ·rename_i hu;cases h;have hu: ∀el∈af,el.length=n:=λel F=>by simpa using ag6.1 hu el F
     simp only[an]at y;obtain⟨b,o,cap,sz,vs,e,d1,d2,d3,hf,lf,hl⟩:=y;obtain⟨m,i,c1,Z,Y,W,M⟩:=key e d1 d2 g H;refine⟨_,i,?_⟩;have d: ((af.drop l).take (s-l)).length=s-l:=by simp;omega
     by_cases hm:m=l
     ·have:s=l:=by omega
      subst this;rw[afl hm];refine⟨b,o,m-s,n,[],by simp,by simp,λk=>by simp;omega,by simp,λj u hj=>by simp at hj,λu hu=>by simp at hu,by simp[bp]⟩
     ·rw[afi hm];refine⟨b,o+l*n,m-l,n,(vs.drop (l*n)).take ((s-l)*n),?_,?_,λk=>?_,λel F=>hu el (ap0 (alP F)),hf.slice _ _,(lf.drop _).take _,hl.slice hu⟩
      ·simp[d,jb]
      ·rw[d];omega
      ·rw[d];have:=M k;omega
    ·cases h
   ·cases h
  ·cases h
 ·rename_i id aj sz off len cy;split at h
  ·rename_i l s g;split at h
   ·rename_i c H;split at h
    ·rename_i C;subst C;cases h;simp only[an]at y;obtain⟨V,e1,N,cap,e,d1,d2,d3⟩:=y;obtain⟨m,i,c1,Z,Y,W,M⟩:=key e d1.1 d2 g H;refine⟨_,i,V,e1,if m=l then N else N.add (l*sz),m-l,by split<;>simp_all,⟨by omega,by split<;>first|exact d1.2|exact an8 d1.2 _⟩,λk=>by have:=M k;omega,λS=>?_⟩;obtain⟨f1,f2,f3⟩:=d3 S;refine⟨f1,λI=>?_,?_⟩
     ·rw[afi (by omega),Nz _ _ _ _ (f2 (by omega)),aqV,anv]
     ·have: (off+l)*sz+(m-l)*sz<=off*sz+cap*sz:=by
        rw[<-aqV,<-aqV];exact ant _ (by omega)
      omega
    ·cases h
   ·cases h
  ·cases h
 ·rename_i id sz off len;split at h
  ·rename_i l s g;split at h
   ·rename_i C;subst C;cases h;simp only[an]at y;obtain⟨V,N,cap,e,d1,d2⟩:=y;obtain⟨m,i,c1,Z,Y,W,M⟩:=key (cy:=false) (c:=false) e d1 (λhh=>by cases hh) g (by simp[lG]);refine⟨_,i,V,if m=l then N else N.add (l*sz),m-l,by split<;>simp_all,by omega,λS I=>?_⟩;rw[afi (by omega),Nz _ _ _ _ (d2 S (by omega))]
   ·cases h
  ·cases h
 ·cases h
theorem chunks_flatten{sz:Nat}: ∀ {k:Nat} {cs:List AV},k*sz<=cs.length->(chunks sz k cs).flatten=cs.take (k*sz)
 |0,_,_=>by simp[chunks]
 |k+1,cs,h=>by
  have e: (k+1)*sz=sz+k*sz:=by grind
  simp only[chunks,ap1];rw[chunks_flatten (k:=k) (cs:=cs.drop sz) (by grind),e,List.take_add]
theorem C7{sz:Nat}: ∀ {k:Nat} {cs:List AV},k*sz<=cs.length-> ∀el∈chunks sz k cs,el.length=sz
 |0,_,_=>by simp[chunks]
 |k+1,cs,h=>by
  intro el a;simp only[chunks,aiK]at a;rcases a with rfl|a
  ·grind
  ·exact C7 (k:=k) (cs:=cs.drop sz) (by grind) el a
@[simp]theorem NA {sz:Nat}: ∀ {k:Nat} {cs:List AV},(chunks sz k cs).length=k
  |0,_=>rfl
  |k+1,_=>by simp[chunks,NA]
def aoa(I:aU P B av G E w)(N:fo X B av){f:TypeId}(R:P.underlying t=some (.array n f))(Q:cn P f=some sz){x v:AV}{k:Value}{lo H:Option AV}{a:Option Value}
  (m:an G x k) (y:lL G lo ak) (z:lL G H a) (h:qs X n sz x lo H=some v): ∃v',(Instr.sliceAt t k ak a none).run P w= .ok v' w/\an G v v':=by
 unfold qs at h;split at h
 ·rename_i l i O;obtain⟨K,U,T⟩:=G8 (P:=P) (C6:=false) (agW n) y z O w;have key: ∀p,k= .pointer (some p)->(Instr.sliceAt t k ak a none).run P w= .ok (.slice (some (if n=l then p else p.add (l*sz))) (i-l) (n-l)) w:=by
   rintro p rfl;simp[Instr.sliceAt,afr R,Instr.sureAddr,K,nO Q]
  have frozen: ∀ (b o:Nat) (cs:List AV) (vs:List Value) (off:Nat),k= .pointer (some ⟨b,o+off,none⟩)->mZ G b o vs->Leaves vs->aD G cs vs->off+n*sz<=cs.length->
    ∃v',(Instr.sliceAt t k ak a none).run P w= .ok v' w/\an G (.sl (chunks sz (i-l) (cs.drop (off+l*sz))) false) v':=by
   intro b o cs vs off e s q r hle;refine⟨_,key _ e,?_⟩;have L:l*sz+(i-l)*sz<=n*sz:=by rw[<-aqV];exact ant _ (by omega)
   have d: (i-l)*sz<=(cs.drop (off+l*sz)).length:=by simp;omega
   by_cases F:n=l
   ·rw[afl F];have:i=l:=by omega
    subst this;refine⟨b,o+off,n-i,sz,[],by simp,by simp,(λC=>by cases C),by simp[chunks],(λj u M=>by simp at M),(λu hu=>by simp at hu),by simp[chunks,bp]⟩
   ·rw[afi F];refine⟨b,o+(off+l*sz),n-l,sz,(vs.drop (off+l*sz)).take ((i-l)*sz),?_,(by rw[NA];omega),(λC=>by cases C),C7 d,s.slice _ _,(q.drop _).take _,?_⟩
    ·simp[jb,anv]
    ·rw[bp.iff,chunks_flatten d];exact(r.drop _).take _
  split at h
  ·rename_i id off;cases h;simp only[an]at m;obtain⟨S,p,e,c⟩:=m;refine⟨_,key p e,S,_,n-l,rfl,by omega,λJ D=>?_⟩;rw[afi (by omega),Nz _ _ _ _ (c J)]
  ·rename_i cs off;split at h
   ·rename_i hle;cases h;simp only[an]at m;obtain⟨b,o,vs,e,s,q,r⟩:=m;exact frozen b o cs vs off e s q r hle
   ·cases h
  ·rename_i g;split at h
   ·rename_i cs A;split at h
    ·rename_i hle;cases h;simp only[an]at m;obtain⟨vs,s,q,r⟩:=N.rel I A;have:=frozen g 0 cs vs 0 (by simpa using m) s q r (by omega);simpa using this
    ·cases h
   ·cases h
  grind
 grind
end
section
variable{P:Program}{X:Ctx}{B:Nat}{av:World}
variable{G:Gh}{E:AS}{w:World}
def NB{z:AV}(h:xX P t=some z)(G:Gh)(w:World): ∃b,(zeroValue t).run P w= .ok b w/\zeroV P t=some b/\an G z b:=by
 unfold xX at h;split at h
 ·rename_i v a;split at h
  ·rename_i d;cases h;refine⟨v,?_,a,Xn v d⟩;unfold zeroV at a;cases c:P.info? t with
   |none=>grind
   |some i=>
    simp only[c,aqT]at a;simp only[zeroValue,Sem.run_bind,run_typeInfo _ c,Result.andThen_ok,a,Sem.run_pure]
  grind
 grind
def rZ{z:List AV}(h:gC P t=some z)(G:Gh)(w:World):
  ∃a,(zeroValue t).run P w= .ok a w/\zeroV P t=some a/\aD G z a.cells.toList/\Leaves a.cells.toList/\cn P t=some z.length:=by
 unfold gC at h;split at h
 ·rename_i y n c f;split at h
  ·rename_i b;obtain⟨a,e,g,r⟩:=NB c G w;obtain⟨l,d⟩:=r.cells b.1
   grind
  grind
 grind
theorem aob:IntKind.i64.max=9223372036854775807:=by rfl
theorem kT{s:Sem Value}{k:IntKind}{n:Int}{w:World}(h:s.run P w= .ok (.int k n) w): ∃v',s.run P w= .ok v' w/\an G (.int k n) v':=⟨_,h,by rfl⟩
theorem C8{s:Sem Value}{b:Bool}{w:World}(h:s.run P w= .ok (.bool b) w): ∃v',s.run P w= .ok v' w/\an G (.bool b) v':=⟨_,h,by rfl⟩
theorem aCs{s:Sem Value}{b:ByteArray}{w:World}(h:s.run P w= .ok (.string b) w): ∃v',s.run P w= .ok v' w/\an G (.str b) v':=⟨_,h,by rfl⟩
def Xs{c:BinOp}{x y v:AV}{j i:Value}(e:an G x j)(d:an G y i)(h:dg c x y=some v)(ho:c≠ .eql)(f:c≠ .neq)(w:World):
  ∃v',(binOp c t j i).run P w= .ok v' w/\an G v v':=by
 unfold dg at h;split at h
 ·rename_i k a k' b;split at h
  ·rename_i l;subst l;simp only[an]at e d;subst e d;cases c<;>simp[me,vY]at h<;>(simp_all)<;>(try rfl)
   all_goals
    first
     | (subst h;exact kT (by simp[binOp,Op.intArith,Op.intBits]))
     | (subst h;exact C8 (by simp[binOp,Op.intCmp]))
     | (obtain⟨g,rfl⟩:=h;exact kT (by simp[binOp,Op.intDiv,g]))
  grind
 ·rename_i a b;simp only[an]at e d;subst e d;cases c<;>simp[Xf]at h<;>(try exact absurd rfl ho)<;>(try exact absurd rfl f)
  all_goals
   first
    | (subst h;exact C8 (by simp[binOp,Op.stringOp]))
    | (obtain⟨g,rfl⟩:=h
       refine⟨.string (a++b),?_,by simp[an]⟩;simp only[binOp,Op.stringOp,Sem.run_ite];rw[afi (by rw[aob];simp only[Xe]at g;omega)];simp)
 grind
def aoc{c:BinOp}{k k':IntKind}{a b:Int}{v:AV}(h:vZ c k a b=some v)(w:World):
  ∃v',(binOp c t (.int k a) (.int k' b)).run P w= .ok v' w/\an G v v':=by
 unfold vZ at h;split at h
 ·cases h
 ·rename_i d;split at h
  ·cases h;exact kT (by simp[binOp,Op.shift,d])
  ·cases h;exact kT (by simp[binOp,Op.shift,d])
  grind
def aod{c:UnOp}{x v:AV}{b:Value}(a:an G x b)(h:xU c x=some v)(w:World): ∃v',(Op.unary c b).run P w= .ok v' w/\an G v v':=by
 unfold xU at h;split at h
 ·cases h;subst a;exact kT (by rfl)
 ·simp only[vY,afh]at h;subst h;subst a;exact kT (by rfl)
 ·cases h;subst a;exact C8 (by rfl)
 grind
def aoe{s d:TypeId}{k q:IntKind}{n:Int}(b: (P.underlying s).isSome=true)(a:P.underlying d=some (.int k))(w:World):
  (convert s d (.int q n)).run P w= .ok (.int k (k.wrap n)) w:=by
 cases hu:P.underlying s with
 |none=>grind
 |some u=>simp[convert,afr hu,afr a,Conv.intToInt]
def Xt{b:AV}{c:Value}(h:b.Aa=true)(r:an G b c): ∃a,c= .pointer (some a):=by
 cases b<;>simp[AV.Aa]at h<;>simp only[an]at r
 ·grind
 ·grind
 ·grind
 grind
def Xu{b:AV}(h:b.Ab=true)(r:an G b d): ∃a n c,d= .slice (some a) n c:=by
 cases b<;>simp[AV.Ab]at h<;>simp only[an]at r
 ·grind
 ·grind
 grind
def kindOk:EK->TypeDesc->Prop
 |.bool,d=>d= .bool
 |.int,d=> ∃k,d= .int k
 |.str,d=>d= .string
 |.ptr,d=> ∃e,d= .pointer e
 |.sl,d=> ∃e,d= .slice e
 |.map,d=> ∃k e,d= .map k e
 |.cap,_=>False
 |.fn,d=> ∃a b c,d= .func a b c
 |.c9,d=> ∃ms,d= .interface ms
 |.z9 _,d=> ∃ms,d= .interface ms
 |.agg _,_=>False
def Xv(P:Program)(t:TypeId):Prop:= ∃i q,P.info? t=some i/\i.comparable=true/\P.underlying t=some (.int q)
def Xw{a ty:TypeId}{e:Array (String×TypeId)}(f:P.underlying t=some (.interface e))(d:Nat)(c b:Value)(w:World)
  (h:a≠ty->r=false) (m:a=ty-> ∃i,P.info? a=some i/\i.comparable=true/\ (Op.equalIn d a c b).run P w= .ok r w): (Op.equalIn (d+1) t (.iface a c) (.iface ty b)).run P w= .ok r w:=by
 rw[Op.equalIn];simp only[Sem.run_bind,afr f,Result.andThen_ok];by_cases g:a=ty
 ·subst g;obtain⟨i,l,k,j⟩:=m rfl;simp[typeInfo,l,k,j]
 simp_all
def Xx{k:EK}{u:TypeDesc}{x y:AV}{F D:Value}(l:P.underlying t=some u)(j:kindOk k u)(g:an G x F)(f:an G y D)(h:qq k x y=some r)(d:Nat)(w:World)(I: ∀ts,k= .z9 ts->1<=d/\ ∀t∈ts,Xv P t):
  (Op.equalIn (d+1) t F D).run P w= .ok r w:=by
 unfold qq at h;split at h
 case h_1=>
  cases h;simp only[an]at g f;subst g f;simp only[kindOk]at j;subst j;exact run_equalIn_bool w d t _ _ l
 case h_2=>
  split at h
  ·rename_i e;subst e;cases h;simp only[an]at g f;subst g f;obtain⟨k',rfl⟩:=j;exact run_equalIn_int w d t _ _ _ _ l
  ·cases h
 case h_3=>
  cases h;simp only[an]at g f;subst g f;simp only[kindOk]at j;subst j;exact run_equalIn_string w d t _ _ l
 case h_4=>
  cases h;simp only[an]at g f;subst g f;obtain⟨e,rfl⟩:=j;simp[Op.equalIn,afr l]
 case h_5=>
  split at h
  ·rename_i m;cases h;simp only[an]at g;subst g;obtain⟨e,rfl⟩:=j;obtain⟨a,rfl⟩:=Xt m f;simp[Op.equalIn,afr l]
  ·cases h
 case h_6=>
  split at h
  ·rename_i m;cases h;simp only[an]at f;subst f;obtain⟨e,rfl⟩:=j;obtain⟨a,rfl⟩:=Xt m g;simp[Op.equalIn,afr l]
  ·cases h
 case h_7=>
  cases h;simp only[an]at g f;subst g f;obtain⟨e,rfl⟩:=j;simp[Op.equalIn,afr l]
 case h_8=>
  split at h
  ·rename_i m;cases h;simp only[an]at g;subst g;obtain⟨e,rfl⟩:=j;obtain⟨a,n,c,rfl⟩:=Xu m f;simp[Op.equalIn,afr l]
  ·cases h
 case h_9=>
  split at h
  ·rename_i m;cases h;simp only[an]at f;subst f;obtain⟨e,rfl⟩:=j;obtain⟨a,n,c,rfl⟩:=Xu m g;simp[Op.equalIn,afr l]
  ·cases h
 case h_10=>
  cases h;simp only[an]at g f;subst g f;obtain⟨_,_,rfl⟩:=j;simp[Op.equalIn,afr l]
 case h_11=>
  cases h;simp only[an]at g f;subst g;obtain⟨_,_,rfl,_⟩:=f;obtain⟨_,_,rfl⟩:=j;simp[Op.equalIn,afr l]
 case h_12=>
  cases h;simp only[an]at g f;subst f;obtain⟨_,_,rfl,_⟩:=g;obtain⟨_,_,rfl⟩:=j;simp[Op.equalIn,afr l]
 case h_13=>
  cases h;simp only[an]at g f;subst g f;obtain⟨_,_,_,rfl⟩:=j;simp[Op.equalIn,afr l]
 case h_14=>
  cases h;simp only[an]at g f;subst g;obtain⟨_,_,_,rfl,_⟩:=f;obtain⟨_,_,_,rfl⟩:=j;simp[Op.equalIn,afr l]
 case h_15=>
  cases h;simp only[an]at g f;subst f;obtain⟨_,_,_,rfl,_⟩:=g;obtain⟨_,_,_,rfl⟩:=j;simp[Op.equalIn,afr l]
 case h_16=>
  cases h;simp only[an]at g f;subst g f;obtain⟨_,rfl⟩:=j;simp[Op.equalIn,afr l]
 case h_17=>
  cases h;simp only[an]at g f;subst g;obtain⟨_,rfl,_⟩:=f;obtain⟨_,rfl⟩:=j;simp[Op.equalIn,afr l]
 case h_18=>
  cases h;simp only[an]at g f;subst f;obtain⟨_,rfl,_⟩:=g;obtain⟨_,rfl⟩:=j;simp[Op.equalIn,afr l]
 case h_19=>
  rename_i ts tx q a ty H b;simp only[an]at g f;obtain⟨_,rfl,rfl⟩:=g;obtain⟨_,rfl,rfl⟩:=f;obtain⟨ms,rfl⟩:=j;obtain⟨J,o⟩:=I ts rfl;split at h
  ·rename_i p;subst p;split at h
   ·rename_i A;obtain⟨A,rfl⟩:=A;cases h;obtain⟨i,H,z,v,s⟩:=o tx (by simpa using A);obtain⟨C,rfl⟩: ∃C,d=C+1:=⟨d-1,by omega⟩;exact Xw l _ _ _ w (λe=>absurd rfl e) λ_=>⟨i,z,v,run_equalIn_int w C tx q H a b s⟩
   ·cases h
  ·rename_i p;cases h;exact Xw l _ _ _ w (λ_=>rfl) λe=>absurd e p
 case h_20=>cases h
def Xy{c d:List EK}{a b:List AV}(j:a.length=(c++d).length)(i:b.length=(c++d).length)(h:iZ (c++d) a b=some r):
  ∃e,iZ c (a.take c.length) (b.take c.length)=some e/\ (e=false->r=false)/\ (e=true->iZ d (a.drop c.length) (b.drop c.length)=some r):=by
 induction c generalizing a b with
 |nil=>exact⟨true,by rfl,by simp,λ_=>by grind⟩
 |cons k f g=>
  cases a with
  |nil=>grind
  |cons x xs=>
   cases b with
   |nil=>grind
   |cons y ys=>
    simp only[akr,iZ]at h;simp only[ag5,ark,anx,iZ]
    grind
def x6:TypeDesc->Bool
 |.struct _|.array _ _=>true
 |_=>false
def x7{u:TypeDesc}(h:P.underlying t=some u):mY P t=some (x6 u):=by
 unfold mY;rw[h];cases u<;>rfl
def Ha(P:Program)(d:Nat)(t:TypeId)(a:List EK):Prop:=
 ∀ (D:Nat),d<=D-> ∀ (G:Gh) (w:World) (xs ys:Array Value) (as bs:List AV) (off:Nat) (r:Bool),cn P t=some a.length->aD G as xs.toList->aD G bs ys.toList->Leaves xs.toList->Leaves ys.toList->
   off+a.length<=as.length->off+a.length<=bs.length->iZ a ((as.drop off).take a.length) ((bs.drop off).take a.length)=some r->
   ∃x y,(Go.part t xs off).run P w= .ok x w/\ (Go.part t ys off).run P w= .ok y w/\ (Op.equalIn D t x y).run P w= .ok r w
def Xz{d:Nat}(F: ∀t a,nN P d t=some a->Ha P d t a): ∀ (fs:List Field) (off:Nat) (a:List EK),Ae P (nN P d) fs off=some a->
  ∀ (D:Nat),d<=D-> ∀ (G:Gh) (w:World) (xs ys:Array Value) (as bs:List AV) (r:Bool),aD G as xs.toList->aD G bs ys.toList->Leaves xs.toList->Leaves ys.toList->
  off+a.length<=as.length->off+a.length<=bs.length->iZ a ((as.drop off).take a.length) ((bs.drop off).take a.length)=some r->
  (Op.eqFields D xs ys fs).run P w= .ok r w:=by
 intro fs
 induction fs with
 |nil=>
  intro off a h D g G w xs ys as bs r _ _ _ _ _ _ he;simp only[Ae,afh]at h;subst h;simp[iZ]at he;subst he;simp[Op.eqFields]
 |cons f fs q=>
  intro off a h D g G w xs ys as bs r k j f1 f2 A z he;simp only[Ae]at h;split at h
  ·rename_i c e;split at h
   ·rename_i v;obtain⟨u,ho,s⟩:=v;cases b:Ae P (nN P d) fs (off+c.length)with
    |none=>simp[b]at h
    |some p=>
     simp only[b,ag0,afh]at h;subst h;simp only[agU]at A z;obtain⟨i,e1,C,e3⟩:=Xy (by simp;omega) (by simp;omega) he;rw[arA,arA,agU,ari (Nat.le_add_right _ _)]at e1;obtain⟨x,y,o,n,m⟩:=F f.type c e D g G w xs ys as bs off i s k j f1 f2 (by omega) (by omega) e1;simp only[Op.eqFields,ho];rw[afl u];simp only[Sem.run_bind,o,n,m,Result.andThen_ok];cases i with
     |false=>simp[C rfl]
     |true=>
      simp only[awz,agX,amn];have l:=e3 rfl;rw[ayE,ayE,aqX,aqX,agU,anb]at l;exact q (off+c.length) p b D g G w xs ys as bs r k j f1 f2 (by omega) (by omega) l
   grind
  grind
def NC{d:Nat}{u:TypeDesc}{k:EK}(o:P.underlying t=some u)(q:kindOk k u)(g:mY P t=some false)(p: ∀ts,k≠ .z9 ts):Ha P (d+1) t [k]:=by
 intro D H G w xs ys as bs off r F l j f1 f2 v s he;simp only[arF]at v s he;have C:as[off]?=some (as[off]'(by omega)):=afu _;have A:bs[off]?=some (bs[off]'(by omega)):=afu _;obtain⟨x,n,rx⟩:=l.get off _ C;obtain⟨y,m,i⟩:=j.get off _ A;have e1: (as.drop off).take 1=[as[off]'(by omega)]:=by rw[aph (by omega)];rfl
 have z: (bs.drop off).take 1=[bs[off]'(by omega)]:=by rw[aph (by omega)];rfl
 rw[e1,z]at he;have c:qq k as[off] bs[off]=some r:=by
  simp only[iZ]at he;split at he
  ·rename_i h;rw[h];exact he
  ·rename_i h;rw[h];exact he
  ·cases he
 have b:xs[off]?=some x:=by simpa using n
 have a:ys[off]?=some y:=by simpa using m
 refine⟨x,y,by simp[Go.part,rY g,b],by simp[Go.part,rY g,a],?_⟩;obtain⟨f,rfl⟩: ∃f,D=f+1:=⟨D-1,by omega⟩;exact Xx o q rx i c f w (λts e=>absurd e (p ts))
theorem ND{D:Nat}{e:TypeId}{a:List EK}(l:Ha P D e a)(g:cn P e=some a.length){G:Gh}{w:World}{xs ys:Array Value}{as bs:List AV}(f:aD G as xs.toList)(d:aD G bs ys.toList)(i:Leaves xs.toList)(h:Leaves ys.toList):
  ∀ (m j:Nat) (r:Bool),(j+m)*a.length<=as.length->(j+m)*a.length<=bs.length->iZ (List.replicate m a).flatten ((as.drop (j*a.length)).take (m*a.length)) ((bs.drop (j*a.length)).take (m*a.length))=some r->
  (Op.eqItems D e a.length xs ys (List.range' j m)).run P w= .ok r w
 |0,j,r,_,_,he=>by
  simp[iZ]at he;subst he;simp[Op.eqItems]
 |m+1,j,r,t,s,he=>by
  have hm: (m+1)*a.length=a.length+m*a.length:=by rw[aq9];omega
  have q: (j+(m+1))*a.length=j*a.length+(a.length+m*a.length):=by rw[aqV,hm]
  rw[q]at t s;rw[atu,ap1,hm]at he;obtain⟨c,e1,u,e3⟩:=Xy (by simp;omega) (by simp;omega) he;rw[arA,arA,ari (Nat.le_add_right _ _)]at e1;obtain⟨x,y,p,o,n⟩:=l D (agW _) G w xs ys as bs (j*a.length) c g f d i h (by omega) (by omega) e1;rw[List.range'_succ];simp only[Op.eqItems,Sem.run_bind,p,o,n,Result.andThen_ok];cases c with
  |false=>simp[u rfl]
  |true=>
   simp only[awz,agX,amn];have k:=e3 rfl;rw[ayE,ayE,aqX,aqX,anb]at k;have b: (j+1)*a.length=j*a.length+a.length:=aq9 _ _;refine ND l g f d i h m (j+1) r ?_ ?_ ?_
   ·have: (j+1+m)*a.length=j*a.length+(a.length+m*a.length):=by rw[aqV,b];omega
    omega
   ·have: (j+1+m)*a.length=j*a.length+(a.length+m*a.length):=by rw[aqV,b];omega
    omega
   ·rw[b];exact k
theorem Hb: ∀ (d:Nat) (t:TypeId) (b:List EK),nN P d t=some b->Ha P d t b
 |0,_,_,h=>by trivial
 |d+1,t,b,h=>by
  simp only[nN]at h;split at h
  ·rename_i hu;cases h;exact NC (k:=.bool) hu rfl (x7 hu) (by simp)
  ·rename_i hu;cases h;exact NC (k:=.int) hu ⟨_,rfl⟩ (x7 hu) (by simp)
  ·rename_i hu;cases h;exact NC (k:=.str) hu rfl (x7 hu) (by simp)
  ·rename_i fields hu;split at h
   ·rename_i F;intro D K G w xs ys as bs off r j p o f1 f2 A z he;have s: (Go.part t xs off).run P w= .ok (.agg (xs.extract off (off+b.length))) w:=by simp[Go.part,rY (x7 hu),nO j,x6]
    have q: (Go.part t ys off).run P w= .ok (.agg (ys.extract off (off+b.length))) w:=by simp[Go.part,rY (x7 hu),nO j,x6]
    refine⟨_,_,s,q,?_⟩;obtain⟨f,rfl⟩: ∃f,D=f+1:=⟨D-1,by omega⟩;have x:P.fieldsOf t=fields:=by simp[Program.fieldsOf,hu]
    rw[run_equalIn_struct w f t _ _ (by rw[x];exact hu) F,x];have ex: (xs.extract off (off+b.length)).toList=(xs.toList.drop off).take b.length:=by rw[awh,arU];simp
    have m: (ys.extract off (off+b.length)).toList=(ys.toList.drop off).take b.length:=by rw[awh,arU];simp
    refine Xz (λt b h=>Hb d t b h) fields.toList 0 b h f (by omega) G w _ _ ((as.drop off).take b.length) ((bs.drop off).take b.length) r (by rw[ex];exact(p.drop _).take _) (by rw[m];exact(o.drop _).take _)
     (by rw[ex];exact(f1.drop _).take _) (by rw[m];exact(f2.drop _).take _) (by simp;omega) (by simp;omega) ?_
    rw[amy,amy,arA,arA,azm];exact he
   ·cases h
  ·rename_i n e hu;split at h
   ·rename_i a H;split at h
    ·rename_i J;obtain⟨l,_⟩:=J;cases h;intro D K G w xs ys as bs off r j p o f1 f2 A z he;have u: (List.replicate n a).flatten.length=n*a.length:=by simp
     rw[u]at A z he j;have s: (Go.part t xs off).run P w= .ok (.agg (xs.extract off (off+n*a.length))) w:=by simp[Go.part,rY (x7 hu),nO j,x6]
     have q: (Go.part t ys off).run P w= .ok (.agg (ys.extract off (off+n*a.length))) w:=by simp[Go.part,rY (x7 hu),nO j,x6]
     refine⟨_,_,s,q,?_⟩;obtain⟨f,rfl⟩: ∃f,D=f+1:=⟨D-1,by omega⟩;have c:=l;unfold cn at c;obtain⟨i,I,C⟩:=agY.1 c;rw[run_equalIn_array w f _ _ hu I];have g:P.cellsOf e=a.length:=by
      unfold Program.cellsOf;rw[c];rfl
     rw[g,aAl];have ex: (xs.extract off (off+n*a.length)).toList=(xs.toList.drop off).take (n*a.length):=by rw[awh,arU];simp
     have m: (ys.extract off (off+n*a.length)).toList=(ys.toList.drop off).take (n*a.length):=by rw[awh,arU];simp
     refine ND (as:=(as.drop off).take (n*a.length)) (bs:=(bs.drop off).take (n*a.length)) (λv y=>Hb d e a H v (by omega)) l (by rw[ex];exact(p.drop _).take _) (by rw[m];exact(o.drop _).take _)
      (by rw[ex];exact(f1.drop _).take _) (by rw[m];exact(f2.drop _).take _) n 0 r (by simp;omega) (by simp;omega) ?_
     rw[Nat.zero_mul,amy,amy,arA,arA,azm];exact he
    ·cases h
   ·cases h
  grind
end
section
variable{P:Program}{X:Ctx}{B:Nat}{av:World}
variable{G:Gh}{E:AS}{w:World}
def x8:Operand->Bool
 |.const _=>true
 |_=>false
def Am(c:BinOp)(t:TypeId)(x y:Operand)(a b:Value)(e:a= .nilIface->b= .nilIface->(x8 x||x8 y)=true)(d: ∀xs ys,a= .agg xs->b= .agg ys->P.eqGuardType P.depth t=false)(w:World):
  (eqGuard c t x y a b).run P w= .ok () w:=by
 cases c<;>(simp_all)<;>cases a<;>(try(simp[eqGuard];done))<;>cases b<;>(try(simp[eqGuard];done))
 all_goals first
  | (have h:=d _ _ rfl rfl;simp[eqGuard,arC,h];done)
  | (have h:=e rfl rfl;cases x<;>cases y<;>simp[x8]at h<;>simp[eqGuard])
def C9:Value->Bool
 |.int _ _|.float _ _|.complex _ _ _|.string _=>false
 |_=>true
def binOp_eql{x y:Value}(a:C9 x=true)(t:TypeId):binOp .eql t x y=(do pure (.bool (<-Op.equal t x y))):=by
 cases x<;>simp[C9]at a<;>first|rfl|rfl
def binOp_neq{x y:Value}(a:C9 x=true)(t:TypeId):binOp .neq t x y=(do pure (.bool (!(<-Op.equal t x y)))):=by
 cases x<;>simp[C9]at a<;>first|rfl|rfl
def uv:AV->Bool
 |.int _ _|.str _|.au _|.iB=>false
 |_=>true
def aof{x:AV}{a:Value}(h:uv x=true)(r:an G x a):C9 a=true:=by
 cases x<;>simp[uv]at h<;>simp only[an]at r
 all_goals first
  |rfl
  | (obtain⟨_,rfl,_⟩:=r;rfl)
  | (obtain⟨_,_,rfl,_⟩:=r;rfl)
  | (obtain⟨_,_,_,rfl,_⟩:=r;rfl)
  | (obtain⟨_,_,_,_,rfl,_⟩:=r;rfl)
  | (obtain⟨_,_,_,_,_,rfl,_⟩:=r;rfl)
  | (obtain⟨⟨_,rfl⟩,_⟩:=r;rfl)
def aog{x:AV}{xs:Array Value}(h:x.cb=false)(r:an G x (.agg xs)): ∃cs,x= .agg cs:=by
 cases x<;>simp[AV.cb]at h<;>simp[an]at r
 grind
def aoh{x y:Operand}{k:EK}(h:xY P t x y=some k):
  (∃u,P.underlying t=some u/\kindOk k u/\ (k= .c9->(x8 x||x8 y)=true)/\ ∀ts,k= .z9 ts-> ∀t∈ts,Xv P t)\/
  (∃a u,P.underlying t=some u/\x6 u=true/\k= .agg a/\nN P 10 t=some a/\P.eqGuardType P.depth t=false):=by
 unfold xY at h;split at h
 ·rename_i hu;cases h;exact .inl ⟨_,hu,rfl,by simp,by simp⟩
 ·rename_i hu;cases h;exact .inl ⟨_,hu,⟨_,rfl⟩,by simp,by simp⟩
 ·rename_i hu;cases h;exact .inl ⟨_,hu,rfl,by simp,by simp⟩
 ·rename_i hu;cases h;exact .inl ⟨_,hu,⟨_,rfl⟩,by simp,by simp⟩
 ·rename_i hu;cases h;exact .inl ⟨_,hu,⟨_,rfl⟩,by simp,by simp⟩
 ·rename_i hu;cases h;exact .inl ⟨_,hu,⟨_,_,rfl⟩,by simp,by simp⟩
 ·rename_i hu;cases h;exact .inl ⟨_,hu,⟨_,_,_,rfl⟩,by simp,by simp⟩
 ·rename_i hu;split at h
  ·cases h;exact .inl ⟨_,hu,⟨_,rfl⟩,by simp[x8],by simp⟩
  ·cases h;exact .inl ⟨_,hu,⟨_,rfl⟩,by simp[x8],by simp⟩
  ·cases h;refine .inl ⟨_,hu,⟨_,rfl⟩,by simp,λts d t b=>?_⟩;cases d;simp only[Xg,air]at b;obtain⟨_,b⟩:=b;split at b
   ·rename_i i q g f;exact⟨i,q,g,b,f⟩
   ·cases b
 ·rename_i hu;split at h
  ·rename_i e;cases c:nN P 10 t with
   |none=>simp[c]at h
   |some a=>simp[c]at h;exact .inr ⟨a,_,hu,rfl,h.symm,rfl,e⟩
  ·cases h
 ·rename_i hu;split at h
  ·rename_i e;cases c:nN P 10 t with
   |none=>simp[c]at h
   |some a=>simp[c]at h;exact .inr ⟨a,_,hu,rfl,h.symm,rfl,e⟩
  ·cases h
 grind
def aoi{k:EK}{x y:AV}{u:TypeDesc}(b:kindOk k u):ea k x y=qq k x y:=by
 cases k with
 |agg a=>trivial
 |_=>rfl
def XD{b:AV}(h:b.Aa=true):uv b=true/\ (∀cs,b≠ .agg cs)/\b≠ .ew/\b.cb=false:=by
 cases b<;>simp[AV.Aa]at h<;>simp[uv,AV.cb]
def XE{b:AV}(h:b.Ab=true):uv b=true/\ (∀cs,b≠ .agg cs)/\b≠ .ew/\b.cb=false:=by
 cases b<;>simp[AV.Ab]at h<;>simp[uv,AV.cb]
def aoj{k:EK}{x y:AV}(h:qq k x y=some r):
  (k= .int/\ ∃q a b,x= .int q a/\y= .int q b/\r=(a==b))\/ (k= .str/\ ∃a b,x= .str a/\y= .str b/\r=(a.toList==b.toList))\/ (uv x=true/\ (∀cs,x≠ .agg cs)/\ (∀cs,y≠ .agg cs)/\ (x= .ew->k= .c9)/\x.cb=false/\y.cb=false):=by
 unfold qq at h;split at h
 case h_1=>exact .inr (.inr (by simp[uv,AV.cb]))
 case h_2=>grind
 case h_3=>grind
 case h_5=>
  split at h
  ·rename_i f;obtain⟨_,d,g,c⟩:=XD f;exact .inr (.inr ⟨rfl,by simp,d,by simp,rfl,c⟩)
  ·cases h
 case h_6=>
  split at h
  ·rename_i f;obtain⟨i,d,g,c⟩:=XD f;exact .inr (.inr ⟨i,d,by simp,λe=>absurd e g,c,rfl⟩)
  ·cases h
 case h_8=>
  split at h
  ·rename_i f;obtain⟨_,d,g,c⟩:=XE f;exact .inr (.inr ⟨rfl,by simp,d,by simp,rfl,c⟩)
  ·cases h
 case h_9=>
  split at h
  ·rename_i f;obtain⟨i,d,g,c⟩:=XE f;exact .inr (.inr ⟨i,d,by simp,λe=>absurd e g,c,rfl⟩)
  ·cases h
 case h_20=>cases h
 all_goals exact .inr (.inr (by simp[uv,AV.cb]))
def aok{x:AV}(h:x.cb=false)(r:an G x .nilIface):x= .ew:=by
 cases x<;>simp[AV.cb]at h<;>simp[an]at r;rfl
def XF{A z:Operand}{k:EK}(hk:xY P t A z=some k){x y:AV}{m l:Value}(j:an G x m)(v:an G y l)(h:ea k x y=some r)(w:World):
  (eqGuard .eql t A z m l).run P w= .ok () w/\ (binOp .eql t m l).run P w= .ok (.bool r) w/\ (eqGuard .neq t A z m l).run P w= .ok () w/\ (binOp .neq t m l).run P w= .ok (.bool !r) w:=by
 rcases aoh hk with⟨u,hu,C,F,D⟩| ⟨K,u,hu,I,rfl,f,hg⟩
 ·rw[aoi C]at h;rcases aoj h with⟨rfl,q,a,b,rfl,rfl,rfl⟩| ⟨rfl,a,b,rfl,rfl,rfl⟩| ⟨h1,h2,h3,h4,V,h6⟩
  ·subst j v;exact⟨Am _ _ _ _ _ _ (by simp) (by simp) w,by simp[binOp,Op.intCmp],Am _ _ _ _ _ _ (by simp) (by simp) w,by simp[binOp,Op.intCmp,bne]⟩
  ·simp only[an]at j v;subst j v;exact⟨Am _ _ _ _ _ _ (by simp) (by simp) w,by simp[binOp,Op.stringOp],Am _ _ _ _ _ _ (by simp) (by simp) w,by simp[binOp,Op.stringOp]⟩
  ·have S:=aof h1 j;have e: (Op.equal t m l).run P w= .ok r w:=Xx hu C j v h 9999 w (λts L=>⟨by decide,D ts L⟩);have g: ∀op,(eqGuard op t A z m l).run P w= .ok () w:=λop=>by
    refine Am _ _ _ _ _ _ (λQ _=>?_) (λxs ys Q _=>?_) w
    ·subst Q;exact F (h4 (aok V j))
    ·subst Q;obtain⟨cs,rfl⟩:=aog V j;exact absurd rfl (h2 cs)
   exact⟨g _,by simp[binOp_eql S,e],g _,by simp[binOp_neq S,e]⟩
 ·unfold ea at h;split at h
  ·rename_i c xs ys he;cases he;split at h
   ·rename_i o;simp only[an]at j v;obtain⟨s,rfl,lx,Y⟩:=j;obtain⟨J,rfl,ly,W⟩:=v;have g: ∀op,(eqGuard op t A z (.agg s) (.agg J)).run P w= .ok () w:=λop=>Am _ _ _ _ _ _ (by simp) (λ_ _ _ _=>hg) w
    have e: (Op.equal t (.agg s) (.agg J)).run P w= .ok r w:=by
     rw[show(10:Nat)=9+1 from rfl,nN,hu]at f;cases u<;>simp only[x6,agX]at I
     ·rename_i n e;simp only at f;split at f
      ·rename_i c M;split at f
       ·rename_i O;obtain⟨H,_⟩:=O;cases f;have d:=H;unfold cn at d;obtain⟨i,hi,r0⟩:=agY.1 d;show(Op.equalIn (9999+1) t (.agg s) (.agg J)).run P w=_;rw[run_equalIn_array w 9999 _ _ hu hi];have p:P.cellsOf e=c.length:=by
         unfold Program.cellsOf;rw[d];rfl
        rw[p,aAl];have N: (List.replicate n c).flatten.length=n*c.length:=by simp
        rw[N]at o;refine ND (as:=xs) (bs:=ys) (λR U=>Hb 9 e c M R (by omega)) H lx ly Y W n 0 r (by rw[ana];omega) (by rw[ana];omega) ?_;rw[Nat.zero_mul,amy,amy,<-o.1,ag4,o.1,<-o.2,ag4];exact h
       ·cases f
      ·cases f
     ·rename_i fs;simp only at f;split at f
      ·rename_i hp;have T:P.fieldsOf t=fs:=by simp[Program.fieldsOf,hu]
       show(Op.equalIn (9999+1) t (.agg s) (.agg J)).run P w=_;rw[run_equalIn_struct w 9999 t _ _ (by rw[T];exact hu) hp,T];refine Xz (λt K h=>Hb 9 t K h) fs.toList 0 K f 9999 (by omega) G w _ _ xs ys r lx ly Y W (by omega) (by omega) ?_;rw[amy,amy,<-o.1,ag4,o.1,<-o.2,ag4];exact h
      ·cases f
    exact⟨g _,by simp[binOp_eql (x:=.agg s) rfl,e],g _,by simp[binOp_neq (x:=.agg s) rfl,e]⟩
   ·cases h
  ·cases h
  ·rename_i n1 Z;first|exact(n1 _ rfl).elim|exact(Z _ rfl).elim
def aol{a:TypeId}{u:TypeDesc}(g:P.underlying a=some u)(b: ∀ms,u≠ .interface ms){z:AV}(o:xX P a=some z){x v:AV}{l:Value}{j:Bool}(f:an G x l)(h:Ac z x a j=some v)(n:TypeId)(w:World):
  ∃v',(Instr.typeAssert l n a j).run P w= .ok v' w/\an G v v':=by
 obtain⟨d,e,_,rz⟩:=NB o G w;unfold Ac at h;split at h
 ·simp only[an]at f;subst f;split at h
  ·rename_i c;subst c;cases h;refine⟨.tuple #[d,.bool false],?_,⟨_,rfl,⟨d,_,rfl,rz,⟨_,_,rfl,by simp[an],by simp[aD]⟩⟩⟩⟩;cases u<;>first|exact absurd rfl (b _)|simp[Instr.typeAssert,afr g,e]
  ·cases h
 ·rename_i p y;simp only[an]at f;obtain⟨i,rfl,m⟩:=f;split at h
  ·rename_i k;subst k;cases h;cases j with
   |true=>
    refine⟨.tuple #[i,.bool true],?_,⟨_,rfl,⟨i,_,rfl,m,⟨_,_,rfl,by simp[an],by simp[aD]⟩⟩⟩⟩;cases u<;>first|exact absurd rfl (b _)|simp[Instr.typeAssert,afr g]
   |false=>
    refine⟨i,?_,m⟩;cases u<;>first|exact absurd rfl (b _)|simp[Instr.typeAssert,afr g]
  ·rename_i k;split at h
   ·rename_i c;subst c;cases h;refine⟨.tuple #[d,.bool false],?_,⟨_,rfl,⟨d,_,rfl,rz,⟨_,_,rfl,by simp[an],by simp[aD]⟩⟩⟩⟩;cases u<;>first|exact absurd rfl (b _)|simp[Instr.typeAssert,afr g,e,k]
   ·cases h
 ·cases h
def aom{u:TypeDesc}(a:P.underlying t=some u)(b: ∀ms,u≠ .interface ms)(x:Value)(w:World): (Instr.makeInterface t x).run P w= .ok (.iface t x) w:=by
 cases u<;>first|grind|simp[Instr.makeInterface,run_underlying a]
def aon{x v:AV}(c:an G x d)(h:v8 x=some v):v=x/\ ((∃a,d= .pointer (some a))\/ (∃f a b,d= .func (.func f) a b)\/ ∃f a b,d= .func (.yield f) a b):=by
 unfold v8 at h;split at h
 all_goals(try cases h)
 ·simp only[an]at c;grind
 ·simp only[an]at c;grind
 ·simp only[an]at c;grind
 ·simp only[an]at c;grind
 ·simp only[an,kR]at c;grind
 ·simp only[an,kR]at c;grind
theorem eN.length: ∀ {es:List (AV×AV)} {ms:List MapEntry},eN G es ms->ms.length=es.length
 | [],ms,r=>by simp only[eN]at r;grind
 | (k,v)::es,ms,r=>by
   obtain⟨m,q,rfl,_,_,_,h⟩:=r;simp[eN.length h]
def NF(f:aU P B av G E w){ty:TypeId}{u:TypeDesc}{k:EK}(c:P.underlying t=some u)(b:kindOk k u){x v:AV}(a:an G x d)(h:fj E k x=some v):
  ∃v',(Builtin.len_ #[t] ty #[d]).run P w= .ok v' w/\an G v v':=by
 unfold fj at h;split at h
 ·cases h;simp only[an]at a;subst a;simp only[kindOk]at b;subst b;exact kT (by simp[Builtin.len_,afr c,goInt])
 ·cases h;simp only[an]at a;subst a;obtain⟨e,rfl⟩:=b;exact kT (by simp[Builtin.len_,afr c,goInt])
 ·cases h;simp only[an]at a;obtain⟨_,_,_,_,_,rfl,_⟩:=a;obtain⟨e,rfl⟩:=b;exact kT (by simp[Builtin.len_,afr c,goInt])
 ·cases h;simp only[an]at a;obtain⟨_,_,_,_,rfl,_⟩:=a;obtain⟨e,rfl⟩:=b;exact kT (by simp[Builtin.len_,afr c,goInt])
 ·cases h;simp only[an]at a;obtain⟨_,_,_,rfl,_⟩:=a;obtain⟨e,rfl⟩:=b;exact kT (by simp[Builtin.len_,afr c,goInt])
 ·cases h;simp only[an]at a;subst a;obtain⟨_,e,rfl⟩:=b;exact kT (by simp[Builtin.len_,afr c,goInt])
 ·rename_i id;split at h
  ·rename_i es he;cases h;obtain⟨l,ms,clock,j,hm⟩:=f.obj id _ he a.GZ;simp only[an]at a;obtain⟨_,r,rfl,g⟩:=a;obtain⟨_,e,rfl⟩:=b;rw[g l];have i:ms.size=es.length:=by rw[<-anr];exact hm.length
   exact kT (by simp[Builtin.len_,afr c,goInt,getObj,Sem.run,j,i])
  ·cases h
 ·exact b.elim
 ·exact b.elim
 ·exact b.elim
 ·cases h
def aoo{ty:TypeId}(b:P.underlying t=some (.slice e)){x v:AV}(a:an G x d)(h:fj E .cap x=some v)(w:World):
  ∃v',(Builtin.cap_ #[t] ty #[d]).run P w= .ok v' w/\an G v v':=by
 unfold fj at h;split at h<;>first|grind|skip
 all_goals simp_all
 ·cases h;subst a;exact kT (by simp[Builtin.cap_,afr b,goInt])
 ·cases h;simp only[an]at a;obtain⟨_,_,cap,_,_,rfl,_,c,_⟩:=a;rw[<-c trivial];exact kT (by simp[Builtin.cap_,afr b,goInt])
 ·cases h;simp only[an]at a;obtain⟨_,_,_,cap,rfl,_,c,_⟩:=a;rw[<-c trivial];exact kT (by simp[Builtin.cap_,afr b,goInt])
theorem NG{f:AV->AV->Option AV}{g:Value->Value->Sem Value}(m: ∀a b c a' o,f a b=some c->an G a a'->an G b o-> ∃n,(∀w,(g a' o).run P w= .ok n w)/\an G c n):
  ∀ (xs:List AV) (x:AV) (v:AV) (j:Value) (d:List Value),fX f (x::xs)=some v->an G x j->aD G xs d-> ∀w,∃v',(d.foldlM g j).run P w= .ok v' w/\an G v v'
 | [],x,v,j,d,h,l,i,w=>by
   subst i;unfold fX at h;simp_all
 |y::ys,x,v,j,d,h,l,i,w=>by
  obtain⟨s,k,rfl,r,i⟩:=i;unfold fX at h;split at h
  ·rename_i z q;obtain⟨p,e,rz⟩:=m _ _ _ _ _ q l r;obtain⟨v',t,rv⟩:=NG m ys z v p k h rz i w;simp_all
  grind
def aop{j:Array TypeId}{xs:List AV}{v:AV}{d:Array Value}(g:aD G xs d.toList)(h:fX qt xs=some v)(w:World):
  ∃v',(Builtin.max_ j t d).run P w= .ok v' w/\an G v v':=by
 cases xs with
 |nil=>simp[fX]at h
 |cons x xs=>
  obtain⟨i,r,e,k,g⟩:=g;simp only[Builtin.max_,e];refine NG (λa b c a' n f m l=>?_) xs x v i r h k g w;unfold qt at f;split at f
  ·cases f;subst m l;exact⟨_,λw=>by rfl,by rfl⟩
  grind
def aoq{j:Array TypeId}{xs:List AV}{v:AV}{d:Array Value}(g:aD G xs d.toList)(h:fX v7 xs=some v)(w:World):
  ∃v',(Builtin.min_ j t d).run P w= .ok v' w/\an G v v':=by
 cases xs with
 |nil=>simp[fX]at h
 |cons x xs=>
  obtain⟨i,r,e,k,g⟩:=g;simp only[Builtin.min_,e];refine NG (λa b c a' n f m l=>?_) xs x v i r h k g w;unfold v7 at f;split at f
  ·cases f;subst m l;exact⟨_,λw=>by rfl,by rfl⟩
  grind
end
section
variable{P:Program}{X:Ctx}{B:Nat}{av:World}
variable{G:Gh}{E:AS}{w:World}
def aD.aH{cs vs:List AV}{b:List Value}{off:Nat}(a:aD G cs c.toList)(d:aD G vs b)(h:off+vs.length<=cs.length):
  aD G (aH cs off vs) (kS c off b).toList:=by
 have e:=d.length;have f:=a.length;rw[anr]at f;rw[G5 _ _ _ (by omega)];rw[e];exact(a.take off).append (d.append (a.drop _))
def Leaves.aH{a:List Value}{off:Nat}(b:Leaves c.toList)(d:Leaves a)(h:off+a.length<=c.size):Leaves (kS c off a).toList:=by
 rw[G5 _ _ _ h];exact(b.take off).append (d.append (b.drop _))
theorem XG(off:Nat): ∀ (l:List Value) (k:Nat) (c:Array Value),(l.zipIdx k).foldl (λcs (p:Value×Nat)=>cs.setIfInBounds (off+p.2) p.1) c=kS c (off+k) l
 | [],_,_=>rfl
 |v::l,k,c=>by
  simp only[List.zipIdx_cons,azo,kS];rw[XG off l (k+1)];rfl
theorem Hc{nt:Nat}{e:Env}{a:Act}(v:cD G nt e a.tmps){b Da:Nat->Option (Nat×Nat)}(u: ∀i p,b i=some p->Da i=some p):
  ∀ (ps:List (Nat×Operand)) (l:List (Nat×Nat×ao)) (cs d:List AV) (c:Array Value),parts b ps=some l->dZ cs (l.map λp=>(p.1,p.2.1,p.2.2.get e))=some d->aD G cs c.toList->Leaves c.toList->
  ∃j,Instr.fill Da c (ps.map λp=>(p.1,a.eval p.2))=some j/\aD G d j.toList/\Leaves j.toList
 | [],l,cs,d,c,h,g,k,q=>by
   simp only[parts,afh]at h;subst h;simp only[ayu,dZ,afh]at g;subst g;exact⟨c,by rfl,k,q⟩
 | (i,x)::ps,l,cs,d,c,h,g,k,q=>by
   simp only[parts]at h;split at h
   ·rename_i off n y z H F D;cases h;simp only[anw,dZ]at g;split at g
    ·rename_i C;obtain⟨t1,t2,t3⟩:=C;have A:=cu v F;obtain⟨t,m⟩:=A.cells t1;have f:=t.length;rw[anr]at f;have s:=k.length;rw[anr]at s;obtain⟨j,I,r,o⟩:=Hc v u ps z _ d (kS c off (a.eval x).cells.toList) D g (k.aH t (by omega)) (q.aH m (by rw[anr];omega));refine⟨j,?_,r,o⟩;simp only[anw,Instr.fill,u i _ H];rw[afi (by simp only[ne_eq,aqR,amB];omega)];rw[<-I]
     congr 1
     rw[<-Array.foldl_toList,Array.toList_zipIdx];exact XG off _ 0 c
    grind
   grind
def aor{b:Array Field}{z:List AV}(O:P.underlying t=some (.struct b))(M:gC P t=some z)(L:b.toList.all (λf=>(cn P f.type).isSome)=true)
   {e:Env}  (K:cD G nt e a.tmps) {o:Array (Nat×Operand)} {l:List (Nat×Nat×ao)}
  (H:parts (λi=>match b[i]? with|some f=>(cn P f.type).map λn=>(f.offset,n)|none=>none) o.toList=some l) {cs:List AV} (J:dZ z (l.map λp=>(p.1,p.2.1,p.2.2.get e))=some cs) (w:World):
  ∃v',(Instr.build t (o.map λ (i,x)=>(i,a.eval x))).run P w= .ok v' w/\an G (.agg cs) v':=by
 obtain⟨m,_,D,lz,q,_⟩:=rZ M G w;obtain⟨it,I,C⟩: ∃it,P.info? t=some it/\it.zero=some m:=by
  unfold zeroV at D;cases d:P.info? t with
  |none=>grind
  |some i=>grind
 have hm: ∀ (fs:List Field),fs.all (λf=>(cn P f.type).isSome)=true-> ∃places,fs.mapM (λf=>(P.info? f.type).map λi=>(f.offset,i.size))=some places/\ ∀ (i:Nat) (f:Field),fs[i]?=some f-> ∃n,cn P f.type=some n/\places[i]?=some (f.offset,n):=by
  intro fs
  induction fs with
  |nil=>simp
  |cons f fs y=>
   intro c;simp only[awi,aiq]at c;obtain⟨places,e1,N⟩:=y c.2;cases d:P.info? f.type with
   |none=>simp[cn,d]at c
   |some i=>
    refine⟨(f.offset,i.size)::places,by simp[aAV,d,e1],λj g s=>?_⟩;cases j with
    |zero=>simp at s;subst s;exact⟨i.size,by simp[cn,d],by simp⟩
    |succ j=>simpa using N j g (by simpa using s)
 obtain⟨places,F,k⟩:=hm _ L;have A:m.cells.toList=m.cells.toList:=rfl;obtain⟨u,Q,r,v⟩:=Hc (Da:=(places.toArray[·]?)) K (λi p d=>by
  cases h:b[i]? with
  |none=>simp[h]at d
  |some f=>
   obtain⟨n,s1,s2⟩:=k i f (by simpa using h);simp[h,s1]at d;subst d;simpa using s2) o.toList l z cs m.cells H J lz q
 refine⟨.agg u,?_,⟨u,rfl,r,v⟩⟩;refine run_build w t _ u ?_;unfold Program.built;simp_all
def aos{b:TypeId}{z:List AV}(F:P.underlying t=some (.array n b))(D:gC P t=some z)(C:cn P b=some sz)
   {e:Env}  (A:cD G nt e a.tmps) {c:Array (Nat×Operand)} {l:List (Nat×Nat×ao)}
  (s:parts (λi=>some (i*sz,sz)) c.toList=some l) {cs:List AV} (y:dZ z (l.map λp=>(p.1,p.2.1,p.2.2.get e))=some cs) (w:World):
  ∃v',(Instr.build t (c.map λ (i,x)=>(i,a.eval x))).run P w= .ok v' w/\an G (.agg cs) v':=by
 obtain⟨h,_,o,lz,d,_⟩:=rZ D G w;obtain⟨it,u,m⟩: ∃it,P.info? t=some it/\it.zero=some h:=by
  unfold zeroV at o;cases j:P.info? t with
  |none=>grind
  |some i=>grind
 obtain⟨f,v,q⟩: ∃f,P.info? b=some f/\f.size=sz:=by
  unfold cn at C;simp_all
 obtain⟨g,H,r,k⟩:=Hc (Da:=λi=>some (i*sz,sz)) A (λi p j=>j) c.toList l z cs h.cells s y lz d;refine⟨.agg g,?_,⟨g,rfl,r,k⟩⟩;refine run_build w t _ g ?_;unfold Program.built;simp_all
def NH{af:List (List AV)}(h:af.all (λel=>el.length==sz)=true): ∀el∈af,el.length=sz:=by grind
def aot(r:aU P B av G E w){x:AV}{q:Value}{af:List (List AV)}(g:an G x q)(h:elems E sz x=some af):
  (af=[]/\q= .slice none 0 0)\/
  ∃a cap vs,q= .slice (some a) af.length cap/\ (∀el∈af,el.length=sz)/\bp G af vs/\Leaves vs/\ (vs=[]\/ ∃b o,a=⟨b,o,none⟩/\ ∀j u,vs[j]?=some u->w.cell? ⟨b,o+j,none⟩=some u):=by
 unfold elems at h;split at h
 ·simp only[an]at g;grind
 ·rename_i k cy;split at h
  ·rename_i hu;cases h;simp only[an]at g;obtain⟨b,o,cap,s,vs,e,_,_,_,L,m,n⟩:=g;exact .inr ⟨_,cap,vs,e,NH hu,n,m,.inr ⟨b,o,rfl,λj u d=>r.bt _ _ _ (L j u d)⟩⟩
  grind
 ·rename_i id aj f off len cy;split at h
  ·rename_i v l ty k he;split at h
   ·rename_i z;obtain⟨F,J,M,N⟩:=z;subst F J M;cases h;obtain⟨g1,g2,I,c,pre,vs,post,A,y,H,_,n,m⟩:=r.obj id _ he g.Nu;simp only[an]at g;obtain⟨_,_,a,cap,e,p,_,K⟩:=g;obtain⟨_,C,_⟩:=K g1;have i: ((k.drop off).take len).length=len:=by simp;omega
    refine .inr ⟨a,cap,(vs.drop (off*f)).take (len*f),by rw[i];exact e,λel t=>I el (ap0 (alP t)),n.slice I,(m.drop _).take _,?_⟩;by_cases D:len=0
    ·left;simp[D]
    ·right
     refine⟨_,_,C (by omega),λj u d=>?_⟩;refine C5 A _ u ?_;rw[aoL]at d;split at d
     ·rw[anp]at d;rw[y,ag8 (by omega),aez (by have:=(aeA.1 d).1;omega)];rw[<-d];congr 1;omega
     ·cases d
   ·cases h
  ·cases h
 ·rename_i id l off len;split at h
  ·rename_i cs tg he;split at h
   ·rename_i z;obtain⟨F,J⟩:=z;subst F;cases h;obtain⟨g1,_,c,ty,A,n,m,_⟩:=Ak r he g.anN;simp only[an]at g;obtain⟨_,a,cap,e,p,C⟩:=g;have hle:len*l<=(cs.drop off).length:=by simp;omega
    refine .inr ⟨a,cap,(c.toList.drop off).take (len*l),by rw[NA];exact e,C7 hle,?_,(m.drop _).take _,?_⟩
    ·rw[bp.iff,chunks_flatten hle];exact(n.drop _).take _
    ·by_cases D:len=0
     ·left;simp[D]
     ·right
      refine⟨_,_,C g1 (by omega),λj u d=>?_⟩;refine C5 A _ u ?_;rw[aoL]at d;split at d
      ·rwa[anp]at d
      ·cases d
   ·cases h
  ·cases h
 grind
theorem oY{sz:Nat}: ∀ {af:List (List AV)},(∀el∈af,el.length=sz)->af.flatten.length=af.length*sz
 | [],_=>by simp
 |x::xs,h=>by
  have a:=oY (af:=xs) λy b=>h y (by grind)
  grind
def bp.len{af:List (List AV)}(h:bp G af vs)(a: ∀el∈af,el.length=sz):vs.length=af.length*sz:=by
 rw[(bp.iff.1 h).length,oY a]
def XH(p:aU P B av G E w){x:AV}{e:Value}{af:List (List AV)}(m:an G x e)(h:elems E sz x=some af):
  ∃vs,bp G af vs/\Leaves vs/\ (∀el∈af,el.length=sz)/\vs.length=af.length*sz/\ (∃a cap,e= .slice a af.length cap/\ (a=none->af=[]))/\
   ∀w',w'.heap=w.heap-> ∀n,n<=af.length->(Builtin.firstCells sz n e).run P w'= .ok (vs.take (n*sz)).toArray w':=by
 rcases aot p m h with⟨rfl,rfl⟩| ⟨a,cap,vs,rfl,hu,g,l,k⟩
 ·refine⟨[],by rfl,λu hu=>by grind,by simp,by simp,⟨none,0,rfl,λ_=>rfl⟩,λw' c n f=>?_⟩;simp[Builtin.firstCells]
 ·refine⟨vs,g,l,hu,g.len hu,⟨some a,cap,rfl,λh=>by cases h⟩,λw' c n f=>?_⟩;have d:=g.len hu;rcases k with rfl| ⟨b,o,rfl,k⟩
  ·simp only[Builtin.firstCells];have:n*sz=0:=by
    have q:af.length*sz=0:=by grind
    have:=ant sz f;omega
   rw[this];simp[loadCells,loadCellsFrom]
  ·simp only[Builtin.firstCells];have hle:n*sz<=af.length*sz:=ant _ f;exact run_loadCells (vs.take (n*sz)) (by grind) (λj u i=>by
    rw[aoL]at i;split at i
    ·have:=k _ _ i;simp only[World.cell?,c]at this⊢;exact this
    grind)
theorem aou: ∀ {af:List (List AV)} {vs:List Value} {l:lB},bp G af vs->v5 af=some l-> ∃a:List Int,vs=a.map (Value.int .u8)/\l=a.map λn=>UInt8.ofNat n.toNat
 | [],vs,l,h,e=>by
   subst h;simp only[v5,afh]at e;simp_all
 |x::xs,vs,l,h,e=>by
  obtain⟨v,r,rfl,d,c⟩:=h;unfold v5 at e;split at e
  ·grind
  ·rename_i n f heq;cases heq;cases b:v5 xs with
   |none=>grind
   |some g=>
    simp[b]at e;subst e;obtain⟨a,rfl,rfl⟩:=aou c b;obtain⟨v',q,rfl,rfl,rfl⟩:=d;exact⟨n::a,rfl,rfl⟩
  grind
theorem foldl_push: ∀ (a:List Int) (s:ByteArray),a.foldl (λr n=>r.push (UInt8.ofNat n.toNat)) s=⟨s.data++(a.map λn=>UInt8.ofNat n.toNat).toArray⟩
 | [],s=>by simp
 |n::a,s=>by
  rw[azo,foldl_push a];simp_all
end
section
variable{P:Program}{X:Ctx}{B:Nat}{av:World}
variable{G:Gh}{E:AS}{w:World}
def mh(P:Program)(B:Nat)(av:World)(G:Gh)(E:AS)(v:AV)(b:AS)(r:Result Value):Prop:=
 ∃a w' v',r= .ok v' w'/\G.le a/\aU P B av a b w'/\an a v v'/\E.Ext b
def An(P:Program)(B:Nat)(av:World)(G:Gh)(E:AS)(b:AS)(r:Result Unit):Prop:=
 ∃a w',r= .ok () w'/\G.le a/\aU P B av a b w'/\E.Ext b
theorem uw: ∀ {a b:List AV},aG (a++b)=max (aG a) (aG b)
 | [],b=>by rfl
 |x::a,b=>by simp only[akr,aG,uw (a:=a)];omega
theorem v9: ∀ {af:List (List AV)},b8 af=aG af.flatten
 | []=>by rfl
 |x::xs=>by simp only[b8,ap1,uw,v9 (af:=xs)]
def XI{a:List AV}:aG (a.take n)<=aG a:=by grind [uw,List.take_append_drop]
def XJ{a:List AV}:aG (a.drop n)<=aG a:=by
 have h:=uw (a:=a.take n) (b:=a.drop n);rw[apt]at h;omega
def XK{cs vs:List AV}{off:Nat}:aG (aH cs off vs)<=max (aG cs) (aG vs):=by
 unfold aH;have c:=XI (a:=cs) (n:=off);have b:=XJ (a:=cs) (n:=off+vs.length);rw[uw,uw];omega
def XL{v:AV}:aG v.cells=v.refs:=by
 cases v<;>simp[AV.cells,aG,AV.refs]
def NI{cs vs:List AV}{off:Nat}(h:off+vs.length<=cs.length): (aH cs off vs).length=cs.length:=by
 unfold aH;grind
def XM(a:aU P B av G E w){cs:List AV}(ty:TypeId)(e:aD G cs c.toList)(d:Leaves c.toList)(tg:Option TypeId)(b: ∀t,tg=some t->ty=t):
  mh P B av G E (.ptr E.heap.length 0) (E.push (.box cs tg)) (.ok (.pointer (some ⟨w.heap.size,0,none⟩)) (w.alloc (.cells c ty))):=by
 have hle:=G.Aj w.heap.size 0 0;refine⟨G.push w.heap.size 0 0,_,_,rfl,hle,a.push _ _ 0 0 ?_,?_,.push E _⟩
 ·refine⟨by simp[Gh.push],c,ty,?_,e.mono hle,d,b⟩;have: (G.push w.heap.size 0 0).aY G.n=w.heap.size:=by simp[Gh.push]
  rw[this];exact aqY _ _
 ·refine⟨Gh.C4 a,_,rfl,λ_=>?_⟩;simp[Gh.push,a.len]
def NJ{z:List AV}{a:TypeId}(h:rW z t=some a):t=a:=by
 unfold rW at h
 grind
def aov{z:Option (List AV)}{a:TypeId}(h: (z.bind λz=>rW z t)=some a):t=a:=by
 cases z with
 |none=>cases h
 |some z=>exact NJ h
def aow(d:aU P B av G E w){z:List AV}(c:gC P t=some z):
  mh P B av G E (.ptr E.heap.length 0) (E.push (.box z (rW z t))) ((Instr.alloc t true (.tuple #[])).run P w):=by
 obtain⟨a,e,_,l,b,_⟩:=rZ c G w;have: (Instr.alloc t true (.tuple #[])).run P w= .ok (.pointer (some ⟨w.heap.size,0,none⟩)) (w.alloc (.cells a.cells t)):=by
  simp[Instr.alloc,e,newVar,newRow]
 rw[this];exact XM d t l b _ (λf h=>NJ h)
def aox(f:aU P B av G E w){x:AV}{b:Value}{tg:Option TypeId}(a: ∀c,tg=some c->t=c)(e:an G x b)(g:x.cb=false):
  mh P B av G E (.ptr E.heap.length 0) (E.push (.box x.cells tg)) ((Instr.box t b).run P w):=by
 obtain⟨l,d⟩:=e.cells g;exact XM f t l d tg a
def Hd(g:aU P B av G E w){af:List (List AV)}{post:List Value}{cap:Nat}(ty:TypeId)(l:c.toList=vs++post)(j: ∀el∈af,el.length=sz)(k:bp G af vs)(i:Leaves vs)
  (e:c.size=cap*sz) (h:af.length<=cap) (len:Nat) (a:len=af.length)  (f:w'.heap=w.heap) (d:aU P B av G E w'):
  mh P B av G E (.ref E.heap.length 0 sz 0 len false) (E.push (.row 0 sz ty af)) (.ok (.slice (some ⟨w.heap.size,0,none⟩) len cap) (w'.alloc (.cells c ty))):=by
 subst a;rw[<-f];have b:=G.Aj w'.heap.size (cap*sz) sz;refine⟨G.push w'.heap.size (cap*sz) sz,_,_,rfl,b,d.push _ _ _ _ ?_,?_,.push E _⟩
 ·have e1: (G.push w'.heap.size (cap*sz) sz).aY G.n=w'.heap.size:=by simp[Gh.push]
  refine⟨by simp[Gh.push],by simp[Gh.push],j,c,[],vs,post,?_,by grind,by simp[Gh.push],?_,k.mono b,i⟩
  ·rw[e1];exact aqY _ _
  ·simp[Gh.push,e]
 ·refine⟨Gh.C4 d,by simp,_,cap,rfl,⟨h,rfl⟩,by simp,λ_=>⟨by simp[Gh.push,g.len],λ_=>by simp[Gh.push,g.len],by simp[Gh.push,g.len]⟩⟩
def aoy(a:aU P B av G E w)(t:TypeId):mh P B av G E (.mp E.heap.length) (E.push (.map [])) ((Instr.makeMap t none).run P w):=by
 have hle:=G.Aj w.heap.size 0 0;refine⟨G.push w.heap.size 0 0,_,_,rfl,hle,a.push _ _ 0 0 ?_,?_,.push E _⟩
 ·refine⟨by simp[Gh.push],#[],0,?_,by rfl⟩;have: (G.push w.heap.size 0 0).aY G.n=w.heap.size:=by simp[Gh.push]
  rw[this];exact aqY _ _
 ·exact⟨Gh.C4 a,_,rfl,λ_=>by simp[Gh.push,a.len]⟩
theorem aU.put(b:aU P B av G E w){id:Nat}(a:G.on id){o':ae}(refs:Nat)(ho:ie P G id (ez w (G.aY id) O) o'):aU P B av G (E.set id o' refs) (ez w (G.aY id) O):=
 b.set a o' refs G.le_refl rfl rfl (λ_ _ _=>rfl) (.inl rfl) (by rw[anS];exact(b.low id a).2) (λk c _=>Xk c) (by simp) rfl rfl rfl ho
def NK(f:aU P B av G E w){id:Nat}{cs as:List AV}{tg:Option TypeId}(k:E.heap[id]?=some (.box cs tg))(l:G.pz id=none){a:List Value}{off:Nat}(j:aD G as a)(i:Leaves a)(h:off+as.length<=cs.length){refs:Nat}(s:aG as<=refs):
  An P B av G E (E.set id (.box (aH cs off as) tg) refs) ((storeCells ⟨G.aY id,off,none⟩ a).run P w):=by
 obtain⟨r,d,c,ty,q,b,e,g⟩:=Ak f k l;have p:=b.length;rw[anr]at p;have hu:=j.length;refine⟨G,_,?_,G.le_refl,f.put d refs (O:=.cells (kS c off a) ty (0,0)) ?_,.set k λn o m=>?_⟩
 ·have:=Nv (P:=P) a c w off 0 q (by omega) i;omega
 ·exact⟨r,_,ty,ur (f.low id d).2,b.aH j h,e.aH i (by omega),g⟩
 ·simp only[ae.le]at o⊢;have:=XK (cs:=cs) (vs:=as) (off:=off);omega
def XN(f:aU P B av G E w){id:Nat}{ty:TypeId}{af a:List (List AV)}{as:List AV}(s:E.heap[id]?=some (.row aj sz ty af))(m:G.pz id=none){b:List Value}{p:Nat}(q:aD G as b)(l:Leaves b)(h:p+as.length<=af.flatten.length)
  (v: ∀el∈a,el.length=sz) (r:a.flatten=aH af.flatten p as) {refs:Nat} (H:aG as<=refs):
  An P B av G E (E.set id (.row aj sz ty a) refs) ((storeCells ⟨G.aY id,G.base id+p,none⟩ b).run P w):=by
 obtain⟨D,i,u,c,pre,vs,post,C,A,o,F,j,d⟩:=f.obj id _ s m;have e:G.on id:=⟨by rw[f.len];grind,m⟩;have k:=bp.iff.1 j;have t:=k.length;have g:=q.length;have z:c.size=pre.length+(vs.length+post.length):=by grind [Array.length_toList]
 refine⟨G,_,?_,G.le_refl,f.put e refs (O:=.cells (kS c (G.base id+p) b) ty (0,0)) ?_,.set s λn y x=>?_⟩
 ·have:=Nv (P:=P) b c w (G.base id+p) 0 C (by omega) l;omega
 ·refine⟨D,i,v,_,pre,vs.take p++(b++vs.drop (p+b.length)),post,ur (f.low id e).2,?_,o,by simp_all,?_,(d.take p).append (l.append (d.drop _))⟩
  ·rw[G5 _ _ _ (by omega),A,<-o];rw[azj,agQ (by omega:pre.length<=pre.length+p),anb,auK (by omega)];rw[anv,auM,akU (by omega:pre.length<=pre.length+(p+b.length)),anb,aiL,aC0 (by omega)];simp
  ·rw[bp.iff,r];unfold aH;rw[<-g];exact(k.take p).append (q.append (k.drop _))
 ·simp only[ae.le,v9]at y⊢;rw[r];have:=XK (cs:=af.flatten) (vs:=as) (off:=p);omega
def aoz{af:List (List AV)}{el b:List AV}(g: ∀x∈af,x.length=sz)(e:af[i]?=some el)(off:Nat)(vs:List AV)(h:off+vs.length<=el.length)(f:b=aH el off vs):
  (af.set i b).flatten=aH af.flatten (i*sz+off) vs:=by
 subst f;have c:i<af.length:=(aeA.1 e).1;have d:af.flatten=(af.take i).flatten++(el++(af.drop (i+1)).flatten):=by grind [List.take_append_drop,List.flatten_append,List.drop_eq_getElem_cons]
 have a: (af.take i).flatten.length=i*sz:=by grind [oY,List.mem_of_mem_take,List.length_take,Nat.min_eq_left,Nat.le_of_lt]
 rw[List.set_eq_take_append_cons_drop,afl c,aoZ,ap1];rw[d];unfold aH;rw[azj,agQ (by omega: (af.take i).flatten.length<=i*sz+off),a,anb,auK (by omega)];rw[anv,auM,akU (by omega: (af.take i).flatten.length<=i*sz+(off+vs.length)),a,anb,aiL,aC0 (by omega)];simp
def aoA(j:aU P B av G E w)(J:cn P t=some n){x v:AV}{f:Value}{C:AS}(g:an G x f)(D:an G v v')(h:kK E n x v=some C):
  An P B av G E C ((Instr.storeAt t f v').run P w):=by
 have key: ∀ (b:Addr),f= .pointer (some b)->v.cb=false->v.cells.length=n->(Instr.storeAt t f v').run P w=(storeCells b v'.cells.toList).run P w/\aD G v.cells v'.cells.toList/\Leaves v'.cells.toList:=by
  rintro b rfl F M;obtain⟨l,L⟩:=D.cells F;have N:=l.length;simp only[Instr.storeAt,Sem.run_bind,Instr.sureAddr,Sem.run_pure,Result.andThen_ok,storeVar,nO J]
  grind
 unfold kK at h;split at h
 ·rename_i id off;split at h
  ·rename_i cs he;split at h
   ·rename_i p;obtain⟨u,s,K⟩:=p;cases h;simp only[an]at g;obtain⟨a,b,e,q⟩:=g;obtain⟨o,m,k⟩:=key b e u s;rw[o,q (Ak j he a.2).1];exact NK j he a.2 m k (by omega) (by rw[XL];exact agW _)
   grind
  grind
 ·rename_i id aj i off;split at h
  ·rename_i A sz ty af he;split at h
   ·rename_i el d;split at h
    ·rename_i p;obtain⟨c0,z,u,s,K⟩:=p;subst c0;cases h;simp only[an]at g;obtain⟨a,_,b,e,q⟩:=g;obtain⟨o,m,k⟩:=key b e u s;obtain⟨g1,g2,r,_⟩:=j.obj id _ he a.2;rw[o,q g1,g2,anv];have I:i<af.length:=(aeA.1 d).1;have H:=aoz r d off v.cells (by omega) rfl;have hle:i*sz+sz<=af.flatten.length:=by
      rw[oY r,<-aq9];exact ant _ I
     exact XN j he a.2 m k (by omega) (λy c=>by
      rcases List.mem_or_eq_of_mem_set c with c|c
      ·exact r y c
      ·rw[c,NI (by omega)];exact z) H (by rw[XL];exact agW _)
    ·cases h
   ·cases h
  ·cases h
 grind
end
section
variable{P:Program}{X:Ctx}{B:Nat}{av:World}
variable{G:Gh}{E:AS}{w:World}
theorem He(zc:Array Value)(b:0<zc.size): ∀ (k:Nat),(List.range (k*zc.size)).map (λi=>zc[i % zc.size]!)=(List.replicate k zc.toList).flatten
 |0=>by simp
 |k+1=>by
  have e: (k+1)*zc.size=zc.size+k*zc.size:=by grind
  rw[e,List.range_add,ag9,aCY,atu,ap1,<-He zc b k]
  congr 1
  ·apply aoI;intro j;by_cases a:j<zc.size
   ·simp[a,ao0 a]
   grind
  simp_all
theorem Db{z:List AV}{vs:List Value}(a:aD G z vs): ∀ (k:Nat),bp G (List.replicate k z) (List.replicate k vs).flatten
 |0=>by rfl
 |k+1=>by
  exact⟨_,_,rfl,a,Db a k⟩
theorem Hf(h:Leaves vs)(k:Nat):Leaves (List.replicate k vs).flatten:=by
 intro v a;simp only[List.mem_flatten,List.mem_replicate]at a;obtain⟨l,⟨_,rfl⟩,a⟩:=a;exact h v a
def XO(h:xW P t=some n): ∃i,P.info? t=some i/\i.bytes=n:=by
 unfold xW at h;simp_all
def XP(h:cn P t=some n): ∃i,P.info? t=some i/\i.size=n:=by
 unfold cn at h;simp_all
def NL{i:TypeInfo}{z:Value}(a:P.info? t=some i)(h:zeroV P t=some z):i.zero=some z:=by
 unfold zeroV at h;grind
def aoB(m:aU P B av G E w){z:List AV}{bytes:Nat}(F:P.underlying t=some (.slice e))(D:gC P e=some z)(C:xW P e=some bytes)(x:0<z.length)
  {l c:AV} {k q:Value} {v:AV} {r:AS} (n:an G l k) (p:an G c q) (h:Nq E e z bytes l c=some (v,r)):mh P B av G E v r ((Instr.makeSlice t k q).run P w):=by
 unfold Nq at h;split at h
 ·rename_i s l u c;split at h
  ·rename_i A;obtain⟨K,J,I,H⟩:=A;cases h;simp only[an]at n p;subst n p;obtain⟨i,o,rfl⟩:=XO C;obtain⟨b,_,f,lz,d,j⟩:=rZ D G w;have a:i.size=z.length:=by unfold cn at j;grind
   have g:b.cells.size=z.length:=by exact lz.length
   rw[run_make w t e i b F o (NL o f) s u l c K J (by rw[Int.mul_comm];simp only[room]at I;omega) (by simp only[room]at H;omega)];have hm: (madeCells b.cells (c.toNat*i.size)).toList=(List.replicate l.toNat b.cells.toList).flatten++(List.replicate (c.toNat-l.toNat) b.cells.toList).flatten:=by
    unfold madeCells;rw[a,<-g,Array.toList_map,Array.toList_range,He _ (by omega)];rw[<-aoZ,aBp]
    grind
   refine Hd m e hm (λel y=>by grind) (Db lz _) (Hf d _) (cap:=c.toNat) ?_ (by rw[List.length_replicate];omega) l.toNat (by simp) rfl m;simp[madeCells,a]
  grind
 grind
def aoC(k:aU P B av G E w){s d:TypeId}(p:P.underlying s=some .string)(o:P.underlying d=some (.slice e))(n:P.underlying e=some (.int .u8))(b:ByteArray):
  mh P B av G E (.sl (rP b) false) E ((convert s d (.string b)).run P w):=by
 rw[run_bytes_of_string w s d e b p o n];have a:b.data.toList.length=b.size:=by simp
 obtain⟨hle,c⟩:=k.drew.Xj (bytesRow b (grownCap w b.size 0 e)) e ((bytesRow b (grownCap w b.size 0 e)).size,(bytesRow b (grownCap w b.size 0 e)).size+1) (b.data.toList.map λx=>Value.int .u8 x.toNat) (λj v h=>by
  unfold bytesRow
  grind)
 refine⟨_,_,_,rfl,hle,c,?_,.refl E⟩;have m: ∀ (G:Gh) (l:lB),bp G (l.map λx=>[AV.int .u8 x.toNat]) (l.map λx=>Value.int .u8 x.toNat):=by
  intro G l
  induction l with
  |nil=>rfl
  |cons x xs i=>exact⟨[_],_,rfl,by simp[aD,an],i⟩
 refine⟨w.heap.size,0,grownCap w b.size 0 e,1,_,?_,?_,by simp,?_,?_,?_,m _ _⟩
 ·simp[rP,a]
 ·simp only[rP,agZ,a];exact aAW w b.size 0 e
 ·intro el f;simp only[rP,ag2]at f
  grind
 ·intro j v h;simp only[Gh.freeze,ana];rw[afl (show w.heap.size=w.drew.heap.size from rfl)];exact h
 ·intro v g;simp only[ag2]at g;obtain⟨x,_,rfl⟩:=g;rfl
def XQ{z:List AV}{len:Nat}(q:P.underlying t=some (.slice e))(J:gC P e=some z)(A:0<z.length)(C:len*z.length<=65536)
   {f:Env}  (I:cD G nt f a.tmps) {j:Array (Nat×Operand)} {l:List (Nat×Nat×ao)}
  (F:parts (λi=>some (i*z.length,z.length)) j.toList=some l) {cs:List AV} (H:dZ (List.replicate len z).flatten (l.map λp=>(p.1,p.2.1,p.2.2.get f))=some cs) (w:World):
  ∃c:Array Value,(Instr.buildSlice t len (j.map λ (i,x)=>(i,a.eval x))).run P w= .ok (.slice (some ⟨w.heap.size,0,none⟩) len len) (w.alloc (.cells c e))/\aD G cs c.toList/\Leaves c.toList:=by
 obtain⟨b,D,k,lz,u,m⟩:=rZ J G w;obtain⟨i,o,d⟩:=XP m;have y:b.cells.size=z.length:=by exact lz.length
 have hm: ((Array.range (len*i.size)).map (b.cells[· % b.cells.size]!)).toList=(List.replicate len b.cells.toList).flatten:=by grind [Array.toList_map,Array.toList_range,He]
 obtain⟨c,K,r,v⟩:=Hc (Da:=λi=>some (i*z.length,z.length)) I (λi p h=>h) j.toList l _ cs ((Array.range (len*i.size)).map (b.cells[· % b.cells.size]!)) F H
  (by rw[hm];exact bp.iff.1 (Db lz len)) (by grind [Hf])
 refine⟨c,?_,r,v⟩;have g:Instr.fill (λx=>some (x*i.size,i.size)) ((Array.range (len*i.size)).map (b.cells[· % b.cells.size]!)) (j.map λ (i,x)=>(i,a.eval x)).toList=some c:=by simp_all
 by_cases s:len*i.size=0
 ·have n:len=0:=by
    rcases Nat.mul_eq_zero.1 s with h|h
    ·exact h
    ·omega
  subst n;simp[Instr.buildSlice,afr q,sizeOf,typeInfo,o,newRow,Array.range_zero'];simp[Array.range_zero']at g;simp_all
 ·exact run_buildSlice w t e len _ c i b q o (NL o k) (by rw[d];omega) s g
def aoD(n:aU P B av G E w){z:List AV}{len:Nat}(A:P.underlying t=some (.slice e))(y:gC P e=some z)(d:0<z.length)(g:len*z.length<=65536)
   {b:Env}  (s:cD G nt b a.tmps) {h:Array (Nat×Operand)} {l:List (Nat×Nat×ao)}
  (o:parts (λi=>some (i*z.length,z.length)) h.toList=some l) {cs:List AV} (q:dZ (List.replicate len z).flatten (l.map λp=>(p.1,p.2.1,p.2.2.get b))=some cs) (u:cs.length=len*z.length):
  mh P B av G E (.sl (chunks z.length len cs) true) E ((Instr.buildSlice t len (h.map λ (i,x)=>(i,a.eval x))).run P w):=by
 obtain⟨c,C,r,m⟩:=XQ A y d g s o q w;rw[C];obtain⟨hle,f⟩:=n.Xj c e (0,0) c.toList (λj v k=>by grind);refine⟨_,_,_,rfl,hle,f,?_,.refl E⟩;refine⟨w.heap.size,0,len,z.length,c.toList,by simp,by simp,λ_=>by simp,C7 (by omega),?_,m,?_⟩
 ·intro j v k;simp only[Gh.freeze,ana,aiH];exact k
 ·rw[bp.iff,chunks_flatten (by omega),agQ (by omega)];exact r.mono hle
def aoE(h:aU P B av G E w){z:List AV}{len:Nat}(u:P.underlying t=some (.slice e))(s:gC P e=some z)(d:0<z.length)(f:len*z.length<=65536)
   {b:Env}  (o:cD G nt b a.tmps) {g:Array (Nat×Operand)} {l:List (Nat×Nat×ao)}
  (m:parts (λi=>some (i*z.length,z.length)) g.toList=some l) {cs:List AV} (n:dZ (List.replicate len z).flatten (l.map λp=>(p.1,p.2.1,p.2.2.get b))=some cs) (q:cs.length=len*z.length):
  mh P B av G E (.ref E.heap.length 0 z.length 0 len false) (E.push (.row 0 z.length e (chunks z.length len cs))) ((Instr.buildSlice t len (g.map λ (i,x)=>(i,a.eval x))).run P w):=by
 obtain⟨c,v,r,j⟩:=XQ u s d f o m n w;rw[v];have k:=r.length;refine Hd h e (vs:=c.toList) (post:=[]) (by simp) (C7 (by omega)) ?_ j (cap:=len) (by grind) (by simp) len (by simp) rfl h;rw[bp.iff,chunks_flatten (by omega),agQ (by omega)];exact r
theorem NN: ∀ {ps:List (Nat×Nat×AV)} {cs a:List AV},dZ cs ps=some a->a.length=cs.length
 | [],cs,a,h=>by simp only[dZ,afh]at h;grind
 | (off,n,v)::ps,cs,a,h=>by
   simp only[dZ]at h;split at h
   ·rw[NN h,NI (by omega)]
   grind
end
section
variable{P:Program}{X:Ctx}{B:Nat}{av:World}
variable{G:Gh}{E:AS}{w:World}
def Gh.ee(G:Gh)(id b base dS:Nat):Gh:=
 {G with aY:=λi=>if i=id then b else G.aY i,base:=λi=>if i=id then base else G.base i,aj:=λi=>if i=id then G.aj i+1 else G.aj i,dS:=λi=>if i=id then dS else G.dS i}
def Gh.XR(G:Gh)(id b base dS:Nat):G.le (G.ee id b base dS):=by
 refine .mk' (λ_ _ _ h=>h) (agW _) (λ_ _=>rfl) (λi _=>?_) (λi _ h=>?_)
 ·simp only[Gh.ee];grind
 ·simp only[Gh.ee]at h;split at h
  ·omega
  ·rename_i a;simp[Gh.ee,a]
structure NO(P:Program)(w:World)(sz:Nat)(xt:TypeId)(x':Value)(n:Nat)(new:List Value):Prop where
 len: (Builtin.lenOf x').run P w= .ok n w
 cells: ∀w',w'.heap=w.heap->(Builtin.firstCells sz n x').run P w'= .ok new.toArray w'
 type: (∃e,P.underlying xt=some (.slice e))\/P.underlying xt=some .string
def Dc{j ty:TypeId}{i:TypeInfo}(d:P.underlying t=some (.slice e))(f:P.info? e=some i){k:Value}{c:List Value}(b:NO P w i.size j k n c)
  {base:Option Addr} {jc mi:Nat} (h:jc+n<=mi)  (l: ∀a,base=some a->(storeCells (a.add (jc*i.size)) c).run P w= .ok () w') (m:base=none->w'=w):
  (Builtin.append_ #[t,j] ty #[.slice base jc mi,k]).run P w= .ok (.slice base (jc+n) mi) w':=by
 have g:=b.cells w rfl;cases base with
 |none=>
  have:=m rfl;subst this;rcases b.type with⟨o,hu⟩|hu
  ·simp[Builtin.append_,afr d,afr hu,sizeOf,typeInfo,f,b.len,g,h]
  ·simp[Builtin.append_,afr d,afr hu,sizeOf,typeInfo,f,b.len,g,h]
 |some a=>
  have:=l a rfl;rcases b.type with⟨o,hu⟩|hu
  ·simp[Builtin.append_,afr d,afr hu,sizeOf,typeInfo,f,b.len,g,h,this]
  ·simp[Builtin.append_,afr d,afr hu,sizeOf,typeInfo,f,b.len,g,h,this]
def Hg{j ty:TypeId}{i:TypeInfo}{z:Value}(m:P.underlying t=some (.slice e))(p:P.info? e=some i)(l:i.zero=some z){k:Value}{c:List Value}(g:NO P w i.size j k n c)
  {base:Option Addr} {jc mi:Nat} (h:mi<jc+n) {dA:List Value} (hold: ∀w',w'.heap=w.heap->(Builtin.firstCells i.size jc (.slice base jc mi)).run P w'= .ok dA.toArray w') (s:0<i.bytes) (b: (jc+n)*i.bytes<=room):
  (Builtin.append_ #[t,j] ty #[.slice base jc mi,k]).run P w= .ok (.slice (some ⟨w.heap.size,0,none⟩) (jc+n) (grownCap w (jc+n) mi e))
    (w.drew.alloc (.cells (dA.toArray++c.toArray++Builtin.zeroCells z.cells (grownCap w (jc+n) mi e- (jc+n))) e)):=by
 have o: ¬(jc+n<=mi):=by omega
 have q:=growslice_fits (bytes:=i.bytes) h (by simp only[room]at b;omega);have a: ¬(281474976710656<Builtin.nextslicecap (jc+n) mi*i.bytes):=by omega
 have f:i.bytes≠0:=by omega
 have r:=g.cells w.drew rfl;have d:=hold w.drew rfl;rcases g.type with⟨u,hu⟩|hu
 ·simp[Builtin.append_,afr m,afr hu,sizeOf,typeInfo,zeroValue,p,l,g.len,o,a,f,Question.forced,r,d,newRow,grownCap]
  congr 2;apply aq4;simp[afq]
 ·simp[Builtin.append_,afr m,afr hu,sizeOf,typeInfo,zeroValue,p,l,g.len,o,a,f,Question.forced,r,d,newRow,grownCap]
  congr 2;apply aq4;simp[afq]
def NP(c:aU P B av G E w){af:List (List AV)}{z:Value}{zc:Nat}(e:TypeId)(b:z.cells.size=sz)(d: ∀el∈af,el.length=sz)(g:bp G af vs)(h:Leaves vs)(a dA:Nat)(f:a=af.length):
  mh P B av G E (.ref E.heap.length 0 sz 0 a false) (E.push (.row 0 sz e af)) (.ok (.slice (some ⟨w.heap.size,0,none⟩) a (grownCap w a dA e))
   (w.drew.alloc (.cells (vs.toArray++Builtin.zeroCells z.cells (grownCap w a dA e-a)) e))):=by
 have i:=aAW w a dA e;refine Hd c e (post:=(Builtin.zeroCells z.cells (grownCap w a dA e-a)).toList) (by simp) d g h (cap:=grownCap w a dA e) ?_ (by omega) a f rfl c.drew;have:=g.len d;simp only[aCI,aBn,aCG,b,this,<-f];rw[<-aqV];grind
def XS{a b:List (List AV)}{u v:List Value}(h:bp G a u)(k:bp G b v):bp G (a++b) (u++v):=by
 rw[bp.iff,aoZ];exact(bp.iff.1 h).append (bp.iff.1 k)
theorem AS.Ext.ee{E:AS}{id:Nat}{d:Nat}{ty c:TypeId}{af a:List (List AV)}{refs:Nat}(f:E.heap[id]?=some (.row aj sz ty af))(h:b8 a<=max (b8 af) refs):E.Ext (E.set id (.row b d c a) refs):=
 .set f λn e g=>by simp only[ae.le]at e⊢;omega
def aoF(l:aU P B av G E w){xt ty:TypeId}{bytes:Nat}(C:P.underlying t=some (.slice e))(h2:cn P e=some sz)(h3:xW P e=some bytes)(hz: (gC P e).isSome=true)(hb:0<bytes)
  {s v:AV} {s' x':Value} {ys:List (List AV)} {d:List Value} {E':AS} (x:an G s s') (Q:bp G ys d) (lf:Leaves d) (p:NO P w sz xt x' ys.length d)
  (h:dw E e sz bytes s ys=some (v,E')):mh P B av G E v E' ((Builtin.append_ #[t,xt] ty #[s',x']).run P w):=by
 obtain⟨i,z,rfl⟩:=XO h3;have r0:i.size=sz:=by unfold cn at h2;simpa[z]using h2
 subst r0;obtain⟨zz,hzz⟩:=atx.1 hz;obtain⟨z',_,hzv,lz,_,V⟩:=rZ hzz G w;have H:=NL z hzv;have F:z'.cells.size=i.size:=by
  have:cn P e=some i.size:=h2;rw[this]at V;rw[<-anr,lz.length];exact(amv V).symm
 unfold dw at h;split at h
 ·rename_i hc;obtain⟨XT,ux⟩:=hc;have hu:=NH ux;split at h
  ·simp only[an]at x;subst x;split at h
   ·rename_i g;cases h;have U:d=[]:=by
     have:=Q.len hu;rw[g]at this;exact ams.1 (by simpa using this)
    rw[g]at p;have:=Dc (ty:=ty) C z p (base:=none) (jc:=0) (mi:=0) (by simp) (w':=w) (by simp) (λ_=>rfl);rw[this];exact⟨G,w,_,rfl,G.le_refl,l,by simp[an],.refl E⟩
   ·rename_i g;split at h
    ·rename_i Z;cases h;rw[Hg C z H p (by omega) (dA:=[]) (λw' _=>by simp[Builtin.firstCells]) hb (by simpa using Z)];have:=NP (zc:=0) l e F hu Q lf ys.length 0 rfl;simpa using this
    ·cases h
  ·rename_i af;have r:=x;simp only[an]at x;obtain⟨b,o,cap,sz,vs,rfl,d1,d2,d3,hf,D,m⟩:=x;have K:=d2 trivial;subst K;split at h
   ·rename_i g;cases h;have U:d=[]:=by
     have:=Q.len hu;rw[g]at this;exact ams.1 (by simpa using this)
    rw[g]at p;have:=Dc (ty:=ty) C z p (base:=some ⟨b,o,none⟩) (jc:=af.length) (mi:=af.length) (by omega) (w':=w) (λa _=>by rw[U];simp[storeCells]) (by simp);rw[this];exact⟨G,w,_,rfl,G.le_refl,l,r,.refl E⟩
   ·rename_i g;split at h
    ·rename_i Z;obtain⟨Z,T⟩:=Z;have Y:=NH T;cases h;have W:=m.len Y;rw[Hg C z H p (by omega) (dA:=vs) (λw' hh=>by
      simp only[Builtin.firstCells];exact run_loadCells vs W (λj u q=>by
       have:=l.bt _ _ _ (hf j u q);simp only[World.cell?,hh]at this⊢;exact this)) hb Z]
     have:=NP (zc:=0) (af:=af++ys) l e F (λel R=>(agT.1 R).elim (Y el) (hu el)) (XS m Q) (D.append lf) (af.length+ys.length) af.length (by simp);simpa using this
    ·cases h
  ·rename_i af;have r:=x;simp only[an]at x;obtain⟨b,o,cap,sz,vs,rfl,d1,d2,d3,hf,D,m⟩:=x;split at h
   ·rename_i g;cases h;have U:d=[]:=by
     have:=Q.len hu;rw[g]at this;exact ams.1 (by simpa using this)
    rw[g]at p;have:=Dc (ty:=ty) C z p (base:=some ⟨b,o,none⟩) (jc:=af.length) (mi:=cap) (by omega) (w':=w) (λa _=>by rw[U];simp[storeCells]) (by simp);rw[this];exact⟨G,w,_,rfl,G.le_refl,l,r,.refl E⟩
   ·cases h
  ·rename_i id aj aCt off len cy;have r:=x;simp only[an]at x;obtain⟨f,aCu,ad,cap,rfl,d1,d2,d3⟩:=x;split at h
   ·rename_i Hh sz' ty' af he;split at h
    ·rename_i hc;obtain⟨c1,c2,c3,c4,c5,c6⟩:=hc;subst c1 c2 c3;have c4:=c4.symm;subst c4;obtain⟨g1,g2,g3,c,pre,vs,post,XU,oZ,J,N,m,D⟩:=l.obj id _ he f.2;obtain⟨f1,f2,f3⟩:=d3 g1;have W:=m.len g3;have hmul:off*i.size+len*i.size<=af.length*i.size:=by rw[<-aqV];exact ant _ c5
     have I:=Q.len hu;have hold: ∀w',w'.heap=w.heap->(Builtin.firstCells i.size len (.slice (some ad) len cap)).run P w'= .ok ((vs.drop (off*i.size)).take (len*i.size)).toArray w':=by
      intro w' hh;simp only[Builtin.firstCells];by_cases h0:len=0
      ·subst h0;simp[loadCells,loadCellsFrom]
      ·rw[f2 (by omega)];refine run_loadCells _ (by simp;omega) (λj u q=>?_);have S:w'.cell? ⟨G.aY id,G.base id+off*i.size+j,none⟩=c[G.base id+off*i.size+j]?:=cell_of_row w' _ _ c e (0,0) (by rw[hh];exact XU);rw[S];rw[aoL]at q;split at q
       ·rw[anp]at q;have x9:=(aeA.1 q).1;have:c.toList[G.base id+off*i.size+j]?=some u:=by
         rw[oZ,ag8 (by omega),aez (by omega),<-q]
         congr 1;omega
        simpa using this
       ·cases q
     have M: ∀el∈(af.drop off).take len++ys,el.length=i.size:=λel R=>(agT.1 R).elim (λh=>g3 el (ap0 (alP h))) (hu el)
     have y:bp G ((af.drop off).take len++ys) ((vs.drop (off*i.size)).take (len*i.size)++d):=XS (m.slice g3) Q;have L:Leaves ((vs.drop (off*i.size)).take (len*i.size)++d):=((D.drop _).take _).append lf;have O: ((af.drop off).take len++ys).length=len+ys.length:=by simp;omega
     split at h
     ·rename_i g;cases h;have U:d=[]:=by
       rw[g]at I;exact ams.1 (by simpa using I)
      rw[g]at p;have:=Dc (ty:=ty) C z p (base:=some ad) (jc:=len) (mi:=cap) (by omega) (w':=w) (λa _=>by rw[U];simp[storeCells]) (by simp);rw[this];exact⟨G,w,_,rfl,G.le_refl,l,r,.refl E⟩
     ·rename_i g;split at h
      ·rename_i hcp;cases h;have K:=d2 hcp;rw[Hg C z H p (by omega) hold hb c6];have:=NP (zc:=0) l e F M y L (len+ys.length) cap O.symm;simpa using this
      ·cases h;have hrefs:b8 ((af.drop off).take len++ys)<=max (b8 af) (b8 ys):=by
        rw[v9,v9 (af:=af),v9 (af:=ys),aoZ,uw,Xr g3];have C:=XI (a:=af.flatten.drop (off*i.size)) (n:=len*i.size);have h2:=XJ (a:=af.flatten) (n:=off*i.size);omega
       by_cases A:len+ys.length<=cap
       ·have XV:=f2 (by omega);have XW:len*i.size+d.length<=cap*i.size:=by rw[I,<-aqV];exact ant _ A
        have uy:=Nv (P:=P) d c w (G.base id+off*i.size+len*i.size) 0 XU (by omega) lf;rw[Dc (ty:=ty) C z p (base:=some ad) A (w':=ez w (G.aY id) (.cells (kS c (G.base id+off*i.size+len*i.size) d) e (0,0))) (λa hae=>by
         cases hae;rw[XV,jb];simpa using uy) (by simp)]
        have hle:=G.XR id (G.aY id) (G.base id+off*i.size) (G.dS id-off*i.size);refine⟨G.ee id (G.aY id) (G.base id+off*i.size) (G.dS id-off*i.size),_,_,rfl,hle,?_,?_,.ee he hrefs⟩
        ·refine l.set f _ _ hle rfl rfl (λj _ q=>by simp[Gh.ee,q]) (.inl (by simp[Gh.ee])) (by simp[Gh.ee];exact(l.low id f).2) (λk hk _=>Xk hk) (by simp) rfl rfl rfl ?_;refine⟨by simp[Gh.ee,g1],by simp[Gh.ee,g2],M,kS c (G.base id+off*i.size+len*i.size) d,pre++vs.take (off*i.size),(vs.drop (off*i.size)).take (len*i.size)++d,
          (vs++post).drop (off*i.size+(len*i.size+d.length)),?_,?_,?_,?_,y.mono hle,L⟩
         ·have: (G.ee id (G.aY id) (G.base id+off*i.size) (G.dS id-off*i.size)).aY id=G.aY id:=by simp[Gh.ee]
          rw[this];exact ur (l.low id f).2
         ·rw[G5 _ _ _ (by omega),oZ,<-J,anv];rw[azj,agQ (by omega:pre.length<=pre.length+(off*i.size+len*i.size)),anb,auK (by omega)];rw[anv pre.length,auM,akU (by omega:pre.length<=pre.length+(off*i.size+len*i.size+d.length)),anb,aiL];rw[List.take_add];simp[anv]
         ·simp[Gh.ee,J];omega
         ·simp[Gh.ee,N];omega
        ·refine⟨f,by simp[Gh.ee,g1],ad,cap,rfl,⟨A,d1.2⟩,by simp,λ_=>⟨by simp[Gh.ee,g2],λ_=>by simp[Gh.ee,XV],by simp[Gh.ee];omega⟩⟩
       ·rw[Hg C z H p (by omega) hold hb c6];have hg:=aAW w (len+ys.length) cap e;have hle:=G.XR id w.heap.size 0 (grownCap w (len+ys.length) cap e*i.size);have aCw:=(l.low id f).2;refine⟨G.ee id w.heap.size 0 (grownCap w (len+ys.length) cap e*i.size),_,_,rfl,hle,?_,?_,.ee he hrefs⟩
        ·refine l.set f _ _ hle rfl rfl (λj _ q=>by simp[Gh.ee,q]) (.inr (by simp[Gh.ee])) (by simp[Gh.ee]) (λk hk x9=>heap_alloc_old w.drew _ k x9) (by simp) rfl rfl rfl ?_;refine⟨by simp[Gh.ee,g1],by simp[Gh.ee,g2],M,((vs.drop (off*i.size)).take (len*i.size)).toArray++d.toArray++Builtin.zeroCells z'.cells (grownCap w (len+ys.length) cap e- (len+ys.length)),[],(vs.drop (off*i.size)).take (len*i.size)++d,(Builtin.zeroCells z'.cells (grownCap w (len+ys.length) cap e- (len+ys.length))).toList,?_,?_,by simp[Gh.ee],?_,y.mono hle,L⟩
         ·have: (G.ee id w.heap.size 0 (grownCap w (len+ys.length) cap e*i.size)).aY id=w.heap.size:=by simp[Gh.ee]
          rw[this];exact aqY w.drew _
         ·simp
         ·have hvn: ((vs.drop (off*i.size)).take (len*i.size)).length=len*i.size:=by simp;omega
          simp only[aCI,aBn,aCG,F,hvn,I,Gh.ee,aiH];rw[<-aqV,<-aqV,ana];congr 1;omega
        ·refine⟨f,by simp[Gh.ee,g1],_,_,rfl,⟨hg,rfl⟩,by simp,λ_=>⟨by simp[Gh.ee,g2],λ_=>by simp[Gh.ee],by simp[Gh.ee]⟩⟩
    ·cases h
   ·cases h
  ·cases h
 grind
end
section
variable{P:Program}{X:Ctx}{B:Nat}{av:World}
variable{G:Gh}{E:AS}{w:World}
def aoM(i:aU P B av G E w){d ty j:TypeId}{bytes:Nat}(z:P.underlying t=some (.slice e))(c:P.underlying d=some (.slice j))(y:cn P e=some sz)(u:xW P e=some bytes)(m: (gC P e).isSome=true)(r:0<bytes)
  {s v x:AV} {g f:Value} {ys:List (List AV)} {k:AS} (p:an G s g) (o:an G x f) (n:elems E sz x=some ys) (h:dw E e sz bytes s ys=some (v,k)):
  mh P B av G E v k ((Builtin.append_ #[t,d] ty #[g,f]).run P w):=by
 obtain⟨vs,q,l,hu,b,⟨a,cap,rfl,_⟩,C⟩:=XH i o n;refine aoF i z y u m r p q l ⟨by rfl,λw' A=>?_,.inl ⟨j,c⟩⟩ h
 grind
def aoN(l:lB):bp G (l.map λx=>[AV.int .u8 x.toNat]) (l.map λx=>Value.int .u8 x.toNat):=by
 induction l with
 |nil=>rfl
 |cons x xs a=>exact⟨[_],_,rfl,by simp[aD,an],a⟩
def XX{a:EK}(h:Af P t=some a): ∃u,P.underlying t=some u/\kindOk a u/\ (a= .bool\/a= .int\/a= .str):=by
 unfold Af at h;split at h
 ·rename_i hu;cases h;exact⟨_,hu,rfl,.inl rfl⟩
 ·rename_i hu;cases h;exact⟨_,hu,⟨_,rfl⟩,.inr (.inl rfl)⟩
 ·rename_i hu;cases h;exact⟨_,hu,rfl,.inr (.inr rfl)⟩
 grind
def XY{a:EK}{k:AV}(h:kM a k=true):isKey k=true:=by
 cases a<;>cases k<;>simp[kM]at h<;>rfl
def Hi{g:EK}{u:TypeDesc}{k d:AV}{k' a:Value}{b:Bool}(j:kM g k=true)(i:kindOk g u)(m:an G k k')(l:an G d a)(h:oW k d=some b):
  Instr.sameNow u k' a=some b/\ (b=true->Instr.sameBits 10000 a k'=true):=by
 unfold oW at h;split at h
 ·split at h
  ·rename_i e;subst e;cases h;subst m l;cases g<;>simp[kM]at j;obtain⟨q,rfl⟩:=i;refine⟨by simp[Instr.sameNow],λf=>?_⟩;have c:=eq_of_beq f;subst c;simp[Instr.sameBits]
  grind
 ·cases h;subst m l;cases g<;>simp[kM]at j;subst i;refine⟨by rfl,λf=>?_⟩;rw[beq_toListBytes]at f;have c:=eq_of_beq f;simp only[Instr.sameBits];rw[beq_toListBytes,c];simp
 ·cases h;subst m l;cases g<;>simp[kM]at j;simp only[kindOk]at i;subst i;refine⟨by rfl,λf=>?_⟩;have c:=eq_of_beq f;subst c;simp[Instr.sameBits]
 grind
theorem NQ{g:EK}{u:TypeDesc}{k:AV}{k':Value}(d:kM g k=true)(c:kindOk g u)(e:an G k k'): ∀ (es:List (AV×AV)) (ms:List MapEntry) (i:Nat) (r:Option AV),eN G es ms->dR k es=some r->
  match r with
  |none=>Instr.findNow u k' ms i=some none
  |some v=> ∃j v',Instr.findNow u k' ms i=some (some (j,v'))/\an G v v'
 | [],ms,i,r,hm,h=>by
   subst hm;simp only[dR,afh]at h;subst h;simp[Instr.findNow]
 | (k₂,f)::es,ms,i,r,hm,h=>by
   obtain⟨m,q,rfl,_,a,b,hm⟩:=hm;simp only[dR]at h;split at h
   ·rename_i he;cases h;have:=(Hi d c e a he).1;exact⟨i,m.val,by simp[Instr.findNow,this],b⟩
   ·rename_i he;have n:=(Hi d c e a he).1;have l:=NQ d c e es q (i+1) r hm h;cases r with
    |none=>simpa[Instr.findNow,n]using l
    |some v=>simpa[Instr.findNow,n]using l
   grind
def aoO{u:TypeDesc}(h:P.underlying t=some u)(a:u= .bool\/ (∃k,u= .int k)\/u= .string)(b:Bool)(n:Nat)(v:Value)(w:World): (Instr.checkKey b (n+1) t v).run P w= .ok () w:=by
 rcases a with rfl| ⟨q,rfl⟩|rfl<;>simp[Instr.checkKey,afr h]
def NR{a:EK}{u:TypeDesc}(h:P.underlying t=some u)(d:kindOk a u)(c:a= .bool\/a= .int\/a= .str)(b:Bool)(v:Value)(w:World): (Instr.checkKey b 10000 t v).run P w= .ok () w:=by
 refine aoO h ?_ b 9999 v w;rcases c with rfl|rfl|rfl
 ·exact .inl d
 ·exact .inr (.inl d)
 ·exact .inr (.inr d)
def aoP(O:aU P B av G E w){X:Ctx}(R:fo X B av){M J:TypeId}{N:EK}{z:AV}(I:P.underlying t=some (.map M J))(T:Af P M=some N)(S:xX P J=some z){m k v:AV}{m' k':Value}{d:Bool}(y:an G m m')(Q:an G k k')
  (h:gQ X.fa E N z m k d=some v): ∃v',(Instr.lookup t m' k' d).run P w= .ok v' w/\an G v v':=by
 obtain⟨u,hu,o,H⟩:=XX T;obtain⟨K,V,_,rz⟩:=NB S G w;unfold gQ at h;split at h
 ·rename_i n;split at h
  ·rename_i es a;obtain⟨c,ms,F,A,f⟩: ∃ (c:List (AV×AV)) (ms:Array MapEntry),(m'= .map none/\ms= #[]\/ ∃r clock,m'= .map (some r)/\w.heap[r]?=some (.map ms clock))/\eN G c ms.toList/\ ∀k v,dR k es=some v->dR k c=some v:=by
    unfold mapOf at a;split at a
    ·cases a;simp only[an]at y;subst y;exact⟨[],#[],.inl ⟨rfl,rfl⟩,by simp[eN],λ_ _ h=>h⟩
    ·rename_i g;obtain⟨c,r,ms,clock,e1,Z,e3,Y⟩:=R.anV O a y;exact⟨c,ms,.inr ⟨r,clock,e1,Z⟩,e3,Y⟩
    ·rename_i id;split at a
     ·rename_i c he;cases a;obtain⟨U,ms,clock,C,i⟩:=O.obj id _ he y.GZ;simp only[an]at y;obtain⟨_,r,rfl,D⟩:=y;have W:=D U;subst W;exact⟨_,ms,.inr ⟨_,clock,rfl,C⟩,i,λ_ _ h=>h⟩
     ·cases a
    ·cases a
   have az: ∀ (r:Option (Nat×Value)) (v:Value),Instr.findNow u k' ms.toList 0=some r->(match r with|some (_,x)=>v=x|none=>(zeroValue J).run P w= .ok v w)->
     (Instr.lookup t m' k' d).run P w= .ok (if d then .tuple #[v,.bool r.isSome]else v) w:=by
    intro r v l i;have s:=λb=>NR hu o H b k' w
    rcases F with⟨rfl,rfl⟩| ⟨q,clock,rfl,C⟩
    ·cases r with
     |none=>simp only at i;cases d<;>simp[Instr.lookup,afr I,s,Instr.findKey,afr hu]<;>(simp at l;simp[l,i])
     |some p=>obtain⟨j,x⟩:=p;simp only at i;subst i;simp[Instr.findNow]at l
    ·cases r with
     |none=>simp only at i;cases d<;>simp[Instr.lookup,afr I,s,Instr.findKey,afr hu,i,getObj,Sem.run,C,l]
     |some p=>obtain⟨j,x⟩:=p;simp only at i;subst i;cases d<;>simp[Instr.lookup,afr I,s,Instr.findKey,afr hu,getObj,Sem.run,C,l]
   split at h
   ·rename_i L l;cases h;obtain⟨j,v',e,rv⟩:=NQ n o Q c ms.toList 0 _ A (f _ _ l);refine⟨if d then .tuple #[v',.bool true]else v',?_,?_⟩
    ·exact az _ _ e rfl
    ·cases d
     ·exact rv
     ·exact⟨_,rfl,⟨_,_,rfl,rv,⟨_,_,rfl,by simp[an],by simp[aD]⟩⟩⟩
   ·rename_i l;cases h;have e:=NQ n o Q c ms.toList 0 _ A (f _ _ l);refine⟨if d then .tuple #[K,.bool false]else K,?_,?_⟩
    ·exact az _ _ e V
    ·cases d
     ·exact rz
     ·exact⟨_,rfl,⟨_,_,rfl,rz,⟨_,_,rfl,by simp[an],by simp[aD]⟩⟩⟩
   grind
  grind
 grind
theorem XZ{x:EK}{u:TypeDesc}{k v:AV}{k' v':Value}(g:kM x k=true)(r:kindOk x u)(n:an G k k')(p:an G v v'): ∀ (es b:List (AV×AV)) (ms:List MapEntry) (i:Nat),eN G es ms->lH k v es=some b->
  (Instr.findNow u k' ms i=some none/\ ∀born,eN G b (ms++[{key:=k',val:=v',born}]))\/
  ∃j a m,Instr.findNow u k' ms i=some (some (i+j,a))/\ms[j]?=some m/\Instr.sameBits 10000 m.key k'=true/\eN G b (ms.modify j λe=>{e with key:=k',val:=v'})
 | [],b,ms,i,hm,h=>by
   subst hm;simp only[lH,afh]at h;subst h;exact .inl ⟨by rfl,λborn=>⟨_,_,rfl,XY g,n,p,by rfl⟩⟩
 | (k₂,t)::es,b,ms,i,hm,h=>by
   simp only[eN]at hm;obtain⟨m,q,rfl,l,c,f,hm⟩:=hm;simp only[lH]at h;split at h
   ·rename_i he;cases h;obtain⟨o,z⟩:=Hi g r n c he;refine .inr ⟨0,m.val,m,by simp[Instr.findNow,o],rfl,z rfl,?_⟩;exact⟨_,_,rfl,XY g,n,p,hm⟩
   ·rename_i he;obtain⟨o,_⟩:=Hi g r n c he;cases y:lH k v es with
    |none=>grind
    |some d=>
     simp only[y,ag0,afh]at h;subst h;rcases XZ g r n p es d q (i+1) hm y with⟨e1,s⟩| ⟨j,a,m',e1,s,e3,A⟩
     ·refine .inl ⟨by simpa[Instr.findNow,o]using e1,λborn=>⟨_,_,rfl,l,c,f,s born⟩⟩
     ·refine .inr ⟨j+1,a,m',?_,by simpa using s,e3,?_⟩
      ·simp only[Instr.findNow,o];rw[e1];congr 3;omega
      ·simp only[List.modify_succ_cons];exact⟨_,_,rfl,l,c,f,A⟩
   grind
theorem X7{k v:AV}{n:Nat}: ∀ {es a:List (AV×AV)},lH k v es=some a->(∀p∈es,p.2.refs<=n)->v.refs<=n-> ∀p∈a,p.2.refs<=n
 | [],a,h,_,f=>by
   simp only[lH,afh]at h;grind
 | (k₂,e)::es,a,h,c,f=>by
   simp only[lH]at h;split at h
   ·grind
   ·cases g:lH k v es with
    |none=>grind
    |some d=>
     simp only[g,ag0,afh]at h;subst h;intro p b;rcases aiK.1 b with rfl|b
     ·simp_all
     ·exact X7 g (λp h=>c p (by grind)) f p b
   grind
def aoQ(d:aU P B av G E w){A O:TypeId}{C:EK}(H:P.underlying t=some (.map A O))(N:Af P A=some C){m k v:AV}{m' k':Value}{I:AS}(o:an G m m')(M:an G k k')(J:an G v v')
  (h:mf E C m k v=some I):An P B av G E I ((Instr.mapUpdate t m' k' v').run P w):=by
 obtain⟨u,hu,b,g⟩:=XX N;unfold mf at h;split at h
 ·rename_i i;split at h
  ·rename_i id;split at h
   ·rename_i es he;split at h
    ·rename_i l D;cases h;obtain⟨s,ms,clock,F,K⟩:=d.obj id _ he o.GZ;have c:G.on id:=⟨by rw[d.len];grind,o.GZ⟩;simp only[an]at o;obtain⟨_,r,rfl,q⟩:=o;rw[q s];have a:E.Ext (E.set id (.map l) v.refs):=.set he λn L p=>X7 D L p
     have f:=(d.low id c).2;rcases XZ i b M J es l ms.toList 0 K D with⟨e1,y⟩| ⟨j,z,m',e1,y,e3,Q⟩
     ·refine⟨G,ez w (G.aY id) (.map (ms.push {key:=k',val:=v',born:=clock}) (clock+1)),?_,G.le_refl,d.put c _ ⟨s,_,_,ur f,by simpa using y clock⟩,a⟩;simp[Instr.mapUpdate,afr H,getObj,setObj,Sem.run,F,NR hu b g,Instr.findKey,afr hu,e1,ez]
     ·rw[ana]at e1;have x:ms[j]?=some m':=by simpa using y
      refine⟨G,ez w (G.aY id) (.map (ms.modify j λe=>{e with key:=k',val:=v'}) clock),?_,G.le_refl,d.put c _ ⟨s,_,_,ur f,by simpa using Q⟩,a⟩;simp[Instr.mapUpdate,afr H,getObj,setObj,Sem.run,F,NR hu b g,Instr.findKey,afr hu,e1,ez,Instr.keyThatStays,x,e3]
    grind
   grind
  grind
 grind
end
section
variable{P:Program}{X:Ctx}{B:Nat}{av:World}
variable{G:Gh}{E:AS}{w:World}
def NS{a a':Addr}{b:List Value}(h:b=[]\/a=a'):storeCells a b=storeCells a' b:=by
 rcases h with rfl|rfl
 ·rfl
 ·rfl
def X8{af:List (List AV)}:b8 (af.take n)<=b8 af:=by
 induction af generalizing n with
 |nil=>simp
 |cons x xs a=>
  cases n with
  |zero=>simp[b8]
  |succ n=>simp only[ark,b8];grind
def X9(f:aU P B av G E w){id:Nat}{ty:TypeId}{af b:List (List AV)}(g:E.heap[id]?=some (.row aj sz ty af))(e:G.pz id=none){d:List Value}{off:Nat}(m:bp G b d)(i:Leaves d)(k: ∀el∈b,el.length=sz)(h:off+b.length<=af.length)
  {refs:Nat} (l:b8 b<=refs) {a:Addr} (p:d=[]\/a=⟨G.aY id,G.base id+off*sz,none⟩):
  An P B av G E (E.set id (.row aj sz ty (af.take off++(b++af.drop (off+b.length)))) refs) ((storeCells a d).run P w):=by
 rw[NS p];obtain⟨_,_,c,_⟩:=f.obj id _ g e;have n:=oY c;have j:=oY k;have hm:off*sz+b.length*sz<=af.length*sz:=by rw[<-aqV];exact ant _ h
 refine XN f g e (bp.iff.1 m) i (by omega) (λel o=>?_) ?_ (by rw[<-v9];exact l)
 ·grind
 ·rw[aoZ,aoZ,G9 c,Ny c];unfold aH
  grind
def aoR(r:aU P B av G E w){st ty:TypeId}(J:P.underlying t=some (.slice e))(h2:cn P e=some sz){d s v:AV}{K y:Value}{E':AS}(u:an G d K)(N:an G s y)(h:rQ E sz d s=some (v,E')):
  mh P B av G E v E' ((Builtin.copy_ #[t,st] ty #[K,y]).run P w):=by
 obtain⟨i,hi,rfl⟩:=XP h2;unfold rQ at h;split at h
 ·rename_i ys q;have src: ∃vs,bp G ys vs/\Leaves vs/\ (∀el∈ys,el.length=i.size)/\ (Builtin.lenOf y).run P w= .ok ys.length w/\ ∀n,n<=ys.length->(Builtin.firstCells i.size n y).run P w= .ok (vs.take (n*i.size)).toArray w:=by
   unfold CY at q;split at q
   ·rename_i b;split at q
    ·rename_i J;cases q;simp only[an]at N;subst N;refine⟨b.data.toList.map λx=>Value.int .u8 x.toNat,aoN _,?_,?_,by simp[Builtin.lenOf,rP],λn hn=>?_⟩
     ·intro v Z;simp only[ag2]at Z;obtain⟨x,_,rfl⟩:=Z;rfl
     ·intro el f;simp only[rP,ag2]at f;obtain⟨x,_,rfl⟩:=f;rw[J];rfl
     ·rw[J];simp only[Builtin.firstCells,Sem.run_pure]
      congr 1
      apply aq4;simp[]
    ·cases q
   ·obtain⟨vs,I,F,hu,H,⟨a,cap,rfl,_⟩,S⟩:=XH r N q;exact⟨vs,I,F,hu,by simp[Builtin.lenOf],λn hn=>S w rfl n hn⟩
  obtain⟨vs,I,F,hu,R,S⟩:=src;have key: ∀ (base:Option Addr) (c m:Nat),K= .slice base c m->(Builtin.copy_ #[t,st] ty #[K,y]).run P w=
    ((match base with|some b=>storeCells b (vs.take (Nat.min ys.length c*i.size))|none=>pure ():Sem Unit).run P w).andThen λ_ w'=>.ok (goInt (Nat.min ys.length c)) w':=by
   rintro base c m rfl;have:=S (Nat.min ys.length c) (Nat.min_le_left _ _);cases base<;>simp[Builtin.copy_,afr J,R,sizeOf,typeInfo,hi,this]
  split at h
  ·cases h;simp only[an]at u;rw[key none 0 0 u];exact⟨G,w,_,rfl,G.le_refl,r,by simp[an,goInt],.refl E⟩
  ·rename_i id aj L off len cy;split at h
   ·rename_i W M ty' af he;split at h
    ·rename_i T;obtain⟨U,c2,c3,c4⟩:=T;subst U c2 c3;cases h;simp only[an]at u;obtain⟨g,Y,D,k,e1,d1,d2,d3⟩:=u;obtain⟨f1,f2,f3⟩:=d3 (r.obj id _ he g.2).1;rw[key (some D) len k e1];have Q:Nat.min ys.length len<=ys.length:=Nat.min_le_left ys.length len;have C:Nat.min ys.length len<=len:=Nat.min_le_right ys.length len;have z: (ys.take (Nat.min ys.length len)).length=Nat.min ys.length len:=by rw[aiI];omega
     have p:bp G (ys.take (Nat.min ys.length len)) (vs.take (Nat.min ys.length len*i.size)):=by
      have:=I.slice (l:=0) (n:=Nat.min ys.length len) hu;simpa using this
     obtain⟨V,w',O,hle,o,j⟩:=X9 r he g.2 p (F.take _) (λel f=>hu el (alP f)) (off:=off) (by omega) (refs:=b8 ys) X8 (a:=D) (by
      by_cases h0:len=0
      ·left;have:Nat.min ys.length len=0:=by omega
       rw[this];simp
      ·right;rw[f2 (by omega)])
     rw[O,z]at*;exact⟨V,w',_,rfl,hle,o,by simp[an,goInt],j⟩
    ·cases h
   ·cases h
  ·rename_i id M off len;split at h
   ·rename_i cs he;split at h
    ·rename_i T;obtain⟨U,c2,c3⟩:=T;subst U;cases h;simp only[an]at u;obtain⟨g,D,k,e1,d1,d2⟩:=u;rw[key (some D) len k e1];have Q:Nat.min ys.length len<=ys.length:=Nat.min_le_left ys.length len;have C:Nat.min ys.length len<=len:=Nat.min_le_right ys.length len;have z: (ys.take (Nat.min ys.length len)).flatten.length=Nat.min ys.length len*i.size:=by rw[oY λel f=>hu el (alP f),aiI];congr 1;omega
     have p:aD G (ys.take (Nat.min ys.length len)).flatten (vs.take (Nat.min ys.length len*i.size)):=by
      rw[G9 hu];exact(bp.iff.1 I).take _
     have NT:Nat.min ys.length len*i.size<=len*i.size:=ant _ C;have A:=NK r he g.2 p (F.take _) (off:=off) (by omega) (refs:=b8 ys) (by rw[<-v9];exact X8);simp only;rw[NS (a:=D) (a':=⟨G.aY id,off,none⟩) (by
      by_cases h0:len=0
      ·left;have:Nat.min ys.length len=0:=by omega
       rw[this];simp
      ·right;exact d2 (Ak r he g.2).1 (by omega))]
     obtain⟨V,w',O,hle,o,j⟩:=A;rw[O];exact⟨V,w',_,rfl,hle,o,by simp[an,goInt],j⟩
    ·cases h
   ·cases h
  grind
 grind
def aoS(zc:Array Value)(k:Nat): (Builtin.zeroCells zc k).toList=(List.replicate k zc.toList).flatten:=by
 unfold Builtin.zeroCells;rw[Array.toList_map,Array.toList_range];by_cases a:0<zc.size
 ·exact He zc a k
 simp_all
def aoT(l:aU P B av G E w){ty:TypeId}{z:List AV}(v:P.underlying t=some (.slice e))(Q:gC P e=some z){x:AV}{p:Value}{K:AS}(j:an G x p)(h:rR E z x=some K):
  mh P B av G E .undef K ((Builtin.clear_ #[t] ty #[p]).run P w):=by
 obtain⟨D,R,_,lz,k,_⟩:=rZ Q G w;have key: ∀ (a:Addr) (n c:Nat),p= .slice (some a) n c->(Builtin.clear_ #[t] ty #[p]).run P w=
   ((storeCells a (List.replicate n D.cells.toList).flatten).run P w).andThen λ_ w'=>.ok (.tuple #[]) w':=by
  rintro a n c rfl;cases n with
  |zero=>simp[Builtin.clear_,afr v,storeCells]
  |succ n=>
   have:=aoS D.cells (n+1);simp only[Builtin.clear_];simp[afr v,R,<-this]
 unfold rR at h;split at h
 ·cases h;simp only[an]at j;subst j;exact⟨G,w,.tuple #[],by simp[Builtin.clear_,afr v],G.le_refl,l,⟨_,rfl,by simp[aD]⟩,.refl E⟩
 ·rename_i id aj q off len cy;split at h
  ·rename_i F M L af he;split at h
   ·rename_i u;obtain⟨A,J,I,S,T⟩:=u;subst A J I;cases h;simp only[an]at j;obtain⟨d,H,o,f,e1,d1,d2,d3⟩:=j;obtain⟨f1,f2,f3⟩:=d3 (l.obj id _ he d.2).1;rw[key o len f e1];obtain⟨C,w',s,hle,g,b⟩:=X9 l he d.2 (Db lz len) (Hf k len) (λel i=>by rw[atY i]) (off:=off) (by simpa using S) (refs:=0) (by
      rw[v9];have: ∀n,aG (List.replicate n z).flatten<=0:=by
       intro n
       induction n with
       |zero=>simp[aG]
       |succ n N=>simp only[atu,ap1,uw];omega
      exact this len) (a:=o) (by
     by_cases y:len=0
     ·left;rw[y];simp
     ·right;rw[f2 (by omega)])
    rw[s];rw[List.length_replicate]at g b;exact⟨C,w',_,rfl,hle,g,⟨_,rfl,by simp[aD]⟩,b⟩
   ·cases h
  ·cases h
 ·rename_i id sz off len;split at h
  ·rename_i cs he;split at h
   ·rename_i u;obtain⟨A,J,I⟩:=u;subst A;cases h;simp only[an]at j;obtain⟨d,o,f,e1,d1,d2⟩:=j;rw[key o len f e1];have r:=Db lz len;have O: (List.replicate len z).flatten.length=len*z.length:=by rw[oY (sz:=z.length) λel i=>by rw[atY i]];simp
    have m:=NK l he d.2 (bp.iff.1 r) (Hf k len) (off:=off) (by omega) (refs:=0) (by
     have: ∀n,aG (List.replicate n z).flatten<=0:=by
      intro n
      induction n with
      |zero=>simp[aG]
      |succ n N=>simp only[atu,ap1,uw];omega
     exact this len)
    rw[NS (a:=o) (a':=⟨G.aY id,off,none⟩) (by
     by_cases y:len=0
     ·left;rw[y];simp
     ·right;exact d2 (Ak l he d.2).1 (by omega))]
    obtain⟨C,w',s,hle,g,b⟩:=m;rw[s];exact⟨C,w',_,rfl,hle,g,⟨_,rfl,by simp[aD]⟩,b⟩
   ·cases h
  ·cases h
 grind
def aCx(d:P.cellsOf e=1)(a off n:Nat)(c:off+n<=a):liesAt P P.depth e a off e n=true:=by
 have b:P.depth=(2*(P.types.size+Made.depth)+1)+1:=rfl;rw[b];simp only[liesAt,aqR];rw[b];simp[rowAt,d,c,sameLayout,Nat.mod_one]
theorem aoU{w:World}: ∀ (a:List Int) (b o:Nat) (acc:ByteArray),(∀ (j:Nat) (u:Value),(a.map (Value.int .u8))[j]?=some u->w.cell? ⟨b,o+j,none⟩=some u)->
  (loadBytes ⟨b,o,none⟩ acc a.length).run P w= .ok ⟨acc.data++(a.map λn=>UInt8.ofNat n.toNat).toArray⟩ w
 | [],b,o,acc,_=>by rfl
 |n::a,b,o,acc,h=>by
  have c:w.cell? ⟨b,o,none⟩=some (.int .u8 n):=by
   have:=h 0 (.int .u8 n) rfl;omega
  have d:=aoU a b (o+1) (acc.push n.toNat.toUInt8) (λj u e=>by
   have:=h (j+1) u (by grind);rw[show o+1+j=o+(j+1) by omega];omega)
  simp only[ag5,loadBytes,Sem.run_bind,run_load,c,Result.andThen_ok,jb];simp_all
def aCy(w:World)(a:Addr)(n:Nat): (w.freeze a n).heap.size=w.heap.size:=by
 unfold World.freeze;grind
def aCz{w:World}{a:Addr}(h:k≠a.block): (w.freeze a n).heap[k]?=w.heap[k]?:=by
 unfold World.freeze
 grind
def aCA(w:World)(a:Addr)(n:Nat): (w.freeze a n).os=w.os/\ (w.freeze a n).tape=w.tape/\ (w.freeze a n).output=w.output:=by
 unfold World.freeze;grind
end
section
variable{P:Program}{X:Ctx}{B:Nat}{av:World}
variable{G:Gh}{E:AS}{w:World}
def ft{s:Sem Value}{v:AV}(hw:aU P B av G E w)(h: ∃v',s.run P w= .ok v' w/\an G v v'):Good P B av G E v E ((do pure (.value (<-s)):Sem Next).run P w):=by
 obtain⟨v',e,r⟩:=h;simp only[Sem.run_bind,e,Result.andThen_ok,Sem.run_pure];exact .same hw r
def r6{s:Sem Value}{v:AV}{b:AS}(h:mh P B av G E v b (s.run P w)):Good P B av G E v b ((do pure (.value (<-s)):Sem Next).run P w):=by
 obtain⟨i,w',v',e,g,f,d,c⟩:=h;simp only[Sem.run_bind,e,Result.andThen_ok,Sem.run_pure];exact⟨i,w',v',.inl rfl,g,f,d,c⟩
def Ya{s:Sem Unit}{b:AS}(h:An P B av G E b (s.run P w)):Good P B av G E .undef b ((do s;pure .skip:Sem Next).run P w):=by
 obtain⟨g,w',e,f,d,c⟩:=h;simp only[Sem.run_bind,e,Result.andThen_ok,Sem.run_pure];exact⟨g,w',undef,.inr ⟨rfl,rfl⟩,f,d,⟨#[],rfl,by rfl⟩,c⟩
def fb{E b:AS}{o:Option AV}{v:AV}(h:fF E o=some (.ok v b)):o=some v/\b=E:=by
 cases o with
 |none=>trivial
 |some a=>simp[fF]at h;grind
def ya{e:Env}(he:cD G nt e a.tmps){x:Option Operand}{y:Option ao}(h:um x=some y):lL G (y.map (·.get e)) (x.map a.eval):=by
 cases x with
 |none=>simp only[um,afh]at h;subst h;simp[lL]
 |some x=>
  simp only[um]at h;cases b:bJ x with
  |none=>grind
  |some z=>simp[b]at h;subst h;exact⟨_,rfl,cu he b⟩
def Yb{x:Option Operand}{y:Option ao}(h:um x=some y):y.isNone=x.isNone:=by
 cases x with
 |none=>simp only[um,afh]at h;grind
 |some x=>
  simp only[um]at h;cases b:bJ x with
  |none=>grind
  |some z=>grind
def I.plain:I->Bool
 |.call .. |.panic _=>false
 |_=>true
section
variable(hw:aU P B av G E w)(hg:fo X B av){nt:Nat}{e:Env}{a:Act}(he:cD G nt e a.tmps)(C:bu)
include hw hg he
omit hg in
theorem aoV{f:TypeId}{c:Call}{i:I}(h:C2 P f c=some i)(T:i.plain=true){v:AV}{Q:AS}(j:exec X C i e E=some (.ok v Q)):
  Good P B av G E v Q ((do let d<-resolve a.eval c f;invoke d.target d.args:Sem Next).run P w):=by
 obtain⟨callee,args,argTypes⟩:=c;unfold C2 at h;split at h
 case h_1=>
  split at h
  ·cases h;simp[I.plain]at T
  ·cases h
 case h_2 t x l n o=>
  simp only at l n o;subst l;have q:args= #[x]:=by apply aq4;simpa using o
  have p:argTypes= #[t]:=by apply aq4;simpa using n
  subst q p;have g: (do let d<-resolve a.eval ⟨.builtin .len,#[x],#[t]⟩ f;invoke d.target d.args:Sem Next)=(do pure (.value (<-Builtin.len_ #[t] f ((#[x]:Array Operand).map a.eval)))):=rfl;rw[g,show(#[x]:Array Operand).map a.eval= #[a.eval x] by simp];split at h
  ·rename_i hu;cases ho:bJ x with
   |none=>simp[ho]at h
   |some y=>
    simp only[ho,ag0,afh]at h;subst h;obtain⟨m,rfl⟩:=fb j;exact ft hw (NF (k:=.str) hw hu rfl (cu he ho) m)
  ·rename_i hu;cases ho:bJ x with
   |none=>simp[ho]at h
   |some y=>
    simp only[ho,ag0,afh]at h;subst h;obtain⟨m,rfl⟩:=fb j;exact ft hw (NF (k:=.sl) hw hu ⟨_,rfl⟩ (cu he ho) m)
  ·rename_i hu;cases ho:bJ x with
   |none=>simp[ho]at h
   |some y=>
    simp only[ho,ag0,afh]at h;subst h;obtain⟨m,rfl⟩:=fb j;exact ft hw (NF (k:=.map) hw hu ⟨_,_,rfl⟩ (cu he ho) m)
  ·cases h
 case h_3 st A s x l n o=>
  simp only at l n o;subst l;have q:args= #[s,x]:=by apply aq4;simpa using o
  have p:argTypes= #[st,A]:=by apply aq4;simpa using n
  subst q p;have g: (do let d<-resolve a.eval ⟨.builtin .append,#[s,x],#[st,A]⟩ f;invoke d.target d.args:Sem Next)=(do pure (.value (<-Builtin.append_ #[st,A] f ((#[s,x]:Array Operand).map a.eval)))):=rfl;rw[g,show(#[s,x]:Array Operand).map a.eval= #[a.eval s,a.eval x] by simp];split at h
  ·rename_i el hu;split at h
   ·rename_i sz b R W K J H F;split at h
    ·rename_i V D;split at h
     ·rename_i O;cases h;simp only[exec]at j;split at j
      ·rename_i ys S;split at j
       ·rename_i v' u L;cases j;exact r6 (aoM hw hu D K J O.2 O.1 (cu he H) (cu he F) S L)
       ·cases j
      ·cases j
     ·cases h
    ·cases h
   ·cases h
  ·cases h
 case h_4 N st d s l n o=>
  simp only at l n o;subst l;have q:args= #[d,s]:=by apply aq4;simpa using o
  have p:argTypes= #[N,st]:=by apply aq4;simpa using n
  subst q p;have g: (do let d<-resolve a.eval ⟨.builtin .copy,#[d,s],#[N,st]⟩ f;invoke d.target d.args:Sem Next)=(do pure (.value (<-Builtin.copy_ #[N,st] f ((#[d,s]:Array Operand).map a.eval)))):=rfl;rw[g,show(#[d,s]:Array Operand).map a.eval= #[a.eval d,a.eval s] by simp];split at h
  ·rename_i el hu;split at h
   ·rename_i sz Y R m M U;cases h;simp only[exec]at j;split at j
    ·rename_i v' u r;cases j;exact r6 (aoR hw hu m (cu he M) (cu he U) r)
    ·cases j
   ·cases h
  ·cases h
 case h_5 t x l n o=>
  simp only at l n o;subst l;have q:args= #[x]:=by apply aq4;simpa using o
  have p:argTypes= #[t]:=by apply aq4;simpa using n
  subst q p;have g: (do let d<-resolve a.eval ⟨.builtin .clear,#[x],#[t]⟩ f;invoke d.target d.args:Sem Next)=(do pure (.value (<-Builtin.clear_ #[t] f ((#[x]:Array Operand).map a.eval)))):=rfl;rw[g,show(#[x]:Array Operand).map a.eval= #[a.eval x] by simp];split at h
  ·rename_i el hu;split at h
   ·rename_i z y m M;cases h;simp only[exec]at j;split at j
    ·rename_i u r;cases j;exact r6 (aoT hw hu m (cu he M) r)
    ·cases j
   ·cases h
  ·cases h
 case h_6 xs l=>
  simp only at l;subst l;have g: (do let d<-resolve a.eval ⟨.builtin .max,args,argTypes⟩ f;invoke d.target d.args:Sem Next)=(do pure (.value (<-Builtin.max_ argTypes f (args.map a.eval)))):=rfl;rw[g];split at h
  ·cases ho:nL args.toList with
   |none=>simp[ho]at h
   |some ys=>
    simp only[ho,ag0,afh]at h;subst h;obtain⟨m,rfl⟩:=fb j;exact ft hw (aop (by simpa using x5 he ho) m w)
  ·cases h
 case h_7 xs l=>
  simp only at l;subst l;have g: (do let d<-resolve a.eval ⟨.builtin .min,args,argTypes⟩ f;invoke d.target d.args:Sem Next)=(do pure (.value (<-Builtin.min_ argTypes f (args.map a.eval)))):=rfl;rw[g];split at h
  ·cases ho:nL args.toList with
   |none=>simp[ho]at h
   |some ys=>
    simp only[ho,ag0,afh]at h;subst h;obtain⟨m,rfl⟩:=fb j;exact ft hw (aoq (by simpa using x5 he ho) m w)
  ·cases h
 case h_8 t x l n o=>
  simp only at l n o;subst l;have q:args= #[x]:=by apply aq4;simpa using o
  have p:argTypes= #[t]:=by apply aq4;simpa using n
  subst q p;have g: (do let d<-resolve a.eval ⟨.builtin .cap,#[x],#[t]⟩ f;invoke d.target d.args:Sem Next)=(do pure (.value (<-Builtin.cap_ #[t] f ((#[x]:Array Operand).map a.eval)))):=rfl;rw[g,show(#[x]:Array Operand).map a.eval= #[a.eval x] by simp];split at h
  ·rename_i hu;cases ho:bJ x with
   |none=>simp[ho]at h
   |some y=>
    simp only[ho,ag0,afh]at h;subst h;obtain⟨m,rfl⟩:=fb j;exact ft hw (aoo hu (cu he ho) m w)
  ·cases h
 case h_9=>cases h
theorem aoW{rows:Bool}{o:Oper}{i:I}(h:kN P rows o=some i)(hp:i.plain=true){v:AV}{E':AS}(A:exec X C i e E=some (.ok v E')):Good P B av G E v E' ((execOp a.eval o).run P w):=by
 unfold kN at h;split at h
 case h_1 x d|h_2 x d=>
  simp only[d,execOp];cases ho:bJ x with
  |none=>simp[ho]at h
  |some y=>
   simp only[ho,ag0,afh]at h;subst h;cases A;simp only[Sem.run_pure];exact .same hw (cu he ho)
 case h_3 c x y d=>
  simp only[d,execOp];split at h
  ·rename_i c' x' y' F D N;cases h;simp only[exec]at A;split at A
   ·rename_i t ht;cases A;have L:=cu he F;rw[ht]at L;simp only[an]at L;simp only[Sem.run_bind,L,asBool,Sem.run_pure,Result.andThen_ok];cases t
    ·exact .same hw (cu he N)
    ·exact .same hw (cu he D)
   ·cases A
  ·cases h
 case h_4 t d=>
  simp only[d,execOp];cases R:gC P t with
  |none=>simp[R]at h
  |some z=>
   simp only[R,ag0,afh]at h;subst h;cases A;exact r6 (aow hw R)
 case h_5 t x d=>
  simp only[d,execOp];cases ho:bJ x with
  |none=>simp[ho]at h
  |some y=>
   simp only[ho,ag0,afh]at h;subst h;simp only[exec]at A;split at A
   ·cases A
   ·rename_i ht;cases A;exact r6 (aox hw (λt' h=>aov h) (cu he ho) (by simpa using ht))
 case h_6 t ps d=>
  simp only[d,execOp];split at h
  ·rename_i fields z hu R;split at h
   ·rename_i ux;obtain⟨l,M,rfl⟩:=agY.1 h;simp only[exec]at A;split at A
    ·rename_i cs S;cases A;exact ft hw (aor hu R ux he M S w)
    ·cases A
   ·cases h
  ·rename_i n el z hu R;split at h
   ·rename_i sz H;cases M:parts (λi=>some (i*sz,sz)) ps.toList with
    |none=>simp[M]at h
    |some l=>
     simp only[M,ag0,afh]at h;subst h;simp only[exec]at A;split at A
     ·rename_i cs S;cases A;exact ft hw (aos hu R H he M S w)
     ·cases A
   ·cases h
  ·cases h
 case h_7 t len ps d=>
  simp only[d,execOp];split at h
  ·rename_i el hu;split at h
   ·rename_i z R;split at h
    ·rename_i hc;obtain⟨Yc,Yd⟩:=hc;cases M:parts (λi=>some (i*z.length,z.length)) ps.toList with
     |none=>simp[M]at h
     |some l=>
      simp only[M,ag0,afh]at h;have T: ∀k,(List.replicate k z).flatten.length=k*z.length:=λk=>by
       rw[oY (sz:=z.length) λel nP=>by rw[atY nP]];simp
      cases rows with
      |true=>
       simp only[aiH]at h;subst h;simp only[exec]at A;split at A
       ·rename_i cs S;cases A;exact r6 (aoE hw hu R Yd Yc he M S (by rw[NN S,T]))
       ·cases A
      |false=>
       simp only[agX,amn]at h;subst h;simp only[exec]at A;split at A
       ·rename_i cs S;cases A;exact r6 (aoD hw hu R Yd Yc he M S (by rw[NN S,T]))
       ·cases A
    ·cases h
   ·cases h
  ·cases h
 case h_8 t x d=>
  simp only[d,execOp];split at h
  ·rename_i b n y F D N;cases h;obtain⟨K,rfl⟩:=fb A;exact ft hw (Xp hw hg F D (cu he N) K)
  ·cases h
 case h_9 t x y d=>
  simp only[d,execOp];split at h
  ·rename_i n x' y' F D N;cases h;simp only[exec]at A;split at A
   ·rename_i Ye H;cases A;exact Ya (aoA hw F (cu he D) (cu he N) H)
   ·cases A
  ·cases h
 case h_10 x d=>
  simp only[d,execOp];cases ho:bJ x with
  |none=>simp[ho]at h
  |some y=>
   simp only[ho,ag0,afh]at h;subst h;obtain⟨K,rfl⟩:=fb A;have L:=cu he ho;obtain⟨rfl,hsh⟩:=aon L K;rcases hsh with⟨b,e1⟩| ⟨f,b,c,e1⟩| ⟨f,b,c,e1⟩<;>rw[e1]at L⊢ <;>simp only[Sem.run_pure]<;>exact .same hw L
 case h_11 op t x y g d=>
  simp only[d,execOp];split at h
  ·rename_i x' y' F D;have Q:=cu he F;have O:=cu he D;split at h
   case h_1|h_2=>
    cases h;simp only[exec]at A;split at A
    ·rename_i k p k' q e1 e2;obtain⟨K,rfl⟩:=fb A;rw[e1]at Q;rw[e2]at O;simp only[an]at Q O;rw[Q,O];refine ft hw ?_;obtain⟨v',e3,r⟩:=aoc (P:=P) (G:=G) (t:=t) (k':=k') K w;exact⟨v',by simp[eqGuard,e3],r⟩
    ·cases A
   case h_3=>
    cases W:xY P t x y with
    |none=>simp[W]at h
    |some k=>
     simp only[W,ag0,afh]at h;subst h;simp only[exec]at A;split at A
     ·rename_i b hb;cases A;obtain⟨e1,e2,_,_⟩:=XF W Q O hb w;exact ft hw (C8 (by simp[e1,e2]))
     ·cases A
   case h_4=>
    cases W:xY P t x y with
    |none=>simp[W]at h
    |some k=>
     simp only[W,ag0,afh]at h;subst h;simp only[exec]at A;split at A
     ·rename_i b hb;cases A;obtain⟨_,_,e1,e2⟩:=XF W Q O hb w;exact ft hw (C8 (by simp[e1,e2]))
     ·cases A
   case h_5=>
    cases h;rename_i op _ _ _ n1 n2 n3 n4 _;obtain⟨K,rfl⟩:=fb A;obtain⟨v',e3,r⟩:=Xs (P:=P) (t:=t) Q O K n3 n4 w;have Z: (eqGuard op t x y (a.eval x) (a.eval y)).run P w= .ok () w:=by
     cases op<;>first|exact absurd rfl n3|exact absurd rfl n4|simp[eqGuard]
    exact ft hw ⟨v',by simp[Z,e3],r⟩
   case h_6=>
    cases h;rename_i op _ _ n3 n4 _;obtain⟨K,rfl⟩:=fb A;obtain⟨v',e3,r⟩:=Xs (P:=P) (t:=t) Q O K n3 n4 w;have Z: (eqGuard op t x y (a.eval x) (a.eval y)).run P w= .ok () w:=by
     cases op<;>first|exact absurd rfl n3|exact absurd rfl n4|simp[eqGuard]
    exact ft hw ⟨v',by simp[Z,e3],r⟩
   case h_7=>cases h
  ·cases h
 case h_12 op t x d=>
  simp only[d,execOp];cases ho:bJ x with
  |none=>simp[ho]at h
  |some y=>
   simp only[ho,ag0,afh]at h;subst h;obtain⟨K,rfl⟩:=fb A;exact ft hw (aod (cu he ho) K w)
 case h_13 src dst x d=>
  simp only[d,execOp];split at h
  ·rename_i k kd y H hd ho;cases h;simp only[exec]at A;split at A
   ·rename_i k' n hn;cases A;have L:=cu he ho;rw[hn]at L;simp only[an]at L;rw[L];exact ft hw (kT (aoe (by simp[H]) hd w))
   ·cases A
  ·rename_i el y H hd ho;split at h
   ·rename_i nP;cases h;simp only[exec]at A;split at A
    ·rename_i s hn;split at A
     ·cases A;have L:=cu he ho;rw[hn]at L;simp only[an]at L;rw[L];exact r6 (aoC hw H hd nP s)
     ·cases A
    ·cases A
   ·cases h
  ·cases h
 case h_14 t x d=>
  simp only[d,execOp];split at h
  ·cases h
  ·cases h
  ·rename_i u U hu;cases ho:bJ x with
   |none=>simp[ho]at h
   |some y=>
    simp only[ho,ag0,afh]at h;subst h;cases A;exact ft hw ⟨_,aom hu (λms e=>U ms e) _ w,⟨_,rfl,cu he ho⟩⟩
 case h_15 f first cap d=>
  simp only[d,execOp];split at h
  ·rename_i xs ys F D;split at h
   ·cases h
   ·rename_i hy;cases h;cases A;refine ft hw ⟨_,by simp only[Instr.makeFunc,Sem.run_pure];rfl,⟨f,_,_,rfl,?_,by simpa using x5 he F,by simpa using x5 he D⟩⟩;cases f<;>simp[Xh]at hy<;>simp[kR]
  ·cases h
 case h_16 t d=>
  simp only[d,execOp];cases h;cases A;exact r6 (aoy hw t)
 case h_17 t l c d=>
  simp only[d,execOp];split at h
  ·rename_i el hu;split at h
   ·rename_i z b l' c' F D N K;split at h
    ·rename_i hc;cases h;simp only[exec]at A;split at A
     ·rename_i v' Ye hm;cases A;exact r6 (aoB hw hu F D hc.1 (cu he N) (cu he K) hm)
     ·cases A
    ·cases h
   ·cases h
  ·cases h
 case h_18 t x lo hi mx d=>
  simp only[d,execOp];split at h
  ·rename_i x' ak hi' mx' F D N K;split at h
   ·rename_i hu;split at h
    ·rename_i hm;cases h;obtain⟨J,rfl⟩:=fb A;have V:mx=none:=by
      have:=Yb K;rw[hm]at this;simpa using this.symm
     subst V;exact ft hw (an5 hu (cu he F) (ya he D) (ya he N) J w)
    ·cases h
   ·rename_i el hu;split at h
    ·rename_i hm;cases H:cn P el with
     |none=>simp[H]at h
     |some n=>
      simp only[H,ag0,afh]at h;subst h;obtain⟨J,rfl⟩:=fb A;refine ft hw (an9 hu H (cu he F) (ya he D) (ya he N) (ya he K) ?_ J w);cases mx' with
      |none=>exact .inl rfl
      |some m=>
       right
       cases hi' with
       |none=>simp at hm
       |some q=>simp
    ·cases h
   ·rename_i n el hu;split at h
    ·rename_i hm;cases H:cn P el with
     |none=>simp[H]at h
     |some sz=>
      simp only[H,ag0,afh]at h;subst h;obtain⟨J,rfl⟩:=fb A;have V:mx=none:=by
       have:=Yb K;rw[hm]at this;simpa using this.symm
      subst V;exact ft hw (aoa hw hg hu H (cu he F) (ya he D) (ya he N) J)
    ·cases h
   ·cases h
  ·cases h
 case h_19 s x f d=>
  simp only[d,execOp];split at h
  ·rename_i fields y hu ho;split at h
   ·rename_i g Y;split at h
    ·rename_i n hn;split at h
     ·rename_i XT;cases h;obtain⟨J,rfl⟩:=fb A;exact ft hw (anX hw hg hu Y hn XT (cu he ho) J)
     ·cases h
    ·cases h
   ·cases h
  ·cases h
 case h_20 s x f d=>
  simp only[d,execOp];split at h
  ·rename_i fields y hu ho;split at h
   ·rename_i g Y;split at h
    ·rename_i b n F D;cases h;simp only[exec]at A;split at A
     ·rename_i cs Hj;obtain⟨J,rfl⟩:=fb A;have L:=cu he ho;rw[Hj]at L;exact ft hw (an1 hu Y F D L J w)
     ·cases A
    ·cases h
   ·cases h
  ·cases h
 case h_21 t x ix d=>
  simp only[d,execOp];split at h
  ·rename_i n el y iy hu F D;cases H:cn P el with
   |none=>simp[H]at h
   |some sz=>
    simp only[H,ag0,afh]at h;subst h;obtain⟨J,rfl⟩:=fb A;exact ft hw (anY hw hg hu H (cu he F) (cu he D) J)
  ·rename_i el y iy hu F D;cases H:cn P el with
   |none=>simp[H]at h
   |some sz=>
    simp only[H,ag0,afh]at h;subst h;obtain⟨J,rfl⟩:=fb A;exact ft hw (an0 hu H (cu he F) (cu he D) J)
  ·cases h
 case h_22 t x ix d=>
  simp only[d,execOp];split at h
  ·rename_i n el y iy hu F D;split at h
   ·rename_i b sz N K;cases h;obtain⟨J,rfl⟩:=fb A;exact ft hw (an2 hu N K (cu he F) (cu he D) J w)
   ·cases h
  ·rename_i y iy hu F D;cases h;obtain⟨J,rfl⟩:=fb A;exact ft hw (an3 hu (cu he F) (cu he D) J w)
  ·cases h
 case h_23 t m k ok d=>
  simp only[d,execOp];split at h
  ·rename_i kt et hu;split at h
   ·rename_i kk z m' k' F D N K;cases h;obtain⟨J,rfl⟩:=fb A;exact ft hw (aoP hw hg hu F D (cu he N) (cu he K) J)
   ·cases h
  ·cases h
 case h_24 t m k x d|h_25 t m k x d=>
  simp only[d,execOp];split at h
  ·rename_i kt et hu;split at h
   ·rename_i kk m' k' x' F D N K;cases h;simp only[exec]at A;split at A
    ·rename_i Ye hm;cases A;exact Ya (aoQ hw hu F (cu he D) (cu he N) (cu he K) hm)
    ·cases A
   ·cases h
  ·cases h
 case h_26 x xt asserted ok d=>
  simp only[d,execOp];split at h
  ·cases h
  ·rename_i u y U hu ho;split at h
   ·rename_i z R;cases h;obtain⟨J,rfl⟩:=fb A;exact ft hw (aol hu (λms e=>U ms e) R (cu he ho) J xt w)
   ·cases h
  ·cases h
 case h_27 x j d=>
  simp only[d,execOp];cases ho:bJ x with
  |none=>simp[ho]at h
  |some y=>
   simp only[ho,ag0,afh]at h;subst h;simp only[exec]at A;split at A
   ·rename_i vs hvs;obtain⟨J,rfl⟩:=fb A;have L:=cu he ho;rw[hvs]at L;exact ft hw (an4 (x:=.au vs) L J w)
   ·cases A
 case h_28 c d=>
  simp only[d,execOp];exact aoV hw he C h hp A
 case h_29 x d=>
  cases ho:bJ x with
  |none=>simp[ho]at h
  |some y=>simp only[ho,ag0,afh]at h;subst h;simp[I.plain]at hp
 case h_30=>cases h
end
end
section
variable{P:Program}{X:Ctx}{B:Nat}{av:World}
open Classical in
noncomputable def Gh.cut(G:Gh)(n:Nat)(w:World):Gh:=
 {G with n:=n,bt:=λb o=>if∃id,n<=id/\G.on id/\G.aY id=b then w.cell? ⟨b,o,none⟩else G.bt b o}
def Hk{G:Gh}{E:AS}(a:aU P B av G E w){o:Nat}(h:G.bt b o=some v): (G.cut n w).bt b o=some v:=by
 simp only[Gh.cut];split
 ·rename_i d;obtain⟨id,_,c,rfl⟩:=d;rw[a.sep id c]at h;cases h
 omega
theorem Yf{G:Gh}{E:AS}(a:aU P B av G E w):G.dM n (G.cut n w):=
 ⟨λ_ _ _ h=>Hk a h,agW _,λ_ _=>rfl,λ_ _=>rfl,λ_ _=>rfl,λ_ _=>rfl,λ_ _=>rfl,λ_ _=>rfl⟩
def ao1{G:Gh}{id:Nat}(b:n<=id)(a:G.on id)(o:Nat): (G.cut n w).bt (G.aY id) o=w.cell? ⟨G.aY id,o,none⟩:=by
 simp only[Gh.cut];rw[afl ⟨id,b,a,rfl⟩]
theorem aU.cut{G:Gh}{E:AS}(a:aU P B av G E w)(d:n<=G.n)(m: ∀j o,j<n->E.heap[j]?=some o->o.le n)(lo:oN):aU P B av (G.cut n w) {heap:=E.heap.take n,lo} w where
 len:=by
  have:=a.len;simp[Gh.cut];omega
 bt b o v h:=by
  simp only[Gh.cut]at h;split at h
  ·exact h
  ·exact a.bt b o v h
 obj id o h l:=by
  simp only[aoL]at h;split at h
  ·rename_i f;exact ie.dM (Yf a) f rfl (a.obj id o h l) (m id o f h)
  grind
 inj i j c p e:=a.inj i j ⟨alR c.1 d,c.2⟩ ⟨alR p.1 d,p.2⟩ e
 sep i c o:=by
  have r:i<n:=c.1;have k:G.on i:=⟨alR c.1 d,c.2⟩;simp only[Gh.cut];rw[afi]
  ·exact a.sep i k o
  ·rintro⟨id,y,t,e⟩;have:=a.inj id i t k e;omega
 low i c:=a.low i ⟨alR c.1 d,c.2⟩
 lJ:=a.lJ
 hB:=a.hB
 lK id o g l:=by
  have q:id<n:=g;obtain⟨x,u⟩:=a.lK id o (alR g d) l
  grind
 dA b o v s h:=Hk a (a.dA b o v s h)
mutual
theorem Yg{G:Gh}{E:AS}{w:World}(m:aU P B av G E w){n:Nat}: ∀ (k:Nat) (v f:AV) (v':Value),freeze E n k v=some f->an G v v'->an (G.cut n w) f v'/\f.refs<=n
 |0,_,_,_,h,_=>by simp[freeze]at h
 |k+1,v,f,v',h,r=>by
  unfold freeze at h;split at h
  ·rename_i J;cases h;exact⟨r.dM (Yf m) _ _ J,J⟩
  ·rename_i J;split at h
   ·rename_i id aj sz off len cy;split at h
    ·rename_i T q ty af he;split at h
     ·rename_i Y;obtain⟨c1,c2,c3⟩:=Y;subst c1 c2;split at h
      ·rename_i g z;cases h;obtain⟨g1,g2,S,c,pre,vs,post,Z,R,U,M,K,D⟩:=m.obj id _ he r.Nu;have N:G.on id:=⟨by rw[m.len];exact(aeA.1 he).1,r.Nu⟩;have H:n<=id:=by simp only[AV.refs]at J;omega
       simp only[an]at r;obtain⟨_,_,a,cap,e,d1,d2,d3⟩:=r;obtain⟨f1,f2,f3⟩:=d3 g1;have L:=K.slice (l:=off) (n:=len) S;obtain⟨y,x,t⟩:=NU m k _ g _ z L;have d:g.length=len:=by
        have:=t;rw[this.1];simp;omega
       refine⟨⟨a.block,a.off,cap,q,_,?_,by rw[d];exact d1.1,λA=>by rw[d];exact d2 A,?_,?_,(D.drop _).take _,y⟩,x⟩
       ·rw[e,d];congr 2;obtain⟨b,o,s⟩:=a;have:=d1.2;simp only at this;rw[this]
       ·exact t.2 q (λel Q=>S el (ap0 (alP Q)))
       ·intro j u i;have p:0<cap:=by
         by_cases h0:len=0
         ·subst h0;simp at i
         ·omega
        have F:a.off=G.base id+off*q:=by rw[f2 p]
        have I:a.block=G.aY id:=by rw[f2 p]
        rw[F,I,ao1 H N];refine C5 Z _ u ?_;have V:=K.len S;rw[aoL]at i;split at i
        ·rw[anp]at i;have W:=(aeA.1 i).1;rw[R,ag8 (by omega),aez (by omega),<-i]
         congr 1;omega
        ·cases i
      ·cases h
     ·cases h
    ·cases h
   ·rename_i cs;split at h
    ·rename_i C z;cases h;simp only[an]at r;obtain⟨vs,rfl,l,D⟩:=r;obtain⟨y,x,_⟩:=Hl m k cs C _ z l;exact⟨⟨vs,rfl,y,D⟩,x⟩
    ·cases h
   ·rename_i cs;split at h
    ·rename_i C z;cases h;simp only[an]at r;obtain⟨vs,rfl,l⟩:=r;obtain⟨y,x,_⟩:=Hl m k cs C _ z l;exact⟨⟨vs,rfl,y⟩,x⟩
    ·cases h
   ·rename_i af cy;split at h
    ·rename_i g z;cases h;simp only[an]at r;obtain⟨b,o,cap,sz,vs,rfl,d1,d2,d3,O,D,K⟩:=r;obtain⟨y,x,t⟩:=NU m k af g _ z K;refine⟨⟨b,o,cap,sz,vs,by rw[t.1],by rw[t.1];exact d1,λA=>by rw[t.1];exact d2 A,t.2 sz d3,λj u i=>Hk m (O j u i),D,y⟩,x⟩
    ·cases h
   ·cases h
theorem Hl{G:Gh}{E:AS}{w:World}(d:aU P B av G E w){n:Nat}: ∀ (k:Nat) (cs b:List AV) (vs:List Value),ia E n k cs=some b->aD G cs vs->aD (G.cut n w) b vs/\aG b<=n/\b.length=cs.length
 |k,[],b,vs,h,r=>by
  cases k<;>simp only[ia,afh]at h<;>subst h<;>simp only[aD]at r<;>subst r<;>simp[aD,aG]
 |0,_::_,_,_,h,_=>by simp[ia]at h
 |k+1,a::as,b,vs,h,r=>by
  simp only[ia]at h;split at h
  ·rename_i a' i;split at h
   ·rename_i c has;cases h;simp only[aD]at r;obtain⟨v,q,rfl,l,j⟩:=r;obtain⟨g,o⟩:=Yg d k a a' v i l;obtain⟨f,m,e⟩:=Hl d (k+1) as c q has j;exact⟨⟨v,q,rfl,g,f⟩,by simp only[aG];omega,by simp[e]⟩
   ·cases h
  ·cases h
theorem NU{G:Gh}{E:AS}{w:World}(e:aU P B av G E w){n:Nat}: ∀ (k:Nat) (af b:List (List AV)) (vs:List Value),rU E n k af=some b->bp G af vs->
  bp (G.cut n w) b vs/\b8 b<=n/\ (b.length=af.length/\ ∀sz,(∀el∈af,el.length=sz)-> ∀el∈b,el.length=sz)
 |k,[],b,vs,h,r=>by
  cases k<;>simp only[rU,afh]at h<;>subst h<;>simp only[bp]at r<;>subst r<;>simp[bp,b8]
 |0,_::_,_,_,h,_=>by simp[rU]at h
 |k+1,a::as,b,vs,h,r=>by
  simp only[rU]at h;split at h
  ·rename_i a' o;split at h
   ·rename_i d has;cases h;simp only[bp]at r;obtain⟨v,q,rfl,s,p⟩:=r;obtain⟨j,u,l⟩:=Hl e k a a' v o s;obtain⟨i,t,g,f⟩:=NU e (k+1) as d q has p;refine⟨⟨v,q,rfl,j,i⟩,by simp only[b8];omega,by simp[g],λsz hu el c=>?_⟩;rcases aiK.1 c with rfl|c
    ·rw[l];exact hu a (by simp)
    ·exact f sz (λx m=>hu x (by simp[m])) el c
   ·cases h
  ·cases h
end
def yb{fL:Gh}{ch:AS}{t:World}(k:aU P B av fL ch t){G:Gh}{E:AS}(f:fL.le G)(x:aU P B av G E w)(d:AS.Ext {heap:=ch.heap,lo:=none} E){v:AV}{v':Value}(D:an G v v'):
  ∃a,fL.le a/\aU P B av a (finish ch.heap.length ch.lo v E).2 w/\an a (finish ch.heap.length ch.lo v E).1 v'/\ch.Ext (finish ch.heap.length ch.lo v E).2:=by
 have nQ: ∃a,fL.le a/\aU P B av a {heap:=E.heap,lo:=fU ch.lo E.lo} w/\an a v v'/\ch.Ext {heap:=E.heap,lo:=fU ch.lo E.lo}:=by
  refine⟨G,f,x.lo _,D,d.len,λj h=>?_,λj o h=>?_⟩
  ·cases E.lo with
   |none=>exact h
   |some l=>exact Ai (.inl h)
  ·obtain⟨o',s,g⟩:=d.obj j o h;refine⟨o',s,g.imp id λ ⟨l,e,q⟩=>?_⟩;simp only[fU,e];exact Ai (.inr q)
 have clear: (∀j,j<ch.heap.length-> ¬Ah E.lo j)-> ∀c,freeze E ch.heap.length 12 v=some c->
   ∃a,fL.le a/\aU P B av a {heap:=E.heap.take ch.heap.length,lo:=ch.lo} w/\an a c v'/\ch.Ext {heap:=E.heap.take ch.heap.length,lo:=ch.lo}:=by
  intro z c C;have A:=k.len;have y: ∀j o,j<ch.heap.length->E.heap[j]?=some o->o.le ch.heap.length:=by
   intro j o r ho;have H:ch.heap[j]?=some ch.heap[j]:=afu r;obtain⟨o',s,g⟩:=d.obj j _ H;rw[ho]at s;cases s;rcases g with g|g
   ·have:=g ch.heap.length (by have:=k.anO H;rwa[A]at this);exact this.mono (by omega)
   ·exact absurd g (z j r)
  have m:ch.heap.length<=G.n:=by rw[x.len];exact d.len
  obtain⟨I,J⟩:=Yg x 12 v c v' C D;refine⟨G.cut ch.heap.length w,?_,x.cut m y _,I,?_,λj h=>h,λj o h=>?_⟩
  ·exact{bt:=λb o u h=>Hk x (f.bt b o u h),n:=by simp[Gh.cut,A],on:=λi p=>⟨by have:=p.1;simp only[Gh.cut];omega,(f.on i p).2⟩,aj:=λi p=>f.aj i p,same:=λi p e=>f.same i p e,pz:=λi p=>f.pz i p}
  ·have:=d.len;simp only at this;simp;omega
  ·have r:j<ch.heap.length:=(aeA.1 h).1;obtain⟨o',s,g⟩:=d.obj j o h;refine⟨o',by simp[r,s],.inl ?_⟩;rcases g with g|g
   ·exact g
   ·exact absurd g (z j r)
 unfold finish;cases q:E.lo with
 |none=>
  simp only[aiH];cases C:freeze E ch.heap.length 12 v with
  |none=>simp only;rw[q]at nQ;exact nQ
  |some c=>exact clear (by rintro j _ ⟨l,e,_⟩;rw[q]at e;cases e) c C
 |some l=>
  rw[q]at nQ;by_cases h:ch.heap.length<=l
  ·simp only[h,decide_true,aiH];cases C:freeze E ch.heap.length 12 v with
   |none=>exact nQ
   |some c=>exact clear (by rintro j r ⟨K,e,F⟩;rw[q]at e;cases e;omega) c C
  ·simp only[h,aCM,agX,amn];exact nQ
end
section
variable{P:Program}{X:Ctx}{B:Nat}{av:World}{cS:List Deferred}
def W(r:oN):Fence:={fn:=λ_=>True,depth:=none,alive:=false,round:=r}
theorem ao2:W none=Fence.wide:=rfl
theorem Dd(r:oN)(n:Nat): (W r).room n:=λ_ h=>by simp[W]at h
theorem NV{r a:oN}{args:Array Value}{R:Ending->World->Prop}(h:CallsIn (W r) n P f args w R):CallsIn (W a) b P f args w R:=
 ⟨trivial,λcs _=>h.2 cs (Dd _ _)⟩
theorem ao3{r d:oN}{e:Nat}{a:Array Value}{as b:Code}{R:Ending->World->Prop}(h:RoundIn (W r) n P l f a as b w R):RoundIn (W d) e P l f a as b w R:=
 ⟨trivial,λc cs _=>h.2 c cs (Dd _ _)⟩
def Ends(P:Program)(B:Nat)(av:World)(G:Gh)(E:AS):aS->Ending->World->Prop
 |.ret v b,.returned v',w'=> ∃a,G.le a/\aU P B av a b w'/\an a v v'/\E.Ext b
 |.panic v b,.panicked chain,w'=> ∃a v',chain=[{v:=v',recovered:=false}]/\G.le a/\aU P B av a b w'/\an a v v'/\E.Ext b
 |_,_,_=>False
def uz(P:Program)(K:Ending->World->Prop):Result Next->Prop
 |.ok (.value v) w'=>K (.returned v) w'
 |.ok (.enter f args) w'=>CallsIn (W none) 0 P f args w' K
 |.ok (.round l f tmps as bd) w'=>RoundIn (W none) 0 P l f tmps as bd w' K
 |_=>False
theorem uz.mono{K b:Ending->World->Prop}{r:Result Next}(h:uz P K r)(a: ∀e w,K e w->b e w):uz P b r:=by
 unfold uz at*;split at h
 ·exact a _ _ h
 ·exact h.mono a
 ·exact h.mono a
 ·exact h.elim
def wa(fv:Value)(args:Array Value):Sem Next:=do let d<-Deferred.ofValue fv args;invoke d.target d.args
def fG(P:Program)(B:Nat)(av:World)(C:bu):Prop:=
 ∀fv args E c,C fv args E=some c-> ∀G w b (a:Array Value),aU P B av G E w->an G fv b->aD G args a.toList->uz P (Ends P B av G E c) ((wa b a).run P w)
def fZ(cS:List Deferred)(G:Gh):lN->List Deferred->Prop
 | [],a=>a=cS
 |m::ms,a=> ∃d r k,a=d::r/\d.target= .collected k/\G.on m/\ (G.aj m=0->k=G.aY m)/\fZ cS G ms r
theorem fZ.mono{G c:Gh}(h:G.le c): ∀ {ms:lN} {b:List Deferred},fZ cS G ms b->fZ cS c ms b
 | [],_,r=>r
 |m::ms,_,r=>by
  simp only[fZ]at*;obtain⟨d,q,k,e,i,a,g,f⟩:=r;refine⟨d,q,k,e,i,h.on _ a,λl=>?_,f.mono h⟩;have j:=h.aj _ a;rw[(h.same _ a (by omega)).1];exact g (by omega)
theorem fZ.de{G c:Gh}(h:G.sub c): ∀ {ms:lN} {b:List Deferred},fZ cS G ms b->fZ cS c ms b
 | [],_,r=>r
 |m::ms,_,r=>by
  simp only[fZ]at*;obtain⟨d,q,k,e,i,a,g,f⟩:=r;refine⟨d,q,k,e,i,h.on _ a,λl=>?_,f.de h⟩;have j:=h.aj _ a;rw[(h.same _ a (by omega)).1];exact g (by omega)
def fH(G:Gh):Ex->Exit->Prop
 |.normal,.normal=>True
 |.exit i,.exit j=>i=j
 |.ret,.ret=>True
 |.panic v,.panic chain=> ∃v',chain=[{v:=v',recovered:=false}]/\an G v v'
 |_,_=>False
def mj(P:Program)(B:Nat)(av:World)(cS:List Deferred)(fL:Gh)(ch:AS)(nt:Nat)(b:Ex×Fr×AS)(e:Exit)(a:Act)(w:World):Prop:=
 ∃G,fL.le G/\aU P B av G b.2.2 w/\cD G nt b.2.1.env a.tmps/\fZ cS G b.2.1.marks a.defers/\ch.Ext b.2.2/\fH G b.1 e
theorem mj.trans{fL b:Gh}{ch c:AS}{d:Ex×Fr×AS}{e:Exit}(h:mj P B av cS b c nt d e a w)(hg:fL.le b)(f:ch.Ext c):mj P B av cS fL ch nt d e a w:=by
 obtain⟨G,m,l,k,j,i,g⟩:=h;exact⟨G,Gh.le_trans hg m,l,k,j,f.trans i,g⟩
theorem cD.set{G:Gh}{e:Env}{a:Array Value}(h:cD G nt e a){d:Nat}(g:d<nt){v:AV}(f:an G v v'):cD G nt (e.set d v) (a.setIfInBounds d v')where
 size:=by simp[h.size]
 get t u b:=by
  rw[ans]at b;simp only[Env.set];split at b
  ·rename_i e;subst e;split at b
   ·cases b;rw[afl rfl];exact f
   ·cases b
  ·rename_i c;rw[afi (λe=>c e.symm)];exact h.get t u b
 out t b:=by
  simp only[Env.set];rw[afi (by omega)];exact h.out t b
def qx{G:Gh}{b:Fr}(h:cD G nt b.env a.tmps){dst:oN}(e: ∀d,dst=some d->d<nt){v:AV}(c:an G v v'):
  cD G nt (b.put dst v).env (a.put dst v').tmps/\ (b.put dst v).marks=b.marks/\ (a.put dst v').defers=a.defers:=by
 cases dst with
 |none=>exact⟨h,rfl,rfl⟩
 |some d=>exact⟨h.set (e d rfl) c,rfl,rfl⟩
theorem yc{G:Gh}:an G .undef undef:=⟨#[],rfl,by simp[aD]⟩
def ao4{G:Gh}{x:AV}{b:Bool}(h:an G x (.bool b)):x= .bool b:=by
 cases x<;>simp[an]at h;rw[h]
def yd{G:Gh}{e:Env}(k:cD G nt e a.tmps){d:Array Oper}{o:Oper}{g:Option (Nat×Bool)}(h:guardOf d o=some g):Region.wanted o (yielded d a.tmps)=fK e g:=by
 unfold guardOf at h;unfold Region.wanted;split at h
 ·rename_i s;cases h;simp[s,fK]
 ·rename_i j want q;split at h
  ·rename_i t p;cases h;simp only[q,fK,yielded,p,aqT];by_cases c:t<a.tmps.size
   ·have f:=k.get t a.tmps[t] (by simp[c]);simp only[ay5 c];cases l:a.tmps[t]with
    |bool b=>
     rw[l]at f;rw[ao4 f];simp
    |_=>
     rw[l]at f;cases m:e t<;>rw[m]at f<;>simp[an]at f<;>simp
   ·have i:a.tmps.size<=t:=Nat.le_of_not_lt c;rw[k.out t (by rw[<-k.size];exact i)];have:a.tmps[t]?=none:=Array.getElem?_eq_none i;simp[this]
  ·cases h
section region
variable{C:bu}(hC:fG P B av C)(hg:fo X B av){r:oN}{n nt:Nat}
include hC hg
theorem ye{rows:Bool}{ops:Array Oper}{o:Oper}{x:aO}(h:ic P rows ops o=some x)(hd: ∀d,x.dst=some d->d<nt){G:Gh}{E:AS}{H:Fr}(hw:aU P B av G E w)(K:cD G nt H.env a.tmps)(hm:fZ cS G H.marks a.defers)
  {u:Out} (m:exec X C x.i H.env E=some u) {next:Act->World->Prop} {Q:Exit->Act->World->Prop}
  (U: ∀v l,u= .ok v l-> ∀J a' w',G.le J->aU P B av J l w'->E.Ext l->cD J nt (H.put x.dst v).env a'.tmps->fZ cS J (H.put x.dst v).marks a'.defers->next a' w')
  (p: ∀v l,u= .panic v l-> ∀e a' w',mj P B av cS G E nt (.panic v,H,l) e a' w'->Q e a' w'):o.wpIn (W r) n P a w next Q:=by
 refine⟨λ_ _=>trivial,?_⟩;unfold ic at h;split at h
 ·rename_i i g b ig;cases h;have S:o.semAt (W r).round a.eval=execOp a.eval o:=by
   apply Oper.semAt_eq;intro c e;simp[kN,e]at b
  rw[S];have ax: ∀v l,u= .ok v l->Good P B av G E v l ((execOp a.eval o).run P w)->o.uponIn (W r) n P a next Q ((execOp a.eval o).run P w):=by
   intro v l e M;obtain⟨J,w',v',F,s,O,Y,V⟩:=M;obtain⟨p1,p2,p3⟩:=qx (a:=a) (K.mono s) hd Y;have hn:=U v l e J (a.put o.dst v') w' s O V p1 (by rw[p2,p3];exact hm.mono s);rcases F with F| ⟨F,Z⟩
   ·rw[F];exact hn
   ·rw[F];subst Z;exact hn
  by_cases hp:i.plain=true
  ·cases u with
   |ok v l=>exact ax v l rfl (aoW hw hg K C b hp m)
   |panic v l=>
    exfalso;cases i<;>simp[I.plain]at hp<;>simp only[exec,fF]at m<;>(repeat' split at m)<;>(try cases m)
  ·cases A:o.op with
   |call c=>
    simp only[kN,A]at b;obtain⟨callee,D,cts⟩:=c;have N: ∃f fs as,callee= .value f/\bJ f=some fs/\nL D.toList=some as/\i= .call fs as:=by
     unfold C2 at b;split at b
     case h_1 d1 d2 d3 f hc=>
      simp only at hc;split at b
      ·rename_i f' as s O;cases b;exact⟨_,_,_,hc,s,O,rfl⟩
      ·cases b
     all_goals exfalso
     all_goals(first| (repeat' split at b)|skip)<;>(try cases b)<;>(try(simp only[agY]at b;obtain⟨_,_,rfl⟩:=b))<;>simp[I.plain]at hp
    obtain⟨f,fs,as,rfl,hf,has,rfl⟩:=N;have z: (execOp a.eval o).run P w=(wa (a.eval f) (D.map a.eval)).run P w:=by
     unfold execOp;simp only[A];rfl
    simp only[exec]at m;have key: ∀R,C (fs.get H.env) (as.map (·.get H.env)) E=some R->uz P (Ends P B av G E R) ((execOp a.eval o).run P w):=by
     intro R q;rw[z];exact hC _ _ _ _ q G w _ _ hw (cu K hf) (by simpa using x5 K has)
    cases q:C (fs.get H.env) (as.map (·.get H.env)) E with
    |none=>simp[q]at m
    |some R=>
     have L:=key R q;have cont: ∀e k,Ends P B av G E R e k->(match e with
       |.returned v=>next (a.put o.dst v) k
       |.panicked chain=>Q (.panic chain) a k
       |.outgrown=>LetsOut Q):=by
      intro e k j;cases R with
      |ret v l=>
       simp only[q,afh]at m;cases e with
       |returned v'=>
        obtain⟨J,s,O,Y,V⟩:=j;obtain⟨p1,p2,p3⟩:=qx (a:=a) (K.mono s) hd Y;exact U v l m.symm J _ k s O V p1 (by rw[p2,p3];exact hm.mono s)
       |panicked _=>exact j.elim
       |outgrown=>exact j.elim
      |panic v l=>
       simp only[q,afh]at m;cases e with
       |returned _=>exact j.elim
       |panicked chain=>
        obtain⟨J,v',NW,s,O,Y,V⟩:=j;exact p v l m.symm _ _ _ ⟨J,s,O,K.mono s,hm.mono s,V,v',NW,Y⟩
       |outgrown=>exact j.elim
     generalize(execOp a.eval o).run P w=res at L;unfold uz at L;split at L
     ·exact cont _ _ L
     ·exact⟨λh=>by simp[W]at h,NV (L.mono λe k h=>by have:=cont e k h;cases e<;>exact this)⟩
     ·exact⟨λh=>by simp[W]at h,ao3 (L.mono λe k h=>by have:=cont e k h;cases e<;>exact this)⟩
     ·exact L.elim
   |panic x=>
    simp only[kN,A]at b;cases ho:bJ x with
    |none=>simp[ho]at b
    |some y=>
     simp only[ho,ag0,afh]at b;subst b;simp only[exec]at m;split at m
     ·rename_i t v ht;cases m;have F:=cu K ho;rw[ht]at F;have T:=F;simp only[an]at F;obtain⟨v',Z,_⟩:=F;have z: (execOp a.eval o).run P w= .halt (.panic (.iface t v')) w:=by
       unfold execOp;simp only[A,Z];simp[Instr.panic,goPanic,Sem.run_bind,Sem.run,Result.andThen]
      rw[z];rw[Z]at T;exact p _ _ rfl _ _ _ ⟨G,G.le_refl,hw,K,hm,.refl E,_,rfl,T⟩
     ·cases m
   |_=>
    exfalso;simp only[kN,A]at b
    repeat' split at b
    all_goals(try cases b)
    all_goals(try(simp only[agY]at b;obtain⟨_,_,rfl⟩:=b))
    all_goals first| (simp[I.plain]at hp;done)| (simp_all;done)
 ·cases h
end region
end
section
variable{P:Program}{X:Ctx}{B:Nat}{av:World}{cS:List Deferred}
section
variable{C:bu}(hC:fG P B av C)(hg:fo X B av){r:oN}{n nt:Nat}{rows:Bool}
include hC hg
theorem NX{j:Array Oper}: ∀ (os:List Oper) (is:lN) (l:List aO),is.map (j[·]?)=os.map some->kO P rows j os=some l->(∀x∈l,∀d,x.dst=some d->d<nt)->
  ∀ (G:Gh) (E:AS) (w:World) (fr:Fr) (a:Act) (res:Ex×Fr×AS) (Q:Exit->Act->World->Prop),aU P B av G E w->cD G nt fr.env a.tmps->fZ cS G fr.marks a.defers->eD X C l fr E=some res->
  (∀e a w,mj P B av cS G E nt res e a w->Q e a w)->wpOpsIn (W r) n P j Q is a w
 | [],is,l,k,p,q,G,E,w,fr,a,res,Q,hw,he,hm,g,u=>by
   have:is=[]:=by simpa using k
   subst this;simp only[kO,afh]at p;subst p;simp only[eD,afh]at g;subst g;exact u _ _ _ ⟨G,G.le_refl,hw,he,hm,.refl E,trivial⟩
 |o::os,is,l,k,p,q,G,E,w,fr,a,res,Q,hw,he,hm,g,u=>by
  cases is with
  |nil=>simp at k
  |cons i is=>
   simp only[anw,azp]at k;obtain⟨D,k⟩:=k;simp only[kO]at p;split at p
   ·rename_i x xs f s;cases p;simp only[wpOpsIn,D];have F:guardOf j o=some x.g:=by
     unfold ic at f;split at f
     ·rename_i H;cases f;exact H
     ·cases f
    have t:x.dst=o.dst:=by
     unfold ic at f;split at f
     ·cases f;rfl
     ·cases f
    have A:=yd he F;simp only[eD]at g;rw[A];split at g
    ·rename_i m;rw[afl m];split at g
     ·rename_i v I hex;refine ye hC hg f (q x (by simp)) hw he hm hex (λb c e S a' w' R H O N M=>?_) (λb c e=>by cases e);cases e;exact NX os is xs k s (λy z=>q y (by simp[z])) S I w' _ a' res Q H N M g (λe a w h=>u e a w (h.trans R O))
     ·rename_i v I hex;cases g;exact ye hC hg f (q x (by simp)) hw he hm hex (λb c e=>by cases e) (λb c e T a' w' h=>by cases e;exact u _ _ _ h)
     ·cases g
    ·rename_i m;rw[afi m];refine⟨λ_ _=>trivial,?_⟩;obtain⟨L,K,J⟩:=qx (a:=a) he (q x (by simp)) (v:=.undef) (v':=undef) yc;rw[<-t];exact NX os is xs k s (λy z=>q y (by simp[z])) G E w _ _ res Q hw L (by rw[K,J];exact hm) g u
   ·cases p
omit hC hg in
theorem ao5(a:Array Oper): (List.range a.size).map (a[·]?)=a.toList.map some:=by
 apply aoI;intro j;by_cases b:j<a.size
 ·simp[b]
 ·simp[b]
end
def yf(L:ed):Prop:= ∀body fr E res,L body fr E=some res-> ∃k,iter k body fr E=some res
def Ao(P:Program)(B:Nat)(av:World)(cS:List Deferred)(r:oN)(n nt:Nat)(c:Code)(b:Fr->AS->ja):Prop:=
 ∀ (G:Gh) (E:AS) (w:World) (fr:Fr) (a:Act) (res:Ex×Fr×AS) (Q:Exit->Act->World->Prop),aU P B av G E w->cD G nt fr.env a.tmps->fZ cS G fr.marks a.defers->b fr E=some res->
   (∀e a w,mj P B av cS G E nt res e a w->Q e a w)->c.wpIn (W r) n P Q a w
theorem Yh{r:oN}{n nt:Nat}{c:Code}{t:Fr->AS->ja}(h:Ao P B av cS r n nt c t): ∀ (m:Nat) (G:Gh) (E:AS) (w:World) (fr:Fr) (a:Act) (res:Ex×Fr×AS) (Q:Exit->Act->World->Prop),
  aU P B av G E w->cD G nt fr.env a.tmps->fZ cS G fr.marks a.defers->iter m t fr E=some res->(∀e a w,mj P B av cS G E nt res e a w->Q e a w)->
  ∀ (b:Frame) (k:List Item) (cs:List Frame),b.roundOf=(W r).round-> ∃e a' w',Q e a' w'/\ArrivesIn (Machine.fenced P (W r)) P (lone (b.atR a (.code c:: .inLoop c::k)) cs w) b k cs e a' w'
 |0,_,_,_,_,_,_,_,_,_,_,y,_,_,_,_,_=>by simp[iter]at y
 |m+1,G,E,w,fr,a,res,Q,hw,he,hm,y,R,b,k,cs,u=>by
  simp only[iter]at y;split at y
  ·rename_i q H T;have j:=h G E w fr a (.normal,q,H) (Exit.then (λa' w'=>mj P B av cS G E nt (.normal,q,H) .normal a' w') (λ_ _ _=>False)) hw he hm T (λe a' w' i=>by
    have v:=i;obtain⟨s,N,M,L,K,J,I⟩:=i;cases e<;>simp[fH]at I;exact v)
   obtain⟨e,g,d,o,f⟩:=j b (.inLoop c::k) cs u trivial (Dd _ _);cases e<;>try exact o.elim
   obtain⟨s,N,M,L,K,J,I⟩:=o;obtain⟨D,F,A,z,p⟩:=Yh h m s H d q g res Q M L K y (λe a w S=>R e a w (S.trans N J)) b k cs u;exact⟨D,F,A,z,.of_steps (StepsIn.trans f (.one (fenced_calm (n:=n) trivial (Dd _ _) rfl) stepR_inLoop)) p⟩
  ·rename_i O;have j:=h G E w fr a res (Exit.then (λ_ _=>False) Q) hw he hm y (λe a' w' i=>by
    have o:=R e a' w' i;obtain⟨s,N,M,L,K,J,I⟩:=i;obtain⟨ex,q,H⟩:=res;cases e<;>first|exact o| (exfalso;cases ex<;>simp[fH]at I;exact O q H y))
   obtain⟨e,g,d,o,f⟩:=j b (.inLoop c::k) cs u trivial (Dd _ _);cases e with
   |normal=>exact o.elim
   |exit id=>exact⟨_,g,d,o,.pass (x:=.inLoop c) rfl (λ_ _=>.inl (by simp)) f⟩
   |goto l=>exact⟨_,g,d,o,.pass (x:=.inLoop c) rfl (λ_ _=>.inl (by simp)) f⟩
   |ret=>exact⟨_,g,d,o,.pass (x:=.inLoop c) rfl (λ_ _=>.inl (by simp)) f⟩
   |panic U=>exact⟨_,g,d,o,.pass (x:=.inLoop c) rfl (λ_ _=>.inl (by simp)) f⟩
   |outgrown=>exact⟨_,g,d,o,.pass (x:=.inLoop c) rfl (λ_ _=>.inl (by simp)) f⟩
def ao6{r:oN}{c:Code}{d:Fr->AS->ja}(h:Ao P B av cS r n nt c d)(m:Nat):Ao P B av cS r n nt (.loop c) (iter m d):=by
 intro G E w fr a res Q hw he hm j p b k cs i o f;obtain⟨e,a',w',l,g⟩:=Yh h m G E w fr a res Q hw he hm j p b k cs i;exact⟨e,a',w',l,.of_steps (.one (fenced_calm o f rfl) stepR_loop) g⟩
end
section
variable{P:Program}{X:Ctx}{B:Nat}{av:World}{cS:List Deferred}
def o5(P:Program)(X:Ctx):Prop:= ∀f pf,X.code f=some pf-> ∃rows fn,P.funcs[f]?=some fn/\C3 P rows fn=some pf
def Hm{rows:Bool}{fn:Func}{pf:PF}(h:C3 P rows fn=some pf): ∃c,fn.body=some c/\eF P rows fn.ntmps c=some pf.body/\oX P fn.results.toList=some pf.results/\pf.ntmps=fn.ntmps/\ (fn.name== "runtime.NumGoroutine")=false:=by
 unfold C3 at h;split at h
 ·rename_i c d;split at h
  ·rename_i b rs f e;split at h
   ·rename_i a;cases h;exact⟨c,d,f,e,rfl,by simpa using a⟩
   ·cases h
  ·cases h
 ·cases h
def Yi{fn:Func}{c:Code}(d:P.funcs[f]?=some fn)(e:fn.body=some c)(b: (fn.name== "runtime.NumGoroutine")=false)(first cap args:Array Value)(w:World):
  (wa (.func (.func f) first cap) args).run P w= .ok (.enter f (first++args++cap)) w:=by
 have a: ¬fn.name= "runtime.NumGoroutine" :=by simpa using b
 simp[wa,Deferred.ofValue,invoke,callFunc,arC,d,a,e]
def ao7{r:oN}{b:PC}{g:Ex}{c:Option Code}(d:xZ (some b) c)(f:Ad b=some g){Q:Exit->Act->World->Prop}(h: ∀e,(∀G,fH G g e)->Q e a w): ∃code,c=some code/\code.wpIn (W r) n P Q a w:=by
 cases b<;>simp[Ad]at f<;>simp only[xZ]at d<;>subst d<;>subst f
 ·exact⟨_,rfl,wpIn_exit (h _ λ_=>rfl)⟩
 ·exact⟨_,rfl,wpIn_ret (h _ λ_=>trivial)⟩
section
variable{C:bu}(hC:fG P B av C)(hg:fo X B av)(hX:o5 P X){n nt:Nat}{rows:Bool}
include hC hX
theorem ao8{bO:FuncId}{g:Operand}{g':ao}{N:Array Tmp}{assign body:Code}{as bd:PC}(h1:bJ g=some g')(h2:eF P rows nt assign=some as)(h3:eF P rows nt body=some bd)(h4:N.toList.all (· <nt)=true){L:ed}:
  Ao P B av cS none n nt (.rangeFunc g N assign body) (aX X C L bO false (.hZ g' N.toList as bd)):=by
 intro G E w fr a res Q hw he hm u hQ;simp only[aX,agX,amn]at u;split at u
 ·rename_i o;have S:=cu he h1;obtain⟨f,first,cap,pf,hgv,aCC,hpf⟩: ∃f first cap pf,g'.get fr.env= .fn (.func f) first cap/\X.bU f=none/\X.code f=some pf:=by
   unfold rT at o;split at o
   ·rename_i f first cap hv
    simp only[aiq,Option.isNone_iff_eq_none,atx]at o;obtain⟨h1,pf,h2⟩:=o;exact⟨f,first,cap,pf,hv,h1,h2⟩
   ·cases o
  obtain⟨apb,fn,hf,apc⟩:=hX f pf hpf;obtain⟨c,M,_,_,_,H⟩:=Hm apc;have apd:=S;rw[hgv]at S;simp only[an,kR]at S;obtain⟨f',d,t,Ap,qy,aCD,aCE⟩:=S;subst qy;refine wpIn_rangeFunc (λYj _=>?_);have R:=he.size
  let y:Loop:={state:=.ready,pending:=none,fn:=Yj,tmps:=a.tmps,params:=N,assign,body,defers:=w.heap.size}
  let k:=(w.alloc (.deferred (some []))).alloc (.loop y)
  have hs1: (w.alloc (.deferred (some []))).heap.size=w.heap.size+1:=by simp
  have Yk:=hw.push (.deferred (some [])) .bD 0 0 ⟨by simp[Gh.push],by
   have: (G.push w.heap.size 0 0).aY G.n=w.heap.size:=by simp[Gh.push]
   rw[this];exact aqY _ _⟩
  have s:=G.Aj w.heap.size 0 0;have p:=(G.push w.heap.size 0 0).Aj (w.alloc (.deferred (some []))).heap.size 0 0;have hw2:=Yk.push (.loop y) (.loop .ready none bO fr.env N.toList as bd) 0 0 ⟨by simp[Gh.push],y,by
   have: ((G.push w.heap.size 0 0).push (w.alloc (.deferred (some []))).heap.size 0 0).aY (G.push w.heap.size 0 0).n=(w.alloc (.deferred (some []))).heap.size:=by simp[Gh.push]
   rw[this];exact aqY _ _,rfl,rfl,trivial,by
    have:=(he.mono s).mono p;show cD _ a.tmps.size fr.env a.tmps;rw[R];exact this,rfl,by show N.toList.all (· <a.tmps.size)=true;rw[R];exact h4,rows,by show eF P rows a.tmps.size assign=_;rw[R];exact h2,by show eF P rows a.tmps.size body=_;rw[R];exact h3⟩
  have i:=hw.len;have apf: ((G.push w.heap.size 0 0).push (w.alloc (.deferred (some []))).heap.size 0 0).on E.heap.length:=p.on _ (Gh.C4 hw);have F: ((G.push w.heap.size 0 0).push (w.alloc (.deferred (some []))).heap.size 0 0).on (E.heap.length+1):=by
   have:=Gh.C4 Yk (b:=(w.alloc (.deferred (some []))).heap.size) (dS:=0) (sz:=0);have e: (E.push .bD).heap.length=E.heap.length+1:=by simp[AS.push]
   rwa[e]at this
  refine⟨w.heap.size+1,[{target:=.collected w.heap.size,args:= #[]}],k,{target:=.fn (.func f) t,args:=d++ #[.func (.yield (w.heap.size+1)) #[] #[]]},k,f,d++ #[.func (.yield (w.heap.size+1)) #[] #[]]++t,k,?_,?_,λ_ _=>trivial,?_,λh=>by simp[W]at h,?_⟩
  ·show(Instr.enterLoop Yj a.tmps N assign body none).run P w=_;simp[Instr.enterLoop,k,y]
  ·have apg:Act.eval a g= .func (.func f) d t:=Ap;have hm0: (#[Operand.const (.func (.yield (w.heap.size+1)) #[] #[])]:Array Operand).map a.eval= #[.func (.yield (w.heap.size+1)) #[] #[]]:=by simp[Act.eval]
   simp only[rangeCall,resolve,hm0,apg,Deferred.ofValue,Sem.run_pure]
  ·have Hn: ¬fn.name= "runtime.NumGoroutine" :=by simpa using H
   simp[invoke,callFunc,arC,hf,Hn,M]
  ·have hy:an ((G.push w.heap.size 0 0).push (w.alloc (.deferred (some []))).heap.size 0 0) (.fn (.yield (E.heap.length+1)) [] []) (.func (.yield (w.heap.size+1)) #[] #[]):=by
     refine⟨_,#[],#[],rfl,⟨F,_,rfl,λ_=>by simp[Gh.push,i]⟩,by simp[aD],by simp[aD]⟩
   have z:=Yi (P:=P) hf M H d t #[.func (.yield (w.heap.size+1)) #[] #[]] k;have Z:E.Ext ((E.push .bD).push (.loop .ready none bO fr.env N.toList as bd)):=(AS.Ext.push _ _).trans (.push _ _);have main: ∀cr,C (g'.get fr.env) [.fn (.yield (E.heap.length+1)) [] []] ((E.push .bD).push (.loop .ready none bO fr.env N.toList as bd))=some cr->
     CallsIn (W none) 0 P f (d++ #[.func (.yield (w.heap.size+1)) #[] #[]]++t) k (Ends P B av ((G.push w.heap.size 0 0).push (w.alloc (.deferred (some []))).heap.size 0 0) ((E.push .bD).push (.loop .ready none bO fr.env N.toList as bd)) cr):=by
    intro cr K;have:=hC _ _ _ _ K _ k (a.eval g) #[.func (.yield (w.heap.size+1)) #[] #[]] hw2 ((apd.mono s).mono p) ⟨_,_,rfl,hy,by simp[aD]⟩;rw[Ap,z]at this;exact this
   have hmarks: ∀x,((G.push w.heap.size 0 0).push (w.alloc (.deferred (some []))).heap.size 0 0).le x->fZ cS x (E.heap.length::fr.marks) ({target:=.collected w.heap.size,args:= #[]}::a.defers):=by
    intro x hG';refine fZ.mono hG' ⟨_,_,w.heap.size,rfl,rfl,apf,λ_=>by simp[Gh.push,i],(hm.mono s).mono p⟩
   split at u
   ·rename_i v E' K;refine NV ((main _ K).mono λe q m=>?_);cases e with
    |panicked _=>exact m.elim
    |outgrown=>exact m.elim
    |returned v'=>
     obtain⟨x,U,q2,q3,q4⟩:=m;unfold endLoop at u;split at u
     ·rename_i st A ff env De Ho iE Y;split at u
      ·cases u
      ·rename_i uy;have I:x.on (E.heap.length+1):=U.on _ F;obtain⟨o0,L',ob,os,oj,_,oe,op,NY,apj⟩:=q2.obj _ _ Y I.2;have Yl:x.aY (E.heap.length+1)=w.heap.size+1:=by
        rw[(U.same (E.heap.length+1) F (by rw[o0];simp[Gh.push,i])).1];simp[Gh.push,i]
       rw[Yl]at ob;have V: (Instr.endLoop (w.heap.size+1)).run P q= .ok L'.pending (ez q (w.heap.size+1) (.loop {L' with state:=.exhausted})):=by
        have NZ: ¬L'.state= .busy:=by rw[os];exact uy
        simp[Instr.endLoop,Instr.getLoop,getObj,setObj,Sem.run,ob,NZ,ez]
       have D:aU P B av x (E'.set (E.heap.length+1) (.loop .exhausted A ff env De Ho iE) 0) (ez q (w.heap.size+1) (.loop {L' with state:=.exhausted})):=by
        have:=q2.put I (O:=.loop {L' with state:=.exhausted}) (o':=.loop .exhausted A ff env De Ho iE) 0 ⟨o0,{L' with state:=.exhausted},ur (q2.low _ I).2,rfl,oj,trivial,oe,op,NY,apj⟩;rw[Yl]at this;exact this
       have J:E.Ext (E'.set (E.heap.length+1) (.loop .exhausted A ff env De Ho iE) 0):=(Z.trans q4).trans (.set Y λn hn _=>hn);have l:=Gh.le_trans (Gh.le_trans s p) U;generalize ez q (w.heap.size+1) (.loop {L' with state:=.exhausted})=T at D V;refine⟨L'.pending,T,V,?_⟩;split at u
       ·cases u;simp only[xZ]at oj;rw[oj];exact hQ _ _ _ ⟨x,l,D,he.mono l,hmarks x U,J,trivial⟩
       ·rename_i j;split at u
        ·rename_i ex hex;cases u;obtain⟨code,Df,hwp⟩:=ao7 (r:=none) (n:=n) (P:=P) (Q:=Q) oj hex (a:={a with defers:=[{target:=.collected w.heap.size,args:= #[]}]++a.defers}) (w:=T)
          (λe apl=>hQ _ _ _ ⟨x,l,D,he.mono l,hmarks x U,J,apl x⟩)
         rw[Df];exact hwp
        ·cases u
     ·cases u
   ·rename_i v E' K;cases u;refine NV ((main _ K).mono λe q m=>?_);cases e with
    |returned _=>exact m.elim
    |outgrown=>exact m.elim
    |panicked chain=>
     obtain⟨x,v',NW,U,q2,q3,q4⟩:=m;have l:=Gh.le_trans (Gh.le_trans s p) U;exact hQ _ _ _ ⟨x,l,q2,he.mono l,hmarks x U,Z.trans q4,v',NW,q3⟩
   ·cases u
 ·cases u
end
def Aq(P:Program)(X:Ctx)(B:Nat)(av:World):Prop:=
 ∀ (cS:List Deferred) (C:bu),fG P B av C-> ∀ (rows:Bool) (r:oN) (n nt id:Nat) (ops:Array Oper) (xs:List aO) (ys:List (aO×lN)),kO P rows ops ops.toList=some xs->(∀x∈xs,∀d,x.dst=some d->d<nt)->Ns ops xs=some ys->
   Ao P B av cS r n nt (.region id ops true) (λfr E=>fY X C [] (gR E.heap.length ys) fr (E.mg (dq ys)))
def wb{C:bu}(hC:fG P B av C)(hg:fo X B av)(hX:o5 P X)(gn:Aq P X B av){L:ed}(hL:yf L){rows:Bool}{bO:FuncId}{rd:Bool}{r:oN}(T:rd=r.isSome):
  ∀ (c:Code) (m:PC),eF P rows nt c=some m->Ao P B av cS r n nt c (aX X C L bO rd m):=by
 intro c
 induction c with
 |skip=>
  intro m h G E w fr a res Q hw he hm b i;simp only[eF,afh]at h;subst h;simp only[aX,afh]at b;subst b;exact wpIn_skip (i _ _ _ ⟨G,G.le_refl,hw,he,hm,.refl E,trivial⟩)
 |label l=>
  intro m h G E w fr a res Q hw he hm b i;simp only[eF,afh]at h;subst h;simp only[aX,afh]at b;subst b;exact wpIn_label (i _ _ _ ⟨G,G.le_refl,hw,he,hm,.refl E,trivial⟩)
 |seq x y u z=>
  intro m h G E w fr a res Q hw he hm b i;simp only[eF]at h;split at h
  ·rename_i V W M Z;cases h;simp only[aX]at b;split at b
   ·rename_i o O hb;refine aAY (u V M G E w fr a _ _ hw he hm hb (λe a' w' f=>?_));obtain⟨j,K,J,I,H,F,v⟩:=f;cases e<;>simp[fH]at v;exact z W Z j O w' o a' res Q J I H b (λe a w hh=>i e a w (hh.trans K F))
   ·rename_i A;refine aAY (u V M G E w fr a res _ hw he hm b (λe a' w' f=>?_));have hq:=i e a' w' f;obtain⟨j,K,J,I,H,F,v⟩:=f;obtain⟨ex,o,O⟩:=res;cases e<;>first|exact hq| (exfalso;cases ex<;>simp[fH]at v;exact A o O b)
  ·cases h
 |cond c x y u z=>
  intro m h G E w fr a res Q hw he hm b i;simp only[eF]at h;split at h
  ·rename_i c' V W N M Z;cases h;simp only[aX]at b;split at b
   ·rename_i t ht;have p:=cu he N;rw[ht]at p;simp only[an]at p;refine wpIn_cond p ?_;cases t with
    |true=>simp only[aiH]at b⊢;exact u V M G E w fr a res Q hw he hm b i
    |false=>simp only[agX,amn]at b⊢;exact z W Z G E w fr a res Q hw he hm b i
   ·cases b
  ·cases h
 |block id c R=>
  intro m h G E w fr a res Q hw he hm b i;simp only[eF]at h;obtain⟨q,N,rfl⟩:=agY.1 h;simp only[aX]at b;split at b
  ·rename_i id' o O hb;refine wpIn_block (R q N G E w fr a _ _ hw he hm hb (λe a' w' f=>?_));obtain⟨j,K,J,I,H,F,v⟩:=f;cases e<;>simp[fH]at v;subst v;simp only[Exit.inBlock];split at b
   ·rename_i D;cases b;rw[afl D];exact i _ _ _ ⟨j,K,J,I,H,F,trivial⟩
   ·rename_i D;cases b;rw[afi D];exact i _ _ _ ⟨j,K,J,I,H,F,rfl⟩
  ·rename_i A;refine wpIn_block (R q N G E w fr a res _ hw he hm b (λe a' w' f=>?_));have hq:=i e a' w' f;obtain⟨j,K,J,I,H,F,v⟩:=f;obtain⟨ex,o,O⟩:=res;cases e<;>first|exact hq| (exfalso;cases ex<;>simp[fH]at v;exact A _ o O b)
 |loop c R=>
  intro m h G E w fr a res Q hw he hm b i;simp only[eF]at h;obtain⟨q,N,rfl⟩:=agY.1 h;simp only[aX]at b;obtain⟨k,hk⟩:=hL _ _ _ _ b;exact ao6 (R q N) k G E w fr a res Q hw he hm hk i
 |exit id=>
  intro m h G E w fr a res Q hw he hm b i;simp only[eF,afh]at h;subst h;simp only[aX,afh]at b;subst b;exact wpIn_exit (i _ _ _ ⟨G,G.le_refl,hw,he,hm,.refl E,rfl⟩)
 |ret=>
  intro m h G E w fr a res Q hw he hm b i;simp only[eF,afh]at h;subst h;simp only[aX,afh]at b;subst b;exact wpIn_ret (i _ _ _ ⟨G,G.le_refl,hw,he,hm,.refl E,trivial⟩)
 |region id ops draw=>
  intro m h;simp only[eF]at h;split at h
  ·rename_i xs S;split at h
   ·rename_i U;have hd: ∀x∈xs,∀d,x.dst=some d->d<nt:=by
     intro x M d uA;have:=ag6.1 U x M;rw[uA]at this;simpa using this
    cases draw with
    |false=>
     simp only[agX,amn,afh]at h;subst h;intro G E w fr a res Q hw he hm b i;simp only[aX]at b;exact wpIn_region (NX hC hg ops.toList _ xs (ao5 ops) S hd G E w fr a res Q hw he hm b i)
    |true=>
     simp only[aiH]at h;obtain⟨ys,Y,rfl⟩:=agY.1 h;intro G E w fr a res Q hw he hm b i;simp only[aX]at b;exact gn _ C hC rows r n nt id ops xs ys S hd Y G E w fr a res Q hw he hm b i
   ·cases h
  ·cases h
 |rangeFunc g ps assign body iha ihb=>
  intro m h;simp only[eF]at h;split at h
  ·rename_i g' as bd h1 h2 h3;split at h
   ·rename_i h4;cases h;cases r with
    |none=>
     subst T;exact ao8 hC hX h1 h2 h3 h4
    |some l=>
     subst T;intro G E w fr a res Q hw he hm b i;simp[aX]at b
   ·cases h
  ·cases h
 |scope c R=>intro m h;simp[eF]at h
 |goto l=>intro m h;simp[eF]at h
 |refuse s=>intro m h;simp[eF]at h
end
section
variable{P:Program}{X:Ctx}{B:Nat}{av:World}{cS:List Deferred}
def apm{x:Value}(h: (Instr.loadAt t x).run P w= .ok v w): (do loadVar t (<-asAddr x):Sem Value).run P w= .ok v w:=by
 cases x with
 |pointer a=>
  cases a with
  |some a=>simpa[Instr.loadAt,Instr.sureAddr,asAddr]using h
  |none=>simp[Instr.loadAt,Instr.sureAddr,Sem.run_bind,stuck,Sem.run,Result.andThen]at h
 |_=>simp[Instr.loadAt,Instr.sureAddr,Sem.run_bind,stuck,Sem.run,Result.andThen]at h
def Dg(b:Array Value):ResultVar->Sem Value
 |.tmp t=>pure (b.getD t undef)
 |.cell a t=>do loadVar t (<-asAddr (b.getD a undef))
def apn(fn:Func)(b:Array Value):results fn b=(do let vs<-fn.results.mapM (Dg b);pure (if h:vs.size=1 then vs[0]else .tuple vs)):=by
 have:Dg b=(λ
  |.tmp t=>pure (b.getD t undef)
  |.cell a t=>do loadVar t (<-asAddr (b.getD a undef))):=by
  funext x
  cases x<;>rfl
 unfold results;rw[this];rfl
theorem N0(hg:fo X B av){G:Gh}{E:AS}{w:World}(k:aU P B av G E w){nt:Nat}{e:Env}{d:Array Value}(j:cD G nt e d): ∀ (l:List ResultVar) (rs:List RV) (vs:List AV),oX P l=some rs->ju X E e rs=some vs->
  ∃g,(l.mapM (Dg d)).run P w= .ok g w/\aD G vs g
 | [],rs,vs,h,f=>by
   simp only[oX,afh]at h;subst h;simp only[ju,afh]at f;subst f;exact⟨[],by simp,by simp[aD]⟩
 |.tmp t::l,rs,vs,h,f=>by
  simp only[oX]at h;obtain⟨i,p,rfl⟩:=agY.1 h;simp only[ju,nK]at f;split at f
  ·rename_i c o;cases f;obtain⟨g,e1,r⟩:=N0 hg k j l i c p o;refine⟨d.getD t undef::g,?_,⟨_,_,rfl,Nx j t,r⟩⟩;rw[aAV];simp only[Sem.run_bind,Dg,Sem.run_pure,Result.andThen_ok];rw[e1];simp only[Result.andThen_ok,Sem.run_pure]
  ·cases f
 |.cell a t::l,rs,vs,h,f=>by
  simp only[oX]at h;split at h
  ·rename_i b n i u s p;cases h;simp only[ju,nK]at f;split at f
   ·rename_i v o;split at f
    ·rename_i c m;cases f;obtain⟨g,e1,r⟩:=N0 hg k j l i c p m;obtain⟨v',y,q⟩:=Xp k hg u s (Nx j a) o;have e3:=apm y;refine⟨v'::g,?_,⟨_,_,rfl,q,r⟩⟩;rw[aAV];have x: (Dg d (.cell a t)).run P w= .ok v' w:=e3;simp only[Sem.run_bind];rw[x];simp only[Result.andThen_ok];rw[e1];simp only[Result.andThen_ok,Sem.run_pure]
    ·cases f
   ·cases f
  ·cases h
def Dh(hg:fo X B av){G:Gh}{E:AS}(k:aU P B av G E w){e:Env}{b:Array Value}(m:cD G nt e b){fn:Func}{f:List RV}{v:AV}(h:oX P fn.results.toList=some f)(d:fk X E e f=some v):
  ∃v',(results fn b).run P w= .ok v' w/\an G v v':=by
 have key: ∀vs,ju X E e f=some vs-> ∃a:List Value,aD G vs a/\ (results fn b).run P w= .ok (if h:a.toArray.size=1 then a.toArray[0]else .tuple a.toArray) w:=by
  intro vs c;obtain⟨a,e1,r⟩:=N0 hg k m _ f vs h c;refine⟨a,r,?_⟩;rw[apn,Array.mapM_eq_mapM_toList];simp only[Sem.run_bind,Sem.run_map];rw[e1];simp[Result.andThen]
 unfold fk at d;split at d
 ·rename_i i c;cases d;obtain⟨a,r,e1⟩:=key _ c;simp only[aD]at r;obtain⟨v',q,rfl,j,rfl⟩:=r;exact⟨v',by rw[e1];simp,j⟩
 ·rename_i vs g c;cases d;obtain⟨a,r,e1⟩:=key _ c;have l:=r.length;refine⟨.tuple a.toArray,?_,⟨_,rfl,by simpa using r⟩⟩;rw[e1,dif_neg];intro n;have:vs.length=1:=by simpa[l]using n
  obtain⟨x,rfl⟩:=List.length_eq_one_iff.1 this;exact g x rfl
 ·cases d
theorem yg: ∀ (ms:lN) (E a:AS),dy E ms=some a->E.Ext a
 | [],E,a,h=>by simp only[dy,afh]at h;subst h;exact .refl E
 |m::ms,E,a,h=>by
  simp only[dy]at h;split at h
  ·rename_i hm;exact(AS.Ext.set (o':=.dead) (refs:=0) hm λ_ _ _=>trivial).trans (yg ms _ a h)
  ·cases h
theorem yh{n:Nat}{fn:Func}{b:Array Value}{R:Ending->World->Prop}{u:FrameMode}(i:u≠ .run){G:Gh}: ∀ (ms:lN) (f:List Deferred) (E a:AS) (w:World),fZ cS G ms f->aU P B av G E w->dy E ms=some a->
  (∀w',aU P B av G a w'->LeavesInM (W none) n P fn b R cS u w')->LeavesInM (W none) n P fn b R f u w
 | [],f,E,a,w,e,hw,c,h=>by
   simp only[fZ]at e;subst e;simp only[dy,afh]at c;subst c;exact h w hw
 |m::ms,f,E,a,w,e,hw,c,h=>by
  simp only[fZ]at e;obtain⟨d,r,k,rfl,p,j,o,l⟩:=e;simp only[dy]at c;split at c
  ·rename_i hm;obtain⟨s,q⟩:=hw.obj m _ hm j.2;have g:=o s;subst g;refine⟨i,.inl ⟨_,ez w (G.aY m) (.deferred none),p,?_,?_⟩⟩
   ·simp[Instr.takeDeferred,getObj,setObj,Sem.run,q,ez]
   ·exact yh i ms r (E.set m .dead 0) a _ l (hw.put j 0 trivial) c h
  ·cases c
def Hp{G:Gh}{args:List AV}{a:Array Value}(e:aD G args a.toList)(j:args.length<=nt):cD G nt (cZ args) (a++Array.replicate (nt-a.size) undef):=by
 have f:a.size=args.length:=by rw[<-anr];exact e.length
 refine⟨by simp;omega,λt v b=>?_,λt b=>?_⟩
 ·simp only[cZ,aha];rw[Array.getElem?_append]at b;split at b
  ·rename_i h;have c:t<args.length:=by omega
   obtain⟨u,hu,g⟩:=e.get t args[t] (afu c);rw[afu c];have:some u=some v:=by rw[<-hu,<-b];simp
   cases this;exact g
  ·rename_i i;have d:args.length<=t:=by omega
   rw[ane d];rw[ay9]at b;split at b
   ·cases b;exact yc
   ·cases b
 ·simp only[cZ,aha];rw[ane (by omega)];rfl
theorem Ym{G:Gh}{nt:Nat}: ∀ (ps:lN) (args:List AV) (e:Env) (tmps:Array Value) (a:List Value),cD G nt e tmps->aD G args a->(∀p∈ps,p<nt)->cD G nt (iD e ps args) ((ps.zip a).foldl (λtmps (p:Nat×Value)=>tmps.setIfInBounds p.1 p.2) tmps)
 | [],args,e,tmps,a,he,b,c=>by simpa[iD]using he
 |p::ps,[],e,tmps,a,he,b,c=>by
  simp only[aD]at b;subst b;simpa[iD]using he
 |p::ps,x::xs,e,tmps,a,he,b,c=>by
  simp only[aD]at b;obtain⟨v,q,rfl,g,f⟩:=b;simp only[iD,List.zip_cons_cons,azo];exact Ym ps xs _ _ q (he.set (c p (by simp)) g) f (λy d=>c y (by simp[d]))
def ga(P:Program)(B:Nat)(av:World)(f:FuncId)(p:List AV->AS->Option aS):Prop:=
 ∀args E b,p args E=some b-> ∀G w (a:Array Value),aU P B av G E w->aD G args a.toList->uz P (Ends P B av G E b) ((callFunc f a).run P w)
section
variable{C:bu}(hC:fG P B av C)(hg:fo X B av)(hX:o5 P X)(gn:Aq P X B av){L:ed}(hL:yf L)
include hC hg hX gn hL
theorem apo{pf:PF}(U:X.code f=some pf){args:List AV}{E:AS}{q:aS}(S:args.length<=pf.ntmps)
  (h:leave X E.heap.length E.lo pf (aX X C L f false pf.body {env:=cZ args,marks:=[]} {heap:=E.heap,lo:=none})=some q) {G:Gh} {w:World} {b:Array Value} (z:aU P B av G E w) (T:aD G args b.toList):
  CallsIn (W none) 0 P f b w (Ends P B av G E q):=by
 obtain⟨rows,fn,F,n⟩:=hX f pf U;obtain⟨c,V,l,m,A,D⟩:=Hm n;cases g:aX X C L f false pf.body {env:=cZ args,marks:=[]} {heap:=E.heap,lo:=none}with
 |none=>rw[g]at h;simp[leave]at h
 |some res=>
  rw[g]at h;have he:cD G fn.ntmps (cZ args) (b++Array.replicate (fn.ntmps-b.size) undef):=Hp T (by rw[<-A];exact S);refine azk F V trivial (wb hC hg hX gn hL (r:=none) rfl c pf.body l G {heap:=E.heap,lo:=none} w {env:=cZ args,marks:=[]} _ res _ (z.lo none) he rfl g (λe a w' R=>?_)) rfl;obtain⟨Y,M,K,O,J,I,p⟩:=R;obtain⟨ex,fr,H⟩:=res;have k:qw X E.heap.length E.lo pf fr H=some q->LeavesInM (W none) 0 P fn a.tmps (Ends P B av G E q) a.defers .returning w':=by
   intro h;unfold qw at h;split at h
   ·rename_i j o;split at h
    ·rename_i v Q;cases h;refine yh (by simp) fr.marks a.defers H j w' J K o (λs d=>?_);obtain⟨v',e1,N⟩:=Dh hg d O m Q;refine⟨v',e1,?_⟩;obtain⟨i,y,x,u,t⟩:=yb z M d (I.trans (yg _ _ _ o)) N;exact⟨i,y,x,u,t⟩
    ·cases h
   ·cases h
  cases ex with
  |normal=>cases e<;>simp[fH]at p;exact k h
  |ret=>cases e<;>simp[fH]at p;exact k h
  |exit id=>simp[leave]at h
  |panic v=>
   cases e<;>simp[fH]at p;rename_i chain;obtain⟨v',rfl,rv⟩:=p;simp only[leave]at h;split at h
   ·rename_i j o;cases h;refine yh (by simp) fr.marks a.defers H j w' J K o (λs d=>?_);obtain⟨i,y,x,u,t⟩:=yb z M d (I.trans (yg _ _ _ o)) rv;exact⟨i,v',rfl,y,x,u,t⟩
   ·cases h
theorem apq{args:List AV}{E:AS}{cr:aS}(h:jW X C L l args E=some cr){G:Gh}(hw:aU P B av G E w)(T:G.on l)(hl:aD G args c.toList):
  uz P (Ends P B av G E cr) ((Instr.yield (G.aY l) c).run P w):=by
 unfold jW at h;split at h
 ·rename_i st aCJ f env ps assign body apr;split at h
  ·rename_i U;obtain⟨o0,b,ob,os,oj,_,oe,op,NY,rows,oa,obd⟩:=hw.obj l _ apr T.2;have r0:c.size=args.length:=by rw[<-anr];exact hl.length
   have Hq:b.params.size=ps.length:=by rw[<-op];simp
   have hy: (Instr.yield (G.aY l) c).run P w= .ok (.round (G.aY l) b.fn ((b.params.zip c).foldl (λtmps (t,a)=>tmps.setIfInBounds t a) b.tmps) b.assign b.body) w:=by
    simp[Instr.yield,Instr.getLoop,getObj,Sem.run,ob,r0,Hq,U]
   rw[hy];have htm: (b.params.zip c).foldl (λtmps (t,a)=>tmps.setIfInBounds t a) b.tmps=(ps.zip c.toList).foldl (λtmps (p:Nat×Value)=>tmps.setIfInBounds p.1 p.2) b.tmps:=by
    rw[<-Array.foldl_toList,Array.toList_zip,op]
   rw[htm];split at h
   ·rename_i fr Z ha;split at h
    ·rename_i g f' u S V iE I;have he:=Ym ps args env b.tmps c.toList oe hl (λp hp=>by simpa using ag6.1 NY p hp);refine roundIn_of_wpIn (F:=W none) trivial (wb hC hg hX gn hL (r:=some (G.aY l)) (rd:=true) (bO:=f) rfl b.assign assign oa G {heap:=E.heap,lo:=none} w {env:=iD env ps args,marks:=[]} _ _ _ (hw.lo none) he rfl ha (λe a Y hr=>?_));obtain⟨z,q1,q2,q3,q4,q5,q6⟩:=hr;cases e<;>simp[fH]at q6;obtain⟨p0,y,pb,pst,pj,_,pe,pp,De,apv⟩:=q2.obj l _ I (q1.on l T).2;have k:z.on l:=q1.on l T;have hlG:G.on l:=T;have M:z.aY l=G.aY l:=(q1.same l hlG (by rw[p0,o0])).1;refine⟨ez Y (G.aY l) (.loop {y with state:=.busy}),?_,?_⟩
     ·rw[<-M];simp[Instr.beginRound,Instr.getLoop,getObj,setObj,Sem.run,pb,pst,ez]
     ·have apx:aU P B av z (Z.set l (.loop .busy g f' u S V iE) 0) (ez Y (G.aY l) (.loop {y with state:=.busy})):=by
        have:=q2.put k (O:=.loop {y with state:=.busy}) (o':=.loop .busy g f' u S V iE) 0 ⟨p0,{y with state:=.busy},ur (q2.low _ k).2,rfl,pj,trivial,pe,pp,De,apv⟩;rw[M]at this;exact this
      cases wc:aX X C L f true body fr (Z.set l (.loop .busy g f' u S V iE) 0)with
      |none=>rw[wc]at h;simp[endRound]at h
      |some res=>
       rw[wc]at h;refine wb hC hg hX gn hL (r:=some (G.aY l)) (rd:=true) (bO:=f) rfl b.body body obd z _ _ fr a res _ apx q3 q4 wc (λe a' D hr=>?_);obtain⟨Q,u1,u2,u3,u4,u5,u6⟩:=hr;obtain⟨ex,Hr,R⟩:=res;simp only[endRound]at h;split at h
       ·rename_i j aCK aCL N d i o m hj H;cases h;obtain⟨v0,x,vb,vst,vj,_,ve,vp,vps,apz⟩:=u2.obj l _ H (u1.on l k).2;have J:Q.on l:=u1.on l k;have K:Q.aY l=G.aY l:=by rw[<-M];exact(u1.same l k (by rw[v0,p0])).1
        have apA:=Gh.le_trans q1 u1;have apB:AS.Ext {heap:=E.heap,lo:=none} (R.set l (.loop (if j.isNone then .ready else .done) j N d i o m) 0):=
         ((q5.trans (AS.Ext.set (o':=.loop .busy g f' u S V iE) (refs:=0) I λn hn _=>hn)).trans u5).trans (AS.Ext.set (o':=.loop (if j.isNone then .ready else .done) j N d i o m) (refs:=0) H λn hn _=>hn)
        have fin: ∀ (q:Option Code),xZ j q-> ∃v w',(Instr.endRound (G.aY l) q).run P D= .ok v w'/\Ends P B av G E (.ret (.bool j.isNone) (finish E.heap.length E.lo (.bool j.isNone) (R.set l (.loop (if j.isNone then .ready else .done) j N d i o m) 0)).2) (.returned v) w':=by
         intro q A;have s:q.isNone=j.isNone:=by
          cases j with
          |none=>simp only[xZ]at A;subst A;rfl
          |some p=>cases p<;>simp only[xZ]at A<;>first|exact A.elim| (subst A;rfl)
         refine⟨.bool q.isNone,ez D (G.aY l) (.loop {x with state:=if q.isNone then .ready else .done,pending:=q}),?_,?_⟩
         ·rw[<-K];simp[Instr.endRound,Instr.getLoop,getObj,setObj,Sem.run,vb,ez]
         ·have apC:aU P B av Q (R.set l (.loop (if j.isNone then .ready else .done) j N d i o m) 0) (ez D (G.aY l) (.loop {x with state:=if q.isNone then .ready else .done,pending:=q})):=by
            have:=u2.put J (O:=.loop {x with state:=if q.isNone then .ready else .done,pending:=q}) (o':=.loop (if j.isNone then .ready else .done) j N d i o m) 0
             ⟨v0,{x with state:=if q.isNone then .ready else .done,pending:=q},ur (u2.low _ J).2,by show(if q.isNone=true then LoopState.ready else LoopState.done)=_;rw[s],A,trivial,ve,vp,vps,apz⟩
            rw[K]at this;exact this
          obtain⟨apD,s1,s2,s3,s4⟩:=yb (v:=.bool j.isNone) (v':=.bool q.isNone) hw apA apC apB (by simp[an,s]);exact⟨apD,s1,s2,by simp[an,s],s4⟩
        cases ex with
        |normal=>
         simp only[rV,afh]at hj;subst hj;cases e<;>simp[fH]at u6;exact fin none rfl
        |ret=>
         simp only[rV,afh]at hj;subst hj;cases e<;>simp[fH]at u6;exact fin (some .ret) rfl
        |exit id=>
         simp only[rV,afh]at hj;subst hj;cases e<;>simp[fH]at u6;subst u6;exact fin (some (.exit id)) rfl
        |panic v=>simp[rV]at hj
       ·cases h
    ·cases h
   ·cases h
  ·cases h
 ·cases h
theorem apE(J: ∀f p,X.bU f=some p->ga P B av f p):fG P B av (step X C L):=by
 intro fv args E N h G w K b hw g z;unfold step at h;split at h
 ·rename_i f first cap
  simp only[an,kR]at g;obtain⟨M,a,d,rfl,rfl,t,A⟩:=g;have i:wa (.func (.func f) a d) b=callFunc f (a++b++d):=rfl;rw[i];have e:aD G (first++args++cap) (a++b++d).toList:=by
   simp only[Array.toList_append];exact(t.append z).append A
  split at h
  ·rename_i p D;exact J f p D _ _ _ h G w _ hw e
  ·split at h
   ·rename_i pf q;split at h
    ·rename_i F;obtain⟨rows,fn,v,o⟩:=hX f pf q;obtain⟨c,I,_,_,_,m⟩:=Hm o;have j:=Yi (P:=P) v I m a d b w;rw[i]at j;rw[j];exact apo hC hg hX gn hL q F h hw e
    ·cases h
   ·cases h
 ·rename_i l cap;simp only[an,kR]at g;obtain⟨M,a,d,rfl,⟨s,k,rfl,H⟩,t,A⟩:=g;have n:G.aj l=0:=by
   unfold jW at h;split at h
   ·rename_i st y f env ps assign body r;exact(hw.obj l _ r s.2).1
   ·cases h
  have u:=H n;subst u;have x:a= #[]:=by
   simp only[aD]at t;apply aq4;simpa using t
  subst x;have i:wa (.func (.yield (G.aY l)) #[] d) b=Instr.yield (G.aY l) (#[]++b):=rfl;rw[i,Array.empty_append];exact apq hC hg hX gn hL h hw s z
 ·cases h
end
end
section
variable{X:Ctx}
theorem nR{x:ao}{e a:Env}(h: ∀t∈x.tmps,e t=a t):x.get e=x.get a:=by
 cases x with
 |t i=>exact h i (by simp[ao.tmps])
 |c v=>rfl
def Di{x:Option ao}{e a:Env}(h: ∀y∈x.toList,∀t∈y.tmps,e t=a t):x.map (·.get e)=x.map (·.get a):=by
 cases x with
 |none=>rfl
 |some y=>grind [nR]
def Hs{xs:List ao}{e a:Env}(h: ∀t∈gB xs,e t=a t):xs.map (·.get e)=xs.map (·.get a):=by
 apply awB;intro x b;exact nR λt c=>h t (by simp only[gB,aq2];grind)
def apF{a:List (Nat×Nat×ao)}{e b:Env}(h: ∀t∈gB (a.map (·.2.2)),e t=b t):a.map (λp=>(p.1,p.2.1,p.2.2.get e))=a.map (λp=>(p.1,p.2.1,p.2.2.get b)):=by
 apply awB;intro p d;rw[nR λt c=>h t (by simp only[gB,aq2,ag2];grind)]
theorem Yn{a b:ao}{e d:Env}(h: ∀t∈gB [a,b],e t=d t):a.get e=a.get d/\b.get e=b.get d:=
 ⟨nR λt c=>h t (by simp[gB,c]),nR λt c=>h t (by simp[gB,c])⟩
theorem apG{a b c:ao}{e f:Env}(h: ∀t∈gB [a,b,c],e t=f t):a.get e=a.get f/\b.get e=b.get f/\c.get e=c.get f:=
 ⟨nR λt d=>h t (by simp[gB,d]),nR λt d=>h t (by simp[gB,d]),nR λt d=>h t (by simp[gB,d])⟩
def Ht{C:bu}{i:I}{e m:Env}(h: ∀t∈i.reads,e t=m t)(E:AS):exec X C i e E=exec X C i m E:=by
 cases i with
 |mov x|box x|nilck x|un _ x|conv _ x|s2b x|mki _ x|ta _ x _ _|ext x _|len _ x|clear _ x|panic x|faddr _ x|fld _ _ _ x|load _ _ x=>
  simp only[exec,nR h]
 |alloc _|nJ=>rfl
 |pick a b c|oV _ a b c=>obtain⟨l,k,o⟩:=apG h;simp only[exec,l,k,o]
 |build _ ps|bslice _ _ ps|rN _ _ _ ps=>simp only[exec,apF h]
 |store _ a v|bin _ a v|shf _ a v|eq _ a v|ne _ a v|CX _ _ _ a v|iaddra _ _ a v|iaddrs _ a v|idxa _ _ _ a v|idxs a v|lookup _ _ a v _|append _ _ _ a v|copy _ a v=>
  obtain⟨l,k⟩:=Yn h;simp only[exec,l,k]
 |mkf f a b=>
  simp only[exec];rw[Hs (xs:=a) λt d=>h t (by simp only[I.reads,gB,aps,agT];exact .inl d),
   Hs (xs:=b) λt d=>h t (by simp only[I.reads,gB,aps,agT];exact .inr d)]
 |slstr x lo j|slarr _ _ x lo j=>
  simp only[I.reads,gB,arI,aps,agT,aq2]at h;simp only[exec];rw[nR λt d=>h t (.inl d),Di λy g t d=>h t (.inr (.inl ⟨y,g,d⟩)),Di (x:=j) λy g t d=>h t (.inr (.inr ⟨y,g,d⟩))]
 |slsl _ x lo j n=>
  simp only[I.reads,gB,arI,aps,agT,aq2]at h;simp only[exec];rw[nR λt d=>h t (.inl d),Di (x:=lo) λy g t d=>h t (.inr (.inl (.inl ⟨y,g,d⟩))),Di (x:=j) λy g t d=>h t (.inr (.inl (.inr ⟨y,g,d⟩))),Di (x:=n) λy g t d=>h t (.inr (.inr ⟨y,g,d⟩))]
 |max xs|min xs=>simp only[exec,Hs h]
 |call f as=>
  simp only[I.reads,gB,arI,agT]at h;simp only[exec];rw[nR λt d=>h t (.inl d),Hs λt d=>h t (.inr d)]
def Hu{i:I}{e b:Env}(h: ∀t∈i.reads,e t=b t)(E c:AS):ba i e E c=ba i b E c:=by
 cases i with
 |load _ _ x=>simp only[ba,nR h]
 |store _ a v=>obtain⟨d,_⟩:=Yn h;simp only[ba,d]
 |_=>rfl
def apH{C:bu}{i:I}{e:Env}(j:i.cls=0): ∃o,∀E,exec X C i e E=fF E o:=by
 cases i<;>simp only[I.cls,reduceCtorEq]at j
 case mov x=>exact⟨some _,λ_=>rfl⟩
 case mki t x=>exact⟨some _,λ_=>rfl⟩
 case mkf f a b=>exact⟨some _,λ_=>rfl⟩
 case nilck x=>exact⟨_,λ_=>rfl⟩
 case bin op x y=>exact⟨_,λ_=>rfl⟩
 case un op x=>exact⟨_,λ_=>rfl⟩
 case slstr x lo g=>exact⟨_,λ_=>rfl⟩
 case slsl n x lo g l=>exact⟨_,λ_=>rfl⟩
 case slarr n sz x lo g=>exact⟨_,λ_=>rfl⟩
 case faddr o x=>exact⟨_,λ_=>rfl⟩
 case iaddra n sz x i=>exact⟨_,λ_=>rfl⟩
 case iaddrs sz x i=>exact⟨_,λ_=>rfl⟩
 case idxa b n sz x i=>exact⟨_,λ_=>rfl⟩
 case idxs x i=>exact⟨_,λ_=>rfl⟩
 case ta z x t ok=>exact⟨_,λ_=>rfl⟩
 case max xs=>exact⟨_,λ_=>rfl⟩
 case min xs=>exact⟨_,λ_=>rfl⟩
 case pick c a b=>cases h:c.get e<;>first|exact⟨some _,λ_=>by simp only[exec,h];rfl⟩|exact⟨none,λ_=>by simp only[exec,h];rfl⟩
 case build z ps=>cases h:dZ z (ps.map λp=>(p.1,p.2.1,p.2.2.get e))<;>first|exact⟨some _,λ_=>by simp only[exec,h];rfl⟩|exact⟨none,λ_=>by simp only[exec,h];rfl⟩
 case bslice z n ps=>cases h:dZ (List.replicate n z).flatten (ps.map λp=>(p.1,p.2.1,p.2.2.get e))<;>first|exact⟨some _,λ_=>by simp only[exec,h];rfl⟩|exact⟨none,λ_=>by simp only[exec,h];rfl⟩
 case shf op x y=>
  cases h:x.get e<;>cases d:y.get e<;>first|exact⟨none,λ_=>by simp only[exec,h,d];rfl⟩|exact⟨_,λ_=>by simp only[exec,h,d];rfl⟩
 case eq k x y=>cases h:ea k (x.get e) (y.get e)<;>first|exact⟨some _,λ_=>by simp only[exec,h];rfl⟩|exact⟨none,λ_=>by simp only[exec,h];rfl⟩
 case ne k x y=>cases h:ea k (x.get e) (y.get e)<;>first|exact⟨some _,λ_=>by simp only[exec,h];rfl⟩|exact⟨none,λ_=>by simp only[exec,h];rfl⟩
 case conv k x=>cases h:x.get e<;>first|exact⟨some _,λ_=>by simp only[exec,h];rfl⟩|exact⟨none,λ_=>by simp only[exec,h];rfl⟩
 case s2b x=>
  cases h:x.get e with
  |str s=>
   by_cases d:s.size<=room
   ·exact⟨some _,λ_=>by simp only[exec,h,d,aiH];rfl⟩
   ·exact⟨none,λ_=>by simp only[exec,h,d,amn];rfl⟩
  |_=>exact⟨none,λ_=>by simp only[exec,h];rfl⟩
 case fld b n off x=>cases h:x.get e<;>first|exact⟨none,λ_=>by simp only[exec,h];rfl⟩|exact⟨_,λ_=>by simp only[exec,h];rfl⟩
 case ext x i=>cases h:x.get e<;>first|exact⟨none,λ_=>by simp only[exec,h];rfl⟩|exact⟨_,λ_=>by simp only[exec,h];rfl⟩
theorem Yo{i:I}(a:i.cls=0)(e:Env)(E b:AS):ba i e E b= .no:=by
 cases i<;>simp only[I.cls,reduceCtorEq]at a<;>rfl
theorem Ar{C:bu}{i:I}{e:Env}{E m:AS}{v:AV}(j:exec X C i e E=some (.ok v m))(g:ba i e E m= .no):m=E/\ ∀d,exec X C i e d=some (.ok v d)/\ba i e d d= .no:=by
 by_cases p:i.cls=0
 ·obtain⟨o,ho⟩:=apH (X:=X) (C:=C) (e:=e) p;rw[ho]at j;obtain⟨rfl,rfl⟩:=fb j;exact⟨rfl,λd=>⟨by rw[ho];rfl,Yo p e _ _⟩⟩
 ·cases i<;>simp only[I.cls,not_true_eq_false]at p
  case load b n x=>
   simp only[exec]at j;obtain⟨h,rfl⟩:=fb j;refine⟨rfl,λd=>?_⟩;simp only[ba]at g⊢;unfold cg at h;split at g<;>first|cases g|skip
   ·rename_i l;rw[l]at h;simp only at h;simp[exec,fF,cg,l,h]
   ·rename_i l;rw[l]at h;simp only at h;simp[exec,fF,cg,l,h]
  case store n a x=>simp only[ba]at g;split at g<;>cases g
  case len k x=>
   simp only[exec]at j;obtain⟨h,rfl⟩:=fb j;refine⟨rfl,λd=>⟨?_,g⟩⟩;have:fj d k (x.get e)=fj m k (x.get e):=by
    generalize x.get e=y;cases k<;>first|rfl| (cases y<;>first|rfl| (rename_i c;cases c<;>rfl))| (simp only[ba]at g;cases g)
   simp only[exec,this,h,fF]
  case call f as=>simp only[ba]at g;split at g<;>cases g
  all_goals simp[ba]at g
end
section
variable{X:Ctx}
theorem we{C:bu}{i:I}{e:Env}{E c:AS}{v:AV}(d:exec X C i e E=some (.ok v c))(g:ba i e E c= .q\/ ∃id off n,ba i e E c= .rd id off n):c=E:=by
 cases i with
 |load b n x=>exact(fb d).2
 |lookup j z m k ok=>exact(fb d).2
 |len k x=>exact(fb d).2
 |call f as=>
  simp only[ba]at g
  grind
 |store n a x=>
  simp only[ba]at g
  grind
 |_=>rcases g with h| ⟨_,_,_,h⟩<;>simp[ba]at h
def As:Option ae->Option (List AV)
 |some (.box cs _)=>some cs
 |_=>none
def wg{E:AS}{b:Bool}{id off:Nat}:cg X E b n (.ptr id off)=(As E.heap[id]?).bind λcs=>part b n cs off:=by
 unfold cg;simp only;cases h:E.heap[id]? with
 |none=>rfl
 |some o=>cases o<;>simp[As]
theorem Yp{cs vs:List AV}{off:Nat}(h:off+vs.length<=cs.length)(a:j<off\/off+vs.length<=j): (aH cs off vs)[j]?=cs[j]?:=by
 unfold aH;rcases a with a|a
 ·grind
 ·rw[ag8 (by simp;omega),ag8 (by simp;omega),anp]
  congr 1
  simp;omega
def apI{cs vs:List AV}{off a:Nat}{b:Bool}(h:a+vs.length<=cs.length)(c:off+Nat.max n 1<=a\/a+vs.length<=off):part b n (aH cs a vs) off=part b n cs off:=by
 have hm:n<=Nat.max n 1:=arE _ _;unfold part;rw[NI h];cases b with
 |false=>grind [Yp]
 |true=>
  simp only[aiH];split
  ·congr 2
   apply aoI;intro j;simp only[aoL,anp];split
   ·exact Yp h (by omega)
   ·rfl
  ·rfl
def Yq{C:bu}{e:Env}{E s:AS}{v:AV}{a x:ao}{d c:Nat}(l:exec X C (.store m a x) e E=some (.ok v s))(j:ba (.store m a x) e E s= .wr d c k)
  {b:Bool} {id off:Nat} (w:id≠d\/off+Nat.max n 1<=c\/c+k<=off):cg X s b n (.ptr id off)=cg X E b n (.ptr id off):=by
 simp only[ba]at j;split at j
 ·rename_i i o t;cases j;simp only[exec,t,kK]at l;split at l
  ·rename_i u p;cases l;split at p
   ·rename_i cs g;split at p
    ·cases p;rw[wg,wg];by_cases f:id=d
     ·subst f;have q:id<E.heap.length:=(aeA.1 g).1;have r:off+Nat.max n 1<=c\/c+(x.get e).cells.length<=off:=by omega
      simp only[AS.set,ag1 q,As,g,aqT];exact apI (by omega) r
     ·simp[AS.set,aex (λh=>f h.symm)]
    grind
   grind
  grind
 ·cases j
 grind
theorem apJ{E i:AS}{ty:TypeId}{bytes:Nat}{s v:AV}{ys:List (List AV)}(h:dw E ty sz bytes s ys=some (v,i)){b:Bool}{id off:Nat}:cg X i b n (.ptr id off)=cg X E b n (.ptr id off):=by
 have push: ∀ (aj sz:Nat) (ty:TypeId) (af:List (List AV)),cg X (E.push (.row aj sz ty af)) b n (.ptr id off)=cg X E b n (.ptr id off):=by
  intro aj sz ty af;rw[wg,wg];simp only[AS.push,List.getElem?_append];split
  ·rfl
  ·rw[ane (by omega:E.heap.length<=id)];cases l:id-E.heap.length<;>simp[As]
 unfold dw at h;split at h
 ·split at h
  ·split at h
   ·cases h;rfl
   ·split at h
    ·cases h;exact push _ _ _ _
    ·cases h
  ·split at h
   ·cases h;rfl
   ·split at h
    ·cases h;exact push _ _ _ _
    ·cases h
  ·split at h
   ·cases h;rfl
   ·cases h
  ·rename_i a aj d g len cy;split at h
   ·rename_i f k j af he;split at h
    ·split at h
     ·cases h;rfl
     ·split at h
      ·cases h;exact push _ _ _ _
      ·cases h;rw[wg,wg]
       congr 1
       by_cases c:a=id
       ·subst c;have e:a<E.heap.length:=(aeA.1 he).1;rw[he];simp[AS.set,e,As]
       ·simp[AS.set,aex c]
    ·cases h
   ·cases h
  ·cases h
 grind
def apK{E e:AS}{a o:Nat}{x:AV}(h:kK E n (.dp a aj i o) x=some e){b:Bool}{id off:Nat}:cg X e b m (.ptr id off)=cg X E b m (.ptr id off):=by
 unfold kK at h;simp only at h;split at h
 ·rename_i w sz ty af he;split at h
  ·split at h
   ·cases h;rw[wg,wg];by_cases c:id=a
    ·subst c;have d:id<E.heap.length:=(aeA.1 he).1;simp[AS.set,ag1 d,As,he]
    ·simp[AS.set,aex (λh=>c h.symm)]
   grind
  grind
 grind
def Yr{C:bu}{i:I}{e:Env}{E f:AS}{v:AV}(d:exec X C i e E=some (.ok v f))(c:ba i e E f= .app){b:Bool}{id off:Nat}:cg X f b n (.ptr id off)=cg X E b n (.ptr id off):=by
 cases i with
 |append ty sz bytes s x=>
  simp only[exec]at d;split at d
  ·grind [apJ]
  grind
 |load _ _ _=>simp only[ba]at c;grind
 |store m a x=>
  simp only[ba]at c;split at c<;>first|cases c|skip
  rename_i h;simp only[exec,h]at d;split at d
  ·rename_i g;cases d;exact apK g
  ·cases d
 |len k x=>simp only[ba]at c;split at c<;>cases c
 |call _ _=>simp only[ba]at c;split at c<;>cases c
 |_=>simp[ba]at c
def N2{i:I}{e:Env}{E d:AS}{id off:Nat}(c:ba i e E d= .rd id off k): ∃b n a,i= .load b n a/\a.get e= .ptr id off/\k=Nat.max n 1:=by
 cases i with
 |load b n a=>
  simp only[ba]at c
  grind
 |store _ _ _=>simp only[ba]at c;grind
 |len k x=>simp only[ba]at c;grind
 |call _ _=>simp only[ba]at c;grind
 |_=>trivial
def Ys{i:I}{e:Env}{E d:AS}{id off:Nat}(c:ba i e E d= .wr id off k): ∃n a x,i= .store n a x:=by
 cases i with
 |load b n a=>simp only[ba]at c;grind
 |store n a x=>simp
 |len k x=>simp only[ba]at c;grind
 |call _ _=>simp only[ba]at c;grind
 |_=>trivial
def Hv{C:bu}{b:Bool}{a:ao}{e:Env}{E c:AS}{id off:Nat}{v:AV}{i:AS}(g:a.get e= .ptr id off)(h:cg X c b n (.ptr id off)=cg X E b n (.ptr id off))(d:exec X C (.load b n a) e E=some (.ok v i)):
  exec X C (.load b n a) e c=some (.ok v c):=by
 simp only[exec,g]at d⊢;obtain⟨f,_⟩:=fb d;rw[h,f];rfl
def apL{C:bu}{x y:I}{u p:Env}{E f c:AS}{v w:AV}(o:exec X C x u E=some (.ok v f))(k:exec X C y p f=some (.ok w c))(d: (ba x u E f).ok (ba y p f c)=true):
  ∃A,exec X C y p E=some (.ok w A)/\exec X C x u A=some (.ok v c)/\ba y p E A=ba y p f c/\ba x u A c=ba x u E f:=by
 cases j:ba x u E f with
 |no=>grind [Ar]
 |rd id off n=>
  have e1:=we o (.inr ⟨_,_,_,j⟩);subst e1;obtain⟨b,m,a,rfl,t,rfl⟩:=N2 j;cases g:ba y p f c with
  |no=>grind [Ar]
  |rd r l z=>
   have s:=we k (.inr ⟨_,_,_,g⟩);grind
  |q=>grind [we]
  |wr r l z=>
   obtain⟨m',a',B,rfl⟩:=Ys g;rw[j,g]at d;refine⟨c,k,Hv t (Yq k g ?_) o,g,by rw[<-j];rfl⟩;simp only[FP.ok,aqR,bne_iff_ne,amB]at d;rcases d with(h|h)|h
   ·exact .inl h
   ·exact .inr (.inl h)
   ·exact .inr (.inr h)
  |app=>exact⟨c,k,Hv t (Yr k g) o,g,by rw[<-j];rfl⟩
  |all=>rw[j,g]at d;simp[FP.ok]at d
 |q=>
  have e1:=we o (.inl j);subst e1;cases g:ba y p f c with
  |no=>
   obtain⟨rfl,i⟩:=Ar k g;exact⟨c,k,o,g,j⟩
  |rd r l z=>
   have s:=we k (.inr ⟨_,_,_,g⟩);subst s;exact⟨c,k,o,g,j⟩
  |q=>
   have s:=we k (.inl g);subst s;exact⟨c,k,o,g,j⟩
  |wr _ _ _=>rw[j,g]at d;simp[FP.ok]at d
  |app=>rw[j,g]at d;simp[FP.ok]at d
  |all=>rw[j,g]at d;simp[FP.ok]at d
 |wr id off n=>
  cases g:ba y p f c with
  |no=>
   obtain⟨rfl,i⟩:=Ar k g;exact⟨E,(i E).1,o,(i E).2,j⟩
  |rd r l z=>
   have s:=we k (.inr ⟨_,_,_,g⟩);subst s;obtain⟨b,m,a,rfl,t,rfl⟩:=N2 g;obtain⟨m',a',B,rfl⟩:=Ys j;rw[j,g]at d;refine⟨E,Hv t (Yq o j ?_).symm k,o,by rw[<-g];rfl,j⟩;simp only[FP.ok,aqR,bne_iff_ne,amB]at d;rcases d with(h|h)|h
   ·exact .inl (λe=>h e.symm)
   ·exact .inr (.inr h)
   ·exact .inr (.inl h)
  |_=>rw[j,g]at d;simp[FP.ok]at d
 |app=>
  cases g:ba y p f c with
  |no=>
   obtain⟨rfl,i⟩:=Ar k g;exact⟨E,(i E).1,o,(i E).2,j⟩
  |rd r l z=>
   have s:=we k (.inr ⟨_,_,_,g⟩);subst s;obtain⟨b,m,a,rfl,t,rfl⟩:=N2 g;exact⟨E,Hv t (Yr o j).symm k,o,by rw[<-g];rfl,j⟩
  |_=>rw[j,g]at d;simp[FP.ok]at d
 |all=>
  cases g:ba y p f c with
  |no=>
   obtain⟨rfl,i⟩:=Ar k g;exact⟨E,(i E).1,o,(i E).2,j⟩
  |_=>rw[j,g]at d;simp[FP.ok]at d
end
end Go.Den
