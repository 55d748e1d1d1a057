/- An evaluator, sound; no condition. -/
import GoSem.Step
import Derived.Below
import Derived.Laws.Rows
import Derived.ChangeKeysEq
import Derived.Laws.Entries
import Derived.Laws.StructEq
import Derived.Great.BuildSlice
import Derived.Laws.BytesString
import Derived.Laws.IdiomStrings
import Derived.Laws.MakeOwn
import Derived.Lib.UnsafeStr
import Derived.RangeFuncLeaves
set_option linter.all false
set_option maxRecDepth 10000
set_option maxHeartbeats 1000000
namespace Go.Den
open Go Go.RowKit
abbrev oN:=Option Nat
abbrev lN:=List Nat
abbrev lB:=List UInt8
variable{i j b nt m ai sz k n d l:Nat}{a:Act}{vs:List Value}{v v':Value}{w w':World}{O:Obj}{c:Array Value}{t e:TypeId}{aj:Option Value}{r:Bool}{f:FuncId}
def abN:=@List.getElem?_set_ne
def abP:=@List.getElem?_append_left
def abQ:=@List.getElem?_eq_some_iff
def acy:=@Option.some.injEq
def acz:=@if_neg
def acE:=@if_pos
def acF:=@List.append_assoc
def acH:=@Go.run_underlying
def acJ:=@List.getElem?_eq_getElem
def ac4:=@List.take_of_length_le
def ac6:=@List.length_append
def ac7:=@Nat.zero_le
def ac8:=@List.mem_append
def ac9:=@List.getElem?_set_self
def aeg:=@Nat.le_refl
def aeh:=@Option.map_eq_some_iff
def aei:=@Option.map_some
def aej:=@List.length_map
def aek:=@Bool.false_eq_true
def ael:=@List.mem_map
def aem:=@Nat.add_zero
def aeo:=@List.take_length
def aep:=@List.length_cons
def aeq:=@List.map_append
def aer:=@List.getD_eq_getElem?_getD
def aes:=@List.all_eq_true
def aet:=@List.getElem?_append_right
def aex:=@List.take_add_one
def aey:=@List.mem_filter
def aeB:=@List.mem_cons
def aeD:=@List.length_take
def aeE:=@if_true
def afI:=@Nat.le_trans
def afJ:=@Bool.and_eq_true
def afL:=@List.drop_eq_nil_of_le
def afW:=@congrArg
def afY:=@List.nil_append
def afZ:=@List.mem_of_mem_take
def af2:=@Nat.lt_of_lt_of_le
def af3:=@List.cons_append
def ahz:=@if_false
def ahJ:=@Option.some.inj
def ahK:=@List.length_eq_zero_iff
def aje:=@decide_eq_true_eq
def ajg:=@Nat.zero_add
def ajJ:=@Nat.add_sub_cancel_left
def ajP:=@List.getElem?_eq_none
def ajQ:=@List.getElem?_drop
def ajR:=@Array.length_toList
def ajU:=@Array.getElem?_setIfInBounds
def ajX:=@Nat.mul_le_mul_right
def ajY:=@List.mem_of_getElem?
def akr:=@List.getElem?_take
def aks:=@List.drop_zero
def akF:=@Array.getElem?_eq_some_iff
def alL:=@Nat.add_assoc
def alM:=@List.map_cons
def al2:=@List.flatten_append
def al4:=@List.ext_getElem?
def amf:=@List.drop_eq_getElem_cons
def amo:=@Nat.mod_eq_of_lt
def amv:=@List.flatMap_append
def amx:=@List.take_append_drop
def am3:=@List.mem_of_mem_drop
def am4:=@List.flatten_cons
def anc:=@List.drop_succ_cons
def anX:=@Bool.or_eq_true
def an1:=@Option.bind_some
def an3:=@Nat.add_mul
def an4:=@List.drop_drop
def an5:=@Go.heap_alloc_new
def aoa:=@List.mem_flatMap
def aob:=@Array.ext'
def aog:=@Nat.succ_mul
def aon:=@Nat.min_eq_left
def aoo:=@List.take_succ_cons
def aoD:=@Nat.le_max_right
def aoF:=@List.take_take
def aoG:=@Go.run_program
def aoM:=@Nat.le_max_left
def aoQ:=@List.length_singleton
def aoR:=@of_decide_eq_true
def aoV:=@List.flatMap_cons
def aqe:=@List.extract_eq_take_drop
def aqG:=@List.replicate_succ
def aqH:=@Option.isSome_iff_exists
def aqJ:=@List.eq_of_mem_replicate
def arq:=@Bool.not_true
def asR:=@List.take_append_of_le_length
def as2:=@List.drop_append
def atl:=@Array.toList_extract
def auk:=@List.all_cons
def aul:=@beq_iff_eq
def au0:=@List.map_congr_left
def avb:=@List.map_nil
def avG:=@List.drop_take
def avH:=@Array.getElem?_eq_getElem
def avI:=@Array.getElem?_replicate
def avS:=@List.take_append
def avU:=@Go.callsIn_of_wp_marks
def avV:=@Nat.ne_of_lt
def awp:=@Nat.min_self
def awW:=@List.foldl_cons
def axc:=@List.cons.injEq
def axh:=@List.range_eq_range'
def axj:=@List.mapM_cons
def axv:=@Go.grownCap_ge
def axw:=@Go.wpIn_seq
def axB:=@List.size_toArray
def axC:=@List.replicate_append_replicate
def ayw:=@Go.size_zeroCells
def ayA:=@Bool.not_eq_true'
def ayB:=@Array.size_append
def ayC:=@decide_false
def ayR:=@List.map_map
def ayT:=@List.drop_append_of_le_length
inductive AV where
 |bool(b:Bool)
 |int(k:IntKind)(n:Int)
 |str(s:ByteArray)
 |agg(cs:List AV)
 |av(vs:List AV)
 |dP
 |ptr(id off:Nat)
 |dc(id ai i off:Nat)
 |eN(cs:List AV)(off:Nat)
 |dy(g:Nat)
 |an
 |sl(af:List (List AV))(cI:Bool)
 |ref(id ai sz off len:Nat)(cI:Bool)
 |fa(id sz off len:Nat)
 |lH
 |mp(id:Nat)
 |kZ(g:Nat)
 |fn(f:Fn)(first cap:List AV)
 |dg
 |c8(t:TypeId)(v:AV)
 |eC
 |pG
 deriving Inhabited
abbrev AV.undef:AV:=.av []
def AV.cells:AV->List AV
 |.agg cs=>cs
 |v=>[v]
def AV.cm:AV->Bool
 |.av _=>true
 |.pG=>true
 |_=>false
def AV.jL:Value->AV
 |.bool b=>.bool b
 |.int k n=>.int k n
 |.string s=>.str s
 |.pointer none=>.dP
 |.slice none n c=>if n=0/\c=0 then .an else .pG
 |.map none=>.lH
 |.nilFunc=>.dg
 |.nilIface=>.eC
 |.tuple vs=>if vs.size=0 then .av []else .pG
 |_=>.pG
def AV.ofValue:Value->AV
 |.agg cs=>.agg (cs.toList.map AV.jL)
 |.iface t v=>.c8 t (AV.jL v)
 |v=>AV.jL v
mutual
def AV.refs:AV->Nat
 |.ptr id _=>id+1
 |.dc id _ _ _=>id+1
 |.ref id _ _ _ _ _=>id+1
 |.fa id _ _ _=>id+1
 |.mp id=>id+1
 |.agg cs=>aI cs
 |.av cs=>aI cs
 |.eN cs _=>aI cs
 |.sl af _=>bT af
 |.fn f a b=>max (match f with|.yield l=>l+1|_=>0) (max (aI a) (aI b))
 |.c8 _ v=>v.refs
 |_=>0
def aI:List AV->Nat
 | []=>0
 |a::as=>max a.refs (aI as)
def bT:List (List AV)->Nat
 | []=>0
 |a::as=>max (aI a) (bT as)
end
abbrev Env:=Nat->AV
def Env.set(e:Env)(d:Nat)(v:AV):Env:=λt=>if t=d then v else e t
inductive ao where
 |t(i:Nat)
 |c(v:AV)
 deriving Inhabited
def ao.get(e:Env):ao->AV
 |.t i=>e i
 |.c v=>v
inductive EK where
 |bool
 |int
 |str
 |ptr
 |sl
 |map
 |cap
 |fn
 |c8
 |zA(ts:List TypeId)
 |agg(ks:List EK)
 deriving Inhabited
inductive I where
 |mov(x:ao)
 |pick(c a b:ao)
 |alloc(z:List AV)(tg:Option TypeId)
 |box(x:ao)(tg:Option TypeId:=none)
 |build(z:List AV)(parts:List (Nat×Nat×ao))
 |bslice(z:List AV)(len:Nat)(parts:List (Nat×Nat×ao))
 |re(ty:TypeId)(z:List AV)(len:Nat)(parts:List (Nat×Nat×ao))
 |load(agg:Bool)(n:Nat)(a:ao)
 |store(n:Nat)(a v:ao)
 |nilck(x:ao)
 |bin(op:BinOp)(x y:ao)
 |shf(op:BinOp)(x y:ao)
 |eq(k:EK)(x y:ao)
 |ne(k:EK)(x y:ao)
 |un(op:UnOp)(x:ao)
 |conv(k:IntKind)(x:ao)
 |s2b(x:ao)
 |mki(t:TypeId)(x:ao)
 |mkf(f:Fn)(first cap:List ao)
 |nf
 |B7(ty:TypeId)(z:List AV)(bytes:Nat)(l c:ao)
 |slstr(x:ao)(lo hi:Option ao)
 |slsl(sz:Nat)(x:ao)(lo hi mx:Option ao)
 |slarr(n sz:Nat)(x:ao)(lo hi:Option ao)
 |faddr(off:Nat)(x:ao)
 |fld(agg:Bool)(n off:Nat)(x:ao)
 |iaddra(len sz:Nat)(x i:ao)
 |iaddrs(sz:Nat)(x i:ao)
 |idxa(agg:Bool)(len sz:Nat)(x i:ao)
 |idxs(x i:ao)
 |lookup(kk:EK)(z:AV)(m k:ao)(ok:Bool)
 |om(kk:EK)(m k v:ao)
 |ta(z:AV)(x:ao)(t:TypeId)(ok:Bool)
 |ext(x:ao)(i:Nat)
 |len(k:EK)(x:ao)
 |append(ty:TypeId)(sz bytes:Nat)(s x:ao)
 |copy(sz:Nat)(d s:ao)
 |clear(z:List AV)(x:ao)
 |max(xs:List ao)
 |min(xs:List ao)
 |call(f:ao)(args:List ao)
 |panic(x:ao)
 deriving Inhabited
structure aP where
 g:Option (Nat×Bool)
 dst:oN
 i:I
 deriving Inhabited
inductive PC where
 |skip
 |aN(ops:List aP)
 |sM(ops:List (aP×lN))
 |seq(a b:PC)
 |cond(c:ao)(a b:PC)
 |block(id:Nat)(b:PC)
 |loop(b:PC)
 |gR(g:ao)(params:lN)(assign body:PC)
 |exit(id:Nat)
 |ret
 deriving Inhabited
inductive RV where
 |t(i:Nat)
 |cell(a:Nat)(agg:Bool)(n:Nat)
 deriving Inhabited
structure PF where
 ntmps:Nat
 results:List RV
 body:PC
 deriving Inhabited
inductive ae where
 |box(cs:List AV)(tg:Option TypeId)
 |row(ai sz:Nat)(ty:TypeId)(af:List (List AV))
 |map(es:List (AV×AV))
 |loop(state:LoopState)(pending:Option PC)(fn:FuncId)(env:Env)(params:lN)(assign body:PC)
 |fj
 |dead
 deriving Inhabited
structure AS where
 heap:List ae
 lo:oN
 deriving Inhabited
inductive aT where
 |ret(v:AV)(E:AS)
 |panic(v:AV)(E:AS)
 deriving Inhabited
abbrev bw:=AV->List AV->AS->Option aT
structure Ctx where
 dy:Nat->Option (List AV)
 code:FuncId->Option PF
 bU:FuncId->Option (List AV->AS->Option aT)
 fG:Nat->Option (List (AV×AV)):=λ_=>none
def AS.push(E:AS)(o:ae):AS:={E with heap:=E.heap++[o]}
def cK(a:oN)(i:Nat):oN:=match a with|none=>some i|some j=>some (Nat.min i j)
def fX(a b:oN):oN:=match b with|none=>a|some j=>cK a j
def AS.set(E:AS)(id:Nat)(o:ae)(refs:Nat):AS:=
 {heap:=E.heap.set id o,lo:=if refs<=id+1 then E.lo else cK E.lo id}
def part(agg:Bool)(n:Nat)(cs:List AV)(off:Nat):Option AV:=
 if agg then(if off+n<=cs.length then some (.agg ((cs.drop off).take n))else none)else cs[off]?
def aM(cs:List AV)(off:Nat)(vs:List AV):List AV:=cs.take off++(vs++cs.drop (off+vs.length))
def ee(cs:List AV):List (Nat×Nat×AV)->Option (List AV)
 | []=>some cs
 | (off,n,v)::rest=>if v.cm=false/\v.cells.length=n/\off+n<=cs.length then ee (aM cs off v.cells) rest else none
def chunks(sz:Nat):Nat->List AV->List (List AV)
 |0,_=>[]
 |k+1,cs=>cs.take sz::chunks sz k (cs.drop sz)
def AV.zD:AV->Bool
 |.ptr .. |.dc .. |.eN .. |.dy _=>true
 |_=>false
def AV.zE:AV->Bool
 |.sl .. |.ref .. |.fa .. =>true
 |_=>false
def pJ:EK->AV->AV->Option Bool
 |.bool,.bool a,.bool b=>some (a==b)
 |.int,.int k a,.int k' b=>if k=k' then some (a==b)else none
 |.str,.str a,.str b=>some (a.toList==b.toList)
 |.ptr,.dP,.dP=>some true
 |.ptr,.dP,b=>if b.zD then some false else none
 |.ptr,a,.dP=>if a.zD then some false else none
 |.sl,.an,.an=>some true
 |.sl,.an,b=>if b.zE then some false else none
 |.sl,a,.an=>if a.zE then some false else none
 |.map,.lH,.lH=>some true
 |.map,.lH,.mp _=>some false
 |.map,.mp _,.lH=>some false
 |.fn,.dg,.dg=>some true
 |.fn,.dg,.fn .. =>some false
 |.fn,.fn ..,.dg=>some false
 |.c8,.eC,.eC=>some true
 |.c8,.eC,.c8 .. =>some false
 |.c8,.c8 ..,.eC=>some false
 |.zA ts,.c8 t (.int k a),.c8 c (.int k' b)=>if t=c then(if ts.contains t/\k=k' then some (a==b)else none)else some false
 |_,_,_=>none
def ij:List EK->List AV->List AV->Option Bool
 | [],[],[]=>some true
 |k::c,a::as,b::bs=>match pJ k a b with
  |some true=>ij c as bs
  |some false=>some false
  |none=>none
 |_,_,_=>none
def dA:EK->AV->AV->Option Bool
 |.agg a,.agg xs,.agg ys=>if xs.length=a.length/\ys.length=a.length then ij a xs ys else none
 |.agg _,_,_=>none
 |k,x,y=>pJ k x y
def vf(a:BinOp)(k:IntKind)(x y:Int):Option AV:=
 match a with
 |.and=>some (.int k (k.wrap (BitVec.ofInt k.bits x&&&BitVec.ofInt k.bits y).toNat))
 |.or=>some (.int k (k.wrap (BitVec.ofInt k.bits x|||BitVec.ofInt k.bits y).toNat))
 |.xor=>some (.int k (k.wrap (BitVec.ofInt k.bits x^^^BitVec.ofInt k.bits y).toNat))
 |.andNot=>some (.int k (k.wrap (BitVec.ofInt k.bits x&&& ~~~ (BitVec.ofInt k.bits y)).toNat))
 |_=>none
def lI(a:BinOp)(k:IntKind)(x y:Int):Option AV:=
 match a with
 |.add=>some (.int k (k.wrap (x+y)))
 |.sub=>some (.int k (k.wrap (x-y)))
 |.mul=>some (.int k (k.wrap (x*y)))
 |.quo=>if y=0 then none else some (.int k (k.wrap (x.tdiv y)))
 |.rem=>if y=0 then none else some (.int k (x.tmod y))
 |.eql=>some (.bool (x==y))
 |.neq=>some (.bool (x !=y))
 |.lss=>some (.bool (x<y))
 |.leq=>some (.bool (x<=y))
 |.gtr=>some (.bool (x>y))
 |.geq=>some (.bool (x>=y))
 |a=>vf a k x y
def vg(a:BinOp)(k:IntKind)(x y:Int):Option AV:=
 if y<0 then none else
 match a with
 |.shl=>some (.int k (k.wrap (x*2^(min y.toNat k.bits))))
 |.shr=>some (.int k (x.fdiv (2^(min y.toNat k.bits))))
 |_=>none
def Uf:Nat:=1152921504606846976
def Ug(a:BinOp)(x y:ByteArray):Option AV:=
 match a with
 |.add=>if x.size+y.size<=Uf then some (.str (x++y))else none
 |.eql=>some (.bool (x.toList==y.toList))
 |.neq=>some (.bool !(x.toList==y.toList))
 |.lss=>some (.bool (Op.bytesLess x.toList y.toList))
 |.leq=>some (.bool (Op.bytesLess x.toList y.toList||x.toList==y.toList))
 |.gtr=>some (.bool !(Op.bytesLess x.toList y.toList||x.toList==y.toList))
 |.geq=>some (.bool !(Op.bytesLess x.toList y.toList))
 |_=>none
def dh(c:BinOp):AV->AV->Option AV
 |.int k a,.int k' b=>if k=k' then lI c k a b else none
 |.str a,.str b=>Ug c a b
 |_,_=>none
def xf(a:UnOp)(x:AV):Option AV:=
 match a,x with
 |.neg,.int k n=>some (.int k (k.wrap (0-n)))
 |.xor,.int k n=>vf .xor k (if k.signed then-1 else k.max) n
 |.not,.bool b=>some (.bool !b)
 |_,_=>none
inductive Out where
 |ok(v:AV)(E:AS)
 |panic(v:AV)(E:AS)
def fH(E:AS):Option AV->Option Out
 |some v=>some (.ok v E)
 |none=>none
variable(X:Ctx)
def bW(E:AS)(agg:Bool)(n:Nat)(a:AV):Option AV:=
 match a with
 |.ptr id off=>match E.heap[id]? with
  |some (.box cs _)=>part agg n cs off
  |_=>none
 |.dc id ai i off=>match E.heap[id]? with
  |some (.row v sz _ af)=>if v=ai then(af[i]?).bind λel=>if el.length=sz then part agg n el off else none else none
  |_=>none
 |.eN cs off=>part agg n cs off
 |.dy g=>(X.dy g).bind λcs=>part agg n cs 0
 |_=>none
def jM(E:AS)(n:Nat)(a v:AV):Option AS:=
 match a with
 |.ptr id off=>match E.heap[id]? with
  |some (.box cs tg)=>if v.cm=false/\v.cells.length=n/\off+n<=cs.length then some (E.set id (.box (aM cs off v.cells) tg) v.refs)else none
  |_=>none
 |.dc id ai i off=>match E.heap[id]? with
  |some (.row w sz ty af)=>match af[i]? with
   |some el=>if w=ai/\el.length=sz/\v.cm=false/\v.cells.length=n/\off+n<=el.length then some (E.set id (.row ai sz ty (af.set i (aM el off v.cells))) v.refs)else none
   |none=>none
  |_=>none
 |_=>none
def elems(E:AS)(sz:Nat):AV->Option (List (List AV))
 |.an=>some []
 |.sl af _=>if af.all (λel=>el.length==sz)then some af else none
 |.ref id ai a off len _=>match E.heap[id]? with
  |some (.row v b _ af)=>if v=ai/\b=sz/\a=sz/\off+len<=af.length then some ((af.drop off).take len)else none
  |_=>none
 |.fa id b off len=>match E.heap[id]? with
  |some (.box cs _)=>if b=sz/\off+len*sz<=cs.length then some (chunks sz len (cs.drop off))else none
  |_=>none
 |_=>none
def rf:AV->Option Int
 |.int _ n=>some n
 |_=>none
def k0(n:Nat):Option AV->Nat->oN
 |none,d=>some d
 |some (.int _ i),_=>if 0<=i/\i<=n then some i.toNat else none
 |some _,_=>none
def fY(len:Nat)(b a:Option AV):Option (Nat×Nat):=
 match k0 len a len with
 |some h=>match k0 h b 0 with
  |some l=>some (l,h)
  |none=>none
 |none=>none
def sO(x:AV)(b a:Option AV):Option AV:=
 match x with
 |.str s=>match fY s.size b a with
  |some (l,h)=>some (.str (s.extract l h))
  |none=>none
 |_=>none
def k5(len h:Nat)(cI:Bool):Option AV->Option Bool
 |none=>some (cI&&h==len)
 |some (.int _ i)=>if(h:Int)<=i/\i<=len then some (i==h)else none
 |some _=>none
def fZ(n:Nat)(x:AV)(b a d:Option AV):Option AV:=
 match x with
 |.an=>match fY 0 b a,k5 0 0 true d with
  |some _,some _=>some .an
  |_,_=>none
 |.sl af cI=>match fY af.length b a with
  |some (l,h)=>match k5 af.length h cI d with
   |some c=>if af.all (λel=>el.length==n)then some (.sl ((af.drop l).take (h-l)) c)else none
   |none=>none
  |none=>none
 |.ref id ai sz off len cI=>match fY len b a with
  |some (l,h)=>match k5 len h cI d with
   |some c=>if sz=n then some (.ref id ai sz (off+l) (h-l) c)else none
   |none=>none
  |none=>none
 |.fa id sz off len=>match fY len b a,d with
  |some (l,h),none=>if sz=n then some (.fa id sz (off+l*sz) (h-l))else none
  |_,_=>none
 |_=>none
def pK(n sz:Nat)(x:AV)(b a:Option AV):Option AV:=
 match fY n b a with
 |some (l,h)=>match x with
  |.ptr id off=>some (.fa id sz (off+l*sz) (h-l))
  |.eN cs off=>if off+n*sz<=cs.length then some (.sl (chunks sz (h-l) (cs.drop (off+l*sz))) false)else none
  |.dy g=>match X.dy g with
   |some cs=>if n*sz<=cs.length then some (.sl (chunks sz (h-l) (cs.drop (l*sz))) false)else none
   |none=>none
  |_=>none
 |none=>none
def rh(s:ByteArray):List (List AV):=s.data.toList.map λb=>[.int .u8 b.toNat]
def vh:List (List AV)->Option lB
 | []=>some []
 | [.int .u8 n]::r=>(vh r).map (UInt8.ofNat n.toNat:: ·)
 |_=>none
def room:Nat:=1099511627776
def dm(E:AS)(ty:TypeId)(sz bytes:Nat)(s:AV)(ys:List (List AV)):Option (AV×AS):=
 if 0<sz/\ys.all (λel=>el.length==sz)then
  match s with
  |.an=>if ys.length=0 then some (.an,E)else
   if ys.length*bytes<=room then some (.ref E.heap.length 0 sz 0 ys.length false,E.push (.row 0 sz ty ys))else none
  |.sl af true=>if ys.length=0 then some (s,E)else
   if(af.length+ys.length)*bytes<=room/\af.all (λel=>el.length==sz)then
    some (.ref E.heap.length 0 sz 0 (af.length+ys.length) false,E.push (.row 0 sz ty (af++ys)))else none
  |.sl _ false=>if ys.length=0 then some (s,E)else none
  |.ref id ai a off len cI=>
   match E.heap[id]? with
   |some (.row v c b af)=>
    if v=ai/\c=sz/\a=sz/\b=ty/\off+len<=af.length/\ (len+ys.length)*bytes<=room then
     if ys.length=0 then some (s,E)else
     if cI then some (.ref E.heap.length 0 sz 0 (len+ys.length) false,E.push (.row 0 sz ty ((af.drop off).take len++ys)))else
     some (.ref id (ai+1) sz 0 (len+ys.length) false,E.set id (.row (ai+1) sz ty ((af.drop off).take len++ys)) (bT ys))
    else none
   |_=>none
  |_=>none
 else none
def oo:AV->AV->Option Bool
 |.int k a,.int k' b=>if k=k' then some (a==b)else none
 |.str a,.str b=>some (a==b)
 |.bool a,.bool b=>some (a==b)
 |_,_=>none
def dU(k:AV):List (AV×AV)->Option (Option AV)
 | []=>some none
 | (k',v)::es=>match oo k k' with
   |some true=>some (some v)
   |some false=>dU k es
   |none=>none
def k6(k v:AV):List (AV×AV)->Option (List (AV×AV))
 | []=>some [(k,v)]
 | (k',v')::es=>match oo k k' with
   |some true=>some ((k,v)::es)
   |some false=>(k6 k v es).map ((k',v'):: ·)
   |none=>none
def mapOf(gm:Nat->Option (List (AV×AV)))(E:AS):AV->Option (List (AV×AV))
 |.lH=>some []
 |.kZ g=>gm g
 |.mp id=>match E.heap[id]? with
  |some (.map es)=>some es
  |_=>none
 |_=>none
def isKey:AV->Bool
 |.int _ _|.str _|.bool _=>true
 |_=>false
def kf:EK->AV->Bool
 |.int,.int _ _|.str,.str _|.bool,.bool _=>true
 |_,_=>false
def iV(gm:Nat->Option (List (AV×AV)))(E:AS)(b:EK)(z m k:AV)(a:Bool):Option AV:=
 if kf b k then
  match mapOf gm E m with
  |some es=>match dU k es with
   |some (some v)=>some (if a then .av [v,.bool true]else v)
   |some none=>some (if a then .av [z,.bool false]else z)
   |none=>none
  |none=>none
 else none
def lJ(E:AS)(b:EK)(m k v:AV):Option AS:=
 if kf b k then
  match m with
  |.mp id=>match E.heap[id]? with
   |some (.map es)=>match k6 k v es with
    |some a=>some (E.set id (.map a) v.refs)
    |none=>none
   |_=>none
  |_=>none
 else none
def pL:AV->AV->Option AV
 |.int k x,.int _ y=>some (.int k (if y>x then y else x))
 |_,_=>none
def vi:AV->AV->Option AV
 |.int k x,.int _ y=>some (.int k (if y<x then y else x))
 |_,_=>none
def fb(E:AS):EK->AV->Option AV
 |.str,.str s=>some (.int .i64 s.size)
 |.sl,.an=>some (.int .i64 0)
 |.sl,.sl af _=>some (.int .i64 af.length)
 |.sl,.ref _ _ _ _ n _=>some (.int .i64 n)
 |.sl,.fa _ _ _ n=>some (.int .i64 n)
 |.map,.lH=>some (.int .i64 0)
 |.map,.mp id=>match E.heap[id]? with
  |some (.map es)=>some (.int .i64 es.length)
  |_=>none
 |.cap,.an=>some (.int .i64 0)
 |.cap,.sl af true=>some (.int .i64 af.length)
 |.cap,.ref _ _ _ _ n true=>some (.int .i64 n)
 |_,_=>none
def B8(E:AS)(sz:Nat)(s:AV):Option (List (List AV)):=
 match s with
 |.str b=>if sz=1 then some (rh b)else none
 |s=>elems E sz s
def ri(E:AS)(sz:Nat)(d s:AV):Option (AV×AS):=
 match B8 E sz s with
 |some ys=>match d with
  |.an=>some (.int .i64 0,E)
  |.ref id ai a off len _=>match E.heap[id]? with
   |some (.row v b ty af)=>
    if v=ai/\b=sz/\a=sz/\off+len<=af.length then
     some (.int .i64 (Nat.min ys.length len),E.set id (.row ai sz ty (af.take off++(ys.take (Nat.min ys.length len)++af.drop (off+Nat.min ys.length len)))) (bT ys))
    else none
   |_=>none
  |.fa id b off len=>match E.heap[id]? with
   |some (.box cs tg)=>
    if b=sz/\off+len*sz<=cs.length/\ys.all (λel=>el.length==sz)then
     some (.int .i64 (Nat.min ys.length len),E.set id (.box (aM cs off (ys.take (Nat.min ys.length len)).flatten) tg) (bT ys))
    else none
   |_=>none
  |_=>none
 |none=>none
def rj(E:AS)(z:List AV)(x:AV):Option AS:=
 match x with
 |.an=>some E
 |.ref id ai a off len _=>match E.heap[id]? with
  |some (.row v sz ty af)=>
   if v=ai/\a=sz/\sz=z.length/\off+len<=af.length/\aI z=0 then
    some (E.set id (.row ai sz ty (af.take off++(List.replicate len z++af.drop (off+len)))) 0)
   else none
  |_=>none
 |.fa id sz off len=>match E.heap[id]? with
  |some (.box cs tg)=>
   if sz=z.length/\off+len*sz<=cs.length/\aI z=0 then
    some (E.set id (.box (aM cs off (List.replicate len z).flatten) tg) 0)
   else none
  |_=>none
 |_=>none
def vk(o:Nat)(x:AV):Option AV:=
 match x with
 |.ptr id off=>some (.ptr id (off+o))
 |.dc id ai i off=>some (.dc id ai i (off+o))
 |.eN cs off=>some (.eN cs (off+o))
 |.dy g=>match X.dy g with
  |some cs=>some (.eN cs o)
  |none=>none
 |_=>none
def sP(n sz:Nat)(x a:AV):Option AV:=
 match rf a with
 |some i=>if 0<=i/\i<n then
    match x with
    |.ptr id off=>some (.ptr id (off+i.toNat*sz))
    |.dc id ai j off=>some (.dc id ai j (off+i.toNat*sz))
    |.eN cs off=>some (.eN cs (off+i.toNat*sz))
    |.dy g=>match X.dy g with
     |some cs=>some (.eN cs (i.toNat*sz))
     |none=>none
    |_=>none
  else none
 |none=>none
def iG(sz:Nat)(x b:AV):Option AV:=
 match rf b with
 |some i=>match x with
  |.sl af _=>if 0<=i then match af[i.toNat]? with
     |some el=>if el.length=sz then some (.eN el 0)else none
     |none=>none
   else none
  |.ref id ai a off len _=>if 0<=i/\i<len/\a=sz then some (.dc id ai (off+i.toNat) 0)else none
  |.fa id a off len=>if 0<=i/\i<len/\a=sz then some (.ptr id (off+i.toNat*sz))else none
  |_=>none
 |none=>none
def pM(agg:Bool)(n sz:Nat)(x a:AV):Option AV:=
 match rf a,x with
 |some i,.agg cs=>if 0<=i/\i<n then part agg sz cs (i.toNat*sz)else none
 |_,_=>none
def xg(x a:AV):Option AV:=
 match rf a,x with
 |some i,.str s=>if 0<=i then match s.data.toList[i.toNat]? with
    |some b=>some (.int .u8 b.toNat)
    |none=>none
  else none
 |_,_=>none
def LB(E:AS)(ty:TypeId)(z:List AV)(bytes:Nat)(l c:AV):Option (AV×AS):=
 match l,c with
 |.int _ l,.int _ c=>if 0<=l/\l<=c/\c*bytes<=room/\c<=room then
    some (.ref E.heap.length 0 z.length 0 l.toNat false,E.push (.row 0 z.length ty (List.replicate l.toNat z)))
  else none
 |_,_=>none
def zF(z x:AV)(t:TypeId)(a:Bool):Option AV:=
 match x with
 |.eC=>if a then some (.av [z,.bool false])else none
 |.c8 b v=>if b=t then some (if a then .av [v,.bool true]else v)else if a then some (.av [z,.bool false])else none
 |_=>none
def ayg(a:List TypeId)(x:AV)(b:Bool):Option AV:=
 match x with
 |.eC=>if b then some (.av [.eC,.bool false])else none
 |.c8 t v=>if a.contains t then some (if b then .av [.c8 t v,.bool true]else .c8 t v)else none
 |_=>none
def ga(f:AV->AV->Option AV):List AV->Option AV
 | []=>none
 | [x]=>some x
 |x::y::r=>match f x y with
  |some z=>ga f (z::r)
  |none=>none
termination_by l=>l.length
def vl:AV->Option AV
 |.ptr id off=>some (.ptr id off)
 |.dc id ai i off=>some (.dc id ai i off)
 |.eN cs off=>some (.eN cs off)
 |.dy g=>some (.dy g)
 |.fn (.func f) a b=>some (.fn (.func f) a b)
 |.fn (.yield l) a b=>some (.fn (.yield l) a b)
 |_=>none
def exec(C:bw)(i:I)(e:Env)(E:AS):Option Out:=
 match i with
 |.mov x=>some (.ok (x.get e) E)
 |.pick c a b=>match c.get e with
  |.bool t=>some (.ok (if t then a.get e else b.get e) E)
  |_=>none
 |.alloc z tg=>some (.ok (.ptr E.heap.length 0) (E.push (.box z tg)))
 |.box x tg=>if(x.get e).cm then none else some (.ok (.ptr E.heap.length 0) (E.push (.box (x.get e).cells tg)))
 |.build z parts=>match ee z (parts.map λp=>(p.1,p.2.1,p.2.2.get e))with
  |some cs=>some (.ok (.agg cs) E)
  |none=>none
 |.bslice z len parts=>match ee (List.replicate len z).flatten (parts.map λp=>(p.1,p.2.1,p.2.2.get e))with
  |some cs=>some (.ok (.sl (chunks z.length len cs) true) E)
  |none=>none
 |.re ty z len parts=>match ee (List.replicate len z).flatten (parts.map λp=>(p.1,p.2.1,p.2.2.get e))with
  |some cs=>some (.ok (.ref E.heap.length 0 z.length 0 len false) (E.push (.row 0 z.length ty (chunks z.length len cs))))
  |none=>none
 |.load agg n a=>fH E (bW X E agg n (a.get e))
 |.store n a v=>match jM E n (a.get e) (v.get e)with
  |some g=>some (.ok .undef g)
  |none=>none
 |.nilck x=>fH E (vl (x.get e))
 |.bin op x y=>fH E (dh op (x.get e) (y.get e))
 |.shf op x y=>match x.get e,y.get e with
  |.int k a,.int _ b=>fH E (vg op k a b)
  |_,_=>none
 |.eq k x y=>match dA k (x.get e) (y.get e)with
  |some b=>some (.ok (.bool b) E)
  |none=>none
 |.ne k x y=>match dA k (x.get e) (y.get e)with
  |some b=>some (.ok (.bool !b) E)
  |none=>none
 |.un op x=>fH E (xf op (x.get e))
 |.conv k x=>match x.get e with
  |.int _ n=>some (.ok (.int k (k.wrap n)) E)
  |_=>none
 |.s2b x=>match x.get e with
  |.str s=>if s.size<=room then some (.ok (.sl (rh s) false) E)else none
  |_=>none
 |.mki t x=>some (.ok (.c8 t (x.get e)) E)
 |.mkf f first cap=>some (.ok (.fn f (first.map (·.get e)) (cap.map (·.get e))) E)
 |.nf=>some (.ok (.mp E.heap.length) (E.push (.map [])))
 |.B7 ty z bytes l c=>match LB E ty z bytes (l.get e) (c.get e)with
  |some (v,g)=>some (.ok v g)
  |none=>none
 |.slstr x lo h=>fH E (sO (x.get e) (lo.map (·.get e)) (h.map (·.get e)))
 |.slsl n x lo h q=>fH E (fZ n (x.get e) (lo.map (·.get e)) (h.map (·.get e)) (q.map (·.get e)))
 |.slarr n sz x lo h=>fH E (pK X n sz (x.get e) (lo.map (·.get e)) (h.map (·.get e)))
 |.faddr o x=>fH E (vk X o (x.get e))
 |.fld agg n off x=>match x.get e with
  |.agg cs=>fH E (part agg n cs off)
  |_=>none
 |.iaddra n sz x i=>fH E (sP X n sz (x.get e) (i.get e))
 |.iaddrs sz x i=>fH E (iG sz (x.get e) (i.get e))
 |.idxa agg n sz x i=>fH E (pM agg n sz (x.get e) (i.get e))
 |.idxs x i=>fH E (xg (x.get e) (i.get e))
 |.lookup j z m k ok=>fH E (iV X.fG E j z (m.get e) (k.get e) ok)
 |.om j m k v=>match lJ E j (m.get e) (k.get e) (v.get e)with
  |some g=>some (.ok .undef g)
  |none=>none
 |.ta z x t ok=>fH E (zF z (x.get e) t ok)
 |.ext x i=>match x.get e with
  |.av vs=>fH E (vs[i]?)
  |_=>none
 |.len k x=>fH E (fb E k (x.get e))
 |.append ty sz bytes s x=>match elems E sz (x.get e)with
  |some ys=>match dm E ty sz bytes (s.get e) ys with
   |some (v,g)=>some (.ok v g)
   |none=>none
  |none=>none
 |.copy sz d s=>match ri E sz (d.get e) (s.get e)with
  |some (v,g)=>some (.ok v g)
  |none=>none
 |.clear z x=>match rj E z (x.get e)with
  |some g=>some (.ok .undef g)
  |none=>none
 |.max xs=>fH E (ga pL (xs.map (·.get e)))
 |.min xs=>fH E (ga vi (xs.map (·.get e)))
 |.call f args=>match C (f.get e) (args.map (·.get e)) E with
  |some (.ret v g)=>some (.ok v g)
  |some (.panic v g)=>some (.panic v g)
  |none=>none
 |.panic x=>match x.get e with
  |.c8 t v=>some (.panic (.c8 t v) E)
  |_=>none
structure Fr where
 env:Env
 marks:lN
 deriving Inhabited
def Fr.put(a:Fr)(dst:oN)(v:AV):Fr:=
 match dst with
 |some d=>{a with env:=a.env.set d v}
 |none=>a
inductive Ex where
 |normal
 |exit(id:Nat)
 |ret
 |panic(v:AV)
abbrev iW:=Option (Ex×Fr×AS)
def fO(e:Env):Option (Nat×Bool)->Bool
 |none=>true
 |some (t,want)=>match e t with
  |.bool b=>b==want
  |_=>false
def eH(C:bw):List aP->Fr->AS->iW
 | [],fr,E=>some (.normal,fr,E)
 |o::os,fr,E=>
  if fO fr.env o.g then
   match exec X C o.i fr.env E with
   |some (.ok v a)=>eH C os (fr.put o.dst v) a
   |some (.panic v a)=>some (.panic v,fr,a)
   |none=>none
  else eH C os (fr.put o.dst .undef) E
inductive FP where
 |no
 |rd(id off n:Nat)
 |q
 |wr(id off n:Nat)
 |app
 |all
 |rr
 |new(n:Nat)
def FP.ok:FP->FP->Bool
 |.no,_=>true
 |_,.no=>true
 |.rd ..,.rd .. =>true
 |.rd ..,.q=>true
 |.q,.rd .. =>true
 |.q,.q=>true
 |.rd id off n,.wr b a c=>id !=b||off+n<=a||a+c<=off
 |.wr id off n,.rd b a c=>id !=b||off+n<=a||a+c<=off
 |.rd ..,.app=>true
 |.app,.rd .. =>true
 |.rr,.rd .. =>true
 |.rd ..,.rr=>true
 |.rr,.q=>true
 |.q,.rr=>true
 |.rr,.rr=>true
 |.rr,.wr .. =>true
 |.wr ..,.rr=>true
 |.rd id _ _,.new n=>id<n
 |.new n,.rd id _ _=>id<n
 |_,_=>false
open Classical in
noncomputable def aX(i:I)(e:Env)(E b:AS):FP:=
 match i with
 |.load _ n a=>match a.get e with
  |.ptr id off=>.rd id off (Nat.max n 1)
  |.dc .. =>.rr
  |.eN .. =>.no
  |.dy _=>.no
  |_=>.all
 |.lookup .. =>.q
 |.len k _=>match k with
  |.map=>.q
  |_=>.no
 |.store n a _=>match a.get e with
  |.ptr id off=>.wr id off n
  |.dc .. =>.app
  |_=>.all
 |.append .. =>.app
 |.call .. =>if b=E then .q else if b.heap.take E.heap.length=E.heap then .new E.heap.length else .all
 |.alloc _ _|.box .. |.re .. |.nf|.B7 .. |.om .. |.copy .. |.clear .. |.panic _=>.all
 |_=>.no
def I.cls:I->Nat
 |.mov _|.pick .. |.build .. |.bslice .. |.nilck _|.bin .. |.shf .. |.eq .. |.ne .. |.un .. |.conv .. |.s2b _|.mki .. |.mkf .. =>0
 |.slstr .. |.slsl .. |.slarr .. |.faddr .. |.fld .. |.iaddra .. |.iaddrs .. |.idxa .. |.idxs .. |.ta .. |.ext .. |.max _|.min _=>0
 |.load .. |.lookup .. |.len .. =>1
 |.call .. =>2
 |_=>3
def ao.tmps:ao->lN
 |.t i=>[i]
 |.c _=>[]
def gJ(l:List ao):lN:=l.flatMap ao.tmps
def I.reads:I->lN
 |.mov x|.box x _|.nilck x|.un _ x|.conv _ x|.s2b x|.mki _ x|.ta _ x _ _|.ext x _|.len _ x|.clear _ x|.panic x=>x.tmps
 |.alloc _ _|.nf=>[]
 |.pick a b c|.om _ a b c=>gJ [a,b,c]
 |.build _ ps|.bslice _ _ ps|.re _ _ _ ps=>gJ (ps.map (·.2.2))
 |.load _ _ a=>a.tmps
 |.store _ a v|.bin _ a v|.shf _ a v|.eq _ a v|.ne _ a v|.B7 _ _ _ a v|.iaddra _ _ a v|.iaddrs _ a v|.idxa _ _ _ a v|.idxs a v
 |.lookup _ _ a v _|.append _ _ _ a v|.copy _ a v=>gJ [a,v]
 |.mkf _ a b=>gJ (a++b)
 |.slstr x lo d|.slarr _ _ x lo d=>gJ (x:: (lo.toList++d.toList))
 |.slsl _ x lo d e=>gJ (x:: (lo.toList++d.toList++e.toList))
 |.faddr _ x|.fld _ _ _ x=>x.tmps
 |.max xs|.min xs=>gJ xs
 |.call f as=>gJ (f::as)
def aP.reads(o:aP):lN:=o.i.reads++(match o.g with|some (t,_)=>[t]|none=>[])
def B9(l m:lN):Bool:=l.all λx=>!m.contains x
def jN(x y:aP):Bool:=
 B9 x.dst.toList y.reads&&B9 y.dst.toList x.reads&&B9 x.dst.toList y.dst.toList
def FP.is:FP->Bool
 |.no=>false
 |_=>true
def Ca(a:List FP)(o:aP×lN)(os:List (aP×lN)):Bool:=
 o.2.isEmpty&& (o.1.i.cls !=0&& ((o.1.i.cls==2||a.all FP.is)&&os.all λo'=>if o'.1.i.cls=0 then !jN o.1 o'.1 else !o'.2.contains a.length))
noncomputable def gb(C:bw):List FP->List (aP×lN)->Fr->AS->iW
 |_,[],fr,E=>some (.normal,fr,E)
 |a,o::os,fr,E=>
  if fO fr.env o.1.g then
   match exec X C o.1.i fr.env E with
   |some (.ok v b)=>
    if o.2.all (λj=>((a.getD j .all).ok (aX o.1.i fr.env E b)))then
     gb C (a++[aX o.1.i fr.env E b]) os (fr.put o.1.dst v) b
    else none
   |some (.panic v b)=>if Ca a o os then some (.panic v,fr,b)else none
   |none=>none
  else gb C (a++[.no]) os (fr.put o.1.dst .undef) E
def aP.fz(x:aP):Option ae:=match x.i with
 |.alloc z tg=>some (.box z tg)
 |_=>none
def k7(m:Nat)(x:aP):aP:=match x.fz with
 |some _=>{x with i:=.mov (.c (.ptr m 0))}
 |none=>x
def gS:Nat->List (aP×lN)->List (aP×lN)
 |_,[]=>[]
 |n,o::os=>(k7 n o.1,o.2)::gS (match o.1.fz with|some _=>n+1|none=>n) os
def ds:List (aP×lN)->List ae
 | []=>[]
 |o::os=>match o.1.fz with
  |some b=>b::ds os
  |none=>ds os
def AS.lK(E:AS)(os:List ae):AS:={E with heap:=E.heap++os}
def xh:PC->Option Ex
 |.ret=>some .ret
 |.exit id=>some (.exit id)
 |_=>none
abbrev ef:=(Fr->AS->iW)->Fr->AS->iW
def pN:AV->Bool
 |.fn (.func f) _ _=>(X.bU f).isNone&& (X.code f).isSome
 |_=>false
def endLoop(l:Nat)(b:Fr)(E:AS):iW:=
 match E.heap[l]? with
 |some (.loop st a f env ps as bd)=>
  if st= .busy then none else
  match a with
  |none=>some (.normal,b,E.set l (.loop .exhausted a f env ps as bd) 0)
  |some j=>match xh j with
   |some ex=>some (ex,b,E.set l (.loop .exhausted a f env ps as bd) 0)
   |none=>none
 |_=>none
noncomputable def bc(C:bw)(L:ef)(bN:FuncId)(rd:Bool):PC->Fr->AS->iW
 |.skip,fr,E=>some (.normal,fr,E)
 |.seq a b,fr,E=>match bc C L bN rd a fr E with
  |some (.normal,d,e)=>bc C L bN rd b d e
  |r=>r
 |.cond c a b,fr,E=>match c.get fr.env with
  |.bool t=>if t then bc C L bN rd a fr E else bc C L bN rd b fr E
  |_=>none
 |.block id body,fr,E=>match bc C L bN rd body fr E with
  |some (.exit f,d,e)=>if f=id then some (.normal,d,e)else some (.exit f,d,e)
  |r=>r
 |.loop body,fr,E=>L (bc C L bN rd body) fr E
 |.exit id,fr,E=>some (.exit id,fr,E)
 |.ret,fr,E=>some (.ret,fr,E)
 |.aN ops,fr,E=>eH X C ops fr E
 |.sM ops,fr,E=>gb X C [] (gS E.heap.length ops) fr (E.lK (ds ops))
 |.gR g params assign body,fr,E=>
  if rd then none else
  if pN X (g.get fr.env)then
   match C (g.get fr.env) [.fn (.yield (E.heap.length+1)) [] []] ((E.push .fj).push (.loop .ready none bN fr.env params assign body))with
   |some (.ret _ e)=>endLoop (E.heap.length+1) {fr with marks:=E.heap.length::fr.marks} e
   |some (.panic v e)=>some (.panic v,{fr with marks:=E.heap.length::fr.marks},e)
   |none=>none
  else none
mutual
def freeze(E:AS)(n:Nat):Nat->AV->Option AV
 |0,_=>none
 |k+1,v=>if v.refs<=n then some v else
  match v with
  |.ref id ai sz off len cI=>match E.heap[id]? with
   |some (.row v c _ af)=>if v=ai/\c=sz/\off+len<=af.length then
      match rk E n k ((af.drop off).take len)with
      |some a=>some (.sl a cI)
      |none=>none
    else none
   |_=>none
  |.agg cs=>match ik E n k cs with
   |some b=>some (.agg b)
   |none=>none
  |.av cs=>match ik E n k cs with
   |some b=>some (.av b)
   |none=>none
  |.sl af cI=>match rk E n k af with
   |some a=>some (.sl a cI)
   |none=>none
  |_=>none
def ik(E:AS)(n:Nat):Nat->List AV->Option (List AV)
 |_,[]=>some []
 |0,_::_=>none
 |k+1,a::as=>match freeze E n k a with
  |some a'=>match ik E n (k+1) as with
   |some b=>some (a'::b)
   |none=>none
  |none=>none
def rk(E:AS)(n:Nat):Nat->List (List AV)->Option (List (List AV))
 |_,[]=>some []
 |0,_::_=>none
 |k+1,a::as=>match ik E n k a with
  |some a'=>match rk E n (k+1) as with
   |some b=>some (a'::b)
   |none=>none
  |none=>none
end
def finish(n:Nat)(dB:oN)(v:AV)(E:AS):AV×AS:=
 if(match E.lo with|none=>true|some j=>n<=j)then
  match freeze E n 12 v with
  |some v'=>(v',{heap:=E.heap.take n,lo:=dB})
  |none=>(v,{heap:=E.heap,lo:=fX dB E.lo})
 else(v,{heap:=E.heap,lo:=fX dB E.lo})
def oq(E:AS)(e:Env):RV->Option AV
 |.t i=>some (e i)
 |.cell a agg n=>bW X E agg n (e a)
def jO(E:AS)(e:Env):List RV->Option (List AV)
 | []=>some []
 |r::rs=>match oq X E e r with
  |some v=>match jO E e rs with
   |some vs=>some (v::vs)
   |none=>none
  |none=>none
def fA(E:AS)(e:Env)(a:List RV):Option AV:=
 match jO X E e a with
 |some [v]=>some v
 |some vs=>some (.av vs)
 |none=>none
def dC(E:AS):lN->Option AS
 | []=>some E
 |m::ms=>match E.heap[m]? with
  |some .fj=>dC (E.set m .dead 0) ms
  |_=>none
def c9(args:List AV):Env:=λt=>args.getD t .undef
def gT(e:Env):lN->List AV->Env
 |p::ps,a::as=>gT (e.set p a) ps as
 |_,_=>e
def pO(n:Nat)(dB:oN)(pf:PF)(b:Fr)(E:AS):Option aT:=
 match dC E b.marks with
 |some a=>match fA X a b.env pf.results with
  |some v=>some (.ret (finish n dB v a).1 (finish n dB v a).2)
  |none=>none
 |none=>none
def leave(n:Nat)(dB:oN)(pf:PF):iW->Option aT
 |some (.normal,fr,E)=>pO X n dB pf fr E
 |some (.ret,fr,E)=>pO X n dB pf fr E
 |some (.panic v,fr,E)=>match dC E fr.marks with
  |some a=>some (.panic (finish n dB v a).1 (finish n dB v a).2)
  |none=>none
 |_=>none
def pP:Ex->Option (Option PC)
 |.normal=>some none
 |.ret=>some (some .ret)
 |.exit id=>some (some (.exit id))
 |.panic _=>none
def endRound(l n:Nat)(dB:oN):iW->Option aT
 |some (ex,_,E)=>match pP ex,E.heap[l]? with
  |some j,some (.loop _ _ f env ps as bd)=>
   some (.ret (.bool j.isNone) (finish n dB (.bool j.isNone) (E.set l (.loop (if j.isNone then .ready else .done) j f env ps as bd) 0)).2)
  |_,_=>none
 |none=>none
noncomputable def k9(C:bw)(L:ef)(l:Nat)(args:List AV)(E:AS):Option aT:=
 match E.heap[l]? with
 |some (.loop _ _ f env ps assign body)=>
  if args.length=ps.length then
   match bc X C L f true assign {env:=gT env ps args,marks:=[]} {E with lo:=none}with
   |some (.normal,fr,a)=>
    match a.heap[l]? with
    |some (.loop .ready b g c d e iH)=>
     endRound l E.heap.length E.lo (bc X C L f true body fr (a.set l (.loop .busy b g c d e iH) 0))
    |_=>none
   |_=>none
  else none
 |_=>none
noncomputable def step(C:bw)(L:ef):bw
 |.fn (.func f) first cap,args,E=>
  match X.bU f with
  |some p=>p (first++args++cap) E
  |none=>
   match X.code f with
   |some pf=>
    if(first++args++cap).length<=pf.ntmps then
     leave X E.heap.length E.lo pf (bc X C L f false pf.body {env:=c9 (first++args++cap),marks:=[]} {E with lo:=none})
    else none
   |none=>none
 |.fn (.yield l) [] _,args,E=>k9 X C L l args E
 |_,_,_=>none
def iter:Nat->ef
 |0,_,_,_=>none
 |n+1,body,fr,E=>match body fr E with
  |some (.normal,a,b)=>iter n body a b
  |r=>r
noncomputable def il:Nat->bw
 |0=>λ_ _ _=>none
 |n+1=>step X (il n) (iter n)
section
variable(P:Program)
def cx(t:TypeId):oN:=(P.info? t).map (·.size)
def xi(t:TypeId):oN:=(P.info? t).map (·.bytes)
def my(t:TypeId):Option Bool:=(P.underlying t).map λ |.struct _|.array _ _=>true|_=>false
def AV.plain:AV->Bool
 |.pG=>false
 |_=>true
def FN:Value->Bool
 |.agg cs=>cs.toList.all λv=>(AV.jL v).plain&& !(AV.jL v).cm
 |.iface _ v=>(AV.jL v).plain
 |v=>(AV.jL v).plain
def zeroV(t:TypeId):Option Value:=(P.info? t).bind (·.zero)
def xj(t:TypeId):Option AV:=
 match zeroV P t with
 |some z=>if FN z then some (AV.ofValue z)else none
 |none=>none
def gL(t:TypeId):Option (List AV):=
 match xj P t,cx P t with
 |some z,some n=>if z.cm=false/\z.cells.length=n then some z.cells else none
 |_,_=>none
def rl:List AV->TypeId->Option TypeId
 | [.dP,.an],t=>some t
 |_,_=>none
def bI:Operand->Option ao
 |.tmp t=>some (.t t)
 |.const v=>if FN v then some (.c (AV.ofValue v))else none
 |.global g=>some (.c (.dy g))
 |.func f=>some (.c (.fn (.func f) [] []))
def ng:List Operand->Option (List ao)
 | []=>some []
 |x::xs=>match bI x,ng xs with
  |some y,some ys=>some (y::ys)
  |_,_=>none
def sQ:Option Operand->Option (Option ao)
 |none=>some none
 |some x=>(bI x).map some
def parts(a:Nat->Option (Nat×Nat)):List (Nat×Operand)->Option (List (Nat×Nat×ao))
 | []=>some []
 | (i,x)::r=>match a i,bI x,parts a r with
   |some (off,n),some y,some b=>some ((off,n,y)::b)
   |_,_,_=>none
def zG(f:TypeId->Option (List EK)):List Field->Nat->Option (List EK)
 | [],_=>some []
 |g::gs,off=>match f g.type with
  |some a=>if g.name≠ "_" /\g.offset=off/\cx P g.type=some a.length then(zG f gs (off+a.length)).map (a++ ·)else none
  |none=>none
def nh:Nat->TypeId->Option (List EK)
 |0,_=>none
 |d+1,t=>match P.underlying t with
  |some .bool=>some [.bool]
  |some (.int _)=>some [.int]
  |some .string=>some [.str]
  |some (.struct fields)=>if P.stoodInHeld t=false then zG P (nh d) fields.toList 0 else none
  |some (.array n e)=>match nh d e with
   |some a=>if cx P e=some a.length/\n*a.length<=1024 then some (List.replicate n a).flatten else none
   |none=>none
  |_=>none
def Uh:List TypeId:=
 (List.range P.types.size).filter λt=>match P.info? t,P.underlying t with
   |some i,some (.int _)=>i.comparable
   |_,_=>false
def xk(t:TypeId)(x y:Operand):Option EK:=
 match P.underlying t with
 |some .bool=>some .bool
 |some (.int _)=>some .int
 |some .string=>some .str
 |some (.pointer _)=>some .ptr
 |some (.slice _)=>some .sl
 |some (.map _ _)=>some .map
 |some (.func _ _ _)=>some .fn
 |some (.interface _)=>(match x,y with|.const .nilIface,_=>some .c8|_,.const .nilIface=>some .c8|_,_=>some (.zA (Uh P)))
 |some (.struct _)=>if P.eqGuardType P.depth t=false then(nh P 10 t).map .agg else none
 |some (.array _ _)=>if P.eqGuardType P.depth t=false then(nh P 10 t).map .agg else none
 |_=>none
def zH(t:TypeId):Option EK:=
 match P.underlying t with
 |some .bool=>some .bool
 |some (.int _)=>some .int
 |some .string=>some .str
 |_=>none
def ayh(t:TypeId):Bool:=match zeroV P t with|some .nilIface=>true|_=>false
def Ui:Fn->Bool
 |.yield _=>true
 |_=>false
def ayi(a:Array (String×TypeId)):List TypeId:=
 (List.range P.types.size).filter λt=>match P.info? t with
   |some i=>(Instr.missingMethod a i.methods).isNone
   |none=>false
def Cb(a:TypeId)(c:Call):Option I:=
 match c.callee,c.argTypes.toList,c.args.toList with
 |.value f,_,args=>match bI f,ng args with
  |some f,some as=>some (.call f as)
  |_,_=>none
 |.builtin .len,[t],[x]=>match P.underlying t with
  |some .string=>(bI x).map (.len .str)
  |some (.slice _)=>(bI x).map (.len .sl)
  |some (.map _ _)=>(bI x).map (.len .map)
  |_=>none
 |.builtin .append,[st,g],[s,x]=>match P.underlying st with
  |some (.slice e)=>match cx P e,xi P e,bI s,bI x with
   |some sz,some b,some s,some x=>match P.underlying g with
    |some (.slice _)=>if 0<b/\ (gL P e).isSome then some (.append e sz b s x)else none
    |_=>none
   |_,_,_,_=>none
  |_=>none
 |.builtin .copy,[h,_],[d,s]=>match P.underlying h with
  |some (.slice e)=>match cx P e,bI d,bI s with
   |some sz,some d,some s=>some (.copy sz d s)
   |_,_,_=>none
  |_=>none
 |.builtin .clear,[t],[x]=>match P.underlying t with
  |some (.slice e)=>match gL P e,bI x with
   |some z,some x=>some (.clear z x)
   |_,_=>none
  |_=>none
 |.builtin .max,_,xs=>match P.underlying a with
  |some (.int _)=>(ng xs).map .max
  |_=>none
 |.builtin .min,_,xs=>match P.underlying a with
  |some (.int _)=>(ng xs).map .min
  |_=>none
 |.builtin .cap,[t],[x]=>match P.underlying t with
  |some (.slice _)=>(bI x).map (.len .cap)
  |_=>none
 |_,_,_=>none
def kg(rows:Bool)(o:Oper):Option I:=
 match o.op with
 |.move x|.assign x=>(bI x).map .mov
 |.pick c a b=>match bI c,bI a,bI b with
  |some c,some a,some b=>some (.pick c a b)
  |_,_,_=>none
 |.alloc t=>(gL P t).map λz=>.alloc z (rl z t)
 |.box t x=>(bI x).map λx=>.box x ((gL P t).bind λz=>rl z t)
 |.build t ps=>match P.underlying t,gL P t with
  |some (.struct fields),some z=>if fields.toList.all (λf=>(cx P f.type).isSome)then(parts (λi=>match fields[i]? with
    |some f=>(cx P f.type).map λn=>(f.offset,n)
    |none=>none) ps.toList).map (.build z)else none
  |some (.array _ e),some z=>match cx P e with
   |some sz=>(parts (λi=>some (i*sz,sz)) ps.toList).map (.build z)
   |none=>none
  |_,_=>none
 |.buildSlice t len ps=>match P.underlying t with
  |some (.slice e)=>match gL P e with
   |some z=>if len*z.length<=65536/\0<z.length then
      (parts (λi=>some (i*z.length,z.length)) ps.toList).map λps=>if rows then .re e z len ps else .bslice z len ps
    else none
   |none=>none
  |_=>none
 |.load t a=>match my P t,cx P t,bI a with
  |some b,some n,some a=>some (.load b n a)
  |_,_,_=>none
 |.store t a v=>match cx P t,bI a,bI v with
  |some n,some a,some v=>some (.store n a v)
  |_,_,_=>none
 |.nilCheck x=>(bI x).map .nilck
 |.binOp op t x y _=>match bI x,bI y with
  |some p,some j=>match op,P.underlying t with
   |.shl,some (.int _)|.shr,some (.int _)=>some (.shf op p j)
   |.eql,_=>(xk P t x y).map λk=>.eq k p j
   |.neq,_=>(xk P t x y).map λk=>.ne k p j
   |_,some (.int _)|_,some .string=>some (.bin op p j)
   |_,_=>none
  |_,_=>none
 |.unOp op _ x=>(bI x).map (.un op)
 |.convert src dst x=>match P.underlying src,P.underlying dst,bI x with
  |some (.int _),some (.int k),some x=>some (.conv k x)
  |some .string,some (.slice e),some x=>match P.underlying e with
   |some (.int .u8)=>some (.s2b x)
   |_=>none
  |_,_,_=>none
 |.makeInterface t x=>match P.underlying t with
  |some (.interface _)|none=>none
  |some _=>(bI x).map (.mki t)
 |.makeFunc f first cap=>match ng first.toList,ng cap.toList with
  |some a,some b=>if Ui f then none else some (.mkf f a b)
  |_,_=>none
 |.makeMap _ none=>some .nf
 |.makeSlice t l c=>match P.underlying t with
  |some (.slice e)=>match gL P e,xi P e,bI l,bI c with
   |some z,some b,some l,some c=>if 0<z.length/\0<b then some (.B7 e z b l c)else none
   |_,_,_,_=>none
  |_=>none
 |.slice t x lo h d=>match bI x,sQ lo,sQ h,sQ d with
  |some x,some lo,some h,some d=>match P.underlying t with
   |some .string=>if d.isNone then some (.slstr x lo h)else none
   |some (.slice e)=>if d.isNone||h.isSome then(cx P e).map λn=>.slsl n x lo h d else none
   |some (.array n e)=>if d.isNone then(cx P e).map λsz=>.slarr n sz x lo h else none
   |_=>none
  |_,_,_,_=>none
 |.fieldAddr s x f=>match P.underlying s,bI x with
  |some (.struct fields),some x=>match fields[f]? with
   |some g=>match cx P g.type with
    |some n=>if 0<n then some (.faddr g.offset x)else none
    |none=>none
   |none=>none
  |_,_=>none
 |.field s x f=>match P.underlying s,bI x with
  |some (.struct fields),some x=>match fields[f]? with
   |some g=>match my P g.type,cx P g.type with
    |some b,some n=>some (.fld b n g.offset x)
    |_,_=>none
   |none=>none
  |_,_=>none
 |.indexAddr t x i=>match P.underlying t,bI x,bI i with
  |some (.array n e),some x,some i=>(cx P e).map λsz=>.iaddra n sz x i
  |some (.slice e),some x,some i=>(cx P e).map λsz=>.iaddrs sz x i
  |_,_,_=>none
 |.index t x i=>match P.underlying t,bI x,bI i with
  |some (.array n e),some x,some i=>match my P e,cx P e with
   |some b,some sz=>some (.idxa b n sz x i)
   |_,_=>none
  |some .string,some x,some i=>some (.idxs x i)
  |_,_,_=>none
 |.lookup t m k ok=>match P.underlying t with
  |some (.map q u)=>match zH P q,xj P u,bI m,bI k with
   |some r,some z,some m,some k=>some (.lookup r z m k ok)
   |_,_,_,_=>none
  |_=>none
 |.mapUpdate t m k v|.insert t m k v=>match P.underlying t with
  |some (.map q _)=>match zH P q,bI m,bI k,bI v with
   |some r,some m,some k,some v=>some (.om r m k v)
   |_,_,_,_=>none
  |_=>none
 |.typeAssert x _ asserted ok=>match P.underlying asserted,bI x with
  |some (.interface _),some _=>none
  |some _,some x=>match xj P asserted with
   |some z=>some (.ta z x asserted ok)
   |none=>none
  |_,_=>none
 |.extract x i=>(bI x).map λx=>.ext x i
 |.call c=>Cb P o.type c
 |.panic x=>(bI x).map .panic
 |_=>none
def guardOf(a:Array Oper)(o:Oper):Option (Option (Nat×Bool)):=
 match o.guard with
 |none=>some none
 |some (j,want)=>match(a[j]?).bind (·.dst)with
  |some t=>some (some (t,want))
  |none=>none
def im(rows:Bool)(a:Array Oper)(o:Oper):Option aP:=
 match kg P rows o,guardOf a o with
 |some i,some g=>some {g:=g,dst:=o.dst,i:=i}
 |_,_=>none
def kh(rows:Bool)(a:Array Oper):List Oper->Option (List aP)
 | []=>some []
 |o::os=>match im P rows a o,kh rows a os with
  |some x,some xs=>some (x::xs)
  |_,_=>none
def ki(o:Oper):lN:=(o.after.toList.filter (Region.binds .any)).map (·.on)
def zI(a:lN)(n:Nat):lN->Nat
 | []=>0
 |e::es=>Nat.lor (Nat.lor (Nat.shiftLeft 1 e) (if e<n then a.getD (n-1-e) 0 else 0)) (zI a n es)
def sR(a:Array Oper):Nat->lN
 |0=>[]
 |n+1=>zI (sR a n) n (match a[n]? with|some o=>ki o|none=>[])::sR a n
def gM(b:Array Oper)(_:Nat)(i:Nat):lN:=(List.range i).filter λa=>Nat.testBit ((sR b (i+1)).headD 0) a
def FO(b:Region.Mode)(a:Array Oper):lN->lN->Bool
 |_,[]=>true
 |pre,i::rest=>(match a[i]? with|some o=>o.after.toList.all (λe=>!Region.binds b e||pre.contains e.on)|none=>false)&&FO b a (i::pre) rest
def sS(c:Region.Mode)(b:Array Oper)(a:lN):Bool:=(List.range b.size).all (λi=>a.contains i)&&FO c b [] a
def rm(ys:List (aP×Nat))(a:List lN)(y:aP)(j:Nat):lN:=
 if y.i.cls=0 then[]else
 match(ys.filter λ (x,i)=>i<j&&x.i.cls>=1&& !(a.getD j []).contains i).map (·.2)with
 | []=>if y.i.cls=2 then((ys.filter λ (x,i)=>i<j&&x.i.cls=0&& !(a.getD j []).contains i).map (·.2)).take 1 else[]
 |l=>l
def LC{ys:List (aP×Nat)}{a:List lN}{y x:aP}(c: (x,i)∈ys)(b:i<j)(f:x.i.cls≠0)(e:y.i.cls≠0)(d: (a.getD j []).contains i=false):i∈rm ys a y j:=by
 unfold rm;have hm:i∈(ys.filter λ (x,i)=>i<j&&x.i.cls>=1&& !(a.getD j []).contains i).map (·.2):=by
  simp only[ael,aey]
  grind
 grind
def akN{ys:List (aP×Nat)}{b:List lN}{y x:aP}(d: (x,i)∈ys)(c:i<j)(k:y.i.cls=2)(f: (b.getD j []).contains i=false):rm ys b y j≠[]:=by
 intro h;by_cases ci:x.i.cls=0
 ·unfold rm at h;rw[acz (by omega)]at h;split at h
  ·have hm:i∈(ys.filter λ (x,i)=>i<j&&x.i.cls=0&& !(b.getD j []).contains i).map (·.2):=by
     simp only[ael,aey]
     grind
   cases e: (ys.filter λ (x,i)=>i<j&&x.i.cls=0&& !(b.getD j []).contains i).map (·.2)with
   |nil=>grind
   |cons a g=>grind
  grind
 ·have:=LC (y:=y) d c ci (by omega) f
  grind
def LD(a:Array Oper)(xs:List aP):Option (List (aP×lN)):=
 let n:=xs.length
 let before:=(List.range n).map λi=>(gM a 64 i).eraseDups
 let ordered (i j:Nat):Bool:=(before.getD j []).contains i
 let ys:=xs.zipIdx
 if(sS .any a (List.range a.size)&&sS .text a (List.range a.size)&&sS .gc a (Region.linearise .gc a 0))&& (List.range n).all (λi=>match a[i]? with|some o=>(ki o).all (· <i)|none=>false)&&
   ys.all (λ (x,i)=>ys.all λ (y,j)=>i>=j||ordered i j||jN x y)
 then some (ys.map λ (y,j)=>(y,rm ys before y j))
 else none
def eI(rows:Bool)(nt:Nat):Code->Option PC
 |.skip|.label _=>some .skip
 |.seq a b=>match eI rows nt a,eI rows nt b with
  |some a,some b=>some (.seq a b)
  |_,_=>none
 |.cond c a b=>match bI c,eI rows nt a,eI rows nt b with
  |some c,some a,some b=>some (.cond c a b)
  |_,_,_=>none
 |.block id b=>(eI rows nt b).map (.block id)
 |.loop b=>(eI rows nt b).map .loop
 |.exit id=>some (.exit id)
 |.ret=>some .ret
 |.region _ ops draw=>match kh P rows ops ops.toList with
  |some xs=>
   if xs.all (λx=>match x.dst with|some d=>d<nt|none=>true)then
    if draw then(LD ops xs).map .sM else some (.aN xs)
   else none
  |none=>none
 |.rangeFunc g ps assign body=>match bI g,eI rows nt assign,eI rows nt body with
  |some g,some a,some b=>if ps.toList.all (· <nt)then some (.gR g ps.toList a b)else none
  |_,_,_=>none
 |.scope _|.goto _|.refuse _=>none
def ot:List ResultVar->Option (List RV)
 | []=>some []
 |.tmp t::r=>(ot r).map (.t t:: ·)
 |.cell a t::r=>match my P t,cx P t,ot r with
  |some b,some n,some rs=>some (.cell a b n::rs)
  |_,_,_=>none
def Cc(rows:Bool)(fn:Func):Option PF:=
 match fn.body with
 |some c=>match eI P rows fn.ntmps c,ot P fn.results.toList with
  |some b,some rs=>if(fn.name != "runtime.NumGoroutine")then some {ntmps:=fn.ntmps,results:=rs,body:=b}else none
  |_,_=>none
 |none=>none
end
structure Gh where
 bu:Nat->Nat->Option Value
 n:Nat
 ba:Nat->Nat
 base:Nat->Nat
 ai:Nat->Nat
 dV:Nat->Nat
 sz:Nat->Nat
 pz:Nat->Option ae:=λ_=>none
def Gh.on(G:Gh)(i:Nat):Prop:=i<G.n/\G.pz i=none
def leaf:Value->Bool
 |.agg _=>false
 |.tuple _=>false
 |_=>true
def pQ(G:Gh)(b o:Nat)(vs:List Value):Prop:= ∀j v,vs[j]?=some v->G.bu b (o+j)=some v
def Leaves(vs:List Value):Prop:= ∀v∈vs,leaf v=true
def mz(G:Gh):Fn->Fn->Prop
 |.yield l,f=>G.on l/\ (∃k,f= .yield k/\ (G.ai l=0->k=G.ba l))
 |g,f=>f=g
mutual
def ak(G:Gh):AV->Value->Prop
 |.bool b,v=>v= .bool b
 |.int k n,v=>v= .int k n
 |.str s,v=>v= .string s
 |.agg cs,v=> ∃vs:Array Value,v= .agg vs/\aG G cs vs.toList/\Leaves vs.toList
 |.av cs,v=> ∃vs:Array Value,v= .tuple vs/\aG G cs vs.toList
 |.dP,v=>v= .pointer none
 |.ptr id off,v=>G.on id/\ ∃a,v= .pointer (some a)/\ (G.ai id=0->a=⟨G.ba id,off,none⟩)
 |.dc id ai i off,v=>G.on id/\ai<=G.ai id/\ ∃a,v= .pointer (some a)/\ (G.ai id=ai->a=⟨G.ba id,G.base id+i*G.sz id+off,none⟩)
 |.eN cs off,v=> ∃b o vs,v= .pointer (some ⟨b,o+off,none⟩)/\pQ G b o vs/\Leaves vs/\aG G cs vs
 |.dy g,v=>v= .pointer (some ⟨g,0,none⟩)
 |.an,v=>v= .slice none 0 0
 |.sl af cI,v=> ∃b o cap sz vs,v= .slice (some ⟨b,o,none⟩) af.length cap/\af.length<=cap/\ (cI=true->cap=af.length)/\ (∀el∈af,el.length=sz)/\pQ G b o vs/\Leaves vs/\bq G af vs
 |.ref id ai sz off len cI,v=>G.on id/\ai<=G.ai id/\ ∃a cap,v= .slice (some a) len cap/\ (len<=cap/\a.spot=none)/\ (cI=true->cap=len)/\
   (G.ai id=ai->G.sz id=sz/\ (0<cap->a=⟨G.ba id,G.base id+off*sz,none⟩)/\off*sz+cap*sz<=G.dV id)
 |.fa id _ off len,v=>G.on id/\ ∃a cap,v= .slice (some a) len cap/\len<=cap/\ (G.ai id=0->0<cap->a=⟨G.ba id,off,none⟩)
 |.lH,v=>v= .map none
 |.kZ g,v=>(∃r,v= .map (some r))/\G.bu g 0=some v
 |.mp id,v=>G.on id/\ ∃r,v= .map (some r)/\ (G.ai id=0->r=G.ba id)
 |.fn f a b,v=> ∃ (c:Fn) (a' d:Array Value),v= .func c a' d/\mz G f c/\aG G a a'.toList/\aG G b d.toList
 |.dg,v=>v= .nilFunc
 |.c8 t x,v=> ∃y,v= .iface t y/\ak G x y
 |.eC,v=>v= .nilIface
 |.pG,_=>False
def aG(G:Gh):List AV->List Value->Prop
 | [],vs=>vs=[]
 |a::as,vs=> ∃v r,vs=v::r/\ak G a v/\aG G as r
def bq(G:Gh):List (List AV)->List Value->Prop
 | [],vs=>vs=[]
 |a::as,vs=> ∃v r,vs=v++r/\aG G a v/\bq G as r
end
structure Gh.sub(G G':Gh):Prop where
 bu: ∀b o v,G.bu b o=some v->G'.bu b o=some v
 n:G.n<=G'.n
 on: ∀i,G.on i->G'.on i
 ai: ∀i,G.on i->G.ai i<=G'.ai i
 same: ∀i,G.on i->G'.ai i=G.ai i->G'.ba i=G.ba i/\G'.base i=G.base i/\G'.dV i=G.dV i/\G'.sz i=G.sz i
structure Gh.le(G G':Gh):Prop extends toSub:Gh.sub G G' where
 pz: ∀i,i<G.n->G'.pz i=G.pz i
def Gh.le.mk'{G a:Gh}(bu: ∀b o v,G.bu b o=some v->a.bu b o=some v)(n:G.n<=a.n)(pz: ∀i,i<G.n->a.pz i=G.pz i)(ai: ∀i,i<G.n->G.ai i<=a.ai i)
  (same: ∀i,i<G.n->a.ai i=G.ai i->a.ba i=G.ba i/\a.base i=G.base i/\a.dV i=G.dV i/\a.sz i=G.sz i):G.le a:=
 {bu:=bu,n:=n,pz:=pz,on:=λi h=>⟨af2 h.1 n,by rw[pz i h.1];exact h.2⟩,ai:=λi h=>ai i h.1,same:=λi h=>same i h.1}
def Gh.akO(G:Gh):G.sub G:=⟨λ_ _ _ h=>h,aeg _,λ_ h=>h,λ_ _=>aeg _,λ_ _ _=>⟨rfl,rfl,rfl,rfl⟩⟩
theorem Gh.le_refl(G:Gh):G.le G:={G.akO with pz:=λ_ _=>rfl}
def Gh.Uj{f c d:Gh}(h:f.sub c)(k:c.sub d):f.sub d where
 bu b o v e:=k.bu b o v (h.bu b o v e)
 n:=afI h.n k.n
 on i g:=k.on i (h.on i g)
 ai i g:=afI (h.ai i g) (k.ai i (h.on i g))
 same i g e:=by
  have a:=h.ai i g;have b:=k.ai i (h.on i g);have e1:c.ai i=f.ai i:=by omega
  have j:d.ai i=c.ai i:=by omega
  obtain⟨u,t,s,r⟩:=h.same i g e1;obtain⟨q,p,m,l⟩:=k.same i (h.on i g) j;omega
def Gh.le_trans{c b a:Gh}(h:c.le b)(k:b.le a):c.le a:=
 {Gh.Uj h.toSub k.toSub with pz:=λi d=>(k.pz i (af2 d h.n)).trans (h.pz i d)}
def pQ.dt{G a:Gh}(h:G.sub a){o:Nat}(f:pQ G b o vs):pQ a b o vs:=λj v e=>h.bu _ _ _ (f j v e)
def mz.dt{G b:Gh}(h:G.sub b){f g:Fn}(r:mz G f g):mz b f g:=by
 cases f<;>simp only[mz]at* <;>try exact r
 obtain⟨a,k,e,c⟩:=r;refine⟨h.on _ a,k,e,λi=>?_⟩;have d:=h.ai _ a;rw[(h.same _ a (by omega)).1];omega
mutual
theorem ak.dt{G z:Gh}(h:G.sub z): ∀ (x:AV) (v:Value),ak G x v->ak z x v
 |.bool _,_,r=>by simpa[ak]using r
 |.int _ _,_,r=>by simpa[ak]using r
 |.str _,_,r=>by simpa[ak]using r
 |.agg cs,_,r=>by
  simp only[ak]at*;obtain⟨vs,e,l,d⟩:=r;exact⟨vs,e,aG.dt h cs _ l,d⟩
 |.av cs,_,r=>by
  simp only[ak]at*;obtain⟨vs,e,l⟩:=r;exact⟨vs,e,aG.dt h cs _ l⟩
 |.dP,_,r=>by simpa[ak]using r
 |.ptr id off,_,r=>by
  simp only[ak]at*;obtain⟨a,x,e,c⟩:=r;refine⟨h.on _ a,x,e,λn=>?_⟩;have m:=h.ai id a;rw[(h.same id a (by omega)).1];exact c (by omega)
 |.dc id ai i off,_,r=>by
  simp only[ak]at*;obtain⟨a,b,x,e,c⟩:=r;have m:=h.ai id a;refine⟨h.on _ a,by omega,x,e,λn=>?_⟩;obtain⟨s,q,w,p⟩:=h.same id a (by omega);rw[s,q,p];exact c (by omega)
 |.eN cs off,_,r=>by
  simp only[ak]at*;obtain⟨b,o,vs,e,f,d,l⟩:=r;exact⟨b,o,vs,e,f.dt h,d,aG.dt h cs _ l⟩
 |.dy _,_,r=>by simpa[ak]using r
 |.an,_,r=>by simpa[ak]using r
 |.sl af cI,_,r=>by
  simp only[ak]at*;obtain⟨b,o,cap,sz,vs,e,k,j,u,f,d,l⟩:=r;exact⟨b,o,cap,sz,vs,e,k,j,u,f.dt h,d,bq.dt h af _ l⟩
 |.ref id ai sz off len cI,_,r=>by
  simp only[ak]at*;obtain⟨a,b,x,cap,e,k,j,u⟩:=r;have m:=h.ai id a;refine⟨h.on _ a,by omega,x,cap,e,k,j,λn=>?_⟩;obtain⟨s,q,w,p⟩:=h.same id a (by omega);rw[s,q,w,p];exact u (by omega)
 |.fa id sz off len,_,r=>by
  simp only[ak]at*;obtain⟨a,x,cap,e,k,j⟩:=r;have m:=h.ai id a;refine⟨h.on _ a,x,cap,e,k,λn D=>?_⟩;rw[(h.same id a (by omega)).1];exact j (by omega) D
 |.lH,_,r=>by simpa[ak]using r
 |.kZ g,_,r=>by
  simp only[ak]at*;exact⟨r.1,h.bu _ _ _ r.2⟩
 |.mp id,_,r=>by
  simp only[ak]at*;obtain⟨a,x,e,c⟩:=r;have m:=h.ai id a;refine⟨h.on _ a,x,e,λn=>?_⟩;rw[(h.same id a (by omega)).1];exact c (by omega)
 |.fn f a b,_,r=>by
  simp only[ak]at*;obtain⟨E,a',F,e,A,C,B⟩:=r;exact⟨E,a',F,e,A.dt h,aG.dt h a _ C,aG.dt h b _ B⟩
 |.dg,_,r=>by simpa[ak]using r
 |.c8 t x,_,r=>by
  simp only[ak]at*;obtain⟨y,e,l⟩:=r;exact⟨y,e,ak.dt h x _ l⟩
 |.eC,_,r=>by simpa[ak]using r
 |.pG,_,r=>by simp[ak]at r
theorem aG.dt{G b:Gh}(h:G.sub b): ∀ (xs:List AV) (vs:List Value),aG G xs vs->aG b xs vs
 | [],_,r=>by simpa[aG]using r
 |a::as,_,r=>by
  simp only[aG]at*;obtain⟨v,q,e,d,c⟩:=r;exact⟨v,q,e,ak.dt h a _ d,aG.dt h as _ c⟩
theorem bq.dt{G b:Gh}(h:G.sub b): ∀ (xs:List (List AV)) (vs:List Value),bq G xs vs->bq b xs vs
 | [],_,r=>by simpa[bq]using r
 |a::as,_,r=>by
  simp only[bq]at*;obtain⟨v,q,e,d,c⟩:=r;exact⟨v,q,e,aG.dt h a _ d,bq.dt h as _ c⟩
end
def ak.mono{G a:Gh}(h:G.le a)(x:AV)(v:Value)(r:ak G x v):ak a x v:=ak.dt h.toSub x v r
def aG.mono{G a:Gh}(h:G.le a)(xs:List AV)(vs:List Value)(r:aG G xs vs):aG a xs vs:=aG.dt h.toSub xs vs r
def bq.mono{G a:Gh}(h:G.le a)(xs:List (List AV))(vs:List Value)(r:bq G xs vs):bq a xs vs:=bq.dt h.toSub xs vs r
theorem aG.length{G:Gh}: ∀ {xs:List AV} {vs:List Value},aG G xs vs->vs.length=xs.length
 | [],_,r=>by simp only[aG]at r;simp[r]
 |_::as,_,r=>by
  obtain⟨v,q,rfl,_,a⟩:=r;simp[aG.length a]
theorem aG.get{G:Gh}: ∀ {xs:List AV} {vs:List Value},aG G xs vs-> ∀ (j:Nat) (x:AV),xs[j]?=some x-> ∃v,vs[j]?=some v/\ak G x v
 | [],_,_,_,_,e=>by grind
 |a::as,_,r,j,x,e=>by
  obtain⟨v,q,rfl,d,b⟩:=r;cases j with
  |zero=>grind
  |succ j=>obtain⟨u,hu,c⟩:=aG.get b j x e;grind
theorem aG.LF{G:Gh}: ∀ {xs:List AV} {vs:List Value},vs.length=xs.length->(∀ (j:Nat) (x:AV) (v:Value),xs[j]?=some x->vs[j]?=some v->ak G x v)->aG G xs vs
 | [],vs,b,_=>by cases vs<;>simp_all[aG]
 |a::as,vs,b,h=>by
  cases vs with
  |nil=>grind
  |cons v vs=>
   refine⟨v,vs,rfl,h 0 a v (by simp) (by simp),aG.LF (by grind) λj x u c hu=>h (j+1) x u (by grind) (by grind)⟩
theorem aG.append{G:Gh}: ∀ {xs ys:List AV} {vs us:List Value},aG G xs vs->aG G ys us->aG G (xs++ys) (vs++us)
 | [],_,_,_,r,k=>by simp only[aG]at r;grind
 |a::as,_,_,_,r,k=>by
  obtain⟨v,q,rfl,c,b⟩:=r;exact⟨v,q++_,rfl,c,aG.append b k⟩
theorem aG.split{G:Gh}: ∀ {xs ys:List AV} {vs:List Value},aG G (xs++ys) vs-> ∃v1 v2,vs=v1++v2/\aG G xs v1/\aG G ys v2
 | [],_,vs,r=>⟨[],vs,rfl,by rfl,r⟩
 |a::as,_,_,r=>by
  obtain⟨v,q,rfl,e,d⟩:=r;obtain⟨v1,v2,rfl,c,b⟩:=aG.split d;exact⟨v::v1,v2,rfl,⟨v,v1,rfl,e,c⟩,b⟩
theorem aG.take{G:Gh}{xs:List AV}(r:aG G xs vs)(n:Nat):aG G (xs.take n) (vs.take n):=
 .LF (by simp[r.length]) λj x v a b=>by
  rw[akr]at a b;split at a
  ·obtain⟨u,hu,c⟩:=r.get j x a
   grind
  grind
theorem aG.drop{G:Gh}{xs:List AV}(r:aG G xs vs)(n:Nat):aG G (xs.drop n) (vs.drop n):=
 .LF (by simp[r.length]) λj x v a b=>by
  rw[ajQ]at a b;obtain⟨u,hu,c⟩:=r.get _ x a
  grind
theorem bq.iff{G:Gh}: ∀ {af:List (List AV)} {vs:List Value},bq G af vs↔aG G af.flatten vs
 | [],_=>by rfl
 |a::as,vs=>by
  constructor
  ·rintro⟨v,r,rfl,e,d⟩;exact e.append (bq.iff.1 d)
  ·intro h;obtain⟨v1,v2,rfl,c,b⟩:=aG.split h;exact⟨v1,v2,rfl,c,bq.iff.2 b⟩
def aG.single{G:Gh}{x:AV}:aG G [x] [v]↔ak G x v:=by simp[aG]
def Leaves.append{a b:List Value}(h:Leaves a)(k:Leaves b):Leaves (a++b):=λv c=>(ac8.1 c).elim (h v) (k v)
theorem Leaves.take{a:List Value}(h:Leaves a)(n:Nat):Leaves (a.take n):=λv b=>h v (afZ b)
theorem Leaves.drop{a:List Value}(h:Leaves a)(n:Nat):Leaves (a.drop n):=λv b=>h v (am3 b)
theorem ak.cells{G:Gh}{x:AV}(r:ak G x v)(h:x.cm=false):aG G x.cells v.cells.toList/\Leaves v.cells.toList:=by
 cases x<;>simp[AV.cm]at h<;>simp only[AV.cells]
 case agg cs=>
  obtain⟨vs,rfl,l,b⟩:=r;exact⟨l,b⟩
 all_goals
  have a:=r;simp only[ak]at r
  first
   |rfl
   | (obtain⟨_,_,rfl,_⟩:=r;exact⟨aG.single.2 a,by simp[Leaves,Value.cells,leaf]⟩)
   | (obtain⟨_,rfl,_⟩:=r;exact⟨aG.single.2 a,by simp[Leaves,Value.cells,leaf]⟩)
   | (obtain⟨_,_,_,rfl,_⟩:=r;exact⟨aG.single.2 a,by simp[Leaves,Value.cells,leaf]⟩)
   | (obtain⟨_,_,_,_,rfl,_⟩:=r;exact⟨aG.single.2 a,by simp[Leaves,Value.cells,leaf]⟩)
   | (obtain⟨_,_,_,_,_,rfl,_⟩:=r;exact⟨aG.single.2 a,by simp[Leaves,Value.cells,leaf]⟩)
   | (obtain⟨⟨_,rfl⟩,_⟩:=r;exact⟨aG.single.2 a,by simp[Leaves,Value.cells,leaf]⟩)
mutual
theorem ak.refs{G:Gh}: ∀ (x:AV) (v:Value),ak G x v->x.refs<=G.n
 |.bool _,_,_|.int _ _,_,_|.str _,_,_|.dP,_,_|.dy _,_,_|.an,_,_|.lH,_,_|.kZ _,_,_|.dg,_,_|.eC,_,_|.pG,_,_=>by simp[AV.refs]
 |.agg cs,_,r=>by simp only[ak]at r;obtain⟨vs,_,l,_⟩:=r;simp only[AV.refs];exact aG.refs cs _ l
 |.av cs,_,r=>by simp only[ak]at r;obtain⟨vs,_,l⟩:=r;simp only[AV.refs];exact aG.refs cs _ l
 |.ptr id off,_,r=>by simp only[ak]at r;have:=r.1.1;simp only[AV.refs];omega
 |.dc id ai i off,_,r=>by simp only[ak]at r;have:=r.1.1;simp only[AV.refs];omega
 |.ref id ai sz off len cI,_,r=>by simp only[ak]at r;have:=r.1.1;simp only[AV.refs];omega
 |.fa id sz off len,_,r=>by simp only[ak]at r;have:=r.1.1;simp only[AV.refs];omega
 |.mp id,_,r=>by simp only[ak]at r;have:=r.1.1;simp only[AV.refs];omega
 |.eN cs off,_,r=>by simp only[ak]at r;obtain⟨b,o,vs,_,_,_,l⟩:=r;simp only[AV.refs];exact aG.refs cs _ l
 |.sl af cI,_,r=>by simp only[ak]at r;obtain⟨b,o,cap,sz,vs,_,_,_,_,_,_,l⟩:=r;simp only[AV.refs];exact bq.refs af _ l
 |.fn f a b,_,r=>by
  simp only[ak]at r;obtain⟨j,a',k,_,c,e,d⟩:=r;have h:=aG.refs a _ e;have g:=aG.refs b _ d;simp only[AV.refs];cases f<;>simp only[mz]at c<;>simp only<;>first|omega| (have:=c.1.1;omega)
 |.c8 t x,_,r=>by simp only[ak]at r;obtain⟨y,_,l⟩:=r;simp only[AV.refs];exact ak.refs x _ l
theorem aG.refs{G:Gh}: ∀ (xs:List AV) (vs:List Value),aG G xs vs->aI xs<=G.n
 | [],_,_=>by simp[aI]
 |a::as,_,r=>by
  simp only[aG]at r;obtain⟨v,q,_,c,b⟩:=r;have:=ak.refs a _ c;have:=aG.refs as _ b;simp only[aI];omega
theorem bq.refs{G:Gh}: ∀ (xs:List (List AV)) (vs:List Value),bq G xs vs->bT xs<=G.n
 | [],_,_=>by simp[bT]
 |a::as,_,r=>by
  simp only[bq]at r;obtain⟨v,q,_,c,b⟩:=r;have:=aG.refs a _ c;have:=bq.refs as _ b;simp only[bT];omega
end
structure Gh.dQ(m:Nat)(G G':Gh):Prop where
 bu: ∀b o v,G.bu b o=some v->G'.bu b o=some v
 n:m<=G'.n
 pz: ∀i,i<m->G'.pz i=G.pz i
 ai: ∀i,i<m->G'.ai i=G.ai i
 ba: ∀i,i<m->G'.ba i=G.ba i
 base: ∀i,i<m->G'.base i=G.base i
 dV: ∀i,i<m->G'.dV i=G.dV i
 sz: ∀i,i<m->G'.sz i=G.sz i
mutual
theorem ak.dQ{m:Nat}{G n:Gh}(h:G.dQ m n): ∀ (x:AV) (v:Value),ak G x v->x.refs<=m->ak n x v
 |.bool _,_,r,_|.int _ _,_,r,_|.str _,_,r,_|.dP,_,r,_|.dy _,_,r,_|.an,_,r,_|.lH,_,r,_|.dg,_,r,_|.eC,_,r,_=>by simpa[ak]using r
 |.pG,_,r,_=>by simp[ak]at r
 |.kZ g,_,r,_=>by
  simp only[ak]at*;exact⟨r.1,h.bu _ _ _ r.2⟩
 |.agg cs,_,r,hm=>by
  simp only[ak,AV.refs]at*;obtain⟨vs,e,l,c⟩:=r;exact⟨vs,e,aG.dQ h cs _ l hm,c⟩
 |.av cs,_,r,hm=>by
  simp only[ak,AV.refs]at*;obtain⟨vs,e,l⟩:=r;exact⟨vs,e,aG.dQ h cs _ l hm⟩
 |.ptr id off,_,r,hm=>by
  simp only[ak,AV.refs]at*;rw[h.ai id (by omega),h.ba id (by omega)];exact⟨⟨af2 (by omega) h.n,by rw[h.pz id (by omega)];exact r.1.2⟩,r.2⟩
 |.dc id ai i off,_,r,hm=>by
  simp only[ak,AV.refs]at*;rw[h.ai id (by omega),h.ba id (by omega),h.base id (by omega),h.sz id (by omega)];exact⟨⟨af2 (by omega) h.n,by rw[h.pz id (by omega)];exact r.1.2⟩,r.2⟩
 |.eN cs off,_,r,hm=>by
  simp only[ak,AV.refs]at*;obtain⟨b,o,vs,e,f,c,l⟩:=r;exact⟨b,o,vs,e,λj v d=>h.bu _ _ _ (f j v d),c,aG.dQ h cs _ l hm⟩
 |.sl af cI,_,r,hm=>by
  simp only[ak,AV.refs]at*;obtain⟨b,o,cap,sz,vs,e,z,w,u,f,c,l⟩:=r;exact⟨b,o,cap,sz,vs,e,z,w,u,λj v d=>h.bu _ _ _ (f j v d),c,bq.dQ h af _ l hm⟩
 |.ref id ai sz off len cI,_,r,hm=>by
  simp only[ak,AV.refs]at*;rw[h.ai id (by omega),h.ba id (by omega),h.base id (by omega),h.sz id (by omega),h.dV id (by omega)];exact⟨⟨af2 (by omega) h.n,by rw[h.pz id (by omega)];exact r.1.2⟩,r.2⟩
 |.fa id sz off len,_,r,hm=>by
  simp only[ak,AV.refs]at*;rw[h.ai id (by omega),h.ba id (by omega)];exact⟨⟨af2 (by omega) h.n,by rw[h.pz id (by omega)];exact r.1.2⟩,r.2⟩
 |.mp id,_,r,hm=>by
  simp only[ak,AV.refs]at*;rw[h.ai id (by omega),h.ba id (by omega)];exact⟨⟨af2 (by omega) h.n,by rw[h.pz id (by omega)];exact r.1.2⟩,r.2⟩
 |.fn f a b,_,r,hm=>by
  simp only[ak,AV.refs]at*;obtain⟨s,a',A,e,k,q,p⟩:=r;refine⟨s,a',A,e,?_,aG.dQ h a _ q (by omega),aG.dQ h b _ p (by omega)⟩;cases f<;>simp only[mz]at* <;>try exact k
  rename_i l;rw[h.ai l (by omega),h.ba l (by omega)];exact⟨⟨af2 (by omega) h.n,by rw[h.pz l (by omega)];exact k.1.2⟩,k.2⟩
 |.c8 t x,_,r,hm=>by
  simp only[ak,AV.refs]at*;obtain⟨y,e,l⟩:=r;exact⟨y,e,ak.dQ h x _ l hm⟩
theorem aG.dQ{m:Nat}{G b:Gh}(h:G.dQ m b): ∀ (xs:List AV) (vs:List Value),aG G xs vs->aI xs<=m->aG b xs vs
 | [],_,r,_=>by simpa[aG]using r
 |a::as,_,r,hm=>by
  simp only[aG,aI]at*;obtain⟨v,q,e,d,c⟩:=r;exact⟨v,q,e,ak.dQ h a _ d (by omega),aG.dQ h as _ c (by omega)⟩
theorem bq.dQ{m:Nat}{G b:Gh}(h:G.dQ m b): ∀ (xs:List (List AV)) (vs:List Value),bq G xs vs->bT xs<=m->bq b xs vs
 | [],_,r,_=>by simpa[bq]using r
 |a::as,_,r,hm=>by
  simp only[bq,bT]at*;obtain⟨v,q,e,d,c⟩:=r;exact⟨v,q,e,aG.dQ h a _ d (by omega),bq.dQ h as _ c (by omega)⟩
end
def ae.le(n:Nat):ae->Prop
 |.box cs _=>aI cs<=n
 |.row _ _ _ af=>bT af<=n
 |.map es=> ∀p∈es,p.2.refs<=n
 |.loop _ _ _ env _ _ _=> ∀t,(env t).refs<=n
 |_=>True
theorem ae.le.mono{n a:Nat}(h:n<=a): ∀ {o:ae},o.le n->o.le a
 |.box _ _,r=>afI r h
 |.row _ _ _ _,r=>afI r h
 |.map _,r=>λp b=>afI (r p b) h
 |.loop _ _ _ _ _ _ _,r=>λt=>afI (r t) h
 |.fj,_|.dead,_=>trivial
def xl:Option PC->Option Code->Prop
 |none,c=>c=none
 |some .ret,c=>c=some .ret
 |some (.exit id),c=>c=some (.exit id)
 |_,_=>False
structure cL(G:Gh)(nt:Nat)(e:Env)(tmps:Array Value):Prop where
 size:tmps.size=nt
 get: ∀t v,tmps[t]?=some v->ak G (e t) v
 out: ∀t,nt<=t->e t= .undef
theorem cL.refs{G:Gh}{e:Env}{a:Array Value}(h:cL G nt e a)(t:Nat): (e t).refs<=G.n:=by
 by_cases b:t<nt
 ·have:t<a.size:=by rw[h.size];exact b
  exact ak.refs _ _ (h.get t a[t] (by simp))
 ·rw[h.out t (by omega)];simp[AV.refs,aI]
theorem cL.dt{G b:Gh}(h:G.sub b){e:Env}{a:Array Value}(r:cL G nt e a):cL b nt e a:=
 ⟨r.size,λt v c=>(r.get t v c).dt h,r.out⟩
def cL.mono{G b:Gh}(h:G.le b){e:Env}{a:Array Value}(r:cL G nt e a):cL b nt e a:=r.dt h.toSub
theorem cL.dQ{G b:Gh}(h:G.dQ m b){e:Env}{a:Array Value}(r:cL G nt e a)(d: ∀t,(e t).refs<=m):cL b nt e a:=
 ⟨r.size,λt v c=>(r.get t v c).dQ h _ _ (d t),r.out⟩
def fB(G:Gh):List (AV×AV)->List MapEntry->Prop
 | [],ms=>ms=[]
 | (k,v)::es,ms=> ∃m r,ms=m::r/\isKey k=true/\ak G k m.key/\ak G v m.val/\fB G es r
theorem fB.dt{G a:Gh}(h:G.sub a): ∀ {es:List (AV×AV)} {ms:List MapEntry},fB G es ms->fB a es ms
 | [],_,r=>by trivial
 | (k,v)::es,_,r=>by
   obtain⟨m,q,e,f,d,c,b⟩:=r;exact⟨m,q,e,f,d.dt h,c.dt h,b.dt h⟩
def akP{k:AV}(h:isKey k=true):k.refs=0:=by cases k<;>simp[isKey]at h<;>simp[AV.refs]
theorem fB.dQ{m:Nat}{G b:Gh}(h:G.dQ m b): ∀ {es:List (AV×AV)} {ms:List MapEntry},fB G es ms->(∀p∈es,p.2.refs<=m)->fB b es ms
 | [],_,r,_=>by trivial
 | (k,v)::es,_,r,hm=>by
   obtain⟨e,q,he,a,f,d,c⟩:=r;exact⟨e,q,he,a,f.dQ h _ _ (by simp[akP a]),d.dQ h _ _ (hm (k,v) (by simp)),c.dQ h λp g=>hm p (by grind)⟩
def ak.ayj{G:Gh}{id off:Nat}(r:ak G (.ptr id off) v):G.pz id=none:=by exact r.1.2
def ak.ayk{G:Gh}{id off:Nat}(r:ak G (.dc id ai i off) v):G.pz id=none:=by exact r.1.2
def ak.LG{G:Gh}{id off len:Nat}{c:Bool}(r:ak G (.ref id ai sz off len c) v):G.pz id=none:=by exact r.1.2
def ak.akQ{G:Gh}{id off len:Nat}(r:ak G (.fa id sz off len) v):G.pz id=none:=by exact r.1.2
def ak.FQ{G:Gh}{id:Nat}(r:ak G (.mp id) v):G.pz id=none:=by exact r.1.2
variable(P:Program)
def iq(G:Gh)(id:Nat)(w:World):ae->Prop
 |.box cs tg=>G.ai id=0/\ ∃ (c:Array Value) (ty:TypeId),w.heap[G.ba id]?=some (.cells c ty (0,0))/\aG G cs c.toList/\Leaves c.toList/\ ∀t,tg=some t->ty=t
 |.row ai sz ty af=>G.ai id=ai/\G.sz id=sz/\ (∀el∈af,el.length=sz)/\ ∃ (c:Array Value) (pre vs post:List Value),w.heap[G.ba id]?=some (.cells c ty (0,0))/\
   c.toList=pre++(vs++post)/\pre.length=G.base id/\c.size=G.base id+G.dV id/\bq G af vs/\Leaves vs
 |.map es=>G.ai id=0/\ ∃ms clock,w.heap[G.ba id]?=some (.map ms clock)/\fB G es ms.toList
 |.loop st a fn env ps as bd=>G.ai id=0/\ ∃L:Loop,w.heap[G.ba id]?=some (.loop L)/\L.state=st/\xl a L.pending/\True/\cL G L.tmps.size env L.tmps/\L.params.toList=ps/\
   ps.all (· <L.tmps.size)=true/\ ∃rows,eI P rows L.tmps.size L.assign=some as/\eI P rows L.tmps.size L.body=some bd
 |.fj=>G.ai id=0/\w.heap[G.ba id]?=some (.deferred (some []))
 |.dead=>True
structure aY(B:Nat)(ax:World)(G:Gh)(E:AS)(w:World):Prop where
 len:G.n=E.heap.length
 bu: ∀b o v,G.bu b o=some v->w.cell? ⟨b,o,none⟩=some v
 obj: ∀ (id:Nat) (o:ae),E.heap[id]?=some o->G.pz id=none->iq P G id w o
 inj: ∀i j,G.on i->G.on j->G.ba i=G.ba j->i=j
 sep: ∀i,G.on i-> ∀o,G.bu (G.ba i) o=none
 low: ∀i,G.on i->B<=G.ba i/\G.ba i<w.heap.size
 la:Below B ax w
 hB:B<=w.heap.size
 lb: ∀id o,id<G.n->G.pz id=some o->E.heap[id]?=some o/\ ∃z tg,o= .box z tg/\aI z=0
 dD: ∀b o v,b<B->ax.cell? ⟨b,o,none⟩=some v->G.bu b o=some v
def aY.xm{B:Nat}{a:World}{G:Gh}{E:AS}(h:aY P B a G E w){o:Nat}(e:G.bu b o=some v):b<w.heap.size:=by
 have:=h.bu b o v e;simp only[World.cell?]at this
 grind
variable{P}
theorem fB.refs{G:Gh}: ∀ {es:List (AV×AV)} {ms:List MapEntry},fB G es ms-> ∀p∈es,p.2.refs<=G.n
 | [],_,_,_,a=>by grind
 | (k,v)::es,_,r,p,a=>by
   obtain⟨m,q,_,_,_,c,b⟩:=r;rcases aeB.1 a with rfl|a
   ·exact ak.refs _ _ c
   ·exact fB.refs b p a
theorem iq.le{G:Gh}{id:Nat}{w:World}: ∀ {o:ae},iq P G id w o->o.le G.n
 |.box _ _,r=>by obtain⟨_,c,ty,_,l,_⟩:=r;exact aG.refs _ _ l
 |.row _ _ _ _,r=>by obtain⟨_,_,_,c,pre,vs,post,_,_,_,_,l,_⟩:=r;exact bq.refs _ _ l
 |.map es,r=>by obtain⟨_,ms,clock,_,l⟩:=r;exact l.refs
 |.loop _ _ _ _ _ _ _,r=>by obtain⟨_,L,_,_,_,_,he,_⟩:=r;exactλt=>he.refs t
 |.fj,_|.dead,_=>trivial
def aY.akR{B:Nat}{a:World}{G:Gh}{E:AS}(h:aY P B a G E w){id:Nat}{o:ae}(e:E.heap[id]?=some o):o.le G.n:=by
 cases c:G.pz id with
 |none=>exact(h.obj id o e c).le
 |some o'=>
  obtain⟨b,z,tg,rfl,d⟩:=h.lb id o' (by rw[h.len];grind) c;rw[e]at b;cases b;simp only[ae.le,d];omega
theorem iq.dt{G d:Gh}(h:G.sub d){id:Nat}(j:G.on id)(g:d.ai id=G.ai id)(i:w'.heap[G.ba id]?=w.heap[G.ba id]?): ∀ {o:ae},iq P G id w o->iq P d id w' o:=by
 obtain⟨k,x,v,u⟩:=h.same id j g;intro o r;cases o with
 |box cs tg=>
  obtain⟨b,c,ty,e,l,a⟩:=r;exact⟨by omega,c,ty,by grind,l.dt h,a⟩
 |row ai sz ty af=>
  obtain⟨b,e1,hu,c,pre,vs,post,e,m,e3,y,l,a⟩:=r;exact⟨by omega,by omega,hu,c,pre,vs,post,by grind,m,by omega,by omega,l.dt h,a⟩
 |map es=>
  obtain⟨b,ms,clock,e,l⟩:=r;exact⟨by omega,ms,clock,by grind,l.dt h⟩
 |loop st f fn env ps as bd=>
  obtain⟨b,L,e,t,s,q,p,n⟩:=r;exact⟨by omega,L,by grind,t,s,q,p.dt h,n⟩
 |fj=>exact⟨by rw[g];exact r.1,by rw[k,i];exact r.2⟩
 |dead=>trivial
def iq.mono{G a:Gh}(h:G.le a){id:Nat}(d:G.on id)(c:a.ai id=G.ai id)(b:w'.heap[G.ba id]?=w.heap[G.ba id]?){o:ae}(r:iq P G id w o):iq P a id w' o:=r.dt h.toSub d c b
theorem iq.dQ{G g:Gh}(h:G.dQ m g){id:Nat}(a:id<m)(i:w'.heap[G.ba id]?=w.heap[G.ba id]?): ∀ {o:ae},iq P G id w o->o.le m->iq P g id w' o:=by
 have k:=h.ba id a;have y:=h.base id a;have x:=h.dV id a;have v:=h.sz id a;have j:=h.ai id a;intro o r hm;cases o with
 |box cs tg=>
  obtain⟨d,c,ty,e,l,b⟩:=r;exact⟨by omega,c,ty,by grind,aG.dQ h _ _ l hm,b⟩
 |row ai sz ty af=>
  obtain⟨d,e1,hu,c,pre,vs,post,e,n,e3,z,l,b⟩:=r;exact⟨by omega,by omega,hu,c,pre,vs,post,by grind,n,by omega,by omega,bq.dQ h _ _ l hm,b⟩
 |map es=>
  obtain⟨d,ms,clock,e,l⟩:=r;exact⟨by omega,ms,clock,by grind,l.dQ h hm⟩
 |loop st f fn env ps as bd=>
  obtain⟨d,L,e,u,t,s,q,p⟩:=r;exact⟨by omega,L,by grind,u,t,s,q.dQ h hm,p⟩
 |fj=>exact⟨by rw[j];exact r.1,by rw[k,i];exact r.2⟩
 |dead=>trivial
section
def zJ(lo:oN)(j:Nat):Prop:= ∃l,lo=some l/\l<=j
structure AS.Ext(E E':AS):Prop where
 len:E.heap.length<=E'.heap.length
 lo: ∀j,zJ E.lo j->zJ E'.lo j
 obj: ∀ (j:Nat) (o:ae),E.heap[j]?=some o-> ∃o',E'.heap[j]?=some o'/\ ((∀n,o.le n->o'.le (max n (j+1)))\/zJ E'.lo j)
def AS.Ext.refl(E:AS):E.Ext E:=⟨aeg _,λ_ h=>h,λ_ o h=>⟨o,h,.inl λ_ k=>k.mono (by omega)⟩⟩
def AS.Ext.trans{a b c:AS}(h:a.Ext b)(k:b.Ext c):a.Ext c where
 len:=afI h.len k.len
 lo j x:=k.lo j (h.lo j x)
 obj j o e:=by
  obtain⟨i,m,d⟩:=h.obj j o e;obtain⟨g,l,f⟩:=k.obj j i m;refine⟨g,l,?_⟩;rcases f with f|f
  ·rcases d with d|d
   ·grind
   ·exact .inr (k.lo j d)
  grind
theorem AS.Ext.push(E:AS)(o:ae):E.Ext (E.push o)where
 len:=by simp[AS.push]
 lo _ h:=h
 obj j x e:=⟨x,by
  have:j<E.heap.length:=(abQ.1 e).1;simp[AS.push,abP this,e],.inl λ_ k=>k.mono (by omega)⟩
def zK{lo:oN}{id:Nat}(h:zJ lo j\/id<=j):zJ (cK lo id) j:=by
 cases lo with
 |none=>
  rcases h with⟨l,e,_⟩|h
  ·cases e
  ·exact⟨id,rfl,h⟩
 |some a=>
  refine⟨Nat.min a id,by simp[cK,Nat.min_comm],?_⟩;rcases h with⟨l,e,b⟩|h
  ·grind
  grind
theorem AS.Ext.set{E:AS}{id:Nat}{o o':ae}{refs:Nat}(d:E.heap[id]?=some o)(h: ∀n,o.le n->refs<=n->o'.le n):E.Ext (E.set id o' refs)where
 len:=by simp[AS.set]
 lo j x:=by
  simp only[AS.set];split
  ·exact x
  ·exact zK (.inl x)
 obj j x e:=by
  by_cases b:j=id
  ·subst b;obtain rfl:o=x:=by grind
   have a:j<E.heap.length:=(abQ.1 e).1;refine⟨o',by simp[AS.set,a],?_⟩;simp only[AS.set];split
   ·exact .inl λn c=>h _ (c.mono (by omega)) (by omega)
   ·simp_all[zK,aeg]
  ·exact⟨x,by simp[AS.set,abN (λh=>b h.symm),e],.inl λ_ k=>k.mono (by omega)⟩
def Below.akS{B:Nat}{ax:World}(h:Below B ax w)(ho:w'.os=w.os)(b:w'.tape=w.tape)(a:w'.output=w.output)(c:w.heap.size<=w'.heap.size)
 (d: ∀k,k<B->w'.heap[k]?=w.heap[k]?):Below B ax w':=h.trans ⟨ho,b,a,c,d⟩
variable{P:Program}{B:Nat}{ax:World}
def Gh.push(G:Gh)(b:Nat)(dV sz:Nat):Gh:=
 {G with n:=G.n+1,ba:=λi=>if i=G.n then b else G.ba i,base:=λi=>if i=G.n then 0 else G.base i,
         ai:=λi=>if i=G.n then 0 else G.ai i,dV:=λi=>if i=G.n then dV else G.dV i,sz:=λi=>if i=G.n then sz else G.sz i,pz:=λi=>if i=G.n then none else G.pz i}
def Gh.zL(G:Gh)(b dV sz:Nat):G.le (G.push b dV sz):=
 .mk' (λ_ _ _ h=>h) (by simp[Gh.push]) (λi a=>by simp[Gh.push,avV a]) (λi a=>by simp[Gh.push,avV a]) (λi a _=>by simp[Gh.push,avV a])
def Gh.FR{G:Gh}{dV:Nat}(h: (G.push b dV sz).on i):i=G.n\/ (i≠G.n/\G.on i):=by
 obtain⟨c,a⟩:=h;simp only[Gh.push]at c a;by_cases e:i=G.n
 ·omega
 ·rw[acz e]at a;exact .inr ⟨e,by omega,a⟩
def cell?_alloc_old{o:Obj}(h:b<w.heap.size): (w.alloc o).cell? ⟨b,k,none⟩=w.cell? ⟨b,k,none⟩:=World.cell?_alloc_lt w o ⟨b,k,none⟩ h
theorem aY.push{G:Gh}{E:AS}(h:aY P B ax G E w)(O:Obj)(o:ae)(dV sz:Nat)
  (ho:iq P (G.push w.heap.size dV sz) G.n (w.alloc O) o):aY P B ax (G.push w.heap.size dV sz) (E.push o) (w.alloc O)where
 len:=by simp[Gh.push,AS.push,h.len]
 bu b k v e:=by
  have q:G.bu b k=some v:=e;rw[cell?_alloc_old (h.xm P q)];exact h.bu b k v q
 obj id x e d:=by
  simp only[AS.push,List.getElem?_append]at e;split at e
  ·rename_i m;have c:id<G.n:=by rw[h.len];exact m
   simp only[Gh.push,acz (avV c)]at d;exact iq.mono (G.zL _ _ _) ⟨c,d⟩ (by simp[Gh.push,avV c]) (Below.heap_alloc _ _ _ (h.low id ⟨c,d⟩).2) (h.obj id x e d)
  ·rename_i u;have:id=E.heap.length:=by
    cases s:id-E.heap.length with
    |zero=>omega
    |succ k=>rw[s]at e;simp at e
   subst this;simp at e;subst e;rw[<-h.len];exact ho
 inj i j g t e:=by
  rcases Gh.FR g with a| ⟨f,a⟩<;>rcases Gh.FR t with l| ⟨p,l⟩
  ·rw[a,l]
  ·simp only[Gh.push,a,aeE,acz p]at e;have:=(h.low j l).2;omega
  ·simp only[Gh.push,l,aeE,acz f]at e;have:=(h.low i a).2;omega
  ·simp only[Gh.push,acz f,acz p]at e;exact h.inj i j a l e
 sep i g k:=by
  rcases Gh.FR g with a| ⟨f,a⟩
  ·simp only[Gh.push,a,aeE];cases y:G.bu w.heap.size k with
   |none=>rfl
   |some v=>have:=h.xm P y;omega
  ·simp only[Gh.push,acz f];exact h.sep i a k
 low i g:=by
  rcases Gh.FR g with a| ⟨f,a⟩
  ·simp only[Gh.push,a,aeE];exact⟨h.hB,by simp⟩
  ·simp only[Gh.push,acz f];have:=h.low i a;exact⟨this.1,by simp;omega⟩
 lb id x c d:=by
  simp only[Gh.push]at c d;by_cases a:id=G.n
  ·rw[acE a]at d;cases d
  ·rw[acz a]at d;obtain⟨n,r⟩:=h.lb id x (by omega) d;exact⟨by simp only[AS.push];rw[abP (abQ.1 n).1];exact n,r⟩
 la:=h.la.alloc h.hB O
 hB:=by have:=h.hB;simp;omega
 dD:=h.dD
def Gh.Cd{G:Gh}{E:AS}(h:aY P B ax G E w){dV:Nat}: (G.push b dV sz).on E.heap.length:=⟨by simp[Gh.push,h.len],by simp[Gh.push,h.len]⟩
def Gh.freeze(G:Gh)(b:Nat)(vs:List Value):Gh:={G with bu:=λa o=>if a=b then vs[o]? else G.bu a o}
def aY.Uk{G:Gh}{E:AS}(h:aY P B ax G E w)(c:Array Value)(ty:TypeId)(g:Nat×Nat)(vs:List Value)(n: ∀ (j:Nat) (v:Value),vs[j]?=some v->c[j]?=some v):
  G.le (G.freeze w.heap.size vs)/\aY P B ax (G.freeze w.heap.size vs) E (w.alloc (.cells c ty g)):=by
 have hle:G.le (G.freeze w.heap.size vs):=by
  refine .mk' (λb o v e=>?_) (aeg _) (λ_ _=>rfl) (λ_ _=>aeg _) (λ_ _ _=>⟨rfl,rfl,rfl,rfl⟩);have:=h.xm P e;simp only[Gh.freeze]
  grind
 refine⟨hle,h.len,λb o v e=>?_,λid x e f=>?_,h.inj,λi d k=>?_,λi d=>?_,h.la.alloc h.hB _,?_,h.lb,λb o v l e=>hle.bu _ _ _ (h.dD b o v l e)⟩
 ·simp only[Gh.freeze]at e;split at e
  ·have p: (w.alloc (.cells c ty g)).heap[w.heap.size]?=some (.cells c ty g):=an5 w _;unfold World.cell?
   grind
  ·rw[cell?_alloc_old (h.xm P e)];exact h.bu b o v e
 ·have a:id<G.n:=by rw[h.len];exact(abQ.1 e).1
  exact iq.mono hle ⟨a,f⟩ rfl (Below.heap_alloc _ _ _ (h.low id ⟨a,f⟩).2) (h.obj id x e f)
 ·have:=(h.low i d).2;simp only[Gh.freeze];rw[acz (by omega)];exact h.sep i d k
 ·obtain⟨m,q⟩:=h.low i d
  exact⟨m,by have e: (G.freeze w.heap.size vs).ba i=G.ba i:=rfl
             rw[e];simp;omega⟩
 ·have:=h.hB;simp;omega
theorem aY.set{G p:Gh}{E:AS}(h:aY P B ax G E w){id:Nat}(d:G.on id)(o':ae)(refs:Nat)
  (c:G.le p) (q:p.n=G.n) (C:p.bu=G.bu)
  (l: ∀i,i<G.n->i≠id->p.ai i=G.ai i)
  (m:p.ba id=G.ba id\/w.heap.size<=p.ba id) (z:p.ba id<w'.heap.size)
  (D: ∀k,k≠G.ba id->k<w.heap.size->w'.heap[k]?=w.heap[k]?) (I:w.heap.size<=w'.heap.size)
  (n:w'.os=w.os) (y:w'.tape=w.tape) (J:w'.output=w.output)
  (ho:iq P p id w' o'):aY P B ax p (E.set id o' refs) w' where
 len:=by simp[AS.set,q,h.len]
 bu b k v e:=by
  rw[C]at e;have g:b≠G.ba id:=λg=>by rw[g,h.sep id d k]at e;cases e
  have:=h.bu b k v e;simp only[World.cell?]at*
  grind
 obj j x e r:=by
  by_cases f:j=id
  ·subst f;have:E.heap.length=G.n:=h.len.symm;simp[AS.set,this,d.1]at e;subst e;exact ho
  ·simp only[AS.set,abN (λh=>f h.symm)]at e;have t:j<G.n:=by rw[h.len];exact(abQ.1 e).1
   rw[c.pz j t]at r;have u:G.on j:=⟨t,r⟩;refine iq.mono c u (l j t f) (D _ (λhe=>f (h.inj j id u d he)) (h.low j u).2) (h.obj j x e r)
 inj i j a f e:=by
  have a:G.on i:=⟨by rw[<-q];exact a.1,by rw[<-c.pz i (by rw[<-q];exact a.1)];exact a.2⟩;have f:G.on j:=⟨by rw[<-q];exact f.1,by rw[<-c.pz j (by rw[<-q];exact f.1)];exact f.2⟩;have key: ∀i,G.on i->i≠id->p.ba i=G.ba i:=λi a s=>(c.same i a (l i a.1 s)).1
  by_cases n:i=id<;>by_cases y:j=id
  ·omega
  ·rw[n,key j f y]at e;rcases m with g|g
   ·rw[g]at e;rw[n];exact h.inj id j d f e
   ·have:=(h.low j f).2;omega
  ·rw[y,key i a n]at e;rcases m with g|g
   ·rw[g]at e;rw[y];exact h.inj i id a d e
   ·have:=(h.low i a).2;omega
  ·rw[key i a n,key j f y]at e;exact h.inj i j a f e
 sep i a k:=by
  have a:G.on i:=⟨by rw[<-q];exact a.1,by rw[<-c.pz i (by rw[<-q];exact a.1)];exact a.2⟩;rw[C];by_cases n:i=id
  ·subst n;rcases m with g|g
   ·rw[g];exact h.sep i d k
   ·cases A:G.bu (p.ba i) k with
    |none=>rfl
    |some v=>have:=h.xm P A;omega
  ·rw[(c.same i a (l i a.1 n)).1];exact h.sep i a k
 low i a:=by
  have a:G.on i:=⟨by rw[<-q];exact a.1,by rw[<-c.pz i (by rw[<-q];exact a.1)];exact a.2⟩;by_cases n:i=id
  ·subst n;rcases m with g|g
   ·exact⟨by rw[g];exact(h.low i d).1,z⟩
   ·have:=h.hB;exact⟨by omega,z⟩
  ·rw[(c.same i a (l i a.1 n)).1];have:=h.low i a;exact⟨this.1,by omega⟩
 la:=Below.akS h.la n y J I λk K=>D k (by have:=(h.low id d).1;omega) (by have:=h.hB;omega)
 hB:=by have:=h.hB;omega
 lb j x f r:=by
  rw[q]at f;rw[c.pz j f]at r;obtain⟨H,F⟩:=h.lb j x f r;have s:id≠j:=λe=>by rw[<-e,d.2]at r;cases r
  exact⟨by simp only[AS.set];rw[abN s];exact H,F⟩
 dD b o v g e:=by rw[C];exact h.dD b o v g e
def aY.drew{G:Gh}{E:AS}(h:aY P B ax G E w):aY P B ax G E w.drew:=
 ⟨h.len,h.bu,λid x e a=>iq.mono G.le_refl ⟨by rw[h.len];grind,a⟩ rfl rfl (h.obj id x e a),h.inj,h.sep,h.low,h.la.drew,h.hB,h.lb,h.dD⟩
def aY.lo{G:Gh}{E:AS}(h:aY P B ax G E w)(lo:oN):aY P B ax G {E with lo:=lo} w:=
 ⟨h.len,h.bu,h.obj,h.inj,h.sep,h.low,h.la,h.hB,h.lb,h.dD⟩
end
section
variable{P:Program}
def eD(w:World)(b:Nat)(O:Obj):World:={w with heap:=w.heap.setIfInBounds b O}
def akT(w:World)(b:Nat)(O a:Obj):eD (eD w b O) b a=eD w b a:=by simp[eD]
def sT(h:b<w.heap.size): (eD w b O).heap[b]?=some O:=by simp[eD,h]
def Ul(h:k≠b): (eD w b O).heap[k]?=w.heap[k]?:=by
 simp only[eD]
 grind
def akU(h:w.heap[b]?=some O):eD w b O=w:=by
 have:w.heap.setIfInBounds b O=w.heap:=by grind
 unfold eD;rw[this]
@[simp]theorem akV (w:World) (b:Nat) (O:Obj): (eD w b O).heap.size=w.heap.size:=by simp[eD]
def akW{o:Nat}{ty:TypeId}{a:Nat×Nat}(h:w.heap[b]?=some (.cells c ty a))(v:Value):
  w.setCell ⟨b,o,none⟩ v=eD w b (.cells (c.setIfInBounds o v) ty a):=by
 simp only[World.setCell,eD]
 congr 1
 grind
def kj(c:Array Value)(o:Nat):List Value->Array Value
 | []=>c
 |v::vs=>kj (c.setIfInBounds o v) (o+1) vs
@[simp]theorem ayl (c:Array Value) (o:Nat) (vs:List Value): (kj c o vs).size=c.size:=by
  induction vs generalizing c o with
  |nil=>rfl
  |cons v vs ih=>simp[kj,ih]
def FT(c:Array Value)(o:Nat)(vs:List Value)(h:o+vs.length<=c.size):
  (kj c o vs).toList=c.toList.take o++(vs++c.toList.drop (o+vs.length)):=by
 induction vs generalizing c o with
 |nil=>simp[kj]
 |cons v vs a=>
  rw[kj,a _ _ (by grind)];have ho:o<c.toList.length:=by grind
  simp only[Array.toList_setIfInBounds,aep];rw[List.take_set,List.drop_set];simp only[show(o<o+1+vs.length) by omega,aeE,aex,acJ ho];have hm:min o c.size=o:=aon (by omega);simp[show o+1+vs.length=o+(vs.length+1) by omega,hm]
theorem iX(b o i:Nat): (⟨b,o,none⟩:Addr).add i=⟨b,o+i,none⟩:=by
 unfold Addr.add
 grind
def akX(h:leaf v=true):v.oneCell'=true:=by trivial
def LH{ty:TypeId}(vs:List Value): ∀ (c:Array Value) (w:World) (o i:Nat),w.heap[b]?=some (.cells c ty (0,0))->o+i+vs.length<=c.size->Leaves vs->
  (storeCells ⟨b,o,none⟩ vs i).run P w= .ok () (eD w b (.cells (kj c (o+i) vs) ty (0,0))):=by
 induction vs with
 |nil=>intro c w o i h _ _;simp[storeCells,kj,akU h]
 |cons v vs e=>
  intro c w o i h g d;simp only[aep]at g;have j:w.cell? (Addr.add ⟨b,o,none⟩ i)=some (c[o+i]'(by omega)):=by
   rw[iX,cell_of_row w b (o+i) c ty (0,0) h];grind
  have f:w.frozen? (Addr.add ⟨b,o,none⟩ i)=false:=by grind [iX,frozen_of_row]
  simp only[storeCells,Sem.run_bind];rw[run_store P w _ v .plain (akX (d v (by simp)))];simp only[j,f];rw[iX,akW h];have a:b<w.heap.size:=(akF.1 h).1;simp only[aek,ahz,Result.andThen_ok];rw[e (c.setIfInBounds (o+i) v) _ o (i+1) (sT a) (by grind) (λu hu=>d u (by grind)),akT];rfl
def run_loadCellsFrom{o:Nat}(n:Nat): ∀ (i:Nat) (acc:Array Value) (vs:List Value),vs.length=n->(∀j v,vs[j]?=some v->w.cell? ⟨b,o+i+j,none⟩=some v)->
  (loadCellsFrom ⟨b,o,none⟩ i n acc).run P w= .ok (acc++vs.toArray) w:=by
 induction n with
 |zero=>intro i acc vs c _;have:vs=[]:=ahK.1 c;subst this;simp[loadCellsFrom]
 |succ n e=>
  intro i acc vs c a;cases vs with
  |nil=>grind
  |cons v vs=>
   have d:=a 0 v (by simp);simp only[loadCellsFrom,Sem.run_bind];rw[iX,run_load];simp only[aem]at d;simp only[d];simp only[Result.andThen_ok];rw[e (i+1) (acc.push v) vs (by grind) (λj u f=>by
    have:=a (j+1) u (by grind)
    grind)]
   simp_all
def run_loadCells{o:Nat}(vs:List Value)(a:vs.length=n)(c: ∀j v,vs[j]?=some v->w.cell? ⟨b,o+j,none⟩=some v):
  (loadCells ⟨b,o,none⟩ n).run P w= .ok vs.toArray w:=by
 unfold loadCells;rw[run_loadCellsFrom n 0 #[] vs a (by omega)];simp
end
section
section
variable{P:Program}
def ni(h:cx P t=some n)(w:World): (sizeOf t).run P w= .ok n w:=by
 unfold cx at h;cases b:P.info? t with
 |none=>grind
 |some i=>
  simp[b]at h;simp only[sizeOf,Sem.run_bind,run_typeInfo _ b,Result.andThen_ok,Sem.run_pure];rw[h]
def rn{b:Bool}(h:my P t=some b)(w:World): (isAgg t).run P w= .ok b w:=by
 unfold my at h;cases hu:P.underlying t with
 |none=>grind
 |some d=>
  simp only[hu,aei,acy]at h;subst h;simp only[isAgg,Sem.run_bind,acH hu,Result.andThen_ok];cases d<;>simp[Sem.run_pure]
end
def G0(B:Nat)(ax:World):Gh:={bu:=λb o=>if b<B then ax.cell? ⟨b,o,none⟩else none,n:=0,ba:=id,base:=id,ai:=id,dV:=id,sz:=id}
def fk(X:Ctx)(B:Nat)(ax:World):Prop:=
 (∀g cs,X.dy g=some cs->g<B/\ ∃vs,(∀ (j:Nat) v,vs[j]?=some v->ax.cell? ⟨g,j,none⟩=some v)/\Leaves vs/\
   aG (G0 B ax) cs vs)/\
 (∀g es,X.fG g=some es->g<B/\ ∃b r ms clock,r<B/\ax.cell? ⟨g,0,none⟩=some (.map (some r))/\ax.heap[r]?=some (.map ms clock)/\fB (G0 B ax) b ms.toList/\ ∀k v,dU k es=some v->dU k b=some v)
variable{P:Program}{X:Ctx}{B:Nat}{ax:World}
def Um{G:Gh}{E:AS}(h:aY P B ax G E w): (G0 B ax).dQ 0 G:=by
 refine⟨λb o v c=>?_,ac7 _,?_,?_,?_,?_,?_,?_⟩
 ·simp only[G0]at c;split at c
  ·exact h.dD b o v ‹_› c
  grind
 all_goals simp
def fk.rel(d:fk X B ax){G:Gh}{E:AS}(h:aY P B ax G E w){g:Nat}{cs:List AV}(e:X.dy g=some cs):
  ∃vs,pQ G g 0 vs/\Leaves vs/\aG G cs vs:=by
 obtain⟨f,vs,k,i,b⟩:=d.1 g cs e;refine⟨vs,λj v c=>?_,i,aG.dQ (Um h) _ _ b (by have:=aG.refs _ _ b;simpa[G0]using this)⟩;rw[ajg];exact h.dD g j v f (k j v c)
def fk.akY(i:fk X B ax){G:Gh}{E:AS}(h:aY P B ax G E w){g:Nat}{es:List (AV×AV)}(e:X.fG g=some es)(d:ak G (.kZ g) v):
  ∃b r ms clock,v= .map (some r)/\w.heap[r]?=some (.map ms clock)/\fB G b ms.toList/\ ∀k v,dU k es=some v->dU k b=some v:=by
 obtain⟨j,b,r,ms,clock,o,n,m,c,l⟩:=i.2 g es e;have:=h.dD g 0 _ j n;rw[d.2]at this;cases this;exact⟨b,r,ms,clock,rfl,by rw[h.la.block r o];exact m,fB.dQ (Um h) c (λp f=>by have:=fB.refs c p f;simpa[G0]using this),l⟩
def Good(P:Program)(B:Nat)(ax:World)(G:Gh)(E:AS)(v:AV)(c:AS)(r:Result Next):Prop:=
 ∃b w' v',(r= .ok (.value v') w'\/ (r= .ok .skip w'/\v'=undef))/\G.le b/\aY P B ax b c w'/\ak b v v'/\E.Ext c
def Good.same{G:Gh}{E:AS}(h:aY P B ax G E w){v:AV}(b:ak G v v'):Good P B ax G E v E (.ok (.value v') w):=
 ⟨G,w,v',.inl rfl,G.le_refl,h,b,.refl E⟩
def LJ{G:Gh}: ∀ (v:Value),(AV.jL v).plain=true->ak G (AV.jL v) v:=by
 intro v h;cases v with
 |pointer a=>cases a<;>simp_all[AV.jL,ak,AV.plain]
 |slice a n c=>
  cases a with
  |none=>
   simp only[AV.jL]at*;split at h
   ·rename_i e;simp[e,ak]
   ·trivial
  |some a=>trivial
 |map r=>cases r<;>simp_all[AV.jL,ak,AV.plain]
 |tuple vs=>
  simp only[AV.jL]at*;split at h
  ·rename_i e;have:vs= #[]:=Array.eq_empty_of_size_eq_zero e;subst this;simp[ak,aG]
  ·trivial
 |_=>trivial
theorem Un{G:Gh}: ∀ (vs:List Value),(∀v∈vs,(AV.jL v).plain=true)->aG G (vs.map AV.jL) vs
 | [],_=>by rfl
 |v::vs,h=>⟨v,vs.map id,by simp,LJ v (h v (by simp)),by simpa using Un vs λu hu=>h u (by grind)⟩
def akZ(h: (AV.jL v).plain=true)(k: (AV.jL v).cm=false):leaf v=true:=by
 cases v with
 |agg cs=>trivial
 |tuple vs=>simp only[AV.jL]at k;split at k<;>simp[AV.cm]at k
 |_=>rfl
def Uo{G:Gh}(v:Value)(h:FN v=true):ak G (AV.ofValue v) v:=by
 cases v with
 |agg cs=>
  simp only[FN,aes,afJ,ayA]at h;exact⟨cs,rfl,Un _ λv b=>(h v b).1,λv b=>akZ (h v b).1 (h v b).2⟩
 |iface t v=>exact⟨v,rfl,LJ v h⟩
 |_=>simp only[AV.ofValue];apply LJ;exact h
def LK{G:Gh}{e:Env}{b:Array Value}(h:cL G nt e b)(t:Nat):ak G (e t) (b.getD t undef):=by
 by_cases c:t<b.size
 ·have:=h.get t b[t] (by simp);simp_all
 ·rw[h.out t (by have:=h.size;omega)];simp[Array.getD,c,ak,aG,undef]
def cF{G:Gh}{e:Env}(h:cL G nt e a.tmps){x:Operand}{y:ao}(b:bI x=some y):ak G (y.get e) (a.eval x):=by
 cases x with
 |tmp t=>simp only[bI,acy]at b;subst b;exact LK h t
 |const v=>
  simp only[bI]at b;split at b
  ·rename_i c;cases b;exact Uo v c
  grind
 |global g=>simp only[bI,acy]at b;subst b;simp[ao.get,ak,Act.eval]
 |func f=>simp only[bI,acy]at b;subst b;exact⟨.func f,#[],#[],rfl,rfl,by rfl,by rfl⟩
theorem xn{G:Gh}{nt:Nat}{e:Env}{a:Act}(h:cL G nt e a.tmps): ∀ {xs:List Operand} {ys:List ao},ng xs=some ys->aG G (ys.map (·.get e)) (xs.map a.eval)
 | [],_,b=>by simp only[ng,acy]at b;subst b;simp[aG]
 |x::xs,ys,b=>by
  simp only[ng]at b;split at b
  ·rename_i y c f d;cases b;exact⟨_,_,rfl,cF h f,xn h d⟩
  grind
section ops
variable{G:Gh}{E:AS}{w:World}(hw:aY P B ax G E w){nt:Nat}{e:Env}{a:Act}(he:cL G nt e a.tmps)
include hw
omit hw in
theorem Up{b:Bool}{off:Nat}{cs:List AV}{v:AV}(c:aG G cs vs)(d:Leaves vs)(h:part b n cs off=some v):
  (b=true/\off+n<=vs.length/\ak G v (.agg ((vs.drop off).take n).toArray))\/ (b=false/\ ∃u,vs[off]?=some u/\ak G v u):=by
 unfold part at h;cases b with
 |true=>
  simp only[aeE]at h;split at h
  ·rename_i hle;cases h;refine .inl ⟨rfl,by rw[c.length];exact hle,⟨_,rfl,by simpa using(c.drop off).take n,by simpa using(d.drop off).take n⟩⟩
  ·cases h
 |false=>
  simp only[aek,ahz]at h;obtain⟨u,hu,f⟩:=c.get off v h;exact .inr ⟨rfl,u,hu,f⟩
omit hw in
theorem FU{h:Bool}{o:Nat}{v:AV}{cs:List AV}{off:Nat}(g:my P t=some h)(m:cx P t=some n)
  (l:aG G cs vs) (i:Leaves vs) (k:part h n cs off=some v) (f: ∀j u,vs[j]?=some u->w.cell? ⟨b,o+j,none⟩=some u):
  ∃v',(loadVar t ⟨b,o+off,none⟩).run P w= .ok v' w/\ak G v v':=by
 rcases Up l i k with⟨rfl,hle,d⟩| ⟨rfl,u,hu,d⟩
 ·refine⟨_,?_,d⟩;simp only[loadVar,Sem.run_bind,rn g,Result.andThen_ok,aeE,ni m];rw[run_loadCells ((vs.drop off).take n) (by simp;omega) (λj u c=>by
   rw[akr]at c;split at c
   ·rw[ajQ]at c;rw[alL];exact f _ _ c
   ·cases c)]
  simp
 ·refine⟨u,?_,d⟩;simp only[loadVar,Sem.run_bind,rn g,Result.andThen_ok,aek,ahz,run_load];rw[f off u hu]
theorem zM{id:Nat}{cs:List AV}{tg:Option TypeId}(h:E.heap[id]?=some (.box cs tg))(b:G.pz id=none):G.ai id=0/\G.on id/\ ∃c ty,w.heap[G.ba id]?=some (.cells c ty (0,0))/\aG G cs c.toList/\Leaves c.toList/\ ∀t,tg=some t->ty=t:=by
 obtain⟨i,c,ty,g,f,d⟩:=hw.obj id _ h b;exact⟨i,⟨by rw[hw.len];grind,b⟩,c,ty,g,f,d⟩
omit hw in
theorem Ce{ty:TypeId}(h:w.heap[b]?=some (.cells c ty (0,0)))(j:Nat)(u:Value)(d:c.toList[j]?=some u):w.cell? ⟨b,j,none⟩=some u:=by
 rw[cell_of_row w b j c ty (0,0) h];simpa using d
theorem Uq(hg:fk X B ax){W:Bool}(H:my P t=some W)(F:cx P t=some n){x v:AV}{C:Value}(d:ak G x C)(h:bW X E W n x=some v):
  ∃v',(Instr.loadAt t C).run P w= .ok v' w/\ak G v v':=by
 have key: ∀ (A:Addr),C= .pointer (some A)->(∃v',(loadVar t A).run P w= .ok v' w/\ak G v v')-> ∃v',(Instr.loadAt t C).run P w= .ok v' w/\ak G v v':=by
  rintro A rfl ⟨v',K,hr⟩;refine⟨v',?_,hr⟩;exact K
 unfold bW at h;split at h
 ·rename_i id off;simp only[ak]at d;obtain⟨r,A,rfl,z⟩:=d;split at h
  ·rename_i cs N;obtain⟨S,_,c,ty,R,f,m,_⟩:=zM hw N r.2;refine key A rfl ?_;rw[z S];have:=FU (b:=G.ba id) (o:=0) H F f m h (λj u hu=>by rw[ajg];exact Ce R j u hu);rwa[ajg]at this
  ·cases h
 ·rename_i id ai i off;simp only[ak]at d;obtain⟨r,_,A,rfl,z⟩:=d;split at h
  ·rename_i T sz ty af N;split at h
   ·rename_i K;obtain⟨S,q,hu,c,pre,vs,post,R,hc,hp,hs,f,m⟩:=hw.obj id _ N r.2;subst K;cases k:af[i]? with
    |none=>simp[k]at h
    |some el=>
     simp only[k,an1]at h;split at h
     ·rename_i D;refine key A rfl ?_;rw[z S];have M:i<af.length:=(abQ.1 k).1;have O:af.flatten=(af.take i).flatten++(el++(af.drop (i+1)).flatten):=by
       conv=>lhs;rw[<-amx i af]
       rw[al2,amf M];have:af[i]=el:=by simpa[acJ M]using k
       simp[this]
      have L: (af.take i).flatten.length=i*sz:=by
       have: ∀ (l:List (List AV)),(∀x∈l,x.length=sz)->l.flatten.length=l.length*sz:=by
        intro l f
        induction l with
        |nil=>simp
        |cons x xs ih=>simp[ih λy J=>f y (by simp[J]),f x (by simp)];rw[aog];omega
       rw[this _ λx d=>hu x (afZ d),aeD,aon (Nat.le_of_lt M)]
      have V:=bq.iff.1 f;rw[O]at V;obtain⟨v1,v2,rfl,k1,Z⟩:=V.split;obtain⟨U,v4,rfl,Y,k4⟩:=Z.split;have p:v1.length=i*sz:=by rw[k1.length,L]
      have I:Leaves U:=λy J=>m y (by simp[J])
      have:=FU (b:=G.ba id) (o:=G.base id+i*G.sz id) H F Y I h (λj u hu=>by
       refine Ce R _ u ?_;rw[hc];have hj:j<U.length:=(abQ.1 hu).1;rw[aet (by omega),acF,aet (by rw[p,q];omega),acF,abP (by rw[p,q];omega)];rw[<-hu];congr 1;rw[p,q];omega)
      exact this
     ·cases h
   ·cases h
  ·cases h
 ·rename_i cs off;simp only[ak]at d;obtain⟨b,o,vs,rfl,Q,m,f⟩:=d;exact key _ rfl (FU H F f m h λj u hu=>hw.bu _ _ _ (Q j u hu))
 ·rename_i g;simp only[ak]at d;subst d;cases s:X.dy g with
  |none=>simp[s]at h
  |some cs=>
   simp only[s,an1]at h;obtain⟨vs,Q,m,f⟩:=hg.rel hw s;have:=FU (b:=g) (o:=0) H F f m h λj u hu=>hw.bu _ _ _ (Q j u hu)
   exact key _ rfl (by simpa using this)
 grind
end ops
end
section
variable{P:Program}{X:Ctx}{B:Nat}{ax:World}
variable{G:Gh}{E:AS}{w:World}
def ak0(t:aY P B ax G E w)(y:fk X B ax){s:TypeId}{a:Array Field}{f:Nat}{g:Field}(D:P.underlying s=some (.struct a))(C:a[f]?=some g)
  (A:cx P g.type=some n) (F:0<n) {x v:AV} {j:Value} (i:ak G x j) (h:vk X g.offset x=some v):
  ∃v',(Instr.fieldAt s j f).run P w= .ok v' w/\ak G v v':=by
 have key: ∀d,j= .pointer (some d)->(Instr.fieldAt s j f).run P w= .ok (.pointer (some (d.add g.offset))) w:=by
  rintro d rfl;simp only[Instr.fieldAt,Sem.run_bind,acH D,Result.andThen_ok,C,Instr.sureAddr,Sem.run_pure,fieldPlace,ni A,Sem.run_ite];rw[acz (by omega)];simp
 unfold vk at h;split at h
 ·obtain⟨p,d,e,c⟩:=i;cases h;refine⟨_,key d e,p,_,rfl,λk=>?_⟩;rw[c k,iX]
 ·obtain⟨p,m,d,e,c⟩:=i;cases h;refine⟨_,key d e,p,m,_,rfl,λk=>?_⟩;rw[c k,iX];grind
 ·obtain⟨b,o,vs,e,r⟩:=i;cases h;refine⟨_,key _ e,b,o,vs,?_,r⟩;rw[iX,alL]
 ·simp only[ak]at i;split at h
  ·rename_i cs l;cases h;obtain⟨vs,z,q,u⟩:=y.rel t l;refine⟨_,key _ i,_,0,vs,?_,z,q,u⟩;rw[iX]
  ·cases h
 grind
def FV{x:AV}{a:Value}{i:Int}(b:ak G x a)(h:rf x=some i): ∃k,x= .int k i/\a= .int k i:=by
 cases x<;>simp[rf]at h;simp only[ak]at b
 grind
def ak1(y:aY P B ax G E w)(C:fk X B ax){a:TypeId}(I:P.underlying t=some (.array n a))(H:cx P a=some sz)
  {x s v:AV} {j g:Value} (d:ak G x j) (A:ak G s g) (h:sP X n sz x s=some v):
  ∃v',(Instr.indexAt t j g).run P w= .ok v' w/\ak G v v':=by
 unfold sP at h;split at h
 ·rename_i i hint;obtain⟨k,_,rfl⟩:=FV A hint;split at h
  ·rename_i F;have key: ∀f,j= .pointer (some f)->(Instr.indexAt t j (.int k i)).run P w= .ok (.pointer (some (f.add (i.toNat*sz)))) w:=by
    rintro f rfl;simp only[Instr.indexAt,Sem.run_bind,asIntOf,Sem.run_pure,Result.andThen_ok,acH I,Instr.sureAddr];by_cases J:n<=1<;>simp[F,ni H]
   split at h
   ·obtain⟨q,f,e,c⟩:=d;cases h;refine⟨_,key f e,q,_,rfl,λl=>?_⟩;rw[c l,iX]
   ·simp only[ak]at d;obtain⟨q,p,f,e,c⟩:=d;cases h;refine⟨_,key f e,q,p,_,rfl,λl=>?_⟩;rw[c l,iX];congr 1;omega
   ·simp only[ak]at d;obtain⟨b,o,vs,e,r⟩:=d;cases h;refine⟨_,key _ e,b,o,vs,?_,r⟩;rw[iX,alL]
   ·simp only[ak]at d;split at h
    ·rename_i cs m;cases h;obtain⟨vs,D,u,z⟩:=C.rel y m;refine⟨_,key _ d,_,0,vs,?_,D,u,z⟩;rw[iX]
    ·cases h
   grind
  grind
 grind
theorem ak2{af:List (List AV)}(h: ∀el∈af,el.length=sz):af.flatten.length=af.length*sz:=by
 induction af with
 |nil=>simp
 |cons x xs a=>grind
def bq.at{af:List (List AV)}{el:List AV}(k:bq G af vs)(n: ∀x∈af,x.length=sz)(l:af[i]?=some el):
  aG G el ((vs.drop (i*sz)).take sz):=by
 have b:af.flatten=(af.take i).flatten++(el++(af.drop (i+1)).flatten):=by grind [List.take_append_drop,List.flatten_append,List.drop_eq_getElem_cons]
 have a: (af.take i).flatten.length=i*sz:=by grind [ak2,List.mem_of_mem_take,List.length_take,Nat.min_eq_left,Nat.le_of_lt]
 have c:=bq.iff.1 k;rw[b]at c;obtain⟨v1,v2,rfl,g,f⟩:=c.split;obtain⟨d,v4,rfl,e,m⟩:=f.split;have j:v1.length=i*sz:=by rw[g.length,a]
 have h:d.length=sz:=by rw[e.length];grind
 grind
def ak3{d:TypeId}(O:P.underlying t=some (.slice d))(N:cx P d=some sz)
  {x H v:AV} {s m:Value} (g:ak G x s) (I:ak G H m) (h:iG sz x H=some v):
  ∃v',(Instr.indexAt t s m).run P w= .ok v' w/\ak G v v':=by
 unfold iG at h;split at h
 ·rename_i i hint;obtain⟨k,_,rfl⟩:=FV I hint;have key: ∀ (r:Addr) (len cap:Nat),s= .slice (some r) len cap->0<=i/\i<len->(Instr.indexAt t s (.int k i)).run P w= .ok (.pointer (some (r.add (i.toNat*sz)))) w:=by
   rintro r len cap rfl l;simp only[Instr.indexAt,Sem.run_bind,asIntOf,Sem.run_pure,Result.andThen_ok,acH O];by_cases Q:len<=1<;>simp[l,ni N]
  split at h
  ·rename_i af cI;split at h
   ·rename_i p;split at h
    ·rename_i el f;split at h
     ·rename_i c;cases h;simp only[ak]at g;obtain⟨b,o,cap,a,vs,e,J,F,q,M,K,L⟩:=g;have I:i.toNat<af.length:=(abQ.1 f).1;have z:a=sz:=by rw[<-c];exact(q el (ajY f)).symm
      subst z;refine⟨_,key _ _ _ e ⟨p,by omega⟩,b,o+i.toNat*a,(vs.drop (i.toNat*a)).take a,?_,?_,(K.drop _).take _,L.at q f⟩
      ·rw[iX];rfl
      ·intro j u n;rw[akr]at n;split at n
       ·rw[ajQ]at n;rw[alL];exact M _ _ n
       ·cases n
     ·cases h
    ·cases h
   grind
  ·rename_i id ai a off len cI;split at h
   ·rename_i l;obtain⟨C,A,rfl⟩:=l;cases h;simp only[ak]at g;obtain⟨p,D,r,cap,e,J,F,q⟩:=g;refine⟨_,key _ _ _ e ⟨C,A⟩,p,D,_,rfl,λy=>?_⟩;rw[(q y).2.1 (by omega),iX,(q y).1,an3];congr 1;omega
   ·cases h
  ·rename_i id a off len;split at h
   ·rename_i l;cases h;simp only[ak]at g;obtain⟨p,r,cap,e,J,F⟩:=g;refine⟨_,key _ _ _ e ⟨l.1,l.2.1⟩,p,_,rfl,λy=>?_⟩;rw[F y (by omega),iX]
   ·cases h
  grind
 grind
end
section
variable{P:Program}{X:Ctx}{B:Nat}{ax:World}
variable{G:Gh}{E:AS}{w:World}
def Ur{e:Bool}{off:Nat}{cs:List AV}{v:AV}(d:my P t=some e)(i:cx P t=some n)
  (h:aG G cs c.toList) (f:Leaves c.toList) (g:Den.part e n cs off=some v) (w:World): ∃v',(Go.part t c off).run P w= .ok v' w/\ak G v v':=by
 rcases Up h f g with⟨rfl,hle,b⟩| ⟨rfl,u,hu,b⟩
 ·refine⟨_,?_,b⟩;simp only[Go.part,Sem.run_bind,rn d,Result.andThen_ok,aeE,ni i,Sem.run_pure]
  congr 2
  grind
 ·refine⟨u,?_,b⟩;have a:c[off]?=some u:=by grind
  simp only[Go.part,Sem.run_bind,rn d,Result.andThen_ok,aek,ahz,a,Sem.run_pure]
def ak4{s:TypeId}{a:Array Field}{f:Nat}{g:Field}{d:Bool}(q:P.underlying s=some (.struct a))(p:a[f]?=some g)
  (o:my P g.type=some d) (m:cx P g.type=some n) {cs:List AV} {v:AV} {b:Value} (i:ak G (.agg cs) b) (h:Den.part d n cs g.offset=some v) (w:World):
  ∃v',(Instr.field s b f).run P w= .ok v' w/\ak G v v':=by
 obtain⟨c,rfl,l,e⟩:=i;obtain⟨v',j,k⟩:=Ur o m l e h w;refine⟨v',?_,k⟩;simp only[Instr.field,Sem.run_bind,acH q,Result.andThen_ok,p,asAgg,Sem.run_pure];exact j
def ak5{a:TypeId}{g:Bool}(u:P.underlying t=some (.array n a))(s:my P a=some g)(f:cx P a=some sz)
  {x e v:AV} {d b:Value} (l:ak G x d) (q:ak G e b) (h:pM g n sz x e=some v) (w:World):
  ∃v',(Instr.index t d b).run P w= .ok v' w/\ak G v v':=by
 unfold pM at h;split at h
 ·rename_i i cs hint;obtain⟨k,_,rfl⟩:=FV q hint;split at h
  ·rename_i r;obtain⟨c,rfl,p,j⟩:=l;obtain⟨v',m,o⟩:=Ur s f p j h w;refine⟨v',?_,o⟩;simp only[Instr.index,Sem.run_bind,asIntOf,Sem.run_pure,Result.andThen_ok,acH u];rw[acE r];simp only[Sem.run_bind,ni f,Result.andThen_ok];exact m
  grind
 grind
def ak6(n:P.underlying t=some .string){x j v:AV}{g a:Value}(l:ak G x g)(m:ak G j a)(h:xg x j=some v)(w:World):
  ∃v',(Instr.index t g a).run P w= .ok v' w/\ak G v v':=by
 unfold xg at h;split at h
 ·rename_i i s hint;obtain⟨k,_,rfl⟩:=FV m hint;subst l;split at h
  ·rename_i o;split at h
   ·rename_i b p;cases h;refine⟨.int .u8 b.toNat,?_,by rfl⟩;have f:s[i.toNat]?=some b:=by
     have:s.data[i.toNat]?=some b:=by grind
     obtain⟨d,e⟩:=akF.1 this;have c:i.toNat<s.size:=d;rw[getElem?_pos s i.toNat c];exact afW some e
    simp only[Instr.index,Sem.run_bind,asIntOf,Sem.run_pure,Result.andThen_ok,acH n,acE o,f]
   grind
  grind
 grind
def ak7{x:AV}{a:Value}{vs:List AV}{v:AV}(b:ak G (.av vs) a)(h:vs[i]?=some v)(w:World):
  ∃v',(Instr.extract a i).run P w= .ok v' w/\ak G v v':=by
 obtain⟨c,rfl,e⟩:=b;obtain⟨v',f,d⟩:=e.get i v h;refine⟨v',?_,d⟩;have:c[i]?=some v':=by grind
 simp[Instr.extract,this]
def zN{r:Nat}{o:Option AV}(h:k0 n o d=some r):
  (o=none/\r=d)\/ ∃k i,o=some (.int k i)/\0<=i/\i<=n/\r=i.toNat:=by
 unfold k0 at h
 grind
def sU{k:IntKind}{i:Int}{y:Nat}(h:0<=i/\i<=y)(a:BoundsCode)(w:World): (Instr.sliceBound (.int k i) y a).run P w= .ok i.toNat w:=by
 simp[Instr.sliceBound,asIntOf,h]
def ld(G:Gh):Option AV->Option Value->Prop
 |none,o=>o=none
 |some x,o=> ∃v,o=some v/\ak G x v
def FW{Cf:Bool}{len cap:Nat}(t:len<=cap){lo n:Option AV}{d:Option Value}(a:ld G lo aj)(e:ld G n d){h:Nat}(f:fY len lo n=some (l,h))(w:World):
  (Instr.sliceBounds Cf len cap aj d none).run P w= .ok (l,h,cap) w/\l<=h/\h<=len:=by
 unfold fY at f;split at f
 ·rename_i u p;split at f
  ·rename_i s m;cases f;rcases zN p with⟨rfl,rfl⟩| ⟨k,i,rfl,g,o,rfl⟩
   ·subst e;rcases zN m with⟨rfl,rfl⟩| ⟨k,i,rfl,g,o,rfl⟩
    ·subst a;exact⟨by rfl,by omega,by omega⟩
    ·obtain⟨v,rfl,c⟩:=a;subst c;exact⟨by simp[Instr.sliceBounds,sU ⟨g,o⟩],by omega,by omega⟩
   ·obtain⟨v,rfl,c⟩:=e;simp only[ak]at c;subst c;have b: (0:Int)<=i/\i<=cap:=⟨g,by omega⟩;rcases zN m with⟨rfl,rfl⟩| ⟨k,j,rfl,r,q,rfl⟩
    ·simp only[ld]at a;subst a;exact⟨by simp[Instr.sliceBounds,sU b],by omega,by omega⟩
    ·obtain⟨v,rfl,c⟩:=a;simp only[ak]at c;subst c;exact⟨by simp[Instr.sliceBounds,sU b,sU ⟨r,q⟩],by omega,by omega⟩
  grind
 grind
def ak8(j:P.underlying t=some .string){x v:AV}{d:Value}{lo e:Option AV}{a:Option Value}(f:ak G x d)(b:ld G lo aj)(c:ld G e a)
  (h:sO x lo e=some v) (w:World): ∃v',(Instr.sliceAt t d aj a none).run P w= .ok v' w/\ak G v v':=by
 unfold sO at h;split at h
 ·rename_i s;split at h
  ·rename_i l k i;cases h;subst f;obtain⟨g,_,_⟩:=FW (P:=P) (Cf:=false) (aeg _) b c i w;refine⟨.string (s.extract l k),?_,by rfl⟩;simp[Instr.sliceAt,Instr.slice,acH j,g]
  grind
 grind
def ak9{len h:Nat}{cI c:Bool}{a:Option AV}(b:k5 len h cI a=some c):
  (a=none/\c=(cI&&h==len))\/ ∃k i,a=some (.int k i)/\ (h:Int)<=i/\i<=len/\c=(i==h):=by
 unfold k5 at b
 grind
def ala{len cap:Nat}{cI:Bool}(r:len<=cap)(p:cI=true->cap=len){lo t u:Option AV}{n f:Option Value}(a:ld G lo aj)(o:ld G t n)(g:ld G u f)
  (d:u=none\/t≠none) {h:Nat} {c:Bool} (s:fY len lo t=some (l,h)) (D:k5 len h cI u=some c) (w:World):
  ∃m,(Instr.sliceBounds true len cap aj n f).run P w= .ok (l,h,m) w/\l<=h/\h<=len/\h<=m/\m<=cap/\ (c=true->m=h):=by
 rcases ak9 D with⟨rfl,rfl⟩| ⟨k,i,rfl,K,J,rfl⟩
 ·subst g;obtain⟨I,N,M⟩:=FW (P:=P) (Cf:=true) r a o s w
  grind
 ·obtain⟨v,rfl,b⟩:=g;simp only[ak]at b;subst b;have d:t≠none:=d.resolve_left (by simp);have hm: (0:Int)<=i/\i<=cap:=⟨by omega,by omega⟩;unfold fY at s;split at s
  ·rename_i L C;split at s
   ·rename_i H z;cases s;rcases zN C with⟨rfl,rfl⟩| ⟨k',j,rfl,F,g1,rfl⟩
    ·grind
    ·obtain⟨v,rfl,b⟩:=o;simp only[ak]at b;subst b;have A: (0:Int)<=j/\j<=i.toNat:=⟨F,by omega⟩;refine⟨i.toNat,?_,?_,by omega,by omega,by omega,λe=>by simp only[aul]at e;omega⟩
     ·rcases zN z with⟨rfl,rfl⟩| ⟨k',q,rfl,y,x,rfl⟩
      ·simp only[ld]at a;subst a;simp[Instr.sliceBounds,sU hm,sU A]
      ·obtain⟨v,rfl,b⟩:=a;simp only[ak]at b;subst b;simp[Instr.sliceBounds,sU hm,sU A,sU ⟨y,x⟩]
     ·rcases zN z with⟨rfl,rfl⟩| ⟨k',q,rfl,y,x,rfl⟩<;>omega
   grind
  grind
theorem LM{sz:Nat}: ∀ {l:Nat} {af:List (List AV)},(∀el∈af,el.length=sz)->(af.drop l).flatten=af.flatten.drop (l*sz)
 |0,_,_=>by simp
 |l+1,[],_=>by simp
 |l+1,x::xs,hu=>by
  have a:=LM (l:=l) (af:=xs) λel h=>hu el (by grind)
  simp only[anc,am4,a];have e: (l+1)*sz=x.length+l*sz:=by grind
  rw[e,as2];simp_all
theorem FX{sz:Nat}: ∀ {n:Nat} {af:List (List AV)},(∀el∈af,el.length=sz)->(af.take n).flatten=af.flatten.take (n*sz)
 |0,_,_=>by simp
 |n+1,[],_=>by simp
 |n+1,x::xs,hu=>by
  have a:=FX (n:=n) (af:=xs) λel h=>hu el (by grind)
  have e: (n+1)*sz=x.length+n*sz:=by grind
  grind
def Us{af:List (List AV)}(a: ∀el∈af,el.length=sz): ((af.drop l).take n).flatten=(af.flatten.drop (l*sz)).take (n*sz):=by grind [FX,List.mem_of_mem_drop,LM]
def bq.slice{af:List (List AV)}(b:bq G af vs)(a: ∀x∈af,x.length=sz):bq G ((af.drop l).take n) ((vs.drop (l*sz)).take (n*sz)):=by
 rw[bq.iff,Us a];exact((bq.iff.1 b).drop _).take _
def pQ.slice{o:Nat}(c:pQ G b o vs)(l n:Nat):pQ G b (o+l) ((vs.drop l).take n):=by
 intro j u a;rw[akr]at a;split at a
 ·rw[ajQ]at a;rw[alL];exact c _ _ a
 grind
def alb{a:Addr}(h:a.spot=none)(k:Nat): (a.add k).spot=none:=by
 unfold Addr.add
 grind
def LN(a:Addr)(b o k:Nat)(h:a=⟨b,o,none⟩):a.add k=⟨b,o+k,none⟩:=by rw[h,iX]
def alc{z:TypeId}(h1:P.underlying t=some (.slice z))(h2:cx P z=some n){x v:AV}{O:Value}{lo R Q:Option AV}{D A:Option Value}
  (y:ak G x O) (J:ld G lo aj) (L:ld G R D) (T:ld G Q A) (K:Q=none\/R≠none)
  (h:fZ n x lo R Q=some v) (w:World): ∃v',(Instr.sliceAt t O aj D A).run P w= .ok v' w/\ak G v v':=by
 have key: ∀ {a:Option Addr} {len cap:Nat} {cI:Bool} {l h:Nat} {c:Bool},O= .slice a len cap->len<=cap->(cI=true->cap=len)->fY len lo R=some (l,h)->k5 len h cI Q=some c->
   ∃m,(Instr.sliceAt t O aj D A).run P w= .ok (.slice (if m=l then a else a.map (·.add (l*n))) (h-l) (m-l)) w/\l<=h/\h<=len/\h<=m/\m<=cap/\ (c=true->m=h):=by
  intro a len cap cI l h c e hle f g H;obtain⟨m,i,r⟩:=ala (P:=P) hle f J L T K g H w;refine⟨m,?_,r⟩;subst e;simp[Instr.sliceAt,Instr.slice,acH h1,i,ni h2]
 unfold fZ at h;split at h
 ·simp only[ak]at y;split at h
  ·rename_i p q g H;cases h;obtain⟨l,s⟩:=p;obtain⟨-,k1,k2⟩:=FW (P:=P) (Cf:=false) (aeg 0) J L g w;have U:s=0:=by omega
   subst U;obtain⟨m,i,c1,Z,Y,W,M⟩:=key (cI:=true) y (aeg _) (λ_=>rfl) g H;refine⟨_,i,?_⟩;have e1:l=0:=by omega
   have e3:m=0:=by omega
   subst e1 e3;simp[ak]
  ·cases h
 ·rename_i af cI;split at h
  ·rename_i l s g;split at h
   ·rename_i c H;split at h
    ·rename_i hu;cases h;have hu: ∀el∈af,el.length=n:=λel F=>by simpa using aes.1 hu el F
     simp only[ak]at y;obtain⟨b,o,cap,sz,vs,e,d1,d2,d3,hf,lf,hl⟩:=y;obtain⟨m,i,c1,Z,Y,W,M⟩:=key e d1 d2 g H;refine⟨_,i,?_⟩;have d: ((af.drop l).take (s-l)).length=s-l:=by simp;omega
     by_cases hm:m=l
     ·have:s=l:=by omega
      subst this;rw[acE hm];refine⟨b,o,m-s,n,[],by simp,by simp,λk=>by simp;omega,by simp,λj u hj=>by simp at hj,λu hu=>by simp at hu,by simp[bq]⟩
     ·rw[acz hm];refine⟨b,o+l*n,m-l,n,(vs.drop (l*n)).take ((s-l)*n),?_,?_,λk=>?_,λel F=>hu el (am3 (afZ F)),hf.slice _ _,(lf.drop _).take _,hl.slice hu⟩
      ·simp[d,iX]
      ·rw[d];omega
      ·rw[d];have:=M k;omega
    ·cases h
   ·cases h
  ·cases h
 ·rename_i id ai sz off len cI;split at h
  ·rename_i l s g;split at h
   ·rename_i c H;split at h
    ·rename_i C;subst C;cases h;simp only[ak]at y;obtain⟨V,e1,N,cap,e,d1,d2,d3⟩:=y;obtain⟨m,i,c1,Z,Y,W,M⟩:=key e d1.1 d2 g H;refine⟨_,i,V,e1,if m=l then N else N.add (l*sz),m-l,by split<;>simp_all,⟨by omega,by split<;>first|exact d1.2|exact alb d1.2 _⟩,λk=>by have:=M k;omega,λS=>?_⟩;obtain⟨f1,f2,f3⟩:=d3 S;refine⟨f1,λI=>?_,?_⟩
     ·rw[acz (by omega),LN _ _ _ _ (f2 (by omega)),an3,alL]
     ·have: (off+l)*sz+(m-l)*sz<=off*sz+cap*sz:=by
        rw[<-an3,<-an3];exact ajX _ (by omega)
      omega
    ·cases h
   ·cases h
  ·cases h
 ·rename_i id sz off len;split at h
  ·rename_i l s g;split at h
   ·rename_i C;subst C;cases h;simp only[ak]at y;obtain⟨V,N,cap,e,d1,d2⟩:=y;obtain⟨m,i,c1,Z,Y,W,M⟩:=key (cI:=false) (c:=false) e d1 (λhh=>by cases hh) g (by simp[k5]);refine⟨_,i,V,if m=l then N else N.add (l*sz),m-l,by split<;>simp_all,by omega,λS I=>?_⟩;rw[acz (by omega),LN _ _ _ _ (d2 S (by omega))]
   ·cases h
  ·cases h
 ·cases h
theorem chunks_flatten{sz:Nat}: ∀ {k:Nat} {cs:List AV},k*sz<=cs.length->(chunks sz k cs).flatten=cs.take (k*sz)
 |0,_,_=>by simp[chunks]
 |k+1,cs,h=>by
  have e: (k+1)*sz=sz+k*sz:=by grind
  simp only[chunks,am4];rw[chunks_flatten (k:=k) (cs:=cs.drop sz) (by grind),e,List.take_add]
theorem Cg{sz:Nat}: ∀ {k:Nat} {cs:List AV},k*sz<=cs.length-> ∀el∈chunks sz k cs,el.length=sz
 |0,_,_=>by simp[chunks]
 |k+1,cs,h=>by
  intro el a;simp only[chunks,aeB]at a;rcases a with rfl|a
  ·grind
  ·exact Cg (k:=k) (cs:=cs.drop sz) (by grind) el a
@[simp]theorem LO {sz:Nat}: ∀ {k:Nat} {cs:List AV},(chunks sz k cs).length=k
  |0,_=>rfl
  |k+1,_=>by simp[chunks,LO]
def ald(I:aY P B ax G E w)(N:fk X B ax){f:TypeId}(R:P.underlying t=some (.array n f))(Q:cx P f=some sz){x v:AV}{k:Value}{lo H:Option AV}{a:Option Value}
  (m:ak G x k) (y:ld G lo aj) (z:ld G H a) (h:pK X n sz x lo H=some v): ∃v',(Instr.sliceAt t k aj a none).run P w= .ok v' w/\ak G v v':=by
 unfold pK at h;split at h
 ·rename_i l i O;obtain⟨K,U,T⟩:=FW (P:=P) (Cf:=false) (aeg n) y z O w;have key: ∀p,k= .pointer (some p)->(Instr.sliceAt t k aj a none).run P w= .ok (.slice (some (if n=l then p else p.add (l*sz))) (i-l) (n-l)) w:=by
   rintro p rfl;simp[Instr.sliceAt,acH R,Instr.sureAddr,K,ni Q]
  have frozen: ∀ (b o:Nat) (cs:List AV) (vs:List Value) (off:Nat),k= .pointer (some ⟨b,o+off,none⟩)->pQ G b o vs->Leaves vs->aG G cs vs->off+n*sz<=cs.length->
    ∃v',(Instr.sliceAt t k aj a none).run P w= .ok v' w/\ak G (.sl (chunks sz (i-l) (cs.drop (off+l*sz))) false) v':=by
   intro b o cs vs off e s q r hle;refine⟨_,key _ e,?_⟩;have L:l*sz+(i-l)*sz<=n*sz:=by rw[<-an3];exact ajX _ (by omega)
   have d: (i-l)*sz<=(cs.drop (off+l*sz)).length:=by simp;omega
   by_cases F:n=l
   ·rw[acE F];have:i=l:=by omega
    subst this;refine⟨b,o+off,n-i,sz,[],by simp,by simp,(λC=>by cases C),by simp[chunks],(λj u M=>by simp at M),(λu hu=>by simp at hu),by simp[chunks,bq]⟩
   ·rw[acz F];refine⟨b,o+(off+l*sz),n-l,sz,(vs.drop (off+l*sz)).take ((i-l)*sz),?_,(by rw[LO];omega),(λC=>by cases C),Cg d,s.slice _ _,(q.drop _).take _,?_⟩
    ·simp[iX,alL]
    ·rw[bq.iff,chunks_flatten d];exact(r.drop _).take _
  split at h
  ·rename_i id off;cases h;simp only[ak]at m;obtain⟨S,p,e,c⟩:=m;refine⟨_,key p e,S,_,n-l,rfl,by omega,λJ D=>?_⟩;rw[acz (by omega),LN _ _ _ _ (c J)]
  ·rename_i cs off;split at h
   ·rename_i hle;cases h;simp only[ak]at m;obtain⟨b,o,vs,e,s,q,r⟩:=m;exact frozen b o cs vs off e s q r hle
   ·cases h
  ·rename_i g;split at h
   ·rename_i cs A;split at h
    ·rename_i hle;cases h;simp only[ak]at m;obtain⟨vs,s,q,r⟩:=N.rel I A;have:=frozen g 0 cs vs 0 (by simpa using m) s q r (by omega);simpa using this
    ·cases h
   ·cases h
  grind
 grind
end
section
variable{P:Program}{X:Ctx}{B:Nat}{ax:World}
variable{G:Gh}{E:AS}{w:World}
def LP{z:AV}(h:xj P t=some z)(G:Gh)(w:World): ∃b,(zeroValue t).run P w= .ok b w/\zeroV P t=some b/\ak G z b:=by
 unfold xj at h;split at h
 ·rename_i v a;split at h
  ·rename_i d;cases h;refine⟨v,?_,a,Uo v d⟩;unfold zeroV at a;cases c:P.info? t with
   |none=>grind
   |some i=>
    simp only[c,an1]at a;simp only[zeroValue,Sem.run_bind,run_typeInfo _ c,Result.andThen_ok,a,Sem.run_pure]
  grind
 grind
def rp{z:List AV}(h:gL P t=some z)(G:Gh)(w:World):
  ∃a,(zeroValue t).run P w= .ok a w/\zeroV P t=some a/\aG G z a.cells.toList/\Leaves a.cells.toList/\cx P t=some z.length:=by
 unfold gL at h;split at h
 ·rename_i y n c f;split at h
  ·rename_i b;obtain⟨a,e,g,r⟩:=LP c G w;obtain⟨l,d⟩:=r.cells b.1
   grind
  grind
 grind
theorem ale:IntKind.i64.max=9223372036854775807:=by rfl
theorem km{s:Sem Value}{k:IntKind}{n:Int}{w:World}(h:s.run P w= .ok (.int k n) w): ∃v',s.run P w= .ok v' w/\ak G (.int k n) v':=⟨_,h,by rfl⟩
theorem Ch{s:Sem Value}{b:Bool}{w:World}(h:s.run P w= .ok (.bool b) w): ∃v',s.run P w= .ok v' w/\ak G (.bool b) v':=⟨_,h,by rfl⟩
theorem aym{s:Sem Value}{b:ByteArray}{w:World}(h:s.run P w= .ok (.string b) w): ∃v',s.run P w= .ok v' w/\ak G (.str b) v':=⟨_,h,by rfl⟩
def Ut{c:BinOp}{x y v:AV}{j i:Value}(e:ak G x j)(d:ak G y i)(h:dh c x y=some v)(ho:c≠ .eql)(f:c≠ .neq)(w:World):
  ∃v',(binOp c t j i).run P w= .ok v' w/\ak G v v':=by
 unfold dh at h;split at h
 ·rename_i k a k' b;split at h
  ·rename_i l;subst l;simp only[ak]at e d;subst e d;cases c<;>simp[lI,vf]at h<;>(simp_all)<;>(try rfl)
   all_goals
    first
     | (subst h;exact km (by simp[binOp,Op.intArith,Op.intBits]))
     | (subst h;exact Ch (by simp[binOp,Op.intCmp]))
     | (obtain⟨g,rfl⟩:=h;exact km (by simp[binOp,Op.intDiv,g]))
  grind
 ·rename_i a b;simp only[ak]at e d;subst e d;cases c<;>simp[Ug]at h<;>(try exact absurd rfl ho)<;>(try exact absurd rfl f)
  all_goals
   first
    | (subst h;exact Ch (by simp[binOp,Op.stringOp]))
    | (obtain⟨g,rfl⟩:=h
       refine⟨.string (a++b),?_,by simp[ak]⟩;simp only[binOp,Op.stringOp,Sem.run_ite];rw[acz (by rw[ale];simp only[Uf]at g;omega)];simp)
 grind
def alf{c:BinOp}{k k':IntKind}{a b:Int}{v:AV}(h:vg c k a b=some v)(w:World):
  ∃v',(binOp c t (.int k a) (.int k' b)).run P w= .ok v' w/\ak G v v':=by
 unfold vg at h;split at h
 ·cases h
 ·rename_i d;split at h
  ·cases h;exact km (by simp[binOp,Op.shift,d])
  ·cases h;exact km (by simp[binOp,Op.shift,d])
  grind
def alg{c:UnOp}{x v:AV}{b:Value}(a:ak G x b)(h:xf c x=some v)(w:World): ∃v',(Op.unary c b).run P w= .ok v' w/\ak G v v':=by
 unfold xf at h;split at h
 ·cases h;subst a;exact km (by rfl)
 ·simp only[vf,acy]at h;subst h;subst a;exact km (by rfl)
 ·cases h;subst a;exact Ch (by rfl)
 grind
def alh{s d:TypeId}{k q:IntKind}{n:Int}(b: (P.underlying s).isSome=true)(a:P.underlying d=some (.int k))(w:World):
  (convert s d (.int q n)).run P w= .ok (.int k (k.wrap n)) w:=by
 cases hu:P.underlying s with
 |none=>grind
 |some u=>simp[convert,acH hu,acH a,Conv.intToInt]
def Uu{b:AV}{c:Value}(h:b.zD=true)(r:ak G b c): ∃a,c= .pointer (some a):=by
 cases b<;>simp[AV.zD]at h<;>simp only[ak]at r
 ·grind
 ·grind
 ·grind
 grind
def Uv{b:AV}{d:Value}(h:b.zE=true)(r:ak G b d): ∃a n c,d= .slice (some a) n c:=by
 cases b<;>simp[AV.zE]at h<;>simp only[ak]at r
 ·grind
 ·grind
 grind
def kindOk:EK->TypeDesc->Prop
 |.bool,d=>d= .bool
 |.int,d=> ∃k,d= .int k
 |.str,d=>d= .string
 |.ptr,d=> ∃e,d= .pointer e
 |.sl,d=> ∃e,d= .slice e
 |.map,d=> ∃k e,d= .map k e
 |.cap,_=>False
 |.fn,d=> ∃a b c,d= .func a b c
 |.c8,d=> ∃ms,d= .interface ms
 |.zA _,d=> ∃ms,d= .interface ms
 |.agg _,_=>False
def Uw(P:Program)(t:TypeId):Prop:= ∃i q,P.info? t=some i/\i.comparable=true/\P.underlying t=some (.int q)
def Ux{a ty:TypeId}{e:Array (String×TypeId)}(f:P.underlying t=some (.interface e))(d:Nat)(c b:Value)(w:World)
  (h:a≠ty->r=false) (m:a=ty-> ∃i,P.info? a=some i/\i.comparable=true/\ (Op.equalIn d a c b).run P w= .ok r w): (Op.equalIn (d+1) t (.iface a c) (.iface ty b)).run P w= .ok r w:=by
 rw[Op.equalIn];simp only[Sem.run_bind,acH f,Result.andThen_ok];by_cases g:a=ty
 ·subst g;obtain⟨i,l,k,j⟩:=m rfl;simp[typeInfo,l,k,j]
 simp_all
def Uy{k:EK}{u:TypeDesc}{x y:AV}{F D:Value}(l:P.underlying t=some u)(j:kindOk k u)(g:ak G x F)(f:ak G y D)(h:pJ k x y=some r)(d:Nat)(w:World)(I: ∀ts,k= .zA ts->1<=d/\ ∀t∈ts,Uw P t):
  (Op.equalIn (d+1) t F D).run P w= .ok r w:=by
 unfold pJ at h;split at h
 case h_1=>
  cases h;simp only[ak]at g f;subst g f;simp only[kindOk]at j;subst j;exact run_equalIn_bool w d t _ _ l
 case h_2=>
  split at h
  ·rename_i e;subst e;cases h;simp only[ak]at g f;subst g f;obtain⟨k',rfl⟩:=j;exact run_equalIn_int w d t _ _ _ _ l
  ·cases h
 case h_3=>
  cases h;simp only[ak]at g f;subst g f;simp only[kindOk]at j;subst j;exact run_equalIn_string w d t _ _ l
 case h_4=>
  cases h;simp only[ak]at g f;subst g f;obtain⟨e,rfl⟩:=j;simp[Op.equalIn,acH l]
 case h_5=>
  split at h
  ·rename_i m;cases h;simp only[ak]at g;subst g;obtain⟨e,rfl⟩:=j;obtain⟨a,rfl⟩:=Uu m f;simp[Op.equalIn,acH l]
  ·cases h
 case h_6=>
  split at h
  ·rename_i m;cases h;simp only[ak]at f;subst f;obtain⟨e,rfl⟩:=j;obtain⟨a,rfl⟩:=Uu m g;simp[Op.equalIn,acH l]
  ·cases h
 case h_7=>
  cases h;simp only[ak]at g f;subst g f;obtain⟨e,rfl⟩:=j;simp[Op.equalIn,acH l]
 case h_8=>
  split at h
  ·rename_i m;cases h;simp only[ak]at g;subst g;obtain⟨e,rfl⟩:=j;obtain⟨a,n,c,rfl⟩:=Uv m f;simp[Op.equalIn,acH l]
  ·cases h
 case h_9=>
  split at h
  ·rename_i m;cases h;simp only[ak]at f;subst f;obtain⟨e,rfl⟩:=j;obtain⟨a,n,c,rfl⟩:=Uv m g;simp[Op.equalIn,acH l]
  ·cases h
 case h_10=>
  cases h;simp only[ak]at g f;subst g f;obtain⟨_,_,rfl⟩:=j;simp[Op.equalIn,acH l]
 case h_11=>
  cases h;simp only[ak]at g f;subst g;obtain⟨_,_,rfl,_⟩:=f;obtain⟨_,_,rfl⟩:=j;simp[Op.equalIn,acH l]
 case h_12=>
  cases h;simp only[ak]at g f;subst f;obtain⟨_,_,rfl,_⟩:=g;obtain⟨_,_,rfl⟩:=j;simp[Op.equalIn,acH l]
 case h_13=>
  cases h;simp only[ak]at g f;subst g f;obtain⟨_,_,_,rfl⟩:=j;simp[Op.equalIn,acH l]
 case h_14=>
  cases h;simp only[ak]at g f;subst g;obtain⟨_,_,_,rfl,_⟩:=f;obtain⟨_,_,_,rfl⟩:=j;simp[Op.equalIn,acH l]
 case h_15=>
  cases h;simp only[ak]at g f;subst f;obtain⟨_,_,_,rfl,_⟩:=g;obtain⟨_,_,_,rfl⟩:=j;simp[Op.equalIn,acH l]
 case h_16=>
  cases h;simp only[ak]at g f;subst g f;obtain⟨_,rfl⟩:=j;simp[Op.equalIn,acH l]
 case h_17=>
  cases h;simp only[ak]at g f;subst g;obtain⟨_,rfl,_⟩:=f;obtain⟨_,rfl⟩:=j;simp[Op.equalIn,acH l]
 case h_18=>
  cases h;simp only[ak]at g f;subst f;obtain⟨_,rfl,_⟩:=g;obtain⟨_,rfl⟩:=j;simp[Op.equalIn,acH l]
 case h_19=>
  rename_i ts tx q a ty H b;simp only[ak]at g f;obtain⟨_,rfl,rfl⟩:=g;obtain⟨_,rfl,rfl⟩:=f;obtain⟨ms,rfl⟩:=j;obtain⟨J,o⟩:=I ts rfl;split at h
  ·rename_i p;subst p;split at h
   ·rename_i A;obtain⟨A,rfl⟩:=A;cases h;obtain⟨i,H,z,v,s⟩:=o tx (by simpa using A);obtain⟨C,rfl⟩: ∃C,d=C+1:=⟨d-1,by omega⟩;exact Ux l _ _ _ w (λe=>absurd rfl e) λ_=>⟨i,z,v,run_equalIn_int w C tx q H a b s⟩
   ·cases h
  ·rename_i p;cases h;exact Ux l _ _ _ w (λ_=>rfl) λe=>absurd e p
 case h_20=>cases h
def Uz{c d:List EK}{a b:List AV}(j:a.length=(c++d).length)(i:b.length=(c++d).length)(h:ij (c++d) a b=some r):
  ∃e,ij c (a.take c.length) (b.take c.length)=some e/\ (e=false->r=false)/\ (e=true->ij d (a.drop c.length) (b.drop c.length)=some r):=by
 induction c generalizing a b with
 |nil=>exact⟨true,by rfl,by simp,λ_=>by grind⟩
 |cons k f g=>
  cases a with
  |nil=>grind
  |cons x xs=>
   cases b with
   |nil=>grind
   |cons y ys=>
    simp only[af3,ij]at h;simp only[aep,aoo,anc,ij]
    grind
def xo:TypeDesc->Bool
 |.struct _|.array _ _=>true
 |_=>false
def xp{u:TypeDesc}(h:P.underlying t=some u):my P t=some (xo u):=by
 unfold my;rw[h];cases u<;>rfl
def FY(P:Program)(d:Nat)(t:TypeId)(a:List EK):Prop:=
 ∀ (D:Nat),d<=D-> ∀ (G:Gh) (w:World) (xs ys:Array Value) (as bs:List AV) (off:Nat) (r:Bool),cx P t=some a.length->aG G as xs.toList->aG G bs ys.toList->Leaves xs.toList->Leaves ys.toList->
   off+a.length<=as.length->off+a.length<=bs.length->ij a ((as.drop off).take a.length) ((bs.drop off).take a.length)=some r->
   ∃x y,(Go.part t xs off).run P w= .ok x w/\ (Go.part t ys off).run P w= .ok y w/\ (Op.equalIn D t x y).run P w= .ok r w
def UA(F: ∀t a,nh P d t=some a->FY P d t a): ∀ (fs:List Field) (off:Nat) (a:List EK),zG P (nh P d) fs off=some a->
  ∀ (D:Nat),d<=D-> ∀ (G:Gh) (w:World) (xs ys:Array Value) (as bs:List AV) (r:Bool),aG G as xs.toList->aG G bs ys.toList->Leaves xs.toList->Leaves ys.toList->
  off+a.length<=as.length->off+a.length<=bs.length->ij a ((as.drop off).take a.length) ((bs.drop off).take a.length)=some r->
  (Op.eqFields D xs ys fs).run P w= .ok r w:=by
 intro fs
 induction fs with
 |nil=>
  intro off a h D g G w xs ys as bs r _ _ _ _ _ _ he;simp only[zG,acy]at h;subst h;simp[ij]at he;subst he;simp[Op.eqFields]
 |cons f fs q=>
  intro off a h D g G w xs ys as bs r k j f1 f2 A z he;simp only[zG]at h;split at h
  ·rename_i c e;split at h
   ·rename_i v;obtain⟨u,ho,s⟩:=v;cases b:zG P (nh P d) fs (off+c.length)with
    |none=>simp[b]at h
    |some p=>
     simp only[b,aei,acy]at h;subst h;simp only[ac6]at A z;obtain⟨i,e1,C,e3⟩:=Uz (by simp;omega) (by simp;omega) he;rw[aoF,aoF,ac6,aon (Nat.le_add_right _ _)]at e1;obtain⟨x,y,o,n,m⟩:=F f.type c e D g G w xs ys as bs off i s k j f1 f2 (by omega) (by omega) e1;simp only[Op.eqFields,ho];rw[acE u];simp only[Sem.run_bind,o,n,m,Result.andThen_ok];cases i with
     |false=>simp[C rfl]
     |true=>
      simp only[arq,aek,ahz];have l:=e3 rfl;rw[avG,avG,an4,an4,ac6,ajJ]at l;exact q (off+c.length) p b D g G w xs ys as bs r k j f1 f2 (by omega) (by omega) l
   grind
  grind
def LQ{u:TypeDesc}{k:EK}(o:P.underlying t=some u)(q:kindOk k u)(g:my P t=some false)(p: ∀ts,k≠ .zA ts):FY P (d+1) t [k]:=by
 intro D H G w xs ys as bs off r F l j f1 f2 v s he;simp only[aoQ]at v s he;have C:as[off]?=some (as[off]'(by omega)):=acJ _;have A:bs[off]?=some (bs[off]'(by omega)):=acJ _;obtain⟨x,n,rx⟩:=l.get off _ C;obtain⟨y,m,i⟩:=j.get off _ A;have e1: (as.drop off).take 1=[as[off]'(by omega)]:=by rw[amf (by omega)];rfl
 have z: (bs.drop off).take 1=[bs[off]'(by omega)]:=by rw[amf (by omega)];rfl
 rw[e1,z]at he;have c:pJ k as[off] bs[off]=some r:=by
  simp only[ij]at he;split at he
  ·rename_i h;rw[h];exact he
  ·rename_i h;rw[h];exact he
  ·cases he
 have b:xs[off]?=some x:=by simpa using n
 have a:ys[off]?=some y:=by simpa using m
 refine⟨x,y,by simp[Go.part,rn g,b],by simp[Go.part,rn g,a],?_⟩;obtain⟨f,rfl⟩: ∃f,D=f+1:=⟨D-1,by omega⟩;exact Uy o q rx i c f w (λts e=>absurd e (p ts))
theorem LR{D:Nat}{e:TypeId}{a:List EK}(l:FY P D e a)(g:cx P e=some a.length){G:Gh}{w:World}{xs ys:Array Value}{as bs:List AV}(f:aG G as xs.toList)(d:aG G bs ys.toList)(i:Leaves xs.toList)(h:Leaves ys.toList):
  ∀ (m j:Nat) (r:Bool),(j+m)*a.length<=as.length->(j+m)*a.length<=bs.length->ij (List.replicate m a).flatten ((as.drop (j*a.length)).take (m*a.length)) ((bs.drop (j*a.length)).take (m*a.length))=some r->
  (Op.eqItems D e a.length xs ys (List.range' j m)).run P w= .ok r w
 |0,j,r,_,_,he=>by
  simp[ij]at he;subst he;simp[Op.eqItems]
 |m+1,j,r,t,s,he=>by
  have hm: (m+1)*a.length=a.length+m*a.length:=by rw[aog];omega
  have q: (j+(m+1))*a.length=j*a.length+(a.length+m*a.length):=by rw[an3,hm]
  rw[q]at t s;rw[aqG,am4,hm]at he;obtain⟨c,e1,u,e3⟩:=Uz (by simp;omega) (by simp;omega) he;rw[aoF,aoF,aon (Nat.le_add_right _ _)]at e1;obtain⟨x,y,p,o,n⟩:=l D (aeg _) G w xs ys as bs (j*a.length) c g f d i h (by omega) (by omega) e1;rw[List.range'_succ];simp only[Op.eqItems,Sem.run_bind,p,o,n,Result.andThen_ok];cases c with
  |false=>simp[u rfl]
  |true=>
   simp only[arq,aek,ahz];have k:=e3 rfl;rw[avG,avG,an4,an4,ajJ]at k;have b: (j+1)*a.length=j*a.length+a.length:=aog _ _;refine LR l g f d i h m (j+1) r ?_ ?_ ?_
   ·have: (j+1+m)*a.length=j*a.length+(a.length+m*a.length):=by rw[an3,b];omega
    omega
   ·have: (j+1+m)*a.length=j*a.length+(a.length+m*a.length):=by rw[an3,b];omega
    omega
   ·rw[b];exact k
theorem FZ: ∀ (d:Nat) (t:TypeId) (b:List EK),nh P d t=some b->FY P d t b
 |0,_,_,h=>by trivial
 |d+1,t,b,h=>by
  simp only[nh]at h;split at h
  ·rename_i hu;cases h;exact LQ (k:=.bool) hu rfl (xp hu) (by simp)
  ·rename_i hu;cases h;exact LQ (k:=.int) hu ⟨_,rfl⟩ (xp hu) (by simp)
  ·rename_i hu;cases h;exact LQ (k:=.str) hu rfl (xp hu) (by simp)
  ·rename_i fields hu;split at h
   ·rename_i F;intro D K G w xs ys as bs off r j p o f1 f2 A z he;have s: (Go.part t xs off).run P w= .ok (.agg (xs.extract off (off+b.length))) w:=by simp[Go.part,rn (xp hu),ni j,xo]
    have q: (Go.part t ys off).run P w= .ok (.agg (ys.extract off (off+b.length))) w:=by simp[Go.part,rn (xp hu),ni j,xo]
    refine⟨_,_,s,q,?_⟩;obtain⟨f,rfl⟩: ∃f,D=f+1:=⟨D-1,by omega⟩;have x:P.fieldsOf t=fields:=by simp[Program.fieldsOf,hu]
    rw[run_equalIn_struct w f t _ _ (by rw[x];exact hu) F,x];have ex: (xs.extract off (off+b.length)).toList=(xs.toList.drop off).take b.length:=by rw[atl,aqe];simp
    have m: (ys.extract off (off+b.length)).toList=(ys.toList.drop off).take b.length:=by rw[atl,aqe];simp
    refine UA (λt b h=>FZ d t b h) fields.toList 0 b h f (by omega) G w _ _ ((as.drop off).take b.length) ((bs.drop off).take b.length) r (by rw[ex];exact(p.drop _).take _) (by rw[m];exact(o.drop _).take _)
     (by rw[ex];exact(f1.drop _).take _) (by rw[m];exact(f2.drop _).take _) (by simp;omega) (by simp;omega) ?_
    rw[aks,aks,aoF,aoF,awp];exact he
   ·cases h
  ·rename_i n e hu;split at h
   ·rename_i a H;split at h
    ·rename_i J;obtain⟨l,_⟩:=J;cases h;intro D K G w xs ys as bs off r j p o f1 f2 A z he;have u: (List.replicate n a).flatten.length=n*a.length:=by simp
     rw[u]at A z he j;have s: (Go.part t xs off).run P w= .ok (.agg (xs.extract off (off+n*a.length))) w:=by simp[Go.part,rn (xp hu),ni j,xo]
     have q: (Go.part t ys off).run P w= .ok (.agg (ys.extract off (off+n*a.length))) w:=by simp[Go.part,rn (xp hu),ni j,xo]
     refine⟨_,_,s,q,?_⟩;obtain⟨f,rfl⟩: ∃f,D=f+1:=⟨D-1,by omega⟩;have c:=l;unfold cx at c;obtain⟨i,I,C⟩:=aeh.1 c;rw[run_equalIn_array w f _ _ hu I];have g:P.cellsOf e=a.length:=by
      unfold Program.cellsOf;rw[c];rfl
     rw[g,axh];have ex: (xs.extract off (off+n*a.length)).toList=(xs.toList.drop off).take (n*a.length):=by rw[atl,aqe];simp
     have m: (ys.extract off (off+n*a.length)).toList=(ys.toList.drop off).take (n*a.length):=by rw[atl,aqe];simp
     refine LR (as:=(as.drop off).take (n*a.length)) (bs:=(bs.drop off).take (n*a.length)) (λv y=>FZ d e a H v (by omega)) l (by rw[ex];exact(p.drop _).take _) (by rw[m];exact(o.drop _).take _)
      (by rw[ex];exact(f1.drop _).take _) (by rw[m];exact(f2.drop _).take _) n 0 r (by simp;omega) (by simp;omega) ?_
     rw[Nat.zero_mul,aks,aks,aoF,aoF,awp];exact he
    ·cases h
   ·cases h
  grind
end
section
variable{P:Program}{X:Ctx}{B:Nat}{ax:World}
variable{G:Gh}{E:AS}{w:World}
def xq:Operand->Bool
 |.const _=>true
 |_=>false
def zO(c:BinOp)(t:TypeId)(x y:Operand)(a b:Value)(e:a= .nilIface->b= .nilIface->(xq x||xq y)=true)(d: ∀xs ys,a= .agg xs->b= .agg ys->P.eqGuardType P.depth t=false)(w:World):
  (eqGuard c t x y a b).run P w= .ok () w:=by
 cases c<;>(simp_all)<;>cases a<;>(try(simp[eqGuard];done))<;>cases b<;>(try(simp[eqGuard];done))
 all_goals first
  | (have h:=d _ _ rfl rfl;simp[eqGuard,aoG,h];done)
  | (have h:=e rfl rfl;cases x<;>cases y<;>simp[xq]at h<;>simp[eqGuard])
def Ci:Value->Bool
 |.int _ _|.float _ _|.complex _ _ _|.string _=>false
 |_=>true
def binOp_eql{x y:Value}(a:Ci x=true)(t:TypeId):binOp .eql t x y=(do pure (.bool (<-Op.equal t x y))):=by
 cases x<;>simp[Ci]at a<;>first|rfl|rfl
def binOp_neq{x y:Value}(a:Ci x=true)(t:TypeId):binOp .neq t x y=(do pure (.bool (!(<-Op.equal t x y)))):=by
 cases x<;>simp[Ci]at a<;>first|rfl|rfl
def sV:AV->Bool
 |.int _ _|.str _|.av _|.pG=>false
 |_=>true
def ali{x:AV}{a:Value}(h:sV x=true)(r:ak G x a):Ci a=true:=by
 cases x<;>simp[sV]at h<;>simp only[ak]at r
 all_goals first
  |rfl
  | (obtain⟨_,rfl,_⟩:=r;rfl)
  | (obtain⟨_,_,rfl,_⟩:=r;rfl)
  | (obtain⟨_,_,_,rfl,_⟩:=r;rfl)
  | (obtain⟨_,_,_,_,rfl,_⟩:=r;rfl)
  | (obtain⟨_,_,_,_,_,rfl,_⟩:=r;rfl)
  | (obtain⟨⟨_,rfl⟩,_⟩:=r;rfl)
def alj{x:AV}{xs:Array Value}(h:x.cm=false)(r:ak G x (.agg xs)): ∃cs,x= .agg cs:=by
 cases x<;>simp[AV.cm]at h<;>simp[ak]at r
 grind
def alk{x y:Operand}{k:EK}(h:xk P t x y=some k):
  (∃u,P.underlying t=some u/\kindOk k u/\ (k= .c8->(xq x||xq y)=true)/\ ∀ts,k= .zA ts-> ∀t∈ts,Uw P t)\/
  (∃a u,P.underlying t=some u/\xo u=true/\k= .agg a/\nh P 10 t=some a/\P.eqGuardType P.depth t=false):=by
 unfold xk at h;split at h
 ·rename_i hu;cases h;exact .inl ⟨_,hu,rfl,by simp,by simp⟩
 ·rename_i hu;cases h;exact .inl ⟨_,hu,⟨_,rfl⟩,by simp,by simp⟩
 ·rename_i hu;cases h;exact .inl ⟨_,hu,rfl,by simp,by simp⟩
 ·rename_i hu;cases h;exact .inl ⟨_,hu,⟨_,rfl⟩,by simp,by simp⟩
 ·rename_i hu;cases h;exact .inl ⟨_,hu,⟨_,rfl⟩,by simp,by simp⟩
 ·rename_i hu;cases h;exact .inl ⟨_,hu,⟨_,_,rfl⟩,by simp,by simp⟩
 ·rename_i hu;cases h;exact .inl ⟨_,hu,⟨_,_,_,rfl⟩,by simp,by simp⟩
 ·rename_i hu;split at h
  ·cases h;exact .inl ⟨_,hu,⟨_,rfl⟩,by simp[xq],by simp⟩
  ·cases h;exact .inl ⟨_,hu,⟨_,rfl⟩,by simp[xq],by simp⟩
  ·cases h;refine .inl ⟨_,hu,⟨_,rfl⟩,by simp,λts d t b=>?_⟩;cases d;simp only[Uh,aey]at b;obtain⟨_,b⟩:=b;split at b
   ·rename_i i q g f;exact⟨i,q,g,b,f⟩
   ·cases b
 ·rename_i hu;split at h
  ·rename_i e;cases c:nh P 10 t with
   |none=>simp[c]at h
   |some a=>simp[c]at h;exact .inr ⟨a,_,hu,rfl,h.symm,rfl,e⟩
  ·cases h
 ·rename_i hu;split at h
  ·rename_i e;cases c:nh P 10 t with
   |none=>simp[c]at h
   |some a=>simp[c]at h;exact .inr ⟨a,_,hu,rfl,h.symm,rfl,e⟩
  ·cases h
 grind
def alm{k:EK}{x y:AV}{u:TypeDesc}(b:kindOk k u):dA k x y=pJ k x y:=by
 cases k with
 |agg a=>trivial
 |_=>rfl
def UB{b:AV}(h:b.zD=true):sV b=true/\ (∀cs,b≠ .agg cs)/\b≠ .eC/\b.cm=false:=by
 cases b<;>simp[AV.zD]at h<;>simp[sV,AV.cm]
def UC{b:AV}(h:b.zE=true):sV b=true/\ (∀cs,b≠ .agg cs)/\b≠ .eC/\b.cm=false:=by
 cases b<;>simp[AV.zE]at h<;>simp[sV,AV.cm]
def aln{k:EK}{x y:AV}(h:pJ k x y=some r):
  (k= .int/\ ∃q a b,x= .int q a/\y= .int q b/\r=(a==b))\/ (k= .str/\ ∃a b,x= .str a/\y= .str b/\r=(a.toList==b.toList))\/ (sV x=true/\ (∀cs,x≠ .agg cs)/\ (∀cs,y≠ .agg cs)/\ (x= .eC->k= .c8)/\x.cm=false/\y.cm=false):=by
 unfold pJ at h;split at h
 case h_1=>exact .inr (.inr (by simp[sV,AV.cm]))
 case h_2=>grind
 case h_3=>grind
 case h_5=>
  split at h
  ·rename_i f;obtain⟨_,d,g,c⟩:=UB f;exact .inr (.inr ⟨rfl,by simp,d,by simp,rfl,c⟩)
  ·cases h
 case h_6=>
  split at h
  ·rename_i f;obtain⟨i,d,g,c⟩:=UB f;exact .inr (.inr ⟨i,d,by simp,λe=>absurd e g,c,rfl⟩)
  ·cases h
 case h_8=>
  split at h
  ·rename_i f;obtain⟨_,d,g,c⟩:=UC f;exact .inr (.inr ⟨rfl,by simp,d,by simp,rfl,c⟩)
  ·cases h
 case h_9=>
  split at h
  ·rename_i f;obtain⟨i,d,g,c⟩:=UC f;exact .inr (.inr ⟨i,d,by simp,λe=>absurd e g,c,rfl⟩)
  ·cases h
 case h_20=>cases h
 all_goals exact .inr (.inr (by simp[sV,AV.cm]))
def alo{x:AV}(h:x.cm=false)(r:ak G x .nilIface):x= .eC:=by
 cases x<;>simp[AV.cm]at h<;>simp[ak]at r;rfl
def UD{A z:Operand}{k:EK}(hk:xk P t A z=some k){x y:AV}{m l:Value}(j:ak G x m)(v:ak G y l)(h:dA k x y=some r)(w:World):
  (eqGuard .eql t A z m l).run P w= .ok () w/\ (binOp .eql t m l).run P w= .ok (.bool r) w/\ (eqGuard .neq t A z m l).run P w= .ok () w/\ (binOp .neq t m l).run P w= .ok (.bool !r) w:=by
 rcases alk hk with⟨u,hu,C,F,D⟩| ⟨K,u,hu,I,rfl,f,hg⟩
 ·rw[alm C]at h;rcases aln h with⟨rfl,q,a,b,rfl,rfl,rfl⟩| ⟨rfl,a,b,rfl,rfl,rfl⟩| ⟨h1,h2,h3,h4,V,h6⟩
  ·subst j v;exact⟨zO _ _ _ _ _ _ (by simp) (by simp) w,by simp[binOp,Op.intCmp],zO _ _ _ _ _ _ (by simp) (by simp) w,by simp[binOp,Op.intCmp,bne]⟩
  ·simp only[ak]at j v;subst j v;exact⟨zO _ _ _ _ _ _ (by simp) (by simp) w,by simp[binOp,Op.stringOp],zO _ _ _ _ _ _ (by simp) (by simp) w,by simp[binOp,Op.stringOp]⟩
  ·have S:=ali h1 j;have e: (Op.equal t m l).run P w= .ok r w:=Uy hu C j v h 9999 w (λts L=>⟨by decide,D ts L⟩);have g: ∀op,(eqGuard op t A z m l).run P w= .ok () w:=λop=>by
    refine zO _ _ _ _ _ _ (λQ _=>?_) (λxs ys Q _=>?_) w
    ·subst Q;exact F (h4 (alo V j))
    ·subst Q;obtain⟨cs,rfl⟩:=alj V j;exact absurd rfl (h2 cs)
   exact⟨g _,by simp[binOp_eql S,e],g _,by simp[binOp_neq S,e]⟩
 ·unfold dA at h;split at h
  ·rename_i c xs ys he;cases he;split at h
   ·rename_i o;simp only[ak]at j v;obtain⟨s,rfl,lx,Y⟩:=j;obtain⟨J,rfl,ly,W⟩:=v;have g: ∀op,(eqGuard op t A z (.agg s) (.agg J)).run P w= .ok () w:=λop=>zO _ _ _ _ _ _ (by simp) (λ_ _ _ _=>hg) w
    have e: (Op.equal t (.agg s) (.agg J)).run P w= .ok r w:=by
     rw[show(10:Nat)=9+1 from rfl,nh,hu]at f;cases u<;>simp only[xo,aek]at I
     ·rename_i n e;simp only at f;split at f
      ·rename_i c M;split at f
       ·rename_i O;obtain⟨H,_⟩:=O;cases f;have d:=H;unfold cx at d;obtain⟨i,hi,rq⟩:=aeh.1 d;show(Op.equalIn (9999+1) t (.agg s) (.agg J)).run P w=_;rw[run_equalIn_array w 9999 _ _ hu hi];have p:P.cellsOf e=c.length:=by
         unfold Program.cellsOf;rw[d];rfl
        rw[p,axh];have N: (List.replicate n c).flatten.length=n*c.length:=by simp
        rw[N]at o;refine LR (as:=xs) (bs:=ys) (λR U=>FZ 9 e c M R (by omega)) H lx ly Y W n 0 r (by rw[ajg];omega) (by rw[ajg];omega) ?_;rw[Nat.zero_mul,aks,aks,<-o.1,aeo,o.1,<-o.2,aeo];exact h
       ·cases f
      ·cases f
     ·rename_i fs;simp only at f;split at f
      ·rename_i hp;have T:P.fieldsOf t=fs:=by simp[Program.fieldsOf,hu]
       show(Op.equalIn (9999+1) t (.agg s) (.agg J)).run P w=_;rw[run_equalIn_struct w 9999 t _ _ (by rw[T];exact hu) hp,T];refine UA (λt K h=>FZ 9 t K h) fs.toList 0 K f 9999 (by omega) G w _ _ xs ys r lx ly Y W (by omega) (by omega) ?_;rw[aks,aks,<-o.1,aeo,o.1,<-o.2,aeo];exact h
      ·cases f
    exact⟨g _,by simp[binOp_eql (x:=.agg s) rfl,e],g _,by simp[binOp_neq (x:=.agg s) rfl,e]⟩
   ·cases h
  ·cases h
  ·rename_i n1 Z;first|exact(n1 _ rfl).elim|exact(Z _ rfl).elim
def alp{a:TypeId}{u:TypeDesc}(g:P.underlying a=some u)(b: ∀ms,u≠ .interface ms){z:AV}(o:xj P a=some z){x v:AV}{l:Value}{j:Bool}(f:ak G x l)(h:zF z x a j=some v)(n:TypeId)(w:World):
  ∃v',(Instr.typeAssert l n a j).run P w= .ok v' w/\ak G v v':=by
 obtain⟨d,e,_,rz⟩:=LP o G w;unfold zF at h;split at h
 ·simp only[ak]at f;subst f;split at h
  ·rename_i c;subst c;cases h;refine⟨.tuple #[d,.bool false],?_,⟨_,rfl,⟨d,_,rfl,rz,⟨_,_,rfl,by simp[ak],by simp[aG]⟩⟩⟩⟩;cases u<;>first|exact absurd rfl (b _)|simp[Instr.typeAssert,acH g,e]
  ·cases h
 ·rename_i p y;simp only[ak]at f;obtain⟨i,rfl,m⟩:=f;split at h
  ·rename_i k;subst k;cases h;cases j with
   |true=>
    refine⟨.tuple #[i,.bool true],?_,⟨_,rfl,⟨i,_,rfl,m,⟨_,_,rfl,by simp[ak],by simp[aG]⟩⟩⟩⟩;cases u<;>first|exact absurd rfl (b _)|simp[Instr.typeAssert,acH g]
   |false=>
    refine⟨i,?_,m⟩;cases u<;>first|exact absurd rfl (b _)|simp[Instr.typeAssert,acH g]
  ·rename_i k;split at h
   ·rename_i c;subst c;cases h;refine⟨.tuple #[d,.bool false],?_,⟨_,rfl,⟨d,_,rfl,rz,⟨_,_,rfl,by simp[ak],by simp[aG]⟩⟩⟩⟩;cases u<;>first|exact absurd rfl (b _)|simp[Instr.typeAssert,acH g,e,k]
   ·cases h
 ·cases h
def alq{u:TypeDesc}(a:P.underlying t=some u)(b: ∀ms,u≠ .interface ms)(x:Value)(w:World): (Instr.makeInterface t x).run P w= .ok (.iface t x) w:=by
 cases u<;>first|grind|simp[Instr.makeInterface,run_underlying a]
def alr{x v:AV}{d:Value}(c:ak G x d)(h:vl x=some v):v=x/\ ((∃a,d= .pointer (some a))\/ (∃f a b,d= .func (.func f) a b)\/ ∃f a b,d= .func (.yield f) a b):=by
 unfold vl at h;split at h
 all_goals(try cases h)
 ·simp only[ak]at c;grind
 ·simp only[ak]at c;grind
 ·simp only[ak]at c;grind
 ·simp only[ak]at c;grind
 ·simp only[ak,mz]at c;grind
 ·simp only[ak,mz]at c;grind
theorem fB.length: ∀ {es:List (AV×AV)} {ms:List MapEntry},fB G es ms->ms.length=es.length
 | [],ms,r=>by simp only[fB]at r;grind
 | (k,v)::es,ms,r=>by
   obtain⟨m,q,rfl,_,_,_,h⟩:=r;simp[fB.length h]
def LS(f:aY P B ax G E w){ty:TypeId}{u:TypeDesc}{k:EK}(c:P.underlying t=some u)(b:kindOk k u){x v:AV}{d:Value}(a:ak G x d)(h:fb E k x=some v):
  ∃v',(Builtin.len_ #[t] ty #[d]).run P w= .ok v' w/\ak G v v':=by
 unfold fb at h;split at h
 ·cases h;simp only[ak]at a;subst a;simp only[kindOk]at b;subst b;exact km (by simp[Builtin.len_,acH c,goInt])
 ·cases h;simp only[ak]at a;subst a;obtain⟨e,rfl⟩:=b;exact km (by simp[Builtin.len_,acH c,goInt])
 ·cases h;simp only[ak]at a;obtain⟨_,_,_,_,_,rfl,_⟩:=a;obtain⟨e,rfl⟩:=b;exact km (by simp[Builtin.len_,acH c,goInt])
 ·cases h;simp only[ak]at a;obtain⟨_,_,_,_,rfl,_⟩:=a;obtain⟨e,rfl⟩:=b;exact km (by simp[Builtin.len_,acH c,goInt])
 ·cases h;simp only[ak]at a;obtain⟨_,_,_,rfl,_⟩:=a;obtain⟨e,rfl⟩:=b;exact km (by simp[Builtin.len_,acH c,goInt])
 ·cases h;simp only[ak]at a;subst a;obtain⟨_,e,rfl⟩:=b;exact km (by simp[Builtin.len_,acH c,goInt])
 ·rename_i id;split at h
  ·rename_i es he;cases h;obtain⟨l,ms,clock,j,hm⟩:=f.obj id _ he a.FQ;simp only[ak]at a;obtain⟨_,r,rfl,g⟩:=a;obtain⟨_,e,rfl⟩:=b;rw[g l];have i:ms.size=es.length:=by rw[<-ajR];exact hm.length
   exact km (by simp[Builtin.len_,acH c,goInt,getObj,Sem.run,j,i])
  ·cases h
 ·exact b.elim
 ·exact b.elim
 ·exact b.elim
 ·cases h
def als{ty:TypeId}(b:P.underlying t=some (.slice e)){x v:AV}{d:Value}(a:ak G x d)(h:fb E .cap x=some v)(w:World):
  ∃v',(Builtin.cap_ #[t] ty #[d]).run P w= .ok v' w/\ak G v v':=by
 unfold fb at h;split at h<;>first|grind|skip
 all_goals simp_all
 ·cases h;subst a;exact km (by simp[Builtin.cap_,acH b,goInt])
 ·cases h;simp only[ak]at a;obtain⟨_,_,cap,_,_,rfl,_,c,_⟩:=a;rw[<-c trivial];exact km (by simp[Builtin.cap_,acH b,goInt])
 ·cases h;simp only[ak]at a;obtain⟨_,_,_,cap,rfl,_,c,_⟩:=a;rw[<-c trivial];exact km (by simp[Builtin.cap_,acH b,goInt])
theorem LU{f:AV->AV->Option AV}{g:Value->Value->Sem Value}(m: ∀a b c a' o,f a b=some c->ak G a a'->ak G b o-> ∃n,(∀w,(g a' o).run P w= .ok n w)/\ak G c n):
  ∀ (xs:List AV) (x:AV) (v:AV) (j:Value) (d:List Value),ga f (x::xs)=some v->ak G x j->aG G xs d-> ∀w,∃v',(d.foldlM g j).run P w= .ok v' w/\ak G v v'
 | [],x,v,j,d,h,l,i,w=>by
   subst i;unfold ga at h;simp_all
 |y::ys,x,v,j,d,h,l,i,w=>by
  obtain⟨s,k,rfl,r,i⟩:=i;unfold ga at h;split at h
  ·rename_i z q;obtain⟨p,e,rz⟩:=m _ _ _ _ _ q l r;obtain⟨v',t,rv⟩:=LU m ys z v p k h rz i w;simp_all
  grind
def alu{j:Array TypeId}{xs:List AV}{v:AV}{d:Array Value}(g:aG G xs d.toList)(h:ga pL xs=some v)(w:World):
  ∃v',(Builtin.max_ j t d).run P w= .ok v' w/\ak G v v':=by
 cases xs with
 |nil=>simp[ga]at h
 |cons x xs=>
  obtain⟨i,r,e,k,g⟩:=g;simp only[Builtin.max_,e];refine LU (λa b c a' n f m l=>?_) xs x v i r h k g w;unfold pL at f;split at f
  ·cases f;subst m l;exact⟨_,λw=>by rfl,by rfl⟩
  grind
def alv{j:Array TypeId}{xs:List AV}{v:AV}{d:Array Value}(g:aG G xs d.toList)(h:ga vi xs=some v)(w:World):
  ∃v',(Builtin.min_ j t d).run P w= .ok v' w/\ak G v v':=by
 cases xs with
 |nil=>simp[ga]at h
 |cons x xs=>
  obtain⟨i,r,e,k,g⟩:=g;simp only[Builtin.min_,e];refine LU (λa b c a' n f m l=>?_) xs x v i r h k g w;unfold vi at f;split at f
  ·cases f;subst m l;exact⟨_,λw=>by rfl,by rfl⟩
  grind
end
section
variable{P:Program}{X:Ctx}{B:Nat}{ax:World}
variable{G:Gh}{E:AS}{w:World}
def aG.aM{cs vs:List AV}{b:List Value}{off:Nat}(a:aG G cs c.toList)(d:aG G vs b)(h:off+vs.length<=cs.length):
  aG G (aM cs off vs) (kj c off b).toList:=by
 have e:=d.length;have f:=a.length;rw[ajR]at f;rw[FT _ _ _ (by omega)];rw[e];exact(a.take off).append (d.append (a.drop _))
def Leaves.aM{a:List Value}{off:Nat}(b:Leaves c.toList)(d:Leaves a)(h:off+a.length<=c.size):Leaves (kj c off a).toList:=by
 rw[FT _ _ _ h];exact(b.take off).append (d.append (b.drop _))
theorem UE(off:Nat): ∀ (l:List Value) (k:Nat) (c:Array Value),(l.zipIdx k).foldl (λcs (p:Value×Nat)=>cs.setIfInBounds (off+p.2) p.1) c=kj c (off+k) l
 | [],_,_=>rfl
 |v::l,k,c=>by
  simp only[List.zipIdx_cons,awW,kj];rw[UE off l (k+1)];rfl
theorem F0{nt:Nat}{e:Env}{a:Act}(v:cL G nt e a.tmps){b Cj:Nat->Option (Nat×Nat)}(u: ∀i p,b i=some p->Cj i=some p):
  ∀ (ps:List (Nat×Operand)) (l:List (Nat×Nat×ao)) (cs d:List AV) (c:Array Value),parts b ps=some l->ee cs (l.map λp=>(p.1,p.2.1,p.2.2.get e))=some d->aG G cs c.toList->Leaves c.toList->
  ∃j,Instr.fill Cj c (ps.map λp=>(p.1,a.eval p.2))=some j/\aG G d j.toList/\Leaves j.toList
 | [],l,cs,d,c,h,g,k,q=>by
   simp only[parts,acy]at h;subst h;simp only[avb,ee,acy]at g;subst g;exact⟨c,by rfl,k,q⟩
 | (i,x)::ps,l,cs,d,c,h,g,k,q=>by
   simp only[parts]at h;split at h
   ·rename_i off n y z H F D;cases h;simp only[alM,ee]at g;split at g
    ·rename_i C;obtain⟨t1,t2,t3⟩:=C;have A:=cF v F;obtain⟨t,m⟩:=A.cells t1;have f:=t.length;rw[ajR]at f;have s:=k.length;rw[ajR]at s;obtain⟨j,I,r,o⟩:=F0 v u ps z _ d (kj c off (a.eval x).cells.toList) D g (k.aM t (by omega)) (q.aM m (by rw[ajR];omega));refine⟨j,?_,r,o⟩;simp only[alM,Instr.fill,u i _ H];rw[acz (by simp only[ne_eq,anX,aje];omega)];rw[<-I]
     congr 1
     rw[<-Array.foldl_toList,Array.toList_zipIdx];exact UE off _ 0 c
    grind
   grind
def alw{b:Array Field}{z:List AV}(O:P.underlying t=some (.struct b))(M:gL P t=some z)(L:b.toList.all (λf=>(cx P f.type).isSome)=true)
   {e:Env}  (K:cL G nt e a.tmps) {o:Array (Nat×Operand)} {l:List (Nat×Nat×ao)}
  (H:parts (λi=>match b[i]? with|some f=>(cx P f.type).map λn=>(f.offset,n)|none=>none) o.toList=some l) {cs:List AV} (J:ee z (l.map λp=>(p.1,p.2.1,p.2.2.get e))=some cs) (w:World):
  ∃v',(Instr.build t (o.map λ (i,x)=>(i,a.eval x))).run P w= .ok v' w/\ak G (.agg cs) v':=by
 obtain⟨m,_,D,lz,q,_⟩:=rp M G w;obtain⟨it,I,C⟩: ∃it,P.info? t=some it/\it.zero=some m:=by
  unfold zeroV at D;cases d:P.info? t with
  |none=>grind
  |some i=>grind
 have hm: ∀ (fs:List Field),fs.all (λf=>(cx P f.type).isSome)=true-> ∃places,fs.mapM (λf=>(P.info? f.type).map λi=>(f.offset,i.size))=some places/\ ∀ (i:Nat) (f:Field),fs[i]?=some f-> ∃n,cx P f.type=some n/\places[i]?=some (f.offset,n):=by
  intro fs
  induction fs with
  |nil=>simp
  |cons f fs y=>
   intro c;simp only[auk,afJ]at c;obtain⟨places,e1,N⟩:=y c.2;cases d:P.info? f.type with
   |none=>simp[cx,d]at c
   |some i=>
    refine⟨(f.offset,i.size)::places,by simp[axj,d,e1],λj g s=>?_⟩;cases j with
    |zero=>simp at s;subst s;exact⟨i.size,by simp[cx,d],by simp⟩
    |succ j=>simpa using N j g (by simpa using s)
 obtain⟨places,F,k⟩:=hm _ L;have A:m.cells.toList=m.cells.toList:=rfl;obtain⟨u,Q,r,v⟩:=F0 (Cj:=(places.toArray[·]?)) K (λi p d=>by
  cases h:b[i]? with
  |none=>simp[h]at d
  |some f=>
   obtain⟨n,s1,s2⟩:=k i f (by simpa using h);simp[h,s1]at d;subst d;simpa using s2) o.toList l z cs m.cells H J lz q
 refine⟨.agg u,?_,⟨u,rfl,r,v⟩⟩;refine run_build w t _ u ?_;unfold Program.built;simp_all
def alx{b:TypeId}{z:List AV}(F:P.underlying t=some (.array n b))(D:gL P t=some z)(C:cx P b=some sz)
   {e:Env}  (A:cL G nt e a.tmps) {c:Array (Nat×Operand)} {l:List (Nat×Nat×ao)}
  (s:parts (λi=>some (i*sz,sz)) c.toList=some l) {cs:List AV} (y:ee z (l.map λp=>(p.1,p.2.1,p.2.2.get e))=some cs) (w:World):
  ∃v',(Instr.build t (c.map λ (i,x)=>(i,a.eval x))).run P w= .ok v' w/\ak G (.agg cs) v':=by
 obtain⟨h,_,o,lz,d,_⟩:=rp D G w;obtain⟨it,u,m⟩: ∃it,P.info? t=some it/\it.zero=some h:=by
  unfold zeroV at o;cases j:P.info? t with
  |none=>grind
  |some i=>grind
 obtain⟨f,v,q⟩: ∃f,P.info? b=some f/\f.size=sz:=by
  unfold cx at C;simp_all
 obtain⟨g,H,r,k⟩:=F0 (Cj:=λi=>some (i*sz,sz)) A (λi p j=>j) c.toList l z cs h.cells s y lz d;refine⟨.agg g,?_,⟨g,rfl,r,k⟩⟩;refine run_build w t _ g ?_;unfold Program.built;simp_all
def LV{af:List (List AV)}(h:af.all (λel=>el.length==sz)=true): ∀el∈af,el.length=sz:=by grind
def aly(r:aY P B ax G E w){x:AV}{q:Value}{af:List (List AV)}(g:ak G x q)(h:elems E sz x=some af):
  (af=[]/\q= .slice none 0 0)\/
  ∃a cap vs,q= .slice (some a) af.length cap/\ (∀el∈af,el.length=sz)/\bq G af vs/\Leaves vs/\ (vs=[]\/ ∃b o,a=⟨b,o,none⟩/\ ∀j u,vs[j]?=some u->w.cell? ⟨b,o+j,none⟩=some u):=by
 unfold elems at h;split at h
 ·simp only[ak]at g;grind
 ·rename_i k cI;split at h
  ·rename_i hu;cases h;simp only[ak]at g;obtain⟨b,o,cap,s,vs,e,_,_,_,L,m,n⟩:=g;exact .inr ⟨_,cap,vs,e,LV hu,n,m,.inr ⟨b,o,rfl,λj u d=>r.bu _ _ _ (L j u d)⟩⟩
  grind
 ·rename_i id ai f off len cI;split at h
  ·rename_i v l ty k he;split at h
   ·rename_i z;obtain⟨F,J,M,N⟩:=z;subst F J M;cases h;obtain⟨g1,g2,I,c,pre,vs,post,A,y,H,_,n,m⟩:=r.obj id _ he g.LG;simp only[ak]at g;obtain⟨_,_,a,cap,e,p,_,K⟩:=g;obtain⟨_,C,_⟩:=K g1;have i: ((k.drop off).take len).length=len:=by simp;omega
    refine .inr ⟨a,cap,(vs.drop (off*f)).take (len*f),by rw[i];exact e,λel t=>I el (am3 (afZ t)),n.slice I,(m.drop _).take _,?_⟩;by_cases D:len=0
    ·left;simp[D]
    ·right
     refine⟨_,_,C (by omega),λj u d=>?_⟩;refine Ce A _ u ?_;rw[akr]at d;split at d
     ·rw[ajQ]at d;rw[y,aet (by omega),abP (by have:=(abQ.1 d).1;omega)];rw[<-d];congr 1;omega
     ·cases d
   ·cases h
  ·cases h
 ·rename_i id l off len;split at h
  ·rename_i cs tg he;split at h
   ·rename_i z;obtain⟨F,J⟩:=z;subst F;cases h;obtain⟨g1,_,c,ty,A,n,m,_⟩:=zM r he g.akQ;simp only[ak]at g;obtain⟨_,a,cap,e,p,C⟩:=g;have hle:len*l<=(cs.drop off).length:=by simp;omega
    refine .inr ⟨a,cap,(c.toList.drop off).take (len*l),by rw[LO];exact e,Cg hle,?_,(m.drop _).take _,?_⟩
    ·rw[bq.iff,chunks_flatten hle];exact(n.drop _).take _
    ·by_cases D:len=0
     ·left;simp[D]
     ·right
      refine⟨_,_,C g1 (by omega),λj u d=>?_⟩;refine Ce A _ u ?_;rw[akr]at d;split at d
      ·rwa[ajQ]at d
      ·cases d
   ·cases h
  ·cases h
 grind
theorem ou{sz:Nat}: ∀ {af:List (List AV)},(∀el∈af,el.length=sz)->af.flatten.length=af.length*sz
 | [],_=>by simp
 |x::xs,h=>by
  have a:=ou (af:=xs) λy b=>h y (by grind)
  grind
def bq.len{af:List (List AV)}(h:bq G af vs)(a: ∀el∈af,el.length=sz):vs.length=af.length*sz:=by
 rw[(bq.iff.1 h).length,ou a]
def UF(p:aY P B ax G E w){x:AV}{e:Value}{af:List (List AV)}(m:ak G x e)(h:elems E sz x=some af):
  ∃vs,bq G af vs/\Leaves vs/\ (∀el∈af,el.length=sz)/\vs.length=af.length*sz/\ (∃a cap,e= .slice a af.length cap/\ (a=none->af=[]))/\
   ∀w',w'.heap=w.heap-> ∀n,n<=af.length->(Builtin.firstCells sz n e).run P w'= .ok (vs.take (n*sz)).toArray w':=by
 rcases aly p m h with⟨rfl,rfl⟩| ⟨a,cap,vs,rfl,hu,g,l,k⟩
 ·refine⟨[],by rfl,λu hu=>by grind,by simp,by simp,⟨none,0,rfl,λ_=>rfl⟩,λw' c n f=>?_⟩;simp[Builtin.firstCells]
 ·refine⟨vs,g,l,hu,g.len hu,⟨some a,cap,rfl,λh=>by cases h⟩,λw' c n f=>?_⟩;have d:=g.len hu;rcases k with rfl| ⟨b,o,rfl,k⟩
  ·simp only[Builtin.firstCells];have:n*sz=0:=by
    have q:af.length*sz=0:=by grind
    have:=ajX sz f;omega
   rw[this];simp[loadCells,loadCellsFrom]
  ·simp only[Builtin.firstCells];have hle:n*sz<=af.length*sz:=ajX _ f;exact run_loadCells (vs.take (n*sz)) (by grind) (λj u i=>by
    rw[akr]at i;split at i
    ·have:=k _ _ i;simp only[World.cell?,c]at this⊢;exact this
    grind)
theorem alz: ∀ {af:List (List AV)} {vs:List Value} {l:lB},bq G af vs->vh af=some l-> ∃a:List Int,vs=a.map (Value.int .u8)/\l=a.map λn=>UInt8.ofNat n.toNat
 | [],vs,l,h,e=>by
   subst h;simp only[vh,acy]at e;simp_all
 |x::xs,vs,l,h,e=>by
  obtain⟨v,r,rfl,d,c⟩:=h;unfold vh at e;split at e
  ·grind
  ·rename_i n f heq;cases heq;cases b:vh xs with
   |none=>grind
   |some g=>
    simp[b]at e;subst e;obtain⟨a,rfl,rfl⟩:=alz c b;obtain⟨v',q,rfl,rfl,rfl⟩:=d;exact⟨n::a,rfl,rfl⟩
  grind
theorem foldl_push: ∀ (a:List Int) (s:ByteArray),a.foldl (λr n=>r.push (UInt8.ofNat n.toNat)) s=⟨s.data++(a.map λn=>UInt8.ofNat n.toNat).toArray⟩
 | [],s=>by simp
 |n::a,s=>by
  rw[awW,foldl_push a];simp_all
end
section
variable{P:Program}{X:Ctx}{B:Nat}{ax:World}
variable{G:Gh}{E:AS}{w:World}
def lL(P:Program)(B:Nat)(ax:World)(G:Gh)(E:AS)(v:AV)(b:AS)(r:Result Value):Prop:=
 ∃a w' v',r= .ok v' w'/\G.le a/\aY P B ax a b w'/\ak a v v'/\E.Ext b
def zP(P:Program)(B:Nat)(ax:World)(G:Gh)(E:AS)(b:AS)(r:Result Unit):Prop:=
 ∃a w',r= .ok () w'/\G.le a/\aY P B ax a b w'/\E.Ext b
theorem pR: ∀ {a b:List AV},aI (a++b)=max (aI a) (aI b)
 | [],b=>by rfl
 |x::a,b=>by simp only[af3,aI,pR (a:=a)];omega
theorem vm: ∀ {af:List (List AV)},bT af=aI af.flatten
 | []=>by rfl
 |x::xs=>by simp only[bT,am4,pR,vm (af:=xs)]
def UG{a:List AV}:aI (a.take n)<=aI a:=by grind [pR,List.take_append_drop]
def UH{a:List AV}:aI (a.drop n)<=aI a:=by
 have h:=pR (a:=a.take n) (b:=a.drop n);rw[amx]at h;omega
def UI{cs vs:List AV}{off:Nat}:aI (aM cs off vs)<=max (aI cs) (aI vs):=by
 unfold aM;have c:=UG (a:=cs) (n:=off);have b:=UH (a:=cs) (n:=off+vs.length);rw[pR,pR];omega
def UJ{v:AV}:aI v.cells=v.refs:=by
 cases v<;>simp[AV.cells,aI,AV.refs]
def LW{cs vs:List AV}{off:Nat}(h:off+vs.length<=cs.length): (aM cs off vs).length=cs.length:=by
 unfold aM;grind
def UK(a:aY P B ax G E w){cs:List AV}(ty:TypeId)(e:aG G cs c.toList)(d:Leaves c.toList)(tg:Option TypeId)(b: ∀t,tg=some t->ty=t):
  lL P B ax G E (.ptr E.heap.length 0) (E.push (.box cs tg)) (.ok (.pointer (some ⟨w.heap.size,0,none⟩)) (w.alloc (.cells c ty))):=by
 have hle:=G.zL w.heap.size 0 0;refine⟨G.push w.heap.size 0 0,_,_,rfl,hle,a.push _ _ 0 0 ?_,?_,.push E _⟩
 ·refine⟨by simp[Gh.push],c,ty,?_,e.mono hle,d,b⟩;have: (G.push w.heap.size 0 0).ba G.n=w.heap.size:=by simp[Gh.push]
  rw[this];exact an5 _ _
 ·refine⟨Gh.Cd a,_,rfl,λ_=>?_⟩;simp[Gh.push,a.len]
def LX{z:List AV}{a:TypeId}(h:rl z t=some a):t=a:=by
 unfold rl at h
 grind
def alA{z:Option (List AV)}{a:TypeId}(h: (z.bind λz=>rl z t)=some a):t=a:=by
 cases z with
 |none=>cases h
 |some z=>exact LX h
def alB(d:aY P B ax G E w){z:List AV}(c:gL P t=some z):
  lL P B ax G E (.ptr E.heap.length 0) (E.push (.box z (rl z t))) ((Instr.alloc t true (.tuple #[])).run P w):=by
 obtain⟨a,e,_,l,b,_⟩:=rp c G w;have: (Instr.alloc t true (.tuple #[])).run P w= .ok (.pointer (some ⟨w.heap.size,0,none⟩)) (w.alloc (.cells a.cells t)):=by
  simp[Instr.alloc,e,newVar,newRow]
 rw[this];exact UK d t l b _ (λf h=>LX h)
def alC(f:aY P B ax G E w){x:AV}{b:Value}{tg:Option TypeId}(a: ∀c,tg=some c->t=c)(e:ak G x b)(g:x.cm=false):
  lL P B ax G E (.ptr E.heap.length 0) (E.push (.box x.cells tg)) ((Instr.box t b).run P w):=by
 obtain⟨l,d⟩:=e.cells g;exact UK f t l d tg a
def F2(g:aY P B ax G E w){af:List (List AV)}{post:List Value}{cap:Nat}(ty:TypeId)(l:c.toList=vs++post)(j: ∀el∈af,el.length=sz)(k:bq G af vs)(i:Leaves vs)
  (e:c.size=cap*sz) (h:af.length<=cap) (len:Nat) (a:len=af.length)  (f:w'.heap=w.heap) (d:aY P B ax G E w'):
  lL P B ax G E (.ref E.heap.length 0 sz 0 len false) (E.push (.row 0 sz ty af)) (.ok (.slice (some ⟨w.heap.size,0,none⟩) len cap) (w'.alloc (.cells c ty))):=by
 subst a;rw[<-f];have b:=G.zL w'.heap.size (cap*sz) sz;refine⟨G.push w'.heap.size (cap*sz) sz,_,_,rfl,b,d.push _ _ _ _ ?_,?_,.push E _⟩
 ·have e1: (G.push w'.heap.size (cap*sz) sz).ba G.n=w'.heap.size:=by simp[Gh.push]
  refine⟨by simp[Gh.push],by simp[Gh.push],j,c,[],vs,post,?_,by grind,by simp[Gh.push],?_,k.mono b,i⟩
  ·rw[e1];exact an5 _ _
  ·simp[Gh.push,e]
 ·refine⟨Gh.Cd d,by simp,_,cap,rfl,⟨h,rfl⟩,by simp,λ_=>⟨by simp[Gh.push,g.len],λ_=>by simp[Gh.push,g.len],by simp[Gh.push,g.len]⟩⟩
def alD(a:aY P B ax G E w)(t:TypeId):lL P B ax G E (.mp E.heap.length) (E.push (.map [])) ((Instr.makeMap t none).run P w):=by
 have hle:=G.zL w.heap.size 0 0;refine⟨G.push w.heap.size 0 0,_,_,rfl,hle,a.push _ _ 0 0 ?_,?_,.push E _⟩
 ·refine⟨by simp[Gh.push],#[],0,?_,by rfl⟩;have: (G.push w.heap.size 0 0).ba G.n=w.heap.size:=by simp[Gh.push]
  rw[this];exact an5 _ _
 ·exact⟨Gh.Cd a,_,rfl,λ_=>by simp[Gh.push,a.len]⟩
def aY.put(b:aY P B ax G E w){id:Nat}(a:G.on id){o':ae}(refs:Nat)(ho:iq P G id (eD w (G.ba id) O) o'):aY P B ax G (E.set id o' refs) (eD w (G.ba id) O):=
 b.set a o' refs G.le_refl rfl rfl (λ_ _ _=>rfl) (.inl rfl) (by rw[akV];exact(b.low id a).2) (λk c _=>Ul c) (by simp) rfl rfl rfl ho
def LY(f:aY P B ax G E w){id:Nat}{cs as:List AV}{tg:Option TypeId}(k:E.heap[id]?=some (.box cs tg))(l:G.pz id=none){a:List Value}{off:Nat}(j:aG G as a)(i:Leaves a)(h:off+as.length<=cs.length){refs:Nat}(s:aI as<=refs):
  zP P B ax G E (E.set id (.box (aM cs off as) tg) refs) ((storeCells ⟨G.ba id,off,none⟩ a).run P w):=by
 obtain⟨r,d,c,ty,q,b,e,g⟩:=zM f k l;have p:=b.length;rw[ajR]at p;have hu:=j.length;refine⟨G,_,?_,G.le_refl,f.put d refs (O:=.cells (kj c off a) ty (0,0)) ?_,.set k λn o m=>?_⟩
 ·have:=LH (P:=P) a c w off 0 q (by omega) i;omega
 ·exact⟨r,_,ty,sT (f.low id d).2,b.aM j h,e.aM i (by omega),g⟩
 ·simp only[ae.le]at o⊢;have:=UI (cs:=cs) (vs:=as) (off:=off);omega
def UL(f:aY P B ax G E w){id:Nat}{ty:TypeId}{af a:List (List AV)}{as:List AV}(s:E.heap[id]?=some (.row ai sz ty af))(m:G.pz id=none){b:List Value}{p:Nat}(q:aG G as b)(l:Leaves b)(h:p+as.length<=af.flatten.length)
  (v: ∀el∈a,el.length=sz) (r:a.flatten=aM af.flatten p as) {refs:Nat} (H:aI as<=refs):
  zP P B ax G E (E.set id (.row ai sz ty a) refs) ((storeCells ⟨G.ba id,G.base id+p,none⟩ b).run P w):=by
 obtain⟨D,i,u,c,pre,vs,post,C,A,o,F,j,d⟩:=f.obj id _ s m;have e:G.on id:=⟨by rw[f.len];grind,m⟩;have k:=bq.iff.1 j;have t:=k.length;have g:=q.length;have z:c.size=pre.length+(vs.length+post.length):=by grind [Array.length_toList]
 refine⟨G,_,?_,G.le_refl,f.put e refs (O:=.cells (kj c (G.base id+p) b) ty (0,0)) ?_,.set s λn y x=>?_⟩
 ·have:=LH (P:=P) b c w (G.base id+p) 0 C (by omega) l;omega
 ·refine⟨D,i,v,_,pre,vs.take p++(b++vs.drop (p+b.length)),post,sT (f.low id e).2,?_,o,by simp_all,?_,(d.take p).append (l.append (d.drop _))⟩
  ·rw[FT _ _ _ (by omega),A,<-o];rw[avS,ac4 (by omega:pre.length<=pre.length+p),ajJ,asR (by omega)];rw[alL,as2,afL (by omega:pre.length<=pre.length+(p+b.length)),ajJ,afY,ayT (by omega)];simp
  ·rw[bq.iff,r];unfold aM;rw[<-g];exact(k.take p).append (q.append (k.drop _))
 ·simp only[ae.le,vm]at y⊢;rw[r];have:=UI (cs:=af.flatten) (vs:=as) (off:=p);omega
def alE{af:List (List AV)}{el b:List AV}(g: ∀x∈af,x.length=sz)(e:af[i]?=some el)(off:Nat)(vs:List AV)(h:off+vs.length<=el.length)(f:b=aM el off vs):
  (af.set i b).flatten=aM af.flatten (i*sz+off) vs:=by
 subst f;have c:i<af.length:=(abQ.1 e).1;have d:af.flatten=(af.take i).flatten++(el++(af.drop (i+1)).flatten):=by grind [List.take_append_drop,List.flatten_append,List.drop_eq_getElem_cons]
 have a: (af.take i).flatten.length=i*sz:=by grind [ou,List.mem_of_mem_take,List.length_take,Nat.min_eq_left,Nat.le_of_lt]
 rw[List.set_eq_take_append_cons_drop,acE c,al2,am4];rw[d];unfold aM;rw[avS,ac4 (by omega: (af.take i).flatten.length<=i*sz+off),a,ajJ,asR (by omega)];rw[alL,as2,afL (by omega: (af.take i).flatten.length<=i*sz+(off+vs.length)),a,ajJ,afY,ayT (by omega)];simp
def alF(j:aY P B ax G E w)(J:cx P t=some n){x v:AV}{f:Value}{C:AS}(g:ak G x f)(D:ak G v v')(h:jM E n x v=some C):
  zP P B ax G E C ((Instr.storeAt t f v').run P w):=by
 have key: ∀ (b:Addr),f= .pointer (some b)->v.cm=false->v.cells.length=n->(Instr.storeAt t f v').run P w=(storeCells b v'.cells.toList).run P w/\aG G v.cells v'.cells.toList/\Leaves v'.cells.toList:=by
  rintro b rfl F M;obtain⟨l,L⟩:=D.cells F;have N:=l.length;simp only[Instr.storeAt,Sem.run_bind,Instr.sureAddr,Sem.run_pure,Result.andThen_ok,storeVar,ni J]
  grind
 unfold jM at h;split at h
 ·rename_i id off;split at h
  ·rename_i cs he;split at h
   ·rename_i p;obtain⟨u,s,K⟩:=p;cases h;simp only[ak]at g;obtain⟨a,b,e,q⟩:=g;obtain⟨o,m,k⟩:=key b e u s;rw[o,q (zM j he a.2).1];exact LY j he a.2 m k (by omega) (by rw[UJ];exact aeg _)
   grind
  grind
 ·rename_i id ai i off;split at h
  ·rename_i A sz ty af he;split at h
   ·rename_i el d;split at h
    ·rename_i p;obtain⟨c0,z,u,s,K⟩:=p;subst c0;cases h;simp only[ak]at g;obtain⟨a,_,b,e,q⟩:=g;obtain⟨o,m,k⟩:=key b e u s;obtain⟨g1,g2,r,_⟩:=j.obj id _ he a.2;rw[o,q g1,g2,alL];have I:i<af.length:=(abQ.1 d).1;have H:=alE r d off v.cells (by omega) rfl;have hle:i*sz+sz<=af.flatten.length:=by
      rw[ou r,<-aog];exact ajX _ I
     exact UL j he a.2 m k (by omega) (λy c=>by
      rcases List.mem_or_eq_of_mem_set c with c|c
      ·exact r y c
      ·rw[c,LW (by omega)];exact z) H (by rw[UJ];exact aeg _)
    ·cases h
   ·cases h
  ·cases h
 grind
end
section
variable{P:Program}{X:Ctx}{B:Nat}{ax:World}
variable{G:Gh}{E:AS}{w:World}
theorem F3(zc:Array Value)(b:0<zc.size): ∀ (k:Nat),(List.range (k*zc.size)).map (λi=>zc[i % zc.size]!)=(List.replicate k zc.toList).flatten
 |0=>by simp
 |k+1=>by
  have e: (k+1)*zc.size=zc.size+k*zc.size:=by grind
  rw[e,List.range_add,aeq,ayR,aqG,am4,<-F3 zc b k]
  congr 1
  ·apply al4;intro j;by_cases a:j<zc.size
   ·simp[a,amo a]
   grind
  simp_all
theorem Ck{z:List AV}{vs:List Value}(a:aG G z vs): ∀ (k:Nat),bq G (List.replicate k z) (List.replicate k vs).flatten
 |0=>by rfl
 |k+1=>by
  exact⟨_,_,rfl,a,Ck a k⟩
theorem F4(h:Leaves vs)(k:Nat):Leaves (List.replicate k vs).flatten:=by
 intro v a;simp only[List.mem_flatten,List.mem_replicate]at a;obtain⟨l,⟨_,rfl⟩,a⟩:=a;exact h v a
def UM(h:xi P t=some n): ∃i,P.info? t=some i/\i.bytes=n:=by
 unfold xi at h;simp_all
def UN(h:cx P t=some n): ∃i,P.info? t=some i/\i.size=n:=by
 unfold cx at h;simp_all
def LZ{i:TypeInfo}{z:Value}(a:P.info? t=some i)(h:zeroV P t=some z):i.zero=some z:=by
 unfold zeroV at h;grind
def alG(m:aY P B ax G E w){z:List AV}{bytes:Nat}(F:P.underlying t=some (.slice e))(D:gL P e=some z)(C:xi P e=some bytes)(x:0<z.length)
  {l c:AV} {k q:Value} {v:AV} {r:AS} (n:ak G l k) (p:ak G c q) (h:LB E e z bytes l c=some (v,r)):lL P B ax G E v r ((Instr.makeSlice t k q).run P w):=by
 unfold LB at h;split at h
 ·rename_i s l u c;split at h
  ·rename_i A;obtain⟨K,J,I,H⟩:=A;cases h;simp only[ak]at n p;subst n p;obtain⟨i,o,rfl⟩:=UM C;obtain⟨b,_,f,lz,d,j⟩:=rp D G w;have a:i.size=z.length:=by unfold cx at j;grind
   have g:b.cells.size=z.length:=by exact lz.length
   rw[run_make w t e i b F o (LZ o f) s u l c K J (by rw[Int.mul_comm];simp only[room]at I;omega) (by simp only[room]at H;omega)];have hm: (madeCells b.cells (c.toNat*i.size)).toList=(List.replicate l.toNat b.cells.toList).flatten++(List.replicate (c.toNat-l.toNat) b.cells.toList).flatten:=by
    unfold madeCells;rw[a,<-g,Array.toList_map,Array.toList_range,F3 _ (by omega)];rw[<-al2,axC]
    grind
   refine F2 m e hm (λel y=>by grind) (Ck lz _) (F4 d _) (cap:=c.toNat) ?_ (by rw[List.length_replicate];omega) l.toNat (by simp) rfl m;simp[madeCells,a]
  grind
 grind
def alH(k:aY P B ax G E w){s d:TypeId}(p:P.underlying s=some .string)(o:P.underlying d=some (.slice e))(n:P.underlying e=some (.int .u8))(b:ByteArray):
  lL P B ax G E (.sl (rh b) false) E ((convert s d (.string b)).run P w):=by
 rw[run_bytes_of_string w s d e b p o n];have a:b.data.toList.length=b.size:=by simp
 obtain⟨hle,c⟩:=k.drew.Uk (bytesRow b (grownCap w b.size 0 e)) e ((bytesRow b (grownCap w b.size 0 e)).size,(bytesRow b (grownCap w b.size 0 e)).size+1) (b.data.toList.map λx=>Value.int .u8 x.toNat) (λj v h=>by
  unfold bytesRow
  grind)
 refine⟨_,_,_,rfl,hle,c,?_,.refl E⟩;have m: ∀ (G:Gh) (l:lB),bq G (l.map λx=>[AV.int .u8 x.toNat]) (l.map λx=>Value.int .u8 x.toNat):=by
  intro G l
  induction l with
  |nil=>rfl
  |cons x xs i=>exact⟨[_],_,rfl,by simp[aG,ak],i⟩
 refine⟨w.heap.size,0,grownCap w b.size 0 e,1,_,?_,?_,by simp,?_,?_,?_,m _ _⟩
 ·simp[rh,a]
 ·simp only[rh,aej,a];exact axv w b.size 0 e
 ·intro el f;simp only[rh,ael]at f
  grind
 ·intro j v h;simp only[Gh.freeze,ajg];rw[acE (show w.heap.size=w.drew.heap.size from rfl)];exact h
 ·intro v g;simp only[ael]at g;obtain⟨x,_,rfl⟩:=g;rfl
def UO{z:List AV}{len:Nat}(q:P.underlying t=some (.slice e))(J:gL P e=some z)(A:0<z.length)(C:len*z.length<=65536)
   {f:Env}  (I:cL G nt f a.tmps) {j:Array (Nat×Operand)} {l:List (Nat×Nat×ao)}
  (F:parts (λi=>some (i*z.length,z.length)) j.toList=some l) {cs:List AV} (H:ee (List.replicate len z).flatten (l.map λp=>(p.1,p.2.1,p.2.2.get f))=some cs) (w:World):
  ∃c:Array Value,(Instr.buildSlice t len (j.map λ (i,x)=>(i,a.eval x))).run P w= .ok (.slice (some ⟨w.heap.size,0,none⟩) len len) (w.alloc (.cells c e))/\aG G cs c.toList/\Leaves c.toList:=by
 obtain⟨b,D,k,lz,u,m⟩:=rp J G w;obtain⟨i,o,d⟩:=UN m;have y:b.cells.size=z.length:=by exact lz.length
 have hm: ((Array.range (len*i.size)).map (b.cells[· % b.cells.size]!)).toList=(List.replicate len b.cells.toList).flatten:=by grind [Array.toList_map,Array.toList_range,F3]
 obtain⟨c,K,r,v⟩:=F0 (Cj:=λi=>some (i*z.length,z.length)) I (λi p h=>h) j.toList l _ cs ((Array.range (len*i.size)).map (b.cells[· % b.cells.size]!)) F H
  (by rw[hm];exact bq.iff.1 (Ck lz len)) (by grind [F4])
 refine⟨c,?_,r,v⟩;have g:Instr.fill (λx=>some (x*i.size,i.size)) ((Array.range (len*i.size)).map (b.cells[· % b.cells.size]!)) (j.map λ (i,x)=>(i,a.eval x)).toList=some c:=by simp_all
 by_cases s:len*i.size=0
 ·have n:len=0:=by
    rcases Nat.mul_eq_zero.1 s with h|h
    ·exact h
    ·omega
  subst n;simp[Instr.buildSlice,acH q,sizeOf,typeInfo,o,newRow,Array.range_zero'];simp[Array.range_zero']at g;simp_all
 ·exact run_buildSlice w t e len _ c i b q o (LZ o k) (by rw[d];omega) s g
def alI(n:aY P B ax G E w){z:List AV}{len:Nat}(A:P.underlying t=some (.slice e))(y:gL P e=some z)(d:0<z.length)(g:len*z.length<=65536)
   {b:Env}  (s:cL G nt b a.tmps) {h:Array (Nat×Operand)} {l:List (Nat×Nat×ao)}
  (o:parts (λi=>some (i*z.length,z.length)) h.toList=some l) {cs:List AV} (q:ee (List.replicate len z).flatten (l.map λp=>(p.1,p.2.1,p.2.2.get b))=some cs) (u:cs.length=len*z.length):
  lL P B ax G E (.sl (chunks z.length len cs) true) E ((Instr.buildSlice t len (h.map λ (i,x)=>(i,a.eval x))).run P w):=by
 obtain⟨c,C,r,m⟩:=UO A y d g s o q w;rw[C];obtain⟨hle,f⟩:=n.Uk c e (0,0) c.toList (λj v k=>by grind);refine⟨_,_,_,rfl,hle,f,?_,.refl E⟩;refine⟨w.heap.size,0,len,z.length,c.toList,by simp,by simp,λ_=>by simp,Cg (by omega),?_,m,?_⟩
 ·intro j v k;simp only[Gh.freeze,ajg,aeE];exact k
 ·rw[bq.iff,chunks_flatten (by omega),ac4 (by omega)];exact r.mono hle
def alJ(h:aY P B ax G E w){z:List AV}{len:Nat}(u:P.underlying t=some (.slice e))(s:gL P e=some z)(d:0<z.length)(f:len*z.length<=65536)
   {b:Env}  (o:cL G nt b a.tmps) {g:Array (Nat×Operand)} {l:List (Nat×Nat×ao)}
  (m:parts (λi=>some (i*z.length,z.length)) g.toList=some l) {cs:List AV} (n:ee (List.replicate len z).flatten (l.map λp=>(p.1,p.2.1,p.2.2.get b))=some cs) (q:cs.length=len*z.length):
  lL P B ax G E (.ref E.heap.length 0 z.length 0 len false) (E.push (.row 0 z.length e (chunks z.length len cs))) ((Instr.buildSlice t len (g.map λ (i,x)=>(i,a.eval x))).run P w):=by
 obtain⟨c,v,r,j⟩:=UO u s d f o m n w;rw[v];have k:=r.length;refine F2 h e (vs:=c.toList) (post:=[]) (by simp) (Cg (by omega)) ?_ j (cap:=len) (by grind) (by simp) len (by simp) rfl h;rw[bq.iff,chunks_flatten (by omega),ac4 (by omega)];exact r
theorem L0: ∀ {ps:List (Nat×Nat×AV)} {cs a:List AV},ee cs ps=some a->a.length=cs.length
 | [],cs,a,h=>by simp only[ee,acy]at h;grind
 | (off,n,v)::ps,cs,a,h=>by
   simp only[ee]at h;split at h
   ·rw[L0 h,LW (by omega)]
   grind
end
section
variable{P:Program}{X:Ctx}{B:Nat}{ax:World}
variable{G:Gh}{E:AS}{w:World}
def Gh.eg(G:Gh)(id b base dV:Nat):Gh:=
 {G with ba:=λi=>if i=id then b else G.ba i,base:=λi=>if i=id then base else G.base i,ai:=λi=>if i=id then G.ai i+1 else G.ai i,dV:=λi=>if i=id then dV else G.dV i}
def Gh.UP(G:Gh)(id b base dV:Nat):G.le (G.eg id b base dV):=by
 refine .mk' (λ_ _ _ h=>h) (aeg _) (λ_ _=>rfl) (λi _=>?_) (λi _ h=>?_)
 ·simp only[Gh.eg];grind
 ·simp only[Gh.eg]at h;split at h
  ·omega
  ·rename_i a;simp[Gh.eg,a]
structure L1(P:Program)(w:World)(sz:Nat)(xt:TypeId)(x':Value)(n:Nat)(new:List Value):Prop where
 len: (Builtin.lenOf x').run P w= .ok n w
 cells: ∀w',w'.heap=w.heap->(Builtin.firstCells sz n x').run P w'= .ok new.toArray w'
 type: (∃e,P.underlying xt=some (.slice e))\/P.underlying xt=some .string
def Cl{j ty:TypeId}{i:TypeInfo}(d:P.underlying t=some (.slice e))(f:P.info? e=some i){k:Value}{c:List Value}(b:L1 P w i.size j k n c)
  {base:Option Addr} {iY lM:Nat} (h:iY+n<=lM)  (l: ∀a,base=some a->(storeCells (a.add (iY*i.size)) c).run P w= .ok () w') (m:base=none->w'=w):
  (Builtin.append_ #[t,j] ty #[.slice base iY lM,k]).run P w= .ok (.slice base (iY+n) lM) w':=by
 have g:=b.cells w rfl;cases base with
 |none=>
  have:=m rfl;subst this;rcases b.type with⟨o,hu⟩|hu
  ·simp[Builtin.append_,acH d,acH hu,sizeOf,typeInfo,f,b.len,g,h]
  ·simp[Builtin.append_,acH d,acH hu,sizeOf,typeInfo,f,b.len,g,h]
 |some a=>
  have:=l a rfl;rcases b.type with⟨o,hu⟩|hu
  ·simp[Builtin.append_,acH d,acH hu,sizeOf,typeInfo,f,b.len,g,h,this]
  ·simp[Builtin.append_,acH d,acH hu,sizeOf,typeInfo,f,b.len,g,h,this]
def F5{j ty:TypeId}{i:TypeInfo}{z:Value}(m:P.underlying t=some (.slice e))(p:P.info? e=some i)(l:i.zero=some z){k:Value}{c:List Value}(g:L1 P w i.size j k n c)
  {base:Option Addr} {iY lM:Nat} (h:lM<iY+n) {dD:List Value} (hold: ∀w',w'.heap=w.heap->(Builtin.firstCells i.size iY (.slice base iY lM)).run P w'= .ok dD.toArray w') (s:0<i.bytes) (b: (iY+n)*i.bytes<=room):
  (Builtin.append_ #[t,j] ty #[.slice base iY lM,k]).run P w= .ok (.slice (some ⟨w.heap.size,0,none⟩) (iY+n) (grownCap w (iY+n) lM e))
    (w.drew.alloc (.cells (dD.toArray++c.toArray++Builtin.zeroCells z.cells (grownCap w (iY+n) lM e- (iY+n))) e)):=by
 have o: ¬(iY+n<=lM):=by omega
 have q:=growslice_fits (bytes:=i.bytes) h (by simp only[room]at b;omega);have a: ¬(281474976710656<Builtin.nextslicecap (iY+n) lM*i.bytes):=by omega
 have f:i.bytes≠0:=by omega
 have r:=g.cells w.drew rfl;have d:=hold w.drew rfl;rcases g.type with⟨u,hu⟩|hu
 ·simp[Builtin.append_,acH m,acH hu,sizeOf,typeInfo,zeroValue,p,l,g.len,o,a,f,Question.forced,r,d,newRow,grownCap]
  congr 2;apply aob;simp[acF]
 ·simp[Builtin.append_,acH m,acH hu,sizeOf,typeInfo,zeroValue,p,l,g.len,o,a,f,Question.forced,r,d,newRow,grownCap]
  congr 2;apply aob;simp[acF]
def L3(c:aY P B ax G E w){af:List (List AV)}{z:Value}{zc:Nat}(e:TypeId)(b:z.cells.size=sz)(d: ∀el∈af,el.length=sz)(g:bq G af vs)(h:Leaves vs)(a dD:Nat)(f:a=af.length):
  lL P B ax G E (.ref E.heap.length 0 sz 0 a false) (E.push (.row 0 sz e af)) (.ok (.slice (some ⟨w.heap.size,0,none⟩) a (grownCap w a dD e))
   (w.drew.alloc (.cells (vs.toArray++Builtin.zeroCells z.cells (grownCap w a dD e-a)) e))):=by
 have i:=axv w a dD e;refine F2 c e (post:=(Builtin.zeroCells z.cells (grownCap w a dD e-a)).toList) (by simp) d g h (cap:=grownCap w a dD e) ?_ (by omega) a f rfl c.drew;have:=g.len d;simp only[ayB,axB,ayw,b,this,<-f];rw[<-an3];grind
def UQ{a b:List (List AV)}{u v:List Value}(h:bq G a u)(k:bq G b v):bq G (a++b) (u++v):=by
 rw[bq.iff,al2];exact(bq.iff.1 h).append (bq.iff.1 k)
def AS.Ext.eg{E:AS}{id:Nat}{ty c:TypeId}{af a:List (List AV)}{refs:Nat}(f:E.heap[id]?=some (.row ai sz ty af))(h:bT a<=max (bT af) refs):E.Ext (E.set id (.row b d c a) refs):=
 .set f λn e g=>by simp only[ae.le]at e⊢;omega
def alK(l:aY P B ax G E w){xt ty:TypeId}{bytes:Nat}(C:P.underlying t=some (.slice e))(h2:cx P e=some sz)(h3:xi P e=some bytes)(hz: (gL P e).isSome=true)(hb:0<bytes)
  {s v:AV} {s' x':Value} {ys:List (List AV)} {d:List Value} {E':AS} (x:ak G s s') (Q:bq G ys d) (lf:Leaves d) (p:L1 P w sz xt x' ys.length d)
  (h:dm E e sz bytes s ys=some (v,E')):lL P B ax G E v E' ((Builtin.append_ #[t,xt] ty #[s',x']).run P w):=by
 obtain⟨i,z,rfl⟩:=UM h3;have rq:i.size=sz:=by unfold cx at h2;simpa[z]using h2
 subst rq;obtain⟨zz,hzz⟩:=aqH.1 hz;obtain⟨z',_,hzv,lz,_,V⟩:=rp hzz G w;have H:=LZ z hzv;have F:z'.cells.size=i.size:=by
  have:cx P e=some i.size:=h2;rw[this]at V;rw[<-ajR,lz.length];exact(ahJ V).symm
 unfold dm at h;split at h
 ·rename_i hc;obtain⟨UR,sW⟩:=hc;have hu:=LV sW;split at h
  ·simp only[ak]at x;subst x;split at h
   ·rename_i g;cases h;have U:d=[]:=by
     have:=Q.len hu;rw[g]at this;exact ahK.1 (by simpa using this)
    rw[g]at p;have:=Cl (ty:=ty) C z p (base:=none) (iY:=0) (lM:=0) (by simp) (w':=w) (by simp) (λ_=>rfl);rw[this];exact⟨G,w,_,rfl,G.le_refl,l,by simp[ak],.refl E⟩
   ·rename_i g;split at h
    ·rename_i Z;cases h;rw[F5 C z H p (by omega) (dD:=[]) (λw' _=>by simp[Builtin.firstCells]) hb (by simpa using Z)];have:=L3 (zc:=0) l e F hu Q lf ys.length 0 rfl;simpa using this
    ·cases h
  ·rename_i af;have r:=x;simp only[ak]at x;obtain⟨b,o,cap,sz,vs,rfl,d1,d2,d3,hf,D,m⟩:=x;have K:=d2 trivial;subst K;split at h
   ·rename_i g;cases h;have U:d=[]:=by
     have:=Q.len hu;rw[g]at this;exact ahK.1 (by simpa using this)
    rw[g]at p;have:=Cl (ty:=ty) C z p (base:=some ⟨b,o,none⟩) (iY:=af.length) (lM:=af.length) (by omega) (w':=w) (λa _=>by rw[U];simp[storeCells]) (by simp);rw[this];exact⟨G,w,_,rfl,G.le_refl,l,r,.refl E⟩
   ·rename_i g;split at h
    ·rename_i Z;obtain⟨Z,T⟩:=Z;have Y:=LV T;cases h;have W:=m.len Y;rw[F5 C z H p (by omega) (dD:=vs) (λw' hh=>by
      simp only[Builtin.firstCells];exact run_loadCells vs W (λj u q=>by
       have:=l.bu _ _ _ (hf j u q);simp only[World.cell?,hh]at this⊢;exact this)) hb Z]
     have:=L3 (zc:=0) (af:=af++ys) l e F (λel R=>(ac8.1 R).elim (Y el) (hu el)) (UQ m Q) (D.append lf) (af.length+ys.length) af.length (by simp);simpa using this
    ·cases h
  ·rename_i af;have r:=x;simp only[ak]at x;obtain⟨b,o,cap,sz,vs,rfl,d1,d2,d3,hf,D,m⟩:=x;split at h
   ·rename_i g;cases h;have U:d=[]:=by
     have:=Q.len hu;rw[g]at this;exact ahK.1 (by simpa using this)
    rw[g]at p;have:=Cl (ty:=ty) C z p (base:=some ⟨b,o,none⟩) (iY:=af.length) (lM:=cap) (by omega) (w':=w) (λa _=>by rw[U];simp[storeCells]) (by simp);rw[this];exact⟨G,w,_,rfl,G.le_refl,l,r,.refl E⟩
   ·cases h
  ·rename_i id ai ayn off len cI;have r:=x;simp only[ak]at x;obtain⟨f,ayo,ad,cap,rfl,d1,d2,d3⟩:=x;split at h
   ·rename_i F6 sz' ty' af he;split at h
    ·rename_i hc;obtain⟨c1,c2,c3,c4,c5,c6⟩:=hc;subst c1 c2 c3;have c4:=c4.symm;subst c4;obtain⟨g1,g2,g3,c,pre,vs,post,US,ov,J,N,m,D⟩:=l.obj id _ he f.2;obtain⟨f1,f2,f3⟩:=d3 g1;have W:=m.len g3;have hmul:off*i.size+len*i.size<=af.length*i.size:=by rw[<-an3];exact ajX _ c5
     have I:=Q.len hu;have hold: ∀w',w'.heap=w.heap->(Builtin.firstCells i.size len (.slice (some ad) len cap)).run P w'= .ok ((vs.drop (off*i.size)).take (len*i.size)).toArray w':=by
      intro w' hh;simp only[Builtin.firstCells];by_cases h0:len=0
      ·subst h0;simp[loadCells,loadCellsFrom]
      ·rw[f2 (by omega)];refine run_loadCells _ (by simp;omega) (λj u q=>?_);have S:w'.cell? ⟨G.ba id,G.base id+off*i.size+j,none⟩=c[G.base id+off*i.size+j]?:=cell_of_row w' _ _ c e (0,0) (by rw[hh];exact US);rw[S];rw[akr]at q;split at q
       ·rw[ajQ]at q;have xr:=(abQ.1 q).1;have:c.toList[G.base id+off*i.size+j]?=some u:=by
         rw[ov,aet (by omega),abP (by omega),<-q]
         congr 1;omega
        simpa using this
       ·cases q
     have M: ∀el∈(af.drop off).take len++ys,el.length=i.size:=λel R=>(ac8.1 R).elim (λh=>g3 el (am3 (afZ h))) (hu el)
     have y:bq G ((af.drop off).take len++ys) ((vs.drop (off*i.size)).take (len*i.size)++d):=UQ (m.slice g3) Q;have L:Leaves ((vs.drop (off*i.size)).take (len*i.size)++d):=((D.drop _).take _).append lf;have O: ((af.drop off).take len++ys).length=len+ys.length:=by simp;omega
     split at h
     ·rename_i g;cases h;have U:d=[]:=by
       rw[g]at I;exact ahK.1 (by simpa using I)
      rw[g]at p;have:=Cl (ty:=ty) C z p (base:=some ad) (iY:=len) (lM:=cap) (by omega) (w':=w) (λa _=>by rw[U];simp[storeCells]) (by simp);rw[this];exact⟨G,w,_,rfl,G.le_refl,l,r,.refl E⟩
     ·rename_i g;split at h
      ·rename_i hcp;cases h;have K:=d2 hcp;rw[F5 C z H p (by omega) hold hb c6];have:=L3 (zc:=0) l e F M y L (len+ys.length) cap O.symm;simpa using this
      ·cases h;have hrefs:bT ((af.drop off).take len++ys)<=max (bT af) (bT ys):=by
        rw[vm,vm (af:=af),vm (af:=ys),al2,pR,Us g3];have C:=UG (a:=af.flatten.drop (off*i.size)) (n:=len*i.size);have h2:=UH (a:=af.flatten) (n:=off*i.size);omega
       by_cases A:len+ys.length<=cap
       ·have UT:=f2 (by omega);have UU:len*i.size+d.length<=cap*i.size:=by rw[I,<-an3];exact ajX _ A
        have sX:=LH (P:=P) d c w (G.base id+off*i.size+len*i.size) 0 US (by omega) lf;rw[Cl (ty:=ty) C z p (base:=some ad) A (w':=eD w (G.ba id) (.cells (kj c (G.base id+off*i.size+len*i.size) d) e (0,0))) (λa hae=>by
         cases hae;rw[UT,iX];simpa using sX) (by simp)]
        have hle:=G.UP id (G.ba id) (G.base id+off*i.size) (G.dV id-off*i.size);refine⟨G.eg id (G.ba id) (G.base id+off*i.size) (G.dV id-off*i.size),_,_,rfl,hle,?_,?_,.eg he hrefs⟩
        ·refine l.set f _ _ hle rfl rfl (λj _ q=>by simp[Gh.eg,q]) (.inl (by simp[Gh.eg])) (by simp[Gh.eg];exact(l.low id f).2) (λk hk _=>Ul hk) (by simp) rfl rfl rfl ?_;refine⟨by simp[Gh.eg,g1],by simp[Gh.eg,g2],M,kj c (G.base id+off*i.size+len*i.size) d,pre++vs.take (off*i.size),(vs.drop (off*i.size)).take (len*i.size)++d,
          (vs++post).drop (off*i.size+(len*i.size+d.length)),?_,?_,?_,?_,y.mono hle,L⟩
         ·have: (G.eg id (G.ba id) (G.base id+off*i.size) (G.dV id-off*i.size)).ba id=G.ba id:=by simp[Gh.eg]
          rw[this];exact sT (l.low id f).2
         ·rw[FT _ _ _ (by omega),ov,<-J,alL];rw[avS,ac4 (by omega:pre.length<=pre.length+(off*i.size+len*i.size)),ajJ,asR (by omega)];rw[alL pre.length,as2,afL (by omega:pre.length<=pre.length+(off*i.size+len*i.size+d.length)),ajJ,afY];rw[List.take_add];simp[alL]
         ·simp[Gh.eg,J];omega
         ·simp[Gh.eg,N];omega
        ·refine⟨f,by simp[Gh.eg,g1],ad,cap,rfl,⟨A,d1.2⟩,by simp,λ_=>⟨by simp[Gh.eg,g2],λ_=>by simp[Gh.eg,UT],by simp[Gh.eg];omega⟩⟩
       ·rw[F5 C z H p (by omega) hold hb c6];have hg:=axv w (len+ys.length) cap e;have hle:=G.UP id w.heap.size 0 (grownCap w (len+ys.length) cap e*i.size);have ayq:=(l.low id f).2;refine⟨G.eg id w.heap.size 0 (grownCap w (len+ys.length) cap e*i.size),_,_,rfl,hle,?_,?_,.eg he hrefs⟩
        ·refine l.set f _ _ hle rfl rfl (λj _ q=>by simp[Gh.eg,q]) (.inr (by simp[Gh.eg])) (by simp[Gh.eg]) (λk hk xr=>heap_alloc_old w.drew _ k xr) (by simp) rfl rfl rfl ?_;refine⟨by simp[Gh.eg,g1],by simp[Gh.eg,g2],M,((vs.drop (off*i.size)).take (len*i.size)).toArray++d.toArray++Builtin.zeroCells z'.cells (grownCap w (len+ys.length) cap e- (len+ys.length)),[],(vs.drop (off*i.size)).take (len*i.size)++d,(Builtin.zeroCells z'.cells (grownCap w (len+ys.length) cap e- (len+ys.length))).toList,?_,?_,by simp[Gh.eg],?_,y.mono hle,L⟩
         ·have: (G.eg id w.heap.size 0 (grownCap w (len+ys.length) cap e*i.size)).ba id=w.heap.size:=by simp[Gh.eg]
          rw[this];exact an5 w.drew _
         ·simp
         ·have hvn: ((vs.drop (off*i.size)).take (len*i.size)).length=len*i.size:=by simp;omega
          simp only[ayB,axB,ayw,F,hvn,I,Gh.eg,aeE];rw[<-an3,<-an3,ajg];congr 1;omega
        ·refine⟨f,by simp[Gh.eg,g1],_,_,rfl,⟨hg,rfl⟩,by simp,λ_=>⟨by simp[Gh.eg,g2],λ_=>by simp[Gh.eg],by simp[Gh.eg]⟩⟩
    ·cases h
   ·cases h
  ·cases h
 grind
end
section
variable{P:Program}{X:Ctx}{B:Nat}{ax:World}
variable{G:Gh}{E:AS}{w:World}
def alR(i:aY P B ax G E w){d ty j:TypeId}{bytes:Nat}(z:P.underlying t=some (.slice e))(c:P.underlying d=some (.slice j))(y:cx P e=some sz)(u:xi P e=some bytes)(m: (gL P e).isSome=true)(r:0<bytes)
  {s v x:AV} {g f:Value} {ys:List (List AV)} {k:AS} (p:ak G s g) (o:ak G x f) (n:elems E sz x=some ys) (h:dm E e sz bytes s ys=some (v,k)):
  lL P B ax G E v k ((Builtin.append_ #[t,d] ty #[g,f]).run P w):=by
 obtain⟨vs,q,l,hu,b,⟨a,cap,rfl,_⟩,C⟩:=UF i o n;refine alK i z y u m r p q l ⟨by rfl,λw' A=>?_,.inl ⟨j,c⟩⟩ h
 grind
def alS(l:lB):bq G (l.map λx=>[AV.int .u8 x.toNat]) (l.map λx=>Value.int .u8 x.toNat):=by
 induction l with
 |nil=>rfl
 |cons x xs a=>exact⟨[_],_,rfl,by simp[aG,ak],a⟩
def UW{a:EK}(h:zH P t=some a): ∃u,P.underlying t=some u/\kindOk a u/\ (a= .bool\/a= .int\/a= .str):=by
 unfold zH at h;split at h
 ·rename_i hu;cases h;exact⟨_,hu,rfl,.inl rfl⟩
 ·rename_i hu;cases h;exact⟨_,hu,⟨_,rfl⟩,.inr (.inl rfl)⟩
 ·rename_i hu;cases h;exact⟨_,hu,rfl,.inr (.inr rfl)⟩
 grind
def UX{a:EK}{k:AV}(h:kf a k=true):isKey k=true:=by
 cases a<;>cases k<;>simp[kf]at h<;>rfl
def F7{g:EK}{u:TypeDesc}{k d:AV}{k' a:Value}{b:Bool}(j:kf g k=true)(i:kindOk g u)(m:ak G k k')(l:ak G d a)(h:oo k d=some b):
  Instr.sameNow u k' a=some b/\ (b=true->Instr.sameBits 10000 a k'=true):=by
 unfold oo at h;split at h
 ·split at h
  ·rename_i e;subst e;cases h;subst m l;cases g<;>simp[kf]at j;obtain⟨q,rfl⟩:=i;refine⟨by simp[Instr.sameNow],λf=>?_⟩;have c:=eq_of_beq f;subst c;simp[Instr.sameBits]
  grind
 ·cases h;subst m l;cases g<;>simp[kf]at j;subst i;refine⟨by rfl,λf=>?_⟩;rw[beq_toListBytes]at f;have c:=eq_of_beq f;simp only[Instr.sameBits];rw[beq_toListBytes,c];simp
 ·cases h;subst m l;cases g<;>simp[kf]at j;simp only[kindOk]at i;subst i;refine⟨by rfl,λf=>?_⟩;have c:=eq_of_beq f;subst c;simp[Instr.sameBits]
 grind
theorem L4{g:EK}{u:TypeDesc}{k:AV}{k':Value}(d:kf g k=true)(c:kindOk g u)(e:ak G k k'): ∀ (es:List (AV×AV)) (ms:List MapEntry) (i:Nat) (r:Option AV),fB G es ms->dU k es=some r->
  match r with
  |none=>Instr.findNow u k' ms i=some none
  |some v=> ∃j v',Instr.findNow u k' ms i=some (some (j,v'))/\ak G v v'
 | [],ms,i,r,hm,h=>by
   subst hm;simp only[dU,acy]at h;subst h;simp[Instr.findNow]
 | (k₂,f)::es,ms,i,r,hm,h=>by
   obtain⟨m,q,rfl,_,a,b,hm⟩:=hm;simp only[dU]at h;split at h
   ·rename_i he;cases h;have:=(F7 d c e a he).1;exact⟨i,m.val,by simp[Instr.findNow,this],b⟩
   ·rename_i he;have n:=(F7 d c e a he).1;have l:=L4 d c e es q (i+1) r hm h;cases r with
    |none=>simpa[Instr.findNow,n]using l
    |some v=>simpa[Instr.findNow,n]using l
   grind
def alT{u:TypeDesc}(h:P.underlying t=some u)(a:u= .bool\/ (∃k,u= .int k)\/u= .string)(b:Bool)(n:Nat)(v:Value)(w:World): (Instr.checkKey b (n+1) t v).run P w= .ok () w:=by
 rcases a with rfl| ⟨q,rfl⟩|rfl<;>simp[Instr.checkKey,acH h]
def L5{a:EK}{u:TypeDesc}(h:P.underlying t=some u)(d:kindOk a u)(c:a= .bool\/a= .int\/a= .str)(b:Bool)(v:Value)(w:World): (Instr.checkKey b 10000 t v).run P w= .ok () w:=by
 refine alT h ?_ b 9999 v w;rcases c with rfl|rfl|rfl
 ·exact .inl d
 ·exact .inr (.inl d)
 ·exact .inr (.inr d)
def alU(O:aY P B ax G E w){X:Ctx}(R:fk X B ax){M J:TypeId}{N:EK}{z:AV}(I:P.underlying t=some (.map M J))(T:zH P M=some N)(S:xj P J=some z){m k v:AV}{m' k':Value}{d:Bool}(y:ak G m m')(Q:ak G k k')
  (h:iV X.fG E N z m k d=some v): ∃v',(Instr.lookup t m' k' d).run P w= .ok v' w/\ak G v v':=by
 obtain⟨u,hu,o,H⟩:=UW T;obtain⟨K,V,_,rz⟩:=LP S G w;unfold iV at h;split at h
 ·rename_i n;split at h
  ·rename_i es a;obtain⟨c,ms,F,A,f⟩: ∃ (c:List (AV×AV)) (ms:Array MapEntry),(m'= .map none/\ms= #[]\/ ∃r clock,m'= .map (some r)/\w.heap[r]?=some (.map ms clock))/\fB G c ms.toList/\ ∀k v,dU k es=some v->dU k c=some v:=by
    unfold mapOf at a;split at a
    ·cases a;simp only[ak]at y;subst y;exact⟨[],#[],.inl ⟨rfl,rfl⟩,by simp[fB],λ_ _ h=>h⟩
    ·rename_i g;obtain⟨c,r,ms,clock,e1,Z,e3,Y⟩:=R.akY O a y;exact⟨c,ms,.inr ⟨r,clock,e1,Z⟩,e3,Y⟩
    ·rename_i id;split at a
     ·rename_i c he;cases a;obtain⟨U,ms,clock,C,i⟩:=O.obj id _ he y.FQ;simp only[ak]at y;obtain⟨_,r,rfl,D⟩:=y;have W:=D U;subst W;exact⟨_,ms,.inr ⟨_,clock,rfl,C⟩,i,λ_ _ h=>h⟩
     ·cases a
    ·cases a
   have ar: ∀ (r:Option (Nat×Value)) (v:Value),Instr.findNow u k' ms.toList 0=some r->(match r with|some (_,x)=>v=x|none=>(zeroValue J).run P w= .ok v w)->
     (Instr.lookup t m' k' d).run P w= .ok (if d then .tuple #[v,.bool r.isSome]else v) w:=by
    intro r v l i;have s:=λb=>L5 hu o H b k' w
    rcases F with⟨rfl,rfl⟩| ⟨q,clock,rfl,C⟩
    ·cases r with
     |none=>simp only at i;cases d<;>simp[Instr.lookup,acH I,s,Instr.findKey,acH hu]<;>(simp at l;simp[l,i])
     |some p=>obtain⟨j,x⟩:=p;simp only at i;subst i;simp[Instr.findNow]at l
    ·cases r with
     |none=>simp only at i;cases d<;>simp[Instr.lookup,acH I,s,Instr.findKey,acH hu,i,getObj,Sem.run,C,l]
     |some p=>obtain⟨j,x⟩:=p;simp only at i;subst i;cases d<;>simp[Instr.lookup,acH I,s,Instr.findKey,acH hu,getObj,Sem.run,C,l]
   split at h
   ·rename_i L l;cases h;obtain⟨j,v',e,rv⟩:=L4 n o Q c ms.toList 0 _ A (f _ _ l);refine⟨if d then .tuple #[v',.bool true]else v',?_,?_⟩
    ·exact ar _ _ e rfl
    ·cases d
     ·exact rv
     ·exact⟨_,rfl,⟨_,_,rfl,rv,⟨_,_,rfl,by simp[ak],by simp[aG]⟩⟩⟩
   ·rename_i l;cases h;have e:=L4 n o Q c ms.toList 0 _ A (f _ _ l);refine⟨if d then .tuple #[K,.bool false]else K,?_,?_⟩
    ·exact ar _ _ e V
    ·cases d
     ·exact rz
     ·exact⟨_,rfl,⟨_,_,rfl,rz,⟨_,_,rfl,by simp[ak],by simp[aG]⟩⟩⟩
   grind
  grind
 grind
theorem UY{x:EK}{u:TypeDesc}{k v:AV}{k' v':Value}(g:kf x k=true)(r:kindOk x u)(n:ak G k k')(p:ak G v v'): ∀ (es b:List (AV×AV)) (ms:List MapEntry) (i:Nat),fB G es ms->k6 k v es=some b->
  (Instr.findNow u k' ms i=some none/\ ∀born,fB G b (ms++[{key:=k',val:=v',born}]))\/
  ∃j a m,Instr.findNow u k' ms i=some (some (i+j,a))/\ms[j]?=some m/\Instr.sameBits 10000 m.key k'=true/\fB G b (ms.modify j λe=>{e with key:=k',val:=v'})
 | [],b,ms,i,hm,h=>by
   subst hm;simp only[k6,acy]at h;subst h;exact .inl ⟨by rfl,λborn=>⟨_,_,rfl,UX g,n,p,by rfl⟩⟩
 | (k₂,t)::es,b,ms,i,hm,h=>by
   simp only[fB]at hm;obtain⟨m,q,rfl,l,c,f,hm⟩:=hm;simp only[k6]at h;split at h
   ·rename_i he;cases h;obtain⟨o,z⟩:=F7 g r n c he;refine .inr ⟨0,m.val,m,by simp[Instr.findNow,o],rfl,z rfl,?_⟩;exact⟨_,_,rfl,UX g,n,p,hm⟩
   ·rename_i he;obtain⟨o,_⟩:=F7 g r n c he;cases y:k6 k v es with
    |none=>grind
    |some d=>
     simp only[y,aei,acy]at h;subst h;rcases UY g r n p es d q (i+1) hm y with⟨e1,s⟩| ⟨j,a,m',e1,s,e3,A⟩
     ·refine .inl ⟨by simpa[Instr.findNow,o]using e1,λborn=>⟨_,_,rfl,l,c,f,s born⟩⟩
     ·refine .inr ⟨j+1,a,m',?_,by simpa using s,e3,?_⟩
      ·simp only[Instr.findNow,o];rw[e1];congr 3;omega
      ·simp only[List.modify_succ_cons];exact⟨_,_,rfl,l,c,f,A⟩
   grind
theorem UZ{k v:AV}{n:Nat}: ∀ {es a:List (AV×AV)},k6 k v es=some a->(∀p∈es,p.2.refs<=n)->v.refs<=n-> ∀p∈a,p.2.refs<=n
 | [],a,h,_,f=>by
   simp only[k6,acy]at h;grind
 | (k₂,e)::es,a,h,c,f=>by
   simp only[k6]at h;split at h
   ·grind
   ·cases g:k6 k v es with
    |none=>grind
    |some d=>
     simp only[g,aei,acy]at h;subst h;intro p b;rcases aeB.1 b with rfl|b
     ·simp_all
     ·exact UZ g (λp h=>c p (by grind)) f p b
   grind
def alV(d:aY P B ax G E w){A O:TypeId}{C:EK}(H:P.underlying t=some (.map A O))(N:zH P A=some C){m k v:AV}{m' k':Value}{I:AS}(o:ak G m m')(M:ak G k k')(J:ak G v v')
  (h:lJ E C m k v=some I):zP P B ax G E I ((Instr.mapUpdate t m' k' v').run P w):=by
 obtain⟨u,hu,b,g⟩:=UW N;unfold lJ at h;split at h
 ·rename_i i;split at h
  ·rename_i id;split at h
   ·rename_i es he;split at h
    ·rename_i l D;cases h;obtain⟨s,ms,clock,F,K⟩:=d.obj id _ he o.FQ;have c:G.on id:=⟨by rw[d.len];grind,o.FQ⟩;simp only[ak]at o;obtain⟨_,r,rfl,q⟩:=o;rw[q s];have a:E.Ext (E.set id (.map l) v.refs):=.set he λn L p=>UZ D L p
     have f:=(d.low id c).2;rcases UY i b M J es l ms.toList 0 K D with⟨e1,y⟩| ⟨j,z,m',e1,y,e3,Q⟩
     ·refine⟨G,eD w (G.ba id) (.map (ms.push {key:=k',val:=v',born:=clock}) (clock+1)),?_,G.le_refl,d.put c _ ⟨s,_,_,sT f,by simpa using y clock⟩,a⟩;simp[Instr.mapUpdate,acH H,getObj,setObj,Sem.run,F,L5 hu b g,Instr.findKey,acH hu,e1,eD]
     ·rw[ajg]at e1;have x:ms[j]?=some m':=by simpa using y
      refine⟨G,eD w (G.ba id) (.map (ms.modify j λe=>{e with key:=k',val:=v'}) clock),?_,G.le_refl,d.put c _ ⟨s,_,_,sT f,by simpa using Q⟩,a⟩;simp[Instr.mapUpdate,acH H,getObj,setObj,Sem.run,F,L5 hu b g,Instr.findKey,acH hu,e1,eD,Instr.keyThatStays,x,e3]
    grind
   grind
  grind
 grind
end
section
variable{P:Program}{X:Ctx}{B:Nat}{ax:World}
variable{G:Gh}{E:AS}{w:World}
def L6{a a':Addr}{b:List Value}(h:b=[]\/a=a'):storeCells a b=storeCells a' b:=by
 rcases h with rfl|rfl
 ·rfl
 ·rfl
def U0{af:List (List AV)}:bT (af.take n)<=bT af:=by
 induction af generalizing n with
 |nil=>simp
 |cons x xs a=>
  cases n with
  |zero=>simp[bT]
  |succ n=>simp only[aoo,bT];grind
def U1(f:aY P B ax G E w){id:Nat}{ty:TypeId}{af b:List (List AV)}(g:E.heap[id]?=some (.row ai sz ty af))(e:G.pz id=none){d:List Value}{off:Nat}(m:bq G b d)(i:Leaves d)(k: ∀el∈b,el.length=sz)(h:off+b.length<=af.length)
  {refs:Nat} (l:bT b<=refs) {a:Addr} (p:d=[]\/a=⟨G.ba id,G.base id+off*sz,none⟩):
  zP P B ax G E (E.set id (.row ai sz ty (af.take off++(b++af.drop (off+b.length)))) refs) ((storeCells a d).run P w):=by
 rw[L6 p];obtain⟨_,_,c,_⟩:=f.obj id _ g e;have n:=ou c;have j:=ou k;have hm:off*sz+b.length*sz<=af.length*sz:=by rw[<-an3];exact ajX _ h
 refine UL f g e (bq.iff.1 m) i (by omega) (λel o=>?_) ?_ (by rw[<-vm];exact l)
 ·grind
 ·rw[al2,al2,FX c,LM c];unfold aM
  grind
def alW(r:aY P B ax G E w){st ty:TypeId}(J:P.underlying t=some (.slice e))(h2:cx P e=some sz){d s v:AV}{K y:Value}{E':AS}(u:ak G d K)(N:ak G s y)(h:ri E sz d s=some (v,E')):
  lL P B ax G E v E' ((Builtin.copy_ #[t,st] ty #[K,y]).run P w):=by
 obtain⟨i,hi,rfl⟩:=UN h2;unfold ri at h;split at h
 ·rename_i ys q;have src: ∃vs,bq G ys vs/\Leaves vs/\ (∀el∈ys,el.length=i.size)/\ (Builtin.lenOf y).run P w= .ok ys.length w/\ ∀n,n<=ys.length->(Builtin.firstCells i.size n y).run P w= .ok (vs.take (n*i.size)).toArray w:=by
   unfold B8 at q;split at q
   ·rename_i b;split at q
    ·rename_i J;cases q;simp only[ak]at N;subst N;refine⟨b.data.toList.map λx=>Value.int .u8 x.toNat,alS _,?_,?_,by simp[Builtin.lenOf,rh],λn hn=>?_⟩
     ·intro v Z;simp only[ael]at Z;obtain⟨x,_,rfl⟩:=Z;rfl
     ·intro el f;simp only[rh,ael]at f;obtain⟨x,_,rfl⟩:=f;rw[J];rfl
     ·rw[J];simp only[Builtin.firstCells,Sem.run_pure]
      congr 1
      apply aob;simp[]
    ·cases q
   ·obtain⟨vs,I,F,hu,H,⟨a,cap,rfl,_⟩,S⟩:=UF r N q;exact⟨vs,I,F,hu,by simp[Builtin.lenOf],λn hn=>S w rfl n hn⟩
  obtain⟨vs,I,F,hu,R,S⟩:=src;have key: ∀ (base:Option Addr) (c m:Nat),K= .slice base c m->(Builtin.copy_ #[t,st] ty #[K,y]).run P w=
    ((match base with|some b=>storeCells b (vs.take (Nat.min ys.length c*i.size))|none=>pure ():Sem Unit).run P w).andThen λ_ w'=>.ok (goInt (Nat.min ys.length c)) w':=by
   rintro base c m rfl;have:=S (Nat.min ys.length c) (Nat.min_le_left _ _);cases base<;>simp[Builtin.copy_,acH J,R,sizeOf,typeInfo,hi,this]
  split at h
  ·cases h;simp only[ak]at u;rw[key none 0 0 u];exact⟨G,w,_,rfl,G.le_refl,r,by simp[ak,goInt],.refl E⟩
  ·rename_i id ai L off len cI;split at h
   ·rename_i W M ty' af he;split at h
    ·rename_i T;obtain⟨U,c2,c3,c4⟩:=T;subst U c2 c3;cases h;simp only[ak]at u;obtain⟨g,Y,D,k,e1,d1,d2,d3⟩:=u;obtain⟨f1,f2,f3⟩:=d3 (r.obj id _ he g.2).1;rw[key (some D) len k e1];have Q:Nat.min ys.length len<=ys.length:=Nat.min_le_left ys.length len;have C:Nat.min ys.length len<=len:=Nat.min_le_right ys.length len;have z: (ys.take (Nat.min ys.length len)).length=Nat.min ys.length len:=by rw[aeD];omega
     have p:bq G (ys.take (Nat.min ys.length len)) (vs.take (Nat.min ys.length len*i.size)):=by
      have:=I.slice (l:=0) (n:=Nat.min ys.length len) hu;simpa using this
     obtain⟨V,w',O,hle,o,j⟩:=U1 r he g.2 p (F.take _) (λel f=>hu el (afZ f)) (off:=off) (by omega) (refs:=bT ys) U0 (a:=D) (by
      by_cases h0:len=0
      ·left;have:Nat.min ys.length len=0:=by omega
       rw[this];simp
      ·right;rw[f2 (by omega)])
     rw[O,z]at*;exact⟨V,w',_,rfl,hle,o,by simp[ak,goInt],j⟩
    ·cases h
   ·cases h
  ·rename_i id M off len;split at h
   ·rename_i cs he;split at h
    ·rename_i T;obtain⟨U,c2,c3⟩:=T;subst U;cases h;simp only[ak]at u;obtain⟨g,D,k,e1,d1,d2⟩:=u;rw[key (some D) len k e1];have Q:Nat.min ys.length len<=ys.length:=Nat.min_le_left ys.length len;have C:Nat.min ys.length len<=len:=Nat.min_le_right ys.length len;have z: (ys.take (Nat.min ys.length len)).flatten.length=Nat.min ys.length len*i.size:=by rw[ou λel f=>hu el (afZ f),aeD];congr 1;omega
     have p:aG G (ys.take (Nat.min ys.length len)).flatten (vs.take (Nat.min ys.length len*i.size)):=by
      rw[FX hu];exact(bq.iff.1 I).take _
     have hmm:Nat.min ys.length len*i.size<=len*i.size:=ajX _ C;have A:=LY r he g.2 p (F.take _) (off:=off) (by omega) (refs:=bT ys) (by rw[<-vm];exact U0);simp only;rw[L6 (a:=D) (a':=⟨G.ba id,off,none⟩) (by
      by_cases h0:len=0
      ·left;have:Nat.min ys.length len=0:=by omega
       rw[this];simp
      ·right;exact d2 (zM r he g.2).1 (by omega))]
     obtain⟨V,w',O,hle,o,j⟩:=A;rw[O];exact⟨V,w',_,rfl,hle,o,by simp[ak,goInt],j⟩
    ·cases h
   ·cases h
  grind
 grind
def alX(zc:Array Value)(k:Nat): (Builtin.zeroCells zc k).toList=(List.replicate k zc.toList).flatten:=by
 unfold Builtin.zeroCells;rw[Array.toList_map,Array.toList_range];by_cases a:0<zc.size
 ·exact F3 zc a k
 simp_all
def alY(l:aY P B ax G E w){ty:TypeId}{z:List AV}(v:P.underlying t=some (.slice e))(Q:gL P e=some z){x:AV}{p:Value}{K:AS}(j:ak G x p)(h:rj E z x=some K):
  lL P B ax G E .undef K ((Builtin.clear_ #[t] ty #[p]).run P w):=by
 obtain⟨D,R,_,lz,k,_⟩:=rp Q G w;have key: ∀ (a:Addr) (n c:Nat),p= .slice (some a) n c->(Builtin.clear_ #[t] ty #[p]).run P w=
   ((storeCells a (List.replicate n D.cells.toList).flatten).run P w).andThen λ_ w'=>.ok (.tuple #[]) w':=by
  rintro a n c rfl;cases n with
  |zero=>simp[Builtin.clear_,acH v,storeCells]
  |succ n=>
   have:=alX D.cells (n+1);simp only[Builtin.clear_];simp[acH v,R,<-this]
 unfold rj at h;split at h
 ·cases h;simp only[ak]at j;subst j;exact⟨G,w,.tuple #[],by simp[Builtin.clear_,acH v],G.le_refl,l,⟨_,rfl,by simp[aG]⟩,.refl E⟩
 ·rename_i id ai q off len cI;split at h
  ·rename_i F M L af he;split at h
   ·rename_i u;obtain⟨A,J,I,S,T⟩:=u;subst A J I;cases h;simp only[ak]at j;obtain⟨d,H,o,f,e1,d1,d2,d3⟩:=j;obtain⟨f1,f2,f3⟩:=d3 (l.obj id _ he d.2).1;rw[key o len f e1];obtain⟨C,w',s,hle,g,b⟩:=U1 l he d.2 (Ck lz len) (F4 k len) (λel i=>by rw[aqJ i]) (off:=off) (by simpa using S) (refs:=0) (by
      rw[vm];have: ∀n,aI (List.replicate n z).flatten<=0:=by
       intro n
       induction n with
       |zero=>simp[aI]
       |succ n N=>simp only[aqG,am4,pR];omega
      exact this len) (a:=o) (by
     by_cases y:len=0
     ·left;rw[y];simp
     ·right;rw[f2 (by omega)])
    rw[s];rw[List.length_replicate]at g b;exact⟨C,w',_,rfl,hle,g,⟨_,rfl,by simp[aG]⟩,b⟩
   ·cases h
  ·cases h
 ·rename_i id sz off len;split at h
  ·rename_i cs he;split at h
   ·rename_i u;obtain⟨A,J,I⟩:=u;subst A;cases h;simp only[ak]at j;obtain⟨d,o,f,e1,d1,d2⟩:=j;rw[key o len f e1];have r:=Ck lz len;have O: (List.replicate len z).flatten.length=len*z.length:=by rw[ou (sz:=z.length) λel i=>by rw[aqJ i]];simp
    have m:=LY l he d.2 (bq.iff.1 r) (F4 k len) (off:=off) (by omega) (refs:=0) (by
     have: ∀n,aI (List.replicate n z).flatten<=0:=by
      intro n
      induction n with
      |zero=>simp[aI]
      |succ n N=>simp only[aqG,am4,pR];omega
     exact this len)
    rw[L6 (a:=o) (a':=⟨G.ba id,off,none⟩) (by
     by_cases y:len=0
     ·left;rw[y];simp
     ·right;exact d2 (zM l he d.2).1 (by omega))]
    obtain⟨C,w',s,hle,g,b⟩:=m;rw[s];exact⟨C,w',_,rfl,hle,g,⟨_,rfl,by simp[aG]⟩,b⟩
   ·cases h
  ·cases h
 grind
def ays(d:P.cellsOf e=1)(a off n:Nat)(c:off+n<=a):liesAt P P.depth e a off e n=true:=by
 have b:P.depth=(2*(P.types.size+Made.depth)+1)+1:=rfl;rw[b];simp only[liesAt,anX];rw[b];simp[rowAt,d,c,sameLayout,Nat.mod_one]
theorem alZ{w:World}: ∀ (a:List Int) (b o:Nat) (acc:ByteArray),(∀ (j:Nat) (u:Value),(a.map (Value.int .u8))[j]?=some u->w.cell? ⟨b,o+j,none⟩=some u)->
  (loadBytes ⟨b,o,none⟩ acc a.length).run P w= .ok ⟨acc.data++(a.map λn=>UInt8.ofNat n.toNat).toArray⟩ w
 | [],b,o,acc,_=>by rfl
 |n::a,b,o,acc,h=>by
  have c:w.cell? ⟨b,o,none⟩=some (.int .u8 n):=by
   have:=h 0 (.int .u8 n) rfl;omega
  have d:=alZ a b (o+1) (acc.push n.toNat.toUInt8) (λj u e=>by
   have:=h (j+1) u (by grind);rw[show o+1+j=o+(j+1) by omega];omega)
  simp only[aep,loadBytes,Sem.run_bind,run_load,c,Result.andThen_ok,iX];simp_all
def ayt(w:World)(a:Addr)(n:Nat): (w.freeze a n).heap.size=w.heap.size:=by
 unfold World.freeze;grind
def ayu{w:World}{a:Addr}(h:k≠a.block): (w.freeze a n).heap[k]?=w.heap[k]?:=by
 unfold World.freeze
 grind
def ayv(w:World)(a:Addr)(n:Nat): (w.freeze a n).os=w.os/\ (w.freeze a n).tape=w.tape/\ (w.freeze a n).output=w.output:=by
 unfold World.freeze;grind
end
section
variable{P:Program}{X:Ctx}{B:Nat}{ax:World}
variable{G:Gh}{E:AS}{w:World}
def fo{s:Sem Value}{v:AV}(hw:aY P B ax G E w)(h: ∃v',s.run P w= .ok v' w/\ak G v v'):Good P B ax G E v E ((do pure (.value (<-s)):Sem Next).run P w):=by
 obtain⟨v',e,r⟩:=h;simp only[Sem.run_bind,e,Result.andThen_ok,Sem.run_pure];exact .same hw r
def ru{s:Sem Value}{v:AV}{b:AS}(h:lL P B ax G E v b (s.run P w)):Good P B ax G E v b ((do pure (.value (<-s)):Sem Next).run P w):=by
 obtain⟨i,w',v',e,g,f,d,c⟩:=h;simp only[Sem.run_bind,e,Result.andThen_ok,Sem.run_pure];exact⟨i,w',v',.inl rfl,g,f,d,c⟩
def U2{s:Sem Unit}{b:AS}(h:zP P B ax G E b (s.run P w)):Good P B ax G E .undef b ((do s;pure .skip:Sem Next).run P w):=by
 obtain⟨g,w',e,f,d,c⟩:=h;simp only[Sem.run_bind,e,Result.andThen_ok,Sem.run_pure];exact⟨g,w',undef,.inr ⟨rfl,rfl⟩,f,d,⟨#[],rfl,by rfl⟩,c⟩
def dW{E b:AS}{o:Option AV}{v:AV}(h:fH E o=some (.ok v b)):o=some v/\b=E:=by
 cases o with
 |none=>trivial
 |some a=>simp[fH]at h;grind
def xu{e:Env}(he:cL G nt e a.tmps){x:Option Operand}{y:Option ao}(h:sQ x=some y):ld G (y.map (·.get e)) (x.map a.eval):=by
 cases x with
 |none=>simp only[sQ,acy]at h;subst h;simp[ld]
 |some x=>
  simp only[sQ]at h;cases b:bI x with
  |none=>grind
  |some z=>simp[b]at h;subst h;exact⟨_,rfl,cF he b⟩
def U3{x:Option Operand}{y:Option ao}(h:sQ x=some y):y.isNone=x.isNone:=by
 cases x with
 |none=>simp only[sQ,acy]at h;grind
 |some x=>
  simp only[sQ]at h;cases b:bI x with
  |none=>grind
  |some z=>grind
def I.plain:I->Bool
 |.call .. |.panic _=>false
 |_=>true
section
variable(hw:aY P B ax G E w)(hg:fk X B ax){nt:Nat}{e:Env}{a:Act}(he:cL G nt e a.tmps)(C:bw)
include hw hg he
omit hg in
theorem al0{f:TypeId}{c:Call}{i:I}(h:Cb P f c=some i)(T:i.plain=true){v:AV}{Q:AS}(j:exec X C i e E=some (.ok v Q)):
  Good P B ax G E v Q ((do let d<-resolve a.eval c f;invoke d.target d.args:Sem Next).run P w):=by
 obtain⟨callee,args,argTypes⟩:=c;unfold Cb at h;split at h
 case h_1=>
  split at h
  ·cases h;simp[I.plain]at T
  ·cases h
 case h_2 t x l n o=>
  simp only at l n o;subst l;have q:args= #[x]:=by apply aob;simpa using o
  have p:argTypes= #[t]:=by apply aob;simpa using n
  subst q p;have g: (do let d<-resolve a.eval ⟨.builtin .len,#[x],#[t]⟩ f;invoke d.target d.args:Sem Next)=(do pure (.value (<-Builtin.len_ #[t] f ((#[x]:Array Operand).map a.eval)))):=rfl;rw[g,show(#[x]:Array Operand).map a.eval= #[a.eval x] by simp];split at h
  ·rename_i hu;cases ho:bI x with
   |none=>simp[ho]at h
   |some y=>
    simp only[ho,aei,acy]at h;subst h;obtain⟨m,rfl⟩:=dW j;exact fo hw (LS (k:=.str) hw hu rfl (cF he ho) m)
  ·rename_i hu;cases ho:bI x with
   |none=>simp[ho]at h
   |some y=>
    simp only[ho,aei,acy]at h;subst h;obtain⟨m,rfl⟩:=dW j;exact fo hw (LS (k:=.sl) hw hu ⟨_,rfl⟩ (cF he ho) m)
  ·rename_i hu;cases ho:bI x with
   |none=>simp[ho]at h
   |some y=>
    simp only[ho,aei,acy]at h;subst h;obtain⟨m,rfl⟩:=dW j;exact fo hw (LS (k:=.map) hw hu ⟨_,_,rfl⟩ (cF he ho) m)
  ·cases h
 case h_3 st A s x l n o=>
  simp only at l n o;subst l;have q:args= #[s,x]:=by apply aob;simpa using o
  have p:argTypes= #[st,A]:=by apply aob;simpa using n
  subst q p;have g: (do let d<-resolve a.eval ⟨.builtin .append,#[s,x],#[st,A]⟩ f;invoke d.target d.args:Sem Next)=(do pure (.value (<-Builtin.append_ #[st,A] f ((#[s,x]:Array Operand).map a.eval)))):=rfl;rw[g,show(#[s,x]:Array Operand).map a.eval= #[a.eval s,a.eval x] by simp];split at h
  ·rename_i el hu;split at h
   ·rename_i sz b R W K J H F;split at h
    ·rename_i V D;split at h
     ·rename_i O;cases h;simp only[exec]at j;split at j
      ·rename_i ys S;split at j
       ·rename_i v' u L;cases j;exact ru (alR hw hu D K J O.2 O.1 (cF he H) (cF he F) S L)
       ·cases j
      ·cases j
     ·cases h
    ·cases h
   ·cases h
  ·cases h
 case h_4 N st d s l n o=>
  simp only at l n o;subst l;have q:args= #[d,s]:=by apply aob;simpa using o
  have p:argTypes= #[N,st]:=by apply aob;simpa using n
  subst q p;have g: (do let d<-resolve a.eval ⟨.builtin .copy,#[d,s],#[N,st]⟩ f;invoke d.target d.args:Sem Next)=(do pure (.value (<-Builtin.copy_ #[N,st] f ((#[d,s]:Array Operand).map a.eval)))):=rfl;rw[g,show(#[d,s]:Array Operand).map a.eval= #[a.eval d,a.eval s] by simp];split at h
  ·rename_i el hu;split at h
   ·rename_i sz Y R m M U;cases h;simp only[exec]at j;split at j
    ·rename_i v' u r;cases j;exact ru (alW hw hu m (cF he M) (cF he U) r)
    ·cases j
   ·cases h
  ·cases h
 case h_5 t x l n o=>
  simp only at l n o;subst l;have q:args= #[x]:=by apply aob;simpa using o
  have p:argTypes= #[t]:=by apply aob;simpa using n
  subst q p;have g: (do let d<-resolve a.eval ⟨.builtin .clear,#[x],#[t]⟩ f;invoke d.target d.args:Sem Next)=(do pure (.value (<-Builtin.clear_ #[t] f ((#[x]:Array Operand).map a.eval)))):=rfl;rw[g,show(#[x]:Array Operand).map a.eval= #[a.eval x] by simp];split at h
  ·rename_i el hu;split at h
   ·rename_i z y m M;cases h;simp only[exec]at j;split at j
    ·rename_i u r;cases j;exact ru (alY hw hu m (cF he M) r)
    ·cases j
   ·cases h
  ·cases h
 case h_6 xs l=>
  simp only at l;subst l;have g: (do let d<-resolve a.eval ⟨.builtin .max,args,argTypes⟩ f;invoke d.target d.args:Sem Next)=(do pure (.value (<-Builtin.max_ argTypes f (args.map a.eval)))):=rfl;rw[g];split at h
  ·cases ho:ng args.toList with
   |none=>simp[ho]at h
   |some ys=>
    simp only[ho,aei,acy]at h;subst h;obtain⟨m,rfl⟩:=dW j;exact fo hw (alu (by simpa using xn he ho) m w)
  ·cases h
 case h_7 xs l=>
  simp only at l;subst l;have g: (do let d<-resolve a.eval ⟨.builtin .min,args,argTypes⟩ f;invoke d.target d.args:Sem Next)=(do pure (.value (<-Builtin.min_ argTypes f (args.map a.eval)))):=rfl;rw[g];split at h
  ·cases ho:ng args.toList with
   |none=>simp[ho]at h
   |some ys=>
    simp only[ho,aei,acy]at h;subst h;obtain⟨m,rfl⟩:=dW j;exact fo hw (alv (by simpa using xn he ho) m w)
  ·cases h
 case h_8 t x l n o=>
  simp only at l n o;subst l;have q:args= #[x]:=by apply aob;simpa using o
  have p:argTypes= #[t]:=by apply aob;simpa using n
  subst q p;have g: (do let d<-resolve a.eval ⟨.builtin .cap,#[x],#[t]⟩ f;invoke d.target d.args:Sem Next)=(do pure (.value (<-Builtin.cap_ #[t] f ((#[x]:Array Operand).map a.eval)))):=rfl;rw[g,show(#[x]:Array Operand).map a.eval= #[a.eval x] by simp];split at h
  ·rename_i hu;cases ho:bI x with
   |none=>simp[ho]at h
   |some y=>
    simp only[ho,aei,acy]at h;subst h;obtain⟨m,rfl⟩:=dW j;exact fo hw (als hu (cF he ho) m w)
  ·cases h
 case h_9=>cases h
theorem al1{rows:Bool}{o:Oper}{i:I}(h:kg P rows o=some i)(hp:i.plain=true){v:AV}{E':AS}(A:exec X C i e E=some (.ok v E')):Good P B ax G E v E' ((execOp a.eval o).run P w):=by
 unfold kg at h;split at h
 case h_1 x d|h_2 x d=>
  simp only[d,execOp];cases ho:bI x with
  |none=>simp[ho]at h
  |some y=>
   simp only[ho,aei,acy]at h;subst h;cases A;simp only[Sem.run_pure];exact .same hw (cF he ho)
 case h_3 c x y d=>
  simp only[d,execOp];split at h
  ·rename_i c' x' y' F D N;cases h;simp only[exec]at A;split at A
   ·rename_i t ht;cases A;have L:=cF he F;rw[ht]at L;simp only[ak]at L;simp only[Sem.run_bind,L,asBool,Sem.run_pure,Result.andThen_ok];cases t
    ·exact .same hw (cF he N)
    ·exact .same hw (cF he D)
   ·cases A
  ·cases h
 case h_4 t d=>
  simp only[d,execOp];cases R:gL P t with
  |none=>simp[R]at h
  |some z=>
   simp only[R,aei,acy]at h;subst h;cases A;exact ru (alB hw R)
 case h_5 t x d=>
  simp only[d,execOp];cases ho:bI x with
  |none=>simp[ho]at h
  |some y=>
   simp only[ho,aei,acy]at h;subst h;simp only[exec]at A;split at A
   ·cases A
   ·rename_i ht;cases A;exact ru (alC hw (λt' h=>alA h) (cF he ho) (by simpa using ht))
 case h_6 t ps d=>
  simp only[d,execOp];split at h
  ·rename_i fields z hu R;split at h
   ·rename_i sW;obtain⟨l,M,rfl⟩:=aeh.1 h;simp only[exec]at A;split at A
    ·rename_i cs S;cases A;exact fo hw (alw hu R sW he M S w)
    ·cases A
   ·cases h
  ·rename_i n el z hu R;split at h
   ·rename_i sz H;cases M:parts (λi=>some (i*sz,sz)) ps.toList with
    |none=>simp[M]at h
    |some l=>
     simp only[M,aei,acy]at h;subst h;simp only[exec]at A;split at A
     ·rename_i cs S;cases A;exact fo hw (alx hu R H he M S w)
     ·cases A
   ·cases h
  ·cases h
 case h_7 t len ps d=>
  simp only[d,execOp];split at h
  ·rename_i el hu;split at h
   ·rename_i z R;split at h
    ·rename_i hc;obtain⟨U4,U5⟩:=hc;cases M:parts (λi=>some (i*z.length,z.length)) ps.toList with
     |none=>simp[M]at h
     |some l=>
      simp only[M,aei,acy]at h;have T: ∀k,(List.replicate k z).flatten.length=k*z.length:=λk=>by
       rw[ou (sz:=z.length) λel pT=>by rw[aqJ pT]];simp
      cases rows with
      |true=>
       simp only[aeE]at h;subst h;simp only[exec]at A;split at A
       ·rename_i cs S;cases A;exact ru (alJ hw hu R U5 U4 he M S (by rw[L0 S,T]))
       ·cases A
      |false=>
       simp only[aek,ahz]at h;subst h;simp only[exec]at A;split at A
       ·rename_i cs S;cases A;exact ru (alI hw hu R U5 U4 he M S (by rw[L0 S,T]))
       ·cases A
    ·cases h
   ·cases h
  ·cases h
 case h_8 t x d=>
  simp only[d,execOp];split at h
  ·rename_i b n y F D N;cases h;obtain⟨K,rfl⟩:=dW A;exact fo hw (Uq hw hg F D (cF he N) K)
  ·cases h
 case h_9 t x y d=>
  simp only[d,execOp];split at h
  ·rename_i n x' y' F D N;cases h;simp only[exec]at A;split at A
   ·rename_i U6 H;cases A;exact U2 (alF hw F (cF he D) (cF he N) H)
   ·cases A
  ·cases h
 case h_10 x d=>
  simp only[d,execOp];cases ho:bI x with
  |none=>simp[ho]at h
  |some y=>
   simp only[ho,aei,acy]at h;subst h;obtain⟨K,rfl⟩:=dW A;have L:=cF he ho;obtain⟨rfl,hsh⟩:=alr L K;rcases hsh with⟨b,e1⟩| ⟨f,b,c,e1⟩| ⟨f,b,c,e1⟩<;>rw[e1]at L⊢ <;>simp only[Sem.run_pure]<;>exact .same hw L
 case h_11 op t x y g d=>
  simp only[d,execOp];split at h
  ·rename_i x' y' F D;have Q:=cF he F;have O:=cF he D;split at h
   case h_1|h_2=>
    cases h;simp only[exec]at A;split at A
    ·rename_i k p k' q e1 e2;obtain⟨K,rfl⟩:=dW A;rw[e1]at Q;rw[e2]at O;simp only[ak]at Q O;rw[Q,O];refine fo hw ?_;obtain⟨v',e3,r⟩:=alf (P:=P) (G:=G) (t:=t) (k':=k') K w;exact⟨v',by simp[eqGuard,e3],r⟩
    ·cases A
   case h_3=>
    cases W:xk P t x y with
    |none=>simp[W]at h
    |some k=>
     simp only[W,aei,acy]at h;subst h;simp only[exec]at A;split at A
     ·rename_i b hb;cases A;obtain⟨e1,e2,_,_⟩:=UD W Q O hb w;exact fo hw (Ch (by simp[e1,e2]))
     ·cases A
   case h_4=>
    cases W:xk P t x y with
    |none=>simp[W]at h
    |some k=>
     simp only[W,aei,acy]at h;subst h;simp only[exec]at A;split at A
     ·rename_i b hb;cases A;obtain⟨_,_,e1,e2⟩:=UD W Q O hb w;exact fo hw (Ch (by simp[e1,e2]))
     ·cases A
   case h_5=>
    cases h;rename_i op _ _ _ n1 n2 n3 n4 _;obtain⟨K,rfl⟩:=dW A;obtain⟨v',e3,r⟩:=Ut (P:=P) (t:=t) Q O K n3 n4 w;have Z: (eqGuard op t x y (a.eval x) (a.eval y)).run P w= .ok () w:=by
     cases op<;>first|exact absurd rfl n3|exact absurd rfl n4|simp[eqGuard]
    exact fo hw ⟨v',by simp[Z,e3],r⟩
   case h_6=>
    cases h;rename_i op _ _ n3 n4 _;obtain⟨K,rfl⟩:=dW A;obtain⟨v',e3,r⟩:=Ut (P:=P) (t:=t) Q O K n3 n4 w;have Z: (eqGuard op t x y (a.eval x) (a.eval y)).run P w= .ok () w:=by
     cases op<;>first|exact absurd rfl n3|exact absurd rfl n4|simp[eqGuard]
    exact fo hw ⟨v',by simp[Z,e3],r⟩
   case h_7=>cases h
  ·cases h
 case h_12 op t x d=>
  simp only[d,execOp];cases ho:bI x with
  |none=>simp[ho]at h
  |some y=>
   simp only[ho,aei,acy]at h;subst h;obtain⟨K,rfl⟩:=dW A;exact fo hw (alg (cF he ho) K w)
 case h_13 src dst x d=>
  simp only[d,execOp];split at h
  ·rename_i k kd y H hd ho;cases h;simp only[exec]at A;split at A
   ·rename_i k' n hn;cases A;have L:=cF he ho;rw[hn]at L;simp only[ak]at L;rw[L];exact fo hw (km (alh (by simp[H]) hd w))
   ·cases A
  ·rename_i el y H hd ho;split at h
   ·rename_i pT;cases h;simp only[exec]at A;split at A
    ·rename_i s hn;split at A
     ·cases A;have L:=cF he ho;rw[hn]at L;simp only[ak]at L;rw[L];exact ru (alH hw H hd pT s)
     ·cases A
    ·cases A
   ·cases h
  ·cases h
 case h_14 t x d=>
  simp only[d,execOp];split at h
  ·cases h
  ·cases h
  ·rename_i u U hu;cases ho:bI x with
   |none=>simp[ho]at h
   |some y=>
    simp only[ho,aei,acy]at h;subst h;cases A;exact fo hw ⟨_,alq hu (λms e=>U ms e) _ w,⟨_,rfl,cF he ho⟩⟩
 case h_15 f first cap d=>
  simp only[d,execOp];split at h
  ·rename_i xs ys F D;split at h
   ·cases h
   ·rename_i hy;cases h;cases A;refine fo hw ⟨_,by simp only[Instr.makeFunc,Sem.run_pure];rfl,⟨f,_,_,rfl,?_,by simpa using xn he F,by simpa using xn he D⟩⟩;cases f<;>simp[Ui]at hy<;>simp[mz]
  ·cases h
 case h_16 t d=>
  simp only[d,execOp];cases h;cases A;exact ru (alD hw t)
 case h_17 t l c d=>
  simp only[d,execOp];split at h
  ·rename_i el hu;split at h
   ·rename_i z b l' c' F D N K;split at h
    ·rename_i hc;cases h;simp only[exec]at A;split at A
     ·rename_i v' U6 hm;cases A;exact ru (alG hw hu F D hc.1 (cF he N) (cF he K) hm)
     ·cases A
    ·cases h
   ·cases h
  ·cases h
 case h_18 t x lo hi mx d=>
  simp only[d,execOp];split at h
  ·rename_i x' aj hi' mx' F D N K;split at h
   ·rename_i hu;split at h
    ·rename_i hm;cases h;obtain⟨J,rfl⟩:=dW A;have V:mx=none:=by
      have:=U3 K;rw[hm]at this;simpa using this.symm
     subst V;exact fo hw (ak8 hu (cF he F) (xu he D) (xu he N) J w)
    ·cases h
   ·rename_i el hu;split at h
    ·rename_i hm;cases H:cx P el with
     |none=>simp[H]at h
     |some n=>
      simp only[H,aei,acy]at h;subst h;obtain⟨J,rfl⟩:=dW A;refine fo hw (alc hu H (cF he F) (xu he D) (xu he N) (xu he K) ?_ J w);cases mx' with
      |none=>exact .inl rfl
      |some m=>
       right
       cases hi' with
       |none=>simp at hm
       |some q=>simp
    ·cases h
   ·rename_i n el hu;split at h
    ·rename_i hm;cases H:cx P el with
     |none=>simp[H]at h
     |some sz=>
      simp only[H,aei,acy]at h;subst h;obtain⟨J,rfl⟩:=dW A;have V:mx=none:=by
       have:=U3 K;rw[hm]at this;simpa using this.symm
      subst V;exact fo hw (ald hw hg hu H (cF he F) (xu he D) (xu he N) J)
    ·cases h
   ·cases h
  ·cases h
 case h_19 s x f d=>
  simp only[d,execOp];split at h
  ·rename_i fields y hu ho;split at h
   ·rename_i g Y;split at h
    ·rename_i n hn;split at h
     ·rename_i UR;cases h;obtain⟨J,rfl⟩:=dW A;exact fo hw (ak0 hw hg hu Y hn UR (cF he ho) J)
     ·cases h
    ·cases h
   ·cases h
  ·cases h
 case h_20 s x f d=>
  simp only[d,execOp];split at h
  ·rename_i fields y hu ho;split at h
   ·rename_i g Y;split at h
    ·rename_i b n F D;cases h;simp only[exec]at A;split at A
     ·rename_i cs F8;obtain⟨J,rfl⟩:=dW A;have L:=cF he ho;rw[F8]at L;exact fo hw (ak4 hu Y F D L J w)
     ·cases A
    ·cases h
   ·cases h
  ·cases h
 case h_21 t x ix d=>
  simp only[d,execOp];split at h
  ·rename_i n el y iy hu F D;cases H:cx P el with
   |none=>simp[H]at h
   |some sz=>
    simp only[H,aei,acy]at h;subst h;obtain⟨J,rfl⟩:=dW A;exact fo hw (ak1 hw hg hu H (cF he F) (cF he D) J)
  ·rename_i el y iy hu F D;cases H:cx P el with
   |none=>simp[H]at h
   |some sz=>
    simp only[H,aei,acy]at h;subst h;obtain⟨J,rfl⟩:=dW A;exact fo hw (ak3 hu H (cF he F) (cF he D) J)
  ·cases h
 case h_22 t x ix d=>
  simp only[d,execOp];split at h
  ·rename_i n el y iy hu F D;split at h
   ·rename_i b sz N K;cases h;obtain⟨J,rfl⟩:=dW A;exact fo hw (ak5 hu N K (cF he F) (cF he D) J w)
   ·cases h
  ·rename_i y iy hu F D;cases h;obtain⟨J,rfl⟩:=dW A;exact fo hw (ak6 hu (cF he F) (cF he D) J w)
  ·cases h
 case h_23 t m k ok d=>
  simp only[d,execOp];split at h
  ·rename_i kt et hu;split at h
   ·rename_i kk z m' k' F D N K;cases h;obtain⟨J,rfl⟩:=dW A;exact fo hw (alU hw hg hu F D (cF he N) (cF he K) J)
   ·cases h
  ·cases h
 case h_24 t m k x d|h_25 t m k x d=>
  simp only[d,execOp];split at h
  ·rename_i kt et hu;split at h
   ·rename_i kk m' k' x' F D N K;cases h;simp only[exec]at A;split at A
    ·rename_i U6 hm;cases A;exact U2 (alV hw hu F (cF he D) (cF he N) (cF he K) hm)
    ·cases A
   ·cases h
  ·cases h
 case h_26 x xt asserted ok d=>
  simp only[d,execOp];split at h
  ·cases h
  ·rename_i u y U hu ho;split at h
   ·rename_i z R;cases h;obtain⟨J,rfl⟩:=dW A;exact fo hw (alp hu (λms e=>U ms e) R (cF he ho) J xt w)
   ·cases h
  ·cases h
 case h_27 x j d=>
  simp only[d,execOp];cases ho:bI x with
  |none=>simp[ho]at h
  |some y=>
   simp only[ho,aei,acy]at h;subst h;simp only[exec]at A;split at A
   ·rename_i vs hvs;obtain⟨J,rfl⟩:=dW A;have L:=cF he ho;rw[hvs]at L;exact fo hw (ak7 (x:=.av vs) L J w)
   ·cases A
 case h_28 c d=>
  simp only[d,execOp];exact al0 hw he C h hp A
 case h_29 x d=>
  cases ho:bI x with
  |none=>simp[ho]at h
  |some y=>simp only[ho,aei,acy]at h;subst h;simp[I.plain]at hp
 case h_30=>cases h
end
end
section
variable{P:Program}{X:Ctx}{B:Nat}{ax:World}
open Classical in
noncomputable def Gh.cut(G:Gh)(n:Nat)(w:World):Gh:=
 {G with n:=n,bu:=λb o=>if∃id,n<=id/\G.on id/\G.ba id=b then w.cell? ⟨b,o,none⟩else G.bu b o}
def F9{G:Gh}{E:AS}(a:aY P B ax G E w){o:Nat}(h:G.bu b o=some v): (G.cut n w).bu b o=some v:=by
 simp only[Gh.cut];split
 ·rename_i d;obtain⟨id,_,c,rfl⟩:=d;rw[a.sep id c]at h;cases h
 omega
def U7{G:Gh}{E:AS}(a:aY P B ax G E w):G.dQ n (G.cut n w):=
 ⟨λ_ _ _ h=>F9 a h,aeg _,λ_ _=>rfl,λ_ _=>rfl,λ_ _=>rfl,λ_ _=>rfl,λ_ _=>rfl,λ_ _=>rfl⟩
def al6{G:Gh}{id:Nat}(b:n<=id)(a:G.on id)(o:Nat): (G.cut n w).bu (G.ba id) o=w.cell? ⟨G.ba id,o,none⟩:=by
 simp only[Gh.cut];rw[acE ⟨id,b,a,rfl⟩]
theorem aY.cut{G:Gh}{E:AS}(a:aY P B ax G E w)(d:n<=G.n)(m: ∀j o,j<n->E.heap[j]?=some o->o.le n)(lo:oN):aY P B ax (G.cut n w) {heap:=E.heap.take n,lo} w where
 len:=by
  have:=a.len;simp[Gh.cut];omega
 bu b o v h:=by
  simp only[Gh.cut]at h;split at h
  ·exact h
  ·exact a.bu b o v h
 obj id o h l:=by
  simp only[akr]at h;split at h
  ·rename_i f;exact iq.dQ (U7 a) f rfl (a.obj id o h l) (m id o f h)
  grind
 inj i j c p e:=a.inj i j ⟨af2 c.1 d,c.2⟩ ⟨af2 p.1 d,p.2⟩ e
 sep i c o:=by
  have r:i<n:=c.1;have k:G.on i:=⟨af2 c.1 d,c.2⟩;simp only[Gh.cut];rw[acz]
  ·exact a.sep i k o
  ·rintro⟨id,y,t,e⟩;have:=a.inj id i t k e;omega
 low i c:=a.low i ⟨af2 c.1 d,c.2⟩
 la:=a.la
 hB:=a.hB
 lb id o g l:=by
  have q:id<n:=g;obtain⟨x,u⟩:=a.lb id o (af2 g d) l
  grind
 dD b o v s h:=F9 a (a.dD b o v s h)
mutual
theorem U8{G:Gh}{E:AS}{w:World}(m:aY P B ax G E w){n:Nat}: ∀ (k:Nat) (v f:AV) (v':Value),freeze E n k v=some f->ak G v v'->ak (G.cut n w) f v'/\f.refs<=n
 |0,_,_,_,h,_=>by simp[freeze]at h
 |k+1,v,f,v',h,r=>by
  unfold freeze at h;split at h
  ·rename_i J;cases h;exact⟨r.dQ (U7 m) _ _ J,J⟩
  ·rename_i J;split at h
   ·rename_i id ai sz off len cI;split at h
    ·rename_i T q ty af he;split at h
     ·rename_i Y;obtain⟨c1,c2,c3⟩:=Y;subst c1 c2;split at h
      ·rename_i g z;cases h;obtain⟨g1,g2,S,c,pre,vs,post,Z,R,U,M,K,D⟩:=m.obj id _ he r.LG;have N:G.on id:=⟨by rw[m.len];exact(abQ.1 he).1,r.LG⟩;have H:n<=id:=by simp only[AV.refs]at J;omega
       simp only[ak]at r;obtain⟨_,_,a,cap,e,d1,d2,d3⟩:=r;obtain⟨f1,f2,f3⟩:=d3 g1;have L:=K.slice (l:=off) (n:=len) S;obtain⟨y,x,t⟩:=L7 m k _ g _ z L;have d:g.length=len:=by
        have:=t;rw[this.1];simp;omega
       refine⟨⟨a.block,a.off,cap,q,_,?_,by rw[d];exact d1.1,λA=>by rw[d];exact d2 A,?_,?_,(D.drop _).take _,y⟩,x⟩
       ·rw[e,d];congr 2;obtain⟨b,o,s⟩:=a;have:=d1.2;simp only at this;rw[this]
       ·exact t.2 q (λel Q=>S el (am3 (afZ Q)))
       ·intro j u i;have p:0<cap:=by
         by_cases h0:len=0
         ·subst h0;simp at i
         ·omega
        have F:a.off=G.base id+off*q:=by rw[f2 p]
        have I:a.block=G.ba id:=by rw[f2 p]
        rw[F,I,al6 H N];refine Ce Z _ u ?_;have V:=K.len S;rw[akr]at i;split at i
        ·rw[ajQ]at i;have W:=(abQ.1 i).1;rw[R,aet (by omega),abP (by omega),<-i]
         congr 1;omega
        ·cases i
      ·cases h
     ·cases h
    ·cases h
   ·rename_i cs;split at h
    ·rename_i C z;cases h;simp only[ak]at r;obtain⟨vs,rfl,l,D⟩:=r;obtain⟨y,x,_⟩:=Ga m k cs C _ z l;exact⟨⟨vs,rfl,y,D⟩,x⟩
    ·cases h
   ·rename_i cs;split at h
    ·rename_i C z;cases h;simp only[ak]at r;obtain⟨vs,rfl,l⟩:=r;obtain⟨y,x,_⟩:=Ga m k cs C _ z l;exact⟨⟨vs,rfl,y⟩,x⟩
    ·cases h
   ·rename_i af cI;split at h
    ·rename_i g z;cases h;simp only[ak]at r;obtain⟨b,o,cap,sz,vs,rfl,d1,d2,d3,O,D,K⟩:=r;obtain⟨y,x,t⟩:=L7 m k af g _ z K;refine⟨⟨b,o,cap,sz,vs,by rw[t.1],by rw[t.1];exact d1,λA=>by rw[t.1];exact d2 A,t.2 sz d3,λj u i=>F9 m (O j u i),D,y⟩,x⟩
    ·cases h
   ·cases h
theorem Ga{G:Gh}{E:AS}{w:World}(d:aY P B ax G E w){n:Nat}: ∀ (k:Nat) (cs b:List AV) (vs:List Value),ik E n k cs=some b->aG G cs vs->aG (G.cut n w) b vs/\aI b<=n/\b.length=cs.length
 |k,[],b,vs,h,r=>by
  cases k<;>simp only[ik,acy]at h<;>subst h<;>simp only[aG]at r<;>subst r<;>simp[aG,aI]
 |0,_::_,_,_,h,_=>by simp[ik]at h
 |k+1,a::as,b,vs,h,r=>by
  simp only[ik]at h;split at h
  ·rename_i a' i;split at h
   ·rename_i c has;cases h;simp only[aG]at r;obtain⟨v,q,rfl,l,j⟩:=r;obtain⟨g,o⟩:=U8 d k a a' v i l;obtain⟨f,m,e⟩:=Ga d (k+1) as c q has j;exact⟨⟨v,q,rfl,g,f⟩,by simp only[aI];omega,by simp[e]⟩
   ·cases h
  ·cases h
theorem L7{G:Gh}{E:AS}{w:World}(e:aY P B ax G E w){n:Nat}: ∀ (k:Nat) (af b:List (List AV)) (vs:List Value),rk E n k af=some b->bq G af vs->
  bq (G.cut n w) b vs/\bT b<=n/\ (b.length=af.length/\ ∀sz,(∀el∈af,el.length=sz)-> ∀el∈b,el.length=sz)
 |k,[],b,vs,h,r=>by
  cases k<;>simp only[rk,acy]at h<;>subst h<;>simp only[bq]at r<;>subst r<;>simp[bq,bT]
 |0,_::_,_,_,h,_=>by simp[rk]at h
 |k+1,a::as,b,vs,h,r=>by
  simp only[rk]at h;split at h
  ·rename_i a' o;split at h
   ·rename_i d has;cases h;simp only[bq]at r;obtain⟨v,q,rfl,s,p⟩:=r;obtain⟨j,u,l⟩:=Ga e k a a' v o s;obtain⟨i,t,g,f⟩:=L7 e (k+1) as d q has p;refine⟨⟨v,q,rfl,j,i⟩,by simp only[bT];omega,by simp[g],λsz hu el c=>?_⟩;rcases aeB.1 c with rfl|c
    ·rw[l];exact hu a (by simp)
    ·exact f sz (λx m=>hu x (by simp[m])) el c
   ·cases h
  ·cases h
end
def xv{fP:Gh}{cn:AS}{t:World}(k:aY P B ax fP cn t){G:Gh}{E:AS}(f:fP.le G)(x:aY P B ax G E w)(d:AS.Ext {heap:=cn.heap,lo:=none} E){v:AV}{v':Value}(D:ak G v v'):
  ∃a,fP.le a/\aY P B ax a (finish cn.heap.length cn.lo v E).2 w/\ak a (finish cn.heap.length cn.lo v E).1 v'/\cn.Ext (finish cn.heap.length cn.lo v E).2:=by
 have lg: ∃a,fP.le a/\aY P B ax a {heap:=E.heap,lo:=fX cn.lo E.lo} w/\ak a v v'/\cn.Ext {heap:=E.heap,lo:=fX cn.lo E.lo}:=by
  refine⟨G,f,x.lo _,D,d.len,λj h=>?_,λj o h=>?_⟩
  ·cases E.lo with
   |none=>exact h
   |some l=>exact zK (.inl h)
  ·obtain⟨o',s,g⟩:=d.obj j o h;refine⟨o',s,g.imp id λ ⟨l,e,q⟩=>?_⟩;simp only[fX,e];exact zK (.inr q)
 have clear: (∀j,j<cn.heap.length-> ¬zJ E.lo j)-> ∀c,freeze E cn.heap.length 12 v=some c->
   ∃a,fP.le a/\aY P B ax a {heap:=E.heap.take cn.heap.length,lo:=cn.lo} w/\ak a c v'/\cn.Ext {heap:=E.heap.take cn.heap.length,lo:=cn.lo}:=by
  intro z c C;have A:=k.len;have y: ∀j o,j<cn.heap.length->E.heap[j]?=some o->o.le cn.heap.length:=by
   intro j o r ho;have H:cn.heap[j]?=some cn.heap[j]:=acJ r;obtain⟨o',s,g⟩:=d.obj j _ H;rw[ho]at s;cases s;rcases g with g|g
   ·have:=g cn.heap.length (by have:=k.akR H;rwa[A]at this);exact this.mono (by omega)
   ·exact absurd g (z j r)
  have m:cn.heap.length<=G.n:=by rw[x.len];exact d.len
  obtain⟨I,J⟩:=U8 x 12 v c v' C D;refine⟨G.cut cn.heap.length w,?_,x.cut m y _,I,?_,λj h=>h,λj o h=>?_⟩
  ·exact{bu:=λb o u h=>F9 x (f.bu b o u h),n:=by simp[Gh.cut,A],on:=λi p=>⟨by have:=p.1;simp only[Gh.cut];omega,(f.on i p).2⟩,ai:=λi p=>f.ai i p,same:=λi p e=>f.same i p e,pz:=λi p=>f.pz i p}
  ·have:=d.len;simp only at this;simp;omega
  ·have r:j<cn.heap.length:=(abQ.1 h).1;obtain⟨o',s,g⟩:=d.obj j o h;refine⟨o',by simp[r,s],.inl ?_⟩;rcases g with g|g
   ·exact g
   ·exact absurd g (z j r)
 unfold finish;cases q:E.lo with
 |none=>
  simp only[aeE];cases C:freeze E cn.heap.length 12 v with
  |none=>simp only;rw[q]at lg;exact lg
  |some c=>exact clear (by rintro j _ ⟨l,e,_⟩;rw[q]at e;cases e) c C
 |some l=>
  rw[q]at lg;by_cases h:cn.heap.length<=l
  ·simp only[h,decide_true,aeE];cases C:freeze E cn.heap.length 12 v with
   |none=>exact lg
   |some c=>exact clear (by rintro j r ⟨K,e,F⟩;rw[q]at e;cases e;omega) c C
  ·simp only[h,ayC,aek,ahz];exact lg
end
section
variable{P:Program}{X:Ctx}{B:Nat}{ax:World}{cW:List Deferred}
def W(r:oN):Fence:={fn:=λ_=>True,depth:=none,alive:=false,round:=r}
theorem al7:W none=Fence.wide:=rfl
def Cm(r:oN)(n:Nat): (W r).room n:=λ_ h=>by simp[W]at h
def L8{r a:oN}{args:Array Value}{R:Ending->World->Prop}(h:CallsIn (W r) n P f args w R):CallsIn (W a) b P f args w R:=
 ⟨trivial,λcs _=>h.2 cs (Cm _ _)⟩
def al8{r d:oN}{e:Nat}{a:Array Value}{as b:Code}{R:Ending->World->Prop}(h:RoundIn (W r) n P l f a as b w R):RoundIn (W d) e P l f a as b w R:=
 ⟨trivial,λc cs _=>h.2 c cs (Cm _ _)⟩
def Ends(P:Program)(B:Nat)(ax:World)(G:Gh)(E:AS):aT->Ending->World->Prop
 |.ret v b,.returned v',w'=> ∃a,G.le a/\aY P B ax a b w'/\ak a v v'/\E.Ext b
 |.panic v b,.panicked chain,w'=> ∃a v',chain=[{v:=v',recovered:=false}]/\G.le a/\aY P B ax a b w'/\ak a v v'/\E.Ext b
 |_,_,_=>False
def Cn(P:Program)(K:Ending->World->Prop):Result Next->Prop
 |.ok (.value v) w'=>K (.returned v) w'
 |.ok (.enter f args) w'=>CallsIn (W none) 0 P f args w' K
 |.ok (.round l f tmps as bd) w'=>RoundIn (W none) 0 P l f tmps as bd w' K
 |_=>False
def vo(fv:Value)(args:Array Value):Sem Next:=do let d<-Deferred.ofValue fv args;invoke d.target d.args
def fI(P:Program)(B:Nat)(ax:World)(C:bw):Prop:=
 ∀fv args E c,C fv args E=some c-> ∀G w b (a:Array Value),aY P B ax G E w->ak G fv b->aG G args a.toList->Cn P (Ends P B ax G E c) ((vo b a).run P w)
def gd(cW:List Deferred)(G:Gh):lN->List Deferred->Prop
 | [],a=>a=cW
 |m::ms,a=> ∃d r k,a=d::r/\d.target= .collected k/\G.on m/\ (G.ai m=0->k=G.ba m)/\gd cW G ms r
theorem gd.mono{G c:Gh}(h:G.le c): ∀ {ms:lN} {b:List Deferred},gd cW G ms b->gd cW c ms b
 | [],_,r=>r
 |m::ms,_,r=>by
  simp only[gd]at*;obtain⟨d,q,k,e,i,a,g,f⟩:=r;refine⟨d,q,k,e,i,h.on _ a,λl=>?_,f.mono h⟩;have j:=h.ai _ a;rw[(h.same _ a (by omega)).1];exact g (by omega)
theorem gd.dt{G c:Gh}(h:G.sub c): ∀ {ms:lN} {b:List Deferred},gd cW G ms b->gd cW c ms b
 | [],_,r=>r
 |m::ms,_,r=>by
  simp only[gd]at*;obtain⟨d,q,k,e,i,a,g,f⟩:=r;refine⟨d,q,k,e,i,h.on _ a,λl=>?_,f.dt h⟩;have j:=h.ai _ a;rw[(h.same _ a (by omega)).1];exact g (by omega)
def fJ(G:Gh):Ex->Exit->Prop
 |.normal,.normal=>True
 |.exit i,.exit j=>i=j
 |.ret,.ret=>True
 |.panic v,.panic chain=> ∃v',chain=[{v:=v',recovered:=false}]/\ak G v v'
 |_,_=>False
def lO(P:Program)(B:Nat)(ax:World)(cW:List Deferred)(fP:Gh)(cn:AS)(nt:Nat)(b:Ex×Fr×AS)(e:Exit)(a:Act)(w:World):Prop:=
 ∃G,fP.le G/\aY P B ax G b.2.2 w/\cL G nt b.2.1.env a.tmps/\gd cW G b.2.1.marks a.defers/\cn.Ext b.2.2/\fJ G b.1 e
theorem lO.trans{fP b:Gh}{cn c:AS}{d:Ex×Fr×AS}{e:Exit}(h:lO P B ax cW b c nt d e a w)(hg:fP.le b)(f:cn.Ext c):lO P B ax cW fP cn nt d e a w:=by
 obtain⟨G,m,l,k,j,i,g⟩:=h;exact⟨G,Gh.le_trans hg m,l,k,j,f.trans i,g⟩
theorem cL.set{G:Gh}{e:Env}{a:Array Value}(h:cL G nt e a)(g:d<nt){v:AV}(f:ak G v v'):cL G nt (e.set d v) (a.setIfInBounds d v')where
 size:=by simp[h.size]
 get t u b:=by
  rw[ajU]at b;simp only[Env.set];split at b
  ·rename_i e;subst e;split at b
   ·cases b;rw[acE rfl];exact f
   ·cases b
  ·rename_i c;rw[acz (λe=>c e.symm)];exact h.get t u b
 out t b:=by
  simp only[Env.set];rw[acz (by omega)];exact h.out t b
def pU{G:Gh}{b:Fr}(h:cL G nt b.env a.tmps){dst:oN}(e: ∀d,dst=some d->d<nt){v:AV}(c:ak G v v'):
  cL G nt (b.put dst v).env (a.put dst v').tmps/\ (b.put dst v).marks=b.marks/\ (a.put dst v').defers=a.defers:=by
 cases dst with
 |none=>exact⟨h,rfl,rfl⟩
 |some d=>exact⟨h.set (e d rfl) c,rfl,rfl⟩
theorem xw{G:Gh}:ak G .undef undef:=⟨#[],rfl,by simp[aG]⟩
def al9{G:Gh}{x:AV}{b:Bool}(h:ak G x (.bool b)):x= .bool b:=by
 cases x<;>simp[ak]at h;rw[h]
def xx{G:Gh}{e:Env}(k:cL G nt e a.tmps){d:Array Oper}{o:Oper}{g:Option (Nat×Bool)}(h:guardOf d o=some g):Region.wanted o (yielded d a.tmps)=fO e g:=by
 unfold guardOf at h;unfold Region.wanted;split at h
 ·rename_i s;cases h;simp[s,fO]
 ·rename_i j want q;split at h
  ·rename_i t p;cases h;simp only[q,fO,yielded,p,an1];by_cases c:t<a.tmps.size
   ·have f:=k.get t a.tmps[t] (by simp[c]);simp only[avH c];cases l:a.tmps[t]with
    |bool b=>
     rw[l]at f;rw[al9 f];simp
    |_=>
     rw[l]at f;cases m:e t<;>rw[m]at f<;>simp[ak]at f<;>simp
   ·have i:a.tmps.size<=t:=Nat.le_of_not_lt c;rw[k.out t (by rw[<-k.size];exact i)];have:a.tmps[t]?=none:=Array.getElem?_eq_none i;simp[this]
  ·cases h
section region
variable{C:bw}(hC:fI P B ax C)(hg:fk X B ax){r:oN}{n nt:Nat}
include hC hg
theorem xy{rows:Bool}{ops:Array Oper}{o:Oper}{x:aP}(h:im P rows ops o=some x)(hd: ∀d,x.dst=some d->d<nt){G:Gh}{E:AS}{H:Fr}(hw:aY P B ax G E w)(K:cL G nt H.env a.tmps)(hm:gd cW G H.marks a.defers)
  {u:Out} (m:exec X C x.i H.env E=some u) {next:Act->World->Prop} {Q:Exit->Act->World->Prop}
  (U: ∀v l,u= .ok v l-> ∀J a' w',G.le J->aY P B ax J l w'->E.Ext l->cL J nt (H.put x.dst v).env a'.tmps->gd cW J (H.put x.dst v).marks a'.defers->next a' w')
  (p: ∀v l,u= .panic v l-> ∀e a' w',lO P B ax cW G E nt (.panic v,H,l) e a' w'->Q e a' w'):o.wpIn (W r) n P a w next Q:=by
 refine⟨λ_ _=>trivial,?_⟩;unfold im at h;split at h
 ·rename_i i g b ir;cases h;have S:o.semAt (W r).round a.eval=execOp a.eval o:=by
   apply Oper.semAt_eq;intro c e;simp[kg,e]at b
  rw[S];have az: ∀v l,u= .ok v l->Good P B ax G E v l ((execOp a.eval o).run P w)->o.uponIn (W r) n P a next Q ((execOp a.eval o).run P w):=by
   intro v l e M;obtain⟨J,w',v',F,s,O,Y,V⟩:=M;obtain⟨p1,p2,p3⟩:=pU (a:=a) (K.mono s) hd Y;have hn:=U v l e J (a.put o.dst v') w' s O V p1 (by rw[p2,p3];exact hm.mono s);rcases F with F| ⟨F,Z⟩
   ·rw[F];exact hn
   ·rw[F];subst Z;exact hn
  by_cases hp:i.plain=true
  ·cases u with
   |ok v l=>exact az v l rfl (al1 hw hg K C b hp m)
   |panic v l=>
    exfalso;cases i<;>simp[I.plain]at hp<;>simp only[exec,fH]at m<;>(repeat' split at m)<;>(try cases m)
  ·cases A:o.op with
   |call c=>
    simp only[kg,A]at b;obtain⟨callee,D,cts⟩:=c;have N: ∃f fs as,callee= .value f/\bI f=some fs/\ng D.toList=some as/\i= .call fs as:=by
     unfold Cb at b;split at b
     case h_1 d1 d2 d3 f hc=>
      simp only at hc;split at b
      ·rename_i f' as s O;cases b;exact⟨_,_,_,hc,s,O,rfl⟩
      ·cases b
     all_goals exfalso
     all_goals(first| (repeat' split at b)|skip)<;>(try cases b)<;>(try(simp only[aeh]at b;obtain⟨_,_,rfl⟩:=b))<;>simp[I.plain]at hp
    obtain⟨f,fs,as,rfl,hf,has,rfl⟩:=N;have z: (execOp a.eval o).run P w=(vo (a.eval f) (D.map a.eval)).run P w:=by
     unfold execOp;simp only[A];rfl
    simp only[exec]at m;have key: ∀R,C (fs.get H.env) (as.map (·.get H.env)) E=some R->Cn P (Ends P B ax G E R) ((execOp a.eval o).run P w):=by
     intro R q;rw[z];exact hC _ _ _ _ q G w _ _ hw (cF K hf) (by simpa using xn K has)
    cases q:C (fs.get H.env) (as.map (·.get H.env)) E with
    |none=>simp[q]at m
    |some R=>
     have L:=key R q;have cont: ∀e k,Ends P B ax G E R e k->(match e with
       |.returned v=>next (a.put o.dst v) k
       |.panicked chain=>Q (.panic chain) a k
       |.outgrown=>LetsOut Q):=by
      intro e k j;cases R with
      |ret v l=>
       simp only[q,acy]at m;cases e with
       |returned v'=>
        obtain⟨J,s,O,Y,V⟩:=j;obtain⟨p1,p2,p3⟩:=pU (a:=a) (K.mono s) hd Y;exact U v l m.symm J _ k s O V p1 (by rw[p2,p3];exact hm.mono s)
       |panicked _=>exact j.elim
       |outgrown=>exact j.elim
      |panic v l=>
       simp only[q,acy]at m;cases e with
       |returned _=>exact j.elim
       |panicked chain=>
        obtain⟨J,v',L9,s,O,Y,V⟩:=j;exact p v l m.symm _ _ _ ⟨J,s,O,K.mono s,hm.mono s,V,v',L9,Y⟩
       |outgrown=>exact j.elim
     generalize(execOp a.eval o).run P w=res at L;unfold Cn at L;split at L
     ·exact cont _ _ L
     ·exact⟨λh=>by simp[W]at h,L8 (L.mono λe k h=>by have:=cont e k h;cases e<;>exact this)⟩
     ·exact⟨λh=>by simp[W]at h,al8 (L.mono λe k h=>by have:=cont e k h;cases e<;>exact this)⟩
     ·exact L.elim
   |panic x=>
    simp only[kg,A]at b;cases ho:bI x with
    |none=>simp[ho]at b
    |some y=>
     simp only[ho,aei,acy]at b;subst b;simp only[exec]at m;split at m
     ·rename_i t v ht;cases m;have F:=cF K ho;rw[ht]at F;have T:=F;simp only[ak]at F;obtain⟨v',Z,_⟩:=F;have z: (execOp a.eval o).run P w= .halt (.panic (.iface t v')) w:=by
       unfold execOp;simp only[A,Z];simp[Instr.panic,goPanic,Sem.run_bind,Sem.run,Result.andThen]
      rw[z];rw[Z]at T;exact p _ _ rfl _ _ _ ⟨G,G.le_refl,hw,K,hm,.refl E,_,rfl,T⟩
     ·cases m
   |_=>
    exfalso;simp only[kg,A]at b
    repeat' split at b
    all_goals(try cases b)
    all_goals(try(simp only[aeh]at b;obtain⟨_,_,rfl⟩:=b))
    all_goals first| (simp[I.plain]at hp;done)| (simp_all;done)
 ·cases h
end region
end
section
variable{P:Program}{X:Ctx}{B:Nat}{ax:World}{cW:List Deferred}
section
variable{C:bw}(hC:fI P B ax C)(hg:fk X B ax){r:oN}{n nt:Nat}{rows:Bool}
include hC hg
theorem Ma{j:Array Oper}: ∀ (os:List Oper) (is:lN) (l:List aP),is.map (j[·]?)=os.map some->kh P rows j os=some l->(∀x∈l,∀d,x.dst=some d->d<nt)->
  ∀ (G:Gh) (E:AS) (w:World) (fr:Fr) (a:Act) (res:Ex×Fr×AS) (Q:Exit->Act->World->Prop),aY P B ax G E w->cL G nt fr.env a.tmps->gd cW G fr.marks a.defers->eH X C l fr E=some res->
  (∀e a w,lO P B ax cW G E nt res e a w->Q e a w)->wpOpsIn (W r) n P j Q is a w
 | [],is,l,k,p,q,G,E,w,fr,a,res,Q,hw,he,hm,g,u=>by
   have:is=[]:=by simpa using k
   subst this;simp only[kh,acy]at p;subst p;simp only[eH,acy]at g;subst g;exact u _ _ _ ⟨G,G.le_refl,hw,he,hm,.refl E,trivial⟩
 |o::os,is,l,k,p,q,G,E,w,fr,a,res,Q,hw,he,hm,g,u=>by
  cases is with
  |nil=>simp at k
  |cons i is=>
   simp only[alM,axc]at k;obtain⟨D,k⟩:=k;simp only[kh]at p;split at p
   ·rename_i x xs f s;cases p;simp only[wpOpsIn,D];have F:guardOf j o=some x.g:=by
     unfold im at f;split at f
     ·rename_i H;cases f;exact H
     ·cases f
    have t:x.dst=o.dst:=by
     unfold im at f;split at f
     ·cases f;rfl
     ·cases f
    have A:=xx he F;simp only[eH]at g;rw[A];split at g
    ·rename_i m;rw[acE m];split at g
     ·rename_i v I hex;refine xy hC hg f (q x (by simp)) hw he hm hex (λb c e S a' w' R H O N M=>?_) (λb c e=>by cases e);cases e;exact Ma os is xs k s (λy z=>q y (by simp[z])) S I w' _ a' res Q H N M g (λe a w h=>u e a w (h.trans R O))
     ·rename_i v I hex;cases g;exact xy hC hg f (q x (by simp)) hw he hm hex (λb c e=>by cases e) (λb c e T a' w' h=>by cases e;exact u _ _ _ h)
     ·cases g
    ·rename_i m;rw[acz m];refine⟨λ_ _=>trivial,?_⟩;obtain⟨L,K,J⟩:=pU (a:=a) he (q x (by simp)) (v:=.undef) (v':=undef) xw;rw[<-t];exact Ma os is xs k s (λy z=>q y (by simp[z])) G E w _ _ res Q hw L (by rw[K,J];exact hm) g u
   ·cases p
omit hC hg in
theorem ama(a:Array Oper): (List.range a.size).map (a[·]?)=a.toList.map some:=by
 apply al4;intro j;by_cases b:j<a.size
 ·simp[b]
 ·simp[b]
end
def xz(L:ef):Prop:= ∀body fr E res,L body fr E=some res-> ∃k,iter k body fr E=some res
def zQ(P:Program)(B:Nat)(ax:World)(cW:List Deferred)(r:oN)(n nt:Nat)(c:Code)(b:Fr->AS->iW):Prop:=
 ∀ (G:Gh) (E:AS) (w:World) (fr:Fr) (a:Act) (res:Ex×Fr×AS) (Q:Exit->Act->World->Prop),aY P B ax G E w->cL G nt fr.env a.tmps->gd cW G fr.marks a.defers->b fr E=some res->
   (∀e a w,lO P B ax cW G E nt res e a w->Q e a w)->c.wpIn (W r) n P Q a w
theorem U9{r:oN}{n nt:Nat}{c:Code}{t:Fr->AS->iW}(h:zQ P B ax cW r n nt c t): ∀ (m:Nat) (G:Gh) (E:AS) (w:World) (fr:Fr) (a:Act) (res:Ex×Fr×AS) (Q:Exit->Act->World->Prop),
  aY P B ax G E w->cL G nt fr.env a.tmps->gd cW G fr.marks a.defers->iter m t fr E=some res->(∀e a w,lO P B ax cW G E nt res e a w->Q e a w)->
  ∀ (b:Frame) (k:List Item) (cs:List Frame),b.roundOf=(W r).round-> ∃e a' w',Q e a' w'/\ArrivesIn (Machine.fenced P (W r)) P (lone (b.atR a (.code c:: .inLoop c::k)) cs w) b k cs e a' w'
 |0,_,_,_,_,_,_,_,_,_,_,y,_,_,_,_,_=>by simp[iter]at y
 |m+1,G,E,w,fr,a,res,Q,hw,he,hm,y,R,b,k,cs,u=>by
  simp only[iter]at y;split at y
  ·rename_i q H T;have j:=h G E w fr a (.normal,q,H) (Exit.then (λa' w'=>lO P B ax cW G E nt (.normal,q,H) .normal a' w') (λ_ _ _=>False)) hw he hm T (λe a' w' i=>by
    have v:=i;obtain⟨s,N,M,L,K,J,I⟩:=i;cases e<;>simp[fJ]at I;exact v)
   obtain⟨e,g,d,o,f⟩:=j b (.inLoop c::k) cs u trivial (Cm _ _);cases e<;>try exact o.elim
   obtain⟨s,N,M,L,K,J,I⟩:=o;obtain⟨D,F,A,z,p⟩:=U9 h m s H d q g res Q M L K y (λe a w S=>R e a w (S.trans N J)) b k cs u;exact⟨D,F,A,z,.of_steps (StepsIn.trans f (.one (fenced_calm (n:=n) trivial (Cm _ _) rfl) stepR_inLoop)) p⟩
  ·rename_i O;have j:=h G E w fr a res (Exit.then (λ_ _=>False) Q) hw he hm y (λe a' w' i=>by
    have o:=R e a' w' i;obtain⟨s,N,M,L,K,J,I⟩:=i;obtain⟨ex,q,H⟩:=res;cases e<;>first|exact o| (exfalso;cases ex<;>simp[fJ]at I;exact O q H y))
   obtain⟨e,g,d,o,f⟩:=j b (.inLoop c::k) cs u trivial (Cm _ _);cases e with
   |normal=>exact o.elim
   |exit id=>exact⟨_,g,d,o,.pass (x:=.inLoop c) rfl (λ_ _=>.inl (by simp)) f⟩
   |goto l=>exact⟨_,g,d,o,.pass (x:=.inLoop c) rfl (λ_ _=>.inl (by simp)) f⟩
   |ret=>exact⟨_,g,d,o,.pass (x:=.inLoop c) rfl (λ_ _=>.inl (by simp)) f⟩
   |panic U=>exact⟨_,g,d,o,.pass (x:=.inLoop c) rfl (λ_ _=>.inl (by simp)) f⟩
   |outgrown=>exact⟨_,g,d,o,.pass (x:=.inLoop c) rfl (λ_ _=>.inl (by simp)) f⟩
def amb{r:oN}{c:Code}{d:Fr->AS->iW}(h:zQ P B ax cW r n nt c d)(m:Nat):zQ P B ax cW r n nt (.loop c) (iter m d):=by
 intro G E w fr a res Q hw he hm j p b k cs i o f;obtain⟨e,a',w',l,g⟩:=U9 h m G E w fr a res Q hw he hm j p b k cs i;exact⟨e,a',w',l,.of_steps (.one (fenced_calm o f rfl) stepR_loop) g⟩
end
section
variable{P:Program}{X:Ctx}{B:Nat}{ax:World}{cW:List Deferred}
def ow(P:Program)(X:Ctx):Prop:= ∀f pf,X.code f=some pf-> ∃rows fn,P.funcs[f]?=some fn/\Cc P rows fn=some pf
def Gb{rows:Bool}{fn:Func}{pf:PF}(h:Cc P rows fn=some pf): ∃c,fn.body=some c/\eI P rows fn.ntmps c=some pf.body/\ot P fn.results.toList=some pf.results/\pf.ntmps=fn.ntmps/\ (fn.name== "runtime.NumGoroutine")=false:=by
 unfold Cc at h;split at h
 ·rename_i c d;split at h
  ·rename_i b rs f e;split at h
   ·rename_i a;cases h;exact⟨c,d,f,e,rfl,by simpa using a⟩
   ·cases h
  ·cases h
 ·cases h
def Va{fn:Func}{c:Code}(d:P.funcs[f]?=some fn)(e:fn.body=some c)(b: (fn.name== "runtime.NumGoroutine")=false)(first cap args:Array Value)(w:World):
  (vo (.func (.func f) first cap) args).run P w= .ok (.enter f (first++args++cap)) w:=by
 have a: ¬fn.name= "runtime.NumGoroutine" :=by simpa using b
 simp[vo,Deferred.ofValue,invoke,callFunc,aoG,d,a,e]
def amc{r:oN}{b:PC}{g:Ex}{c:Option Code}(d:xl (some b) c)(f:xh b=some g){Q:Exit->Act->World->Prop}(h: ∀e,(∀G,fJ G g e)->Q e a w): ∃code,c=some code/\code.wpIn (W r) n P Q a w:=by
 cases b<;>simp[xh]at f<;>simp only[xl]at d<;>subst d<;>subst f
 ·exact⟨_,rfl,wpIn_exit (h _ λ_=>rfl)⟩
 ·exact⟨_,rfl,wpIn_ret (h _ λ_=>trivial)⟩
section
variable{C:bw}(hC:fI P B ax C)(hg:fk X B ax)(hX:ow P X){n nt:Nat}{rows:Bool}
include hC hX
theorem amd{bN:FuncId}{g:Operand}{g':ao}{N:Array Tmp}{assign body:Code}{as bd:PC}(h1:bI g=some g')(h2:eI P rows nt assign=some as)(h3:eI P rows nt body=some bd)(h4:N.toList.all (· <nt)=true){L:ef}:
  zQ P B ax cW none n nt (.rangeFunc g N assign body) (bc X C L bN false (.gR g' N.toList as bd)):=by
 intro G E w fr a res Q hw he hm u hQ;simp only[bc,aek,ahz]at u;split at u
 ·rename_i o;have S:=cF he h1;obtain⟨f,first,cap,pf,hgv,ayx,hpf⟩: ∃f first cap pf,g'.get fr.env= .fn (.func f) first cap/\X.bU f=none/\X.code f=some pf:=by
   unfold pN at o;split at o
   ·rename_i f first cap hv
    simp only[afJ,Option.isNone_iff_eq_none,aqH]at o;obtain⟨h1,pf,h2⟩:=o;exact⟨f,first,cap,pf,hv,h1,h2⟩
   ·cases o
  obtain⟨amg,fn,hf,amh⟩:=hX f pf hpf;obtain⟨c,M,_,_,_,H⟩:=Gb amh;have ami:=S;rw[hgv]at S;simp only[ak,mz]at S;obtain⟨f',d,t,zR,pV,ayy,ayz⟩:=S;subst pV;refine wpIn_rangeFunc (λVb _=>?_);have R:=he.size
  let y:Loop:={state:=.ready,pending:=none,fn:=Vb,tmps:=a.tmps,params:=N,assign,body,defers:=w.heap.size}
  let k:=(w.alloc (.deferred (some []))).alloc (.loop y)
  have Vc: (w.alloc (.deferred (some []))).heap.size=w.heap.size+1:=by simp
  have Vd:=hw.push (.deferred (some [])) .fj 0 0 ⟨by simp[Gh.push],by
   have: (G.push w.heap.size 0 0).ba G.n=w.heap.size:=by simp[Gh.push]
   rw[this];exact an5 _ _⟩
  have s:=G.zL w.heap.size 0 0;have p:=(G.push w.heap.size 0 0).zL (w.alloc (.deferred (some []))).heap.size 0 0;have hw2:=Vd.push (.loop y) (.loop .ready none bN fr.env N.toList as bd) 0 0 ⟨by simp[Gh.push],y,by
   have: ((G.push w.heap.size 0 0).push (w.alloc (.deferred (some []))).heap.size 0 0).ba (G.push w.heap.size 0 0).n=(w.alloc (.deferred (some []))).heap.size:=by simp[Gh.push]
   rw[this];exact an5 _ _,rfl,rfl,trivial,by
    have:=(he.mono s).mono p;show cL _ a.tmps.size fr.env a.tmps;rw[R];exact this,rfl,by show N.toList.all (· <a.tmps.size)=true;rw[R];exact h4,rows,by show eI P rows a.tmps.size assign=_;rw[R];exact h2,by show eI P rows a.tmps.size body=_;rw[R];exact h3⟩
  have i:=hw.len;have amk: ((G.push w.heap.size 0 0).push (w.alloc (.deferred (some []))).heap.size 0 0).on E.heap.length:=p.on _ (Gh.Cd hw);have F: ((G.push w.heap.size 0 0).push (w.alloc (.deferred (some []))).heap.size 0 0).on (E.heap.length+1):=by
   have:=Gh.Cd Vd (b:=(w.alloc (.deferred (some []))).heap.size) (dV:=0) (sz:=0);have e: (E.push .fj).heap.length=E.heap.length+1:=by simp[AS.push]
   rwa[e]at this
  refine⟨w.heap.size+1,[{target:=.collected w.heap.size,args:= #[]}],k,{target:=.fn (.func f) t,args:=d++ #[.func (.yield (w.heap.size+1)) #[] #[]]},k,f,d++ #[.func (.yield (w.heap.size+1)) #[] #[]]++t,k,?_,?_,λ_ _=>trivial,?_,λh=>by simp[W]at h,?_⟩
  ·show(Instr.enterLoop Vb a.tmps N assign body none).run P w=_;simp[Instr.enterLoop,k,y]
  ·have aml:Act.eval a g= .func (.func f) d t:=zR;have Ve: (#[Operand.const (.func (.yield (w.heap.size+1)) #[] #[])]:Array Operand).map a.eval= #[.func (.yield (w.heap.size+1)) #[] #[]]:=by simp[Act.eval]
   simp only[rangeCall,resolve,Ve,aml,Deferred.ofValue,Sem.run_pure]
  ·have Gc: ¬fn.name= "runtime.NumGoroutine" :=by simpa using H
   simp[invoke,callFunc,aoG,hf,Gc,M]
  ·have hy:ak ((G.push w.heap.size 0 0).push (w.alloc (.deferred (some []))).heap.size 0 0) (.fn (.yield (E.heap.length+1)) [] []) (.func (.yield (w.heap.size+1)) #[] #[]):=by
     refine⟨_,#[],#[],rfl,⟨F,_,rfl,λ_=>by simp[Gh.push,i]⟩,by simp[aG],by simp[aG]⟩
   have z:=Va (P:=P) hf M H d t #[.func (.yield (w.heap.size+1)) #[] #[]] k;have Z:E.Ext ((E.push .fj).push (.loop .ready none bN fr.env N.toList as bd)):=(AS.Ext.push _ _).trans (.push _ _);have main: ∀cr,C (g'.get fr.env) [.fn (.yield (E.heap.length+1)) [] []] ((E.push .fj).push (.loop .ready none bN fr.env N.toList as bd))=some cr->
     CallsIn (W none) 0 P f (d++ #[.func (.yield (w.heap.size+1)) #[] #[]]++t) k (Ends P B ax ((G.push w.heap.size 0 0).push (w.alloc (.deferred (some []))).heap.size 0 0) ((E.push .fj).push (.loop .ready none bN fr.env N.toList as bd)) cr):=by
    intro cr K;have:=hC _ _ _ _ K _ k (a.eval g) #[.func (.yield (w.heap.size+1)) #[] #[]] hw2 ((ami.mono s).mono p) ⟨_,_,rfl,hy,by simp[aG]⟩;rw[zR,z]at this;exact this
   have hmarks: ∀x,((G.push w.heap.size 0 0).push (w.alloc (.deferred (some []))).heap.size 0 0).le x->gd cW x (E.heap.length::fr.marks) ({target:=.collected w.heap.size,args:= #[]}::a.defers):=by
    intro x hG';refine gd.mono hG' ⟨_,_,w.heap.size,rfl,rfl,amk,λ_=>by simp[Gh.push,i],(hm.mono s).mono p⟩
   split at u
   ·rename_i v E' K;refine L8 ((main _ K).mono λe q m=>?_);cases e with
    |panicked _=>exact m.elim
    |outgrown=>exact m.elim
    |returned v'=>
     obtain⟨x,U,q2,q3,q4⟩:=m;unfold endLoop at u;split at u
     ·rename_i st A ff env Co Gd iH Y;split at u
      ·cases u
      ·rename_i sX;have I:x.on (E.heap.length+1):=U.on _ F;obtain⟨o0,L',ob,os,oj,_,oe,op,Mb,amn⟩:=q2.obj _ _ Y I.2;have Vf:x.ba (E.heap.length+1)=w.heap.size+1:=by
        rw[(U.same (E.heap.length+1) F (by rw[o0];simp[Gh.push,i])).1];simp[Gh.push,i]
       rw[Vf]at ob;have V: (Instr.endLoop (w.heap.size+1)).run P q= .ok L'.pending (eD q (w.heap.size+1) (.loop {L' with state:=.exhausted})):=by
        have Mc: ¬L'.state= .busy:=by rw[os];exact sX
        simp[Instr.endLoop,Instr.getLoop,getObj,setObj,Sem.run,ob,Mc,eD]
       have D:aY P B ax x (E'.set (E.heap.length+1) (.loop .exhausted A ff env Co Gd iH) 0) (eD q (w.heap.size+1) (.loop {L' with state:=.exhausted})):=by
        have:=q2.put I (O:=.loop {L' with state:=.exhausted}) (o':=.loop .exhausted A ff env Co Gd iH) 0 ⟨o0,{L' with state:=.exhausted},sT (q2.low _ I).2,rfl,oj,trivial,oe,op,Mb,amn⟩;rw[Vf]at this;exact this
       have J:E.Ext (E'.set (E.heap.length+1) (.loop .exhausted A ff env Co Gd iH) 0):=(Z.trans q4).trans (.set Y λn hn _=>hn);have l:=Gh.le_trans (Gh.le_trans s p) U;generalize eD q (w.heap.size+1) (.loop {L' with state:=.exhausted})=T at D V;refine⟨L'.pending,T,V,?_⟩;split at u
       ·cases u;simp only[xl]at oj;rw[oj];exact hQ _ _ _ ⟨x,l,D,he.mono l,hmarks x U,J,trivial⟩
       ·rename_i j;split at u
        ·rename_i ex hex;cases u;obtain⟨code,Cp,hwp⟩:=amc (r:=none) (n:=n) (P:=P) (Q:=Q) oj hex (a:={a with defers:=[{target:=.collected w.heap.size,args:= #[]}]++a.defers}) (w:=T)
          (λe amp=>hQ _ _ _ ⟨x,l,D,he.mono l,hmarks x U,J,amp x⟩)
         rw[Cp];exact hwp
        ·cases u
     ·cases u
   ·rename_i v E' K;cases u;refine L8 ((main _ K).mono λe q m=>?_);cases e with
    |returned _=>exact m.elim
    |outgrown=>exact m.elim
    |panicked chain=>
     obtain⟨x,v',L9,U,q2,q3,q4⟩:=m;have l:=Gh.le_trans (Gh.le_trans s p) U;exact hQ _ _ _ ⟨x,l,q2,he.mono l,hmarks x U,Z.trans q4,v',L9,q3⟩
   ·cases u
 ·cases u
end
def zS(P:Program)(X:Ctx)(B:Nat)(ax:World):Prop:=
 ∀ (cW:List Deferred) (C:bw),fI P B ax C-> ∀ (rows:Bool) (r:oN) (n nt id:Nat) (ops:Array Oper) (xs:List aP) (ys:List (aP×lN)),kh P rows ops ops.toList=some xs->(∀x∈xs,∀d,x.dst=some d->d<nt)->LD ops xs=some ys->
   zQ P B ax cW r n nt (.region id ops true) (λfr E=>gb X C [] (gS E.heap.length ys) fr (E.lK (ds ys)))
def vq{C:bw}(hC:fI P B ax C)(hg:fk X B ax)(hX:ow P X)(gq:zS P X B ax){L:ef}(hL:xz L){rows:Bool}{bN:FuncId}{rd:Bool}{r:oN}(T:rd=r.isSome):
  ∀ (c:Code) (m:PC),eI P rows nt c=some m->zQ P B ax cW r n nt c (bc X C L bN rd m):=by
 intro c
 induction c with
 |skip=>
  intro m h G E w fr a res Q hw he hm b i;simp only[eI,acy]at h;subst h;simp only[bc,acy]at b;subst b;exact wpIn_skip (i _ _ _ ⟨G,G.le_refl,hw,he,hm,.refl E,trivial⟩)
 |label l=>
  intro m h G E w fr a res Q hw he hm b i;simp only[eI,acy]at h;subst h;simp only[bc,acy]at b;subst b;exact wpIn_label (i _ _ _ ⟨G,G.le_refl,hw,he,hm,.refl E,trivial⟩)
 |seq x y u z=>
  intro m h G E w fr a res Q hw he hm b i;simp only[eI]at h;split at h
  ·rename_i V W M Z;cases h;simp only[bc]at b;split at b
   ·rename_i o O hb;refine axw (u V M G E w fr a _ _ hw he hm hb (λe a' w' f=>?_));obtain⟨j,K,J,I,H,F,v⟩:=f;cases e<;>simp[fJ]at v;exact z W Z j O w' o a' res Q J I H b (λe a w hh=>i e a w (hh.trans K F))
   ·rename_i A;refine axw (u V M G E w fr a res _ hw he hm b (λe a' w' f=>?_));have hq:=i e a' w' f;obtain⟨j,K,J,I,H,F,v⟩:=f;obtain⟨ex,o,O⟩:=res;cases e<;>first|exact hq| (exfalso;cases ex<;>simp[fJ]at v;exact A o O b)
  ·cases h
 |cond c x y u z=>
  intro m h G E w fr a res Q hw he hm b i;simp only[eI]at h;split at h
  ·rename_i c' V W N M Z;cases h;simp only[bc]at b;split at b
   ·rename_i t ht;have p:=cF he N;rw[ht]at p;simp only[ak]at p;refine wpIn_cond p ?_;cases t with
    |true=>simp only[aeE]at b⊢;exact u V M G E w fr a res Q hw he hm b i
    |false=>simp only[aek,ahz]at b⊢;exact z W Z G E w fr a res Q hw he hm b i
   ·cases b
  ·cases h
 |block id c R=>
  intro m h G E w fr a res Q hw he hm b i;simp only[eI]at h;obtain⟨q,N,rfl⟩:=aeh.1 h;simp only[bc]at b;split at b
  ·rename_i id' o O hb;refine wpIn_block (R q N G E w fr a _ _ hw he hm hb (λe a' w' f=>?_));obtain⟨j,K,J,I,H,F,v⟩:=f;cases e<;>simp[fJ]at v;subst v;simp only[Exit.inBlock];split at b
   ·rename_i D;cases b;rw[acE D];exact i _ _ _ ⟨j,K,J,I,H,F,trivial⟩
   ·rename_i D;cases b;rw[acz D];exact i _ _ _ ⟨j,K,J,I,H,F,rfl⟩
  ·rename_i A;refine wpIn_block (R q N G E w fr a res _ hw he hm b (λe a' w' f=>?_));have hq:=i e a' w' f;obtain⟨j,K,J,I,H,F,v⟩:=f;obtain⟨ex,o,O⟩:=res;cases e<;>first|exact hq| (exfalso;cases ex<;>simp[fJ]at v;exact A _ o O b)
 |loop c R=>
  intro m h G E w fr a res Q hw he hm b i;simp only[eI]at h;obtain⟨q,N,rfl⟩:=aeh.1 h;simp only[bc]at b;obtain⟨k,hk⟩:=hL _ _ _ _ b;exact amb (R q N) k G E w fr a res Q hw he hm hk i
 |exit id=>
  intro m h G E w fr a res Q hw he hm b i;simp only[eI,acy]at h;subst h;simp only[bc,acy]at b;subst b;exact wpIn_exit (i _ _ _ ⟨G,G.le_refl,hw,he,hm,.refl E,rfl⟩)
 |ret=>
  intro m h G E w fr a res Q hw he hm b i;simp only[eI,acy]at h;subst h;simp only[bc,acy]at b;subst b;exact wpIn_ret (i _ _ _ ⟨G,G.le_refl,hw,he,hm,.refl E,trivial⟩)
 |region id ops draw=>
  intro m h;simp only[eI]at h;split at h
  ·rename_i xs S;split at h
   ·rename_i U;have hd: ∀x∈xs,∀d,x.dst=some d->d<nt:=by
     intro x M d sY;have:=aes.1 U x M;rw[sY]at this;simpa using this
    cases draw with
    |false=>
     simp only[aek,ahz,acy]at h;subst h;intro G E w fr a res Q hw he hm b i;simp only[bc]at b;exact wpIn_region (Ma hC hg ops.toList _ xs (ama ops) S hd G E w fr a res Q hw he hm b i)
    |true=>
     simp only[aeE]at h;obtain⟨ys,Y,rfl⟩:=aeh.1 h;intro G E w fr a res Q hw he hm b i;simp only[bc]at b;exact gq _ C hC rows r n nt id ops xs ys S hd Y G E w fr a res Q hw he hm b i
   ·cases h
  ·cases h
 |rangeFunc g ps assign body iha ihb=>
  intro m h;simp only[eI]at h;split at h
  ·rename_i g' as bd h1 h2 h3;split at h
   ·rename_i h4;cases h;cases r with
    |none=>
     subst T;exact amd hC hX h1 h2 h3 h4
    |some l=>
     subst T;intro G E w fr a res Q hw he hm b i;simp[bc]at b
   ·cases h
  ·cases h
 |scope c R=>intro m h;simp[eI]at h
 |goto l=>intro m h;simp[eI]at h
 |refuse s=>intro m h;simp[eI]at h
end
section
variable{P:Program}{X:Ctx}{B:Nat}{ax:World}{cW:List Deferred}
def amq{x:Value}(h: (Instr.loadAt t x).run P w= .ok v w): (do loadVar t (<-asAddr x):Sem Value).run P w= .ok v w:=by
 cases x with
 |pointer a=>
  cases a with
  |some a=>simpa[Instr.loadAt,Instr.sureAddr,asAddr]using h
  |none=>simp[Instr.loadAt,Instr.sureAddr,Sem.run_bind,stuck,Sem.run,Result.andThen]at h
 |_=>simp[Instr.loadAt,Instr.sureAddr,Sem.run_bind,stuck,Sem.run,Result.andThen]at h
def Cq(b:Array Value):ResultVar->Sem Value
 |.tmp t=>pure (b.getD t undef)
 |.cell a t=>do loadVar t (<-asAddr (b.getD a undef))
def amr(fn:Func)(b:Array Value):results fn b=(do let vs<-fn.results.mapM (Cq b);pure (if h:vs.size=1 then vs[0]else .tuple vs)):=by
 have:Cq b=(λ
  |.tmp t=>pure (b.getD t undef)
  |.cell a t=>do loadVar t (<-asAddr (b.getD a undef))):=by
  funext x
  cases x<;>rfl
 unfold results;rw[this];rfl
theorem Md(hg:fk X B ax){G:Gh}{E:AS}{w:World}(k:aY P B ax G E w){nt:Nat}{e:Env}{d:Array Value}(j:cL G nt e d): ∀ (l:List ResultVar) (rs:List RV) (vs:List AV),ot P l=some rs->jO X E e rs=some vs->
  ∃g,(l.mapM (Cq d)).run P w= .ok g w/\aG G vs g
 | [],rs,vs,h,f=>by
   simp only[ot,acy]at h;subst h;simp only[jO,acy]at f;subst f;exact⟨[],by simp,by simp[aG]⟩
 |.tmp t::l,rs,vs,h,f=>by
  simp only[ot]at h;obtain⟨i,p,rfl⟩:=aeh.1 h;simp only[jO,oq]at f;split at f
  ·rename_i c o;cases f;obtain⟨g,e1,r⟩:=Md hg k j l i c p o;refine⟨d.getD t undef::g,?_,⟨_,_,rfl,LK j t,r⟩⟩;rw[axj];simp only[Sem.run_bind,Cq,Sem.run_pure,Result.andThen_ok];rw[e1];simp only[Result.andThen_ok,Sem.run_pure]
  ·cases f
 |.cell a t::l,rs,vs,h,f=>by
  simp only[ot]at h;split at h
  ·rename_i b n i u s p;cases h;simp only[jO,oq]at f;split at f
   ·rename_i v o;split at f
    ·rename_i c m;cases f;obtain⟨g,e1,r⟩:=Md hg k j l i c p m;obtain⟨v',y,q⟩:=Uq k hg u s (LK j a) o;have e3:=amq y;refine⟨v'::g,?_,⟨_,_,rfl,q,r⟩⟩;rw[axj];have x: (Cq d (.cell a t)).run P w= .ok v' w:=e3;simp only[Sem.run_bind];rw[x];simp only[Result.andThen_ok];rw[e1];simp only[Result.andThen_ok,Sem.run_pure]
    ·cases f
   ·cases f
  ·cases h
def Cr(hg:fk X B ax){G:Gh}{E:AS}(k:aY P B ax G E w){e:Env}{b:Array Value}(m:cL G nt e b){fn:Func}{f:List RV}{v:AV}(h:ot P fn.results.toList=some f)(d:fA X E e f=some v):
  ∃v',(results fn b).run P w= .ok v' w/\ak G v v':=by
 have key: ∀vs,jO X E e f=some vs-> ∃a:List Value,aG G vs a/\ (results fn b).run P w= .ok (if h:a.toArray.size=1 then a.toArray[0]else .tuple a.toArray) w:=by
  intro vs c;obtain⟨a,e1,r⟩:=Md hg k m _ f vs h c;refine⟨a,r,?_⟩;rw[amr,Array.mapM_eq_mapM_toList];simp only[Sem.run_bind,Sem.run_map];rw[e1];simp[Result.andThen]
 unfold fA at d;split at d
 ·rename_i i c;cases d;obtain⟨a,r,e1⟩:=key _ c;simp only[aG]at r;obtain⟨v',q,rfl,j,rfl⟩:=r;exact⟨v',by rw[e1];simp,j⟩
 ·rename_i vs g c;cases d;obtain⟨a,r,e1⟩:=key _ c;have l:=r.length;refine⟨.tuple a.toArray,?_,⟨_,rfl,by simpa using r⟩⟩;rw[e1,dif_neg];intro n;have:vs.length=1:=by simpa[l]using n
  obtain⟨x,rfl⟩:=List.length_eq_one_iff.1 this;exact g x rfl
 ·cases d
theorem xA: ∀ (ms:lN) (E a:AS),dC E ms=some a->E.Ext a
 | [],E,a,h=>by simp only[dC,acy]at h;subst h;exact .refl E
 |m::ms,E,a,h=>by
  simp only[dC]at h;split at h
  ·rename_i hm;exact(AS.Ext.set (o':=.dead) (refs:=0) hm λ_ _ _=>trivial).trans (xA ms _ a h)
  ·cases h
theorem xB{n:Nat}{fn:Func}{b:Array Value}{R:Ending->World->Prop}{u:FrameMode}(i:u≠ .run){G:Gh}: ∀ (ms:lN) (f:List Deferred) (E a:AS) (w:World),gd cW G ms f->aY P B ax G E w->dC E ms=some a->
  (∀w',aY P B ax G a w'->LeavesInM (W none) n P fn b R cW u w')->LeavesInM (W none) n P fn b R f u w
 | [],f,E,a,w,e,hw,c,h=>by
   simp only[gd]at e;subst e;simp only[dC,acy]at c;subst c;exact h w hw
 |m::ms,f,E,a,w,e,hw,c,h=>by
  simp only[gd]at e;obtain⟨d,r,k,rfl,p,j,o,l⟩:=e;simp only[dC]at c;split at c
  ·rename_i hm;obtain⟨s,q⟩:=hw.obj m _ hm j.2;have g:=o s;subst g;refine⟨i,.inl ⟨_,eD w (G.ba m) (.deferred none),p,?_,?_⟩⟩
   ·simp[Instr.takeDeferred,getObj,setObj,Sem.run,q,eD]
   ·exact xB i ms r (E.set m .dead 0) a _ l (hw.put j 0 trivial) c h
  ·cases c
def Ge{G:Gh}{args:List AV}{a:Array Value}(e:aG G args a.toList)(j:args.length<=nt):cL G nt (c9 args) (a++Array.replicate (nt-a.size) undef):=by
 have f:a.size=args.length:=by rw[<-ajR];exact e.length
 refine⟨by simp;omega,λt v b=>?_,λt b=>?_⟩
 ·simp only[c9,aer];rw[Array.getElem?_append]at b;split at b
  ·rename_i h;have c:t<args.length:=by omega
   obtain⟨u,hu,g⟩:=e.get t args[t] (acJ c);rw[acJ c];have:some u=some v:=by rw[<-hu,<-b];simp
   cases this;exact g
  ·rename_i i;have d:args.length<=t:=by omega
   rw[ajP d];rw[avI]at b;split at b
   ·cases b;exact xw
   ·cases b
 ·simp only[c9,aer];rw[ajP (by omega)];rfl
theorem Vg{G:Gh}{nt:Nat}: ∀ (ps:lN) (args:List AV) (e:Env) (tmps:Array Value) (a:List Value),cL G nt e tmps->aG G args a->(∀p∈ps,p<nt)->cL G nt (gT e ps args) ((ps.zip a).foldl (λtmps (p:Nat×Value)=>tmps.setIfInBounds p.1 p.2) tmps)
 | [],args,e,tmps,a,he,b,c=>by simpa[gT]using he
 |p::ps,[],e,tmps,a,he,b,c=>by
  simp only[aG]at b;subst b;simpa[gT]using he
 |p::ps,x::xs,e,tmps,a,he,b,c=>by
  simp only[aG]at b;obtain⟨v,q,rfl,g,f⟩:=b;simp only[gT,List.zip_cons_cons,awW];exact Vg ps xs _ _ q (he.set (c p (by simp)) g) f (λy d=>c y (by simp[d]))
def gg(P:Program)(B:Nat)(ax:World)(f:FuncId)(p:List AV->AS->Option aT):Prop:=
 ∀args E b,p args E=some b-> ∀G w (a:Array Value),aY P B ax G E w->aG G args a.toList->Cn P (Ends P B ax G E b) ((callFunc f a).run P w)
section
variable{C:bw}(hC:fI P B ax C)(hg:fk X B ax)(hX:ow P X)(gq:zS P X B ax){L:ef}(hL:xz L)
include hC hg hX gq hL
theorem ams{pf:PF}(U:X.code f=some pf){args:List AV}{E:AS}{q:aT}(S:args.length<=pf.ntmps)
  (h:leave X E.heap.length E.lo pf (bc X C L f false pf.body {env:=c9 args,marks:=[]} {heap:=E.heap,lo:=none})=some q) {G:Gh} {w:World} {b:Array Value} (z:aY P B ax G E w) (T:aG G args b.toList):
  CallsIn (W none) 0 P f b w (Ends P B ax G E q):=by
 obtain⟨rows,fn,F,n⟩:=hX f pf U;obtain⟨c,V,l,m,A,D⟩:=Gb n;cases g:bc X C L f false pf.body {env:=c9 args,marks:=[]} {heap:=E.heap,lo:=none}with
 |none=>rw[g]at h;simp[leave]at h
 |some res=>
  rw[g]at h;have he:cL G fn.ntmps (c9 args) (b++Array.replicate (fn.ntmps-b.size) undef):=Ge T (by rw[<-A];exact S);refine avU F V trivial (vq hC hg hX gq hL (r:=none) rfl c pf.body l G {heap:=E.heap,lo:=none} w {env:=c9 args,marks:=[]} _ res _ (z.lo none) he rfl g (λe a w' R=>?_)) rfl;obtain⟨Y,M,K,O,J,I,p⟩:=R;obtain⟨ex,fr,H⟩:=res;have k:pO X E.heap.length E.lo pf fr H=some q->LeavesInM (W none) 0 P fn a.tmps (Ends P B ax G E q) a.defers .returning w':=by
   intro h;unfold pO at h;split at h
   ·rename_i j o;split at h
    ·rename_i v Q;cases h;refine xB (by simp) fr.marks a.defers H j w' J K o (λs d=>?_);obtain⟨v',e1,N⟩:=Cr hg d O m Q;refine⟨v',e1,?_⟩;obtain⟨i,y,x,u,t⟩:=xv z M d (I.trans (xA _ _ _ o)) N;exact⟨i,y,x,u,t⟩
    ·cases h
   ·cases h
  cases ex with
  |normal=>cases e<;>simp[fJ]at p;exact k h
  |ret=>cases e<;>simp[fJ]at p;exact k h
  |exit id=>simp[leave]at h
  |panic v=>
   cases e<;>simp[fJ]at p;rename_i chain;obtain⟨v',rfl,rv⟩:=p;simp only[leave]at h;split at h
   ·rename_i j o;cases h;refine xB (by simp) fr.marks a.defers H j w' J K o (λs d=>?_);obtain⟨i,y,x,u,t⟩:=xv z M d (I.trans (xA _ _ _ o)) rv;exact⟨i,v',rfl,y,x,u,t⟩
   ·cases h
theorem amt{args:List AV}{E:AS}{cr:aT}(h:k9 X C L l args E=some cr){G:Gh}(hw:aY P B ax G E w)(T:G.on l)(hl:aG G args c.toList):
  Cn P (Ends P B ax G E cr) ((Instr.yield (G.ba l) c).run P w):=by
 unfold k9 at h;split at h
 ·rename_i st ayD f env ps assign body amu;split at h
  ·rename_i U;obtain⟨o0,b,ob,os,oj,_,oe,op,Mb,rows,oa,obd⟩:=hw.obj l _ amu T.2;have rq:c.size=args.length:=by rw[<-ajR];exact hl.length
   have Gf:b.params.size=ps.length:=by rw[<-op];simp
   have hy: (Instr.yield (G.ba l) c).run P w= .ok (.round (G.ba l) b.fn ((b.params.zip c).foldl (λtmps (t,a)=>tmps.setIfInBounds t a) b.tmps) b.assign b.body) w:=by
    simp[Instr.yield,Instr.getLoop,getObj,Sem.run,ob,rq,Gf,U]
   rw[hy];have htm: (b.params.zip c).foldl (λtmps (t,a)=>tmps.setIfInBounds t a) b.tmps=(ps.zip c.toList).foldl (λtmps (p:Nat×Value)=>tmps.setIfInBounds p.1 p.2) b.tmps:=by
    rw[<-Array.foldl_toList,Array.toList_zip,op]
   rw[htm];split at h
   ·rename_i fr Z ha;split at h
    ·rename_i g f' u S V iH I;have he:=Vg ps args env b.tmps c.toList oe hl (λp hp=>by simpa using aes.1 Mb p hp);refine roundIn_of_wpIn (F:=W none) trivial (vq hC hg hX gq hL (r:=some (G.ba l)) (rd:=true) (bN:=f) rfl b.assign assign oa G {heap:=E.heap,lo:=none} w {env:=gT env ps args,marks:=[]} _ _ _ (hw.lo none) he rfl ha (λe a Y hr=>?_));obtain⟨z,q1,q2,q3,q4,q5,q6⟩:=hr;cases e<;>simp[fJ]at q6;obtain⟨p0,y,pb,pst,pj,_,pe,pp,Co,amy⟩:=q2.obj l _ I (q1.on l T).2;have k:z.on l:=q1.on l T;have hlG:G.on l:=T;have M:z.ba l=G.ba l:=(q1.same l hlG (by rw[p0,o0])).1;refine⟨eD Y (G.ba l) (.loop {y with state:=.busy}),?_,?_⟩
     ·rw[<-M];simp[Instr.beginRound,Instr.getLoop,getObj,setObj,Sem.run,pb,pst,eD]
     ·have amA:aY P B ax z (Z.set l (.loop .busy g f' u S V iH) 0) (eD Y (G.ba l) (.loop {y with state:=.busy})):=by
        have:=q2.put k (O:=.loop {y with state:=.busy}) (o':=.loop .busy g f' u S V iH) 0 ⟨p0,{y with state:=.busy},sT (q2.low _ k).2,rfl,pj,trivial,pe,pp,Co,amy⟩;rw[M]at this;exact this
      cases zT:bc X C L f true body fr (Z.set l (.loop .busy g f' u S V iH) 0)with
      |none=>rw[zT]at h;simp[endRound]at h
      |some res=>
       rw[zT]at h;refine vq hC hg hX gq hL (r:=some (G.ba l)) (rd:=true) (bN:=f) rfl b.body body obd z _ _ fr a res _ amA q3 q4 zT (λe a' D hr=>?_);obtain⟨Q,u1,u2,u3,u4,u5,u6⟩:=hr;obtain⟨ex,Gg,R⟩:=res;simp only[endRound]at h;split at h
       ·rename_i j ayE ayF N d i o m hj H;cases h;obtain⟨v0,x,vb,vst,vj,_,ve,vp,vps,amC⟩:=u2.obj l _ H (u1.on l k).2;have J:Q.on l:=u1.on l k;have K:Q.ba l=G.ba l:=by rw[<-M];exact(u1.same l k (by rw[v0,p0])).1
        have amD:=Gh.le_trans q1 u1;have amE:AS.Ext {heap:=E.heap,lo:=none} (R.set l (.loop (if j.isNone then .ready else .done) j N d i o m) 0):=
         ((q5.trans (AS.Ext.set (o':=.loop .busy g f' u S V iH) (refs:=0) I λn hn _=>hn)).trans u5).trans (AS.Ext.set (o':=.loop (if j.isNone then .ready else .done) j N d i o m) (refs:=0) H λn hn _=>hn)
        have fin: ∀ (q:Option Code),xl j q-> ∃v w',(Instr.endRound (G.ba l) q).run P D= .ok v w'/\Ends P B ax G E (.ret (.bool j.isNone) (finish E.heap.length E.lo (.bool j.isNone) (R.set l (.loop (if j.isNone then .ready else .done) j N d i o m) 0)).2) (.returned v) w':=by
         intro q A;have s:q.isNone=j.isNone:=by
          cases j with
          |none=>simp only[xl]at A;subst A;rfl
          |some p=>cases p<;>simp only[xl]at A<;>first|exact A.elim| (subst A;rfl)
         refine⟨.bool q.isNone,eD D (G.ba l) (.loop {x with state:=if q.isNone then .ready else .done,pending:=q}),?_,?_⟩
         ·rw[<-K];simp[Instr.endRound,Instr.getLoop,getObj,setObj,Sem.run,vb,eD]
         ·have amF:aY P B ax Q (R.set l (.loop (if j.isNone then .ready else .done) j N d i o m) 0) (eD D (G.ba l) (.loop {x with state:=if q.isNone then .ready else .done,pending:=q})):=by
            have:=u2.put J (O:=.loop {x with state:=if q.isNone then .ready else .done,pending:=q}) (o':=.loop (if j.isNone then .ready else .done) j N d i o m) 0
             ⟨v0,{x with state:=if q.isNone then .ready else .done,pending:=q},sT (u2.low _ J).2,by show(if q.isNone=true then LoopState.ready else LoopState.done)=_;rw[s],A,trivial,ve,vp,vps,amC⟩
            rw[K]at this;exact this
          obtain⟨amG,s1,s2,s3,s4⟩:=xv (v:=.bool j.isNone) (v':=.bool q.isNone) hw amD amF amE (by simp[ak,s]);exact⟨amG,s1,s2,by simp[ak,s],s4⟩
        cases ex with
        |normal=>
         simp only[pP,acy]at hj;subst hj;cases e<;>simp[fJ]at u6;exact fin none rfl
        |ret=>
         simp only[pP,acy]at hj;subst hj;cases e<;>simp[fJ]at u6;exact fin (some .ret) rfl
        |exit id=>
         simp only[pP,acy]at hj;subst hj;cases e<;>simp[fJ]at u6;subst u6;exact fin (some (.exit id)) rfl
        |panic v=>simp[pP]at hj
       ·cases h
    ·cases h
   ·cases h
  ·cases h
 ·cases h
theorem amH(J: ∀f p,X.bU f=some p->gg P B ax f p):fI P B ax (step X C L):=by
 intro fv args E N h G w K b hw g z;unfold step at h;split at h
 ·rename_i f first cap
  simp only[ak,mz]at g;obtain⟨M,a,d,rfl,rfl,t,A⟩:=g;have i:vo (.func (.func f) a d) b=callFunc f (a++b++d):=rfl;rw[i];have e:aG G (first++args++cap) (a++b++d).toList:=by
   simp only[Array.toList_append];exact(t.append z).append A
  split at h
  ·rename_i p D;exact J f p D _ _ _ h G w _ hw e
  ·split at h
   ·rename_i pf q;split at h
    ·rename_i F;obtain⟨rows,fn,v,o⟩:=hX f pf q;obtain⟨c,I,_,_,_,m⟩:=Gb o;have j:=Va (P:=P) v I m a d b w;rw[i]at j;rw[j];exact ams hC hg hX gq hL q F h hw e
    ·cases h
   ·cases h
 ·rename_i l cap;simp only[ak,mz]at g;obtain⟨M,a,d,rfl,⟨s,k,rfl,H⟩,t,A⟩:=g;have n:G.ai l=0:=by
   unfold k9 at h;split at h
   ·rename_i st y f env ps assign body r;exact(hw.obj l _ r s.2).1
   ·cases h
  have u:=H n;subst u;have x:a= #[]:=by
   simp only[aG]at t;apply aob;simpa using t
  subst x;have i:vo (.func (.yield (G.ba l)) #[] d) b=Instr.yield (G.ba l) (#[]++b):=rfl;rw[i,Array.empty_append];exact amt hC hg hX gq hL h hw s z
 ·cases h
end
end
section
variable{X:Ctx}
def nj{x:ao}{e a:Env}(h: ∀t∈x.tmps,e t=a t):x.get e=x.get a:=by
 cases x with
 |t i=>exact h i (by simp[ao.tmps])
 |c v=>rfl
def Cs{x:Option ao}{e a:Env}(h: ∀y∈x.toList,∀t∈y.tmps,e t=a t):x.map (·.get e)=x.map (·.get a):=by
 cases x with
 |none=>rfl
 |some y=>simp only[aei];rw[nj (h y (by simp))]
def Gi{xs:List ao}{e a:Env}(h: ∀t∈gJ xs,e t=a t):xs.map (·.get e)=xs.map (·.get a):=by
 apply au0;intro x b;exact nj λt c=>h t (by simp only[gJ,aoa];grind)
def amI{a:List (Nat×Nat×ao)}{e b:Env}(h: ∀t∈gJ (a.map (·.2.2)),e t=b t):a.map (λp=>(p.1,p.2.1,p.2.2.get e))=a.map (λp=>(p.1,p.2.1,p.2.2.get b)):=by
 apply au0;intro p d;rw[nj λt c=>h t (by simp only[gJ,aoa,ael];grind)]
def Vh{a b:ao}{e d:Env}(h: ∀t∈gJ [a,b],e t=d t):a.get e=a.get d/\b.get e=b.get d:=
 ⟨nj λt c=>h t (by simp[gJ,c]),nj λt c=>h t (by simp[gJ,c])⟩
def amJ{a b c:ao}{e f:Env}(h: ∀t∈gJ [a,b,c],e t=f t):a.get e=a.get f/\b.get e=b.get f/\c.get e=c.get f:=
 ⟨nj λt d=>h t (by simp[gJ,d]),nj λt d=>h t (by simp[gJ,d]),nj λt d=>h t (by simp[gJ,d])⟩
def Gj{C:bw}{i:I}{e m:Env}(h: ∀t∈i.reads,e t=m t)(E:AS):exec X C i e E=exec X C i m E:=by
 cases i with
 |mov x|box x|nilck x|un _ x|conv _ x|s2b x|mki _ x|ta _ x _ _|ext x _|len _ x|clear _ x|panic x|faddr _ x|fld _ _ _ x|load _ _ x=>
  simp only[exec,nj h]
 |alloc _|nf=>rfl
 |pick a b c|om _ a b c=>obtain⟨l,k,o⟩:=amJ h;simp only[exec,l,k,o]
 |build _ ps|bslice _ _ ps|re _ _ _ ps=>simp only[exec,amI h]
 |store _ a v|bin _ a v|shf _ a v|eq _ a v|ne _ a v|B7 _ _ _ a v|iaddra _ _ a v|iaddrs _ a v|idxa _ _ _ a v|idxs a v|lookup _ _ a v _|append _ _ _ a v|copy _ a v=>
  obtain⟨l,k⟩:=Vh h;simp only[exec,l,k]
 |mkf f a b=>
  simp only[exec];rw[Gi (xs:=a) λt d=>h t (by simp only[I.reads,gJ,amv,ac8];exact .inl d),
   Gi (xs:=b) λt d=>h t (by simp only[I.reads,gJ,amv,ac8];exact .inr d)]
 |slstr x lo j|slarr _ _ x lo j=>
  simp only[I.reads,gJ,aoV,amv,ac8,aoa]at h;simp only[exec];rw[nj λt d=>h t (.inl d),Cs λy g t d=>h t (.inr (.inl ⟨y,g,d⟩)),Cs (x:=j) λy g t d=>h t (.inr (.inr ⟨y,g,d⟩))]
 |slsl _ x lo j n=>
  simp only[I.reads,gJ,aoV,amv,ac8,aoa]at h;simp only[exec];rw[nj λt d=>h t (.inl d),Cs (x:=lo) λy g t d=>h t (.inr (.inl (.inl ⟨y,g,d⟩))),Cs (x:=j) λy g t d=>h t (.inr (.inl (.inr ⟨y,g,d⟩))),Cs (x:=n) λy g t d=>h t (.inr (.inr ⟨y,g,d⟩))]
 |max xs|min xs=>simp only[exec,Gi h]
 |call f as=>
  simp only[I.reads,gJ,aoV,ac8]at h;simp only[exec];rw[nj λt d=>h t (.inl d),Gi λt d=>h t (.inr d)]
def Gk{i:I}{e b:Env}(h: ∀t∈i.reads,e t=b t)(E c:AS):aX i e E c=aX i b E c:=by
 cases i with
 |load _ _ x=>simp only[aX,nj h]
 |store _ a v=>obtain⟨d,_⟩:=Vh h;simp only[aX,d]
 |_=>rfl
def amK{C:bw}{i:I}{e:Env}(j:i.cls=0): ∃o,∀E,exec X C i e E=fH E o:=by
 cases i<;>simp only[I.cls,reduceCtorEq]at j
 case mov x=>exact⟨some _,λ_=>rfl⟩
 case mki t x=>exact⟨some _,λ_=>rfl⟩
 case mkf f a b=>exact⟨some _,λ_=>rfl⟩
 case nilck x=>exact⟨_,λ_=>rfl⟩
 case bin op x y=>exact⟨_,λ_=>rfl⟩
 case un op x=>exact⟨_,λ_=>rfl⟩
 case slstr x lo g=>exact⟨_,λ_=>rfl⟩
 case slsl n x lo g l=>exact⟨_,λ_=>rfl⟩
 case slarr n sz x lo g=>exact⟨_,λ_=>rfl⟩
 case faddr o x=>exact⟨_,λ_=>rfl⟩
 case iaddra n sz x i=>exact⟨_,λ_=>rfl⟩
 case iaddrs sz x i=>exact⟨_,λ_=>rfl⟩
 case idxa b n sz x i=>exact⟨_,λ_=>rfl⟩
 case idxs x i=>exact⟨_,λ_=>rfl⟩
 case ta z x t ok=>exact⟨_,λ_=>rfl⟩
 case max xs=>exact⟨_,λ_=>rfl⟩
 case min xs=>exact⟨_,λ_=>rfl⟩
 case pick c a b=>cases h:c.get e<;>first|exact⟨some _,λ_=>by simp only[exec,h];rfl⟩|exact⟨none,λ_=>by simp only[exec,h];rfl⟩
 case build z ps=>cases h:ee z (ps.map λp=>(p.1,p.2.1,p.2.2.get e))<;>first|exact⟨some _,λ_=>by simp only[exec,h];rfl⟩|exact⟨none,λ_=>by simp only[exec,h];rfl⟩
 case bslice z n ps=>cases h:ee (List.replicate n z).flatten (ps.map λp=>(p.1,p.2.1,p.2.2.get e))<;>first|exact⟨some _,λ_=>by simp only[exec,h];rfl⟩|exact⟨none,λ_=>by simp only[exec,h];rfl⟩
 case shf op x y=>
  cases h:x.get e<;>cases d:y.get e<;>first|exact⟨none,λ_=>by simp only[exec,h,d];rfl⟩|exact⟨_,λ_=>by simp only[exec,h,d];rfl⟩
 case eq k x y=>cases h:dA k (x.get e) (y.get e)<;>first|exact⟨some _,λ_=>by simp only[exec,h];rfl⟩|exact⟨none,λ_=>by simp only[exec,h];rfl⟩
 case ne k x y=>cases h:dA k (x.get e) (y.get e)<;>first|exact⟨some _,λ_=>by simp only[exec,h];rfl⟩|exact⟨none,λ_=>by simp only[exec,h];rfl⟩
 case conv k x=>cases h:x.get e<;>first|exact⟨some _,λ_=>by simp only[exec,h];rfl⟩|exact⟨none,λ_=>by simp only[exec,h];rfl⟩
 case s2b x=>
  cases h:x.get e with
  |str s=>
   by_cases d:s.size<=room
   ·exact⟨some _,λ_=>by simp only[exec,h,d,aeE];rfl⟩
   ·exact⟨none,λ_=>by simp only[exec,h,d,ahz];rfl⟩
  |_=>exact⟨none,λ_=>by simp only[exec,h];rfl⟩
 case fld b n off x=>cases h:x.get e<;>first|exact⟨none,λ_=>by simp only[exec,h];rfl⟩|exact⟨_,λ_=>by simp only[exec,h];rfl⟩
 case ext x i=>cases h:x.get e<;>first|exact⟨none,λ_=>by simp only[exec,h];rfl⟩|exact⟨_,λ_=>by simp only[exec,h];rfl⟩
theorem Vi{i:I}(a:i.cls=0)(e:Env)(E b:AS):aX i e E b= .no:=by
 cases i<;>simp only[I.cls,reduceCtorEq]at a<;>rfl
def vt{C:bw}{i:I}{e:Env}{E m:AS}{v:AV}(j:exec X C i e E=some (.ok v m))(g:aX i e E m= .no):m=E/\ ∀d,exec X C i e d=some (.ok v d)/\aX i e d d= .no:=by
 by_cases p:i.cls=0
 ·obtain⟨o,ho⟩:=amK (X:=X) (C:=C) (e:=e) p;rw[ho]at j;obtain⟨rfl,rfl⟩:=dW j;exact⟨rfl,λd=>⟨by rw[ho];rfl,Vi p e _ _⟩⟩
 ·cases i<;>simp only[I.cls,not_true_eq_false]at p
  case load b n x=>
   simp only[exec]at j;obtain⟨h,rfl⟩:=dW j;refine⟨rfl,λd=>?_⟩;simp only[aX]at g⊢;unfold bW at h;split at g<;>first|cases g|skip
   ·rename_i l;rw[l]at h;simp only at h;simp[exec,fH,bW,l,h]
   ·rename_i l;rw[l]at h;simp only at h;simp[exec,fH,bW,l,h]
  case store n a x=>simp only[aX]at g;split at g<;>cases g
  case len k x=>
   simp only[exec]at j;obtain⟨h,rfl⟩:=dW j;refine⟨rfl,λd=>⟨?_,g⟩⟩;have:fb d k (x.get e)=fb m k (x.get e):=by
    generalize x.get e=y;cases k<;>first|rfl| (cases y<;>first|rfl| (rename_i c;cases c<;>rfl))| (simp only[aX]at g;cases g)
   simp only[exec,this,h,fH]
  case call f as=>simp only[aX]at g;(repeat' split at g)<;>cases g
  all_goals simp[aX]at g
end
section
variable{X:Ctx}
def pW{C:bw}{i:I}{e:Env}{E c:AS}{v:AV}(d:exec X C i e E=some (.ok v c))(g:aX i e E c= .q\/ ∃id off n,aX i e E c= .rd id off n):c=E:=by
 cases i with
 |load b n x=>exact(dW d).2
 |lookup j z m k ok=>exact(dW d).2
 |len k x=>exact(dW d).2
 |call f as=>
  simp only[aX]at g
  grind
 |store n a x=>
  simp only[aX]at g
  grind
 |_=>rcases g with h| ⟨_,_,_,h⟩<;>simp[aX]at h
def zU:Option ae->Option (List AV)
 |some (.box cs _)=>some cs
 |_=>none
def ry{E:AS}{b:Bool}{id off:Nat}:bW X E b n (.ptr id off)=(zU E.heap[id]?).bind λcs=>part b n cs off:=by
 unfold bW;simp only;cases h:E.heap[id]? with
 |none=>rfl
 |some o=>cases o<;>simp[zU]
def Vj{cs vs:List AV}{off:Nat}(h:off+vs.length<=cs.length)(a:j<off\/off+vs.length<=j): (aM cs off vs)[j]?=cs[j]?:=by
 unfold aM;rcases a with a|a
 ·grind
 ·rw[aet (by simp;omega),aet (by simp;omega),ajQ]
  grind
def amL{cs vs:List AV}{off a:Nat}{b:Bool}(h:a+vs.length<=cs.length)(d:off+Nat.max n 1<=a\/a+vs.length<=off):part b n (aM cs a vs) off=part b n cs off:=by
 have hm:n<=Nat.max n 1:=aoM _ _;have c:1<=Nat.max n 1:=aoD _ _;unfold part;rw[LW h];cases b with
 |false=>
  exact Vj h (by omega)
 |true=>
  simp only[aeE];split
  ·congr 2
   apply al4;intro j;simp only[akr,ajQ];split
   ·exact Vj h (by omega)
   ·rfl
  ·rfl
def Vk{C:bw}{e:Env}{E s:AS}{v:AV}{a x:ao}{c:Nat}(j:exec X C (.store m a x) e E=some (.ok v s))(q:aX (.store m a x) e E s= .wr d c k)
  {b:Bool} {id off:Nat} (w:id≠d\/off+Nat.max n 1<=c\/c+k<=off):bW X s b n (.ptr id off)=bW X E b n (.ptr id off):=by
 simp only[aX]at q;split at q
 ·rename_i i o t;cases q;simp only[exec,t,jM]at j;split at j
  ·rename_i u l;cases j;split at l
   ·rename_i cs g;split at l
    ·cases l;rw[ry,ry];by_cases f:id=d
     ·subst f;have p:id<E.heap.length:=(abQ.1 g).1;have r:off+Nat.max n 1<=c\/c+(x.get e).cells.length<=off:=by omega
      simp only[AS.set,ac9 p,zU,g,an1];exact amL (by omega) r
     ·simp[AS.set,abN (λh=>f h.symm)]
    grind
   grind
  grind
 ·grind
 grind
def amM{E i:AS}{ty:TypeId}{bytes:Nat}{s v:AV}{ys:List (List AV)}(h:dm E ty sz bytes s ys=some (v,i)){b:Bool}{id off:Nat}:bW X i b n (.ptr id off)=bW X E b n (.ptr id off):=by
 have push: ∀ (ai sz:Nat) (ty:TypeId) (af:List (List AV)),bW X (E.push (.row ai sz ty af)) b n (.ptr id off)=bW X E b n (.ptr id off):=by
  intro ai sz ty af;rw[ry,ry];simp only[AS.push,List.getElem?_append];split
  ·rfl
  ·rw[ajP (by omega:E.heap.length<=id)];cases l:id-E.heap.length<;>simp[zU]
 unfold dm at h;split at h
 ·split at h
  ·split at h
   ·cases h;rfl
   ·split at h
    ·cases h;exact push _ _ _ _
    ·cases h
  ·split at h
   ·cases h;rfl
   ·split at h
    ·cases h;exact push _ _ _ _
    ·cases h
  ·split at h
   ·cases h;rfl
   ·cases h
  ·rename_i a ai d g len cI;split at h
   ·rename_i f k j af he;split at h
    ·split at h
     ·cases h;rfl
     ·split at h
      ·cases h;exact push _ _ _ _
      ·cases h;rw[ry,ry]
       congr 1
       by_cases c:a=id
       ·subst c;have e:a<E.heap.length:=(abQ.1 he).1;rw[he];simp[AS.set,e,zU]
       ·simp[AS.set,abN c]
    ·cases h
   ·cases h
  ·cases h
 grind
def amN{E e:AS}{a o:Nat}{x:AV}(h:jM E n (.dc a ai i o) x=some e){b:Bool}{id off:Nat}:bW X e b m (.ptr id off)=bW X E b m (.ptr id off):=by
 unfold jM at h;simp only at h;split at h
 ·rename_i w sz ty af he;split at h
  ·split at h
   ·cases h;rw[ry,ry];by_cases c:id=a
    ·subst c;have d:id<E.heap.length:=(abQ.1 he).1;simp[AS.set,ac9 d,zU,he]
    ·simp[AS.set,abN (λh=>c h.symm)]
   grind
  grind
 grind
def Vl{C:bw}{i:I}{e:Env}{E f:AS}{v:AV}(d:exec X C i e E=some (.ok v f))(c:aX i e E f= .app){b:Bool}{id off:Nat}:bW X f b n (.ptr id off)=bW X E b n (.ptr id off):=by
 cases i with
 |append ty sz bytes s x=>
  simp only[exec]at d;split at d
  ·split at d
   ·rename_i h;cases d;exact amM h
   grind
  grind
 |load _ _ _=>simp only[aX]at c;split at c<;>cases c
 |store m a x=>
  simp only[aX]at c;split at c<;>first|cases c|skip
  rename_i j;simp only[exec,j]at d;split at d
  ·rename_i g;cases d;exact amN g
  ·cases d
 |len k x=>simp only[aX]at c;split at c<;>cases c
 |call _ _=>simp only[aX]at c;(repeat' split at c)<;>cases c
 |_=>simp[aX]at c
def Gl{i:I}{e:Env}{E d:AS}{id off:Nat}(c:aX i e E d= .rd id off k): ∃b n a,i= .load b n a/\a.get e= .ptr id off/\k=Nat.max n 1:=by
 cases i with
 |load b n a=>
  simp only[aX]at c
  grind
 |store _ _ _=>simp only[aX]at c;grind
 |len k x=>simp only[aX]at c;grind
 |call _ _=>simp only[aX]at c;grind
 |_=>trivial
def Gm{i:I}{e:Env}{E d:AS}{id off:Nat}(c:aX i e E d= .wr id off k): ∃n a x,i= .store n a x:=by
 cases i with
 |load b n a=>simp only[aX]at c;grind
 |store n a x=>simp
 |len k x=>simp only[aX]at c;grind
 |call _ _=>simp only[aX]at c;grind
 |_=>trivial
def vu{C:bw}{b:Bool}{a:ao}{e:Env}{E c:AS}{p:AV}{v:AV}{i:AS}(g:a.get e=p)(h:bW X c b n p=bW X E b n p)(d:exec X C (.load b n a) e E=some (.ok v i)):
  exec X C (.load b n a) e c=some (.ok v c):=by
 simp only[exec,g]at d⊢;obtain⟨f,_⟩:=dW d;rw[h,f];rfl
def Ct{i:I}{e:Env}{E d:AS}(c:aX i e E d= .rr): ∃b n a id ai j o,i= .load b n a/\a.get e= .dc id ai j o:=by
 cases i with
 |load b n a=>
  simp only[aX]at c
  grind
 |store _ _ _=>simp only[aX]at c;grind
 |len k x=>simp only[aX]at c;grind
 |call _ _=>simp only[aX]at c;grind
 |_=>trivial
def Vm{C:bw}{e:Env}{E s:AS}{v:AV}{a x:ao}{c:Nat}(l:exec X C (.store m a x) e E=some (.ok v s))(r:aX (.store m a x) e E s= .wr d c k)
  {b:Bool} {id o:Nat}:bW X s b n (.dc id ai j o)=bW X E b n (.dc id ai j o):=by
 simp only[aX]at r;split at r
 ·rename_i i o' t;cases r;simp only[exec,t,jM]at l;split at l
  ·rename_i u p;cases l;split at p
   ·rename_i cs g;split at p
    ·cases p;unfold bW;by_cases f:id=d
     ·subst f;have q:id<E.heap.length:=(abQ.1 g).1;simp[AS.set,ac9 q,g]
     ·simp[AS.set,abN (λh=>f h.symm)]
    grind
   grind
  grind
 ·grind
 grind
def Vn{i:I}{e:Env}{E d:AS}(c:aX i e E d= .new k){b:Bool}{id off:Nat}(h:id<k):bW X d b n (.ptr id off)=bW X E b n (.ptr id off):=by
 cases i with
 |load b n a=>simp only[aX]at c;grind
 |store _ _ _=>simp only[aX]at c;grind
 |len k x=>simp only[aX]at c;grind
 |call _ _=>
  simp only[aX]at c;split at c
  ·grind
  split at c
  ·rename_i f;cases c;rw[ry,ry,<-f,akr,acE h]
  grind
 |_=>trivial
def amO{C:bw}{x y:I}{D A:Env}{E i d:AS}{v w:AV}(r:exec X C x D E=some (.ok v i))(p:exec X C y A i=some (.ok w d))(f: (aX x D E i).ok (aX y A i d)=true):
  ∃F,exec X C y A E=some (.ok w F)/\exec X C x D F=some (.ok v d)/\aX y A E F=aX y A i d/\aX x D F d=aX x D E i:=by
 cases l:aX x D E i with
 |no=>
  obtain⟨rfl,g⟩:=vt r l
  grind
 |rd id off n=>
  have e1:=pW r (.inr ⟨_,_,_,l⟩);subst e1;obtain⟨b,m,a,rfl,z,rfl⟩:=Gl l;cases c:aX y A i d with
  |no=>
   obtain⟨rfl,g⟩:=vt p c
   grind
  |rd u s B=>
   have t:=pW p (.inr ⟨_,_,_,c⟩);grind
  |q=>
   have t:=pW p (.inl c);grind
  |wr u s B=>
   obtain⟨m',a',G,rfl⟩:=Gm c;rw[l,c]at f;refine⟨d,p,vu z (Vk p c ?_) r,c,by rw[<-l];rfl⟩;simp only[FP.ok,anX,bne_iff_ne,aje]at f;rcases f with(h|h)|h
   ·exact .inl h
   ·exact .inr (.inl h)
   ·exact .inr (.inr h)
  |rr=>
   obtain⟨_,_,_,_,_,_,_,rfl,_⟩:=Ct c;have t:=(dW p).2;subst t;exact⟨_,p,r,c,l⟩
  |app=>exact⟨d,p,vu z (Vl p c) r,c,by rw[<-l];rfl⟩
  |new k=>
   rw[l,c]at f;exact⟨d,p,vu z (Vn c (aoR f)) r,c,by rw[<-l];rfl⟩
  |all=>rw[l,c]at f;simp[FP.ok]at f
 |q=>
  have e1:=pW r (.inl l);subst e1;cases c:aX y A i d with
  |no=>
   obtain⟨rfl,g⟩:=vt p c;exact⟨d,p,r,c,l⟩
  |rd u s B=>
   have t:=pW p (.inr ⟨_,_,_,c⟩);subst t;exact⟨d,p,r,c,l⟩
  |q=>
   have t:=pW p (.inl c);subst t;exact⟨d,p,r,c,l⟩
  |rr=>
   obtain⟨_,_,_,_,_,_,_,rfl,_⟩:=Ct c;have t:=(dW p).2;subst t;exact⟨_,p,r,c,l⟩
  |_=>rw[l,c]at f;simp[FP.ok]at f
 |wr id off n=>
  cases c:aX y A i d with
  |no=>
   obtain⟨rfl,g⟩:=vt p c;exact⟨E,(g E).1,r,(g E).2,l⟩
  |rd u s B=>
   have t:=pW p (.inr ⟨_,_,_,c⟩);subst t;obtain⟨b,m,a,rfl,z,rfl⟩:=Gl c;obtain⟨m',a',G,rfl⟩:=Gm l;rw[l,c]at f;refine⟨E,vu z (Vk r l ?_).symm p,r,by rw[<-c];rfl,l⟩;simp only[FP.ok,anX,bne_iff_ne,aje]at f;rcases f with(h|h)|h
   ·exact .inl (λe=>h e.symm)
   ·exact .inr (.inr h)
   ·exact .inr (.inl h)
  |rr=>
   obtain⟨b,m,a,u,ai,j,o,rfl,z⟩:=Ct c;have t:=(dW p).2;subst t;obtain⟨m',a',G,rfl⟩:=Gm l;exact⟨E,vu z (Vm r l).symm p,r,by rw[<-c];rfl,l⟩
  |_=>rw[l,c]at f;simp[FP.ok]at f
 |app=>
  cases c:aX y A i d with
  |no=>
   obtain⟨rfl,g⟩:=vt p c;exact⟨E,(g E).1,r,(g E).2,l⟩
  |rd u s B=>
   have t:=pW p (.inr ⟨_,_,_,c⟩);subst t;obtain⟨b,m,a,rfl,z,rfl⟩:=Gl c;exact⟨E,vu z (Vl r l).symm p,r,by rw[<-c];rfl,l⟩
  |_=>rw[l,c]at f;simp[FP.ok]at f
 |new k=>
  cases c:aX y A i d with
  |no=>
   obtain⟨rfl,g⟩:=vt p c;exact⟨E,(g E).1,r,(g E).2,l⟩
  |rd u s B=>
   have t:=pW p (.inr ⟨_,_,_,c⟩);subst t;obtain⟨b,m,a,rfl,z,rfl⟩:=Gl c;rw[l,c]at f;exact⟨E,vu z (Vn l (aoR f)).symm p,r,by rw[<-c];rfl,l⟩
  |_=>rw[l,c]at f;simp[FP.ok]at f
 |rr=>
  obtain⟨b,m,a,u,ai,j,o,rfl,z⟩:=Ct l;have e1:=(dW r).2;subst e1;cases c:aX y A i d with
  |no=>
   obtain⟨rfl,g⟩:=vt p c;exact⟨d,p,r,c,l⟩
  |rd u s B=>
   have t:=pW p (.inr ⟨_,_,_,c⟩);subst t;exact⟨_,p,r,c,l⟩
  |q=>
   have t:=pW p (.inl c);subst t;exact⟨_,p,r,c,l⟩
  |rr=>
   obtain⟨_,_,_,_,_,_,_,rfl,_⟩:=Ct c;have t:=(dW p).2;subst t;exact⟨_,p,r,c,l⟩
  |wr u s B=>
   obtain⟨m',a',G,rfl⟩:=Gm c;exact⟨d,p,vu z (Vm p c) r,c,by rw[<-l];rfl⟩
  |_=>rw[l,c]at f;simp[FP.ok]at f
 |all=>
  cases c:aX y A i d with
  |no=>
   obtain⟨rfl,g⟩:=vt p c;exact⟨E,(g E).1,r,(g E).2,l⟩
  |_=>rw[l,c]at f;simp[FP.ok]at f
end
end Go.Den
