/- A part. -/
import GoSem.Step
import Derived.Below
import Derived.Laws.Rows
import Derived.ChangeKeysEq
import Derived.Laws.Entries
import Derived.Laws.StructEq
import Derived.Great.BuildSlice
import Derived.Laws.BytesString
import Derived.Laws.IdiomStrings
import Derived.Laws.MakeOwn
import Derived.Lib.UnsafeStr
import Derived.RangeFuncLeaves
set_option linter.all false
set_option maxRecDepth 10000
set_option maxHeartbeats 1000000
namespace Go.Den
open Go Go.RowKit
abbrev oN:=Option Nat
abbrev lN:=List Nat
abbrev lB:=List UInt8
variable{i j b nt m aj sz k n d l:Nat}{a:Act}{vs:List Value}{v v':Value}{w w':World}{O:Obj}{c:Array Value}{t e:TypeId}{ak:Option Value}{r:Bool}{f:FuncId}
def acG:=@List.getElem?_set_ne
def acK:=@List.getElem?_append_left
def adN:=@List.getElem?_eq_some_iff
def adP:=@Option.some.injEq
def adQ:=@List.getElem?_eq_getElem
def aeu:=@if_neg
def aev:=@List.append_assoc
def aez:=@if_pos
def aeA:=@Go.run_underlying
def aeE:=@List.take_of_length_le
def aeZ:=@List.length_append
def ae0:=@Nat.le_refl
def ae1:=@List.getElem?_set_self
def ae2:=@List.mem_append
def ae3:=@List.length_map
def ae4:=@Nat.zero_le
def agj:=@Option.map_eq_some_iff
def agk:=@List.take_length
def agl:=@Option.map_some
def agm:=@Bool.false_eq_true
def agn:=@List.getD_eq_getElem?_getD
def ago:=@List.mem_map
def agp:=@List.map_append
def agr:=@Nat.add_zero
def ags:=@List.getElem?_append_right
def agt:=@List.length_cons
def agu:=@List.take_add_one
def agw:=@List.length_take
def agx:=@List.all_eq_true
def agy:=@List.mem_filter
def agD:=@Nat.le_trans
def agF:=@List.mem_cons
def ahJ:=@if_true
def ahV:=@Bool.and_eq_true
def ahX:=@congrArg
def ahY:=@List.cons_append
def ahZ:=@List.mem_of_mem_take
def ah1:=@List.nil_append
def ah2:=@List.drop_eq_nil_of_le
def aid:=@Nat.add_sub_cancel_left
def aie:=@Nat.lt_of_lt_of_le
def ajc:=@if_false
def ajK:=@Nat.add_assoc
def ajL:=@Option.some.inj
def ajM:=@List.length_eq_zero_iff
def alL:=@List.mem_of_getElem?
def alR:=@decide_eq_true_eq
def alV:=@Nat.zero_add
def alZ:=@List.getElem?_eq_none
def al0:=@List.getElem?_drop
def amq:=@Array.length_toList
def amr:=@Array.getElem?_setIfInBounds
def amE:=@Nat.mul_le_mul_right
def amF:=@List.map_cons
def amH:=@List.getElem?_take
def amI:=@List.take_append_drop
def amK:=@Array.getElem?_eq_some_iff
def amL:=@List.flatMap_append
def amR:=@List.drop_zero
def ana:=@List.flatten_append
def ane:=@Nat.mod_eq_of_lt
def ang:=@List.ext_getElem?
def aom:=@List.drop_eq_getElem_cons
def aoC:=@List.mem_of_mem_drop
def aoD:=@List.flatten_cons
def aoS:=@Bool.or_eq_true
def ao2:=@Option.bind_some
def ao3:=@Nat.add_mul
def ao5:=@List.drop_drop
def ao7:=@Go.heap_alloc_new
def apA:=@List.drop_succ_cons
def aqq:=@List.mem_flatMap
def aqr:=@Array.ext'
def aqt:=@Nat.succ_mul
def aqA:=@of_decide_eq_true
def aqC:=@Nat.min_eq_left
def aqG:=@List.take_succ_cons
def aqT:=@Nat.le_max_right
def aqU:=@List.take_take
def aq6:=@Go.run_program
def aq7:=@Nat.le_max_left
def aq9:=@List.length_singleton
def ara:=@List.flatMap_cons
def arf:=@List.extract_eq_take_drop
def ark:=@List.replicate_succ
def arp:=@List.map_congr_left
def asE:=@Option.isSome_iff_exists
def asG:=@List.eq_of_mem_replicate
def asJ:=@Bool.not_true
def atb:=@List.take_append_of_le_length
def atm:=@List.drop_append
def atQ:=@Array.toList_extract
def atS:=@List.all_cons
def atT:=@beq_iff_eq
def avF:=@List.map_nil
def axf:=@List.drop_take
def axh:=@Array.getElem?_eq_getElem
def axp:=@Array.getElem?_replicate
def axW:=@List.take_append
def ax3:=@Go.callsIn_of_wp_marks
def ax4:=@decide_false
def ax5:=@Nat.ne_of_lt
def ax6:=@Nat.min_self
def ax7:=@List.map_map
def ayG:=@List.foldl_cons
def azq:=@List.cons.injEq
def azt:=@List.range_eq_range'
def azT:=@List.mapM_cons
def azU:=@Go.grownCap_ge
def azX:=@Go.wpIn_seq
def aAa:=@List.size_toArray
def aAB:=@List.replicate_append_replicate
def aAI:=@Go.size_zeroCells
def aAJ:=@Bool.not_eq_true'
def aAK:=@Array.size_append
def aAO:=@List.drop_append_of_le_length
inductive AV where
 |bool(b:Bool)
 |int(k:IntKind)(n:Int)
 |str(s:ByteArray)
 |agg(cs:List AV)
 |ax(vs:List AV)
 |dy
 |ptr(id off:Nat)
 |dn(id aj i off:Nat)
 |fi(cs:List AV)(off:Nat)
 |dL(g:Nat)
 |aq
 |sl(af:List (List AV))(cK:Bool)
 |ref(id aj sz off len:Nat)(cK:Bool)
 |fw(id sz off len:Nat)
 |mr
 |mp(id:Nat)
 |lR(g:Nat)
 |fn(f:Fn)(first cap:List AV)
 |du
 |di(t:TypeId)(v:AV)
 |eV
 |qB
 deriving Inhabited
abbrev AV.undef:AV:=.ax []
def AV.cells:AV->List AV
 |.agg cs=>cs
 |v=>[v]
def AV.cq:AV->Bool
 |.ax _=>true
 |.qB=>true
 |_=>false
def AV.ke:Value->AV
 |.bool b=>.bool b
 |.int k n=>.int k n
 |.string s=>.str s
 |.pointer none=>.dy
 |.slice none n c=>if n=0/\c=0 then .aq else .qB
 |.map none=>.mr
 |.nilFunc=>.du
 |.nilIface=>.eV
 |.tuple vs=>if vs.size=0 then .ax []else .qB
 |_=>.qB
def AV.ofValue:Value->AV
 |.agg cs=>.agg (cs.toList.map AV.ke)
 |.iface t v=>.di t (AV.ke v)
 |v=>AV.ke v
mutual
def AV.refs:AV->Nat
 |.ptr id _=>id+1
 |.dn id _ _ _=>id+1
 |.ref id _ _ _ _ _=>id+1
 |.fw id _ _ _=>id+1
 |.mp id=>id+1
 |.agg cs=>aI cs
 |.ax cs=>aI cs
 |.fi cs _=>aI cs
 |.sl af _=>cb af
 |.fn f a b=>max (match f with|.yield l=>l+1|_=>0) (max (aI a) (aI b))
 |.di _ v=>v.refs
 |_=>0
def aI:List AV->Nat
 | []=>0
 |a::as=>max a.refs (aI as)
def cb:List (List AV)->Nat
 | []=>0
 |a::as=>max (aI a) (cb as)
end
abbrev Env:=Nat->AV
def Env.set(e:Env)(d:Nat)(v:AV):Env:=λt=>if t=d then v else e t
inductive ao where
 |t(i:Nat)
 |c(v:AV)
 deriving Inhabited
def ao.get(e:Env):ao->AV
 |.t i=>e i
 |.c v=>v
inductive EK where
 |bool
 |int
 |str
 |ptr
 |sl
 |map
 |cap
 |fn
 |di
 |Ax(ts:List TypeId)
 |agg(ks:List EK)
 deriving Inhabited
inductive I where
 |mov(x:ao)
 |pick(c a b:ao)
 |alloc(z:List AV)(tg:Option TypeId)
 |box(x:ao)(tg:Option TypeId:=none)
 |build(z:List AV)(parts:List (Nat×Nat×ao))
 |bslice(z:List AV)(len:Nat)(parts:List (Nat×Nat×ao))
 |rT(ty:TypeId)(z:List AV)(len:Nat)(parts:List (Nat×Nat×ao))
 |load(agg:Bool)(n:Nat)(a:ao)
 |store(n:Nat)(a v:ao)
 |nilck(x:ao)
 |bin(op:BinOp)(x y:ao)
 |shf(op:BinOp)(x y:ao)
 |eq(k:EK)(x y:ao)
 |ne(k:EK)(x y:ao)
 |un(op:UnOp)(x:ao)
 |conv(k:IntKind)(x:ao)
 |s2b(x:ao)
 |mki(t:TypeId)(x:ao)
 |mkf(f:Fn)(first cap:List ao)
 |nS
 |De(ty:TypeId)(z:List AV)(bytes:Nat)(l c:ao)
 |slstr(x:ao)(lo hi:Option ao)
 |slsl(sz:Nat)(x:ao)(lo hi mx:Option ao)
 |slarr(n sz:Nat)(x:ao)(lo hi:Option ao)
 |faddr(off:Nat)(x:ao)
 |fld(agg:Bool)(n off:Nat)(x:ao)
 |iaddra(len sz:Nat)(x i:ao)
 |iaddrs(sz:Nat)(x i:ao)
 |idxa(agg:Bool)(len sz:Nat)(x i:ao)
 |idxs(x i:ao)
 |lookup(kk:EK)(z:AV)(m k:ao)(ok:Bool)
 |o8(kk:EK)(m k v:ao)
 |ta(z:AV)(x:ao)(t:TypeId)(ok:Bool)
 |ext(x:ao)(i:Nat)
 |len(k:EK)(x:ao)
 |append(ty:TypeId)(sz bytes:Nat)(s x:ao)
 |copy(sz:Nat)(d s:ao)
 |clear(z:List AV)(x:ao)
 |max(xs:List ao)
 |min(xs:List ao)
 |call(f:ao)(args:List ao)
 |panic(x:ao)
 deriving Inhabited
structure aT where
 g:Option (Nat×Bool)
 dst:oN
 i:I
 deriving Inhabited
inductive PC where
 |skip
 |aQ(ops:List aT)
 |uA(ops:List (aT×lN))
 |seq(a b:PC)
 |cond(c:ao)(a b:PC)
 |block(id:Nat)(b:PC)
 |loop(b:PC)
 |ie(g:ao)(params:lN)(assign body:PC)
 |exit(id:Nat)
 |ret
 deriving Inhabited
inductive RV where
 |t(i:Nat)
 |cell(a:Nat)(agg:Bool)(n:Nat)
 deriving Inhabited
structure PF where
 ntmps:Nat
 results:List RV
 body:PC
 deriving Inhabited
inductive ae where
 |box(cs:List AV)(tg:Option TypeId)
 |row(aj sz:Nat)(ty:TypeId)(af:List (List AV))
 |map(es:List (AV×AV))
 |loop(state:LoopState)(pending:Option PC)(fn:FuncId)(env:Env)(params:lN)(assign body:PC)
 |fx
 |dead
 deriving Inhabited
structure AS where
 heap:List ae
 lo:oN
 deriving Inhabited
inductive aX where
 |ret(v:AV)(E:AS)
 |panic(v:AV)(E:AS)
 deriving Inhabited
abbrev bE:=AV->List AV->AS->Option aX
structure Ctx where
 dL:Nat->Option (List AV)
 code:FuncId->Option PF
 cg:FuncId->Option (List AV->AS->Option aX)
 fV:Nat->Option (List (AV×AV)):=λ_=>none
def AS.push(E:AS)(o:ae):AS:={E with heap:=E.heap++[o]}
def cM(a:oN)(i:Nat):oN:=match a with|none=>some i|some j=>some (Nat.min i j)
def gu(a b:oN):oN:=match b with|none=>a|some j=>cM a j
def AS.set(E:AS)(id:Nat)(o:ae)(refs:Nat):AS:=
 {heap:=E.heap.set id o,lo:=if refs<=id+1 then E.lo else cM E.lo id}
def part(agg:Bool)(n:Nat)(cs:List AV)(off:Nat):Option AV:=
 if agg then(if off+n<=cs.length then some (.agg ((cs.drop off).take n))else none)else cs[off]?
def aJ(cs:List AV)(off:Nat)(vs:List AV):List AV:=cs.take off++(vs++cs.drop (off+vs.length))
def eG(cs:List AV):List (Nat×Nat×AV)->Option (List AV)
 | []=>some cs
 | (off,n,v)::rest=>if v.cq=false/\v.cells.length=n/\off+n<=cs.length then eG (aJ cs off v.cells) rest else none
def chunks(sz:Nat):Nat->List AV->List (List AV)
 |0,_=>[]
 |k+1,cs=>cs.take sz::chunks sz k (cs.drop sz)
def AV.Ay:AV->Bool
 |.ptr .. |.dn .. |.fi .. |.dL _=>true
 |_=>false
def AV.Az:AV->Bool
 |.sl .. |.ref .. |.fw .. =>true
 |_=>false
def qC:EK->AV->AV->Option Bool
 |.bool,.bool a,.bool b=>some (a==b)
 |.int,.int k a,.int k' b=>if k=k' then some (a==b)else none
 |.str,.str a,.str b=>some (a.toList==b.toList)
 |.ptr,.dy,.dy=>some true
 |.ptr,.dy,b=>if b.Ay then some false else none
 |.ptr,a,.dy=>if a.Ay then some false else none
 |.sl,.aq,.aq=>some true
 |.sl,.aq,b=>if b.Az then some false else none
 |.sl,a,.aq=>if a.Az then some false else none
 |.map,.mr,.mr=>some true
 |.map,.mr,.mp _=>some false
 |.map,.mp _,.mr=>some false
 |.fn,.du,.du=>some true
 |.fn,.du,.fn .. =>some false
 |.fn,.fn ..,.du=>some false
 |.di,.eV,.eV=>some true
 |.di,.eV,.di .. =>some false
 |.di,.di ..,.eV=>some false
 |.Ax ts,.di t (.int k a),.di c (.int k' b)=>if t=c then(if ts.contains t/\k=k' then some (a==b)else none)else some false
 |_,_,_=>none
def iM:List EK->List AV->List AV->Option Bool
 | [],[],[]=>some true
 |k::c,a::as,b::bs=>match qC k a b with
  |some true=>iM c as bs
  |some false=>some false
  |none=>none
 |_,_,_=>none
def dA:EK->AV->AV->Option Bool
 |.agg a,.agg xs,.agg ys=>if xs.length=a.length/\ys.length=a.length then iM a xs ys else none
 |.agg _,_,_=>none
 |k,x,y=>qC k x y
def v9(a:BinOp)(k:IntKind)(x y:Int):Option AV:=
 match a with
 |.and=>some (.int k (k.wrap (BitVec.ofInt k.bits x&&&BitVec.ofInt k.bits y).toNat))
 |.or=>some (.int k (k.wrap (BitVec.ofInt k.bits x|||BitVec.ofInt k.bits y).toNat))
 |.xor=>some (.int k (k.wrap (BitVec.ofInt k.bits x^^^BitVec.ofInt k.bits y).toNat))
 |.andNot=>some (.int k (k.wrap (BitVec.ofInt k.bits x&&& ~~~ (BitVec.ofInt k.bits y)).toNat))
 |_=>none
def mv(a:BinOp)(k:IntKind)(x y:Int):Option AV:=
 match a with
 |.add=>some (.int k (k.wrap (x+y)))
 |.sub=>some (.int k (k.wrap (x-y)))
 |.mul=>some (.int k (k.wrap (x*y)))
 |.quo=>if y=0 then none else some (.int k (k.wrap (x.tdiv y)))
 |.rem=>if y=0 then none else some (.int k (x.tmod y))
 |.eql=>some (.bool (x==y))
 |.neq=>some (.bool (x !=y))
 |.lss=>some (.bool (x<y))
 |.leq=>some (.bool (x<=y))
 |.gtr=>some (.bool (x>y))
 |.geq=>some (.bool (x>=y))
 |a=>v9 a k x y
def wa(a:BinOp)(k:IntKind)(x y:Int):Option AV:=
 if y<0 then none else
 match a with
 |.shl=>some (.int k (k.wrap (x*2^(min y.toNat k.bits))))
 |.shr=>some (.int k (x.fdiv (2^(min y.toNat k.bits))))
 |_=>none
def Wh:Nat:=1152921504606846976
def Wi(a:BinOp)(x y:ByteArray):Option AV:=
 match a with
 |.add=>if x.size+y.size<=Wh then some (.str (x++y))else none
 |.eql=>some (.bool (x.toList==y.toList))
 |.neq=>some (.bool !(x.toList==y.toList))
 |.lss=>some (.bool (Op.bytesLess x.toList y.toList))
 |.leq=>some (.bool (Op.bytesLess x.toList y.toList||x.toList==y.toList))
 |.gtr=>some (.bool !(Op.bytesLess x.toList y.toList||x.toList==y.toList))
 |.geq=>some (.bool !(Op.bytesLess x.toList y.toList))
 |_=>none
def dp(c:BinOp):AV->AV->Option AV
 |.int k a,.int k' b=>if k=k' then mv c k a b else none
 |.str a,.str b=>Wi c a b
 |_,_=>none
def xW(a:UnOp)(x:AV):Option AV:=
 match a,x with
 |.neg,.int k n=>some (.int k (k.wrap (0-n)))
 |.xor,.int k n=>v9 .xor k (if k.signed then-1 else k.max) n
 |.not,.bool b=>some (.bool !b)
 |_,_=>none
inductive Out where
 |ok(v:AV)(E:AS)
 |panic(v:AV)(E:AS)
def fW(E:AS):Option AV->Option Out
 |some v=>some (.ok v E)
 |none=>none
variable(X:Ctx)
def cm(E:AS)(agg:Bool)(n:Nat)(a:AV):Option AV:=
 match a with
 |.ptr id off=>match E.heap[id]? with
  |some (.box cs _)=>part agg n cs off
  |_=>none
 |.dn id aj i off=>match E.heap[id]? with
  |some (.row v sz _ af)=>if v=aj then(af[i]?).bind λel=>if el.length=sz then part agg n el off else none else none
  |_=>none
 |.fi cs off=>part agg n cs off
 |.dL g=>(X.dL g).bind λcs=>part agg n cs 0
 |_=>none
def kf(E:AS)(n:Nat)(a v:AV):Option AS:=
 match a with
 |.ptr id off=>match E.heap[id]? with
  |some (.box cs tg)=>if v.cq=false/\v.cells.length=n/\off+n<=cs.length then some (E.set id (.box (aJ cs off v.cells) tg) v.refs)else none
  |_=>none
 |.dn id aj i off=>match E.heap[id]? with
  |some (.row w sz ty af)=>match af[i]? with
   |some el=>if w=aj/\el.length=sz/\v.cq=false/\v.cells.length=n/\off+n<=el.length then some (E.set id (.row aj sz ty (af.set i (aJ el off v.cells))) v.refs)else none
   |none=>none
  |_=>none
 |_=>none
def elems(E:AS)(sz:Nat):AV->Option (List (List AV))
 |.aq=>some []
 |.sl af _=>if af.all (λel=>el.length==sz)then some af else none
 |.ref id aj a off len _=>match E.heap[id]? with
  |some (.row v b _ af)=>if v=aj/\b=sz/\a=sz/\off+len<=af.length then some ((af.drop off).take len)else none
  |_=>none
 |.fw id b off len=>match E.heap[id]? with
  |some (.box cs _)=>if b=sz/\off+len*sz<=cs.length then some (chunks sz len (cs.drop off))else none
  |_=>none
 |_=>none
def rU:AV->Option Int
 |.int _ n=>some n
 |_=>none
def lS(n:Nat):Option AV->Nat->oN
 |none,d=>some d
 |some (.int _ i),_=>if 0<=i/\i<=n then some i.toNat else none
 |some _,_=>none
def gv(len:Nat)(b a:Option AV):Option (Nat×Nat):=
 match lS len a len with
 |some h=>match lS h b 0 with
  |some l=>some (l,h)
  |none=>none
 |none=>none
def uB(x:AV)(b a:Option AV):Option AV:=
 match x with
 |.str s=>match gv s.size b a with
  |some (l,h)=>some (.str (s.extract l h))
  |none=>none
 |_=>none
def lT(len h:Nat)(cK:Bool):Option AV->Option Bool
 |none=>some (cK&&h==len)
 |some (.int _ i)=>if(h:Int)<=i/\i<=len then some (i==h)else none
 |some _=>none
def gw(n:Nat)(x:AV)(b a d:Option AV):Option AV:=
 match x with
 |.aq=>match gv 0 b a,lT 0 0 true d with
  |some _,some _=>some .aq
  |_,_=>none
 |.sl af cK=>match gv af.length b a with
  |some (l,h)=>match lT af.length h cK d with
   |some c=>if af.all (λel=>el.length==n)then some (.sl ((af.drop l).take (h-l)) c)else none
   |none=>none
  |none=>none
 |.ref id aj sz off len cK=>match gv len b a with
  |some (l,h)=>match lT len h cK d with
   |some c=>if sz=n then some (.ref id aj sz (off+l) (h-l) c)else none
   |none=>none
  |none=>none
 |.fw id sz off len=>match gv len b a,d with
  |some (l,h),none=>if sz=n then some (.fw id sz (off+l*sz) (h-l))else none
  |_,_=>none
 |_=>none
def qD(n sz:Nat)(x:AV)(b a:Option AV):Option AV:=
 match gv n b a with
 |some (l,h)=>match x with
  |.ptr id off=>some (.fw id sz (off+l*sz) (h-l))
  |.fi cs off=>if off+n*sz<=cs.length then some (.sl (chunks sz (h-l) (cs.drop (off+l*sz))) false)else none
  |.dL g=>match X.dL g with
   |some cs=>if n*sz<=cs.length then some (.sl (chunks sz (h-l) (cs.drop (l*sz))) false)else none
   |none=>none
  |_=>none
 |none=>none
def rV(s:ByteArray):List (List AV):=s.data.toList.map λb=>[.int .u8 b.toNat]
def wb:List (List AV)->Option lB
 | []=>some []
 | [.int .u8 n]::r=>(wb r).map (UInt8.ofNat n.toNat:: ·)
 |_=>none
def room:Nat:=1099511627776
def dv(E:AS)(ty:TypeId)(sz bytes:Nat)(s:AV)(ys:List (List AV)):Option (AV×AS):=
 if 0<sz/\ys.all (λel=>el.length==sz)then
  match s with
  |.aq=>if ys.length=0 then some (.aq,E)else
   if ys.length*bytes<=room then some (.ref E.heap.length 0 sz 0 ys.length false,E.push (.row 0 sz ty ys))else none
  |.sl af true=>if ys.length=0 then some (s,E)else
   if(af.length+ys.length)*bytes<=room/\af.all (λel=>el.length==sz)then
    some (.ref E.heap.length 0 sz 0 (af.length+ys.length) false,E.push (.row 0 sz ty (af++ys)))else none
  |.sl _ false=>if ys.length=0 then some (s,E)else none
  |.ref id aj a off len cK=>
   match E.heap[id]? with
   |some (.row v c b af)=>
    if v=aj/\c=sz/\a=sz/\b=ty/\off+len<=af.length/\ (len+ys.length)*bytes<=room then
     if ys.length=0 then some (s,E)else
     if cK then some (.ref E.heap.length 0 sz 0 (len+ys.length) false,E.push (.row 0 sz ty ((af.drop off).take len++ys)))else
     some (.ref id (aj+1) sz 0 (len+ys.length) false,E.set id (.row (aj+1) sz ty ((af.drop off).take len++ys)) (cb ys))
    else none
   |_=>none
  |_=>none
 else none
def o9:AV->AV->Option Bool
 |.int k a,.int k' b=>if k=k' then some (a==b)else none
 |.str a,.str b=>some (a==b)
 |.bool a,.bool b=>some (a==b)
 |_,_=>none
def eu(k:AV):List (AV×AV)->Option (Option AV)
 | []=>some none
 | (k',v)::es=>match o9 k k' with
   |some true=>some (some v)
   |some false=>eu k es
   |none=>none
def lU(k v:AV):List (AV×AV)->Option (List (AV×AV))
 | []=>some [(k,v)]
 | (k',v')::es=>match o9 k k' with
   |some true=>some ((k,v)::es)
   |some false=>(lU k v es).map ((k',v'):: ·)
   |none=>none
def mapOf(gm:Nat->Option (List (AV×AV)))(E:AS):AV->Option (List (AV×AV))
 |.mr=>some []
 |.lR g=>gm g
 |.mp id=>match E.heap[id]? with
  |some (.map es)=>some es
  |_=>none
 |_=>none
def isKey:AV->Bool
 |.int _ _|.str _|.bool _=>true
 |_=>false
def kR:EK->AV->Bool
 |.int,.int _ _|.str,.str _|.bool,.bool _=>true
 |_,_=>false
def jx(gm:Nat->Option (List (AV×AV)))(E:AS)(b:EK)(z m k:AV)(a:Bool):Option AV:=
 if kR b k then
  match mapOf gm E m with
  |some es=>match eu k es with
   |some (some v)=>some (if a then .ax [v,.bool true]else v)
   |some none=>some (if a then .ax [z,.bool false]else z)
   |none=>none
  |none=>none
 else none
def mw(E:AS)(b:EK)(m k v:AV):Option AS:=
 if kR b k then
  match m with
  |.mp id=>match E.heap[id]? with
   |some (.map es)=>match lU k v es with
    |some a=>some (E.set id (.map a) v.refs)
    |none=>none
   |_=>none
  |_=>none
 else none
def qE:AV->AV->Option AV
 |.int k x,.int _ y=>some (.int k (if y>x then y else x))
 |_,_=>none
def wc:AV->AV->Option AV
 |.int k x,.int _ y=>some (.int k (if y<x then y else x))
 |_,_=>none
def fX(E:AS):EK->AV->Option AV
 |.str,.str s=>some (.int .i64 s.size)
 |.sl,.aq=>some (.int .i64 0)
 |.sl,.sl af _=>some (.int .i64 af.length)
 |.sl,.ref _ _ _ _ n _=>some (.int .i64 n)
 |.sl,.fw _ _ _ n=>some (.int .i64 n)
 |.map,.mr=>some (.int .i64 0)
 |.map,.mp id=>match E.heap[id]? with
  |some (.map es)=>some (.int .i64 es.length)
  |_=>none
 |.cap,.aq=>some (.int .i64 0)
 |.cap,.sl af true=>some (.int .i64 af.length)
 |.cap,.ref _ _ _ _ n true=>some (.int .i64 n)
 |_,_=>none
def Df(E:AS)(sz:Nat)(s:AV):Option (List (List AV)):=
 match s with
 |.str b=>if sz=1 then some (rV b)else none
 |s=>elems E sz s
def rW(E:AS)(sz:Nat)(d s:AV):Option (AV×AS):=
 match Df E sz s with
 |some ys=>match d with
  |.aq=>some (.int .i64 0,E)
  |.ref id aj a off len _=>match E.heap[id]? with
   |some (.row v b ty af)=>
    if v=aj/\b=sz/\a=sz/\off+len<=af.length then
     some (.int .i64 (Nat.min ys.length len),E.set id (.row aj sz ty (af.take off++(ys.take (Nat.min ys.length len)++af.drop (off+Nat.min ys.length len)))) (cb ys))
    else none
   |_=>none
  |.fw id b off len=>match E.heap[id]? with
   |some (.box cs tg)=>
    if b=sz/\off+len*sz<=cs.length/\ys.all (λel=>el.length==sz)then
     some (.int .i64 (Nat.min ys.length len),E.set id (.box (aJ cs off (ys.take (Nat.min ys.length len)).flatten) tg) (cb ys))
    else none
   |_=>none
  |_=>none
 |none=>none
def rX(E:AS)(z:List AV)(x:AV):Option AS:=
 match x with
 |.aq=>some E
 |.ref id aj a off len _=>match E.heap[id]? with
  |some (.row v sz ty af)=>
   if v=aj/\a=sz/\sz=z.length/\off+len<=af.length/\aI z=0 then
    some (E.set id (.row aj sz ty (af.take off++(List.replicate len z++af.drop (off+len)))) 0)
   else none
  |_=>none
 |.fw id sz off len=>match E.heap[id]? with
  |some (.box cs tg)=>
   if sz=z.length/\off+len*sz<=cs.length/\aI z=0 then
    some (E.set id (.box (aJ cs off (List.replicate len z).flatten) tg) 0)
   else none
  |_=>none
 |_=>none
def qF(o:Nat)(x:AV):Option AV:=
 match x with
 |.ptr id off=>some (.ptr id (off+o))
 |.dn id aj i off=>some (.dn id aj i (off+o))
 |.fi cs off=>some (.fi cs (off+o))
 |.dL g=>match X.dL g with
  |some cs=>some (.fi cs o)
  |none=>none
 |_=>none
def uC(n sz:Nat)(x a:AV):Option AV:=
 match rU a with
 |some i=>if 0<=i/\i<n then
    match x with
    |.ptr id off=>some (.ptr id (off+i.toNat*sz))
    |.dn id aj j off=>some (.dn id aj j (off+i.toNat*sz))
    |.fi cs off=>some (.fi cs (off+i.toNat*sz))
    |.dL g=>match X.dL g with
     |some cs=>some (.fi cs (i.toNat*sz))
     |none=>none
    |_=>none
  else none
 |none=>none
def kg(sz:Nat)(x b:AV):Option AV:=
 match rU b with
 |some i=>match x with
  |.sl af _=>if 0<=i then match af[i.toNat]? with
     |some el=>if el.length=sz then some (.fi el 0)else none
     |none=>none
   else none
  |.ref id aj a off len _=>if 0<=i/\i<len/\a=sz then some (.dn id aj (off+i.toNat) 0)else none
  |.fw id a off len=>if 0<=i/\i<len/\a=sz then some (.ptr id (off+i.toNat*sz))else none
  |_=>none
 |none=>none
def qG(agg:Bool)(n sz:Nat)(x a:AV):Option AV:=
 match rU a,x with
 |some i,.agg cs=>if 0<=i/\i<n then part agg sz cs (i.toNat*sz)else none
 |_,_=>none
def xX(x a:AV):Option AV:=
 match rU a,x with
 |some i,.str s=>if 0<=i then match s.data.toList[i.toNat]? with
    |some b=>some (.int .u8 b.toNat)
    |none=>none
  else none
 |_,_=>none
def NA(E:AS)(ty:TypeId)(z:List AV)(bytes:Nat)(l c:AV):Option (AV×AS):=
 match l,c with
 |.int _ l,.int _ c=>if 0<=l/\l<=c/\c*bytes<=room/\c<=room then
    some (.ref E.heap.length 0 z.length 0 l.toNat false,E.push (.row 0 z.length ty (List.replicate l.toNat z)))
  else none
 |_,_=>none
def AA(z x:AV)(t:TypeId)(a:Bool):Option AV:=
 match x with
 |.eV=>if a then some (.ax [z,.bool false])else none
 |.di b v=>if b=t then some (if a then .ax [v,.bool true]else v)else if a then some (.ax [z,.bool false])else none
 |_=>none
def aBv(a:List TypeId)(x:AV)(b:Bool):Option AV:=
 match x with
 |.eV=>if b then some (.ax [.eV,.bool false])else none
 |.di t v=>if a.contains t then some (if b then .ax [.di t v,.bool true]else .di t v)else none
 |_=>none
def gx(f:AV->AV->Option AV):List AV->Option AV
 | []=>none
 | [x]=>some x
 |x::y::r=>match f x y with
  |some z=>gx f (z::r)
  |none=>none
termination_by l=>l.length
def we:AV->Option AV
 |.ptr id off=>some (.ptr id off)
 |.dn id aj i off=>some (.dn id aj i off)
 |.fi cs off=>some (.fi cs off)
 |.dL g=>some (.dL g)
 |.fn (.func f) a b=>some (.fn (.func f) a b)
 |.fn (.yield l) a b=>some (.fn (.yield l) a b)
 |_=>none
def exec(C:bE)(i:I)(e:Env)(E:AS):Option Out:=
 match i with
 |.mov x=>some (.ok (x.get e) E)
 |.pick c a b=>match c.get e with
  |.bool t=>some (.ok (if t then a.get e else b.get e) E)
  |_=>none
 |.alloc z tg=>some (.ok (.ptr E.heap.length 0) (E.push (.box z tg)))
 |.box x tg=>if(x.get e).cq then none else some (.ok (.ptr E.heap.length 0) (E.push (.box (x.get e).cells tg)))
 |.build z parts=>match eG z (parts.map λp=>(p.1,p.2.1,p.2.2.get e))with
  |some cs=>some (.ok (.agg cs) E)
  |none=>none
 |.bslice z len parts=>match eG (List.replicate len z).flatten (parts.map λp=>(p.1,p.2.1,p.2.2.get e))with
  |some cs=>some (.ok (.sl (chunks z.length len cs) true) E)
  |none=>none
 |.rT ty z len parts=>match eG (List.replicate len z).flatten (parts.map λp=>(p.1,p.2.1,p.2.2.get e))with
  |some cs=>some (.ok (.ref E.heap.length 0 z.length 0 len false) (E.push (.row 0 z.length ty (chunks z.length len cs))))
  |none=>none
 |.load agg n a=>fW E (cm X E agg n (a.get e))
 |.store n a v=>match kf E n (a.get e) (v.get e)with
  |some E'=>some (.ok .undef E')
  |none=>none
 |.nilck x=>fW E (we (x.get e))
 |.bin op x y=>fW E (dp op (x.get e) (y.get e))
 |.shf op x y=>match x.get e,y.get e with
  |.int k a,.int _ b=>fW E (wa op k a b)
  |_,_=>none
 |.eq k x y=>match dA k (x.get e) (y.get e)with
  |some b=>some (.ok (.bool b) E)
  |none=>none
 |.ne k x y=>match dA k (x.get e) (y.get e)with
  |some b=>some (.ok (.bool !b) E)
  |none=>none
 |.un op x=>fW E (xW op (x.get e))
 |.conv k x=>match x.get e with
  |.int _ n=>some (.ok (.int k (k.wrap n)) E)
  |_=>none
 |.s2b x=>match x.get e with
  |.str s=>if s.size<=room then some (.ok (.sl (rV s) false) E)else none
  |_=>none
 |.mki t x=>some (.ok (.di t (x.get e)) E)
 |.mkf f first cap=>some (.ok (.fn f (first.map (·.get e)) (cap.map (·.get e))) E)
 |.nS=>some (.ok (.mp E.heap.length) (E.push (.map [])))
 |.De ty z bytes l c=>match NA E ty z bytes (l.get e) (c.get e)with
  |some (v,E')=>some (.ok v E')
  |none=>none
 |.slstr x lo g=>fW E (uB (x.get e) (lo.map (·.get e)) (g.map (·.get e)))
 |.slsl n x lo g j=>fW E (gw n (x.get e) (lo.map (·.get e)) (g.map (·.get e)) (j.map (·.get e)))
 |.slarr n sz x lo g=>fW E (qD X n sz (x.get e) (lo.map (·.get e)) (g.map (·.get e)))
 |.faddr o x=>fW E (qF X o (x.get e))
 |.fld agg n off x=>match x.get e with
  |.agg cs=>fW E (part agg n cs off)
  |_=>none
 |.iaddra n sz x i=>fW E (uC X n sz (x.get e) (i.get e))
 |.iaddrs sz x i=>fW E (kg sz (x.get e) (i.get e))
 |.idxa agg n sz x i=>fW E (qG agg n sz (x.get e) (i.get e))
 |.idxs x i=>fW E (xX (x.get e) (i.get e))
 |.lookup h z m k ok=>fW E (jx X.fV E h z (m.get e) (k.get e) ok)
 |.o8 h m k v=>match mw E h (m.get e) (k.get e) (v.get e)with
  |some E'=>some (.ok .undef E')
  |none=>none
 |.ta z x t ok=>fW E (AA z (x.get e) t ok)
 |.ext x i=>match x.get e with
  |.ax vs=>fW E (vs[i]?)
  |_=>none
 |.len k x=>fW E (fX E k (x.get e))
 |.append ty sz bytes s x=>match elems E sz (x.get e)with
  |some ys=>match dv E ty sz bytes (s.get e) ys with
   |some (v,E')=>some (.ok v E')
   |none=>none
  |none=>none
 |.copy sz d s=>match rW E sz (d.get e) (s.get e)with
  |some (v,E')=>some (.ok v E')
  |none=>none
 |.clear z x=>match rX E z (x.get e)with
  |some E'=>some (.ok .undef E')
  |none=>none
 |.max xs=>fW E (gx qE (xs.map (·.get e)))
 |.min xs=>fW E (gx wc (xs.map (·.get e)))
 |.call f args=>match C (f.get e) (args.map (·.get e)) E with
  |some (.ret v E')=>some (.ok v E')
  |some (.panic v E')=>some (.panic v E')
  |none=>none
 |.panic x=>match x.get e with
  |.di t v=>some (.panic (.di t v) E)
  |_=>none
structure Fr where
 env:Env
 marks:lN
 deriving Inhabited
def Fr.put(a:Fr)(dst:oN)(v:AV):Fr:=
 match dst with
 |some d=>{a with env:=a.env.set d v}
 |none=>a
inductive Ex where
 |normal
 |exit(id:Nat)
 |ret
 |panic(v:AV)
abbrev jy:=Option (Ex×Fr×AS)
def gd(e:Env):Option (Nat×Bool)->Bool
 |none=>true
 |some (t,want)=>match e t with
  |.bool b=>b==want
  |_=>false
def fa(C:bE):List aT->Fr->AS->jy
 | [],fr,E=>some (.normal,fr,E)
 |o::os,fr,E=>
  if gd fr.env o.g then
   match exec X C o.i fr.env E with
   |some (.ok v E')=>fa C os (fr.put o.dst v) E'
   |some (.panic v E')=>some (.panic v,fr,E')
   |none=>none
  else fa C os (fr.put o.dst .undef) E
inductive FP where
 |no
 |rd(id off n:Nat)
 |q
 |wr(id off n:Nat)
 |app
 |all
 |rr
 |new(n:Nat)
def FP.ok:FP->FP->Bool
 |.no,_=>true
 |_,.no=>true
 |.rd ..,.rd .. =>true
 |.rd ..,.q=>true
 |.q,.rd .. =>true
 |.q,.q=>true
 |.rd id off n,.wr b a c=>id !=b||off+n<=a||a+c<=off
 |.wr id off n,.rd b a c=>id !=b||off+n<=a||a+c<=off
 |.rd ..,.app=>true
 |.app,.rd .. =>true
 |.rr,.rd .. =>true
 |.rd ..,.rr=>true
 |.rr,.q=>true
 |.q,.rr=>true
 |.rr,.rr=>true
 |.rr,.wr .. =>true
 |.wr ..,.rr=>true
 |.rd id _ _,.new n=>id<n
 |.new n,.rd id _ _=>id<n
 |_,_=>false
open Classical in
noncomputable def aZ(i:I)(e:Env)(E E':AS):FP:=
 match i with
 |.load _ n a=>match a.get e with
  |.ptr id off=>.rd id off (Nat.max n 1)
  |.dn .. =>.rr
  |.fi .. =>.no
  |.dL _=>.no
  |_=>.all
 |.lookup .. =>.q
 |.len k _=>match k with
  |.map=>.q
  |_=>.no
 |.store n a _=>match a.get e with
  |.ptr id off=>.wr id off n
  |.dn .. =>.app
  |_=>.all
 |.append .. =>.app
 |.call .. =>if E'=E then .q else if E'.heap.take E.heap.length=E.heap then .new E.heap.length else .all
 |.alloc _ _|.box .. |.rT .. |.nS|.De .. |.o8 .. |.copy .. |.clear .. |.panic _=>.all
 |_=>.no
def I.cls:I->Nat
 |.mov _|.pick .. |.build .. |.bslice .. |.nilck _|.bin .. |.shf .. |.eq .. |.ne .. |.un .. |.conv .. |.s2b _|.mki .. |.mkf .. =>0
 |.slstr .. |.slsl .. |.slarr .. |.faddr .. |.fld .. |.iaddra .. |.iaddrs .. |.idxa .. |.idxs .. |.ta .. |.ext .. |.max _|.min _=>0
 |.load .. |.lookup .. |.len .. =>1
 |.call .. =>2
 |_=>3
def ao.tmps:ao->lN
 |.t i=>[i]
 |.c _=>[]
def gZ(l:List ao):lN:=l.flatMap ao.tmps
def I.reads:I->lN
 |.mov x|.box x _|.nilck x|.un _ x|.conv _ x|.s2b x|.mki _ x|.ta _ x _ _|.ext x _|.len _ x|.clear _ x|.panic x=>x.tmps
 |.alloc _ _|.nS=>[]
 |.pick a b c|.o8 _ a b c=>gZ [a,b,c]
 |.build _ ps|.bslice _ _ ps|.rT _ _ _ ps=>gZ (ps.map (·.2.2))
 |.load _ _ a=>a.tmps
 |.store _ a v|.bin _ a v|.shf _ a v|.eq _ a v|.ne _ a v|.De _ _ _ a v|.iaddra _ _ a v|.iaddrs _ a v|.idxa _ _ _ a v|.idxs a v
 |.lookup _ _ a v _|.append _ _ _ a v|.copy _ a v=>gZ [a,v]
 |.mkf _ a b=>gZ (a++b)
 |.slstr x lo d|.slarr _ _ x lo d=>gZ (x:: (lo.toList++d.toList))
 |.slsl _ x lo d e=>gZ (x:: (lo.toList++d.toList++e.toList))
 |.faddr _ x|.fld _ _ _ x=>x.tmps
 |.max xs|.min xs=>gZ xs
 |.call f as=>gZ (f::as)
def aT.reads(o:aT):lN:=o.i.reads++(match o.g with|some (t,_)=>[t]|none=>[])
def Dg(l m:lN):Bool:=l.all λx=>!m.contains x
def kh(x y:aT):Bool:=
 Dg x.dst.toList y.reads&&Dg y.dst.toList x.reads&&Dg x.dst.toList y.dst.toList
def FP.is:FP->Bool
 |.no=>false
 |_=>true
def Dh(a:List FP)(o:aT×lN)(os:List (aT×lN)):Bool:=
 o.2.isEmpty&& (o.1.i.cls !=0&& ((o.1.i.cls==2||a.all FP.is)&&os.all λo'=>if o'.1.i.cls=0 then !kh o.1 o'.1 else !o'.2.contains a.length))
noncomputable def gy(C:bE):List FP->List (aT×lN)->Fr->AS->jy
 |_,[],fr,E=>some (.normal,fr,E)
 |a,o::os,fr,E=>
  if gd fr.env o.1.g then
   match exec X C o.1.i fr.env E with
   |some (.ok v E')=>
    if o.2.all (λj=>((a.getD j .all).ok (aZ o.1.i fr.env E E')))then
     gy C (a++[aZ o.1.i fr.env E E']) os (fr.put o.1.dst v) E'
    else none
   |some (.panic v E')=>if Dh a o os then some (.panic v,fr,E')else none
   |none=>none
  else gy C (a++[.no]) os (fr.put o.1.dst .undef) E
def aT.fK(x:aT):Option ae:=match x.i with
 |.alloc z tg=>some (.box z tg)
 |_=>none
def lV(m:Nat)(x:aT):aT:=match x.fK with
 |some _=>{x with i:=.mov (.c (.ptr m 0))}
 |none=>x
def ig:Nat->List (aT×lN)->List (aT×lN)
 |_,[]=>[]
 |n,o::os=>(lV n o.1,o.2)::ig (match o.1.fK with|some _=>n+1|none=>n) os
def dD:List (aT×lN)->List ae
 | []=>[]
 |o::os=>match o.1.fK with
  |some b=>b::dD os
  |none=>dD os
def AS.my(E:AS)(os:List ae):AS:={E with heap:=E.heap++os}
def xY:PC->Option Ex
 |.ret=>some .ret
 |.exit id=>some (.exit id)
 |_=>none
abbrev eH:=(Fr->AS->jy)->Fr->AS->jy
def qH:AV->Bool
 |.fn (.func f) _ _=>(X.cg f).isNone&& (X.code f).isSome
 |_=>false
def endLoop(l:Nat)(b:Fr)(E:AS):jy:=
 match E.heap[l]? with
 |some (.loop st a f env ps as bd)=>
  if st= .busy then none else
  match a with
  |none=>some (.normal,b,E.set l (.loop .exhausted a f env ps as bd) 0)
  |some j=>match xY j with
   |some ex=>some (ex,b,E.set l (.loop .exhausted a f env ps as bd) 0)
   |none=>none
 |_=>none
noncomputable def bm(C:bE)(L:eH)(bU:FuncId)(rd:Bool):PC->Fr->AS->jy
 |.skip,fr,E=>some (.normal,fr,E)
 |.seq a b,fr,E=>match bm C L bU rd a fr E with
  |some (.normal,d,E')=>bm C L bU rd b d E'
  |r=>r
 |.cond c a b,fr,E=>match c.get fr.env with
  |.bool t=>if t then bm C L bU rd a fr E else bm C L bU rd b fr E
  |_=>none
 |.block id body,fr,E=>match bm C L bU rd body fr E with
  |some (.exit e,d,E')=>if e=id then some (.normal,d,E')else some (.exit e,d,E')
  |r=>r
 |.loop body,fr,E=>L (bm C L bU rd body) fr E
 |.exit id,fr,E=>some (.exit id,fr,E)
 |.ret,fr,E=>some (.ret,fr,E)
 |.aQ ops,fr,E=>fa X C ops fr E
 |.uA ops,fr,E=>gy X C [] (ig E.heap.length ops) fr (E.my (dD ops))
 |.ie g params assign body,fr,E=>
  if rd then none else
  if qH X (g.get fr.env)then
   match C (g.get fr.env) [.fn (.yield (E.heap.length+1)) [] []] ((E.push .fx).push (.loop .ready none bU fr.env params assign body))with
   |some (.ret _ E')=>endLoop (E.heap.length+1) {fr with marks:=E.heap.length::fr.marks} E'
   |some (.panic v E')=>some (.panic v,{fr with marks:=E.heap.length::fr.marks},E')
   |none=>none
  else none
mutual
def freeze(E:AS)(n:Nat):Nat->AV->Option AV
 |0,_=>none
 |k+1,v=>if v.refs<=n then some v else
  match v with
  |.ref id aj sz off len cK=>match E.heap[id]? with
   |some (.row v c _ af)=>if v=aj/\c=sz/\off+len<=af.length then
      match rY E n k ((af.drop off).take len)with
      |some a=>some (.sl a cK)
      |none=>none
    else none
   |_=>none
  |.agg cs=>match iN E n k cs with
   |some b=>some (.agg b)
   |none=>none
  |.ax cs=>match iN E n k cs with
   |some b=>some (.ax b)
   |none=>none
  |.sl af cK=>match rY E n k af with
   |some a=>some (.sl a cK)
   |none=>none
  |_=>none
def iN(E:AS)(n:Nat):Nat->List AV->Option (List AV)
 |_,[]=>some []
 |0,_::_=>none
 |k+1,a::as=>match freeze E n k a with
  |some a'=>match iN E n (k+1) as with
   |some b=>some (a'::b)
   |none=>none
  |none=>none
def rY(E:AS)(n:Nat):Nat->List (List AV)->Option (List (List AV))
 |_,[]=>some []
 |0,_::_=>none
 |k+1,a::as=>match iN E n k a with
  |some a'=>match rY E n (k+1) as with
   |some b=>some (a'::b)
   |none=>none
  |none=>none
end
def finish(n:Nat)(dM:oN)(v:AV)(E:AS):AV×AS:=
 if(match E.lo with|none=>true|some j=>n<=j)then
  match freeze E n 12 v with
  |some v'=>(v',{heap:=E.heap.take n,lo:=dM})
  |none=>(v,{heap:=E.heap,lo:=gu dM E.lo})
 else(v,{heap:=E.heap,lo:=gu dM E.lo})
def pa(E:AS)(e:Env):RV->Option AV
 |.t i=>some (e i)
 |.cell a agg n=>cm X E agg n (e a)
def ki(E:AS)(e:Env):List RV->Option (List AV)
 | []=>some []
 |r::rs=>match pa X E e r with
  |some v=>match ki E e rs with
   |some vs=>some (v::vs)
   |none=>none
  |none=>none
def fL(E:AS)(e:Env)(a:List RV):Option AV:=
 match ki X E e a with
 |some [v]=>some v
 |some vs=>some (.ax vs)
 |none=>none
def dN(E:AS):lN->Option AS
 | []=>some E
 |m::ms=>match E.heap[m]? with
  |some .fx=>dN (E.set m .dead 0) ms
  |_=>none
def dj(args:List AV):Env:=λt=>args.getD t .undef
def ij(e:Env):lN->List AV->Env
 |p::ps,a::as=>ij (e.set p a) ps as
 |_,_=>e
def qI(n:Nat)(dM:oN)(pf:PF)(b:Fr)(E:AS):Option aX:=
 match dN E b.marks with
 |some a=>match fL X a b.env pf.results with
  |some v=>some (.ret (finish n dM v a).1 (finish n dM v a).2)
  |none=>none
 |none=>none
def leave(n:Nat)(dM:oN)(pf:PF):jy->Option aX
 |some (.normal,fr,E)=>qI X n dM pf fr E
 |some (.ret,fr,E)=>qI X n dM pf fr E
 |some (.panic v,fr,E)=>match dN E fr.marks with
  |some a=>some (.panic (finish n dM v a).1 (finish n dM v a).2)
  |none=>none
 |_=>none
def qJ:Ex->Option (Option PC)
 |.normal=>some none
 |.ret=>some (some .ret)
 |.exit id=>some (some (.exit id))
 |.panic _=>none
def endRound(l n:Nat)(dM:oN):jy->Option aX
 |some (ex,_,E)=>match qJ ex,E.heap[l]? with
  |some j,some (.loop _ _ f env ps as bd)=>
   some (.ret (.bool j.isNone) (finish n dM (.bool j.isNone) (E.set l (.loop (if j.isNone then .ready else .done) j f env ps as bd) 0)).2)
  |_,_=>none
 |none=>none
noncomputable def lW(C:bE)(L:eH)(l:Nat)(args:List AV)(E:AS):Option aX:=
 match E.heap[l]? with
 |some (.loop _ _ f env ps assign body)=>
  if args.length=ps.length then
   match bm X C L f true assign {env:=ij env ps args,marks:=[]} {E with lo:=none}with
   |some (.normal,fr,a)=>
    match a.heap[l]? with
    |some (.loop .ready b g c d e je)=>
     endRound l E.heap.length E.lo (bm X C L f true body fr (a.set l (.loop .busy b g c d e je) 0))
    |_=>none
   |_=>none
  else none
 |_=>none
noncomputable def step(C:bE)(L:eH):bE
 |.fn (.func f) first cap,args,E=>
  match X.cg f with
  |some p=>p (first++args++cap) E
  |none=>
   match X.code f with
   |some pf=>
    if(first++args++cap).length<=pf.ntmps then
     leave X E.heap.length E.lo pf (bm X C L f false pf.body {env:=dj (first++args++cap),marks:=[]} {E with lo:=none})
    else none
   |none=>none
 |.fn (.yield l) [] _,args,E=>lW X C L l args E
 |_,_,_=>none
def iter:Nat->eH
 |0,_,_,_=>none
 |n+1,body,fr,E=>match body fr E with
  |some (.normal,a,E')=>iter n body a E'
  |r=>r
noncomputable def iO:Nat->bE
 |0=>λ_ _ _=>none
 |n+1=>step X (iO n) (iter n)
section
variable(P:Program)
def cz(t:TypeId):oN:=(P.info? t).map (·.size)
def xZ(t:TypeId):oN:=(P.info? t).map (·.bytes)
def m8(t:TypeId):Option Bool:=(P.underlying t).map λ |.struct _|.array _ _=>true|_=>false
def AV.plain:AV->Bool
 |.qB=>false
 |_=>true
def Hk:Value->Bool
 |.agg cs=>cs.toList.all λv=>(AV.ke v).plain&& !(AV.ke v).cq
 |.iface _ v=>(AV.ke v).plain
 |v=>(AV.ke v).plain
def zeroV(t:TypeId):Option Value:=(P.info? t).bind (·.zero)
def x0(t:TypeId):Option AV:=
 match zeroV P t with
 |some z=>if Hk z then some (AV.ofValue z)else none
 |none=>none
def hH(t:TypeId):Option (List AV):=
 match x0 P t,cz P t with
 |some z,some n=>if z.cq=false/\z.cells.length=n then some z.cells else none
 |_,_=>none
def rZ:List AV->TypeId->Option TypeId
 | [.dy,.aq],t=>some t
 |_,_=>none
def bM:Operand->Option ao
 |.tmp t=>some (.t t)
 |.const v=>if Hk v then some (.c (AV.ofValue v))else none
 |.global g=>some (.c (.dL g))
 |.func f=>some (.c (.fn (.func f) [] []))
def nT:List Operand->Option (List ao)
 | []=>some []
 |x::xs=>match bM x,nT xs with
  |some y,some ys=>some (y::ys)
  |_,_=>none
def uD:Option Operand->Option (Option ao)
 |none=>some none
 |some x=>(bM x).map some
def parts(a:Nat->Option (Nat×Nat)):List (Nat×Operand)->Option (List (Nat×Nat×ao))
 | []=>some []
 | (i,x)::r=>match a i,bM x,parts a r with
   |some (off,n),some y,some b=>some ((off,n,y)::b)
   |_,_,_=>none
def AB(f:TypeId->Option (List EK)):List Field->Nat->Option (List EK)
 | [],_=>some []
 |g::gs,off=>match f g.type with
  |some a=>if g.name≠ "_" /\g.offset=off/\cz P g.type=some a.length then(AB f gs (off+a.length)).map (a++ ·)else none
  |none=>none
def nU:Nat->TypeId->Option (List EK)
 |0,_=>none
 |d+1,t=>match P.underlying t with
  |some .bool=>some [.bool]
  |some (.int _)=>some [.int]
  |some .string=>some [.str]
  |some (.struct fields)=>if P.stoodInHeld t=false then AB P (nU d) fields.toList 0 else none
  |some (.array n e)=>match nU d e with
   |some a=>if cz P e=some a.length/\n*a.length<=1024 then some (List.replicate n a).flatten else none
   |none=>none
  |_=>none
def Wj:List TypeId:=
 (List.range P.types.size).filter λt=>match P.info? t,P.underlying t with
   |some i,some (.int _)=>i.comparable
   |_,_=>false
def x5(t:TypeId)(x y:Operand):Option EK:=
 match P.underlying t with
 |some .bool=>some .bool
 |some (.int _)=>some .int
 |some .string=>some .str
 |some (.pointer _)=>some .ptr
 |some (.slice _)=>some .sl
 |some (.map _ _)=>some .map
 |some (.func _ _ _)=>some .fn
 |some (.interface _)=>(match x,y with|.const .nilIface,_=>some .di|_,.const .nilIface=>some .di|_,_=>some (.Ax (Wj P)))
 |some (.struct _)=>if P.eqGuardType P.depth t=false then(nU P 10 t).map .agg else none
 |some (.array _ _)=>if P.eqGuardType P.depth t=false then(nU P 10 t).map .agg else none
 |_=>none
def AD(t:TypeId):Option EK:=
 match P.underlying t with
 |some .bool=>some .bool
 |some (.int _)=>some .int
 |some .string=>some .str
 |_=>none
def aBw(t:TypeId):Bool:=match zeroV P t with|some .nilIface=>true|_=>false
def Wk:Fn->Bool
 |.yield _=>true
 |_=>false
def aBx(a:Array (String×TypeId)):List TypeId:=
 (List.range P.types.size).filter λt=>match P.info? t with
   |some i=>(Instr.missingMethod a i.methods).isNone
   |none=>false
def Di(a:TypeId)(c:Call):Option I:=
 match c.callee,c.argTypes.toList,c.args.toList with
 |.value f,_,args=>match bM f,nT args with
  |some f,some as=>some (.call f as)
  |_,_=>none
 |.builtin .len,[t],[x]=>match P.underlying t with
  |some .string=>(bM x).map (.len .str)
  |some (.slice _)=>(bM x).map (.len .sl)
  |some (.map _ _)=>(bM x).map (.len .map)
  |_=>none
 |.builtin .append,[st,g],[s,x]=>match P.underlying st with
  |some (.slice e)=>match cz P e,xZ P e,bM s,bM x with
   |some sz,some b,some s,some x=>match P.underlying g with
    |some (.slice _)=>if 0<b/\ (hH P e).isSome then some (.append e sz b s x)else none
    |_=>none
   |_,_,_,_=>none
  |_=>none
 |.builtin .copy,[h,_],[d,s]=>match P.underlying h with
  |some (.slice e)=>match cz P e,bM d,bM s with
   |some sz,some d,some s=>some (.copy sz d s)
   |_,_,_=>none
  |_=>none
 |.builtin .clear,[t],[x]=>match P.underlying t with
  |some (.slice e)=>match hH P e,bM x with
   |some z,some x=>some (.clear z x)
   |_,_=>none
  |_=>none
 |.builtin .max,_,xs=>match P.underlying a with
  |some (.int _)=>(nT xs).map .max
  |_=>none
 |.builtin .min,_,xs=>match P.underlying a with
  |some (.int _)=>(nT xs).map .min
  |_=>none
 |.builtin .cap,[t],[x]=>match P.underlying t with
  |some (.slice _)=>(bM x).map (.len .cap)
  |_=>none
 |_,_,_=>none
def kS(rows:Bool)(o:Oper):Option I:=
 match o.op with
 |.move x|.assign x=>(bM x).map .mov
 |.pick c a b=>match bM c,bM a,bM b with
  |some c,some a,some b=>some (.pick c a b)
  |_,_,_=>none
 |.alloc t=>(hH P t).map λz=>.alloc z (rZ z t)
 |.box t x=>(bM x).map λx=>.box x ((hH P t).bind λz=>rZ z t)
 |.build t ps=>match P.underlying t,hH P t with
  |some (.struct fields),some z=>if fields.toList.all (λf=>(cz P f.type).isSome)then(parts (λi=>match fields[i]? with
    |some f=>(cz P f.type).map λn=>(f.offset,n)
    |none=>none) ps.toList).map (.build z)else none
  |some (.array _ e),some z=>match cz P e with
   |some sz=>(parts (λi=>some (i*sz,sz)) ps.toList).map (.build z)
   |none=>none
  |_,_=>none
 |.buildSlice t len ps=>match P.underlying t with
  |some (.slice e)=>match hH P e with
   |some z=>if len*z.length<=65536/\0<z.length then
      (parts (λi=>some (i*z.length,z.length)) ps.toList).map λps=>if rows then .rT e z len ps else .bslice z len ps
    else none
   |none=>none
  |_=>none
 |.load t a=>match m8 P t,cz P t,bM a with
  |some b,some n,some a=>some (.load b n a)
  |_,_,_=>none
 |.store t a v=>match cz P t,bM a,bM v with
  |some n,some a,some v=>some (.store n a v)
  |_,_,_=>none
 |.nilCheck x=>(bM x).map .nilck
 |.binOp op t x y _=>match bM x,bM y with
  |some p,some j=>match op,P.underlying t with
   |.shl,some (.int _)|.shr,some (.int _)=>some (.shf op p j)
   |.eql,_=>(x5 P t x y).map λk=>.eq k p j
   |.neq,_=>(x5 P t x y).map λk=>.ne k p j
   |_,some (.int _)|_,some .string=>some (.bin op p j)
   |_,_=>none
  |_,_=>none
 |.unOp op _ x=>(bM x).map (.un op)
 |.convert src dst x=>match P.underlying src,P.underlying dst,bM x with
  |some (.int _),some (.int k),some x=>some (.conv k x)
  |some .string,some (.slice e),some x=>match P.underlying e with
   |some (.int .u8)=>some (.s2b x)
   |_=>none
  |_,_,_=>none
 |.makeInterface t x=>match P.underlying t with
  |some (.interface _)|none=>none
  |some _=>(bM x).map (.mki t)
 |.makeFunc f first cap=>match nT first.toList,nT cap.toList with
  |some a,some b=>if Wk f then none else some (.mkf f a b)
  |_,_=>none
 |.makeMap _ none=>some .nS
 |.makeSlice t l c=>match P.underlying t with
  |some (.slice e)=>match hH P e,xZ P e,bM l,bM c with
   |some z,some b,some l,some c=>if 0<z.length/\0<b then some (.De e z b l c)else none
   |_,_,_,_=>none
  |_=>none
 |.slice t x lo h d=>match bM x,uD lo,uD h,uD d with
  |some x,some lo,some h,some d=>match P.underlying t with
   |some .string=>if d.isNone then some (.slstr x lo h)else none
   |some (.slice e)=>if d.isNone||h.isSome then(cz P e).map λn=>.slsl n x lo h d else none
   |some (.array n e)=>if d.isNone then(cz P e).map λsz=>.slarr n sz x lo h else none
   |_=>none
  |_,_,_,_=>none
 |.fieldAddr s x f=>match P.underlying s,bM x with
  |some (.struct fields),some x=>match fields[f]? with
   |some g=>match cz P g.type with
    |some n=>if 0<n then some (.faddr g.offset x)else none
    |none=>none
   |none=>none
  |_,_=>none
 |.field s x f=>match P.underlying s,bM x with
  |some (.struct fields),some x=>match fields[f]? with
   |some g=>match m8 P g.type,cz P g.type with
    |some b,some n=>some (.fld b n g.offset x)
    |_,_=>none
   |none=>none
  |_,_=>none
 |.indexAddr t x i=>match P.underlying t,bM x,bM i with
  |some (.array n e),some x,some i=>(cz P e).map λsz=>.iaddra n sz x i
  |some (.slice e),some x,some i=>(cz P e).map λsz=>.iaddrs sz x i
  |_,_,_=>none
 |.index t x i=>match P.underlying t,bM x,bM i with
  |some (.array n e),some x,some i=>match m8 P e,cz P e with
   |some b,some sz=>some (.idxa b n sz x i)
   |_,_=>none
  |some .string,some x,some i=>some (.idxs x i)
  |_,_,_=>none
 |.lookup t m k ok=>match P.underlying t with
  |some (.map q u)=>match AD P q,x0 P u,bM m,bM k with
   |some r,some z,some m,some k=>some (.lookup r z m k ok)
   |_,_,_,_=>none
  |_=>none
 |.mapUpdate t m k v|.insert t m k v=>match P.underlying t with
  |some (.map q _)=>match AD P q,bM m,bM k,bM v with
   |some r,some m,some k,some v=>some (.o8 r m k v)
   |_,_,_,_=>none
  |_=>none
 |.typeAssert x _ asserted ok=>match P.underlying asserted,bM x with
  |some (.interface _),some _=>none
  |some _,some x=>match x0 P asserted with
   |some z=>some (.ta z x asserted ok)
   |none=>none
  |_,_=>none
 |.extract x i=>(bM x).map λx=>.ext x i
 |.call c=>Di P o.type c
 |.panic x=>(bM x).map .panic
 |_=>none
def guardOf(a:Array Oper)(o:Oper):Option (Option (Nat×Bool)):=
 match o.guard with
 |none=>some none
 |some (j,want)=>match(a[j]?).bind (·.dst)with
  |some t=>some (some (t,want))
  |none=>none
def iP(rows:Bool)(a:Array Oper)(o:Oper):Option aT:=
 match kS P rows o,guardOf a o with
 |some i,some g=>some {g:=g,dst:=o.dst,i:=i}
 |_,_=>none
def kT(rows:Bool)(a:Array Oper):List Oper->Option (List aT)
 | []=>some []
 |o::os=>match iP P rows a o,kT rows a os with
  |some x,some xs=>some (x::xs)
  |_,_=>none
def kW(o:Oper):lN:=(o.after.toList.filter (Region.binds .any)).map (·.on)
def AE(a:lN)(n:Nat):lN->Nat
 | []=>0
 |e::es=>Nat.lor (Nat.lor (Nat.shiftLeft 1 e) (if e<n then a.getD (n-1-e) 0 else 0)) (AE a n es)
def uE(a:Array Oper):Nat->lN
 |0=>[]
 |n+1=>AE (uE a n) n (match a[n]? with|some o=>kW o|none=>[])::uE a n
def hO(b:Array Oper)(_:Nat)(i:Nat):lN:=(List.range i).filter λa=>Nat.testBit ((uE b (i+1)).headD 0) a
def Hl(b:Region.Mode)(a:Array Oper):lN->lN->Bool
 |_,[]=>true
 |pre,i::rest=>(match a[i]? with|some o=>o.after.toList.all (λe=>!Region.binds b e||pre.contains e.on)|none=>false)&&Hl b a (i::pre) rest
def uF(c:Region.Mode)(b:Array Oper)(a:lN):Bool:=(List.range b.size).all (λi=>a.contains i)&&Hl c b [] a
def r6(ys:List (aT×Nat))(a:List lN)(y:aT)(j:Nat):lN:=
 if y.i.cls=0 then[]else
 match(ys.filter λ (x,i)=>i<j&&x.i.cls>=1&& !(a.getD j []).contains i).map (·.2)with
 | []=>if y.i.cls=2 then((ys.filter λ (x,i)=>i<j&&x.i.cls=0&& !(a.getD j []).contains i).map (·.2)).take 1 else[]
 |l=>l
def NB{ys:List (aT×Nat)}{a:List lN}{y x:aT}(c: (x,i)∈ys)(b:i<j)(f:x.i.cls≠0)(e:y.i.cls≠0)(d: (a.getD j []).contains i=false):i∈r6 ys a y j:=by
 unfold r6;have hm:i∈(ys.filter λ (x,i)=>i<j&&x.i.cls>=1&& !(a.getD j []).contains i).map (·.2):=by
  simp only[ago,agy]
  grind
 grind
def ann{ys:List (aT×Nat)}{b:List lN}{y x:aT}(d: (x,i)∈ys)(c:i<j)(k:y.i.cls=2)(f: (b.getD j []).contains i=false):r6 ys b y j≠[]:=by
 intro h;by_cases ci:x.i.cls=0
 ·unfold r6 at h;rw[aeu (by omega)]at h;split at h
  ·have hm:i∈(ys.filter λ (x,i)=>i<j&&x.i.cls=0&& !(b.getD j []).contains i).map (·.2):=by
     simp only[ago,agy]
     grind
   cases e: (ys.filter λ (x,i)=>i<j&&x.i.cls=0&& !(b.getD j []).contains i).map (·.2)with
   |nil=>grind
   |cons a g=>grind
  grind
 ·have:=NB (y:=y) d c ci (by omega) f
  grind
def NC(a:Array Oper)(xs:List aT):Option (List (aT×lN)):=
 let n:=xs.length
 let before:=(List.range n).map λi=>(hO a 64 i).eraseDups
 let ordered (i j:Nat):Bool:=(before.getD j []).contains i
 let ys:=xs.zipIdx
 if(uF .any a (List.range a.size)&&uF .text a (List.range a.size)&&uF .gc a (Region.linearise .gc a 0))&& (List.range n).all (λi=>match a[i]? with|some o=>(kW o).all (· <i)|none=>false)&&
   ys.all (λ (x,i)=>ys.all λ (y,j)=>i>=j||ordered i j||kh x y)
 then some (ys.map λ (y,j)=>(y,r6 ys before y j))
 else none
def fb(rows:Bool)(nt:Nat):Code->Option PC
 |.skip|.label _=>some .skip
 |.seq a b=>match fb rows nt a,fb rows nt b with
  |some a,some b=>some (.seq a b)
  |_,_=>none
 |.cond c a b=>match bM c,fb rows nt a,fb rows nt b with
  |some c,some a,some b=>some (.cond c a b)
  |_,_,_=>none
 |.block id b=>(fb rows nt b).map (.block id)
 |.loop b=>(fb rows nt b).map .loop
 |.exit id=>some (.exit id)
 |.ret=>some .ret
 |.region _ ops draw=>match kT P rows ops ops.toList with
  |some xs=>
   if xs.all (λx=>match x.dst with|some d=>d<nt|none=>true)then
    if draw then(NC ops xs).map .uA else some (.aQ xs)
   else none
  |none=>none
 |.rangeFunc g ps assign body=>match bM g,fb rows nt assign,fb rows nt body with
  |some g,some a,some b=>if ps.toList.all (· <nt)then some (.ie g ps.toList a b)else none
  |_,_,_=>none
 |.scope _|.goto _|.refuse _=>none
def pn:List ResultVar->Option (List RV)
 | []=>some []
 |.tmp t::r=>(pn r).map (.t t:: ·)
 |.cell a t::r=>match m8 P t,cz P t,pn r with
  |some b,some n,some rs=>some (.cell a b n::rs)
  |_,_,_=>none
def Dj(rows:Bool)(fn:Func):Option PF:=
 match fn.body with
 |some c=>match fb P rows fn.ntmps c,pn P fn.results.toList with
  |some b,some rs=>if(fn.name != "runtime.NumGoroutine")then some {ntmps:=fn.ntmps,results:=rs,body:=b}else none
  |_,_=>none
 |none=>none
end
structure Gh where
 bD:Nat->Nat->Option Value
 n:Nat
 bg:Nat->Nat
 base:Nat->Nat
 aj:Nat->Nat
 ew:Nat->Nat
 sz:Nat->Nat
 pz:Nat->Option ae:=λ_=>none
def Gh.on(G:Gh)(i:Nat):Prop:=i<G.n/\G.pz i=none
def leaf:Value->Bool
 |.agg _=>false
 |.tuple _=>false
 |_=>true
def qK(G:Gh)(b o:Nat)(vs:List Value):Prop:= ∀j v,vs[j]?=some v->G.bD b (o+j)=some v
def Leaves(vs:List Value):Prop:= ∀v∈vs,leaf v=true
def m9(G:Gh):Fn->Fn->Prop
 |.yield l,f=>G.on l/\ (∃k,f= .yield k/\ (G.aj l=0->k=G.bg l))
 |g,f=>f=g
mutual
def an(G:Gh):AV->Value->Prop
 |.bool b,v=>v= .bool b
 |.int k n,v=>v= .int k n
 |.str s,v=>v= .string s
 |.agg cs,v=> ∃vs:Array Value,v= .agg vs/\aG G cs vs.toList/\Leaves vs.toList
 |.ax cs,v=> ∃vs:Array Value,v= .tuple vs/\aG G cs vs.toList
 |.dy,v=>v= .pointer none
 |.ptr id off,v=>G.on id/\ ∃a,v= .pointer (some a)/\ (G.aj id=0->a=⟨G.bg id,off,none⟩)
 |.dn id aj i off,v=>G.on id/\aj<=G.aj id/\ ∃a,v= .pointer (some a)/\ (G.aj id=aj->a=⟨G.bg id,G.base id+i*G.sz id+off,none⟩)
 |.fi cs off,v=> ∃b o vs,v= .pointer (some ⟨b,o+off,none⟩)/\qK G b o vs/\Leaves vs/\aG G cs vs
 |.dL g,v=>v= .pointer (some ⟨g,0,none⟩)
 |.aq,v=>v= .slice none 0 0
 |.sl af cK,v=> ∃b o cap sz vs,v= .slice (some ⟨b,o,none⟩) af.length cap/\af.length<=cap/\ (cK=true->cap=af.length)/\ (∀el∈af,el.length=sz)/\qK G b o vs/\Leaves vs/\bw G af vs
 |.ref id aj sz off len cK,v=>G.on id/\aj<=G.aj id/\ ∃a cap,v= .slice (some a) len cap/\ (len<=cap/\a.spot=none)/\ (cK=true->cap=len)/\
   (G.aj id=aj->G.sz id=sz/\ (0<cap->a=⟨G.bg id,G.base id+off*sz,none⟩)/\off*sz+cap*sz<=G.ew id)
 |.fw id _ off len,v=>G.on id/\ ∃a cap,v= .slice (some a) len cap/\len<=cap/\ (G.aj id=0->0<cap->a=⟨G.bg id,off,none⟩)
 |.mr,v=>v= .map none
 |.lR g,v=>(∃r,v= .map (some r))/\G.bD g 0=some v
 |.mp id,v=>G.on id/\ ∃r,v= .map (some r)/\ (G.aj id=0->r=G.bg id)
 |.fn f a b,v=> ∃ (c:Fn) (a' d:Array Value),v= .func c a' d/\m9 G f c/\aG G a a'.toList/\aG G b d.toList
 |.du,v=>v= .nilFunc
 |.di t x,v=> ∃y,v= .iface t y/\an G x y
 |.eV,v=>v= .nilIface
 |.qB,_=>False
def aG(G:Gh):List AV->List Value->Prop
 | [],vs=>vs=[]
 |a::as,vs=> ∃v r,vs=v::r/\an G a v/\aG G as r
def bw(G:Gh):List (List AV)->List Value->Prop
 | [],vs=>vs=[]
 |a::as,vs=> ∃v r,vs=v++r/\aG G a v/\bw G as r
end
structure Gh.sub(G G':Gh):Prop where
 bD: ∀b o v,G.bD b o=some v->G'.bD b o=some v
 n:G.n<=G'.n
 on: ∀i,G.on i->G'.on i
 aj: ∀i,G.on i->G.aj i<=G'.aj i
 same: ∀i,G.on i->G'.aj i=G.aj i->G'.bg i=G.bg i/\G'.base i=G.base i/\G'.ew i=G.ew i/\G'.sz i=G.sz i
structure Gh.le(G G':Gh):Prop extends toSub:Gh.sub G G' where
 pz: ∀i,i<G.n->G'.pz i=G.pz i
def Gh.le.mk'{G a:Gh}(bD: ∀b o v,G.bD b o=some v->a.bD b o=some v)(n:G.n<=a.n)(pz: ∀i,i<G.n->a.pz i=G.pz i)(aj: ∀i,i<G.n->G.aj i<=a.aj i)
  (same: ∀i,i<G.n->a.aj i=G.aj i->a.bg i=G.bg i/\a.base i=G.base i/\a.ew i=G.ew i/\a.sz i=G.sz i):G.le a:=
 {bD:=bD,n:=n,pz:=pz,on:=λi h=>⟨aie h.1 n,by rw[pz i h.1];exact h.2⟩,aj:=λi h=>aj i h.1,same:=λi h=>same i h.1}
def Gh.ano(G:Gh):G.sub G:=⟨λ_ _ _ h=>h,ae0 _,λ_ h=>h,λ_ _=>ae0 _,λ_ _ _=>⟨rfl,rfl,rfl,rfl⟩⟩
theorem Gh.le_refl(G:Gh):G.le G:={G.ano with pz:=λ_ _=>rfl}
def Gh.Wl{f c d:Gh}(h:f.sub c)(k:c.sub d):f.sub d where
 bD b o v e:=k.bD b o v (h.bD b o v e)
 n:=agD h.n k.n
 on i g:=k.on i (h.on i g)
 aj i g:=agD (h.aj i g) (k.aj i (h.on i g))
 same i g e:=by
  have a:=h.aj i g;have b:=k.aj i (h.on i g);have e1:c.aj i=f.aj i:=by omega
  have j:d.aj i=c.aj i:=by omega
  obtain⟨u,t,s,r⟩:=h.same i g e1;obtain⟨q,p,m,l⟩:=k.same i (h.on i g) j;omega
def Gh.le_trans{c b a:Gh}(h:c.le b)(k:b.le a):c.le a:=
 {Gh.Wl h.toSub k.toSub with pz:=λi d=>(k.pz i (aie d h.n)).trans (h.pz i d)}
def qK.dE{G a:Gh}(h:G.sub a){o:Nat}(f:qK G b o vs):qK a b o vs:=λj v e=>h.bD _ _ _ (f j v e)
def m9.dE{G b:Gh}(h:G.sub b){f g:Fn}(r:m9 G f g):m9 b f g:=by
 cases f<;>simp only[m9]at* <;>try exact r
 obtain⟨a,k,e,c⟩:=r;refine⟨h.on _ a,k,e,λi=>?_⟩;have d:=h.aj _ a;rw[(h.same _ a (by omega)).1];omega
mutual
theorem an.dE{G z:Gh}(h:G.sub z): ∀ (x:AV) (v:Value),an G x v->an z x v
 |.bool _,_,r=>by simpa[an]using r
 |.int _ _,_,r=>by simpa[an]using r
 |.str _,_,r=>by simpa[an]using r
 |.agg cs,_,r=>by
  simp only[an]at*;obtain⟨vs,e,l,d⟩:=r;exact⟨vs,e,aG.dE h cs _ l,d⟩
 |.ax cs,_,r=>by
  simp only[an]at*;obtain⟨vs,e,l⟩:=r;exact⟨vs,e,aG.dE h cs _ l⟩
 |.dy,_,r=>by simpa[an]using r
 |.ptr id off,_,r=>by
  simp only[an]at*;obtain⟨a,x,e,c⟩:=r;refine⟨h.on _ a,x,e,λn=>?_⟩;have m:=h.aj id a;rw[(h.same id a (by omega)).1];exact c (by omega)
 |.dn id aj i off,_,r=>by
  simp only[an]at*;obtain⟨a,b,x,e,c⟩:=r;have m:=h.aj id a;refine⟨h.on _ a,by omega,x,e,λn=>?_⟩;obtain⟨s,q,w,p⟩:=h.same id a (by omega);rw[s,q,p];exact c (by omega)
 |.fi cs off,_,r=>by
  simp only[an]at*;obtain⟨b,o,vs,e,f,d,l⟩:=r;exact⟨b,o,vs,e,f.dE h,d,aG.dE h cs _ l⟩
 |.dL _,_,r=>by simpa[an]using r
 |.aq,_,r=>by simpa[an]using r
 |.sl af cK,_,r=>by
  simp only[an]at*;obtain⟨b,o,cap,sz,vs,e,k,j,u,f,d,l⟩:=r;exact⟨b,o,cap,sz,vs,e,k,j,u,f.dE h,d,bw.dE h af _ l⟩
 |.ref id aj sz off len cK,_,r=>by
  simp only[an]at*;obtain⟨a,b,x,cap,e,k,j,u⟩:=r;have m:=h.aj id a;refine⟨h.on _ a,by omega,x,cap,e,k,j,λn=>?_⟩;obtain⟨s,q,w,p⟩:=h.same id a (by omega);rw[s,q,w,p];exact u (by omega)
 |.fw id sz off len,_,r=>by
  simp only[an]at*;obtain⟨a,x,cap,e,k,j⟩:=r;have m:=h.aj id a;refine⟨h.on _ a,x,cap,e,k,λn D=>?_⟩;rw[(h.same id a (by omega)).1];exact j (by omega) D
 |.mr,_,r=>by simpa[an]using r
 |.lR g,_,r=>by
  simp only[an]at*;exact⟨r.1,h.bD _ _ _ r.2⟩
 |.mp id,_,r=>by
  simp only[an]at*;obtain⟨a,x,e,c⟩:=r;have m:=h.aj id a;refine⟨h.on _ a,x,e,λn=>?_⟩;rw[(h.same id a (by omega)).1];exact c (by omega)
 |.fn f a b,_,r=>by
  simp only[an]at*;obtain⟨E,a',F,e,A,C,B⟩:=r;exact⟨E,a',F,e,A.dE h,aG.dE h a _ C,aG.dE h b _ B⟩
 |.du,_,r=>by simpa[an]using r
 |.di t x,_,r=>by
  simp only[an]at*;obtain⟨y,e,l⟩:=r;exact⟨y,e,an.dE h x _ l⟩
 |.eV,_,r=>by simpa[an]using r
 |.qB,_,r=>by simp[an]at r
theorem aG.dE{G b:Gh}(h:G.sub b): ∀ (xs:List AV) (vs:List Value),aG G xs vs->aG b xs vs
 | [],_,r=>by simpa[aG]using r
 |a::as,_,r=>by
  simp only[aG]at*;obtain⟨v,q,e,d,c⟩:=r;exact⟨v,q,e,an.dE h a _ d,aG.dE h as _ c⟩
theorem bw.dE{G b:Gh}(h:G.sub b): ∀ (xs:List (List AV)) (vs:List Value),bw G xs vs->bw b xs vs
 | [],_,r=>by simpa[bw]using r
 |a::as,_,r=>by
  simp only[bw]at*;obtain⟨v,q,e,d,c⟩:=r;exact⟨v,q,e,aG.dE h a _ d,bw.dE h as _ c⟩
end
def an.mono{G a:Gh}(h:G.le a)(x:AV)(v:Value)(r:an G x v):an a x v:=an.dE h.toSub x v r
def aG.mono{G a:Gh}(h:G.le a)(xs:List AV)(vs:List Value)(r:aG G xs vs):aG a xs vs:=aG.dE h.toSub xs vs r
def bw.mono{G a:Gh}(h:G.le a)(xs:List (List AV))(vs:List Value)(r:bw G xs vs):bw a xs vs:=bw.dE h.toSub xs vs r
theorem aG.length{G:Gh}: ∀ {xs:List AV} {vs:List Value},aG G xs vs->vs.length=xs.length
 | [],_,r=>by simp only[aG]at r;simp[r]
 |_::as,_,r=>by
  obtain⟨v,q,rfl,_,a⟩:=r;simp[aG.length a]
theorem aG.get{G:Gh}: ∀ {xs:List AV} {vs:List Value},aG G xs vs-> ∀ (j:Nat) (x:AV),xs[j]?=some x-> ∃v,vs[j]?=some v/\an G x v
 | [],_,_,_,_,e=>by grind
 |a::as,_,r,j,x,e=>by
  obtain⟨v,q,rfl,d,b⟩:=r;cases j with
  |zero=>grind
  |succ j=>obtain⟨u,hu,c⟩:=aG.get b j x e;grind
theorem aG.ND{G:Gh}: ∀ {xs:List AV} {vs:List Value},vs.length=xs.length->(∀ (j:Nat) (x:AV) (v:Value),xs[j]?=some x->vs[j]?=some v->an G x v)->aG G xs vs
 | [],vs,b,_=>by cases vs<;>simp_all[aG]
 |a::as,vs,b,h=>by
  cases vs with
  |nil=>grind
  |cons v vs=>
   refine⟨v,vs,rfl,h 0 a v (by simp) (by simp),aG.ND (by grind) λj x u c hu=>h (j+1) x u (by grind) (by grind)⟩
theorem aG.append{G:Gh}: ∀ {xs ys:List AV} {vs us:List Value},aG G xs vs->aG G ys us->aG G (xs++ys) (vs++us)
 | [],_,_,_,r,k=>by simp only[aG]at r;grind
 |a::as,_,_,_,r,k=>by
  obtain⟨v,q,rfl,c,b⟩:=r;exact⟨v,q++_,rfl,c,aG.append b k⟩
theorem aG.split{G:Gh}: ∀ {xs ys:List AV} {vs:List Value},aG G (xs++ys) vs-> ∃v1 v2,vs=v1++v2/\aG G xs v1/\aG G ys v2
 | [],_,vs,r=>⟨[],vs,rfl,by rfl,r⟩
 |a::as,_,_,r=>by
  obtain⟨v,q,rfl,e,d⟩:=r;obtain⟨v1,v2,rfl,c,b⟩:=aG.split d;exact⟨v::v1,v2,rfl,⟨v,v1,rfl,e,c⟩,b⟩
theorem aG.take{G:Gh}{xs:List AV}(r:aG G xs vs)(n:Nat):aG G (xs.take n) (vs.take n):=
 .ND (by simp[r.length]) λj x v a b=>by
  rw[amH]at a b;split at a
  ·obtain⟨u,hu,c⟩:=r.get j x a
   grind
  grind
theorem aG.drop{G:Gh}{xs:List AV}(r:aG G xs vs)(n:Nat):aG G (xs.drop n) (vs.drop n):=
 .ND (by simp[r.length]) λj x v a b=>by
  rw[al0]at a b;obtain⟨u,hu,c⟩:=r.get _ x a
  grind
theorem bw.iff{G:Gh}: ∀ {af:List (List AV)} {vs:List Value},bw G af vs↔aG G af.flatten vs
 | [],_=>by rfl
 |a::as,vs=>by
  constructor
  ·rintro⟨v,r,rfl,e,d⟩;exact e.append (bw.iff.1 d)
  ·intro h;obtain⟨v1,v2,rfl,c,b⟩:=aG.split h;exact⟨v1,v2,rfl,c,bw.iff.2 b⟩
def aG.single{G:Gh}{x:AV}:aG G [x] [v]↔an G x v:=by simp[aG]
def Leaves.append{a b:List Value}(h:Leaves a)(k:Leaves b):Leaves (a++b):=λv c=>(ae2.1 c).elim (h v) (k v)
theorem Leaves.take{a:List Value}(h:Leaves a)(n:Nat):Leaves (a.take n):=λv b=>h v (ahZ b)
theorem Leaves.drop{a:List Value}(h:Leaves a)(n:Nat):Leaves (a.drop n):=λv b=>h v (aoC b)
theorem an.cells{G:Gh}{x:AV}(r:an G x v)(h:x.cq=false):aG G x.cells v.cells.toList/\Leaves v.cells.toList:=by
 cases x<;>simp[AV.cq]at h<;>simp only[AV.cells]
 case agg cs=>
  obtain⟨vs,rfl,l,b⟩:=r;exact⟨l,b⟩
 all_goals
  have a:=r;simp only[an]at r
  first
   |rfl
   | (obtain⟨_,_,rfl,_⟩:=r;exact⟨aG.single.2 a,by simp[Leaves,Value.cells,leaf]⟩)
   | (obtain⟨_,rfl,_⟩:=r;exact⟨aG.single.2 a,by simp[Leaves,Value.cells,leaf]⟩)
   | (obtain⟨_,_,_,rfl,_⟩:=r;exact⟨aG.single.2 a,by simp[Leaves,Value.cells,leaf]⟩)
   | (obtain⟨_,_,_,_,rfl,_⟩:=r;exact⟨aG.single.2 a,by simp[Leaves,Value.cells,leaf]⟩)
   | (obtain⟨_,_,_,_,_,rfl,_⟩:=r;exact⟨aG.single.2 a,by simp[Leaves,Value.cells,leaf]⟩)
   | (obtain⟨⟨_,rfl⟩,_⟩:=r;exact⟨aG.single.2 a,by simp[Leaves,Value.cells,leaf]⟩)
mutual
theorem an.refs{G:Gh}: ∀ (x:AV) (v:Value),an G x v->x.refs<=G.n
 |.bool _,_,_|.int _ _,_,_|.str _,_,_|.dy,_,_|.dL _,_,_|.aq,_,_|.mr,_,_|.lR _,_,_|.du,_,_|.eV,_,_|.qB,_,_=>by simp[AV.refs]
 |.agg cs,_,r=>by simp only[an]at r;obtain⟨vs,_,l,_⟩:=r;simp only[AV.refs];exact aG.refs cs _ l
 |.ax cs,_,r=>by simp only[an]at r;obtain⟨vs,_,l⟩:=r;simp only[AV.refs];exact aG.refs cs _ l
 |.ptr id off,_,r=>by simp only[an]at r;have:=r.1.1;simp only[AV.refs];omega
 |.dn id aj i off,_,r=>by simp only[an]at r;have:=r.1.1;simp only[AV.refs];omega
 |.ref id aj sz off len cK,_,r=>by simp only[an]at r;have:=r.1.1;simp only[AV.refs];omega
 |.fw id sz off len,_,r=>by simp only[an]at r;have:=r.1.1;simp only[AV.refs];omega
 |.mp id,_,r=>by simp only[an]at r;have:=r.1.1;simp only[AV.refs];omega
 |.fi cs off,_,r=>by simp only[an]at r;obtain⟨b,o,vs,_,_,_,l⟩:=r;simp only[AV.refs];exact aG.refs cs _ l
 |.sl af cK,_,r=>by simp only[an]at r;obtain⟨b,o,cap,sz,vs,_,_,_,_,_,_,l⟩:=r;simp only[AV.refs];exact bw.refs af _ l
 |.fn f a b,_,r=>by
  simp only[an]at r;obtain⟨j,a',k,_,c,e,d⟩:=r;have h:=aG.refs a _ e;have g:=aG.refs b _ d;simp only[AV.refs];cases f<;>simp only[m9]at c<;>simp only<;>first|omega| (have:=c.1.1;omega)
 |.di t x,_,r=>by simp only[an]at r;obtain⟨y,_,l⟩:=r;simp only[AV.refs];exact an.refs x _ l
theorem aG.refs{G:Gh}: ∀ (xs:List AV) (vs:List Value),aG G xs vs->aI xs<=G.n
 | [],_,_=>by simp[aI]
 |a::as,_,r=>by
  simp only[aG]at r;obtain⟨v,q,_,c,b⟩:=r;have:=an.refs a _ c;have:=aG.refs as _ b;simp only[aI];omega
theorem bw.refs{G:Gh}: ∀ (xs:List (List AV)) (vs:List Value),bw G xs vs->cb xs<=G.n
 | [],_,_=>by simp[cb]
 |a::as,_,r=>by
  simp only[bw]at r;obtain⟨v,q,_,c,b⟩:=r;have:=aG.refs a _ c;have:=bw.refs as _ b;simp only[cb];omega
end
structure Gh.ee(m:Nat)(G G':Gh):Prop where
 bD: ∀b o v,G.bD b o=some v->G'.bD b o=some v
 n:m<=G'.n
 pz: ∀i,i<m->G'.pz i=G.pz i
 aj: ∀i,i<m->G'.aj i=G.aj i
 bg: ∀i,i<m->G'.bg i=G.bg i
 base: ∀i,i<m->G'.base i=G.base i
 ew: ∀i,i<m->G'.ew i=G.ew i
 sz: ∀i,i<m->G'.sz i=G.sz i
mutual
theorem an.ee{m:Nat}{G n:Gh}(h:G.ee m n): ∀ (x:AV) (v:Value),an G x v->x.refs<=m->an n x v
 |.bool _,_,r,_|.int _ _,_,r,_|.str _,_,r,_|.dy,_,r,_|.dL _,_,r,_|.aq,_,r,_|.mr,_,r,_|.du,_,r,_|.eV,_,r,_=>by simpa[an]using r
 |.qB,_,r,_=>by simp[an]at r
 |.lR g,_,r,_=>by
  simp only[an]at*;exact⟨r.1,h.bD _ _ _ r.2⟩
 |.agg cs,_,r,hm=>by
  simp only[an,AV.refs]at*;obtain⟨vs,e,l,c⟩:=r;exact⟨vs,e,aG.ee h cs _ l hm,c⟩
 |.ax cs,_,r,hm=>by
  simp only[an,AV.refs]at*;obtain⟨vs,e,l⟩:=r;exact⟨vs,e,aG.ee h cs _ l hm⟩
 |.ptr id off,_,r,hm=>by
  simp only[an,AV.refs]at*;rw[h.aj id (by omega),h.bg id (by omega)];exact⟨⟨aie (by omega) h.n,by rw[h.pz id (by omega)];exact r.1.2⟩,r.2⟩
 |.dn id aj i off,_,r,hm=>by
  simp only[an,AV.refs]at*;rw[h.aj id (by omega),h.bg id (by omega),h.base id (by omega),h.sz id (by omega)];exact⟨⟨aie (by omega) h.n,by rw[h.pz id (by omega)];exact r.1.2⟩,r.2⟩
 |.fi cs off,_,r,hm=>by
  simp only[an,AV.refs]at*;obtain⟨b,o,vs,e,f,c,l⟩:=r;exact⟨b,o,vs,e,λj v d=>h.bD _ _ _ (f j v d),c,aG.ee h cs _ l hm⟩
 |.sl af cK,_,r,hm=>by
  simp only[an,AV.refs]at*;obtain⟨b,o,cap,sz,vs,e,z,w,u,f,c,l⟩:=r;exact⟨b,o,cap,sz,vs,e,z,w,u,λj v d=>h.bD _ _ _ (f j v d),c,bw.ee h af _ l hm⟩
 |.ref id aj sz off len cK,_,r,hm=>by
  simp only[an,AV.refs]at*;rw[h.aj id (by omega),h.bg id (by omega),h.base id (by omega),h.sz id (by omega),h.ew id (by omega)];exact⟨⟨aie (by omega) h.n,by rw[h.pz id (by omega)];exact r.1.2⟩,r.2⟩
 |.fw id sz off len,_,r,hm=>by
  simp only[an,AV.refs]at*;rw[h.aj id (by omega),h.bg id (by omega)];exact⟨⟨aie (by omega) h.n,by rw[h.pz id (by omega)];exact r.1.2⟩,r.2⟩
 |.mp id,_,r,hm=>by
  simp only[an,AV.refs]at*;rw[h.aj id (by omega),h.bg id (by omega)];exact⟨⟨aie (by omega) h.n,by rw[h.pz id (by omega)];exact r.1.2⟩,r.2⟩
 |.fn f a b,_,r,hm=>by
  simp only[an,AV.refs]at*;obtain⟨s,a',A,e,k,q,p⟩:=r;refine⟨s,a',A,e,?_,aG.ee h a _ q (by omega),aG.ee h b _ p (by omega)⟩;cases f<;>simp only[m9]at* <;>try exact k
  rename_i l;rw[h.aj l (by omega),h.bg l (by omega)];exact⟨⟨aie (by omega) h.n,by rw[h.pz l (by omega)];exact k.1.2⟩,k.2⟩
 |.di t x,_,r,hm=>by
  simp only[an,AV.refs]at*;obtain⟨y,e,l⟩:=r;exact⟨y,e,an.ee h x _ l hm⟩
theorem aG.ee{m:Nat}{G b:Gh}(h:G.ee m b): ∀ (xs:List AV) (vs:List Value),aG G xs vs->aI xs<=m->aG b xs vs
 | [],_,r,_=>by simpa[aG]using r
 |a::as,_,r,hm=>by
  simp only[aG,aI]at*;obtain⟨v,q,e,d,c⟩:=r;exact⟨v,q,e,an.ee h a _ d (by omega),aG.ee h as _ c (by omega)⟩
theorem bw.ee{m:Nat}{G b:Gh}(h:G.ee m b): ∀ (xs:List (List AV)) (vs:List Value),bw G xs vs->cb xs<=m->bw b xs vs
 | [],_,r,_=>by simpa[bw]using r
 |a::as,_,r,hm=>by
  simp only[bw,cb]at*;obtain⟨v,q,e,d,c⟩:=r;exact⟨v,q,e,aG.ee h a _ d (by omega),bw.ee h as _ c (by omega)⟩
end
def ae.le(n:Nat):ae->Prop
 |.box cs _=>aI cs<=n
 |.row _ _ _ af=>cb af<=n
 |.map es=> ∀p∈es,p.2.refs<=n
 |.loop _ _ _ env _ _ _=> ∀t,(env t).refs<=n
 |_=>True
theorem ae.le.mono{n a:Nat}(h:n<=a): ∀ {o:ae},o.le n->o.le a
 |.box _ _,r=>agD r h
 |.row _ _ _ _,r=>agD r h
 |.map _,r=>λp b=>agD (r p b) h
 |.loop _ _ _ _ _ _ _,r=>λt=>agD (r t) h
 |.fx,_|.dead,_=>trivial
def x6:Option PC->Option Code->Prop
 |none,c=>c=none
 |some .ret,c=>c=some .ret
 |some (.exit id),c=>c=some (.exit id)
 |_,_=>False
structure cN(G:Gh)(nt:Nat)(e:Env)(tmps:Array Value):Prop where
 size:tmps.size=nt
 get: ∀t v,tmps[t]?=some v->an G (e t) v
 out: ∀t,nt<=t->e t= .undef
theorem cN.refs{G:Gh}{e:Env}{a:Array Value}(h:cN G nt e a)(t:Nat): (e t).refs<=G.n:=by
 by_cases b:t<nt
 ·have:t<a.size:=by rw[h.size];exact b
  exact an.refs _ _ (h.get t a[t] (by simp))
 ·rw[h.out t (by omega)];simp[AV.refs,aI]
theorem cN.dE{G b:Gh}(h:G.sub b){e:Env}{a:Array Value}(r:cN G nt e a):cN b nt e a:=
 ⟨r.size,λt v c=>(r.get t v c).dE h,r.out⟩
def cN.mono{G b:Gh}(h:G.le b){e:Env}{a:Array Value}(r:cN G nt e a):cN b nt e a:=r.dE h.toSub
theorem cN.ee{G b:Gh}(h:G.ee m b){e:Env}{a:Array Value}(r:cN G nt e a)(d: ∀t,(e t).refs<=m):cN b nt e a:=
 ⟨r.size,λt v c=>(r.get t v c).ee h _ _ (d t),r.out⟩
def fN(G:Gh):List (AV×AV)->List MapEntry->Prop
 | [],ms=>ms=[]
 | (k,v)::es,ms=> ∃m r,ms=m::r/\isKey k=true/\an G k m.key/\an G v m.val/\fN G es r
theorem fN.dE{G a:Gh}(h:G.sub a): ∀ {es:List (AV×AV)} {ms:List MapEntry},fN G es ms->fN a es ms
 | [],_,r=>by trivial
 | (k,v)::es,_,r=>by
   obtain⟨m,q,e,f,d,c,b⟩:=r;exact⟨m,q,e,f,d.dE h,c.dE h,b.dE h⟩
def anp{k:AV}(h:isKey k=true):k.refs=0:=by cases k<;>simp[isKey]at h<;>simp[AV.refs]
theorem fN.ee{m:Nat}{G b:Gh}(h:G.ee m b): ∀ {es:List (AV×AV)} {ms:List MapEntry},fN G es ms->(∀p∈es,p.2.refs<=m)->fN b es ms
 | [],_,r,_=>by trivial
 | (k,v)::es,_,r,hm=>by
   obtain⟨e,q,he,a,f,d,c⟩:=r;exact⟨e,q,he,a,f.ee h _ _ (by simp[anp a]),d.ee h _ _ (hm (k,v) (by simp)),c.ee h λp g=>hm p (by grind)⟩
def an.aBy{G:Gh}{id off:Nat}(r:an G (.ptr id off) v):G.pz id=none:=by exact r.1.2
def an.aBz{G:Gh}{id off:Nat}(r:an G (.dn id aj i off) v):G.pz id=none:=by exact r.1.2
def an.NF{G:Gh}{id off len:Nat}{c:Bool}(r:an G (.ref id aj sz off len c) v):G.pz id=none:=by exact r.1.2
def an.anq{G:Gh}{id off len:Nat}(r:an G (.fw id sz off len) v):G.pz id=none:=by exact r.1.2
def an.Hm{G:Gh}{id:Nat}(r:an G (.mp id) v):G.pz id=none:=by exact r.1.2
variable(P:Program)
def iQ(G:Gh)(id:Nat)(w:World):ae->Prop
 |.box cs tg=>G.aj id=0/\ ∃ (c:Array Value) (ty:TypeId),w.heap[G.bg id]?=some (.cells c ty (0,0))/\aG G cs c.toList/\Leaves c.toList/\ ∀t,tg=some t->ty=t
 |.row aj sz ty af=>G.aj id=aj/\G.sz id=sz/\ (∀el∈af,el.length=sz)/\ ∃ (c:Array Value) (pre vs post:List Value),w.heap[G.bg id]?=some (.cells c ty (0,0))/\
   c.toList=pre++(vs++post)/\pre.length=G.base id/\c.size=G.base id+G.ew id/\bw G af vs/\Leaves vs
 |.map es=>G.aj id=0/\ ∃ms clock,w.heap[G.bg id]?=some (.map ms clock)/\fN G es ms.toList
 |.loop st a fn env ps as bd=>G.aj id=0/\ ∃L:Loop,w.heap[G.bg id]?=some (.loop L)/\L.state=st/\x6 a L.pending/\True/\cN G L.tmps.size env L.tmps/\L.params.toList=ps/\
   ps.all (· <L.tmps.size)=true/\ ∃rows,fb P rows L.tmps.size L.assign=some as/\fb P rows L.tmps.size L.body=some bd
 |.fx=>G.aj id=0/\w.heap[G.bg id]?=some (.deferred (some []))
 |.dead=>True
structure ba(B:Nat)(ay:World)(G:Gh)(E:AS)(w:World):Prop where
 len:G.n=E.heap.length
 bD: ∀b o v,G.bD b o=some v->w.cell? ⟨b,o,none⟩=some v
 obj: ∀ (id:Nat) (o:ae),E.heap[id]?=some o->G.pz id=none->iQ P G id w o
 inj: ∀i j,G.on i->G.on j->G.bg i=G.bg j->i=j
 sep: ∀i,G.on i-> ∀o,G.bD (G.bg i) o=none
 low: ∀i,G.on i->B<=G.bg i/\G.bg i<w.heap.size
 lY:Below B ay w
 hB:B<=w.heap.size
 lZ: ∀id o,id<G.n->G.pz id=some o->E.heap[id]?=some o/\ ∃z tg,o= .box z tg/\aI z=0
 dO: ∀b o v,b<B->ay.cell? ⟨b,o,none⟩=some v->G.bD b o=some v
def ba.x7{B:Nat}{a:World}{G:Gh}{E:AS}(h:ba P B a G E w){o:Nat}(e:G.bD b o=some v):b<w.heap.size:=by
 have:=h.bD b o v e;simp only[World.cell?]at this
 grind
variable{P}
theorem fN.refs{G:Gh}: ∀ {es:List (AV×AV)} {ms:List MapEntry},fN G es ms-> ∀p∈es,p.2.refs<=G.n
 | [],_,_,_,a=>by grind
 | (k,v)::es,_,r,p,a=>by
   obtain⟨m,q,_,_,_,c,b⟩:=r;rcases agF.1 a with rfl|a
   ·exact an.refs _ _ c
   ·exact fN.refs b p a
theorem iQ.le{G:Gh}{id:Nat}{w:World}: ∀ {o:ae},iQ P G id w o->o.le G.n
 |.box _ _,r=>by obtain⟨_,c,ty,_,l,_⟩:=r;exact aG.refs _ _ l
 |.row _ _ _ _,r=>by obtain⟨_,_,_,c,pre,vs,post,_,_,_,_,l,_⟩:=r;exact bw.refs _ _ l
 |.map es,r=>by obtain⟨_,ms,clock,_,l⟩:=r;exact l.refs
 |.loop _ _ _ _ _ _ _,r=>by obtain⟨_,L,_,_,_,_,he,_⟩:=r;exactλt=>he.refs t
 |.fx,_|.dead,_=>trivial
def ba.anr{B:Nat}{a:World}{G:Gh}{E:AS}(h:ba P B a G E w){id:Nat}{o:ae}(e:E.heap[id]?=some o):o.le G.n:=by
 cases c:G.pz id with
 |none=>exact(h.obj id o e c).le
 |some o'=>
  obtain⟨b,z,tg,rfl,d⟩:=h.lZ id o' (by rw[h.len];grind) c;rw[e]at b;cases b;simp only[ae.le,d];omega
theorem iQ.dE{G d:Gh}(h:G.sub d){id:Nat}(j:G.on id)(g:d.aj id=G.aj id)(i:w'.heap[G.bg id]?=w.heap[G.bg id]?): ∀ {o:ae},iQ P G id w o->iQ P d id w' o:=by
 obtain⟨k,x,v,u⟩:=h.same id j g;intro o r;cases o with
 |box cs tg=>
  obtain⟨b,c,ty,e,l,a⟩:=r;exact⟨by omega,c,ty,by grind,l.dE h,a⟩
 |row aj sz ty af=>
  obtain⟨b,e1,hu,c,pre,vs,post,e,m,e3,y,l,a⟩:=r;exact⟨by omega,by omega,hu,c,pre,vs,post,by grind,m,by omega,by omega,l.dE h,a⟩
 |map es=>
  obtain⟨b,ms,clock,e,l⟩:=r;exact⟨by omega,ms,clock,by grind,l.dE h⟩
 |loop st f fn env ps as bd=>
  obtain⟨b,L,e,t,s,q,p,n⟩:=r;exact⟨by omega,L,by grind,t,s,q,p.dE h,n⟩
 |fx=>exact⟨by rw[g];exact r.1,by rw[k,i];exact r.2⟩
 |dead=>trivial
def iQ.mono{G a:Gh}(h:G.le a){id:Nat}(d:G.on id)(c:a.aj id=G.aj id)(b:w'.heap[G.bg id]?=w.heap[G.bg id]?){o:ae}(r:iQ P G id w o):iQ P a id w' o:=r.dE h.toSub d c b
theorem iQ.ee{G g:Gh}(h:G.ee m g){id:Nat}(a:id<m)(i:w'.heap[G.bg id]?=w.heap[G.bg id]?): ∀ {o:ae},iQ P G id w o->o.le m->iQ P g id w' o:=by
 have k:=h.bg id a;have y:=h.base id a;have x:=h.ew id a;have v:=h.sz id a;have j:=h.aj id a;intro o r hm;cases o with
 |box cs tg=>
  obtain⟨d,c,ty,e,l,b⟩:=r;exact⟨by omega,c,ty,by grind,aG.ee h _ _ l hm,b⟩
 |row aj sz ty af=>
  obtain⟨d,e1,hu,c,pre,vs,post,e,n,e3,z,l,b⟩:=r;exact⟨by omega,by omega,hu,c,pre,vs,post,by grind,n,by omega,by omega,bw.ee h _ _ l hm,b⟩
 |map es=>
  obtain⟨d,ms,clock,e,l⟩:=r;exact⟨by omega,ms,clock,by grind,l.ee h hm⟩
 |loop st f fn env ps as bd=>
  obtain⟨d,L,e,u,t,s,q,p⟩:=r;exact⟨by omega,L,by grind,u,t,s,q.ee h hm,p⟩
 |fx=>exact⟨by rw[j];exact r.1,by rw[k,i];exact r.2⟩
 |dead=>trivial
section
def AF(lo:oN)(j:Nat):Prop:= ∃l,lo=some l/\l<=j
structure AS.Ext(E E':AS):Prop where
 len:E.heap.length<=E'.heap.length
 lo: ∀j,AF E.lo j->AF E'.lo j
 obj: ∀ (j:Nat) (o:ae),E.heap[j]?=some o-> ∃o',E'.heap[j]?=some o'/\ ((∀n,o.le n->o'.le (max n (j+1)))\/AF E'.lo j)
def AS.Ext.refl(E:AS):E.Ext E:=⟨ae0 _,λ_ h=>h,λ_ o h=>⟨o,h,.inl λ_ k=>k.mono (by omega)⟩⟩
def AS.Ext.trans{a b c:AS}(h:a.Ext b)(k:b.Ext c):a.Ext c where
 len:=agD h.len k.len
 lo j x:=k.lo j (h.lo j x)
 obj j o e:=by
  obtain⟨i,m,d⟩:=h.obj j o e;obtain⟨g,l,f⟩:=k.obj j i m;refine⟨g,l,?_⟩;rcases f with f|f
  ·rcases d with d|d
   ·grind
   ·exact .inr (k.lo j d)
  grind
theorem AS.Ext.push(E:AS)(o:ae):E.Ext (E.push o)where
 len:=by simp[AS.push]
 lo _ h:=h
 obj j x e:=⟨x,by
  have:j<E.heap.length:=(adN.1 e).1;simp[AS.push,acK this,e],.inl λ_ k=>k.mono (by omega)⟩
def AG{lo:oN}{id:Nat}(h:AF lo j\/id<=j):AF (cM lo id) j:=by
 cases lo with
 |none=>
  rcases h with⟨l,e,_⟩|h
  ·cases e
  ·exact⟨id,rfl,h⟩
 |some a=>
  refine⟨Nat.min a id,by simp[cM,Nat.min_comm],?_⟩;rcases h with⟨l,e,b⟩|h
  ·grind
  grind
theorem AS.Ext.set{E:AS}{id:Nat}{o o':ae}{refs:Nat}(d:E.heap[id]?=some o)(h: ∀n,o.le n->refs<=n->o'.le n):E.Ext (E.set id o' refs)where
 len:=by simp[AS.set]
 lo j x:=by
  simp only[AS.set];split
  ·exact x
  ·exact AG (.inl x)
 obj j x e:=by
  by_cases b:j=id
  ·subst b;obtain rfl:o=x:=by grind
   have a:j<E.heap.length:=(adN.1 e).1;refine⟨o',by simp[AS.set,a],?_⟩;simp only[AS.set];split
   ·exact .inl λn c=>h _ (c.mono (by omega)) (by omega)
   ·simp_all[AG,ae0]
  ·exact⟨x,by simp[AS.set,acG (λh=>b h.symm),e],.inl λ_ k=>k.mono (by omega)⟩
def Below.ans{B:Nat}{ay:World}(h:Below B ay w)(ho:w'.os=w.os)(b:w'.tape=w.tape)(a:w'.output=w.output)(c:w.heap.size<=w'.heap.size)
 (d: ∀k,k<B->w'.heap[k]?=w.heap[k]?):Below B ay w':=h.trans ⟨ho,b,a,c,d⟩
variable{P:Program}{B:Nat}{ay:World}
def Gh.push(G:Gh)(b:Nat)(ew sz:Nat):Gh:=
 {G with n:=G.n+1,bg:=λi=>if i=G.n then b else G.bg i,base:=λi=>if i=G.n then 0 else G.base i,
         aj:=λi=>if i=G.n then 0 else G.aj i,ew:=λi=>if i=G.n then ew else G.ew i,sz:=λi=>if i=G.n then sz else G.sz i,pz:=λi=>if i=G.n then none else G.pz i}
def Gh.AH(G:Gh)(b ew sz:Nat):G.le (G.push b ew sz):=
 .mk' (λ_ _ _ h=>h) (by simp[Gh.push]) (λi a=>by simp[Gh.push,ax5 a]) (λi a=>by simp[Gh.push,ax5 a]) (λi a _=>by simp[Gh.push,ax5 a])
def Gh.Hn{G:Gh}{ew:Nat}(h: (G.push b ew sz).on i):i=G.n\/ (i≠G.n/\G.on i):=by
 obtain⟨c,a⟩:=h;simp only[Gh.push]at c a;by_cases e:i=G.n
 ·omega
 ·rw[aeu e]at a;exact .inr ⟨e,by omega,a⟩
def cell?_alloc_old{o:Obj}(h:b<w.heap.size): (w.alloc o).cell? ⟨b,k,none⟩=w.cell? ⟨b,k,none⟩:=World.cell?_alloc_lt w o ⟨b,k,none⟩ h
theorem ba.push{G:Gh}{E:AS}(h:ba P B ay G E w)(O:Obj)(o:ae)(ew sz:Nat)
  (ho:iQ P (G.push w.heap.size ew sz) G.n (w.alloc O) o):ba P B ay (G.push w.heap.size ew sz) (E.push o) (w.alloc O)where
 len:=by simp[Gh.push,AS.push,h.len]
 bD b k v e:=by
  have q:G.bD b k=some v:=e;rw[cell?_alloc_old (h.x7 P q)];exact h.bD b k v q
 obj id x e d:=by
  simp only[AS.push,List.getElem?_append]at e;split at e
  ·rename_i m;have c:id<G.n:=by rw[h.len];exact m
   simp only[Gh.push,aeu (ax5 c)]at d;exact iQ.mono (G.AH _ _ _) ⟨c,d⟩ (by simp[Gh.push,ax5 c]) (Below.heap_alloc _ _ _ (h.low id ⟨c,d⟩).2) (h.obj id x e d)
  ·rename_i u;have:id=E.heap.length:=by
    cases s:id-E.heap.length with
    |zero=>omega
    |succ k=>rw[s]at e;simp at e
   subst this;simp at e;subst e;rw[<-h.len];exact ho
 inj i j g t e:=by
  rcases Gh.Hn g with a| ⟨f,a⟩<;>rcases Gh.Hn t with l| ⟨p,l⟩
  ·rw[a,l]
  ·simp only[Gh.push,a,ahJ,aeu p]at e;have:=(h.low j l).2;omega
  ·simp only[Gh.push,l,ahJ,aeu f]at e;have:=(h.low i a).2;omega
  ·simp only[Gh.push,aeu f,aeu p]at e;exact h.inj i j a l e
 sep i g k:=by
  rcases Gh.Hn g with a| ⟨f,a⟩
  ·simp only[Gh.push,a,ahJ];cases y:G.bD w.heap.size k with
   |none=>rfl
   |some v=>have:=h.x7 P y;omega
  ·simp only[Gh.push,aeu f];exact h.sep i a k
 low i g:=by
  rcases Gh.Hn g with a| ⟨f,a⟩
  ·simp only[Gh.push,a,ahJ];exact⟨h.hB,by simp⟩
  ·simp only[Gh.push,aeu f];have:=h.low i a;exact⟨this.1,by simp;omega⟩
 lZ id x c d:=by
  simp only[Gh.push]at c d;by_cases a:id=G.n
  ·rw[aez a]at d;cases d
  ·rw[aeu a]at d;obtain⟨n,r⟩:=h.lZ id x (by omega) d;exact⟨by simp only[AS.push];rw[acK (adN.1 n).1];exact n,r⟩
 lY:=h.lY.alloc h.hB O
 hB:=by have:=h.hB;simp;omega
 dO:=h.dO
def Gh.Dk{G:Gh}{E:AS}(h:ba P B ay G E w){ew:Nat}: (G.push b ew sz).on E.heap.length:=⟨by simp[Gh.push,h.len],by simp[Gh.push,h.len]⟩
def Gh.freeze(G:Gh)(b:Nat)(vs:List Value):Gh:={G with bD:=λa o=>if a=b then vs[o]? else G.bD a o}
def ba.Wm{G:Gh}{E:AS}(h:ba P B ay G E w)(c:Array Value)(ty:TypeId)(g:Nat×Nat)(vs:List Value)(n: ∀ (j:Nat) (v:Value),vs[j]?=some v->c[j]?=some v):
  G.le (G.freeze w.heap.size vs)/\ba P B ay (G.freeze w.heap.size vs) E (w.alloc (.cells c ty g)):=by
 have hle:G.le (G.freeze w.heap.size vs):=by
  refine .mk' (λb o v e=>?_) (ae0 _) (λ_ _=>rfl) (λ_ _=>ae0 _) (λ_ _ _=>⟨rfl,rfl,rfl,rfl⟩);have:=h.x7 P e;simp only[Gh.freeze]
  grind
 refine⟨hle,h.len,λb o v e=>?_,λid x e f=>?_,h.inj,λi d k=>?_,λi d=>?_,h.lY.alloc h.hB _,?_,h.lZ,λb o v l e=>hle.bD _ _ _ (h.dO b o v l e)⟩
 ·simp only[Gh.freeze]at e;split at e
  ·have p: (w.alloc (.cells c ty g)).heap[w.heap.size]?=some (.cells c ty g):=ao7 w _;unfold World.cell?
   grind
  ·rw[cell?_alloc_old (h.x7 P e)];exact h.bD b o v e
 ·have a:id<G.n:=by rw[h.len];exact(adN.1 e).1
  exact iQ.mono hle ⟨a,f⟩ rfl (Below.heap_alloc _ _ _ (h.low id ⟨a,f⟩).2) (h.obj id x e f)
 ·have:=(h.low i d).2;simp only[Gh.freeze];rw[aeu (by omega)];exact h.sep i d k
 ·obtain⟨m,q⟩:=h.low i d
  exact⟨m,by have e: (G.freeze w.heap.size vs).bg i=G.bg i:=rfl
             rw[e];simp;omega⟩
 ·have:=h.hB;simp;omega
theorem ba.set{G p:Gh}{E:AS}(h:ba P B ay G E w){id:Nat}(d:G.on id)(o':ae)(refs:Nat)
  (c:G.le p) (q:p.n=G.n) (C:p.bD=G.bD)
  (l: ∀i,i<G.n->i≠id->p.aj i=G.aj i)
  (m:p.bg id=G.bg id\/w.heap.size<=p.bg id) (z:p.bg id<w'.heap.size)
  (D: ∀k,k≠G.bg id->k<w.heap.size->w'.heap[k]?=w.heap[k]?) (I:w.heap.size<=w'.heap.size)
  (n:w'.os=w.os) (y:w'.tape=w.tape) (J:w'.output=w.output)
  (ho:iQ P p id w' o'):ba P B ay p (E.set id o' refs) w' where
 len:=by simp[AS.set,q,h.len]
 bD b k v e:=by
  rw[C]at e;have g:b≠G.bg id:=λg=>by rw[g,h.sep id d k]at e;cases e
  have:=h.bD b k v e;simp only[World.cell?]at*
  grind
 obj j x e r:=by
  by_cases f:j=id
  ·subst f;have:E.heap.length=G.n:=h.len.symm;simp[AS.set,this,d.1]at e;subst e;exact ho
  ·simp only[AS.set,acG (λh=>f h.symm)]at e;have t:j<G.n:=by rw[h.len];exact(adN.1 e).1
   rw[c.pz j t]at r;have u:G.on j:=⟨t,r⟩;refine iQ.mono c u (l j t f) (D _ (λhe=>f (h.inj j id u d he)) (h.low j u).2) (h.obj j x e r)
 inj i j a f e:=by
  have a:G.on i:=⟨by rw[<-q];exact a.1,by rw[<-c.pz i (by rw[<-q];exact a.1)];exact a.2⟩;have f:G.on j:=⟨by rw[<-q];exact f.1,by rw[<-c.pz j (by rw[<-q];exact f.1)];exact f.2⟩;have key: ∀i,G.on i->i≠id->p.bg i=G.bg i:=λi a s=>(c.same i a (l i a.1 s)).1
  by_cases n:i=id<;>by_cases y:j=id
  ·omega
  ·rw[n,key j f y]at e;rcases m with g|g
   ·rw[g]at e;rw[n];exact h.inj id j d f e
   ·have:=(h.low j f).2;omega
  ·rw[y,key i a n]at e;rcases m with g|g
   ·rw[g]at e;rw[y];exact h.inj i id a d e
   ·have:=(h.low i a).2;omega
  ·rw[key i a n,key j f y]at e;exact h.inj i j a f e
 sep i a k:=by
  have a:G.on i:=⟨by rw[<-q];exact a.1,by rw[<-c.pz i (by rw[<-q];exact a.1)];exact a.2⟩;rw[C];by_cases n:i=id
  ·subst n;rcases m with g|g
   ·rw[g];exact h.sep i d k
   ·cases A:G.bD (p.bg i) k with
    |none=>rfl
    |some v=>have:=h.x7 P A;omega
  ·rw[(c.same i a (l i a.1 n)).1];exact h.sep i a k
 low i a:=by
  have a:G.on i:=⟨by rw[<-q];exact a.1,by rw[<-c.pz i (by rw[<-q];exact a.1)];exact a.2⟩;by_cases n:i=id
  ·subst n;rcases m with g|g
   ·exact⟨by rw[g];exact(h.low i d).1,z⟩
   ·have:=h.hB;exact⟨by omega,z⟩
  ·rw[(c.same i a (l i a.1 n)).1];have:=h.low i a;exact⟨this.1,by omega⟩
 lY:=Below.ans h.lY n y J I λk K=>D k (by have:=(h.low id d).1;omega) (by have:=h.hB;omega)
 hB:=by have:=h.hB;omega
 lZ j x f r:=by
  rw[q]at f;rw[c.pz j f]at r;obtain⟨H,F⟩:=h.lZ j x f r;have s:id≠j:=λe=>by rw[<-e,d.2]at r;cases r
  exact⟨by simp only[AS.set];rw[acG s];exact H,F⟩
 dO b o v g e:=by rw[C];exact h.dO b o v g e
def ba.drew{G:Gh}{E:AS}(h:ba P B ay G E w):ba P B ay G E w.drew:=
 ⟨h.len,h.bD,λid x e a=>iQ.mono G.le_refl ⟨by rw[h.len];grind,a⟩ rfl rfl (h.obj id x e a),h.inj,h.sep,h.low,h.lY.drew,h.hB,h.lZ,h.dO⟩
def ba.lo{G:Gh}{E:AS}(h:ba P B ay G E w)(lo:oN):ba P B ay G {E with lo:=lo} w:=
 ⟨h.len,h.bD,h.obj,h.inj,h.sep,h.low,h.lY,h.hB,h.lZ,h.dO⟩
end
section
variable{P:Program}
def eW(w:World)(b:Nat)(O:Obj):World:={w with heap:=w.heap.setIfInBounds b O}
def ant(w:World)(b:Nat)(O a:Obj):eW (eW w b O) b a=eW w b a:=by simp[eW]
def uG(h:b<w.heap.size): (eW w b O).heap[b]?=some O:=by simp[eW,h]
def Wn(h:k≠b): (eW w b O).heap[k]?=w.heap[k]?:=by
 simp only[eW]
 grind
def anu(h:w.heap[b]?=some O):eW w b O=w:=by
 have:w.heap.setIfInBounds b O=w.heap:=by grind
 unfold eW;rw[this]
@[simp]theorem anv (w:World) (b:Nat) (O:Obj): (eW w b O).heap.size=w.heap.size:=by simp[eW]
def anw{o:Nat}{ty:TypeId}{a:Nat×Nat}(h:w.heap[b]?=some (.cells c ty a))(v:Value):
  w.setCell ⟨b,o,none⟩ v=eW w b (.cells (c.setIfInBounds o v) ty a):=by
 simp only[World.setCell,eW]
 congr 1
 grind
def kX(c:Array Value)(o:Nat):List Value->Array Value
 | []=>c
 |v::vs=>kX (c.setIfInBounds o v) (o+1) vs
@[simp]theorem aBA (c:Array Value) (o:Nat) (vs:List Value): (kX c o vs).size=c.size:=by
  induction vs generalizing c o with
  |nil=>rfl
  |cons v vs ih=>simp[kX,ih]
def Ho(c:Array Value)(o:Nat)(vs:List Value)(h:o+vs.length<=c.size):
  (kX c o vs).toList=c.toList.take o++(vs++c.toList.drop (o+vs.length)):=by
 induction vs generalizing c o with
 |nil=>simp[kX]
 |cons v vs a=>
  rw[kX,a _ _ (by grind)];have ho:o<c.toList.length:=by grind
  simp only[Array.toList_setIfInBounds,agt];rw[List.take_set,List.drop_set];simp only[show(o<o+1+vs.length) by omega,ahJ,agu,adQ ho];have hm:min o c.size=o:=aqC (by omega);simp[show o+1+vs.length=o+(vs.length+1) by omega,hm]
theorem jz(b o i:Nat): (⟨b,o,none⟩:Addr).add i=⟨b,o+i,none⟩:=by
 unfold Addr.add
 grind
def anx(h:leaf v=true):v.oneCell'=true:=by trivial
def NG{ty:TypeId}(vs:List Value): ∀ (c:Array Value) (w:World) (o i:Nat),w.heap[b]?=some (.cells c ty (0,0))->o+i+vs.length<=c.size->Leaves vs->
  (storeCells ⟨b,o,none⟩ vs i).run P w= .ok () (eW w b (.cells (kX c (o+i) vs) ty (0,0))):=by
 induction vs with
 |nil=>intro c w o i h _ _;simp[storeCells,kX,anu h]
 |cons v vs e=>
  intro c w o i h g d;simp only[agt]at g;have j:w.cell? (Addr.add ⟨b,o,none⟩ i)=some (c[o+i]'(by omega)):=by
   rw[jz,cell_of_row w b (o+i) c ty (0,0) h];grind
  have f:w.frozen? (Addr.add ⟨b,o,none⟩ i)=false:=by grind [jz,frozen_of_row]
  simp only[storeCells,Sem.run_bind];rw[run_store P w _ v .plain (anx (d v (by simp)))];simp only[j,f];rw[jz,anw h];have a:b<w.heap.size:=(amK.1 h).1;simp only[agm,ajc,Result.andThen_ok];rw[e (c.setIfInBounds (o+i) v) _ o (i+1) (uG a) (by grind) (λu hu=>d u (by grind)),ant];rfl
def run_loadCellsFrom{o:Nat}(n:Nat): ∀ (i:Nat) (acc:Array Value) (vs:List Value),vs.length=n->(∀j v,vs[j]?=some v->w.cell? ⟨b,o+i+j,none⟩=some v)->
  (loadCellsFrom ⟨b,o,none⟩ i n acc).run P w= .ok (acc++vs.toArray) w:=by
 induction n with
 |zero=>intro i acc vs c _;have:vs=[]:=ajM.1 c;subst this;simp[loadCellsFrom]
 |succ n e=>
  intro i acc vs c a;cases vs with
  |nil=>grind
  |cons v vs=>
   have d:=a 0 v (by simp);simp only[loadCellsFrom,Sem.run_bind];rw[jz,run_load];simp only[agr]at d;simp only[d];simp only[Result.andThen_ok];rw[e (i+1) (acc.push v) vs (by grind) (λj u f=>by
    have:=a (j+1) u (by grind)
    grind)]
   simp_all
def run_loadCells{o:Nat}(vs:List Value)(a:vs.length=n)(c: ∀j v,vs[j]?=some v->w.cell? ⟨b,o+j,none⟩=some v):
  (loadCells ⟨b,o,none⟩ n).run P w= .ok vs.toArray w:=by
 unfold loadCells;rw[run_loadCellsFrom n 0 #[] vs a (by omega)];simp
end
section
section
variable{P:Program}
def nV(h:cz P t=some n)(w:World): (sizeOf t).run P w= .ok n w:=by
 unfold cz at h;cases b:P.info? t with
 |none=>grind
 |some i=>
  simp[b]at h;simp only[sizeOf,Sem.run_bind,run_typeInfo _ b,Result.andThen_ok,Sem.run_pure];rw[h]
def r7{b:Bool}(h:m8 P t=some b)(w:World): (isAgg t).run P w= .ok b w:=by
 unfold m8 at h;cases hu:P.underlying t with
 |none=>grind
 |some d=>
  simp only[hu,agl,adP]at h;subst h;simp only[isAgg,Sem.run_bind,aeA hu,Result.andThen_ok];cases d<;>simp[Sem.run_pure]
end
def G0(B:Nat)(ay:World):Gh:={bD:=λb o=>if b<B then ay.cell? ⟨b,o,none⟩else none,n:=0,bg:=id,base:=id,aj:=id,ew:=id,sz:=id}
def fC(X:Ctx)(B:Nat)(ay:World):Prop:=
 (∀g cs,X.dL g=some cs->g<B/\ ∃vs,(∀ (j:Nat) v,vs[j]?=some v->ay.cell? ⟨g,j,none⟩=some v)/\Leaves vs/\
   aG (G0 B ay) cs vs)/\
 (∀g es,X.fV g=some es->g<B/\ ∃b r ms clock,r<B/\ay.cell? ⟨g,0,none⟩=some (.map (some r))/\ay.heap[r]?=some (.map ms clock)/\fN (G0 B ay) b ms.toList/\ ∀k v,eu k es=some v->eu k b=some v)
variable{P:Program}{X:Ctx}{B:Nat}{ay:World}
def Wo{G:Gh}{E:AS}(h:ba P B ay G E w): (G0 B ay).ee 0 G:=by
 refine⟨λb o v c=>?_,ae4 _,?_,?_,?_,?_,?_,?_⟩
 ·simp only[G0]at c;split at c
  ·exact h.dO b o v ‹_› c
  grind
 all_goals simp
def fC.rel(d:fC X B ay){G:Gh}{E:AS}(h:ba P B ay G E w){g:Nat}{cs:List AV}(e:X.dL g=some cs):
  ∃vs,qK G g 0 vs/\Leaves vs/\aG G cs vs:=by
 obtain⟨f,vs,k,i,b⟩:=d.1 g cs e;refine⟨vs,λj v c=>?_,i,aG.ee (Wo h) _ _ b (by have:=aG.refs _ _ b;simpa[G0]using this)⟩;rw[alV];exact h.dO g j v f (k j v c)
def fC.anz(i:fC X B ay){G:Gh}{E:AS}(h:ba P B ay G E w){g:Nat}{es:List (AV×AV)}(e:X.fV g=some es)(d:an G (.lR g) v):
  ∃b r ms clock,v= .map (some r)/\w.heap[r]?=some (.map ms clock)/\fN G b ms.toList/\ ∀k v,eu k es=some v->eu k b=some v:=by
 obtain⟨j,b,r,ms,clock,o,n,m,c,l⟩:=i.2 g es e;have:=h.dO g 0 _ j n;rw[d.2]at this;cases this;exact⟨b,r,ms,clock,rfl,by rw[h.lY.block r o];exact m,fN.ee (Wo h) c (λp f=>by have:=fN.refs c p f;simpa[G0]using this),l⟩
def Good(P:Program)(B:Nat)(ay:World)(G:Gh)(E:AS)(v:AV)(E':AS)(r:Result Next):Prop:=
 ∃b w' v',(r= .ok (.value v') w'\/ (r= .ok .skip w'/\v'=undef))/\G.le b/\ba P B ay b E' w'/\an b v v'/\E.Ext E'
def Good.same{G:Gh}{E:AS}(h:ba P B ay G E w){v:AV}(b:an G v v'):Good P B ay G E v E (.ok (.value v') w):=
 ⟨G,w,v',.inl rfl,G.le_refl,h,b,.refl E⟩
def NH{G:Gh}: ∀ (v:Value),(AV.ke v).plain=true->an G (AV.ke v) v:=by
 intro v h;cases v with
 |pointer a=>cases a<;>simp_all[AV.ke,an,AV.plain]
 |slice a n c=>
  cases a with
  |none=>
   simp only[AV.ke]at*;split at h
   ·rename_i e;simp[e,an]
   ·trivial
  |some a=>trivial
 |map r=>cases r<;>simp_all[AV.ke,an,AV.plain]
 |tuple vs=>
  simp only[AV.ke]at*;split at h
  ·rename_i e;have:vs= #[]:=Array.eq_empty_of_size_eq_zero e;subst this;simp[an,aG]
  ·trivial
 |_=>trivial
theorem Wp{G:Gh}: ∀ (vs:List Value),(∀v∈vs,(AV.ke v).plain=true)->aG G (vs.map AV.ke) vs
 | [],_=>by rfl
 |v::vs,h=>⟨v,vs.map id,by simp,NH v (h v (by simp)),by simpa using Wp vs λu hu=>h u (by grind)⟩
def anA(h: (AV.ke v).plain=true)(k: (AV.ke v).cq=false):leaf v=true:=by
 cases v with
 |agg cs=>trivial
 |tuple vs=>simp only[AV.ke]at k;split at k<;>simp[AV.cq]at k
 |_=>rfl
def Wq{G:Gh}(v:Value)(h:Hk v=true):an G (AV.ofValue v) v:=by
 cases v with
 |agg cs=>
  simp only[Hk,agx,ahV,aAJ]at h;exact⟨cs,rfl,Wp _ λv b=>(h v b).1,λv b=>anA (h v b).1 (h v b).2⟩
 |iface t v=>exact⟨v,rfl,NH v h⟩
 |_=>simp only[AV.ofValue];apply NH;exact h
def NI{G:Gh}{e:Env}{b:Array Value}(h:cN G nt e b)(t:Nat):an G (e t) (b.getD t undef):=by
 by_cases c:t<b.size
 ·have:=h.get t b[t] (by simp);simp_all
 ·rw[h.out t (by have:=h.size;omega)];simp[Array.getD,c,an,aG,undef]
def cG{G:Gh}{e:Env}(h:cN G nt e a.tmps){x:Operand}{y:ao}(b:bM x=some y):an G (y.get e) (a.eval x):=by
 cases x with
 |tmp t=>simp only[bM,adP]at b;subst b;exact NI h t
 |const v=>
  simp only[bM]at b;split at b
  ·rename_i c;cases b;exact Wq v c
  grind
 |global g=>simp only[bM,adP]at b;subst b;simp[ao.get,an,Act.eval]
 |func f=>simp only[bM,adP]at b;subst b;exact⟨.func f,#[],#[],rfl,rfl,by rfl,by rfl⟩
theorem x8{G:Gh}{nt:Nat}{e:Env}{a:Act}(h:cN G nt e a.tmps): ∀ {xs:List Operand} {ys:List ao},nT xs=some ys->aG G (ys.map (·.get e)) (xs.map a.eval)
 | [],_,b=>by simp only[nT,adP]at b;subst b;simp[aG]
 |x::xs,ys,b=>by
  simp only[nT]at b;split at b
  ·rename_i y c f d;cases b;exact⟨_,_,rfl,cG h f,x8 h d⟩
  grind
section ops
variable{G:Gh}{E:AS}{w:World}(hw:ba P B ay G E w){nt:Nat}{e:Env}{a:Act}(he:cN G nt e a.tmps)
include hw
omit hw in
theorem Wr{b:Bool}{off:Nat}{cs:List AV}{v:AV}(c:aG G cs vs)(d:Leaves vs)(h:part b n cs off=some v):
  (b=true/\off+n<=vs.length/\an G v (.agg ((vs.drop off).take n).toArray))\/ (b=false/\ ∃u,vs[off]?=some u/\an G v u):=by
 unfold part at h;cases b with
 |true=>
  simp only[ahJ]at h;split at h
  ·rename_i hle;cases h;refine .inl ⟨rfl,by rw[c.length];exact hle,⟨_,rfl,by simpa using(c.drop off).take n,by simpa using(d.drop off).take n⟩⟩
  ·cases h
 |false=>
  simp only[agm,ajc]at h;obtain⟨u,hu,f⟩:=c.get off v h;exact .inr ⟨rfl,u,hu,f⟩
omit hw in
theorem Hp{h:Bool}{o:Nat}{v:AV}{cs:List AV}{off:Nat}(g:m8 P t=some h)(m:cz P t=some n)
  (l:aG G cs vs) (i:Leaves vs) (k:part h n cs off=some v) (f: ∀j u,vs[j]?=some u->w.cell? ⟨b,o+j,none⟩=some u):
  ∃v',(loadVar t ⟨b,o+off,none⟩).run P w= .ok v' w/\an G v v':=by
 rcases Wr l i k with⟨rfl,hle,d⟩| ⟨rfl,u,hu,d⟩
 ·refine⟨_,?_,d⟩;simp only[loadVar,Sem.run_bind,r7 g,Result.andThen_ok,ahJ,nV m];rw[run_loadCells ((vs.drop off).take n) (by simp;omega) (λj u c=>by
   rw[amH]at c;split at c
   ·rw[al0]at c;rw[ajK];exact f _ _ c
   ·cases c)]
  simp
 ·refine⟨u,?_,d⟩;simp only[loadVar,Sem.run_bind,r7 g,Result.andThen_ok,agm,ajc,run_load];rw[f off u hu]
theorem AI{id:Nat}{cs:List AV}{tg:Option TypeId}(h:E.heap[id]?=some (.box cs tg))(b:G.pz id=none):G.aj id=0/\G.on id/\ ∃c ty,w.heap[G.bg id]?=some (.cells c ty (0,0))/\aG G cs c.toList/\Leaves c.toList/\ ∀t,tg=some t->ty=t:=by
 obtain⟨i,c,ty,g,f,d⟩:=hw.obj id _ h b;exact⟨i,⟨by rw[hw.len];grind,b⟩,c,ty,g,f,d⟩
omit hw in
theorem Dl{ty:TypeId}(h:w.heap[b]?=some (.cells c ty (0,0)))(j:Nat)(u:Value)(d:c.toList[j]?=some u):w.cell? ⟨b,j,none⟩=some u:=by
 rw[cell_of_row w b j c ty (0,0) h];simpa using d
theorem Ws(hg:fC X B ay){W:Bool}(H:m8 P t=some W)(F:cz P t=some n){x v:AV}{C:Value}(d:an G x C)(h:cm X E W n x=some v):
  ∃v',(Instr.loadAt t C).run P w= .ok v' w/\an G v v':=by
 have key: ∀ (A:Addr),C= .pointer (some A)->(∃v',(loadVar t A).run P w= .ok v' w/\an G v v')-> ∃v',(Instr.loadAt t C).run P w= .ok v' w/\an G v v':=by
  rintro A rfl ⟨v',K,hr⟩;refine⟨v',?_,hr⟩;exact K
 unfold cm at h;split at h
 ·rename_i id off;simp only[an]at d;obtain⟨r,A,rfl,z⟩:=d;split at h
  ·rename_i cs N;obtain⟨S,_,c,ty,R,f,m,_⟩:=AI hw N r.2;refine key A rfl ?_;rw[z S];have:=Hp (b:=G.bg id) (o:=0) H F f m h (λj u hu=>by rw[alV];exact Dl R j u hu);rwa[alV]at this
  ·cases h
 ·rename_i id aj i off;simp only[an]at d;obtain⟨r,_,A,rfl,z⟩:=d;split at h
  ·rename_i T sz ty af N;split at h
   ·rename_i K;obtain⟨S,q,hu,c,pre,vs,post,R,hc,hp,hs,f,m⟩:=hw.obj id _ N r.2;subst K;cases k:af[i]? with
    |none=>simp[k]at h
    |some el=>
     simp only[k,ao2]at h;split at h
     ·rename_i D;refine key A rfl ?_;rw[z S];have M:i<af.length:=(adN.1 k).1;have O:af.flatten=(af.take i).flatten++(el++(af.drop (i+1)).flatten):=by
       conv=>lhs;rw[<-amI i af]
       rw[ana,aom M];have:af[i]=el:=by simpa[adQ M]using k
       simp[this]
      have L: (af.take i).flatten.length=i*sz:=by
       have: ∀ (l:List (List AV)),(∀x∈l,x.length=sz)->l.flatten.length=l.length*sz:=by
        intro l f
        induction l with
        |nil=>simp
        |cons x xs ih=>simp[ih λy J=>f y (by simp[J]),f x (by simp)];rw[aqt];omega
       rw[this _ λx d=>hu x (ahZ d),agw,aqC (Nat.le_of_lt M)]
      have V:=bw.iff.1 f;rw[O]at V;obtain⟨v1,v2,rfl,k1,Z⟩:=V.split;obtain⟨U,v4,rfl,Y,k4⟩:=Z.split;have p:v1.length=i*sz:=by rw[k1.length,L]
      have I:Leaves U:=λy J=>m y (by simp[J])
      have:=Hp (b:=G.bg id) (o:=G.base id+i*G.sz id) H F Y I h (λj u hu=>by
       refine Dl R _ u ?_;rw[hc];have hj:j<U.length:=(adN.1 hu).1;rw[ags (by omega),aev,ags (by rw[p,q];omega),aev,acK (by rw[p,q];omega)];rw[<-hu];congr 1;rw[p,q];omega)
      exact this
     ·cases h
   ·cases h
  ·cases h
 ·rename_i cs off;simp only[an]at d;obtain⟨b,o,vs,rfl,Q,m,f⟩:=d;exact key _ rfl (Hp H F f m h λj u hu=>hw.bD _ _ _ (Q j u hu))
 ·rename_i g;simp only[an]at d;subst d;cases s:X.dL g with
  |none=>simp[s]at h
  |some cs=>
   simp only[s,ao2]at h;obtain⟨vs,Q,m,f⟩:=hg.rel hw s;have:=Hp (b:=g) (o:=0) H F f m h λj u hu=>hw.bD _ _ _ (Q j u hu)
   exact key _ rfl (by simpa using this)
 grind
end ops
end
section
variable{P:Program}{X:Ctx}{B:Nat}{ay:World}
variable{G:Gh}{E:AS}{w:World}
def anB(t:ba P B ay G E w)(y:fC X B ay){s:TypeId}{a:Array Field}{f:Nat}{g:Field}(D:P.underlying s=some (.struct a))(C:a[f]?=some g)
  (A:cz P g.type=some n) (F:0<n) {x v:AV} {j:Value} (i:an G x j) (h:qF X g.offset x=some v):
  ∃v',(Instr.fieldAt s j f).run P w= .ok v' w/\an G v v':=by
 have key: ∀d,j= .pointer (some d)->(Instr.fieldAt s j f).run P w= .ok (.pointer (some (d.add g.offset))) w:=by
  rintro d rfl;simp only[Instr.fieldAt,Sem.run_bind,aeA D,Result.andThen_ok,C,Instr.sureAddr,Sem.run_pure,fieldPlace,nV A,Sem.run_ite];rw[aeu (by omega)];simp
 unfold qF at h;split at h
 ·obtain⟨p,d,e,c⟩:=i;cases h;refine⟨_,key d e,p,_,rfl,λk=>?_⟩;rw[c k,jz]
 ·obtain⟨p,m,d,e,c⟩:=i;cases h;refine⟨_,key d e,p,m,_,rfl,λk=>?_⟩;rw[c k,jz];grind
 ·obtain⟨b,o,vs,e,r⟩:=i;cases h;refine⟨_,key _ e,b,o,vs,?_,r⟩;rw[jz,ajK]
 ·simp only[an]at i;split at h
  ·rename_i cs l;cases h;obtain⟨vs,z,q,u⟩:=y.rel t l;refine⟨_,key _ i,_,0,vs,?_,z,q,u⟩;rw[jz]
  ·cases h
 grind
def Hq{x:AV}{a:Value}{i:Int}(b:an G x a)(h:rU x=some i): ∃k,x= .int k i/\a= .int k i:=by
 cases x<;>simp[rU]at h;simp only[an]at b
 grind
def anC(y:ba P B ay G E w)(C:fC X B ay){a:TypeId}(I:P.underlying t=some (.array n a))(H:cz P a=some sz)
  {x s v:AV} {j g:Value} (d:an G x j) (A:an G s g) (h:uC X n sz x s=some v):
  ∃v',(Instr.indexAt t j g).run P w= .ok v' w/\an G v v':=by
 unfold uC at h;split at h
 ·rename_i i hint;obtain⟨k,_,rfl⟩:=Hq A hint;split at h
  ·rename_i F;have key: ∀f,j= .pointer (some f)->(Instr.indexAt t j (.int k i)).run P w= .ok (.pointer (some (f.add (i.toNat*sz)))) w:=by
    rintro f rfl;simp only[Instr.indexAt,Sem.run_bind,asIntOf,Sem.run_pure,Result.andThen_ok,aeA I,Instr.sureAddr];by_cases J:n<=1<;>simp[F,nV H]
   split at h
   ·obtain⟨q,f,e,c⟩:=d;cases h;refine⟨_,key f e,q,_,rfl,λl=>?_⟩;rw[c l,jz]
   ·simp only[an]at d;obtain⟨q,p,f,e,c⟩:=d;cases h;refine⟨_,key f e,q,p,_,rfl,λl=>?_⟩;rw[c l,jz];congr 1;omega
   ·simp only[an]at d;obtain⟨b,o,vs,e,r⟩:=d;cases h;refine⟨_,key _ e,b,o,vs,?_,r⟩;rw[jz,ajK]
   ·simp only[an]at d;split at h
    ·rename_i cs m;cases h;obtain⟨vs,D,u,z⟩:=C.rel y m;refine⟨_,key _ d,_,0,vs,?_,D,u,z⟩;rw[jz]
    ·cases h
   grind
  grind
 grind
theorem anD{af:List (List AV)}(h: ∀el∈af,el.length=sz):af.flatten.length=af.length*sz:=by
 induction af with
 |nil=>simp
 |cons x xs a=>grind
def bw.at{af:List (List AV)}{el:List AV}(k:bw G af vs)(n: ∀x∈af,x.length=sz)(l:af[i]?=some el):
  aG G el ((vs.drop (i*sz)).take sz):=by
 have b:af.flatten=(af.take i).flatten++(el++(af.drop (i+1)).flatten):=by grind [List.take_append_drop,List.flatten_append,List.drop_eq_getElem_cons]
 have a: (af.take i).flatten.length=i*sz:=by grind [anD,List.mem_of_mem_take,List.length_take,Nat.min_eq_left,Nat.le_of_lt]
 have c:=bw.iff.1 k;rw[b]at c;obtain⟨v1,v2,rfl,g,f⟩:=c.split;obtain⟨d,v4,rfl,e,m⟩:=f.split;have j:v1.length=i*sz:=by rw[g.length,a]
 have h:d.length=sz:=by rw[e.length];grind
 grind
def anE{d:TypeId}(O:P.underlying t=some (.slice d))(N:cz P d=some sz)
  {x H v:AV} {s m:Value} (g:an G x s) (I:an G H m) (h:kg sz x H=some v):
  ∃v',(Instr.indexAt t s m).run P w= .ok v' w/\an G v v':=by
 unfold kg at h;split at h
 ·rename_i i hint;obtain⟨k,_,rfl⟩:=Hq I hint;have key: ∀ (r:Addr) (len cap:Nat),s= .slice (some r) len cap->0<=i/\i<len->(Instr.indexAt t s (.int k i)).run P w= .ok (.pointer (some (r.add (i.toNat*sz)))) w:=by
   rintro r len cap rfl l;simp only[Instr.indexAt,Sem.run_bind,asIntOf,Sem.run_pure,Result.andThen_ok,aeA O];by_cases Q:len<=1<;>simp[l,nV N]
  split at h
  ·rename_i af cK;split at h
   ·rename_i p;split at h
    ·rename_i el f;split at h
     ·rename_i c;cases h;simp only[an]at g;obtain⟨b,o,cap,a,vs,e,J,F,q,M,K,L⟩:=g;have I:i.toNat<af.length:=(adN.1 f).1;have z:a=sz:=by rw[<-c];exact(q el (alL f)).symm
      subst z;refine⟨_,key _ _ _ e ⟨p,by omega⟩,b,o+i.toNat*a,(vs.drop (i.toNat*a)).take a,?_,?_,(K.drop _).take _,L.at q f⟩
      ·rw[jz];rfl
      ·intro j u n;rw[amH]at n;split at n
       ·rw[al0]at n;rw[ajK];exact M _ _ n
       ·cases n
     ·cases h
    ·cases h
   grind
  ·rename_i id aj a off len cK;split at h
   ·rename_i l;obtain⟨C,A,rfl⟩:=l;cases h;simp only[an]at g;obtain⟨p,D,r,cap,e,J,F,q⟩:=g;refine⟨_,key _ _ _ e ⟨C,A⟩,p,D,_,rfl,λy=>?_⟩;rw[(q y).2.1 (by omega),jz,(q y).1,ao3];congr 1;omega
   ·cases h
  ·rename_i id a off len;split at h
   ·rename_i l;cases h;simp only[an]at g;obtain⟨p,r,cap,e,J,F⟩:=g;refine⟨_,key _ _ _ e ⟨l.1,l.2.1⟩,p,_,rfl,λy=>?_⟩;rw[F y (by omega),jz]
   ·cases h
  grind
 grind
end
section
variable{P:Program}{X:Ctx}{B:Nat}{ay:World}
variable{G:Gh}{E:AS}{w:World}
def Wt{e:Bool}{off:Nat}{cs:List AV}{v:AV}(d:m8 P t=some e)(i:cz P t=some n)
  (h:aG G cs c.toList) (f:Leaves c.toList) (g:Den.part e n cs off=some v) (w:World): ∃v',(Go.part t c off).run P w= .ok v' w/\an G v v':=by
 rcases Wr h f g with⟨rfl,hle,b⟩| ⟨rfl,u,hu,b⟩
 ·refine⟨_,?_,b⟩;simp only[Go.part,Sem.run_bind,r7 d,Result.andThen_ok,ahJ,nV i,Sem.run_pure]
  congr 2
  grind
 ·refine⟨u,?_,b⟩;have a:c[off]?=some u:=by grind
  simp only[Go.part,Sem.run_bind,r7 d,Result.andThen_ok,agm,ajc,a,Sem.run_pure]
def anF{s:TypeId}{a:Array Field}{f:Nat}{g:Field}{d:Bool}(q:P.underlying s=some (.struct a))(p:a[f]?=some g)
  (o:m8 P g.type=some d) (m:cz P g.type=some n) {cs:List AV} {v:AV} {b:Value} (i:an G (.agg cs) b) (h:Den.part d n cs g.offset=some v) (w:World):
  ∃v',(Instr.field s b f).run P w= .ok v' w/\an G v v':=by
 obtain⟨c,rfl,l,e⟩:=i;obtain⟨v',j,k⟩:=Wt o m l e h w;refine⟨v',?_,k⟩;simp only[Instr.field,Sem.run_bind,aeA q,Result.andThen_ok,p,asAgg,Sem.run_pure];exact j
def anG{a:TypeId}{g:Bool}(u:P.underlying t=some (.array n a))(s:m8 P a=some g)(f:cz P a=some sz)
  {x e v:AV} {d b:Value} (l:an G x d) (q:an G e b) (h:qG g n sz x e=some v) (w:World):
  ∃v',(Instr.index t d b).run P w= .ok v' w/\an G v v':=by
 unfold qG at h;split at h
 ·rename_i i cs hint;obtain⟨k,_,rfl⟩:=Hq q hint;split at h
  ·rename_i r;obtain⟨c,rfl,p,j⟩:=l;obtain⟨v',m,o⟩:=Wt s f p j h w;refine⟨v',?_,o⟩;simp only[Instr.index,Sem.run_bind,asIntOf,Sem.run_pure,Result.andThen_ok,aeA u];rw[aez r];simp only[Sem.run_bind,nV f,Result.andThen_ok];exact m
  grind
 grind
def anH(n:P.underlying t=some .string){x j v:AV}{g a:Value}(l:an G x g)(m:an G j a)(h:xX x j=some v)(w:World):
  ∃v',(Instr.index t g a).run P w= .ok v' w/\an G v v':=by
 unfold xX at h;split at h
 ·rename_i i s hint;obtain⟨k,_,rfl⟩:=Hq m hint;subst l;split at h
  ·rename_i o;split at h
   ·rename_i b p;cases h;refine⟨.int .u8 b.toNat,?_,by rfl⟩;have f:s[i.toNat]?=some b:=by
     have:s.data[i.toNat]?=some b:=by grind
     obtain⟨d,e⟩:=amK.1 this;have c:i.toNat<s.size:=d;rw[getElem?_pos s i.toNat c];exact ahX some e
    simp only[Instr.index,Sem.run_bind,asIntOf,Sem.run_pure,Result.andThen_ok,aeA n,aez o,f]
   grind
  grind
 grind
def anI{x:AV}{a:Value}{vs:List AV}{v:AV}(b:an G (.ax vs) a)(h:vs[i]?=some v)(w:World):
  ∃v',(Instr.extract a i).run P w= .ok v' w/\an G v v':=by
 obtain⟨c,rfl,e⟩:=b;obtain⟨v',f,d⟩:=e.get i v h;refine⟨v',?_,d⟩;have:c[i]?=some v':=by grind
 simp[Instr.extract,this]
def AJ{r:Nat}{o:Option AV}(h:lS n o d=some r):
  (o=none/\r=d)\/ ∃k i,o=some (.int k i)/\0<=i/\i<=n/\r=i.toNat:=by
 unfold lS at h
 grind
def uH{k:IntKind}{i:Int}{y:Nat}(h:0<=i/\i<=y)(a:BoundsCode)(w:World): (Instr.sliceBound (.int k i) y a).run P w= .ok i.toNat w:=by
 simp[Instr.sliceBound,asIntOf,h]
def l0(G:Gh):Option AV->Option Value->Prop
 |none,o=>o=none
 |some x,o=> ∃v,o=some v/\an G x v
def Hr{Dm:Bool}{len cap:Nat}(t:len<=cap){lo n:Option AV}{d:Option Value}(a:l0 G lo ak)(e:l0 G n d){h:Nat}(f:gv len lo n=some (l,h))(w:World):
  (Instr.sliceBounds Dm len cap ak d none).run P w= .ok (l,h,cap) w/\l<=h/\h<=len:=by
 unfold gv at f;split at f
 ·rename_i u p;split at f
  ·rename_i s m;cases f;rcases AJ p with⟨rfl,rfl⟩| ⟨k,i,rfl,g,o,rfl⟩
   ·subst e;rcases AJ m with⟨rfl,rfl⟩| ⟨k,i,rfl,g,o,rfl⟩
    ·subst a;exact⟨by rfl,by omega,by omega⟩
    ·obtain⟨v,rfl,c⟩:=a;subst c;exact⟨by simp[Instr.sliceBounds,uH ⟨g,o⟩],by omega,by omega⟩
   ·obtain⟨v,rfl,c⟩:=e;simp only[an]at c;subst c;have b: (0:Int)<=i/\i<=cap:=⟨g,by omega⟩;rcases AJ m with⟨rfl,rfl⟩| ⟨k,j,rfl,r,q,rfl⟩
    ·simp only[l0]at a;subst a;exact⟨by simp[Instr.sliceBounds,uH b],by omega,by omega⟩
    ·obtain⟨v,rfl,c⟩:=a;simp only[an]at c;subst c;exact⟨by simp[Instr.sliceBounds,uH b,uH ⟨r,q⟩],by omega,by omega⟩
  grind
 grind
def anJ(j:P.underlying t=some .string){x v:AV}{d:Value}{lo e:Option AV}{a:Option Value}(f:an G x d)(b:l0 G lo ak)(c:l0 G e a)
  (h:uB x lo e=some v) (w:World): ∃v',(Instr.sliceAt t d ak a none).run P w= .ok v' w/\an G v v':=by
 unfold uB at h;split at h
 ·rename_i s;split at h
  ·rename_i l k i;cases h;subst f;obtain⟨g,_,_⟩:=Hr (P:=P) (Dm:=false) (ae0 _) b c i w;refine⟨.string (s.extract l k),?_,by rfl⟩;simp[Instr.sliceAt,Instr.slice,aeA j,g]
  grind
 grind
def anK{len h:Nat}{cK c:Bool}{a:Option AV}(b:lT len h cK a=some c):
  (a=none/\c=(cK&&h==len))\/ ∃k i,a=some (.int k i)/\ (h:Int)<=i/\i<=len/\c=(i==h):=by
 unfold lT at b
 grind
def anL{len cap:Nat}{cK:Bool}(r:len<=cap)(p:cK=true->cap=len){lo t u:Option AV}{n f:Option Value}(a:l0 G lo ak)(o:l0 G t n)(g:l0 G u f)
  (d:u=none\/t≠none) {h:Nat} {c:Bool} (s:gv len lo t=some (l,h)) (D:lT len h cK u=some c) (w:World):
  ∃m,(Instr.sliceBounds true len cap ak n f).run P w= .ok (l,h,m) w/\l<=h/\h<=len/\h<=m/\m<=cap/\ (c=true->m=h):=by
 rcases anK D with⟨rfl,rfl⟩| ⟨k,i,rfl,K,J,rfl⟩
 ·subst g;obtain⟨I,N,M⟩:=Hr (P:=P) (Dm:=true) r a o s w
  grind
 ·obtain⟨v,rfl,b⟩:=g;simp only[an]at b;subst b;have d:t≠none:=d.resolve_left (by simp);have hm: (0:Int)<=i/\i<=cap:=⟨by omega,by omega⟩;unfold gv at s;split at s
  ·rename_i L C;split at s
   ·rename_i H z;cases s;rcases AJ C with⟨rfl,rfl⟩| ⟨k',j,rfl,F,g1,rfl⟩
    ·grind
    ·obtain⟨v,rfl,b⟩:=o;simp only[an]at b;subst b;have A: (0:Int)<=j/\j<=i.toNat:=⟨F,by omega⟩;refine⟨i.toNat,?_,?_,by omega,by omega,by omega,λe=>by simp only[atT]at e;omega⟩
     ·rcases AJ z with⟨rfl,rfl⟩| ⟨k',q,rfl,y,x,rfl⟩
      ·simp only[l0]at a;subst a;simp[Instr.sliceBounds,uH hm,uH A]
      ·obtain⟨v,rfl,b⟩:=a;simp only[an]at b;subst b;simp[Instr.sliceBounds,uH hm,uH A,uH ⟨y,x⟩]
     ·rcases AJ z with⟨rfl,rfl⟩| ⟨k',q,rfl,y,x,rfl⟩<;>omega
   grind
  grind
theorem NJ{sz:Nat}: ∀ {l:Nat} {af:List (List AV)},(∀el∈af,el.length=sz)->(af.drop l).flatten=af.flatten.drop (l*sz)
 |0,_,_=>by simp
 |l+1,[],_=>by simp
 |l+1,x::xs,hu=>by
  have a:=NJ (l:=l) (af:=xs) λel h=>hu el (by grind)
  simp only[apA,aoD,a];have e: (l+1)*sz=x.length+l*sz:=by grind
  rw[e,atm];simp_all
theorem Hs{sz:Nat}: ∀ {n:Nat} {af:List (List AV)},(∀el∈af,el.length=sz)->(af.take n).flatten=af.flatten.take (n*sz)
 |0,_,_=>by simp
 |n+1,[],_=>by simp
 |n+1,x::xs,hu=>by
  have a:=Hs (n:=n) (af:=xs) λel h=>hu el (by grind)
  have e: (n+1)*sz=x.length+n*sz:=by grind
  grind
def Wu{af:List (List AV)}(a: ∀el∈af,el.length=sz): ((af.drop l).take n).flatten=(af.flatten.drop (l*sz)).take (n*sz):=by grind [Hs,List.mem_of_mem_drop,NJ]
def bw.slice{af:List (List AV)}(b:bw G af vs)(a: ∀x∈af,x.length=sz):bw G ((af.drop l).take n) ((vs.drop (l*sz)).take (n*sz)):=by
 rw[bw.iff,Wu a];exact((bw.iff.1 b).drop _).take _
def qK.slice{o:Nat}(c:qK G b o vs)(l n:Nat):qK G b (o+l) ((vs.drop l).take n):=by
 intro j u a;rw[amH]at a;split at a
 ·rw[al0]at a;rw[ajK];exact c _ _ a
 grind
def anM{a:Addr}(h:a.spot=none)(k:Nat): (a.add k).spot=none:=by
 unfold Addr.add
 grind
def NK(a:Addr)(b o k:Nat)(h:a=⟨b,o,none⟩):a.add k=⟨b,o+k,none⟩:=by rw[h,jz]
def anN{z:TypeId}(h1:P.underlying t=some (.slice z))(h2:cz P z=some n){x v:AV}{O:Value}{lo R Q:Option AV}{D A:Option Value}
  (y:an G x O) (J:l0 G lo ak) (L:l0 G R D) (T:l0 G Q A) (K:Q=none\/R≠none)
  (h:gw n x lo R Q=some v) (w:World): ∃v',(Instr.sliceAt t O ak D A).run P w= .ok v' w/\an G v v':=by
 have key: ∀ {a:Option Addr} {len cap:Nat} {cK:Bool} {l h:Nat} {c:Bool},O= .slice a len cap->len<=cap->(cK=true->cap=len)->gv len lo R=some (l,h)->lT len h cK Q=some c->
   ∃m,(Instr.sliceAt t O ak D A).run P w= .ok (.slice (if m=l then a else a.map (·.add (l*n))) (h-l) (m-l)) w/\l<=h/\h<=len/\h<=m/\m<=cap/\ (c=true->m=h):=by
  intro a len cap cK l h c e hle f g H;obtain⟨m,i,r⟩:=anL (P:=P) hle f J L T K g H w;refine⟨m,?_,r⟩;subst e;simp[Instr.sliceAt,Instr.slice,aeA h1,i,nV h2]
 unfold gw at h;split at h
 ·simp only[an]at y;split at h
  ·rename_i p q g H;cases h;obtain⟨l,s⟩:=p;obtain⟨-,k1,k2⟩:=Hr (P:=P) (Dm:=false) (ae0 0) J L g w;have U:s=0:=by omega
   subst U;obtain⟨m,i,c1,Z,Y,W,M⟩:=key (cK:=true) y (ae0 _) (λ_=>rfl) g H;refine⟨_,i,?_⟩;have e1:l=0:=by omega
   have e3:m=0:=by omega
   subst e1 e3;simp[an]
  ·cases h
 ·rename_i af cK;split at h
  ·rename_i l s g;split at h
   ·rename_i c H;split at h
    ·rename_i hu;cases h;have hu: ∀el∈af,el.length=n:=λel F=>by simpa using agx.1 hu el F
     simp only[an]at y;obtain⟨b,o,cap,sz,vs,e,d1,d2,d3,hf,lf,hl⟩:=y;obtain⟨m,i,c1,Z,Y,W,M⟩:=key e d1 d2 g H;refine⟨_,i,?_⟩;have d: ((af.drop l).take (s-l)).length=s-l:=by simp;omega
     by_cases hm:m=l
     ·have:s=l:=by omega
      subst this;rw[aez hm];refine⟨b,o,m-s,n,[],by simp,by simp,λk=>by simp;omega,by simp,λj u hj=>by simp at hj,λu hu=>by simp at hu,by simp[bw]⟩
     ·rw[aeu hm];refine⟨b,o+l*n,m-l,n,(vs.drop (l*n)).take ((s-l)*n),?_,?_,λk=>?_,λel F=>hu el (aoC (ahZ F)),hf.slice _ _,(lf.drop _).take _,hl.slice hu⟩
      ·simp[d,jz]
      ·rw[d];omega
      ·rw[d];have:=M k;omega
    ·cases h
   ·cases h
  ·cases h
 ·rename_i id aj sz off len cK;split at h
  ·rename_i l s g;split at h
   ·rename_i c H;split at h
    ·rename_i C;subst C;cases h;simp only[an]at y;obtain⟨V,e1,N,cap,e,d1,d2,d3⟩:=y;obtain⟨m,i,c1,Z,Y,W,M⟩:=key e d1.1 d2 g H;refine⟨_,i,V,e1,if m=l then N else N.add (l*sz),m-l,by split<;>simp_all,⟨by omega,by split<;>first|exact d1.2|exact anM d1.2 _⟩,λk=>by have:=M k;omega,λS=>?_⟩;obtain⟨f1,f2,f3⟩:=d3 S;refine⟨f1,λI=>?_,?_⟩
     ·rw[aeu (by omega),NK _ _ _ _ (f2 (by omega)),ao3,ajK]
     ·have: (off+l)*sz+(m-l)*sz<=off*sz+cap*sz:=by
        rw[<-ao3,<-ao3];exact amE _ (by omega)
      omega
    ·cases h
   ·cases h
  ·cases h
 ·rename_i id sz off len;split at h
  ·rename_i l s g;split at h
   ·rename_i C;subst C;cases h;simp only[an]at y;obtain⟨V,N,cap,e,d1,d2⟩:=y;obtain⟨m,i,c1,Z,Y,W,M⟩:=key (cK:=false) (c:=false) e d1 (λhh=>by cases hh) g (by simp[lT]);refine⟨_,i,V,if m=l then N else N.add (l*sz),m-l,by split<;>simp_all,by omega,λS I=>?_⟩;rw[aeu (by omega),NK _ _ _ _ (d2 S (by omega))]
   ·cases h
  ·cases h
 ·cases h
theorem chunks_flatten{sz:Nat}: ∀ {k:Nat} {cs:List AV},k*sz<=cs.length->(chunks sz k cs).flatten=cs.take (k*sz)
 |0,_,_=>by simp[chunks]
 |k+1,cs,h=>by
  have e: (k+1)*sz=sz+k*sz:=by grind
  simp only[chunks,aoD];rw[chunks_flatten (k:=k) (cs:=cs.drop sz) (by grind),e,List.take_add]
theorem Dn{sz:Nat}: ∀ {k:Nat} {cs:List AV},k*sz<=cs.length-> ∀el∈chunks sz k cs,el.length=sz
 |0,_,_=>by simp[chunks]
 |k+1,cs,h=>by
  intro el a;simp only[chunks,agF]at a;rcases a with rfl|a
  ·grind
  ·exact Dn (k:=k) (cs:=cs.drop sz) (by grind) el a
@[simp]theorem NL {sz:Nat}: ∀ {k:Nat} {cs:List AV},(chunks sz k cs).length=k
  |0,_=>rfl
  |k+1,_=>by simp[chunks,NL]
def anO(I:ba P B ay G E w)(N:fC X B ay){f:TypeId}(R:P.underlying t=some (.array n f))(Q:cz P f=some sz){x v:AV}{k:Value}{lo H:Option AV}{a:Option Value}
  (m:an G x k) (y:l0 G lo ak) (z:l0 G H a) (h:qD X n sz x lo H=some v): ∃v',(Instr.sliceAt t k ak a none).run P w= .ok v' w/\an G v v':=by
 unfold qD at h;split at h
 ·rename_i l i O;obtain⟨K,U,T⟩:=Hr (P:=P) (Dm:=false) (ae0 n) y z O w;have key: ∀p,k= .pointer (some p)->(Instr.sliceAt t k ak a none).run P w= .ok (.slice (some (if n=l then p else p.add (l*sz))) (i-l) (n-l)) w:=by
   rintro p rfl;simp[Instr.sliceAt,aeA R,Instr.sureAddr,K,nV Q]
  have frozen: ∀ (b o:Nat) (cs:List AV) (vs:List Value) (off:Nat),k= .pointer (some ⟨b,o+off,none⟩)->qK G b o vs->Leaves vs->aG G cs vs->off+n*sz<=cs.length->
    ∃v',(Instr.sliceAt t k ak a none).run P w= .ok v' w/\an G (.sl (chunks sz (i-l) (cs.drop (off+l*sz))) false) v':=by
   intro b o cs vs off e s q r hle;refine⟨_,key _ e,?_⟩;have L:l*sz+(i-l)*sz<=n*sz:=by rw[<-ao3];exact amE _ (by omega)
   have d: (i-l)*sz<=(cs.drop (off+l*sz)).length:=by simp;omega
   by_cases F:n=l
   ·rw[aez F];have:i=l:=by omega
    subst this;refine⟨b,o+off,n-i,sz,[],by simp,by simp,(λC=>by cases C),by simp[chunks],(λj u M=>by simp at M),(λu hu=>by simp at hu),by simp[chunks,bw]⟩
   ·rw[aeu F];refine⟨b,o+(off+l*sz),n-l,sz,(vs.drop (off+l*sz)).take ((i-l)*sz),?_,(by rw[NL];omega),(λC=>by cases C),Dn d,s.slice _ _,(q.drop _).take _,?_⟩
    ·simp[jz,ajK]
    ·rw[bw.iff,chunks_flatten d];exact(r.drop _).take _
  split at h
  ·rename_i id off;cases h;simp only[an]at m;obtain⟨S,p,e,c⟩:=m;refine⟨_,key p e,S,_,n-l,rfl,by omega,λJ D=>?_⟩;rw[aeu (by omega),NK _ _ _ _ (c J)]
  ·rename_i cs off;split at h
   ·rename_i hle;cases h;simp only[an]at m;obtain⟨b,o,vs,e,s,q,r⟩:=m;exact frozen b o cs vs off e s q r hle
   ·cases h
  ·rename_i g;split at h
   ·rename_i cs A;split at h
    ·rename_i hle;cases h;simp only[an]at m;obtain⟨vs,s,q,r⟩:=N.rel I A;have:=frozen g 0 cs vs 0 (by simpa using m) s q r (by omega);simpa using this
    ·cases h
   ·cases h
  grind
 grind
end
section
variable{P:Program}{X:Ctx}{B:Nat}{ay:World}
variable{G:Gh}{E:AS}{w:World}
def NN{z:AV}(h:x0 P t=some z)(G:Gh)(w:World): ∃b,(zeroValue t).run P w= .ok b w/\zeroV P t=some b/\an G z b:=by
 unfold x0 at h;split at h
 ·rename_i v a;split at h
  ·rename_i d;cases h;refine⟨v,?_,a,Wq v d⟩;unfold zeroV at a;cases c:P.info? t with
   |none=>grind
   |some i=>
    simp only[c,ao2]at a;simp only[zeroValue,Sem.run_bind,run_typeInfo _ c,Result.andThen_ok,a,Sem.run_pure]
  grind
 grind
def r8{z:List AV}(h:hH P t=some z)(G:Gh)(w:World):
  ∃a,(zeroValue t).run P w= .ok a w/\zeroV P t=some a/\aG G z a.cells.toList/\Leaves a.cells.toList/\cz P t=some z.length:=by
 unfold hH at h;split at h
 ·rename_i y n c f;split at h
  ·rename_i b;obtain⟨a,e,g,r⟩:=NN c G w;obtain⟨l,d⟩:=r.cells b.1
   grind
  grind
 grind
theorem anP:IntKind.i64.max=9223372036854775807:=by rfl
theorem kY{s:Sem Value}{k:IntKind}{n:Int}{w:World}(h:s.run P w= .ok (.int k n) w): ∃v',s.run P w= .ok v' w/\an G (.int k n) v':=⟨_,h,by rfl⟩
theorem Dp{s:Sem Value}{b:Bool}{w:World}(h:s.run P w= .ok (.bool b) w): ∃v',s.run P w= .ok v' w/\an G (.bool b) v':=⟨_,h,by rfl⟩
theorem aBB{s:Sem Value}{b:ByteArray}{w:World}(h:s.run P w= .ok (.string b) w): ∃v',s.run P w= .ok v' w/\an G (.str b) v':=⟨_,h,by rfl⟩
def Wv{c:BinOp}{x y v:AV}{j i:Value}(e:an G x j)(d:an G y i)(h:dp c x y=some v)(ho:c≠ .eql)(f:c≠ .neq)(w:World):
  ∃v',(binOp c t j i).run P w= .ok v' w/\an G v v':=by
 unfold dp at h;split at h
 ·rename_i k a k' b;split at h
  ·rename_i l;subst l;simp only[an]at e d;subst e d;cases c<;>simp[mv,v9]at h<;>(simp_all)<;>(try rfl)
   all_goals
    first
     | (subst h;exact kY (by simp[binOp,Op.intArith,Op.intBits]))
     | (subst h;exact Dp (by simp[binOp,Op.intCmp]))
     | (obtain⟨g,rfl⟩:=h;exact kY (by simp[binOp,Op.intDiv,g]))
  grind
 ·rename_i a b;simp only[an]at e d;subst e d;cases c<;>simp[Wi]at h<;>(try exact absurd rfl ho)<;>(try exact absurd rfl f)
  all_goals
   first
    | (subst h;exact Dp (by simp[binOp,Op.stringOp]))
    | (obtain⟨g,rfl⟩:=h
       refine⟨.string (a++b),?_,by simp[an]⟩;simp only[binOp,Op.stringOp,Sem.run_ite];rw[aeu (by rw[anP];simp only[Wh]at g;omega)];simp)
 grind
def anQ{c:BinOp}{k k':IntKind}{a b:Int}{v:AV}(h:wa c k a b=some v)(w:World):
  ∃v',(binOp c t (.int k a) (.int k' b)).run P w= .ok v' w/\an G v v':=by
 unfold wa at h;split at h
 ·cases h
 ·rename_i d;split at h
  ·cases h;exact kY (by simp[binOp,Op.shift,d])
  ·cases h;exact kY (by simp[binOp,Op.shift,d])
  grind
def anR{c:UnOp}{x v:AV}{b:Value}(a:an G x b)(h:xW c x=some v)(w:World): ∃v',(Op.unary c b).run P w= .ok v' w/\an G v v':=by
 unfold xW at h;split at h
 ·cases h;subst a;exact kY (by rfl)
 ·simp only[v9,adP]at h;subst h;subst a;exact kY (by rfl)
 ·cases h;subst a;exact Dp (by rfl)
 grind
def anS{s d:TypeId}{k q:IntKind}{n:Int}(b: (P.underlying s).isSome=true)(a:P.underlying d=some (.int k))(w:World):
  (convert s d (.int q n)).run P w= .ok (.int k (k.wrap n)) w:=by
 cases hu:P.underlying s with
 |none=>grind
 |some u=>simp[convert,aeA hu,aeA a,Conv.intToInt]
def Ww{b:AV}{c:Value}(h:b.Ay=true)(r:an G b c): ∃a,c= .pointer (some a):=by
 cases b<;>simp[AV.Ay]at h<;>simp only[an]at r
 ·grind
 ·grind
 ·grind
 grind
def Wx{b:AV}{d:Value}(h:b.Az=true)(r:an G b d): ∃a n c,d= .slice (some a) n c:=by
 cases b<;>simp[AV.Az]at h<;>simp only[an]at r
 ·grind
 ·grind
 grind
def kindOk:EK->TypeDesc->Prop
 |.bool,d=>d= .bool
 |.int,d=> ∃k,d= .int k
 |.str,d=>d= .string
 |.ptr,d=> ∃e,d= .pointer e
 |.sl,d=> ∃e,d= .slice e
 |.map,d=> ∃k e,d= .map k e
 |.cap,_=>False
 |.fn,d=> ∃a b c,d= .func a b c
 |.di,d=> ∃ms,d= .interface ms
 |.Ax _,d=> ∃ms,d= .interface ms
 |.agg _,_=>False
def Wy(P:Program)(t:TypeId):Prop:= ∃i q,P.info? t=some i/\i.comparable=true/\P.underlying t=some (.int q)
def Wz{a ty:TypeId}{e:Array (String×TypeId)}(f:P.underlying t=some (.interface e))(d:Nat)(c b:Value)(w:World)
  (h:a≠ty->r=false) (m:a=ty-> ∃i,P.info? a=some i/\i.comparable=true/\ (Op.equalIn d a c b).run P w= .ok r w): (Op.equalIn (d+1) t (.iface a c) (.iface ty b)).run P w= .ok r w:=by
 rw[Op.equalIn];simp only[Sem.run_bind,aeA f,Result.andThen_ok];by_cases g:a=ty
 ·subst g;obtain⟨i,l,k,j⟩:=m rfl;simp[typeInfo,l,k,j]
 simp_all
def WA{k:EK}{u:TypeDesc}{x y:AV}{F D:Value}(l:P.underlying t=some u)(j:kindOk k u)(g:an G x F)(f:an G y D)(h:qC k x y=some r)(d:Nat)(w:World)(I: ∀ts,k= .Ax ts->1<=d/\ ∀t∈ts,Wy P t):
  (Op.equalIn (d+1) t F D).run P w= .ok r w:=by
 unfold qC at h;split at h
 case h_1=>
  cases h;simp only[an]at g f;subst g f;simp only[kindOk]at j;subst j;exact run_equalIn_bool w d t _ _ l
 case h_2=>
  split at h
  ·rename_i e;subst e;cases h;simp only[an]at g f;subst g f;obtain⟨k',rfl⟩:=j;exact run_equalIn_int w d t _ _ _ _ l
  ·cases h
 case h_3=>
  cases h;simp only[an]at g f;subst g f;simp only[kindOk]at j;subst j;exact run_equalIn_string w d t _ _ l
 case h_4=>
  cases h;simp only[an]at g f;subst g f;obtain⟨e,rfl⟩:=j;simp[Op.equalIn,aeA l]
 case h_5=>
  split at h
  ·rename_i m;cases h;simp only[an]at g;subst g;obtain⟨e,rfl⟩:=j;obtain⟨a,rfl⟩:=Ww m f;simp[Op.equalIn,aeA l]
  ·cases h
 case h_6=>
  split at h
  ·rename_i m;cases h;simp only[an]at f;subst f;obtain⟨e,rfl⟩:=j;obtain⟨a,rfl⟩:=Ww m g;simp[Op.equalIn,aeA l]
  ·cases h
 case h_7=>
  cases h;simp only[an]at g f;subst g f;obtain⟨e,rfl⟩:=j;simp[Op.equalIn,aeA l]
 case h_8=>
  split at h
  ·rename_i m;cases h;simp only[an]at g;subst g;obtain⟨e,rfl⟩:=j;obtain⟨a,n,c,rfl⟩:=Wx m f;simp[Op.equalIn,aeA l]
  ·cases h
 case h_9=>
  split at h
  ·rename_i m;cases h;simp only[an]at f;subst f;obtain⟨e,rfl⟩:=j;obtain⟨a,n,c,rfl⟩:=Wx m g;simp[Op.equalIn,aeA l]
  ·cases h
 case h_10=>
  cases h;simp only[an]at g f;subst g f;obtain⟨_,_,rfl⟩:=j;simp[Op.equalIn,aeA l]
 case h_11=>
  cases h;simp only[an]at g f;subst g;obtain⟨_,_,rfl,_⟩:=f;obtain⟨_,_,rfl⟩:=j;simp[Op.equalIn,aeA l]
 case h_12=>
  cases h;simp only[an]at g f;subst f;obtain⟨_,_,rfl,_⟩:=g;obtain⟨_,_,rfl⟩:=j;simp[Op.equalIn,aeA l]
 case h_13=>
  cases h;simp only[an]at g f;subst g f;obtain⟨_,_,_,rfl⟩:=j;simp[Op.equalIn,aeA l]
 case h_14=>
  cases h;simp only[an]at g f;subst g;obtain⟨_,_,_,rfl,_⟩:=f;obtain⟨_,_,_,rfl⟩:=j;simp[Op.equalIn,aeA l]
 case h_15=>
  cases h;simp only[an]at g f;subst f;obtain⟨_,_,_,rfl,_⟩:=g;obtain⟨_,_,_,rfl⟩:=j;simp[Op.equalIn,aeA l]
 case h_16=>
  cases h;simp only[an]at g f;subst g f;obtain⟨_,rfl⟩:=j;simp[Op.equalIn,aeA l]
 case h_17=>
  cases h;simp only[an]at g f;subst g;obtain⟨_,rfl,_⟩:=f;obtain⟨_,rfl⟩:=j;simp[Op.equalIn,aeA l]
 case h_18=>
  cases h;simp only[an]at g f;subst f;obtain⟨_,rfl,_⟩:=g;obtain⟨_,rfl⟩:=j;simp[Op.equalIn,aeA l]
 case h_19=>
  rename_i ts tx q a ty H b;simp only[an]at g f;obtain⟨_,rfl,rfl⟩:=g;obtain⟨_,rfl,rfl⟩:=f;obtain⟨ms,rfl⟩:=j;obtain⟨J,o⟩:=I ts rfl;split at h
  ·rename_i p;subst p;split at h
   ·rename_i A;obtain⟨A,rfl⟩:=A;cases h;obtain⟨i,H,z,v,s⟩:=o tx (by simpa using A);obtain⟨C,rfl⟩: ∃C,d=C+1:=⟨d-1,by omega⟩;exact Wz l _ _ _ w (λe=>absurd rfl e) λ_=>⟨i,z,v,run_equalIn_int w C tx q H a b s⟩
   ·cases h
  ·rename_i p;cases h;exact Wz l _ _ _ w (λ_=>rfl) λe=>absurd e p
 case h_20=>cases h
def WB{c d:List EK}{a b:List AV}(j:a.length=(c++d).length)(i:b.length=(c++d).length)(h:iM (c++d) a b=some r):
  ∃e,iM c (a.take c.length) (b.take c.length)=some e/\ (e=false->r=false)/\ (e=true->iM d (a.drop c.length) (b.drop c.length)=some r):=by
 induction c generalizing a b with
 |nil=>exact⟨true,by rfl,by simp,λ_=>by grind⟩
 |cons k f g=>
  cases a with
  |nil=>grind
  |cons x xs=>
   cases b with
   |nil=>grind
   |cons y ys=>
    simp only[ahY,iM]at h;simp only[agt,aqG,apA,iM]
    grind
def x9:TypeDesc->Bool
 |.struct _|.array _ _=>true
 |_=>false
def ya{u:TypeDesc}(h:P.underlying t=some u):m8 P t=some (x9 u):=by
 unfold m8;rw[h];cases u<;>rfl
def Ht(P:Program)(d:Nat)(t:TypeId)(a:List EK):Prop:=
 ∀ (D:Nat),d<=D-> ∀ (G:Gh) (w:World) (xs ys:Array Value) (as bs:List AV) (off:Nat) (r:Bool),cz P t=some a.length->aG G as xs.toList->aG G bs ys.toList->Leaves xs.toList->Leaves ys.toList->
   off+a.length<=as.length->off+a.length<=bs.length->iM a ((as.drop off).take a.length) ((bs.drop off).take a.length)=some r->
   ∃x y,(Go.part t xs off).run P w= .ok x w/\ (Go.part t ys off).run P w= .ok y w/\ (Op.equalIn D t x y).run P w= .ok r w
def WC(F: ∀t a,nU P d t=some a->Ht P d t a): ∀ (fs:List Field) (off:Nat) (a:List EK),AB P (nU P d) fs off=some a->
  ∀ (D:Nat),d<=D-> ∀ (G:Gh) (w:World) (xs ys:Array Value) (as bs:List AV) (r:Bool),aG G as xs.toList->aG G bs ys.toList->Leaves xs.toList->Leaves ys.toList->
  off+a.length<=as.length->off+a.length<=bs.length->iM a ((as.drop off).take a.length) ((bs.drop off).take a.length)=some r->
  (Op.eqFields D xs ys fs).run P w= .ok r w:=by
 intro fs
 induction fs with
 |nil=>
  intro off a h D g G w xs ys as bs r _ _ _ _ _ _ he;simp only[AB,adP]at h;subst h;simp[iM]at he;subst he;simp[Op.eqFields]
 |cons f fs q=>
  intro off a h D g G w xs ys as bs r k j f1 f2 A z he;simp only[AB]at h;split at h
  ·rename_i c e;split at h
   ·rename_i v;obtain⟨u,ho,s⟩:=v;cases b:AB P (nU P d) fs (off+c.length)with
    |none=>simp[b]at h
    |some p=>
     simp only[b,agl,adP]at h;subst h;simp only[aeZ]at A z;obtain⟨i,e1,C,e3⟩:=WB (by simp;omega) (by simp;omega) he;rw[aqU,aqU,aeZ,aqC (Nat.le_add_right _ _)]at e1;obtain⟨x,y,o,n,m⟩:=F f.type c e D g G w xs ys as bs off i s k j f1 f2 (by omega) (by omega) e1;simp only[Op.eqFields,ho];rw[aez u];simp only[Sem.run_bind,o,n,m,Result.andThen_ok];cases i with
     |false=>simp[C rfl]
     |true=>
      simp only[asJ,agm,ajc];have l:=e3 rfl;rw[axf,axf,ao5,ao5,aeZ,aid]at l;exact q (off+c.length) p b D g G w xs ys as bs r k j f1 f2 (by omega) (by omega) l
   grind
  grind
def NO{u:TypeDesc}{k:EK}(o:P.underlying t=some u)(q:kindOk k u)(g:m8 P t=some false)(p: ∀ts,k≠ .Ax ts):Ht P (d+1) t [k]:=by
 intro D H G w xs ys as bs off r F l j f1 f2 v s he;simp only[aq9]at v s he;have C:as[off]?=some (as[off]'(by omega)):=adQ _;have A:bs[off]?=some (bs[off]'(by omega)):=adQ _;obtain⟨x,n,rx⟩:=l.get off _ C;obtain⟨y,m,i⟩:=j.get off _ A;have e1: (as.drop off).take 1=[as[off]'(by omega)]:=by rw[aom (by omega)];rfl
 have z: (bs.drop off).take 1=[bs[off]'(by omega)]:=by rw[aom (by omega)];rfl
 rw[e1,z]at he;have c:qC k as[off] bs[off]=some r:=by
  simp only[iM]at he;split at he
  ·rename_i h;rw[h];exact he
  ·rename_i h;rw[h];exact he
  ·cases he
 have b:xs[off]?=some x:=by simpa using n
 have a:ys[off]?=some y:=by simpa using m
 refine⟨x,y,by simp[Go.part,r7 g,b],by simp[Go.part,r7 g,a],?_⟩;obtain⟨f,rfl⟩: ∃f,D=f+1:=⟨D-1,by omega⟩;exact WA o q rx i c f w (λts e=>absurd e (p ts))
theorem NP{D:Nat}{e:TypeId}{a:List EK}(l:Ht P D e a)(g:cz P e=some a.length){G:Gh}{w:World}{xs ys:Array Value}{as bs:List AV}(f:aG G as xs.toList)(d:aG G bs ys.toList)(i:Leaves xs.toList)(h:Leaves ys.toList):
  ∀ (m j:Nat) (r:Bool),(j+m)*a.length<=as.length->(j+m)*a.length<=bs.length->iM (List.replicate m a).flatten ((as.drop (j*a.length)).take (m*a.length)) ((bs.drop (j*a.length)).take (m*a.length))=some r->
  (Op.eqItems D e a.length xs ys (List.range' j m)).run P w= .ok r w
 |0,j,r,_,_,he=>by
  simp[iM]at he;subst he;simp[Op.eqItems]
 |m+1,j,r,t,s,he=>by
  have hm: (m+1)*a.length=a.length+m*a.length:=by rw[aqt];omega
  have q: (j+(m+1))*a.length=j*a.length+(a.length+m*a.length):=by rw[ao3,hm]
  rw[q]at t s;rw[ark,aoD,hm]at he;obtain⟨c,e1,u,e3⟩:=WB (by simp;omega) (by simp;omega) he;rw[aqU,aqU,aqC (Nat.le_add_right _ _)]at e1;obtain⟨x,y,p,o,n⟩:=l D (ae0 _) G w xs ys as bs (j*a.length) c g f d i h (by omega) (by omega) e1;rw[List.range'_succ];simp only[Op.eqItems,Sem.run_bind,p,o,n,Result.andThen_ok];cases c with
  |false=>simp[u rfl]
  |true=>
   simp only[asJ,agm,ajc];have k:=e3 rfl;rw[axf,axf,ao5,ao5,aid]at k;have b: (j+1)*a.length=j*a.length+a.length:=aqt _ _;refine NP l g f d i h m (j+1) r ?_ ?_ ?_
   ·have: (j+1+m)*a.length=j*a.length+(a.length+m*a.length):=by rw[ao3,b];omega
    omega
   ·have: (j+1+m)*a.length=j*a.length+(a.length+m*a.length):=by rw[ao3,b];omega
    omega
   ·rw[b];exact k
theorem Hu: ∀ (d:Nat) (t:TypeId) (b:List EK),nU P d t=some b->Ht P d t b
 |0,_,_,h=>by trivial
 |d+1,t,b,h=>by
  simp only[nU]at h;split at h
  ·rename_i hu;cases h;exact NO (k:=.bool) hu rfl (ya hu) (by simp)
  ·rename_i hu;cases h;exact NO (k:=.int) hu ⟨_,rfl⟩ (ya hu) (by simp)
  ·rename_i hu;cases h;exact NO (k:=.str) hu rfl (ya hu) (by simp)
  ·rename_i fields hu;split at h
   ·rename_i F;intro D K G w xs ys as bs off r j p o f1 f2 A z he;have s: (Go.part t xs off).run P w= .ok (.agg (xs.extract off (off+b.length))) w:=by simp[Go.part,r7 (ya hu),nV j,x9]
    have q: (Go.part t ys off).run P w= .ok (.agg (ys.extract off (off+b.length))) w:=by simp[Go.part,r7 (ya hu),nV j,x9]
    refine⟨_,_,s,q,?_⟩;obtain⟨f,rfl⟩: ∃f,D=f+1:=⟨D-1,by omega⟩;have x:P.fieldsOf t=fields:=by simp[Program.fieldsOf,hu]
    rw[run_equalIn_struct w f t _ _ (by rw[x];exact hu) F,x];have ex: (xs.extract off (off+b.length)).toList=(xs.toList.drop off).take b.length:=by rw[atQ,arf];simp
    have m: (ys.extract off (off+b.length)).toList=(ys.toList.drop off).take b.length:=by rw[atQ,arf];simp
    refine WC (λt b h=>Hu d t b h) fields.toList 0 b h f (by omega) G w _ _ ((as.drop off).take b.length) ((bs.drop off).take b.length) r (by rw[ex];exact(p.drop _).take _) (by rw[m];exact(o.drop _).take _)
     (by rw[ex];exact(f1.drop _).take _) (by rw[m];exact(f2.drop _).take _) (by simp;omega) (by simp;omega) ?_
    rw[amR,amR,aqU,aqU,ax6];exact he
   ·cases h
  ·rename_i n e hu;split at h
   ·rename_i a H;split at h
    ·rename_i J;obtain⟨l,_⟩:=J;cases h;intro D K G w xs ys as bs off r j p o f1 f2 A z he;have u: (List.replicate n a).flatten.length=n*a.length:=by simp
     rw[u]at A z he j;have s: (Go.part t xs off).run P w= .ok (.agg (xs.extract off (off+n*a.length))) w:=by simp[Go.part,r7 (ya hu),nV j,x9]
     have q: (Go.part t ys off).run P w= .ok (.agg (ys.extract off (off+n*a.length))) w:=by simp[Go.part,r7 (ya hu),nV j,x9]
     refine⟨_,_,s,q,?_⟩;obtain⟨f,rfl⟩: ∃f,D=f+1:=⟨D-1,by omega⟩;have c:=l;unfold cz at c;obtain⟨i,I,C⟩:=agj.1 c;rw[run_equalIn_array w f _ _ hu I];have g:P.cellsOf e=a.length:=by
      unfold Program.cellsOf;rw[c];rfl
     rw[g,azt];have ex: (xs.extract off (off+n*a.length)).toList=(xs.toList.drop off).take (n*a.length):=by rw[atQ,arf];simp
     have m: (ys.extract off (off+n*a.length)).toList=(ys.toList.drop off).take (n*a.length):=by rw[atQ,arf];simp
     refine NP (as:=(as.drop off).take (n*a.length)) (bs:=(bs.drop off).take (n*a.length)) (λv y=>Hu d e a H v (by omega)) l (by rw[ex];exact(p.drop _).take _) (by rw[m];exact(o.drop _).take _)
      (by rw[ex];exact(f1.drop _).take _) (by rw[m];exact(f2.drop _).take _) n 0 r (by simp;omega) (by simp;omega) ?_
     rw[Nat.zero_mul,amR,amR,aqU,aqU,ax6];exact he
    ·cases h
   ·cases h
  grind
end
section
variable{P:Program}{X:Ctx}{B:Nat}{ay:World}
variable{G:Gh}{E:AS}{w:World}
def yc:Operand->Bool
 |.const _=>true
 |_=>false
def AK(c:BinOp)(t:TypeId)(x y:Operand)(a b:Value)(e:a= .nilIface->b= .nilIface->(yc x||yc y)=true)(d: ∀xs ys,a= .agg xs->b= .agg ys->P.eqGuardType P.depth t=false)(w:World):
  (eqGuard c t x y a b).run P w= .ok () w:=by
 cases c<;>(simp_all)<;>cases a<;>(try(simp[eqGuard];done))<;>cases b<;>(try(simp[eqGuard];done))
 all_goals first
  | (have h:=d _ _ rfl rfl;simp[eqGuard,aq6,h];done)
  | (have h:=e rfl rfl;cases x<;>cases y<;>simp[yc]at h<;>simp[eqGuard])
def Dq:Value->Bool
 |.int _ _|.float _ _|.complex _ _ _|.string _=>false
 |_=>true
def binOp_eql{x y:Value}(a:Dq x=true)(t:TypeId):binOp .eql t x y=(do pure (.bool (<-Op.equal t x y))):=by
 cases x<;>simp[Dq]at a<;>first|rfl|rfl
def binOp_neq{x y:Value}(a:Dq x=true)(t:TypeId):binOp .neq t x y=(do pure (.bool (!(<-Op.equal t x y)))):=by
 cases x<;>simp[Dq]at a<;>first|rfl|rfl
def uI:AV->Bool
 |.int _ _|.str _|.ax _|.qB=>false
 |_=>true
def anT{x:AV}{a:Value}(h:uI x=true)(r:an G x a):Dq a=true:=by
 cases x<;>simp[uI]at h<;>simp only[an]at r
 all_goals first
  |rfl
  | (obtain⟨_,rfl,_⟩:=r;rfl)
  | (obtain⟨_,_,rfl,_⟩:=r;rfl)
  | (obtain⟨_,_,_,rfl,_⟩:=r;rfl)
  | (obtain⟨_,_,_,_,rfl,_⟩:=r;rfl)
  | (obtain⟨_,_,_,_,_,rfl,_⟩:=r;rfl)
  | (obtain⟨⟨_,rfl⟩,_⟩:=r;rfl)
def anU{x:AV}{xs:Array Value}(h:x.cq=false)(r:an G x (.agg xs)): ∃cs,x= .agg cs:=by
 cases x<;>simp[AV.cq]at h<;>simp[an]at r
 grind
def anV{x y:Operand}{k:EK}(h:x5 P t x y=some k):
  (∃u,P.underlying t=some u/\kindOk k u/\ (k= .di->(yc x||yc y)=true)/\ ∀ts,k= .Ax ts-> ∀t∈ts,Wy P t)\/
  (∃a u,P.underlying t=some u/\x9 u=true/\k= .agg a/\nU P 10 t=some a/\P.eqGuardType P.depth t=false):=by
 unfold x5 at h;split at h
 ·rename_i hu;cases h;exact .inl ⟨_,hu,rfl,by simp,by simp⟩
 ·rename_i hu;cases h;exact .inl ⟨_,hu,⟨_,rfl⟩,by simp,by simp⟩
 ·rename_i hu;cases h;exact .inl ⟨_,hu,rfl,by simp,by simp⟩
 ·rename_i hu;cases h;exact .inl ⟨_,hu,⟨_,rfl⟩,by simp,by simp⟩
 ·rename_i hu;cases h;exact .inl ⟨_,hu,⟨_,rfl⟩,by simp,by simp⟩
 ·rename_i hu;cases h;exact .inl ⟨_,hu,⟨_,_,rfl⟩,by simp,by simp⟩
 ·rename_i hu;cases h;exact .inl ⟨_,hu,⟨_,_,_,rfl⟩,by simp,by simp⟩
 ·rename_i hu;split at h
  ·cases h;exact .inl ⟨_,hu,⟨_,rfl⟩,by simp[yc],by simp⟩
  ·cases h;exact .inl ⟨_,hu,⟨_,rfl⟩,by simp[yc],by simp⟩
  ·cases h;refine .inl ⟨_,hu,⟨_,rfl⟩,by simp,λts d t b=>?_⟩;cases d;simp only[Wj,agy]at b;obtain⟨_,b⟩:=b;split at b
   ·rename_i i q g f;exact⟨i,q,g,b,f⟩
   ·cases b
 ·rename_i hu;split at h
  ·rename_i e;cases c:nU P 10 t with
   |none=>simp[c]at h
   |some a=>simp[c]at h;exact .inr ⟨a,_,hu,rfl,h.symm,rfl,e⟩
  ·cases h
 ·rename_i hu;split at h
  ·rename_i e;cases c:nU P 10 t with
   |none=>simp[c]at h
   |some a=>simp[c]at h;exact .inr ⟨a,_,hu,rfl,h.symm,rfl,e⟩
  ·cases h
 grind
def anW{k:EK}{x y:AV}{u:TypeDesc}(b:kindOk k u):dA k x y=qC k x y:=by
 cases k with
 |agg a=>trivial
 |_=>rfl
def WD{b:AV}(h:b.Ay=true):uI b=true/\ (∀cs,b≠ .agg cs)/\b≠ .eV/\b.cq=false:=by
 cases b<;>simp[AV.Ay]at h<;>simp[uI,AV.cq]
def WE{b:AV}(h:b.Az=true):uI b=true/\ (∀cs,b≠ .agg cs)/\b≠ .eV/\b.cq=false:=by
 cases b<;>simp[AV.Az]at h<;>simp[uI,AV.cq]
def anX{k:EK}{x y:AV}(h:qC k x y=some r):
  (k= .int/\ ∃q a b,x= .int q a/\y= .int q b/\r=(a==b))\/ (k= .str/\ ∃a b,x= .str a/\y= .str b/\r=(a.toList==b.toList))\/ (uI x=true/\ (∀cs,x≠ .agg cs)/\ (∀cs,y≠ .agg cs)/\ (x= .eV->k= .di)/\x.cq=false/\y.cq=false):=by
 unfold qC at h;split at h
 case h_1=>exact .inr (.inr (by simp[uI,AV.cq]))
 case h_2=>grind
 case h_3=>grind
 case h_5=>
  split at h
  ·rename_i f;obtain⟨_,d,g,c⟩:=WD f;exact .inr (.inr ⟨rfl,by simp,d,by simp,rfl,c⟩)
  ·cases h
 case h_6=>
  split at h
  ·rename_i f;obtain⟨i,d,g,c⟩:=WD f;exact .inr (.inr ⟨i,d,by simp,λe=>absurd e g,c,rfl⟩)
  ·cases h
 case h_8=>
  split at h
  ·rename_i f;obtain⟨_,d,g,c⟩:=WE f;exact .inr (.inr ⟨rfl,by simp,d,by simp,rfl,c⟩)
  ·cases h
 case h_9=>
  split at h
  ·rename_i f;obtain⟨i,d,g,c⟩:=WE f;exact .inr (.inr ⟨i,d,by simp,λe=>absurd e g,c,rfl⟩)
  ·cases h
 case h_20=>cases h
 all_goals exact .inr (.inr (by simp[uI,AV.cq]))
def anY{x:AV}(h:x.cq=false)(r:an G x .nilIface):x= .eV:=by
 cases x<;>simp[AV.cq]at h<;>simp[an]at r;rfl
def WG{A z:Operand}{k:EK}(hk:x5 P t A z=some k){x y:AV}{m l:Value}(j:an G x m)(v:an G y l)(h:dA k x y=some r)(w:World):
  (eqGuard .eql t A z m l).run P w= .ok () w/\ (binOp .eql t m l).run P w= .ok (.bool r) w/\ (eqGuard .neq t A z m l).run P w= .ok () w/\ (binOp .neq t m l).run P w= .ok (.bool !r) w:=by
 rcases anV hk with⟨u,hu,C,F,D⟩| ⟨K,u,hu,I,rfl,f,hg⟩
 ·rw[anW C]at h;rcases anX h with⟨rfl,q,a,b,rfl,rfl,rfl⟩| ⟨rfl,a,b,rfl,rfl,rfl⟩| ⟨h1,h2,h3,h4,V,h6⟩
  ·subst j v;exact⟨AK _ _ _ _ _ _ (by simp) (by simp) w,by simp[binOp,Op.intCmp],AK _ _ _ _ _ _ (by simp) (by simp) w,by simp[binOp,Op.intCmp,bne]⟩
  ·simp only[an]at j v;subst j v;exact⟨AK _ _ _ _ _ _ (by simp) (by simp) w,by simp[binOp,Op.stringOp],AK _ _ _ _ _ _ (by simp) (by simp) w,by simp[binOp,Op.stringOp]⟩
  ·have S:=anT h1 j;have e: (Op.equal t m l).run P w= .ok r w:=WA hu C j v h 9999 w (λts L=>⟨by decide,D ts L⟩);have g: ∀op,(eqGuard op t A z m l).run P w= .ok () w:=λop=>by
    refine AK _ _ _ _ _ _ (λQ _=>?_) (λxs ys Q _=>?_) w
    ·subst Q;exact F (h4 (anY V j))
    ·subst Q;obtain⟨cs,rfl⟩:=anU V j;exact absurd rfl (h2 cs)
   exact⟨g _,by simp[binOp_eql S,e],g _,by simp[binOp_neq S,e]⟩
 ·unfold dA at h;split at h
  ·rename_i c xs ys he;cases he;split at h
   ·rename_i o;simp only[an]at j v;obtain⟨s,rfl,lx,Y⟩:=j;obtain⟨J,rfl,ly,W⟩:=v;have g: ∀op,(eqGuard op t A z (.agg s) (.agg J)).run P w= .ok () w:=λop=>AK _ _ _ _ _ _ (by simp) (λ_ _ _ _=>hg) w
    have e: (Op.equal t (.agg s) (.agg J)).run P w= .ok r w:=by
     rw[show(10:Nat)=9+1 from rfl,nU,hu]at f;cases u<;>simp only[x9,agm]at I
     ·rename_i n e;simp only at f;split at f
      ·rename_i c M;split at f
       ·rename_i O;obtain⟨H,_⟩:=O;cases f;have d:=H;unfold cz at d;obtain⟨i,hi,r9⟩:=agj.1 d;show(Op.equalIn (9999+1) t (.agg s) (.agg J)).run P w=_;rw[run_equalIn_array w 9999 _ _ hu hi];have p:P.cellsOf e=c.length:=by
         unfold Program.cellsOf;rw[d];rfl
        rw[p,azt];have N: (List.replicate n c).flatten.length=n*c.length:=by simp
        rw[N]at o;refine NP (as:=xs) (bs:=ys) (λR U=>Hu 9 e c M R (by omega)) H lx ly Y W n 0 r (by rw[alV];omega) (by rw[alV];omega) ?_;rw[Nat.zero_mul,amR,amR,<-o.1,agk,o.1,<-o.2,agk];exact h
       ·cases f
      ·cases f
     ·rename_i fs;simp only at f;split at f
      ·rename_i hp;have T:P.fieldsOf t=fs:=by simp[Program.fieldsOf,hu]
       show(Op.equalIn (9999+1) t (.agg s) (.agg J)).run P w=_;rw[run_equalIn_struct w 9999 t _ _ (by rw[T];exact hu) hp,T];refine WC (λt K h=>Hu 9 t K h) fs.toList 0 K f 9999 (by omega) G w _ _ xs ys r lx ly Y W (by omega) (by omega) ?_;rw[amR,amR,<-o.1,agk,o.1,<-o.2,agk];exact h
      ·cases f
    exact⟨g _,by simp[binOp_eql (x:=.agg s) rfl,e],g _,by simp[binOp_neq (x:=.agg s) rfl,e]⟩
   ·cases h
  ·cases h
  ·rename_i n1 Z;first|exact(n1 _ rfl).elim|exact(Z _ rfl).elim
def anZ{a:TypeId}{u:TypeDesc}(g:P.underlying a=some u)(b: ∀ms,u≠ .interface ms){z:AV}(o:x0 P a=some z){x v:AV}{l:Value}{j:Bool}(f:an G x l)(h:AA z x a j=some v)(n:TypeId)(w:World):
  ∃v',(Instr.typeAssert l n a j).run P w= .ok v' w/\an G v v':=by
 obtain⟨d,e,_,rz⟩:=NN o G w;unfold AA at h;split at h
 ·simp only[an]at f;subst f;split at h
  ·rename_i c;subst c;cases h;refine⟨.tuple #[d,.bool false],?_,⟨_,rfl,⟨d,_,rfl,rz,⟨_,_,rfl,by simp[an],by simp[aG]⟩⟩⟩⟩;cases u<;>first|exact absurd rfl (b _)|simp[Instr.typeAssert,aeA g,e]
  ·cases h
 ·rename_i p y;simp only[an]at f;obtain⟨i,rfl,m⟩:=f;split at h
  ·rename_i k;subst k;cases h;cases j with
   |true=>
    refine⟨.tuple #[i,.bool true],?_,⟨_,rfl,⟨i,_,rfl,m,⟨_,_,rfl,by simp[an],by simp[aG]⟩⟩⟩⟩;cases u<;>first|exact absurd rfl (b _)|simp[Instr.typeAssert,aeA g]
   |false=>
    refine⟨i,?_,m⟩;cases u<;>first|exact absurd rfl (b _)|simp[Instr.typeAssert,aeA g]
  ·rename_i k;split at h
   ·rename_i c;subst c;cases h;refine⟨.tuple #[d,.bool false],?_,⟨_,rfl,⟨d,_,rfl,rz,⟨_,_,rfl,by simp[an],by simp[aG]⟩⟩⟩⟩;cases u<;>first|exact absurd rfl (b _)|simp[Instr.typeAssert,aeA g,e,k]
   ·cases h
 ·cases h
def an0{u:TypeDesc}(a:P.underlying t=some u)(b: ∀ms,u≠ .interface ms)(x:Value)(w:World): (Instr.makeInterface t x).run P w= .ok (.iface t x) w:=by
 cases u<;>first|grind|simp[Instr.makeInterface,run_underlying a]
def an1{x v:AV}{d:Value}(c:an G x d)(h:we x=some v):v=x/\ ((∃a,d= .pointer (some a))\/ (∃f a b,d= .func (.func f) a b)\/ ∃f a b,d= .func (.yield f) a b):=by
 unfold we at h;split at h
 all_goals(try cases h)
 ·simp only[an]at c;grind
 ·simp only[an]at c;grind
 ·simp only[an]at c;grind
 ·simp only[an]at c;grind
 ·simp only[an,m9]at c;grind
 ·simp only[an,m9]at c;grind
theorem fN.length: ∀ {es:List (AV×AV)} {ms:List MapEntry},fN G es ms->ms.length=es.length
 | [],ms,r=>by simp only[fN]at r;grind
 | (k,v)::es,ms,r=>by
   obtain⟨m,q,rfl,_,_,_,h⟩:=r;simp[fN.length h]
def NQ(f:ba P B ay G E w){ty:TypeId}{u:TypeDesc}{k:EK}(c:P.underlying t=some u)(b:kindOk k u){x v:AV}{d:Value}(a:an G x d)(h:fX E k x=some v):
  ∃v',(Builtin.len_ #[t] ty #[d]).run P w= .ok v' w/\an G v v':=by
 unfold fX at h;split at h
 ·cases h;simp only[an]at a;subst a;simp only[kindOk]at b;subst b;exact kY (by simp[Builtin.len_,aeA c,goInt])
 ·cases h;simp only[an]at a;subst a;obtain⟨e,rfl⟩:=b;exact kY (by simp[Builtin.len_,aeA c,goInt])
 ·cases h;simp only[an]at a;obtain⟨_,_,_,_,_,rfl,_⟩:=a;obtain⟨e,rfl⟩:=b;exact kY (by simp[Builtin.len_,aeA c,goInt])
 ·cases h;simp only[an]at a;obtain⟨_,_,_,_,rfl,_⟩:=a;obtain⟨e,rfl⟩:=b;exact kY (by simp[Builtin.len_,aeA c,goInt])
 ·cases h;simp only[an]at a;obtain⟨_,_,_,rfl,_⟩:=a;obtain⟨e,rfl⟩:=b;exact kY (by simp[Builtin.len_,aeA c,goInt])
 ·cases h;simp only[an]at a;subst a;obtain⟨_,e,rfl⟩:=b;exact kY (by simp[Builtin.len_,aeA c,goInt])
 ·rename_i id;split at h
  ·rename_i es he;cases h;obtain⟨l,ms,clock,j,hm⟩:=f.obj id _ he a.Hm;simp only[an]at a;obtain⟨_,r,rfl,g⟩:=a;obtain⟨_,e,rfl⟩:=b;rw[g l];have i:ms.size=es.length:=by rw[<-amq];exact hm.length
   exact kY (by simp[Builtin.len_,aeA c,goInt,getObj,Sem.run,j,i])
  ·cases h
 ·exact b.elim
 ·exact b.elim
 ·exact b.elim
 ·cases h
def an2{ty:TypeId}(b:P.underlying t=some (.slice e)){x v:AV}{d:Value}(a:an G x d)(h:fX E .cap x=some v)(w:World):
  ∃v',(Builtin.cap_ #[t] ty #[d]).run P w= .ok v' w/\an G v v':=by
 unfold fX at h;split at h<;>first|grind|skip
 all_goals simp_all
 ·cases h;subst a;exact kY (by simp[Builtin.cap_,aeA b,goInt])
 ·cases h;simp only[an]at a;obtain⟨_,_,cap,_,_,rfl,_,c,_⟩:=a;rw[<-c trivial];exact kY (by simp[Builtin.cap_,aeA b,goInt])
 ·cases h;simp only[an]at a;obtain⟨_,_,_,cap,rfl,_,c,_⟩:=a;rw[<-c trivial];exact kY (by simp[Builtin.cap_,aeA b,goInt])
theorem NR{f:AV->AV->Option AV}{g:Value->Value->Sem Value}(m: ∀a b c a' o,f a b=some c->an G a a'->an G b o-> ∃n,(∀w,(g a' o).run P w= .ok n w)/\an G c n):
  ∀ (xs:List AV) (x:AV) (v:AV) (j:Value) (d:List Value),gx f (x::xs)=some v->an G x j->aG G xs d-> ∀w,∃v',(d.foldlM g j).run P w= .ok v' w/\an G v v'
 | [],x,v,j,d,h,l,i,w=>by
   subst i;unfold gx at h;simp_all
 |y::ys,x,v,j,d,h,l,i,w=>by
  obtain⟨s,k,rfl,r,i⟩:=i;unfold gx at h;split at h
  ·rename_i z q;obtain⟨p,e,rz⟩:=m _ _ _ _ _ q l r;obtain⟨v',t,rv⟩:=NR m ys z v p k h rz i w;simp_all
  grind
def an3{j:Array TypeId}{xs:List AV}{v:AV}{d:Array Value}(g:aG G xs d.toList)(h:gx qE xs=some v)(w:World):
  ∃v',(Builtin.max_ j t d).run P w= .ok v' w/\an G v v':=by
 cases xs with
 |nil=>simp[gx]at h
 |cons x xs=>
  obtain⟨i,r,e,k,g⟩:=g;simp only[Builtin.max_,e];refine NR (λa b c a' n f m l=>?_) xs x v i r h k g w;unfold qE at f;split at f
  ·cases f;subst m l;exact⟨_,λw=>by rfl,by rfl⟩
  grind
def an4{j:Array TypeId}{xs:List AV}{v:AV}{d:Array Value}(g:aG G xs d.toList)(h:gx wc xs=some v)(w:World):
  ∃v',(Builtin.min_ j t d).run P w= .ok v' w/\an G v v':=by
 cases xs with
 |nil=>simp[gx]at h
 |cons x xs=>
  obtain⟨i,r,e,k,g⟩:=g;simp only[Builtin.min_,e];refine NR (λa b c a' n f m l=>?_) xs x v i r h k g w;unfold wc at f;split at f
  ·cases f;subst m l;exact⟨_,λw=>by rfl,by rfl⟩
  grind
end
section
variable{P:Program}{X:Ctx}{B:Nat}{ay:World}
variable{G:Gh}{E:AS}{w:World}
def aG.aJ{cs vs:List AV}{b:List Value}{off:Nat}(a:aG G cs c.toList)(d:aG G vs b)(h:off+vs.length<=cs.length):
  aG G (aJ cs off vs) (kX c off b).toList:=by
 have e:=d.length;have f:=a.length;rw[amq]at f;rw[Ho _ _ _ (by omega)];rw[e];exact(a.take off).append (d.append (a.drop _))
def Leaves.aJ{a:List Value}{off:Nat}(b:Leaves c.toList)(d:Leaves a)(h:off+a.length<=c.size):Leaves (kX c off a).toList:=by
 rw[Ho _ _ _ h];exact(b.take off).append (d.append (b.drop _))
theorem WH(off:Nat): ∀ (l:List Value) (k:Nat) (c:Array Value),(l.zipIdx k).foldl (λcs (p:Value×Nat)=>cs.setIfInBounds (off+p.2) p.1) c=kX c (off+k) l
 | [],_,_=>rfl
 |v::l,k,c=>by
  simp only[List.zipIdx_cons,ayG,kX];rw[WH off l (k+1)];rfl
theorem Hv{nt:Nat}{e:Env}{a:Act}(v:cN G nt e a.tmps){b Dr:Nat->Option (Nat×Nat)}(u: ∀i p,b i=some p->Dr i=some p):
  ∀ (ps:List (Nat×Operand)) (l:List (Nat×Nat×ao)) (cs d:List AV) (c:Array Value),parts b ps=some l->eG cs (l.map λp=>(p.1,p.2.1,p.2.2.get e))=some d->aG G cs c.toList->Leaves c.toList->
  ∃j,Instr.fill Dr c (ps.map λp=>(p.1,a.eval p.2))=some j/\aG G d j.toList/\Leaves j.toList
 | [],l,cs,d,c,h,g,k,q=>by
   simp only[parts,adP]at h;subst h;simp only[avF,eG,adP]at g;subst g;exact⟨c,by rfl,k,q⟩
 | (i,x)::ps,l,cs,d,c,h,g,k,q=>by
   simp only[parts]at h;split at h
   ·rename_i off n y z H F D;cases h;simp only[amF,eG]at g;split at g
    ·rename_i C;obtain⟨t1,t2,t3⟩:=C;have A:=cG v F;obtain⟨t,m⟩:=A.cells t1;have f:=t.length;rw[amq]at f;have s:=k.length;rw[amq]at s;obtain⟨j,I,r,o⟩:=Hv v u ps z _ d (kX c off (a.eval x).cells.toList) D g (k.aJ t (by omega)) (q.aJ m (by rw[amq];omega));refine⟨j,?_,r,o⟩;simp only[amF,Instr.fill,u i _ H];rw[aeu (by simp only[ne_eq,aoS,alR];omega)];rw[<-I]
     congr 1
     rw[<-Array.foldl_toList,Array.toList_zipIdx];exact WH off _ 0 c
    grind
   grind
def an5{b:Array Field}{z:List AV}(O:P.underlying t=some (.struct b))(M:hH P t=some z)(L:b.toList.all (λf=>(cz P f.type).isSome)=true)
   {e:Env}  (K:cN G nt e a.tmps) {o:Array (Nat×Operand)} {l:List (Nat×Nat×ao)}
  (H:parts (λi=>match b[i]? with|some f=>(cz P f.type).map λn=>(f.offset,n)|none=>none) o.toList=some l) {cs:List AV} (J:eG z (l.map λp=>(p.1,p.2.1,p.2.2.get e))=some cs) (w:World):
  ∃v',(Instr.build t (o.map λ (i,x)=>(i,a.eval x))).run P w= .ok v' w/\an G (.agg cs) v':=by
 obtain⟨m,_,D,lz,q,_⟩:=r8 M G w;obtain⟨it,I,C⟩: ∃it,P.info? t=some it/\it.zero=some m:=by
  unfold zeroV at D;cases d:P.info? t with
  |none=>grind
  |some i=>grind
 have hm: ∀ (fs:List Field),fs.all (λf=>(cz P f.type).isSome)=true-> ∃places,fs.mapM (λf=>(P.info? f.type).map λi=>(f.offset,i.size))=some places/\ ∀ (i:Nat) (f:Field),fs[i]?=some f-> ∃n,cz P f.type=some n/\places[i]?=some (f.offset,n):=by
  intro fs
  induction fs with
  |nil=>simp
  |cons f fs y=>
   intro c;simp only[atS,ahV]at c;obtain⟨places,e1,N⟩:=y c.2;cases d:P.info? f.type with
   |none=>simp[cz,d]at c
   |some i=>
    refine⟨(f.offset,i.size)::places,by simp[azT,d,e1],λj g s=>?_⟩;cases j with
    |zero=>simp at s;subst s;exact⟨i.size,by simp[cz,d],by simp⟩
    |succ j=>simpa using N j g (by simpa using s)
 obtain⟨places,F,k⟩:=hm _ L;have A:m.cells.toList=m.cells.toList:=rfl;obtain⟨u,Q,r,v⟩:=Hv (Dr:=(places.toArray[·]?)) K (λi p d=>by
  cases h:b[i]? with
  |none=>simp[h]at d
  |some f=>
   obtain⟨n,s1,s2⟩:=k i f (by simpa using h);simp[h,s1]at d;subst d;simpa using s2) o.toList l z cs m.cells H J lz q
 refine⟨.agg u,?_,⟨u,rfl,r,v⟩⟩;refine run_build w t _ u ?_;unfold Program.built;simp_all
def an6{b:TypeId}{z:List AV}(F:P.underlying t=some (.array n b))(D:hH P t=some z)(C:cz P b=some sz)
   {e:Env}  (A:cN G nt e a.tmps) {c:Array (Nat×Operand)} {l:List (Nat×Nat×ao)}
  (s:parts (λi=>some (i*sz,sz)) c.toList=some l) {cs:List AV} (y:eG z (l.map λp=>(p.1,p.2.1,p.2.2.get e))=some cs) (w:World):
  ∃v',(Instr.build t (c.map λ (i,x)=>(i,a.eval x))).run P w= .ok v' w/\an G (.agg cs) v':=by
 obtain⟨h,_,o,lz,d,_⟩:=r8 D G w;obtain⟨it,u,m⟩: ∃it,P.info? t=some it/\it.zero=some h:=by
  unfold zeroV at o;cases j:P.info? t with
  |none=>grind
  |some i=>grind
 obtain⟨f,v,q⟩: ∃f,P.info? b=some f/\f.size=sz:=by
  unfold cz at C;simp_all
 obtain⟨g,H,r,k⟩:=Hv (Dr:=λi=>some (i*sz,sz)) A (λi p j=>j) c.toList l z cs h.cells s y lz d;refine⟨.agg g,?_,⟨g,rfl,r,k⟩⟩;refine run_build w t _ g ?_;unfold Program.built;simp_all
def NS{af:List (List AV)}(h:af.all (λel=>el.length==sz)=true): ∀el∈af,el.length=sz:=by grind
def an7(r:ba P B ay G E w){x:AV}{q:Value}{af:List (List AV)}(g:an G x q)(h:elems E sz x=some af):
  (af=[]/\q= .slice none 0 0)\/
  ∃a cap vs,q= .slice (some a) af.length cap/\ (∀el∈af,el.length=sz)/\bw G af vs/\Leaves vs/\ (vs=[]\/ ∃b o,a=⟨b,o,none⟩/\ ∀j u,vs[j]?=some u->w.cell? ⟨b,o+j,none⟩=some u):=by
 unfold elems at h;split at h
 ·simp only[an]at g;grind
 ·rename_i k cK;split at h
  ·rename_i hu;cases h;simp only[an]at g;obtain⟨b,o,cap,s,vs,e,_,_,_,L,m,n⟩:=g;exact .inr ⟨_,cap,vs,e,NS hu,n,m,.inr ⟨b,o,rfl,λj u d=>r.bD _ _ _ (L j u d)⟩⟩
  grind
 ·rename_i id aj f off len cK;split at h
  ·rename_i v l ty k he;split at h
   ·rename_i z;obtain⟨F,J,M,N⟩:=z;subst F J M;cases h;obtain⟨g1,g2,I,c,pre,vs,post,A,y,H,_,n,m⟩:=r.obj id _ he g.NF;simp only[an]at g;obtain⟨_,_,a,cap,e,p,_,K⟩:=g;obtain⟨_,C,_⟩:=K g1;have i: ((k.drop off).take len).length=len:=by simp;omega
    refine .inr ⟨a,cap,(vs.drop (off*f)).take (len*f),by rw[i];exact e,λel t=>I el (aoC (ahZ t)),n.slice I,(m.drop _).take _,?_⟩;by_cases D:len=0
    ·left;simp[D]
    ·right
     refine⟨_,_,C (by omega),λj u d=>?_⟩;refine Dl A _ u ?_;rw[amH]at d;split at d
     ·rw[al0]at d;rw[y,ags (by omega),acK (by have:=(adN.1 d).1;omega)];rw[<-d];congr 1;omega
     ·cases d
   ·cases h
  ·cases h
 ·rename_i id l off len;split at h
  ·rename_i cs tg he;split at h
   ·rename_i z;obtain⟨F,J⟩:=z;subst F;cases h;obtain⟨g1,_,c,ty,A,n,m,_⟩:=AI r he g.anq;simp only[an]at g;obtain⟨_,a,cap,e,p,C⟩:=g;have hle:len*l<=(cs.drop off).length:=by simp;omega
    refine .inr ⟨a,cap,(c.toList.drop off).take (len*l),by rw[NL];exact e,Dn hle,?_,(m.drop _).take _,?_⟩
    ·rw[bw.iff,chunks_flatten hle];exact(n.drop _).take _
    ·by_cases D:len=0
     ·left;simp[D]
     ·right
      refine⟨_,_,C g1 (by omega),λj u d=>?_⟩;refine Dl A _ u ?_;rw[amH]at d;split at d
      ·rwa[al0]at d
      ·cases d
   ·cases h
  ·cases h
 grind
theorem po{sz:Nat}: ∀ {af:List (List AV)},(∀el∈af,el.length=sz)->af.flatten.length=af.length*sz
 | [],_=>by simp
 |x::xs,h=>by
  have a:=po (af:=xs) λy b=>h y (by grind)
  grind
def bw.len{af:List (List AV)}(h:bw G af vs)(a: ∀el∈af,el.length=sz):vs.length=af.length*sz:=by
 rw[(bw.iff.1 h).length,po a]
def WI(p:ba P B ay G E w){x:AV}{e:Value}{af:List (List AV)}(m:an G x e)(h:elems E sz x=some af):
  ∃vs,bw G af vs/\Leaves vs/\ (∀el∈af,el.length=sz)/\vs.length=af.length*sz/\ (∃a cap,e= .slice a af.length cap/\ (a=none->af=[]))/\
   ∀w',w'.heap=w.heap-> ∀n,n<=af.length->(Builtin.firstCells sz n e).run P w'= .ok (vs.take (n*sz)).toArray w':=by
 rcases an7 p m h with⟨rfl,rfl⟩| ⟨a,cap,vs,rfl,hu,g,l,k⟩
 ·refine⟨[],by rfl,λu hu=>by grind,by simp,by simp,⟨none,0,rfl,λ_=>rfl⟩,λw' c n f=>?_⟩;simp[Builtin.firstCells]
 ·refine⟨vs,g,l,hu,g.len hu,⟨some a,cap,rfl,λh=>by cases h⟩,λw' c n f=>?_⟩;have d:=g.len hu;rcases k with rfl| ⟨b,o,rfl,k⟩
  ·simp only[Builtin.firstCells];have:n*sz=0:=by
    have q:af.length*sz=0:=by grind
    have:=amE sz f;omega
   rw[this];simp[loadCells,loadCellsFrom]
  ·simp only[Builtin.firstCells];have hle:n*sz<=af.length*sz:=amE _ f;exact run_loadCells (vs.take (n*sz)) (by grind) (λj u i=>by
    rw[amH]at i;split at i
    ·have:=k _ _ i;simp only[World.cell?,c]at this⊢;exact this
    grind)
theorem an8: ∀ {af:List (List AV)} {vs:List Value} {l:lB},bw G af vs->wb af=some l-> ∃a:List Int,vs=a.map (Value.int .u8)/\l=a.map λn=>UInt8.ofNat n.toNat
 | [],vs,l,h,e=>by
   subst h;simp only[wb,adP]at e;simp_all
 |x::xs,vs,l,h,e=>by
  obtain⟨v,r,rfl,d,c⟩:=h;unfold wb at e;split at e
  ·grind
  ·rename_i n f heq;cases heq;cases b:wb xs with
   |none=>grind
   |some g=>
    simp[b]at e;subst e;obtain⟨a,rfl,rfl⟩:=an8 c b;obtain⟨v',q,rfl,rfl,rfl⟩:=d;exact⟨n::a,rfl,rfl⟩
  grind
theorem foldl_push: ∀ (a:List Int) (s:ByteArray),a.foldl (λr n=>r.push (UInt8.ofNat n.toNat)) s=⟨s.data++(a.map λn=>UInt8.ofNat n.toNat).toArray⟩
 | [],s=>by simp
 |n::a,s=>by
  rw[ayG,foldl_push a];simp_all
end
section
variable{P:Program}{X:Ctx}{B:Nat}{ay:World}
variable{G:Gh}{E:AS}{w:World}
def mz(P:Program)(B:Nat)(ay:World)(G:Gh)(E:AS)(v:AV)(E':AS)(r:Result Value):Prop:=
 ∃a w' v',r= .ok v' w'/\G.le a/\ba P B ay a E' w'/\an a v v'/\E.Ext E'
def AM(P:Program)(B:Nat)(ay:World)(G:Gh)(E:AS)(E':AS)(r:Result Unit):Prop:=
 ∃a w',r= .ok () w'/\G.le a/\ba P B ay a E' w'/\E.Ext E'
theorem nW: ∀ {a b:List AV},aI (a++b)=max (aI a) (aI b)
 | [],b=>by rfl
 |x::a,b=>by simp only[ahY,aI,nW (a:=a)];omega
theorem wg: ∀ {af:List (List AV)},cb af=aI af.flatten
 | []=>by rfl
 |x::xs=>by simp only[cb,aoD,nW,wg (af:=xs)]
def WJ{a:List AV}:aI (a.take n)<=aI a:=by grind [nW,List.take_append_drop]
def WK{a:List AV}:aI (a.drop n)<=aI a:=by
 have h:=nW (a:=a.take n) (b:=a.drop n);rw[amI]at h;omega
def WL{cs vs:List AV}{off:Nat}:aI (aJ cs off vs)<=max (aI cs) (aI vs):=by
 unfold aJ;have c:=WJ (a:=cs) (n:=off);have b:=WK (a:=cs) (n:=off+vs.length);rw[nW,nW];omega
def WM{v:AV}:aI v.cells=v.refs:=by
 cases v<;>simp[AV.cells,aI,AV.refs]
def NT{cs vs:List AV}{off:Nat}(h:off+vs.length<=cs.length): (aJ cs off vs).length=cs.length:=by
 unfold aJ;grind
def WN(a:ba P B ay G E w){cs:List AV}(ty:TypeId)(e:aG G cs c.toList)(d:Leaves c.toList)(tg:Option TypeId)(b: ∀t,tg=some t->ty=t):
  mz P B ay G E (.ptr E.heap.length 0) (E.push (.box cs tg)) (.ok (.pointer (some ⟨w.heap.size,0,none⟩)) (w.alloc (.cells c ty))):=by
 have hle:=G.AH w.heap.size 0 0;refine⟨G.push w.heap.size 0 0,_,_,rfl,hle,a.push _ _ 0 0 ?_,?_,.push E _⟩
 ·refine⟨by simp[Gh.push],c,ty,?_,e.mono hle,d,b⟩;have: (G.push w.heap.size 0 0).bg G.n=w.heap.size:=by simp[Gh.push]
  rw[this];exact ao7 _ _
 ·refine⟨Gh.Dk a,_,rfl,λ_=>?_⟩;simp[Gh.push,a.len]
def NU{z:List AV}{a:TypeId}(h:rZ z t=some a):t=a:=by
 unfold rZ at h
 grind
def an9{z:Option (List AV)}{a:TypeId}(h: (z.bind λz=>rZ z t)=some a):t=a:=by
 cases z with
 |none=>cases h
 |some z=>exact NU h
def aoa(d:ba P B ay G E w){z:List AV}(c:hH P t=some z):
  mz P B ay G E (.ptr E.heap.length 0) (E.push (.box z (rZ z t))) ((Instr.alloc t true (.tuple #[])).run P w):=by
 obtain⟨a,e,_,l,b,_⟩:=r8 c G w;have: (Instr.alloc t true (.tuple #[])).run P w= .ok (.pointer (some ⟨w.heap.size,0,none⟩)) (w.alloc (.cells a.cells t)):=by
  simp[Instr.alloc,e,newVar,newRow]
 rw[this];exact WN d t l b _ (λf h=>NU h)
def aob(f:ba P B ay G E w){x:AV}{b:Value}{tg:Option TypeId}(a: ∀c,tg=some c->t=c)(e:an G x b)(g:x.cq=false):
  mz P B ay G E (.ptr E.heap.length 0) (E.push (.box x.cells tg)) ((Instr.box t b).run P w):=by
 obtain⟨l,d⟩:=e.cells g;exact WN f t l d tg a
def Hw(g:ba P B ay G E w){af:List (List AV)}{post:List Value}{cap:Nat}(ty:TypeId)(l:c.toList=vs++post)(j: ∀el∈af,el.length=sz)(k:bw G af vs)(i:Leaves vs)
  (e:c.size=cap*sz) (h:af.length<=cap) (len:Nat) (a:len=af.length)  (f:w'.heap=w.heap) (d:ba P B ay G E w'):
  mz P B ay G E (.ref E.heap.length 0 sz 0 len false) (E.push (.row 0 sz ty af)) (.ok (.slice (some ⟨w.heap.size,0,none⟩) len cap) (w'.alloc (.cells c ty))):=by
 subst a;rw[<-f];have b:=G.AH w'.heap.size (cap*sz) sz;refine⟨G.push w'.heap.size (cap*sz) sz,_,_,rfl,b,d.push _ _ _ _ ?_,?_,.push E _⟩
 ·have e1: (G.push w'.heap.size (cap*sz) sz).bg G.n=w'.heap.size:=by simp[Gh.push]
  refine⟨by simp[Gh.push],by simp[Gh.push],j,c,[],vs,post,?_,by grind,by simp[Gh.push],?_,k.mono b,i⟩
  ·rw[e1];exact ao7 _ _
  ·simp[Gh.push,e]
 ·refine⟨Gh.Dk d,by simp,_,cap,rfl,⟨h,rfl⟩,by simp,λ_=>⟨by simp[Gh.push,g.len],λ_=>by simp[Gh.push,g.len],by simp[Gh.push,g.len]⟩⟩
def aoc(a:ba P B ay G E w)(t:TypeId):mz P B ay G E (.mp E.heap.length) (E.push (.map [])) ((Instr.makeMap t none).run P w):=by
 have hle:=G.AH w.heap.size 0 0;refine⟨G.push w.heap.size 0 0,_,_,rfl,hle,a.push _ _ 0 0 ?_,?_,.push E _⟩
 ·refine⟨by simp[Gh.push],#[],0,?_,by rfl⟩;have: (G.push w.heap.size 0 0).bg G.n=w.heap.size:=by simp[Gh.push]
  rw[this];exact ao7 _ _
 ·exact⟨Gh.Dk a,_,rfl,λ_=>by simp[Gh.push,a.len]⟩
def ba.put(b:ba P B ay G E w){id:Nat}(a:G.on id){o':ae}(refs:Nat)(ho:iQ P G id (eW w (G.bg id) O) o'):ba P B ay G (E.set id o' refs) (eW w (G.bg id) O):=
 b.set a o' refs G.le_refl rfl rfl (λ_ _ _=>rfl) (.inl rfl) (by rw[anv];exact(b.low id a).2) (λk c _=>Wn c) (by simp) rfl rfl rfl ho
def NV(f:ba P B ay G E w){id:Nat}{cs as:List AV}{tg:Option TypeId}(k:E.heap[id]?=some (.box cs tg))(l:G.pz id=none){a:List Value}{off:Nat}(j:aG G as a)(i:Leaves a)(h:off+as.length<=cs.length){refs:Nat}(s:aI as<=refs):
  AM P B ay G E (E.set id (.box (aJ cs off as) tg) refs) ((storeCells ⟨G.bg id,off,none⟩ a).run P w):=by
 obtain⟨r,d,c,ty,q,b,e,g⟩:=AI f k l;have p:=b.length;rw[amq]at p;have hu:=j.length;refine⟨G,_,?_,G.le_refl,f.put d refs (O:=.cells (kX c off a) ty (0,0)) ?_,.set k λn o m=>?_⟩
 ·have:=NG (P:=P) a c w off 0 q (by omega) i;omega
 ·exact⟨r,_,ty,uG (f.low id d).2,b.aJ j h,e.aJ i (by omega),g⟩
 ·simp only[ae.le]at o⊢;have:=WL (cs:=cs) (vs:=as) (off:=off);omega
def WO(f:ba P B ay G E w){id:Nat}{ty:TypeId}{af a:List (List AV)}{as:List AV}(s:E.heap[id]?=some (.row aj sz ty af))(m:G.pz id=none){b:List Value}{p:Nat}(q:aG G as b)(l:Leaves b)(h:p+as.length<=af.flatten.length)
  (v: ∀el∈a,el.length=sz) (r:a.flatten=aJ af.flatten p as) {refs:Nat} (H:aI as<=refs):
  AM P B ay G E (E.set id (.row aj sz ty a) refs) ((storeCells ⟨G.bg id,G.base id+p,none⟩ b).run P w):=by
 obtain⟨D,i,u,c,pre,vs,post,C,A,o,F,j,d⟩:=f.obj id _ s m;have e:G.on id:=⟨by rw[f.len];grind,m⟩;have k:=bw.iff.1 j;have t:=k.length;have g:=q.length;have z:c.size=pre.length+(vs.length+post.length):=by grind [Array.length_toList]
 refine⟨G,_,?_,G.le_refl,f.put e refs (O:=.cells (kX c (G.base id+p) b) ty (0,0)) ?_,.set s λn y x=>?_⟩
 ·have:=NG (P:=P) b c w (G.base id+p) 0 C (by omega) l;omega
 ·refine⟨D,i,v,_,pre,vs.take p++(b++vs.drop (p+b.length)),post,uG (f.low id e).2,?_,o,by simp_all,?_,(d.take p).append (l.append (d.drop _))⟩
  ·rw[Ho _ _ _ (by omega),A,<-o];rw[axW,aeE (by omega:pre.length<=pre.length+p),aid,atb (by omega)];rw[ajK,atm,ah2 (by omega:pre.length<=pre.length+(p+b.length)),aid,ah1,aAO (by omega)];simp
  ·rw[bw.iff,r];unfold aJ;rw[<-g];exact(k.take p).append (q.append (k.drop _))
 ·simp only[ae.le,wg]at y⊢;rw[r];have:=WL (cs:=af.flatten) (vs:=as) (off:=p);omega
def aod{af:List (List AV)}{el b:List AV}(g: ∀x∈af,x.length=sz)(e:af[i]?=some el)(off:Nat)(vs:List AV)(h:off+vs.length<=el.length)(f:b=aJ el off vs):
  (af.set i b).flatten=aJ af.flatten (i*sz+off) vs:=by
 subst f;have c:i<af.length:=(adN.1 e).1;have d:af.flatten=(af.take i).flatten++(el++(af.drop (i+1)).flatten):=by grind [List.take_append_drop,List.flatten_append,List.drop_eq_getElem_cons]
 have a: (af.take i).flatten.length=i*sz:=by grind [po,List.mem_of_mem_take,List.length_take,Nat.min_eq_left,Nat.le_of_lt]
 rw[List.set_eq_take_append_cons_drop,aez c,ana,aoD];rw[d];unfold aJ;rw[axW,aeE (by omega: (af.take i).flatten.length<=i*sz+off),a,aid,atb (by omega)];rw[ajK,atm,ah2 (by omega: (af.take i).flatten.length<=i*sz+(off+vs.length)),a,aid,ah1,aAO (by omega)];simp
def aoe(j:ba P B ay G E w)(I:cz P t=some n){x v:AV}{f:Value}{E':AS}(g:an G x f)(C:an G v v')(h:kf E n x v=some E'):
  AM P B ay G E E' ((Instr.storeAt t f v').run P w):=by
 have key: ∀ (b:Addr),f= .pointer (some b)->v.cq=false->v.cells.length=n->(Instr.storeAt t f v').run P w=(storeCells b v'.cells.toList).run P w/\aG G v.cells v'.cells.toList/\Leaves v'.cells.toList:=by
  rintro b rfl D L;obtain⟨l,K⟩:=C.cells D;have M:=l.length;simp only[Instr.storeAt,Sem.run_bind,Instr.sureAddr,Sem.run_pure,Result.andThen_ok,storeVar,nV I]
  grind
 unfold kf at h;split at h
 ·rename_i id off;split at h
  ·rename_i cs he;split at h
   ·rename_i p;obtain⟨u,s,J⟩:=p;cases h;simp only[an]at g;obtain⟨a,b,e,q⟩:=g;obtain⟨o,m,k⟩:=key b e u s;rw[o,q (AI j he a.2).1];exact NV j he a.2 m k (by omega) (by rw[WM];exact ae0 _)
   grind
  grind
 ·rename_i id aj i off;split at h
  ·rename_i A sz ty af he;split at h
   ·rename_i el d;split at h
    ·rename_i p;obtain⟨c0,z,u,s,J⟩:=p;subst c0;cases h;simp only[an]at g;obtain⟨a,_,b,e,q⟩:=g;obtain⟨o,m,k⟩:=key b e u s;obtain⟨g1,g2,r,_⟩:=j.obj id _ he a.2;rw[o,q g1,g2,ajK];have H:i<af.length:=(adN.1 d).1;have F:=aod r d off v.cells (by omega) rfl;have hle:i*sz+sz<=af.flatten.length:=by
      rw[po r,<-aqt];exact amE _ H
     exact WO j he a.2 m k (by omega) (λy c=>by
      rcases List.mem_or_eq_of_mem_set c with c|c
      ·exact r y c
      ·rw[c,NT (by omega)];exact z) F (by rw[WM];exact ae0 _)
    ·cases h
   ·cases h
  ·cases h
 grind
end
section
variable{P:Program}{X:Ctx}{B:Nat}{ay:World}
variable{G:Gh}{E:AS}{w:World}
theorem Hx(zc:Array Value)(b:0<zc.size): ∀ (k:Nat),(List.range (k*zc.size)).map (λi=>zc[i % zc.size]!)=(List.replicate k zc.toList).flatten
 |0=>by simp
 |k+1=>by
  have e: (k+1)*zc.size=zc.size+k*zc.size:=by grind
  rw[e,List.range_add,agp,ax7,ark,aoD,<-Hx zc b k]
  congr 1
  ·apply ang;intro j;by_cases a:j<zc.size
   ·simp[a,ane a]
   grind
  simp_all
theorem Ds{z:List AV}{vs:List Value}(a:aG G z vs): ∀ (k:Nat),bw G (List.replicate k z) (List.replicate k vs).flatten
 |0=>by rfl
 |k+1=>by
  exact⟨_,_,rfl,a,Ds a k⟩
theorem Hy(h:Leaves vs)(k:Nat):Leaves (List.replicate k vs).flatten:=by
 intro v a;simp only[List.mem_flatten,List.mem_replicate]at a;obtain⟨l,⟨_,rfl⟩,a⟩:=a;exact h v a
def WQ(h:xZ P t=some n): ∃i,P.info? t=some i/\i.bytes=n:=by
 unfold xZ at h;simp_all
def WR(h:cz P t=some n): ∃i,P.info? t=some i/\i.size=n:=by
 unfold cz at h;simp_all
def NW{i:TypeInfo}{z:Value}(a:P.info? t=some i)(h:zeroV P t=some z):i.zero=some z:=by
 unfold zeroV at h;grind
def aof(m:ba P B ay G E w){z:List AV}{bytes:Nat}(D:P.underlying t=some (.slice e))(C:hH P e=some z)(A:xZ P e=some bytes)(u:0<z.length)
  {l c:AV} {k q:Value} {v:AV} {E':AS} (n:an G l k) (p:an G c q) (h:NA E e z bytes l c=some (v,E')):mz P B ay G E v E' ((Instr.makeSlice t k q).run P w):=by
 unfold NA at h;split at h
 ·rename_i r l s c;split at h
  ·rename_i y;obtain⟨J,I,H,F⟩:=y;cases h;simp only[an]at n p;subst n p;obtain⟨i,o,rfl⟩:=WQ A;obtain⟨b,_,f,lz,d,j⟩:=r8 C G w;have a:i.size=z.length:=by unfold cz at j;grind
   have g:b.cells.size=z.length:=by exact lz.length
   rw[run_make w t e i b D o (NW o f) r s l c J I (by rw[Int.mul_comm];simp only[room]at H;omega) (by simp only[room]at F;omega)];have hm: (madeCells b.cells (c.toNat*i.size)).toList=(List.replicate l.toNat b.cells.toList).flatten++(List.replicate (c.toNat-l.toNat) b.cells.toList).flatten:=by
    unfold madeCells;rw[a,<-g,Array.toList_map,Array.toList_range,Hx _ (by omega)];rw[<-ana,aAB]
    grind
   refine Hw m e hm (λel x=>by grind) (Ds lz _) (Hy d _) (cap:=c.toNat) ?_ (by rw[List.length_replicate];omega) l.toNat (by simp) rfl m;simp[madeCells,a]
  grind
 grind
def aog(k:ba P B ay G E w){s d:TypeId}(p:P.underlying s=some .string)(o:P.underlying d=some (.slice e))(n:P.underlying e=some (.int .u8))(b:ByteArray):
  mz P B ay G E (.sl (rV b) false) E ((convert s d (.string b)).run P w):=by
 rw[run_bytes_of_string w s d e b p o n];have a:b.data.toList.length=b.size:=by simp
 obtain⟨hle,c⟩:=k.drew.Wm (bytesRow b (grownCap w b.size 0 e)) e ((bytesRow b (grownCap w b.size 0 e)).size,(bytesRow b (grownCap w b.size 0 e)).size+1) (b.data.toList.map λx=>Value.int .u8 x.toNat) (λj v h=>by
  unfold bytesRow
  grind)
 refine⟨_,_,_,rfl,hle,c,?_,.refl E⟩;have m: ∀ (G:Gh) (l:lB),bw G (l.map λx=>[AV.int .u8 x.toNat]) (l.map λx=>Value.int .u8 x.toNat):=by
  intro G l
  induction l with
  |nil=>rfl
  |cons x xs i=>exact⟨[_],_,rfl,by simp[aG,an],i⟩
 refine⟨w.heap.size,0,grownCap w b.size 0 e,1,_,?_,?_,by simp,?_,?_,?_,m _ _⟩
 ·simp[rV,a]
 ·simp only[rV,ae3,a];exact azU w b.size 0 e
 ·intro el f;simp only[rV,ago]at f
  grind
 ·intro j v h;simp only[Gh.freeze,alV];rw[aez (show w.heap.size=w.drew.heap.size from rfl)];exact h
 ·intro v g;simp only[ago]at g;obtain⟨x,_,rfl⟩:=g;rfl
def WS{z:List AV}{len:Nat}(q:P.underlying t=some (.slice e))(J:hH P e=some z)(A:0<z.length)(C:len*z.length<=65536)
   {f:Env}  (I:cN G nt f a.tmps) {j:Array (Nat×Operand)} {l:List (Nat×Nat×ao)}
  (F:parts (λi=>some (i*z.length,z.length)) j.toList=some l) {cs:List AV} (H:eG (List.replicate len z).flatten (l.map λp=>(p.1,p.2.1,p.2.2.get f))=some cs) (w:World):
  ∃c:Array Value,(Instr.buildSlice t len (j.map λ (i,x)=>(i,a.eval x))).run P w= .ok (.slice (some ⟨w.heap.size,0,none⟩) len len) (w.alloc (.cells c e))/\aG G cs c.toList/\Leaves c.toList:=by
 obtain⟨b,D,k,lz,u,m⟩:=r8 J G w;obtain⟨i,o,d⟩:=WR m;have y:b.cells.size=z.length:=by exact lz.length
 have hm: ((Array.range (len*i.size)).map (b.cells[· % b.cells.size]!)).toList=(List.replicate len b.cells.toList).flatten:=by grind [Array.toList_map,Array.toList_range,Hx]
 obtain⟨c,K,r,v⟩:=Hv (Dr:=λi=>some (i*z.length,z.length)) I (λi p h=>h) j.toList l _ cs ((Array.range (len*i.size)).map (b.cells[· % b.cells.size]!)) F H
  (by rw[hm];exact bw.iff.1 (Ds lz len)) (by grind [Hy])
 refine⟨c,?_,r,v⟩;have g:Instr.fill (λx=>some (x*i.size,i.size)) ((Array.range (len*i.size)).map (b.cells[· % b.cells.size]!)) (j.map λ (i,x)=>(i,a.eval x)).toList=some c:=by simp_all
 by_cases s:len*i.size=0
 ·have n:len=0:=by
    rcases Nat.mul_eq_zero.1 s with h|h
    ·exact h
    ·omega
  subst n;simp[Instr.buildSlice,aeA q,sizeOf,typeInfo,o,newRow,Array.range_zero'];simp[Array.range_zero']at g;simp_all
 ·exact run_buildSlice w t e len _ c i b q o (NW o k) (by rw[d];omega) s g
def aoh(n:ba P B ay G E w){z:List AV}{len:Nat}(A:P.underlying t=some (.slice e))(y:hH P e=some z)(d:0<z.length)(g:len*z.length<=65536)
   {b:Env}  (s:cN G nt b a.tmps) {h:Array (Nat×Operand)} {l:List (Nat×Nat×ao)}
  (o:parts (λi=>some (i*z.length,z.length)) h.toList=some l) {cs:List AV} (q:eG (List.replicate len z).flatten (l.map λp=>(p.1,p.2.1,p.2.2.get b))=some cs) (u:cs.length=len*z.length):
  mz P B ay G E (.sl (chunks z.length len cs) true) E ((Instr.buildSlice t len (h.map λ (i,x)=>(i,a.eval x))).run P w):=by
 obtain⟨c,C,r,m⟩:=WS A y d g s o q w;rw[C];obtain⟨hle,f⟩:=n.Wm c e (0,0) c.toList (λj v k=>by grind);refine⟨_,_,_,rfl,hle,f,?_,.refl E⟩;refine⟨w.heap.size,0,len,z.length,c.toList,by simp,by simp,λ_=>by simp,Dn (by omega),?_,m,?_⟩
 ·intro j v k;simp only[Gh.freeze,alV,ahJ];exact k
 ·rw[bw.iff,chunks_flatten (by omega),aeE (by omega)];exact r.mono hle
def aoi(h:ba P B ay G E w){z:List AV}{len:Nat}(u:P.underlying t=some (.slice e))(s:hH P e=some z)(d:0<z.length)(f:len*z.length<=65536)
   {b:Env}  (o:cN G nt b a.tmps) {g:Array (Nat×Operand)} {l:List (Nat×Nat×ao)}
  (m:parts (λi=>some (i*z.length,z.length)) g.toList=some l) {cs:List AV} (n:eG (List.replicate len z).flatten (l.map λp=>(p.1,p.2.1,p.2.2.get b))=some cs) (q:cs.length=len*z.length):
  mz P B ay G E (.ref E.heap.length 0 z.length 0 len false) (E.push (.row 0 z.length e (chunks z.length len cs))) ((Instr.buildSlice t len (g.map λ (i,x)=>(i,a.eval x))).run P w):=by
 obtain⟨c,v,r,j⟩:=WS u s d f o m n w;rw[v];have k:=r.length;refine Hw h e (vs:=c.toList) (post:=[]) (by simp) (Dn (by omega)) ?_ j (cap:=len) (by grind) (by simp) len (by simp) rfl h;rw[bw.iff,chunks_flatten (by omega),aeE (by omega)];exact r
theorem NX: ∀ {ps:List (Nat×Nat×AV)} {cs a:List AV},eG cs ps=some a->a.length=cs.length
 | [],cs,a,h=>by simp only[eG,adP]at h;grind
 | (off,n,v)::ps,cs,a,h=>by
   simp only[eG]at h;split at h
   ·rw[NX h,NT (by omega)]
   grind
end
section
variable{P:Program}{X:Ctx}{B:Nat}{ay:World}
variable{G:Gh}{E:AS}{w:World}
def Gh.eI(G:Gh)(id b base ew:Nat):Gh:=
 {G with bg:=λi=>if i=id then b else G.bg i,base:=λi=>if i=id then base else G.base i,aj:=λi=>if i=id then G.aj i+1 else G.aj i,ew:=λi=>if i=id then ew else G.ew i}
def Gh.WU(G:Gh)(id b base ew:Nat):G.le (G.eI id b base ew):=by
 refine .mk' (λ_ _ _ h=>h) (ae0 _) (λ_ _=>rfl) (λi _=>?_) (λi _ h=>?_)
 ·simp only[Gh.eI];grind
 ·simp only[Gh.eI]at h;split at h
  ·omega
  ·rename_i a;simp[Gh.eI,a]
structure NY(P:Program)(w:World)(sz:Nat)(xt:TypeId)(x':Value)(n:Nat)(new:List Value):Prop where
 len: (Builtin.lenOf x').run P w= .ok n w
 cells: ∀w',w'.heap=w.heap->(Builtin.firstCells sz n x').run P w'= .ok new.toArray w'
 type: (∃e,P.underlying xt=some (.slice e))\/P.underlying xt=some .string
def Dt{j ty:TypeId}{i:TypeInfo}(d:P.underlying t=some (.slice e))(f:P.info? e=some i){k:Value}{c:List Value}(b:NY P w i.size j k n c)
  {base:Option Addr} {jA mA:Nat} (h:jA+n<=mA)  (l: ∀a,base=some a->(storeCells (a.add (jA*i.size)) c).run P w= .ok () w') (m:base=none->w'=w):
  (Builtin.append_ #[t,j] ty #[.slice base jA mA,k]).run P w= .ok (.slice base (jA+n) mA) w':=by
 have g:=b.cells w rfl;cases base with
 |none=>
  have:=m rfl;subst this;rcases b.type with⟨o,hu⟩|hu
  ·simp[Builtin.append_,aeA d,aeA hu,sizeOf,typeInfo,f,b.len,g,h]
  ·simp[Builtin.append_,aeA d,aeA hu,sizeOf,typeInfo,f,b.len,g,h]
 |some a=>
  have:=l a rfl;rcases b.type with⟨o,hu⟩|hu
  ·simp[Builtin.append_,aeA d,aeA hu,sizeOf,typeInfo,f,b.len,g,h,this]
  ·simp[Builtin.append_,aeA d,aeA hu,sizeOf,typeInfo,f,b.len,g,h,this]
def Hz{j ty:TypeId}{i:TypeInfo}{z:Value}(m:P.underlying t=some (.slice e))(p:P.info? e=some i)(l:i.zero=some z){k:Value}{c:List Value}(g:NY P w i.size j k n c)
  {base:Option Addr} {jA mA:Nat} (h:mA<jA+n) {dO:List Value} (hold: ∀w',w'.heap=w.heap->(Builtin.firstCells i.size jA (.slice base jA mA)).run P w'= .ok dO.toArray w') (s:0<i.bytes) (b: (jA+n)*i.bytes<=room):
  (Builtin.append_ #[t,j] ty #[.slice base jA mA,k]).run P w= .ok (.slice (some ⟨w.heap.size,0,none⟩) (jA+n) (grownCap w (jA+n) mA e))
    (w.drew.alloc (.cells (dO.toArray++c.toArray++Builtin.zeroCells z.cells (grownCap w (jA+n) mA e- (jA+n))) e)):=by
 have o: ¬(jA+n<=mA):=by omega
 have q:=growslice_fits (bytes:=i.bytes) h (by simp only[room]at b;omega);have a: ¬(281474976710656<Builtin.nextslicecap (jA+n) mA*i.bytes):=by omega
 have f:i.bytes≠0:=by omega
 have r:=g.cells w.drew rfl;have d:=hold w.drew rfl;rcases g.type with⟨u,hu⟩|hu
 ·simp[Builtin.append_,aeA m,aeA hu,sizeOf,typeInfo,zeroValue,p,l,g.len,o,a,f,Question.forced,r,d,newRow,grownCap]
  congr 2;apply aqr;simp[aev]
 ·simp[Builtin.append_,aeA m,aeA hu,sizeOf,typeInfo,zeroValue,p,l,g.len,o,a,f,Question.forced,r,d,newRow,grownCap]
  congr 2;apply aqr;simp[aev]
def NZ(c:ba P B ay G E w){af:List (List AV)}{z:Value}{zc:Nat}(e:TypeId)(b:z.cells.size=sz)(d: ∀el∈af,el.length=sz)(g:bw G af vs)(h:Leaves vs)(a dO:Nat)(f:a=af.length):
  mz P B ay G E (.ref E.heap.length 0 sz 0 a false) (E.push (.row 0 sz e af)) (.ok (.slice (some ⟨w.heap.size,0,none⟩) a (grownCap w a dO e))
   (w.drew.alloc (.cells (vs.toArray++Builtin.zeroCells z.cells (grownCap w a dO e-a)) e))):=by
 have i:=azU w a dO e;refine Hw c e (post:=(Builtin.zeroCells z.cells (grownCap w a dO e-a)).toList) (by simp) d g h (cap:=grownCap w a dO e) ?_ (by omega) a f rfl c.drew;have:=g.len d;simp only[aAK,aAa,aAI,b,this,<-f];rw[<-ao3];grind
def WV{a b:List (List AV)}{u v:List Value}(h:bw G a u)(k:bw G b v):bw G (a++b) (u++v):=by
 rw[bw.iff,ana];exact(bw.iff.1 h).append (bw.iff.1 k)
def AS.Ext.eI{E:AS}{id:Nat}{ty c:TypeId}{af a:List (List AV)}{refs:Nat}(f:E.heap[id]?=some (.row aj sz ty af))(h:cb a<=max (cb af) refs):E.Ext (E.set id (.row b d c a) refs):=
 .set f λn e g=>by simp only[ae.le]at e⊢;omega
def aoj(l:ba P B ay G E w){xt ty:TypeId}{bytes:Nat}(C:P.underlying t=some (.slice e))(h2:cz P e=some sz)(h3:xZ P e=some bytes)(hz: (hH P e).isSome=true)(hb:0<bytes)
  {s v:AV} {s' x':Value} {ys:List (List AV)} {d:List Value} {E':AS} (x:an G s s') (Q:bw G ys d) (lf:Leaves d) (p:NY P w sz xt x' ys.length d)
  (h:dv E e sz bytes s ys=some (v,E')):mz P B ay G E v E' ((Builtin.append_ #[t,xt] ty #[s',x']).run P w):=by
 obtain⟨i,z,rfl⟩:=WQ h3;have r9:i.size=sz:=by unfold cz at h2;simpa[z]using h2
 subst r9;obtain⟨zz,hzz⟩:=asE.1 hz;obtain⟨z',_,hzv,lz,_,V⟩:=r8 hzz G w;have H:=NW z hzv;have F:z'.cells.size=i.size:=by
  have:cz P e=some i.size:=h2;rw[this]at V;rw[<-amq,lz.length];exact(ajL V).symm
 unfold dv at h;split at h
 ·rename_i hc;obtain⟨WW,uJ⟩:=hc;have hu:=NS uJ;split at h
  ·simp only[an]at x;subst x;split at h
   ·rename_i g;cases h;have U:d=[]:=by
     have:=Q.len hu;rw[g]at this;exact ajM.1 (by simpa using this)
    rw[g]at p;have:=Dt (ty:=ty) C z p (base:=none) (jA:=0) (mA:=0) (by simp) (w':=w) (by simp) (λ_=>rfl);rw[this];exact⟨G,w,_,rfl,G.le_refl,l,by simp[an],.refl E⟩
   ·rename_i g;split at h
    ·rename_i Z;cases h;rw[Hz C z H p (by omega) (dO:=[]) (λw' _=>by simp[Builtin.firstCells]) hb (by simpa using Z)];have:=NZ (zc:=0) l e F hu Q lf ys.length 0 rfl;simpa using this
    ·cases h
  ·rename_i af;have r:=x;simp only[an]at x;obtain⟨b,o,cap,sz,vs,rfl,d1,d2,d3,hf,D,m⟩:=x;have K:=d2 trivial;subst K;split at h
   ·rename_i g;cases h;have U:d=[]:=by
     have:=Q.len hu;rw[g]at this;exact ajM.1 (by simpa using this)
    rw[g]at p;have:=Dt (ty:=ty) C z p (base:=some ⟨b,o,none⟩) (jA:=af.length) (mA:=af.length) (by omega) (w':=w) (λa _=>by rw[U];simp[storeCells]) (by simp);rw[this];exact⟨G,w,_,rfl,G.le_refl,l,r,.refl E⟩
   ·rename_i g;split at h
    ·rename_i Z;obtain⟨Z,T⟩:=Z;have Y:=NS T;cases h;have W:=m.len Y;rw[Hz C z H p (by omega) (dO:=vs) (λw' hh=>by
      simp only[Builtin.firstCells];exact run_loadCells vs W (λj u q=>by
       have:=l.bD _ _ _ (hf j u q);simp only[World.cell?,hh]at this⊢;exact this)) hb Z]
     have:=NZ (zc:=0) (af:=af++ys) l e F (λel R=>(ae2.1 R).elim (Y el) (hu el)) (WV m Q) (D.append lf) (af.length+ys.length) af.length (by simp);simpa using this
    ·cases h
  ·rename_i af;have r:=x;simp only[an]at x;obtain⟨b,o,cap,sz,vs,rfl,d1,d2,d3,hf,D,m⟩:=x;split at h
   ·rename_i g;cases h;have U:d=[]:=by
     have:=Q.len hu;rw[g]at this;exact ajM.1 (by simpa using this)
    rw[g]at p;have:=Dt (ty:=ty) C z p (base:=some ⟨b,o,none⟩) (jA:=af.length) (mA:=cap) (by omega) (w':=w) (λa _=>by rw[U];simp[storeCells]) (by simp);rw[this];exact⟨G,w,_,rfl,G.le_refl,l,r,.refl E⟩
   ·cases h
  ·rename_i id aj aBC off len cK;have r:=x;simp only[an]at x;obtain⟨f,aBD,ad,cap,rfl,d1,d2,d3⟩:=x;split at h
   ·rename_i HA sz' ty' af he;split at h
    ·rename_i hc;obtain⟨c1,c2,c3,c4,c5,c6⟩:=hc;subst c1 c2 c3;have c4:=c4.symm;subst c4;obtain⟨g1,g2,g3,c,pre,vs,post,WX,kZ,J,N,m,D⟩:=l.obj id _ he f.2;obtain⟨f1,f2,f3⟩:=d3 g1;have W:=m.len g3;have hmul:off*i.size+len*i.size<=af.length*i.size:=by rw[<-ao3];exact amE _ c5
     have I:=Q.len hu;have hold: ∀w',w'.heap=w.heap->(Builtin.firstCells i.size len (.slice (some ad) len cap)).run P w'= .ok ((vs.drop (off*i.size)).take (len*i.size)).toArray w':=by
      intro w' hh;simp only[Builtin.firstCells];by_cases h0:len=0
      ·subst h0;simp[loadCells,loadCellsFrom]
      ·rw[f2 (by omega)];refine run_loadCells _ (by simp;omega) (λj u q=>?_);have S:w'.cell? ⟨G.bg id,G.base id+off*i.size+j,none⟩=c[G.base id+off*i.size+j]?:=cell_of_row w' _ _ c e (0,0) (by rw[hh];exact WX);rw[S];rw[amH]at q;split at q
       ·rw[al0]at q;have yd:=(adN.1 q).1;have:c.toList[G.base id+off*i.size+j]?=some u:=by
         rw[kZ,ags (by omega),acK (by omega),<-q]
         congr 1;omega
        simpa using this
       ·cases q
     have M: ∀el∈(af.drop off).take len++ys,el.length=i.size:=λel R=>(ae2.1 R).elim (λh=>g3 el (aoC (ahZ h))) (hu el)
     have y:bw G ((af.drop off).take len++ys) ((vs.drop (off*i.size)).take (len*i.size)++d):=WV (m.slice g3) Q;have L:Leaves ((vs.drop (off*i.size)).take (len*i.size)++d):=((D.drop _).take _).append lf;have O: ((af.drop off).take len++ys).length=len+ys.length:=by simp;omega
     split at h
     ·rename_i g;cases h;have U:d=[]:=by
       rw[g]at I;exact ajM.1 (by simpa using I)
      rw[g]at p;have:=Dt (ty:=ty) C z p (base:=some ad) (jA:=len) (mA:=cap) (by omega) (w':=w) (λa _=>by rw[U];simp[storeCells]) (by simp);rw[this];exact⟨G,w,_,rfl,G.le_refl,l,r,.refl E⟩
     ·rename_i g;split at h
      ·rename_i hcp;cases h;have K:=d2 hcp;rw[Hz C z H p (by omega) hold hb c6];have:=NZ (zc:=0) l e F M y L (len+ys.length) cap O.symm;simpa using this
      ·cases h;have hrefs:cb ((af.drop off).take len++ys)<=max (cb af) (cb ys):=by
        rw[wg,wg (af:=af),wg (af:=ys),ana,nW,Wu g3];have C:=WJ (a:=af.flatten.drop (off*i.size)) (n:=len*i.size);have h2:=WK (a:=af.flatten) (n:=off*i.size);omega
       by_cases A:len+ys.length<=cap
       ·have Du:=f2 (by omega);have WY:len*i.size+d.length<=cap*i.size:=by rw[I,<-ao3];exact amE _ A
        have qL:=NG (P:=P) d c w (G.base id+off*i.size+len*i.size) 0 WX (by omega) lf;rw[Dt (ty:=ty) C z p (base:=some ad) A (w':=eW w (G.bg id) (.cells (kX c (G.base id+off*i.size+len*i.size) d) e (0,0))) (λa hae=>by
         cases hae;rw[Du,jz];simpa using qL) (by simp)]
        have hle:=G.WU id (G.bg id) (G.base id+off*i.size) (G.ew id-off*i.size);refine⟨G.eI id (G.bg id) (G.base id+off*i.size) (G.ew id-off*i.size),_,_,rfl,hle,?_,?_,.eI he hrefs⟩
        ·refine l.set f _ _ hle rfl rfl (λj _ q=>by simp[Gh.eI,q]) (.inl (by simp[Gh.eI])) (by simp[Gh.eI];exact(l.low id f).2) (λk hk _=>Wn hk) (by simp) rfl rfl rfl ?_;refine⟨by simp[Gh.eI,g1],by simp[Gh.eI,g2],M,kX c (G.base id+off*i.size+len*i.size) d,pre++vs.take (off*i.size),(vs.drop (off*i.size)).take (len*i.size)++d,
          (vs++post).drop (off*i.size+(len*i.size+d.length)),?_,?_,?_,?_,y.mono hle,L⟩
         ·have: (G.eI id (G.bg id) (G.base id+off*i.size) (G.ew id-off*i.size)).bg id=G.bg id:=by simp[Gh.eI]
          rw[this];exact uG (l.low id f).2
         ·rw[Ho _ _ _ (by omega),kZ,<-J,ajK];rw[axW,aeE (by omega:pre.length<=pre.length+(off*i.size+len*i.size)),aid,atb (by omega)];rw[ajK pre.length,atm,ah2 (by omega:pre.length<=pre.length+(off*i.size+len*i.size+d.length)),aid,ah1];rw[List.take_add];simp[ajK]
         ·simp[Gh.eI,J];omega
         ·simp[Gh.eI,N];omega
        ·refine⟨f,by simp[Gh.eI,g1],ad,cap,rfl,⟨A,d1.2⟩,by simp,λ_=>⟨by simp[Gh.eI,g2],λ_=>by simp[Gh.eI,Du],by simp[Gh.eI];omega⟩⟩
       ·rw[Hz C z H p (by omega) hold hb c6];have hg:=azU w (len+ys.length) cap e;have hle:=G.WU id w.heap.size 0 (grownCap w (len+ys.length) cap e*i.size);have WZ:=(l.low id f).2;refine⟨G.eI id w.heap.size 0 (grownCap w (len+ys.length) cap e*i.size),_,_,rfl,hle,?_,?_,.eI he hrefs⟩
        ·refine l.set f _ _ hle rfl rfl (λj _ q=>by simp[Gh.eI,q]) (.inr (by simp[Gh.eI])) (by simp[Gh.eI]) (λk hk yd=>heap_alloc_old w.drew _ k yd) (by simp) rfl rfl rfl ?_;refine⟨by simp[Gh.eI,g1],by simp[Gh.eI,g2],M,((vs.drop (off*i.size)).take (len*i.size)).toArray++d.toArray++Builtin.zeroCells z'.cells (grownCap w (len+ys.length) cap e- (len+ys.length)),[],(vs.drop (off*i.size)).take (len*i.size)++d,(Builtin.zeroCells z'.cells (grownCap w (len+ys.length) cap e- (len+ys.length))).toList,?_,?_,by simp[Gh.eI],?_,y.mono hle,L⟩
         ·have: (G.eI id w.heap.size 0 (grownCap w (len+ys.length) cap e*i.size)).bg id=w.heap.size:=by simp[Gh.eI]
          rw[this];exact ao7 w.drew _
         ·simp
         ·have hvn: ((vs.drop (off*i.size)).take (len*i.size)).length=len*i.size:=by simp;omega
          simp only[aAK,aAa,aAI,F,hvn,I,Gh.eI,ahJ];rw[<-ao3,<-ao3,alV];congr 1;omega
        ·refine⟨f,by simp[Gh.eI,g1],_,_,rfl,⟨hg,rfl⟩,by simp,λ_=>⟨by simp[Gh.eI,g2],λ_=>by simp[Gh.eI],by simp[Gh.eI]⟩⟩
    ·cases h
   ·cases h
  ·cases h
 grind
end
section
variable{P:Program}{X:Ctx}{B:Nat}{ay:World}
variable{G:Gh}{E:AS}{w:World}
def aoq(i:ba P B ay G E w){d ty j:TypeId}{bytes:Nat}(y:P.underlying t=some (.slice e))(c:P.underlying d=some (.slice j))(u:cz P e=some sz)(r:xZ P e=some bytes)(l: (hH P e).isSome=true)(q:0<bytes)
  {s v x:AV} {g f:Value} {ys:List (List AV)} {E':AS} (o:an G s g) (n:an G x f) (m:elems E sz x=some ys) (h:dv E e sz bytes s ys=some (v,E')):
  mz P B ay G E v E' ((Builtin.append_ #[t,d] ty #[g,f]).run P w):=by
 obtain⟨vs,p,k,hu,b,⟨a,cap,rfl,_⟩,A⟩:=WI i n m;refine aoj i y u r l q o p k ⟨by rfl,λw' z=>?_,.inl ⟨j,c⟩⟩ h
 grind
def aor(l:lB):bw G (l.map λx=>[AV.int .u8 x.toNat]) (l.map λx=>Value.int .u8 x.toNat):=by
 induction l with
 |nil=>rfl
 |cons x xs a=>exact⟨[_],_,rfl,by simp[aG,an],a⟩
def W4{a:EK}(h:AD P t=some a): ∃u,P.underlying t=some u/\kindOk a u/\ (a= .bool\/a= .int\/a= .str):=by
 unfold AD at h;split at h
 ·rename_i hu;cases h;exact⟨_,hu,rfl,.inl rfl⟩
 ·rename_i hu;cases h;exact⟨_,hu,⟨_,rfl⟩,.inr (.inl rfl)⟩
 ·rename_i hu;cases h;exact⟨_,hu,rfl,.inr (.inr rfl)⟩
 grind
def W5{a:EK}{k:AV}(h:kR a k=true):isKey k=true:=by
 cases a<;>cases k<;>simp[kR]at h<;>rfl
def HB{g:EK}{u:TypeDesc}{k d:AV}{k' a:Value}{b:Bool}(j:kR g k=true)(i:kindOk g u)(m:an G k k')(l:an G d a)(h:o9 k d=some b):
  Instr.sameNow u k' a=some b/\ (b=true->Instr.sameBits 10000 a k'=true):=by
 unfold o9 at h;split at h
 ·split at h
  ·rename_i e;subst e;cases h;subst m l;cases g<;>simp[kR]at j;obtain⟨q,rfl⟩:=i;refine⟨by simp[Instr.sameNow],λf=>?_⟩;have c:=eq_of_beq f;subst c;simp[Instr.sameBits]
  grind
 ·cases h;subst m l;cases g<;>simp[kR]at j;subst i;refine⟨by rfl,λf=>?_⟩;rw[beq_toListBytes]at f;have c:=eq_of_beq f;simp only[Instr.sameBits];rw[beq_toListBytes,c];simp
 ·cases h;subst m l;cases g<;>simp[kR]at j;simp only[kindOk]at i;subst i;refine⟨by rfl,λf=>?_⟩;have c:=eq_of_beq f;subst c;simp[Instr.sameBits]
 grind
theorem N0{g:EK}{u:TypeDesc}{k:AV}{k':Value}(d:kR g k=true)(c:kindOk g u)(e:an G k k'): ∀ (es:List (AV×AV)) (ms:List MapEntry) (i:Nat) (r:Option AV),fN G es ms->eu k es=some r->
  match r with
  |none=>Instr.findNow u k' ms i=some none
  |some v=> ∃j v',Instr.findNow u k' ms i=some (some (j,v'))/\an G v v'
 | [],ms,i,r,hm,h=>by
   subst hm;simp only[eu,adP]at h;subst h;simp[Instr.findNow]
 | (k₂,f)::es,ms,i,r,hm,h=>by
   obtain⟨m,q,rfl,_,a,b,hm⟩:=hm;simp only[eu]at h;split at h
   ·rename_i he;cases h;have:=(HB d c e a he).1;exact⟨i,m.val,by simp[Instr.findNow,this],b⟩
   ·rename_i he;have n:=(HB d c e a he).1;have l:=N0 d c e es q (i+1) r hm h;cases r with
    |none=>simpa[Instr.findNow,n]using l
    |some v=>simpa[Instr.findNow,n]using l
   grind
def aos{u:TypeDesc}(h:P.underlying t=some u)(a:u= .bool\/ (∃k,u= .int k)\/u= .string)(b:Bool)(n:Nat)(v:Value)(w:World): (Instr.checkKey b (n+1) t v).run P w= .ok () w:=by
 rcases a with rfl| ⟨q,rfl⟩|rfl<;>simp[Instr.checkKey,aeA h]
def N2{a:EK}{u:TypeDesc}(h:P.underlying t=some u)(d:kindOk a u)(c:a= .bool\/a= .int\/a= .str)(b:Bool)(v:Value)(w:World): (Instr.checkKey b 10000 t v).run P w= .ok () w:=by
 refine aos h ?_ b 9999 v w;rcases c with rfl|rfl|rfl
 ·exact .inl d
 ·exact .inr (.inl d)
 ·exact .inr (.inr d)
def aot(O:ba P B ay G E w){X:Ctx}(R:fC X B ay){M J:TypeId}{N:EK}{z:AV}(I:P.underlying t=some (.map M J))(T:AD P M=some N)(S:x0 P J=some z){m k v:AV}{m' k':Value}{d:Bool}(y:an G m m')(Q:an G k k')
  (h:jx X.fV E N z m k d=some v): ∃v',(Instr.lookup t m' k' d).run P w= .ok v' w/\an G v v':=by
 obtain⟨u,hu,o,H⟩:=W4 T;obtain⟨K,V,_,rz⟩:=NN S G w;unfold jx at h;split at h
 ·rename_i n;split at h
  ·rename_i es a;obtain⟨c,ms,F,A,f⟩: ∃ (c:List (AV×AV)) (ms:Array MapEntry),(m'= .map none/\ms= #[]\/ ∃r clock,m'= .map (some r)/\w.heap[r]?=some (.map ms clock))/\fN G c ms.toList/\ ∀k v,eu k es=some v->eu k c=some v:=by
    unfold mapOf at a;split at a
    ·cases a;simp only[an]at y;subst y;exact⟨[],#[],.inl ⟨rfl,rfl⟩,by simp[fN],λ_ _ h=>h⟩
    ·rename_i g;obtain⟨c,r,ms,clock,e1,Z,e3,Y⟩:=R.anz O a y;exact⟨c,ms,.inr ⟨r,clock,e1,Z⟩,e3,Y⟩
    ·rename_i id;split at a
     ·rename_i c he;cases a;obtain⟨U,ms,clock,C,i⟩:=O.obj id _ he y.Hm;simp only[an]at y;obtain⟨_,r,rfl,D⟩:=y;have W:=D U;subst W;exact⟨_,ms,.inr ⟨_,clock,rfl,C⟩,i,λ_ _ h=>h⟩
     ·cases a
    ·cases a
   have ai: ∀ (r:Option (Nat×Value)) (v:Value),Instr.findNow u k' ms.toList 0=some r->(match r with|some (_,x)=>v=x|none=>(zeroValue J).run P w= .ok v w)->
     (Instr.lookup t m' k' d).run P w= .ok (if d then .tuple #[v,.bool r.isSome]else v) w:=by
    intro r v l i;have s:=λb=>N2 hu o H b k' w
    rcases F with⟨rfl,rfl⟩| ⟨q,clock,rfl,C⟩
    ·cases r with
     |none=>simp only at i;cases d<;>simp[Instr.lookup,aeA I,s,Instr.findKey,aeA hu]<;>(simp at l;simp[l,i])
     |some p=>obtain⟨j,x⟩:=p;simp only at i;subst i;simp[Instr.findNow]at l
    ·cases r with
     |none=>simp only at i;cases d<;>simp[Instr.lookup,aeA I,s,Instr.findKey,aeA hu,i,getObj,Sem.run,C,l]
     |some p=>obtain⟨j,x⟩:=p;simp only at i;subst i;cases d<;>simp[Instr.lookup,aeA I,s,Instr.findKey,aeA hu,getObj,Sem.run,C,l]
   split at h
   ·rename_i L l;cases h;obtain⟨j,v',e,rv⟩:=N0 n o Q c ms.toList 0 _ A (f _ _ l);refine⟨if d then .tuple #[v',.bool true]else v',?_,?_⟩
    ·exact ai _ _ e rfl
    ·cases d
     ·exact rv
     ·exact⟨_,rfl,⟨_,_,rfl,rv,⟨_,_,rfl,by simp[an],by simp[aG]⟩⟩⟩
   ·rename_i l;cases h;have e:=N0 n o Q c ms.toList 0 _ A (f _ _ l);refine⟨if d then .tuple #[K,.bool false]else K,?_,?_⟩
    ·exact ai _ _ e V
    ·cases d
     ·exact rz
     ·exact⟨_,rfl,⟨_,_,rfl,rz,⟨_,_,rfl,by simp[an],by simp[aG]⟩⟩⟩
   grind
  grind
 grind
theorem W7{x:EK}{u:TypeDesc}{k v:AV}{k' v':Value}(g:kR x k=true)(r:kindOk x u)(n:an G k k')(p:an G v v'): ∀ (es b:List (AV×AV)) (ms:List MapEntry) (i:Nat),fN G es ms->lU k v es=some b->
  (Instr.findNow u k' ms i=some none/\ ∀born,fN G b (ms++[{key:=k',val:=v',born}]))\/
  ∃j a m,Instr.findNow u k' ms i=some (some (i+j,a))/\ms[j]?=some m/\Instr.sameBits 10000 m.key k'=true/\fN G b (ms.modify j λe=>{e with key:=k',val:=v'})
 | [],b,ms,i,hm,h=>by
   subst hm;simp only[lU,adP]at h;subst h;exact .inl ⟨by rfl,λborn=>⟨_,_,rfl,W5 g,n,p,by rfl⟩⟩
 | (k₂,t)::es,b,ms,i,hm,h=>by
   simp only[fN]at hm;obtain⟨m,q,rfl,l,c,f,hm⟩:=hm;simp only[lU]at h;split at h
   ·rename_i he;cases h;obtain⟨o,z⟩:=HB g r n c he;refine .inr ⟨0,m.val,m,by simp[Instr.findNow,o],rfl,z rfl,?_⟩;exact⟨_,_,rfl,W5 g,n,p,hm⟩
   ·rename_i he;obtain⟨o,_⟩:=HB g r n c he;cases y:lU k v es with
    |none=>grind
    |some d=>
     simp only[y,agl,adP]at h;subst h;rcases W7 g r n p es d q (i+1) hm y with⟨e1,s⟩| ⟨j,a,m',e1,s,e3,A⟩
     ·refine .inl ⟨by simpa[Instr.findNow,o]using e1,λborn=>⟨_,_,rfl,l,c,f,s born⟩⟩
     ·refine .inr ⟨j+1,a,m',?_,by simpa using s,e3,?_⟩
      ·simp only[Instr.findNow,o];rw[e1];congr 3;omega
      ·simp only[List.modify_succ_cons];exact⟨_,_,rfl,l,c,f,A⟩
   grind
theorem W8{k v:AV}{n:Nat}: ∀ {es a:List (AV×AV)},lU k v es=some a->(∀p∈es,p.2.refs<=n)->v.refs<=n-> ∀p∈a,p.2.refs<=n
 | [],a,h,_,f=>by
   simp only[lU,adP]at h;grind
 | (k₂,e)::es,a,h,c,f=>by
   simp only[lU]at h;split at h
   ·grind
   ·cases g:lU k v es with
    |none=>grind
    |some d=>
     simp only[g,agl,adP]at h;subst h;intro p b;rcases agF.1 b with rfl|b
     ·simp_all
     ·exact W8 g (λp h=>c p (by grind)) f p b
   grind
def aou(d:ba P B ay G E w){A N:TypeId}{C:EK}(H:P.underlying t=some (.map A N))(M:AD P A=some C){m k v:AV}{m' k':Value}{E':AS}(o:an G m m')(L:an G k k')(I:an G v v')
  (h:mw E C m k v=some E'):AM P B ay G E E' ((Instr.mapUpdate t m' k' v').run P w):=by
 obtain⟨u,hu,b,g⟩:=W4 M;unfold mw at h;split at h
 ·rename_i i;split at h
  ·rename_i id;split at h
   ·rename_i es he;split at h
    ·rename_i l D;cases h;obtain⟨s,ms,clock,F,J⟩:=d.obj id _ he o.Hm;have c:G.on id:=⟨by rw[d.len];grind,o.Hm⟩;simp only[an]at o;obtain⟨_,r,rfl,q⟩:=o;rw[q s];have a:E.Ext (E.set id (.map l) v.refs):=.set he λn K p=>W8 D K p
     have f:=(d.low id c).2;rcases W7 i b L I es l ms.toList 0 J D with⟨e1,y⟩| ⟨j,z,m',e1,y,e3,O⟩
     ·refine⟨G,eW w (G.bg id) (.map (ms.push {key:=k',val:=v',born:=clock}) (clock+1)),?_,G.le_refl,d.put c _ ⟨s,_,_,uG f,by simpa using y clock⟩,a⟩;simp[Instr.mapUpdate,aeA H,getObj,setObj,Sem.run,F,N2 hu b g,Instr.findKey,aeA hu,e1,eW]
     ·rw[alV]at e1;have x:ms[j]?=some m':=by simpa using y
      refine⟨G,eW w (G.bg id) (.map (ms.modify j λe=>{e with key:=k',val:=v'}) clock),?_,G.le_refl,d.put c _ ⟨s,_,_,uG f,by simpa using O⟩,a⟩;simp[Instr.mapUpdate,aeA H,getObj,setObj,Sem.run,F,N2 hu b g,Instr.findKey,aeA hu,e1,eW,Instr.keyThatStays,x,e3]
    grind
   grind
  grind
 grind
end
section
variable{P:Program}{X:Ctx}{B:Nat}{ay:World}
variable{G:Gh}{E:AS}{w:World}
def N3{a a':Addr}{b:List Value}(h:b=[]\/a=a'):storeCells a b=storeCells a' b:=by
 rcases h with rfl|rfl
 ·rfl
 ·rfl
def W9{af:List (List AV)}:cb (af.take n)<=cb af:=by
 induction af generalizing n with
 |nil=>simp
 |cons x xs a=>
  cases n with
  |zero=>simp[cb]
  |succ n=>simp only[aqG,cb];grind
def Xa(f:ba P B ay G E w){id:Nat}{ty:TypeId}{af b:List (List AV)}(g:E.heap[id]?=some (.row aj sz ty af))(e:G.pz id=none){d:List Value}{off:Nat}(m:bw G b d)(i:Leaves d)(k: ∀el∈b,el.length=sz)(h:off+b.length<=af.length)
  {refs:Nat} (l:cb b<=refs) {a:Addr} (p:d=[]\/a=⟨G.bg id,G.base id+off*sz,none⟩):
  AM P B ay G E (E.set id (.row aj sz ty (af.take off++(b++af.drop (off+b.length)))) refs) ((storeCells a d).run P w):=by
 rw[N3 p];obtain⟨_,_,c,_⟩:=f.obj id _ g e;have n:=po c;have j:=po k;have hm:off*sz+b.length*sz<=af.length*sz:=by rw[<-ao3];exact amE _ h
 refine WO f g e (bw.iff.1 m) i (by omega) (λel o=>?_) ?_ (by rw[<-wg];exact l)
 ·grind
 ·rw[ana,ana,Hs c,NJ c];unfold aJ
  grind
def aov(r:ba P B ay G E w){st ty:TypeId}(J:P.underlying t=some (.slice e))(h2:cz P e=some sz){d s v:AV}{K y:Value}{E':AS}(u:an G d K)(N:an G s y)(h:rW E sz d s=some (v,E')):
  mz P B ay G E v E' ((Builtin.copy_ #[t,st] ty #[K,y]).run P w):=by
 obtain⟨i,hi,rfl⟩:=WR h2;unfold rW at h;split at h
 ·rename_i ys q;have src: ∃vs,bw G ys vs/\Leaves vs/\ (∀el∈ys,el.length=i.size)/\ (Builtin.lenOf y).run P w= .ok ys.length w/\ ∀n,n<=ys.length->(Builtin.firstCells i.size n y).run P w= .ok (vs.take (n*i.size)).toArray w:=by
   unfold Df at q;split at q
   ·rename_i b;split at q
    ·rename_i J;cases q;simp only[an]at N;subst N;refine⟨b.data.toList.map λx=>Value.int .u8 x.toNat,aor _,?_,?_,by simp[Builtin.lenOf,rV],λn hn=>?_⟩
     ·intro v Z;simp only[ago]at Z;obtain⟨x,_,rfl⟩:=Z;rfl
     ·intro el f;simp only[rV,ago]at f;obtain⟨x,_,rfl⟩:=f;rw[J];rfl
     ·rw[J];simp only[Builtin.firstCells,Sem.run_pure]
      congr 1
      apply aqr;simp[]
    ·cases q
   ·obtain⟨vs,I,F,hu,H,⟨a,cap,rfl,_⟩,S⟩:=WI r N q;exact⟨vs,I,F,hu,by simp[Builtin.lenOf],λn hn=>S w rfl n hn⟩
  obtain⟨vs,I,F,hu,R,S⟩:=src;have key: ∀ (base:Option Addr) (c m:Nat),K= .slice base c m->(Builtin.copy_ #[t,st] ty #[K,y]).run P w=
    ((match base with|some b=>storeCells b (vs.take (Nat.min ys.length c*i.size))|none=>pure ():Sem Unit).run P w).andThen λ_ w'=>.ok (goInt (Nat.min ys.length c)) w':=by
   rintro base c m rfl;have:=S (Nat.min ys.length c) (Nat.min_le_left _ _);cases base<;>simp[Builtin.copy_,aeA J,R,sizeOf,typeInfo,hi,this]
  split at h
  ·cases h;simp only[an]at u;rw[key none 0 0 u];exact⟨G,w,_,rfl,G.le_refl,r,by simp[an,goInt],.refl E⟩
  ·rename_i id aj L off len cK;split at h
   ·rename_i W M ty' af he;split at h
    ·rename_i T;obtain⟨U,c2,c3,c4⟩:=T;subst U c2 c3;cases h;simp only[an]at u;obtain⟨g,Y,D,k,e1,d1,d2,d3⟩:=u;obtain⟨f1,f2,f3⟩:=d3 (r.obj id _ he g.2).1;rw[key (some D) len k e1];have Q:Nat.min ys.length len<=ys.length:=Nat.min_le_left ys.length len;have C:Nat.min ys.length len<=len:=Nat.min_le_right ys.length len;have z: (ys.take (Nat.min ys.length len)).length=Nat.min ys.length len:=by rw[agw];omega
     have p:bw G (ys.take (Nat.min ys.length len)) (vs.take (Nat.min ys.length len*i.size)):=by
      have:=I.slice (l:=0) (n:=Nat.min ys.length len) hu;simpa using this
     obtain⟨V,w',O,hle,o,j⟩:=Xa r he g.2 p (F.take _) (λel f=>hu el (ahZ f)) (off:=off) (by omega) (refs:=cb ys) W9 (a:=D) (by
      by_cases h0:len=0
      ·left;have:Nat.min ys.length len=0:=by omega
       rw[this];simp
      ·right;rw[f2 (by omega)])
     rw[O,z]at*;exact⟨V,w',_,rfl,hle,o,by simp[an,goInt],j⟩
    ·cases h
   ·cases h
  ·rename_i id M off len;split at h
   ·rename_i cs he;split at h
    ·rename_i T;obtain⟨U,c2,c3⟩:=T;subst U;cases h;simp only[an]at u;obtain⟨g,D,k,e1,d1,d2⟩:=u;rw[key (some D) len k e1];have Q:Nat.min ys.length len<=ys.length:=Nat.min_le_left ys.length len;have C:Nat.min ys.length len<=len:=Nat.min_le_right ys.length len;have z: (ys.take (Nat.min ys.length len)).flatten.length=Nat.min ys.length len*i.size:=by rw[po λel f=>hu el (ahZ f),agw];congr 1;omega
     have p:aG G (ys.take (Nat.min ys.length len)).flatten (vs.take (Nat.min ys.length len*i.size)):=by
      rw[Hs hu];exact(bw.iff.1 I).take _
     have hmm:Nat.min ys.length len*i.size<=len*i.size:=amE _ C;have A:=NV r he g.2 p (F.take _) (off:=off) (by omega) (refs:=cb ys) (by rw[<-wg];exact W9);simp only;rw[N3 (a:=D) (a':=⟨G.bg id,off,none⟩) (by
      by_cases h0:len=0
      ·left;have:Nat.min ys.length len=0:=by omega
       rw[this];simp
      ·right;exact d2 (AI r he g.2).1 (by omega))]
     obtain⟨V,w',O,hle,o,j⟩:=A;rw[O];exact⟨V,w',_,rfl,hle,o,by simp[an,goInt],j⟩
    ·cases h
   ·cases h
  grind
 grind
def aow(zc:Array Value)(k:Nat): (Builtin.zeroCells zc k).toList=(List.replicate k zc.toList).flatten:=by
 unfold Builtin.zeroCells;rw[Array.toList_map,Array.toList_range];by_cases a:0<zc.size
 ·exact Hx zc a k
 simp_all
def aox(l:ba P B ay G E w){ty:TypeId}{z:List AV}(v:P.underlying t=some (.slice e))(O:hH P e=some z){x:AV}{p:Value}{E':AS}(j:an G x p)(h:rX E z x=some E'):
  mz P B ay G E .undef E' ((Builtin.clear_ #[t] ty #[p]).run P w):=by
 obtain⟨D,Q,_,lz,k,_⟩:=r8 O G w;have key: ∀ (a:Addr) (n c:Nat),p= .slice (some a) n c->(Builtin.clear_ #[t] ty #[p]).run P w=
   ((storeCells a (List.replicate n D.cells.toList).flatten).run P w).andThen λ_ w'=>.ok (.tuple #[]) w':=by
  rintro a n c rfl;cases n with
  |zero=>simp[Builtin.clear_,aeA v,storeCells]
  |succ n=>
   have:=aow D.cells (n+1);simp only[Builtin.clear_];simp[aeA v,Q,<-this]
 unfold rX at h;split at h
 ·cases h;simp only[an]at j;subst j;exact⟨G,w,.tuple #[],by simp[Builtin.clear_,aeA v],G.le_refl,l,⟨_,rfl,by simp[aG]⟩,.refl E⟩
 ·rename_i id aj q off len cK;split at h
  ·rename_i F L K af he;split at h
   ·rename_i u;obtain⟨A,J,I,R,S⟩:=u;subst A J I;cases h;simp only[an]at j;obtain⟨d,H,o,f,e1,d1,d2,d3⟩:=j;obtain⟨f1,f2,f3⟩:=d3 (l.obj id _ he d.2).1;rw[key o len f e1];obtain⟨C,w',s,hle,g,b⟩:=Xa l he d.2 (Ds lz len) (Hy k len) (λel i=>by rw[asG i]) (off:=off) (by simpa using R) (refs:=0) (by
      rw[wg];have: ∀n,aI (List.replicate n z).flatten<=0:=by
       intro n
       induction n with
       |zero=>simp[aI]
       |succ n M=>simp only[ark,aoD,nW];omega
      exact this len) (a:=o) (by
     by_cases y:len=0
     ·left;rw[y];simp
     ·right;rw[f2 (by omega)])
    rw[s];rw[List.length_replicate]at g b;exact⟨C,w',_,rfl,hle,g,⟨_,rfl,by simp[aG]⟩,b⟩
   ·cases h
  ·cases h
 ·rename_i id sz off len;split at h
  ·rename_i cs he;split at h
   ·rename_i u;obtain⟨A,J,I⟩:=u;subst A;cases h;simp only[an]at j;obtain⟨d,o,f,e1,d1,d2⟩:=j;rw[key o len f e1];have r:=Ds lz len;have N: (List.replicate len z).flatten.length=len*z.length:=by rw[po (sz:=z.length) λel i=>by rw[asG i]];simp
    have m:=NV l he d.2 (bw.iff.1 r) (Hy k len) (off:=off) (by omega) (refs:=0) (by
     have: ∀n,aI (List.replicate n z).flatten<=0:=by
      intro n
      induction n with
      |zero=>simp[aI]
      |succ n M=>simp only[ark,aoD,nW];omega
     exact this len)
    rw[N3 (a:=o) (a':=⟨G.bg id,off,none⟩) (by
     by_cases y:len=0
     ·left;rw[y];simp
     ·right;exact d2 (AI l he d.2).1 (by omega))]
    obtain⟨C,w',s,hle,g,b⟩:=m;rw[s];exact⟨C,w',_,rfl,hle,g,⟨_,rfl,by simp[aG]⟩,b⟩
   ·cases h
  ·cases h
 grind
def aBG(d:P.cellsOf e=1)(a off n:Nat)(c:off+n<=a):liesAt P P.depth e a off e n=true:=by
 have b:P.depth=(2*(P.types.size+Made.depth)+1)+1:=rfl;rw[b];simp only[liesAt,aoS];rw[b];simp[rowAt,d,c,sameLayout,Nat.mod_one]
theorem aoy{w:World}: ∀ (a:List Int) (b o:Nat) (acc:ByteArray),(∀ (j:Nat) (u:Value),(a.map (Value.int .u8))[j]?=some u->w.cell? ⟨b,o+j,none⟩=some u)->
  (loadBytes ⟨b,o,none⟩ acc a.length).run P w= .ok ⟨acc.data++(a.map λn=>UInt8.ofNat n.toNat).toArray⟩ w
 | [],b,o,acc,_=>by rfl
 |n::a,b,o,acc,h=>by
  have c:w.cell? ⟨b,o,none⟩=some (.int .u8 n):=by
   have:=h 0 (.int .u8 n) rfl;omega
  have d:=aoy a b (o+1) (acc.push n.toNat.toUInt8) (λj u e=>by
   have:=h (j+1) u (by grind);rw[show o+1+j=o+(j+1) by omega];omega)
  simp only[agt,loadBytes,Sem.run_bind,run_load,c,Result.andThen_ok,jz];simp_all
def aBH(w:World)(a:Addr)(n:Nat): (w.freeze a n).heap.size=w.heap.size:=by
 unfold World.freeze;grind
def aBI{w:World}{a:Addr}(h:k≠a.block): (w.freeze a n).heap[k]?=w.heap[k]?:=by
 unfold World.freeze
 grind
def aBJ(w:World)(a:Addr)(n:Nat): (w.freeze a n).os=w.os/\ (w.freeze a n).tape=w.tape/\ (w.freeze a n).output=w.output:=by
 unfold World.freeze;grind
end
section
variable{P:Program}{X:Ctx}{B:Nat}{ay:World}
variable{G:Gh}{E:AS}{w:World}
def fD{s:Sem Value}{v:AV}(hw:ba P B ay G E w)(h: ∃v',s.run P w= .ok v' w/\an G v v'):Good P B ay G E v E ((do pure (.value (<-s)):Sem Next).run P w):=by
 obtain⟨v',e,r⟩:=h;simp only[Sem.run_bind,e,Result.andThen_ok,Sem.run_pure];exact .same hw r
def sa{s:Sem Value}{v:AV}{E':AS}(h:mz P B ay G E v E' (s.run P w)):Good P B ay G E v E' ((do pure (.value (<-s)):Sem Next).run P w):=by
 obtain⟨g,w',v',e,f,d,c,b⟩:=h;simp only[Sem.run_bind,e,Result.andThen_ok,Sem.run_pure];exact⟨g,w',v',.inl rfl,f,d,c,b⟩
def Xb{s:Sem Unit}{E':AS}(h:AM P B ay G E E' (s.run P w)):Good P B ay G E .undef E' ((do s;pure .skip:Sem Next).run P w):=by
 obtain⟨f,w',e,d,c,b⟩:=h;simp only[Sem.run_bind,e,Result.andThen_ok,Sem.run_pure];exact⟨f,w',undef,.inr ⟨rfl,rfl⟩,d,c,⟨#[],rfl,by rfl⟩,b⟩
def ez{E E':AS}{o:Option AV}{v:AV}(h:fW E o=some (.ok v E')):o=some v/\E'=E:=by
 cases o with
 |none=>trivial
 |some a=>simp[fW]at h;grind
def ye{e:Env}(he:cN G nt e a.tmps){x:Option Operand}{y:Option ao}(h:uD x=some y):l0 G (y.map (·.get e)) (x.map a.eval):=by
 cases x with
 |none=>simp only[uD,adP]at h;subst h;simp[l0]
 |some x=>
  simp only[uD]at h;cases b:bM x with
  |none=>grind
  |some z=>simp[b]at h;subst h;exact⟨_,rfl,cG he b⟩
def Xc{x:Option Operand}{y:Option ao}(h:uD x=some y):y.isNone=x.isNone:=by
 cases x with
 |none=>simp only[uD,adP]at h;grind
 |some x=>
  simp only[uD]at h;cases b:bM x with
  |none=>grind
  |some z=>grind
def I.plain:I->Bool
 |.call .. |.panic _=>false
 |_=>true
section
variable(hw:ba P B ay G E w)(hg:fC X B ay){nt:Nat}{e:Env}{a:Act}(he:cN G nt e a.tmps)(C:bE)
include hw hg he
omit hg in
theorem aoz{f:TypeId}{c:Call}{i:I}(h:Di P f c=some i)(S:i.plain=true){v:AV}{E':AS}(j:exec X C i e E=some (.ok v E')):
  Good P B ay G E v E' ((do let d<-resolve a.eval c f;invoke d.target d.args:Sem Next).run P w):=by
 obtain⟨callee,args,argTypes⟩:=c;unfold Di at h;split at h
 case h_1=>
  split at h
  ·cases h;simp[I.plain]at S
  ·cases h
 case h_2 t x l n o=>
  simp only at l n o;subst l;have q:args= #[x]:=by apply aqr;simpa using o
  have p:argTypes= #[t]:=by apply aqr;simpa using n
  subst q p;have g: (do let d<-resolve a.eval ⟨.builtin .len,#[x],#[t]⟩ f;invoke d.target d.args:Sem Next)=(do pure (.value (<-Builtin.len_ #[t] f ((#[x]:Array Operand).map a.eval)))):=rfl;rw[g,show(#[x]:Array Operand).map a.eval= #[a.eval x] by simp];split at h
  ·rename_i hu;cases ho:bM x with
   |none=>simp[ho]at h
   |some y=>
    simp only[ho,agl,adP]at h;subst h;obtain⟨m,rfl⟩:=ez j;exact fD hw (NQ (k:=.str) hw hu rfl (cG he ho) m)
  ·rename_i hu;cases ho:bM x with
   |none=>simp[ho]at h
   |some y=>
    simp only[ho,agl,adP]at h;subst h;obtain⟨m,rfl⟩:=ez j;exact fD hw (NQ (k:=.sl) hw hu ⟨_,rfl⟩ (cG he ho) m)
  ·rename_i hu;cases ho:bM x with
   |none=>simp[ho]at h
   |some y=>
    simp only[ho,agl,adP]at h;subst h;obtain⟨m,rfl⟩:=ez j;exact fD hw (NQ (k:=.map) hw hu ⟨_,_,rfl⟩ (cG he ho) m)
  ·cases h
 case h_3 st A s x l n o=>
  simp only at l n o;subst l;have q:args= #[s,x]:=by apply aqr;simpa using o
  have p:argTypes= #[st,A]:=by apply aqr;simpa using n
  subst q p;have g: (do let d<-resolve a.eval ⟨.builtin .append,#[s,x],#[st,A]⟩ f;invoke d.target d.args:Sem Next)=(do pure (.value (<-Builtin.append_ #[st,A] f ((#[s,x]:Array Operand).map a.eval)))):=rfl;rw[g,show(#[s,x]:Array Operand).map a.eval= #[a.eval s,a.eval x] by simp];split at h
  ·rename_i el hu;split at h
   ·rename_i sz b Q V K J H F;split at h
    ·rename_i U D;split at h
     ·rename_i O;cases h;simp only[exec]at j;split at j
      ·rename_i ys R;split at j
       ·rename_i v' u L;cases j;exact sa (aoq hw hu D K J O.2 O.1 (cG he H) (cG he F) R L)
       ·cases j
      ·cases j
     ·cases h
    ·cases h
   ·cases h
  ·cases h
 case h_4 N st d s l n o=>
  simp only at l n o;subst l;have q:args= #[d,s]:=by apply aqr;simpa using o
  have p:argTypes= #[N,st]:=by apply aqr;simpa using n
  subst q p;have g: (do let d<-resolve a.eval ⟨.builtin .copy,#[d,s],#[N,st]⟩ f;invoke d.target d.args:Sem Next)=(do pure (.value (<-Builtin.copy_ #[N,st] f ((#[d,s]:Array Operand).map a.eval)))):=rfl;rw[g,show(#[d,s]:Array Operand).map a.eval= #[a.eval d,a.eval s] by simp];split at h
  ·rename_i el hu;split at h
   ·rename_i sz W Q m M T;cases h;simp only[exec]at j;split at j
    ·rename_i v' u r;cases j;exact sa (aov hw hu m (cG he M) (cG he T) r)
    ·cases j
   ·cases h
  ·cases h
 case h_5 t x l n o=>
  simp only at l n o;subst l;have q:args= #[x]:=by apply aqr;simpa using o
  have p:argTypes= #[t]:=by apply aqr;simpa using n
  subst q p;have g: (do let d<-resolve a.eval ⟨.builtin .clear,#[x],#[t]⟩ f;invoke d.target d.args:Sem Next)=(do pure (.value (<-Builtin.clear_ #[t] f ((#[x]:Array Operand).map a.eval)))):=rfl;rw[g,show(#[x]:Array Operand).map a.eval= #[a.eval x] by simp];split at h
  ·rename_i el hu;split at h
   ·rename_i z y m M;cases h;simp only[exec]at j;split at j
    ·rename_i u r;cases j;exact sa (aox hw hu m (cG he M) r)
    ·cases j
   ·cases h
  ·cases h
 case h_6 xs l=>
  simp only at l;subst l;have g: (do let d<-resolve a.eval ⟨.builtin .max,args,argTypes⟩ f;invoke d.target d.args:Sem Next)=(do pure (.value (<-Builtin.max_ argTypes f (args.map a.eval)))):=rfl;rw[g];split at h
  ·cases ho:nT args.toList with
   |none=>simp[ho]at h
   |some ys=>
    simp only[ho,agl,adP]at h;subst h;obtain⟨m,rfl⟩:=ez j;exact fD hw (an3 (by simpa using x8 he ho) m w)
  ·cases h
 case h_7 xs l=>
  simp only at l;subst l;have g: (do let d<-resolve a.eval ⟨.builtin .min,args,argTypes⟩ f;invoke d.target d.args:Sem Next)=(do pure (.value (<-Builtin.min_ argTypes f (args.map a.eval)))):=rfl;rw[g];split at h
  ·cases ho:nT args.toList with
   |none=>simp[ho]at h
   |some ys=>
    simp only[ho,agl,adP]at h;subst h;obtain⟨m,rfl⟩:=ez j;exact fD hw (an4 (by simpa using x8 he ho) m w)
  ·cases h
 case h_8 t x l n o=>
  simp only at l n o;subst l;have q:args= #[x]:=by apply aqr;simpa using o
  have p:argTypes= #[t]:=by apply aqr;simpa using n
  subst q p;have g: (do let d<-resolve a.eval ⟨.builtin .cap,#[x],#[t]⟩ f;invoke d.target d.args:Sem Next)=(do pure (.value (<-Builtin.cap_ #[t] f ((#[x]:Array Operand).map a.eval)))):=rfl;rw[g,show(#[x]:Array Operand).map a.eval= #[a.eval x] by simp];split at h
  ·rename_i hu;cases ho:bM x with
   |none=>simp[ho]at h
   |some y=>
    simp only[ho,agl,adP]at h;subst h;obtain⟨m,rfl⟩:=ez j;exact fD hw (an2 hu (cG he ho) m w)
  ·cases h
 case h_9=>cases h
theorem aoA{rows:Bool}{o:Oper}{i:I}(h:kS P rows o=some i)(hp:i.plain=true){v:AV}{E':AS}(A:exec X C i e E=some (.ok v E')):Good P B ay G E v E' ((execOp a.eval o).run P w):=by
 unfold kS at h;split at h
 case h_1 x d|h_2 x d=>
  simp only[d,execOp];cases ho:bM x with
  |none=>simp[ho]at h
  |some y=>
   simp only[ho,agl,adP]at h;subst h;cases A;simp only[Sem.run_pure];exact .same hw (cG he ho)
 case h_3 c x y d=>
  simp only[d,execOp];split at h
  ·rename_i c' x' y' F D N;cases h;simp only[exec]at A;split at A
   ·rename_i t ht;cases A;have L:=cG he F;rw[ht]at L;simp only[an]at L;simp only[Sem.run_bind,L,asBool,Sem.run_pure,Result.andThen_ok];cases t
    ·exact .same hw (cG he N)
    ·exact .same hw (cG he D)
   ·cases A
  ·cases h
 case h_4 t d=>
  simp only[d,execOp];cases R:hH P t with
  |none=>simp[R]at h
  |some z=>
   simp only[R,agl,adP]at h;subst h;cases A;exact sa (aoa hw R)
 case h_5 t x d=>
  simp only[d,execOp];cases ho:bM x with
  |none=>simp[ho]at h
  |some y=>
   simp only[ho,agl,adP]at h;subst h;simp only[exec]at A;split at A
   ·cases A
   ·rename_i ht;cases A;exact sa (aob hw (λt' h=>an9 h) (cG he ho) (by simpa using ht))
 case h_6 t ps d=>
  simp only[d,execOp];split at h
  ·rename_i fields z hu R;split at h
   ·rename_i uJ;obtain⟨l,M,rfl⟩:=agj.1 h;simp only[exec]at A;split at A
    ·rename_i cs S;cases A;exact fD hw (an5 hu R uJ he M S w)
    ·cases A
   ·cases h
  ·rename_i n el z hu R;split at h
   ·rename_i sz H;cases M:parts (λi=>some (i*sz,sz)) ps.toList with
    |none=>simp[M]at h
    |some l=>
     simp only[M,agl,adP]at h;subst h;simp only[exec]at A;split at A
     ·rename_i cs S;cases A;exact fD hw (an6 hu R H he M S w)
     ·cases A
   ·cases h
  ·cases h
 case h_7 t len ps d=>
  simp only[d,execOp];split at h
  ·rename_i el hu;split at h
   ·rename_i z R;split at h
    ·rename_i hc;obtain⟨AN,Xd⟩:=hc;cases M:parts (λi=>some (i*z.length,z.length)) ps.toList with
     |none=>simp[M]at h
     |some l=>
      simp only[M,agl,adP]at h;have T: ∀k,(List.replicate k z).flatten.length=k*z.length:=λk=>by
       rw[po (sz:=z.length) λel pt=>by rw[asG pt]];simp
      cases rows with
      |true=>
       simp only[ahJ]at h;subst h;simp only[exec]at A;split at A
       ·rename_i cs S;cases A;exact sa (aoi hw hu R Xd AN he M S (by rw[NX S,T]))
       ·cases A
      |false=>
       simp only[agm,ajc]at h;subst h;simp only[exec]at A;split at A
       ·rename_i cs S;cases A;exact sa (aoh hw hu R Xd AN he M S (by rw[NX S,T]))
       ·cases A
    ·cases h
   ·cases h
  ·cases h
 case h_8 t x d=>
  simp only[d,execOp];split at h
  ·rename_i b n y F D N;cases h;obtain⟨K,rfl⟩:=ez A;exact fD hw (Ws hw hg F D (cG he N) K)
  ·cases h
 case h_9 t x y d=>
  simp only[d,execOp];split at h
  ·rename_i n x' y' F D N;cases h;simp only[exec]at A;split at A
   ·rename_i Xe H;cases A;exact Xb (aoe hw F (cG he D) (cG he N) H)
   ·cases A
  ·cases h
 case h_10 x d=>
  simp only[d,execOp];cases ho:bM x with
  |none=>simp[ho]at h
  |some y=>
   simp only[ho,agl,adP]at h;subst h;obtain⟨K,rfl⟩:=ez A;have L:=cG he ho;obtain⟨rfl,HC⟩:=an1 L K;rcases HC with⟨b,e1⟩| ⟨f,b,c,e1⟩| ⟨f,b,c,e1⟩<;>rw[e1]at L⊢ <;>simp only[Sem.run_pure]<;>exact .same hw L
 case h_11 op t x y g d=>
  simp only[d,execOp];split at h
  ·rename_i x' y' F D;have Q:=cG he F;have O:=cG he D;split at h
   case h_1|h_2=>
    cases h;simp only[exec]at A;split at A
    ·rename_i k p k' q e1 e2;obtain⟨K,rfl⟩:=ez A;rw[e1]at Q;rw[e2]at O;simp only[an]at Q O;rw[Q,O];refine fD hw ?_;obtain⟨v',e3,r⟩:=anQ (P:=P) (G:=G) (t:=t) (k':=k') K w;exact⟨v',by simp[eqGuard,e3],r⟩
    ·cases A
   case h_3=>
    cases W:x5 P t x y with
    |none=>simp[W]at h
    |some k=>
     simp only[W,agl,adP]at h;subst h;simp only[exec]at A;split at A
     ·rename_i b hb;cases A;obtain⟨e1,e2,_,_⟩:=WG W Q O hb w;exact fD hw (Dp (by simp[e1,e2]))
     ·cases A
   case h_4=>
    cases W:x5 P t x y with
    |none=>simp[W]at h
    |some k=>
     simp only[W,agl,adP]at h;subst h;simp only[exec]at A;split at A
     ·rename_i b hb;cases A;obtain⟨_,_,e1,e2⟩:=WG W Q O hb w;exact fD hw (Dp (by simp[e1,e2]))
     ·cases A
   case h_5=>
    cases h;rename_i op _ _ _ n1 n2 n3 n4 _;obtain⟨K,rfl⟩:=ez A;obtain⟨v',e3,r⟩:=Wv (P:=P) (t:=t) Q O K n3 n4 w;have Z: (eqGuard op t x y (a.eval x) (a.eval y)).run P w= .ok () w:=by
     cases op<;>first|exact absurd rfl n3|exact absurd rfl n4|simp[eqGuard]
    exact fD hw ⟨v',by simp[Z,e3],r⟩
   case h_6=>
    cases h;rename_i op _ _ n3 n4 _;obtain⟨K,rfl⟩:=ez A;obtain⟨v',e3,r⟩:=Wv (P:=P) (t:=t) Q O K n3 n4 w;have Z: (eqGuard op t x y (a.eval x) (a.eval y)).run P w= .ok () w:=by
     cases op<;>first|exact absurd rfl n3|exact absurd rfl n4|simp[eqGuard]
    exact fD hw ⟨v',by simp[Z,e3],r⟩
   case h_7=>cases h
  ·cases h
 case h_12 op t x d=>
  simp only[d,execOp];cases ho:bM x with
  |none=>simp[ho]at h
  |some y=>
   simp only[ho,agl,adP]at h;subst h;obtain⟨K,rfl⟩:=ez A;exact fD hw (anR (cG he ho) K w)
 case h_13 src dst x d=>
  simp only[d,execOp];split at h
  ·rename_i k kd y H hd ho;cases h;simp only[exec]at A;split at A
   ·rename_i k' n hn;cases A;have L:=cG he ho;rw[hn]at L;simp only[an]at L;rw[L];exact fD hw (kY (anS (by simp[H]) hd w))
   ·cases A
  ·rename_i el y H hd ho;split at h
   ·rename_i pt;cases h;simp only[exec]at A;split at A
    ·rename_i s hn;split at A
     ·cases A;have L:=cG he ho;rw[hn]at L;simp only[an]at L;rw[L];exact sa (aog hw H hd pt s)
     ·cases A
    ·cases A
   ·cases h
  ·cases h
 case h_14 t x d=>
  simp only[d,execOp];split at h
  ·cases h
  ·cases h
  ·rename_i u U hu;cases ho:bM x with
   |none=>simp[ho]at h
   |some y=>
    simp only[ho,agl,adP]at h;subst h;cases A;exact fD hw ⟨_,an0 hu (λms e=>U ms e) _ w,⟨_,rfl,cG he ho⟩⟩
 case h_15 f first cap d=>
  simp only[d,execOp];split at h
  ·rename_i xs ys F D;split at h
   ·cases h
   ·rename_i hy;cases h;cases A;refine fD hw ⟨_,by simp only[Instr.makeFunc,Sem.run_pure];rfl,⟨f,_,_,rfl,?_,by simpa using x8 he F,by simpa using x8 he D⟩⟩;cases f<;>simp[Wk]at hy<;>simp[m9]
  ·cases h
 case h_16 t d=>
  simp only[d,execOp];cases h;cases A;exact sa (aoc hw t)
 case h_17 t l c d=>
  simp only[d,execOp];split at h
  ·rename_i el hu;split at h
   ·rename_i z b l' c' F D N K;split at h
    ·rename_i hc;cases h;simp only[exec]at A;split at A
     ·rename_i v' Xe hm;cases A;exact sa (aof hw hu F D hc.1 (cG he N) (cG he K) hm)
     ·cases A
    ·cases h
   ·cases h
  ·cases h
 case h_18 t x lo hi mx d=>
  simp only[d,execOp];split at h
  ·rename_i x' ak hi' mx' F D N K;split at h
   ·rename_i hu;split at h
    ·rename_i hm;cases h;obtain⟨J,rfl⟩:=ez A;have V:mx=none:=by
      have:=Xc K;rw[hm]at this;simpa using this.symm
     subst V;exact fD hw (anJ hu (cG he F) (ye he D) (ye he N) J w)
    ·cases h
   ·rename_i el hu;split at h
    ·rename_i hm;cases H:cz P el with
     |none=>simp[H]at h
     |some n=>
      simp only[H,agl,adP]at h;subst h;obtain⟨J,rfl⟩:=ez A;refine fD hw (anN hu H (cG he F) (ye he D) (ye he N) (ye he K) ?_ J w);cases mx' with
      |none=>exact .inl rfl
      |some m=>
       right
       cases hi' with
       |none=>simp at hm
       |some q=>simp
    ·cases h
   ·rename_i n el hu;split at h
    ·rename_i hm;cases H:cz P el with
     |none=>simp[H]at h
     |some sz=>
      simp only[H,agl,adP]at h;subst h;obtain⟨J,rfl⟩:=ez A;have V:mx=none:=by
       have:=Xc K;rw[hm]at this;simpa using this.symm
      subst V;exact fD hw (anO hw hg hu H (cG he F) (ye he D) (ye he N) J)
    ·cases h
   ·cases h
  ·cases h
 case h_19 s x f d=>
  simp only[d,execOp];split at h
  ·rename_i fields y hu ho;split at h
   ·rename_i g Y;split at h
    ·rename_i n hn;split at h
     ·rename_i WW;cases h;obtain⟨J,rfl⟩:=ez A;exact fD hw (anB hw hg hu Y hn WW (cG he ho) J)
     ·cases h
    ·cases h
   ·cases h
  ·cases h
 case h_20 s x f d=>
  simp only[d,execOp];split at h
  ·rename_i fields y hu ho;split at h
   ·rename_i g Y;split at h
    ·rename_i b n F D;cases h;simp only[exec]at A;split at A
     ·rename_i cs HD;obtain⟨J,rfl⟩:=ez A;have L:=cG he ho;rw[HD]at L;exact fD hw (anF hu Y F D L J w)
     ·cases A
    ·cases h
   ·cases h
  ·cases h
 case h_21 t x ix d=>
  simp only[d,execOp];split at h
  ·rename_i n el y iy hu F D;cases H:cz P el with
   |none=>simp[H]at h
   |some sz=>
    simp only[H,agl,adP]at h;subst h;obtain⟨J,rfl⟩:=ez A;exact fD hw (anC hw hg hu H (cG he F) (cG he D) J)
  ·rename_i el y iy hu F D;cases H:cz P el with
   |none=>simp[H]at h
   |some sz=>
    simp only[H,agl,adP]at h;subst h;obtain⟨J,rfl⟩:=ez A;exact fD hw (anE hu H (cG he F) (cG he D) J)
  ·cases h
 case h_22 t x ix d=>
  simp only[d,execOp];split at h
  ·rename_i n el y iy hu F D;split at h
   ·rename_i b sz N K;cases h;obtain⟨J,rfl⟩:=ez A;exact fD hw (anG hu N K (cG he F) (cG he D) J w)
   ·cases h
  ·rename_i y iy hu F D;cases h;obtain⟨J,rfl⟩:=ez A;exact fD hw (anH hu (cG he F) (cG he D) J w)
  ·cases h
 case h_23 t m k ok d=>
  simp only[d,execOp];split at h
  ·rename_i kt et hu;split at h
   ·rename_i kk z m' k' F D N K;cases h;obtain⟨J,rfl⟩:=ez A;exact fD hw (aot hw hg hu F D (cG he N) (cG he K) J)
   ·cases h
  ·cases h
 case h_24 t m k x d|h_25 t m k x d=>
  simp only[d,execOp];split at h
  ·rename_i kt et hu;split at h
   ·rename_i kk m' k' x' F D N K;cases h;simp only[exec]at A;split at A
    ·rename_i Xe hm;cases A;exact Xb (aou hw hu F (cG he D) (cG he N) (cG he K) hm)
    ·cases A
   ·cases h
  ·cases h
 case h_26 x xt asserted ok d=>
  simp only[d,execOp];split at h
  ·cases h
  ·rename_i u y U hu ho;split at h
   ·rename_i z R;cases h;obtain⟨J,rfl⟩:=ez A;exact fD hw (anZ hu (λms e=>U ms e) R (cG he ho) J xt w)
   ·cases h
  ·cases h
 case h_27 x j d=>
  simp only[d,execOp];cases ho:bM x with
  |none=>simp[ho]at h
  |some y=>
   simp only[ho,agl,adP]at h;subst h;simp only[exec]at A;split at A
   ·rename_i vs hvs;obtain⟨J,rfl⟩:=ez A;have L:=cG he ho;rw[hvs]at L;exact fD hw (anI (x:=.ax vs) L J w)
   ·cases A
 case h_28 c d=>
  simp only[d,execOp];exact aoz hw he C h hp A
 case h_29 x d=>
  cases ho:bM x with
  |none=>simp[ho]at h
  |some y=>simp only[ho,agl,adP]at h;subst h;simp[I.plain]at hp
 case h_30=>cases h
end
end
section
variable{P:Program}{X:Ctx}{B:Nat}{ay:World}
open Classical in
noncomputable def Gh.cut(G:Gh)(n:Nat)(w:World):Gh:=
 {G with n:=n,bD:=λb o=>if∃id,n<=id/\G.on id/\G.bg id=b then w.cell? ⟨b,o,none⟩else G.bD b o}
def HE{G:Gh}{E:AS}(a:ba P B ay G E w){o:Nat}(h:G.bD b o=some v): (G.cut n w).bD b o=some v:=by
 simp only[Gh.cut];split
 ·rename_i d;obtain⟨id,_,c,rfl⟩:=d;rw[a.sep id c]at h;cases h
 omega
def Xf{G:Gh}{E:AS}(a:ba P B ay G E w):G.ee n (G.cut n w):=
 ⟨λ_ _ _ h=>HE a h,ae0 _,λ_ _=>rfl,λ_ _=>rfl,λ_ _=>rfl,λ_ _=>rfl,λ_ _=>rfl,λ_ _=>rfl⟩
def aoE{G:Gh}{id:Nat}(b:n<=id)(a:G.on id)(o:Nat): (G.cut n w).bD (G.bg id) o=w.cell? ⟨G.bg id,o,none⟩:=by
 simp only[Gh.cut];rw[aez ⟨id,b,a,rfl⟩]
theorem ba.cut{G:Gh}{E:AS}(a:ba P B ay G E w)(d:n<=G.n)(m: ∀j o,j<n->E.heap[j]?=some o->o.le n)(lo:oN):ba P B ay (G.cut n w) {heap:=E.heap.take n,lo} w where
 len:=by
  have:=a.len;simp[Gh.cut];omega
 bD b o v h:=by
  simp only[Gh.cut]at h;split at h
  ·exact h
  ·exact a.bD b o v h
 obj id o h l:=by
  simp only[amH]at h;split at h
  ·rename_i f;exact iQ.ee (Xf a) f rfl (a.obj id o h l) (m id o f h)
  grind
 inj i j c p e:=a.inj i j ⟨aie c.1 d,c.2⟩ ⟨aie p.1 d,p.2⟩ e
 sep i c o:=by
  have r:i<n:=c.1;have k:G.on i:=⟨aie c.1 d,c.2⟩;simp only[Gh.cut];rw[aeu]
  ·exact a.sep i k o
  ·rintro⟨id,y,t,e⟩;have:=a.inj id i t k e;omega
 low i c:=a.low i ⟨aie c.1 d,c.2⟩
 lY:=a.lY
 hB:=a.hB
 lZ id o g l:=by
  have q:id<n:=g;obtain⟨x,u⟩:=a.lZ id o (aie g d) l
  grind
 dO b o v s h:=HE a (a.dO b o v s h)
mutual
theorem Xg{G:Gh}{E:AS}{w:World}(m:ba P B ay G E w){n:Nat}: ∀ (k:Nat) (v f:AV) (v':Value),freeze E n k v=some f->an G v v'->an (G.cut n w) f v'/\f.refs<=n
 |0,_,_,_,h,_=>by simp[freeze]at h
 |k+1,v,f,v',h,r=>by
  unfold freeze at h;split at h
  ·rename_i J;cases h;exact⟨r.ee (Xf m) _ _ J,J⟩
  ·rename_i J;split at h
   ·rename_i id aj sz off len cK;split at h
    ·rename_i T q ty af he;split at h
     ·rename_i Y;obtain⟨c1,c2,c3⟩:=Y;subst c1 c2;split at h
      ·rename_i g z;cases h;obtain⟨g1,g2,S,c,pre,vs,post,Z,R,U,M,K,D⟩:=m.obj id _ he r.NF;have N:G.on id:=⟨by rw[m.len];exact(adN.1 he).1,r.NF⟩;have H:n<=id:=by simp only[AV.refs]at J;omega
       simp only[an]at r;obtain⟨_,_,a,cap,e,d1,d2,d3⟩:=r;obtain⟨f1,f2,f3⟩:=d3 g1;have L:=K.slice (l:=off) (n:=len) S;obtain⟨y,x,t⟩:=N4 m k _ g _ z L;have d:g.length=len:=by
        have:=t;rw[this.1];simp;omega
       refine⟨⟨a.block,a.off,cap,q,_,?_,by rw[d];exact d1.1,λA=>by rw[d];exact d2 A,?_,?_,(D.drop _).take _,y⟩,x⟩
       ·rw[e,d];congr 2;obtain⟨b,o,s⟩:=a;have:=d1.2;simp only at this;rw[this]
       ·exact t.2 q (λel Q=>S el (aoC (ahZ Q)))
       ·intro j u i;have p:0<cap:=by
         by_cases h0:len=0
         ·subst h0;simp at i
         ·omega
        have F:a.off=G.base id+off*q:=by rw[f2 p]
        have I:a.block=G.bg id:=by rw[f2 p]
        rw[F,I,aoE H N];refine Dl Z _ u ?_;have V:=K.len S;rw[amH]at i;split at i
        ·rw[al0]at i;have W:=(adN.1 i).1;rw[R,ags (by omega),acK (by omega),<-i]
         congr 1;omega
        ·cases i
      ·cases h
     ·cases h
    ·cases h
   ·rename_i cs;split at h
    ·rename_i C z;cases h;simp only[an]at r;obtain⟨vs,rfl,l,D⟩:=r;obtain⟨y,x,_⟩:=HF m k cs C _ z l;exact⟨⟨vs,rfl,y,D⟩,x⟩
    ·cases h
   ·rename_i cs;split at h
    ·rename_i C z;cases h;simp only[an]at r;obtain⟨vs,rfl,l⟩:=r;obtain⟨y,x,_⟩:=HF m k cs C _ z l;exact⟨⟨vs,rfl,y⟩,x⟩
    ·cases h
   ·rename_i af cK;split at h
    ·rename_i g z;cases h;simp only[an]at r;obtain⟨b,o,cap,sz,vs,rfl,d1,d2,d3,O,D,K⟩:=r;obtain⟨y,x,t⟩:=N4 m k af g _ z K;refine⟨⟨b,o,cap,sz,vs,by rw[t.1],by rw[t.1];exact d1,λA=>by rw[t.1];exact d2 A,t.2 sz d3,λj u i=>HE m (O j u i),D,y⟩,x⟩
    ·cases h
   ·cases h
theorem HF{G:Gh}{E:AS}{w:World}(d:ba P B ay G E w){n:Nat}: ∀ (k:Nat) (cs b:List AV) (vs:List Value),iN E n k cs=some b->aG G cs vs->aG (G.cut n w) b vs/\aI b<=n/\b.length=cs.length
 |k,[],b,vs,h,r=>by
  cases k<;>simp only[iN,adP]at h<;>subst h<;>simp only[aG]at r<;>subst r<;>simp[aG,aI]
 |0,_::_,_,_,h,_=>by simp[iN]at h
 |k+1,a::as,b,vs,h,r=>by
  simp only[iN]at h;split at h
  ·rename_i a' i;split at h
   ·rename_i c has;cases h;simp only[aG]at r;obtain⟨v,q,rfl,l,j⟩:=r;obtain⟨g,o⟩:=Xg d k a a' v i l;obtain⟨f,m,e⟩:=HF d (k+1) as c q has j;exact⟨⟨v,q,rfl,g,f⟩,by simp only[aI];omega,by simp[e]⟩
   ·cases h
  ·cases h
theorem N4{G:Gh}{E:AS}{w:World}(e:ba P B ay G E w){n:Nat}: ∀ (k:Nat) (af b:List (List AV)) (vs:List Value),rY E n k af=some b->bw G af vs->
  bw (G.cut n w) b vs/\cb b<=n/\ (b.length=af.length/\ ∀sz,(∀el∈af,el.length=sz)-> ∀el∈b,el.length=sz)
 |k,[],b,vs,h,r=>by
  cases k<;>simp only[rY,adP]at h<;>subst h<;>simp only[bw]at r<;>subst r<;>simp[bw,cb]
 |0,_::_,_,_,h,_=>by simp[rY]at h
 |k+1,a::as,b,vs,h,r=>by
  simp only[rY]at h;split at h
  ·rename_i a' o;split at h
   ·rename_i d has;cases h;simp only[bw]at r;obtain⟨v,q,rfl,s,p⟩:=r;obtain⟨j,u,l⟩:=HF e k a a' v o s;obtain⟨i,t,g,f⟩:=N4 e (k+1) as d q has p;refine⟨⟨v,q,rfl,j,i⟩,by simp only[cb];omega,by simp[g],λsz hu el c=>?_⟩;rcases agF.1 c with rfl|c
    ·rw[l];exact hu a (by simp)
    ·exact f sz (λx m=>hu x (by simp[m])) el c
   ·cases h
  ·cases h
end
def yf{gg:Gh}{cu:AS}{t:World}(k:ba P B ay gg cu t){G:Gh}{E:AS}(f:gg.le G)(x:ba P B ay G E w)(d:AS.Ext {heap:=cu.heap,lo:=none} E){v:AV}{v':Value}(D:an G v v'):
  ∃a,gg.le a/\ba P B ay a (finish cu.heap.length cu.lo v E).2 w/\an a (finish cu.heap.length cu.lo v E).1 v'/\cu.Ext (finish cu.heap.length cu.lo v E).2:=by
 have nX: ∃a,gg.le a/\ba P B ay a {heap:=E.heap,lo:=gu cu.lo E.lo} w/\an a v v'/\cu.Ext {heap:=E.heap,lo:=gu cu.lo E.lo}:=by
  refine⟨G,f,x.lo _,D,d.len,λj h=>?_,λj o h=>?_⟩
  ·cases E.lo with
   |none=>exact h
   |some l=>exact AG (.inl h)
  ·obtain⟨o',s,g⟩:=d.obj j o h;refine⟨o',s,g.imp id λ ⟨l,e,q⟩=>?_⟩;simp only[gu,e];exact AG (.inr q)
 have clear: (∀j,j<cu.heap.length-> ¬AF E.lo j)-> ∀c,freeze E cu.heap.length 12 v=some c->
   ∃a,gg.le a/\ba P B ay a {heap:=E.heap.take cu.heap.length,lo:=cu.lo} w/\an a c v'/\cu.Ext {heap:=E.heap.take cu.heap.length,lo:=cu.lo}:=by
  intro z c C;have A:=k.len;have y: ∀j o,j<cu.heap.length->E.heap[j]?=some o->o.le cu.heap.length:=by
   intro j o r ho;have H:cu.heap[j]?=some cu.heap[j]:=adQ r;obtain⟨o',s,g⟩:=d.obj j _ H;rw[ho]at s;cases s;rcases g with g|g
   ·have:=g cu.heap.length (by have:=k.anr H;rwa[A]at this);exact this.mono (by omega)
   ·exact absurd g (z j r)
  have m:cu.heap.length<=G.n:=by rw[x.len];exact d.len
  obtain⟨I,J⟩:=Xg x 12 v c v' C D;refine⟨G.cut cu.heap.length w,?_,x.cut m y _,I,?_,λj h=>h,λj o h=>?_⟩
  ·exact{bD:=λb o u h=>HE x (f.bD b o u h),n:=by simp[Gh.cut,A],on:=λi p=>⟨by have:=p.1;simp only[Gh.cut];omega,(f.on i p).2⟩,aj:=λi p=>f.aj i p,same:=λi p e=>f.same i p e,pz:=λi p=>f.pz i p}
  ·have:=d.len;simp only at this;simp;omega
  ·have r:j<cu.heap.length:=(adN.1 h).1;obtain⟨o',s,g⟩:=d.obj j o h;refine⟨o',by simp[r,s],.inl ?_⟩;rcases g with g|g
   ·exact g
   ·exact absurd g (z j r)
 unfold finish;cases q:E.lo with
 |none=>
  simp only[ahJ];cases C:freeze E cu.heap.length 12 v with
  |none=>simp only;rw[q]at nX;exact nX
  |some c=>exact clear (by rintro j _ ⟨l,e,_⟩;rw[q]at e;cases e) c C
 |some l=>
  rw[q]at nX;by_cases h:cu.heap.length<=l
  ·simp only[h,decide_true,ahJ];cases C:freeze E cu.heap.length 12 v with
   |none=>exact nX
   |some c=>exact clear (by rintro j r ⟨K,e,F⟩;rw[q]at e;cases e;omega) c C
  ·simp only[h,ax4,agm,ajc];exact nX
end
section
variable{P:Program}{X:Ctx}{B:Nat}{ay:World}{c7:List Deferred}
def W(r:oN):Fence:={fn:=λ_=>True,depth:=none,alive:=false,round:=r}
theorem aoF:W none=Fence.wide:=rfl
def Dv(r:oN)(n:Nat): (W r).room n:=λ_ h=>by simp[W]at h
def N5{r a:oN}{args:Array Value}{R:Ending->World->Prop}(h:CallsIn (W r) n P f args w R):CallsIn (W a) b P f args w R:=
 ⟨trivial,λcs _=>h.2 cs (Dv _ _)⟩
def aoG{r d:oN}{e:Nat}{a:Array Value}{as b:Code}{R:Ending->World->Prop}(h:RoundIn (W r) n P l f a as b w R):RoundIn (W d) e P l f a as b w R:=
 ⟨trivial,λc cs _=>h.2 c cs (Dv _ _)⟩
def Ends(P:Program)(B:Nat)(ay:World)(G:Gh)(E:AS):aX->Ending->World->Prop
 |.ret v E',.returned v',w'=> ∃a,G.le a/\ba P B ay a E' w'/\an a v v'/\E.Ext E'
 |.panic v E',.panicked chain,w'=> ∃a v',chain=[{v:=v',recovered:=false}]/\G.le a/\ba P B ay a E' w'/\an a v v'/\E.Ext E'
 |_,_,_=>False
def Dw(P:Program)(K:Ending->World->Prop):Result Next->Prop
 |.ok (.value v) w'=>K (.returned v) w'
 |.ok (.enter f args) w'=>CallsIn (W none) 0 P f args w' K
 |.ok (.round l f tmps as bd) w'=>RoundIn (W none) 0 P l f tmps as bd w' K
 |_=>False
def wi(fv:Value)(args:Array Value):Sem Next:=do let d<-Deferred.ofValue fv args;invoke d.target d.args
def fY(P:Program)(B:Nat)(ay:World)(C:bE):Prop:=
 ∀fv args E c,C fv args E=some c-> ∀G w b (a:Array Value),ba P B ay G E w->an G fv b->aG G args a.toList->Dw P (Ends P B ay G E c) ((wi b a).run P w)
def gz(c7:List Deferred)(G:Gh):lN->List Deferred->Prop
 | [],a=>a=c7
 |m::ms,a=> ∃d r k,a=d::r/\d.target= .collected k/\G.on m/\ (G.aj m=0->k=G.bg m)/\gz c7 G ms r
theorem gz.mono{G c:Gh}(h:G.le c): ∀ {ms:lN} {b:List Deferred},gz c7 G ms b->gz c7 c ms b
 | [],_,r=>r
 |m::ms,_,r=>by
  simp only[gz]at*;obtain⟨d,q,k,e,i,a,g,f⟩:=r;refine⟨d,q,k,e,i,h.on _ a,λl=>?_,f.mono h⟩;have j:=h.aj _ a;rw[(h.same _ a (by omega)).1];exact g (by omega)
theorem gz.dE{G c:Gh}(h:G.sub c): ∀ {ms:lN} {b:List Deferred},gz c7 G ms b->gz c7 c ms b
 | [],_,r=>r
 |m::ms,_,r=>by
  simp only[gz]at*;obtain⟨d,q,k,e,i,a,g,f⟩:=r;refine⟨d,q,k,e,i,h.on _ a,λl=>?_,f.dE h⟩;have j:=h.aj _ a;rw[(h.same _ a (by omega)).1];exact g (by omega)
def fZ(G:Gh):Ex->Exit->Prop
 |.normal,.normal=>True
 |.exit i,.exit j=>i=j
 |.ret,.ret=>True
 |.panic v,.panic chain=> ∃v',chain=[{v:=v',recovered:=false}]/\an G v v'
 |_,_=>False
def mB(P:Program)(B:Nat)(ay:World)(c7:List Deferred)(gg:Gh)(cu:AS)(nt:Nat)(b:Ex×Fr×AS)(e:Exit)(a:Act)(w:World):Prop:=
 ∃G,gg.le G/\ba P B ay G b.2.2 w/\cN G nt b.2.1.env a.tmps/\gz c7 G b.2.1.marks a.defers/\cu.Ext b.2.2/\fZ G b.1 e
theorem mB.trans{gg b:Gh}{cu c:AS}{d:Ex×Fr×AS}{e:Exit}(h:mB P B ay c7 b c nt d e a w)(hg:gg.le b)(f:cu.Ext c):mB P B ay c7 gg cu nt d e a w:=by
 obtain⟨G,m,l,k,j,i,g⟩:=h;exact⟨G,Gh.le_trans hg m,l,k,j,f.trans i,g⟩
theorem cN.set{G:Gh}{e:Env}{a:Array Value}(h:cN G nt e a)(g:d<nt){v:AV}(f:an G v v'):cN G nt (e.set d v) (a.setIfInBounds d v')where
 size:=by simp[h.size]
 get t u b:=by
  rw[amr]at b;simp only[Env.set];split at b
  ·rename_i e;subst e;split at b
   ·cases b;rw[aez rfl];exact f
   ·cases b
  ·rename_i c;rw[aeu (λe=>c e.symm)];exact h.get t u b
 out t b:=by
  simp only[Env.set];rw[aeu (by omega)];exact h.out t b
def qM{G:Gh}{b:Fr}(h:cN G nt b.env a.tmps){dst:oN}(e: ∀d,dst=some d->d<nt){v:AV}(c:an G v v'):
  cN G nt (b.put dst v).env (a.put dst v').tmps/\ (b.put dst v).marks=b.marks/\ (a.put dst v').defers=a.defers:=by
 cases dst with
 |none=>exact⟨h,rfl,rfl⟩
 |some d=>exact⟨h.set (e d rfl) c,rfl,rfl⟩
theorem yg{G:Gh}:an G .undef undef:=⟨#[],rfl,by simp[aG]⟩
def aoH{G:Gh}{x:AV}{b:Bool}(h:an G x (.bool b)):x= .bool b:=by
 cases x<;>simp[an]at h;rw[h]
def yh{G:Gh}{e:Env}(k:cN G nt e a.tmps){d:Array Oper}{o:Oper}{g:Option (Nat×Bool)}(h:guardOf d o=some g):Region.wanted o (yielded d a.tmps)=gd e g:=by
 unfold guardOf at h;unfold Region.wanted;split at h
 ·rename_i s;cases h;simp[s,gd]
 ·rename_i j want q;split at h
  ·rename_i t p;cases h;simp only[q,gd,yielded,p,ao2];by_cases c:t<a.tmps.size
   ·have f:=k.get t a.tmps[t] (by simp[c]);simp only[axh c];cases l:a.tmps[t]with
    |bool b=>
     rw[l]at f;rw[aoH f];simp
    |_=>
     rw[l]at f;cases m:e t<;>rw[m]at f<;>simp[an]at f<;>simp
   ·have i:a.tmps.size<=t:=Nat.le_of_not_lt c;rw[k.out t (by rw[<-k.size];exact i)];have:a.tmps[t]?=none:=Array.getElem?_eq_none i;simp[this]
  ·cases h
section region
variable{C:bE}(hC:fY P B ay C)(hg:fC X B ay){r:oN}{n nt:Nat}
include hC hg
theorem yj{rows:Bool}{ops:Array Oper}{o:Oper}{x:aT}(h:iP P rows ops o=some x)(hd: ∀d,x.dst=some d->d<nt){G:Gh}{E:AS}{F:Fr}(hw:ba P B ay G E w)(J:cN G nt F.env a.tmps)(hm:gz c7 G F.marks a.defers)
  {s:Out} (l:exec X C x.i F.env E=some s) {next:Act->World->Prop} {Q:Exit->Act->World->Prop}
  (T: ∀v E',s= .ok v E'-> ∀H a' w',G.le H->ba P B ay H E' w'->E.Ext E'->cN H nt (F.put x.dst v).env a'.tmps->gz c7 H (F.put x.dst v).marks a'.defers->next a' w')
  (m: ∀v E',s= .panic v E'-> ∀e a' w',mB P B ay c7 G E nt (.panic v,F,E') e a' w'->Q e a' w'):o.wpIn (W r) n P a w next Q:=by
 refine⟨λ_ _=>trivial,?_⟩;unfold iP at h;split at h
 ·rename_i i g b gA;cases h;have R:o.semAt (W r).round a.eval=execOp a.eval o:=by
   apply Oper.semAt_eq;intro c e;simp[kS,e]at b
  rw[R];have az: ∀v E',s= .ok v E'->Good P B ay G E v E' ((execOp a.eval o).run P w)->o.uponIn (W r) n P a next Q ((execOp a.eval o).run P w):=by
   intro v E' e L;obtain⟨H,w',v',D,q,N,V,U⟩:=L;obtain⟨p1,p2,p3⟩:=qM (a:=a) (J.mono q) hd V;have hn:=T v E' e H (a.put o.dst v') w' q N U p1 (by rw[p2,p3];exact hm.mono q);rcases D with D| ⟨D,Y⟩
   ·rw[D];exact hn
   ·rw[D];subst Y;exact hn
  by_cases Z:i.plain=true
  ·cases s with
   |ok v E'=>exact az v E' rfl (aoA hw hg J C b Z l)
   |panic v E'=>
    exfalso;cases i<;>simp[I.plain]at Z<;>simp only[exec,fW]at l<;>(repeat' split at l)<;>(try cases l)
  ·cases z:o.op with
   |call c=>
    simp only[kS,z]at b;obtain⟨callee,A,cts⟩:=c;have M: ∃f fs as,callee= .value f/\bM f=some fs/\nT A.toList=some as/\i= .call fs as:=by
     unfold Di at b;split at b
     case h_1 d1 d2 d3 f hc=>
      simp only at hc;split at b
      ·rename_i f' as q N;cases b;exact⟨_,_,_,hc,q,N,rfl⟩
      ·cases b
     all_goals exfalso
     all_goals(first| (repeat' split at b)|skip)<;>(try cases b)<;>(try(simp only[agj]at b;obtain⟨_,_,rfl⟩:=b))<;>simp[I.plain]at Z
    obtain⟨f,fs,as,rfl,hf,has,rfl⟩:=M;have u: (execOp a.eval o).run P w=(wi (a.eval f) (A.map a.eval)).run P w:=by
     unfold execOp;simp only[z];rfl
    simp only[exec]at l;have key: ∀O,C (fs.get F.env) (as.map (·.get F.env)) E=some O->Dw P (Ends P B ay G E O) ((execOp a.eval o).run P w):=by
     intro O p;rw[u];exact hC _ _ _ _ p G w _ _ hw (cG J hf) (by simpa using x8 J has)
    cases p:C (fs.get F.env) (as.map (·.get F.env)) E with
    |none=>simp[p]at l
    |some O=>
     have K:=key O p;have cont: ∀e k,Ends P B ay G E O e k->(match e with
       |.returned v=>next (a.put o.dst v) k
       |.panicked chain=>Q (.panic chain) a k
       |.outgrown=>LetsOut Q):=by
      intro e k j;cases O with
      |ret v E'=>
       simp only[p,adP]at l;cases e with
       |returned v'=>
        obtain⟨H,q,N,V,U⟩:=j;obtain⟨p1,p2,p3⟩:=qM (a:=a) (J.mono q) hd V;exact T v E' l.symm H _ k q N U p1 (by rw[p2,p3];exact hm.mono q)
       |panicked _=>exact j.elim
       |outgrown=>exact j.elim
      |panic v E'=>
       simp only[p,adP]at l;cases e with
       |returned _=>exact j.elim
       |panicked chain=>
        obtain⟨H,v',N6,q,N,V,U⟩:=j;exact m v E' l.symm _ _ _ ⟨H,q,N,J.mono q,hm.mono q,U,v',N6,V⟩
       |outgrown=>exact j.elim
     generalize(execOp a.eval o).run P w=res at K;unfold Dw at K;split at K
     ·exact cont _ _ K
     ·exact⟨λh=>by simp[W]at h,N5 (K.mono λe k h=>by have:=cont e k h;cases e<;>exact this)⟩
     ·exact⟨λh=>by simp[W]at h,aoG (K.mono λe k h=>by have:=cont e k h;cases e<;>exact this)⟩
     ·exact K.elim
   |panic x=>
    simp only[kS,z]at b;cases ho:bM x with
    |none=>simp[ho]at b
    |some y=>
     simp only[ho,agl,adP]at b;subst b;simp only[exec]at l;split at l
     ·rename_i t v ht;cases l;have D:=cG J ho;rw[ht]at D;have S:=D;simp only[an]at D;obtain⟨v',Y,_⟩:=D;have u: (execOp a.eval o).run P w= .halt (.panic (.iface t v')) w:=by
       unfold execOp;simp only[z,Y];simp[Instr.panic,goPanic,Sem.run_bind,Sem.run,Result.andThen]
      rw[u];rw[Y]at S;exact m _ _ rfl _ _ _ ⟨G,G.le_refl,hw,J,hm,.refl E,_,rfl,S⟩
     ·cases l
   |_=>
    exfalso;simp only[kS,z]at b
    repeat' split at b
    all_goals(try cases b)
    all_goals(try(simp only[agj]at b;obtain⟨_,_,rfl⟩:=b))
    all_goals first| (simp[I.plain]at Z;done)| (simp_all;done)
 ·cases h
end region
end
section
variable{P:Program}{X:Ctx}{B:Nat}{ay:World}{c7:List Deferred}
section
variable{C:bE}(hC:fY P B ay C)(hg:fC X B ay){r:oN}{n nt:Nat}{rows:Bool}
include hC hg
theorem N7{j:Array Oper}: ∀ (os:List Oper) (is:lN) (l:List aT),is.map (j[·]?)=os.map some->kT P rows j os=some l->(∀x∈l,∀d,x.dst=some d->d<nt)->
  ∀ (G:Gh) (E:AS) (w:World) (fr:Fr) (a:Act) (res:Ex×Fr×AS) (Q:Exit->Act->World->Prop),ba P B ay G E w->cN G nt fr.env a.tmps->gz c7 G fr.marks a.defers->fa X C l fr E=some res->
  (∀e a w,mB P B ay c7 G E nt res e a w->Q e a w)->wpOpsIn (W r) n P j Q is a w
 | [],is,l,k,p,q,G,E,w,fr,a,res,Q,hw,he,hm,g,u=>by
   have:is=[]:=by simpa using k
   subst this;simp only[kT,adP]at p;subst p;simp only[fa,adP]at g;subst g;exact u _ _ _ ⟨G,G.le_refl,hw,he,hm,.refl E,trivial⟩
 |o::os,is,l,k,p,q,G,E,w,fr,a,res,Q,hw,he,hm,g,u=>by
  cases is with
  |nil=>simp at k
  |cons i is=>
   simp only[amF,azq]at k;obtain⟨D,k⟩:=k;simp only[kT]at p;split at p
   ·rename_i x xs f s;cases p;simp only[wpOpsIn,D];have F:guardOf j o=some x.g:=by
     unfold iP at f;split at f
     ·rename_i H;cases f;exact H
     ·cases f
    have t:x.dst=o.dst:=by
     unfold iP at f;split at f
     ·cases f;rfl
     ·cases f
    have A:=yh he F;simp only[fa]at g;rw[A];split at g
    ·rename_i m;rw[aez m];split at g
     ·rename_i v E' hex;refine yj hC hg f (q x (by simp)) hw he hm hex (λb c e R a' w' O H N M L=>?_) (λb c e=>by cases e);cases e;exact N7 os is xs k s (λy z=>q y (by simp[z])) R E' w' _ a' res Q H M L g (λe a w h=>u e a w (h.trans O N))
     ·rename_i v E' hex;cases g;exact yj hC hg f (q x (by simp)) hw he hm hex (λb c e=>by cases e) (λb c e S a' w' h=>by cases e;exact u _ _ _ h)
     ·cases g
    ·rename_i m;rw[aeu m];refine⟨λ_ _=>trivial,?_⟩;obtain⟨K,J,I⟩:=qM (a:=a) he (q x (by simp)) (v:=.undef) (v':=undef) yg;rw[<-t];exact N7 os is xs k s (λy z=>q y (by simp[z])) G E w _ _ res Q hw K (by rw[J,I];exact hm) g u
   ·cases p
omit hC hg in
theorem aoI(a:Array Oper): (List.range a.size).map (a[·]?)=a.toList.map some:=by
 apply ang;intro j;by_cases b:j<a.size
 ·simp[b]
 ·simp[b]
end
def yk(L:eH):Prop:= ∀body fr E res,L body fr E=some res-> ∃k,iter k body fr E=some res
def AO(P:Program)(B:Nat)(ay:World)(c7:List Deferred)(r:oN)(n nt:Nat)(c:Code)(b:Fr->AS->jy):Prop:=
 ∀ (G:Gh) (E:AS) (w:World) (fr:Fr) (a:Act) (res:Ex×Fr×AS) (Q:Exit->Act->World->Prop),ba P B ay G E w->cN G nt fr.env a.tmps->gz c7 G fr.marks a.defers->b fr E=some res->
   (∀e a w,mB P B ay c7 G E nt res e a w->Q e a w)->c.wpIn (W r) n P Q a w
theorem Xh{r:oN}{n nt:Nat}{c:Code}{t:Fr->AS->jy}(h:AO P B ay c7 r n nt c t): ∀ (m:Nat) (G:Gh) (E:AS) (w:World) (fr:Fr) (a:Act) (res:Ex×Fr×AS) (Q:Exit->Act->World->Prop),
  ba P B ay G E w->cN G nt fr.env a.tmps->gz c7 G fr.marks a.defers->iter m t fr E=some res->(∀e a w,mB P B ay c7 G E nt res e a w->Q e a w)->
  ∀ (b:Frame) (k:List Item) (cs:List Frame),b.roundOf=(W r).round-> ∃e a' w',Q e a' w'/\ArrivesIn (Machine.fenced P (W r)) P (lone (b.atR a (.code c:: .inLoop c::k)) cs w) b k cs e a' w'
 |0,_,_,_,_,_,_,_,_,_,_,y,_,_,_,_,_=>by simp[iter]at y
 |m+1,G,E,w,fr,a,res,Q,hw,he,hm,y,O,b,k,cs,u=>by
  simp only[iter]at y;split at y
  ·rename_i q E' S;have j:=h G E w fr a (.normal,q,E') (Exit.then (λa' w'=>mB P B ay c7 G E nt (.normal,q,E') .normal a' w') (λ_ _ _=>False)) hw he hm S (λe a' w' i=>by
    have v:=i;obtain⟨s,M,L,K,J,I,H⟩:=i;cases e<;>simp[fZ]at H;exact v)
   obtain⟨e,g,d,o,f⟩:=j b (.inLoop c::k) cs u trivial (Dv _ _);cases e<;>try exact o.elim
   obtain⟨s,M,L,K,J,I,H⟩:=o;obtain⟨D,F,A,z,p⟩:=Xh h m s E' d q g res Q L K J y (λe a w R=>O e a w (R.trans M I)) b k cs u;exact⟨D,F,A,z,.of_steps (StepsIn.trans f (.one (fenced_calm (n:=n) trivial (Dv _ _) rfl) stepR_inLoop)) p⟩
  ·rename_i N;have j:=h G E w fr a res (Exit.then (λ_ _=>False) Q) hw he hm y (λe a' w' i=>by
    have o:=O e a' w' i;obtain⟨s,M,L,K,J,I,H⟩:=i;obtain⟨ex,q,E'⟩:=res;cases e<;>first|exact o| (exfalso;cases ex<;>simp[fZ]at H;exact N q E' y))
   obtain⟨e,g,d,o,f⟩:=j b (.inLoop c::k) cs u trivial (Dv _ _);cases e with
   |normal=>exact o.elim
   |exit id=>exact⟨_,g,d,o,.pass (x:=.inLoop c) rfl (λ_ _=>.inl (by simp)) f⟩
   |goto l=>exact⟨_,g,d,o,.pass (x:=.inLoop c) rfl (λ_ _=>.inl (by simp)) f⟩
   |ret=>exact⟨_,g,d,o,.pass (x:=.inLoop c) rfl (λ_ _=>.inl (by simp)) f⟩
   |panic T=>exact⟨_,g,d,o,.pass (x:=.inLoop c) rfl (λ_ _=>.inl (by simp)) f⟩
   |outgrown=>exact⟨_,g,d,o,.pass (x:=.inLoop c) rfl (λ_ _=>.inl (by simp)) f⟩
def aoJ{r:oN}{c:Code}{d:Fr->AS->jy}(h:AO P B ay c7 r n nt c d)(m:Nat):AO P B ay c7 r n nt (.loop c) (iter m d):=by
 intro G E w fr a res Q hw he hm j p b k cs i o f;obtain⟨e,a',w',l,g⟩:=Xh h m G E w fr a res Q hw he hm j p b k cs i;exact⟨e,a',w',l,.of_steps (.one (fenced_calm o f rfl) stepR_loop) g⟩
end
section
variable{P:Program}{X:Ctx}{B:Nat}{ay:World}{c7:List Deferred}
def py(P:Program)(X:Ctx):Prop:= ∀f pf,X.code f=some pf-> ∃rows fn,P.funcs[f]?=some fn/\Dj P rows fn=some pf
def HG{rows:Bool}{fn:Func}{pf:PF}(h:Dj P rows fn=some pf): ∃c,fn.body=some c/\fb P rows fn.ntmps c=some pf.body/\pn P fn.results.toList=some pf.results/\pf.ntmps=fn.ntmps/\ (fn.name== "runtime.NumGoroutine")=false:=by
 unfold Dj at h;split at h
 ·rename_i c d;split at h
  ·rename_i b rs f e;split at h
   ·rename_i a;cases h;exact⟨c,d,f,e,rfl,by simpa using a⟩
   ·cases h
  ·cases h
 ·cases h
def Xi{fn:Func}{c:Code}(d:P.funcs[f]?=some fn)(e:fn.body=some c)(b: (fn.name== "runtime.NumGoroutine")=false)(first cap args:Array Value)(w:World):
  (wi (.func (.func f) first cap) args).run P w= .ok (.enter f (first++args++cap)) w:=by
 have a: ¬fn.name= "runtime.NumGoroutine" :=by simpa using b
 simp[wi,Deferred.ofValue,invoke,callFunc,aq6,d,a,e]
def aoK{r:oN}{pc:PC}{f:Ex}{c:Option Code}(b:x6 (some pc) c)(d:xY pc=some f){Q:Exit->Act->World->Prop}(h: ∀e,(∀G,fZ G f e)->Q e a w): ∃code,c=some code/\code.wpIn (W r) n P Q a w:=by
 cases pc<;>simp[xY]at d<;>simp only[x6]at b<;>subst b<;>subst d
 ·exact⟨_,rfl,wpIn_exit (h _ λ_=>rfl)⟩
 ·exact⟨_,rfl,wpIn_ret (h _ λ_=>trivial)⟩
section
variable{C:bE}(hC:fY P B ay C)(hg:fC X B ay)(hX:py P X){n nt:Nat}{rows:Bool}
include hC hX
theorem aoL{bU:FuncId}{g:Operand}{g':ao}{N:Array Tmp}{assign body:Code}{as bd:PC}(h1:bM g=some g')(h2:fb P rows nt assign=some as)(h3:fb P rows nt body=some bd)(h4:N.toList.all (· <nt)=true){L:eH}:
  AO P B ay c7 none n nt (.rangeFunc g N assign body) (bm X C L bU false (.ie g' N.toList as bd)):=by
 intro G E w fr a res Q hw he hm u hQ;simp only[bm,agm,ajc]at u;split at u
 ·rename_i o;have S:=cG he h1;obtain⟨f,first,cap,pf,hgv,aBL,Dx⟩: ∃f first cap pf,g'.get fr.env= .fn (.func f) first cap/\X.cg f=none/\X.code f=some pf:=by
   unfold qH at o;split at o
   ·rename_i f first cap hv
    simp only[ahV,Option.isNone_iff_eq_none,asE]at o;obtain⟨h1,pf,h2⟩:=o;exact⟨f,first,cap,pf,hv,h1,h2⟩
   ·cases o
  obtain⟨aoN,fn,hf,aoO⟩:=hX f pf Dx;obtain⟨c,M,_,_,_,H⟩:=HG aoO;have aoP:=S;rw[hgv]at S;simp only[an,m9]at S;obtain⟨f',d,t,AP,qN,aBM,aBN⟩:=S;subst qN;refine wpIn_rangeFunc (λXj _=>?_);have R:=he.size
  let y:Loop:={state:=.ready,pending:=none,fn:=Xj,tmps:=a.tmps,params:=N,assign,body,defers:=w.heap.size}
  let k:=(w.alloc (.deferred (some []))).alloc (.loop y)
  have Xk: (w.alloc (.deferred (some []))).heap.size=w.heap.size+1:=by simp
  have Xl:=hw.push (.deferred (some [])) .fx 0 0 ⟨by simp[Gh.push],by
   have: (G.push w.heap.size 0 0).bg G.n=w.heap.size:=by simp[Gh.push]
   rw[this];exact ao7 _ _⟩
  have s:=G.AH w.heap.size 0 0;have p:=(G.push w.heap.size 0 0).AH (w.alloc (.deferred (some []))).heap.size 0 0;have HH:=Xl.push (.loop y) (.loop .ready none bU fr.env N.toList as bd) 0 0 ⟨by simp[Gh.push],y,by
   have: ((G.push w.heap.size 0 0).push (w.alloc (.deferred (some []))).heap.size 0 0).bg (G.push w.heap.size 0 0).n=(w.alloc (.deferred (some []))).heap.size:=by simp[Gh.push]
   rw[this];exact ao7 _ _,rfl,rfl,trivial,by
    have:=(he.mono s).mono p;show cN _ a.tmps.size fr.env a.tmps;rw[R];exact this,rfl,by show N.toList.all (· <a.tmps.size)=true;rw[R];exact h4,rows,by show fb P rows a.tmps.size assign=_;rw[R];exact h2,by show fb P rows a.tmps.size body=_;rw[R];exact h3⟩
  have i:=hw.len;have aoQ: ((G.push w.heap.size 0 0).push (w.alloc (.deferred (some []))).heap.size 0 0).on E.heap.length:=p.on _ (Gh.Dk hw);have F: ((G.push w.heap.size 0 0).push (w.alloc (.deferred (some []))).heap.size 0 0).on (E.heap.length+1):=by
   have:=Gh.Dk Xl (b:=(w.alloc (.deferred (some []))).heap.size) (ew:=0) (sz:=0);have e: (E.push .fx).heap.length=E.heap.length+1:=by simp[AS.push]
   rwa[e]at this
  refine⟨w.heap.size+1,[{target:=.collected w.heap.size,args:= #[]}],k,{target:=.fn (.func f) t,args:=d++ #[.func (.yield (w.heap.size+1)) #[] #[]]},k,f,d++ #[.func (.yield (w.heap.size+1)) #[] #[]]++t,k,?_,?_,λ_ _=>trivial,?_,λh=>by simp[W]at h,?_⟩
  ·show(Instr.enterLoop Xj a.tmps N assign body none).run P w=_;simp[Instr.enterLoop,k,y]
  ·have aoR:Act.eval a g= .func (.func f) d t:=AP;have Xm: (#[Operand.const (.func (.yield (w.heap.size+1)) #[] #[])]:Array Operand).map a.eval= #[.func (.yield (w.heap.size+1)) #[] #[]]:=by simp[Act.eval]
   simp only[rangeCall,resolve,Xm,aoR,Deferred.ofValue,Sem.run_pure]
  ·have HI: ¬fn.name= "runtime.NumGoroutine" :=by simpa using H
   simp[invoke,callFunc,aq6,hf,HI,M]
  ·have hy:an ((G.push w.heap.size 0 0).push (w.alloc (.deferred (some []))).heap.size 0 0) (.fn (.yield (E.heap.length+1)) [] []) (.func (.yield (w.heap.size+1)) #[] #[]):=by
     refine⟨_,#[],#[],rfl,⟨F,_,rfl,λ_=>by simp[Gh.push,i]⟩,by simp[aG],by simp[aG]⟩
   have z:=Xi (P:=P) hf M H d t #[.func (.yield (w.heap.size+1)) #[] #[]] k;have Z:E.Ext ((E.push .fx).push (.loop .ready none bU fr.env N.toList as bd)):=(AS.Ext.push _ _).trans (.push _ _);have main: ∀cr,C (g'.get fr.env) [.fn (.yield (E.heap.length+1)) [] []] ((E.push .fx).push (.loop .ready none bU fr.env N.toList as bd))=some cr->
     CallsIn (W none) 0 P f (d++ #[.func (.yield (w.heap.size+1)) #[] #[]]++t) k (Ends P B ay ((G.push w.heap.size 0 0).push (w.alloc (.deferred (some []))).heap.size 0 0) ((E.push .fx).push (.loop .ready none bU fr.env N.toList as bd)) cr):=by
    intro cr K;have:=hC _ _ _ _ K _ k (a.eval g) #[.func (.yield (w.heap.size+1)) #[] #[]] HH ((aoP.mono s).mono p) ⟨_,_,rfl,hy,by simp[aG]⟩;rw[AP,z]at this;exact this
   have hmarks: ∀x,((G.push w.heap.size 0 0).push (w.alloc (.deferred (some []))).heap.size 0 0).le x->gz c7 x (E.heap.length::fr.marks) ({target:=.collected w.heap.size,args:= #[]}::a.defers):=by
    intro x hG';refine gz.mono hG' ⟨_,_,w.heap.size,rfl,rfl,aoQ,λ_=>by simp[Gh.push,i],(hm.mono s).mono p⟩
   split at u
   ·rename_i v E' K;refine N5 ((main _ K).mono λe q m=>?_);cases e with
    |panicked _=>exact m.elim
    |outgrown=>exact m.elim
    |returned v'=>
     obtain⟨x,U,q2,q3,q4⟩:=m;unfold endLoop at u;split at u
     ·rename_i st A ff env Dy HJ je Y;split at u
      ·cases u
      ·rename_i qL;have I:x.on (E.heap.length+1):=U.on _ F;obtain⟨o0,L',ob,os,oj,_,oe,op,N8,aoT⟩:=q2.obj _ _ Y I.2;have Xn:x.bg (E.heap.length+1)=w.heap.size+1:=by
        rw[(U.same (E.heap.length+1) F (by rw[o0];simp[Gh.push,i])).1];simp[Gh.push,i]
       rw[Xn]at ob;have V: (Instr.endLoop (w.heap.size+1)).run P q= .ok L'.pending (eW q (w.heap.size+1) (.loop {L' with state:=.exhausted})):=by
        have N9: ¬L'.state= .busy:=by rw[os];exact qL
        simp[Instr.endLoop,Instr.getLoop,getObj,setObj,Sem.run,ob,N9,eW]
       have D:ba P B ay x (E'.set (E.heap.length+1) (.loop .exhausted A ff env Dy HJ je) 0) (eW q (w.heap.size+1) (.loop {L' with state:=.exhausted})):=by
        have:=q2.put I (O:=.loop {L' with state:=.exhausted}) (o':=.loop .exhausted A ff env Dy HJ je) 0 ⟨o0,{L' with state:=.exhausted},uG (q2.low _ I).2,rfl,oj,trivial,oe,op,N8,aoT⟩;rw[Xn]at this;exact this
       have J:E.Ext (E'.set (E.heap.length+1) (.loop .exhausted A ff env Dy HJ je) 0):=(Z.trans q4).trans (.set Y λn hn _=>hn);have l:=Gh.le_trans (Gh.le_trans s p) U;generalize eW q (w.heap.size+1) (.loop {L' with state:=.exhausted})=T at D V;refine⟨L'.pending,T,V,?_⟩;split at u
       ·cases u;simp only[x6]at oj;rw[oj];exact hQ _ _ _ ⟨x,l,D,he.mono l,hmarks x U,J,trivial⟩
       ·rename_i j;split at u
        ·rename_i ex hex;cases u;obtain⟨code,Dz,hwp⟩:=aoK (r:=none) (n:=n) (P:=P) (Q:=Q) oj hex (a:={a with defers:=[{target:=.collected w.heap.size,args:= #[]}]++a.defers}) (w:=T)
          (λe aoV=>hQ _ _ _ ⟨x,l,D,he.mono l,hmarks x U,J,aoV x⟩)
         rw[Dz];exact hwp
        ·cases u
     ·cases u
   ·rename_i v E' K;cases u;refine N5 ((main _ K).mono λe q m=>?_);cases e with
    |returned _=>exact m.elim
    |outgrown=>exact m.elim
    |panicked chain=>
     obtain⟨x,v',N6,U,q2,q3,q4⟩:=m;have l:=Gh.le_trans (Gh.le_trans s p) U;exact hQ _ _ _ ⟨x,l,q2,he.mono l,hmarks x U,Z.trans q4,v',N6,q3⟩
   ·cases u
 ·cases u
end
def AQ(P:Program)(X:Ctx)(B:Nat)(ay:World):Prop:=
 ∀ (c7:List Deferred) (C:bE),fY P B ay C-> ∀ (rows:Bool) (r:oN) (n nt id:Nat) (ops:Array Oper) (xs:List aT) (ys:List (aT×lN)),kT P rows ops ops.toList=some xs->(∀x∈xs,∀d,x.dst=some d->d<nt)->NC ops xs=some ys->
   AO P B ay c7 r n nt (.region id ops true) (λfr E=>gy X C [] (ig E.heap.length ys) fr (E.my (dD ys)))
def wj{C:bE}(hC:fY P B ay C)(hg:fC X B ay)(hX:py P X)(gQ:AQ P X B ay){L:eH}(hL:yk L){rows:Bool}{bU:FuncId}{rd:Bool}{r:oN}(R:rd=r.isSome):
  ∀ (c:Code) (pc:PC),fb P rows nt c=some pc->AO P B ay c7 r n nt c (bm X C L bU rd pc):=by
 intro c
 induction c with
 |skip=>
  intro pc h G E w fr a res Q hw he hm b i;simp only[fb,adP]at h;subst h;simp only[bm,adP]at b;subst b;exact wpIn_skip (i _ _ _ ⟨G,G.le_refl,hw,he,hm,.refl E,trivial⟩)
 |label l=>
  intro pc h G E w fr a res Q hw he hm b i;simp only[fb,adP]at h;subst h;simp only[bm,adP]at b;subst b;exact wpIn_label (i _ _ _ ⟨G,G.le_refl,hw,he,hm,.refl E,trivial⟩)
 |seq x y q v=>
  intro pc h G E w fr a res Q hw he hm b i;simp only[fb]at h;split at h
  ·rename_i T U K W;cases h;simp only[bm]at b;split at b
   ·rename_i m E' hb;refine azX (q T K G E w fr a _ _ hw he hm hb (λe a' w' f=>?_));obtain⟨j,J,I,H,F,D,u⟩:=f;cases e<;>simp[fZ]at u;exact v U W j E' w' m a' res Q I H F b (λe a w hh=>i e a w (hh.trans J D))
   ·rename_i z;refine azX (q T K G E w fr a res _ hw he hm b (λe a' w' f=>?_));have Z:=i e a' w' f;obtain⟨j,J,I,H,F,D,u⟩:=f;obtain⟨ex,m,E'⟩:=res;cases e<;>first|exact Z| (exfalso;cases ex<;>simp[fZ]at u;exact z m E' b)
  ·cases h
 |cond c x y q v=>
  intro pc h G E w fr a res Q hw he hm b i;simp only[fb]at h;split at h
  ·rename_i c' T U M K W;cases h;simp only[bm]at b;split at b
   ·rename_i t ht;have o:=cG he M;rw[ht]at o;simp only[an]at o;refine wpIn_cond o ?_;cases t with
    |true=>simp only[ahJ]at b⊢;exact q T K G E w fr a res Q hw he hm b i
    |false=>simp only[agm,ajc]at b⊢;exact v U W G E w fr a res Q hw he hm b i
   ·cases b
  ·cases h
 |block id c N=>
  intro pc h G E w fr a res Q hw he hm b i;simp only[fb]at h;obtain⟨p,M,rfl⟩:=agj.1 h;simp only[bm]at b;split at b
  ·rename_i id' m E' hb;refine wpIn_block (N p M G E w fr a _ _ hw he hm hb (λe a' w' f=>?_));obtain⟨j,J,I,H,F,D,u⟩:=f;cases e<;>simp[fZ]at u;subst u;simp only[Exit.inBlock];split at b
   ·rename_i A;cases b;rw[aez A];exact i _ _ _ ⟨j,J,I,H,F,D,trivial⟩
   ·rename_i A;cases b;rw[aeu A];exact i _ _ _ ⟨j,J,I,H,F,D,rfl⟩
  ·rename_i z;refine wpIn_block (N p M G E w fr a res _ hw he hm b (λe a' w' f=>?_));have Z:=i e a' w' f;obtain⟨j,J,I,H,F,D,u⟩:=f;obtain⟨ex,m,E'⟩:=res;cases e<;>first|exact Z| (exfalso;cases ex<;>simp[fZ]at u;exact z _ m E' b)
 |loop c N=>
  intro pc h G E w fr a res Q hw he hm b i;simp only[fb]at h;obtain⟨p,M,rfl⟩:=agj.1 h;simp only[bm]at b;obtain⟨k,hk⟩:=hL _ _ _ _ b;exact aoJ (N p M) k G E w fr a res Q hw he hm hk i
 |exit id=>
  intro pc h G E w fr a res Q hw he hm b i;simp only[fb,adP]at h;subst h;simp only[bm,adP]at b;subst b;exact wpIn_exit (i _ _ _ ⟨G,G.le_refl,hw,he,hm,.refl E,rfl⟩)
 |ret=>
  intro pc h G E w fr a res Q hw he hm b i;simp only[fb,adP]at h;subst h;simp only[bm,adP]at b;subst b;exact wpIn_ret (i _ _ _ ⟨G,G.le_refl,hw,he,hm,.refl E,trivial⟩)
 |region id ops draw=>
  intro pc h;simp only[fb]at h;split at h
  ·rename_i xs O;split at h
   ·rename_i S;have hd: ∀x∈xs,∀d,x.dst=some d->d<nt:=by
     intro x K d Y;have:=agx.1 S x K;rw[Y]at this;simpa using this
    cases draw with
    |false=>
     simp only[agm,ajc,adP]at h;subst h;intro G E w fr a res Q hw he hm b i;simp only[bm]at b;exact wpIn_region (N7 hC hg ops.toList _ xs (aoI ops) O hd G E w fr a res Q hw he hm b i)
    |true=>
     simp only[ahJ]at h;obtain⟨ys,V,rfl⟩:=agj.1 h;intro G E w fr a res Q hw he hm b i;simp only[bm]at b;exact gQ _ C hC rows r n nt id ops xs ys O hd V G E w fr a res Q hw he hm b i
   ·cases h
  ·cases h
 |rangeFunc g ps assign body iha ihb=>
  intro pc h;simp only[fb]at h;split at h
  ·rename_i g' as bd h1 h2 h3;split at h
   ·rename_i h4;cases h;cases r with
    |none=>
     subst R;exact aoL hC hX h1 h2 h3 h4
    |some l=>
     subst R;intro G E w fr a res Q hw he hm b i;simp[bm]at b
   ·cases h
  ·cases h
 |scope c N=>intro pc h;simp[fb]at h
 |goto l=>intro pc h;simp[fb]at h
 |refuse s=>intro pc h;simp[fb]at h
end
section
variable{P:Program}{X:Ctx}{B:Nat}{ay:World}{c7:List Deferred}
def aoW{x:Value}(h: (Instr.loadAt t x).run P w= .ok v w): (do loadVar t (<-asAddr x):Sem Value).run P w= .ok v w:=by
 cases x with
 |pointer a=>
  cases a with
  |some a=>simpa[Instr.loadAt,Instr.sureAddr,asAddr]using h
  |none=>simp[Instr.loadAt,Instr.sureAddr,Sem.run_bind,stuck,Sem.run,Result.andThen]at h
 |_=>simp[Instr.loadAt,Instr.sureAddr,Sem.run_bind,stuck,Sem.run,Result.andThen]at h
def DA(b:Array Value):ResultVar->Sem Value
 |.tmp t=>pure (b.getD t undef)
 |.cell a t=>do loadVar t (<-asAddr (b.getD a undef))
def aoX(fn:Func)(b:Array Value):results fn b=(do let vs<-fn.results.mapM (DA b);pure (if h:vs.size=1 then vs[0]else .tuple vs)):=by
 have:DA b=(λ
  |.tmp t=>pure (b.getD t undef)
  |.cell a t=>do loadVar t (<-asAddr (b.getD a undef))):=by
  funext x
  cases x<;>rfl
 unfold results;rw[this];rfl
theorem Oa(hg:fC X B ay){G:Gh}{E:AS}{w:World}(k:ba P B ay G E w){nt:Nat}{e:Env}{d:Array Value}(j:cN G nt e d): ∀ (l:List ResultVar) (rs:List RV) (vs:List AV),pn P l=some rs->ki X E e rs=some vs->
  ∃g,(l.mapM (DA d)).run P w= .ok g w/\aG G vs g
 | [],rs,vs,h,f=>by
   simp only[pn,adP]at h;subst h;simp only[ki,adP]at f;subst f;exact⟨[],by simp,by simp[aG]⟩
 |.tmp t::l,rs,vs,h,f=>by
  simp only[pn]at h;obtain⟨i,p,rfl⟩:=agj.1 h;simp only[ki,pa]at f;split at f
  ·rename_i c o;cases f;obtain⟨g,e1,r⟩:=Oa hg k j l i c p o;refine⟨d.getD t undef::g,?_,⟨_,_,rfl,NI j t,r⟩⟩;rw[azT];simp only[Sem.run_bind,DA,Sem.run_pure,Result.andThen_ok];rw[e1];simp only[Result.andThen_ok,Sem.run_pure]
  ·cases f
 |.cell a t::l,rs,vs,h,f=>by
  simp only[pn]at h;split at h
  ·rename_i b n i u s p;cases h;simp only[ki,pa]at f;split at f
   ·rename_i v o;split at f
    ·rename_i c m;cases f;obtain⟨g,e1,r⟩:=Oa hg k j l i c p m;obtain⟨v',y,q⟩:=Ws k hg u s (NI j a) o;have e3:=aoW y;refine⟨v'::g,?_,⟨_,_,rfl,q,r⟩⟩;rw[azT];have x: (DA d (.cell a t)).run P w= .ok v' w:=e3;simp only[Sem.run_bind];rw[x];simp only[Result.andThen_ok];rw[e1];simp only[Result.andThen_ok,Sem.run_pure]
    ·cases f
   ·cases f
  ·cases h
def DB(hg:fC X B ay){G:Gh}{E:AS}(k:ba P B ay G E w){e:Env}{b:Array Value}(m:cN G nt e b){fn:Func}{f:List RV}{v:AV}(h:pn P fn.results.toList=some f)(d:fL X E e f=some v):
  ∃v',(results fn b).run P w= .ok v' w/\an G v v':=by
 have key: ∀vs,ki X E e f=some vs-> ∃a:List Value,aG G vs a/\ (results fn b).run P w= .ok (if h:a.toArray.size=1 then a.toArray[0]else .tuple a.toArray) w:=by
  intro vs c;obtain⟨a,e1,r⟩:=Oa hg k m _ f vs h c;refine⟨a,r,?_⟩;rw[aoX,Array.mapM_eq_mapM_toList];simp only[Sem.run_bind,Sem.run_map];rw[e1];simp[Result.andThen]
 unfold fL at d;split at d
 ·rename_i i c;cases d;obtain⟨a,r,e1⟩:=key _ c;simp only[aG]at r;obtain⟨v',q,rfl,j,rfl⟩:=r;exact⟨v',by rw[e1];simp,j⟩
 ·rename_i vs g c;cases d;obtain⟨a,r,e1⟩:=key _ c;have l:=r.length;refine⟨.tuple a.toArray,?_,⟨_,rfl,by simpa using r⟩⟩;rw[e1,dif_neg];intro n;have:vs.length=1:=by simpa[l]using n
  obtain⟨x,rfl⟩:=List.length_eq_one_iff.1 this;exact g x rfl
 ·cases d
theorem yl: ∀ (ms:lN) (E a:AS),dN E ms=some a->E.Ext a
 | [],E,a,h=>by simp only[dN,adP]at h;subst h;exact .refl E
 |m::ms,E,a,h=>by
  simp only[dN]at h;split at h
  ·rename_i hm;exact(AS.Ext.set (o':=.dead) (refs:=0) hm λ_ _ _=>trivial).trans (yl ms _ a h)
  ·cases h
theorem ym{n:Nat}{fn:Func}{b:Array Value}{R:Ending->World->Prop}{u:FrameMode}(i:u≠ .run){G:Gh}: ∀ (ms:lN) (f:List Deferred) (E a:AS) (w:World),gz c7 G ms f->ba P B ay G E w->dN E ms=some a->
  (∀w',ba P B ay G a w'->LeavesInM (W none) n P fn b R c7 u w')->LeavesInM (W none) n P fn b R f u w
 | [],f,E,a,w,e,hw,c,h=>by
   simp only[gz]at e;subst e;simp only[dN,adP]at c;subst c;exact h w hw
 |m::ms,f,E,a,w,e,hw,c,h=>by
  simp only[gz]at e;obtain⟨d,r,k,rfl,p,j,o,l⟩:=e;simp only[dN]at c;split at c
  ·rename_i hm;obtain⟨s,q⟩:=hw.obj m _ hm j.2;have g:=o s;subst g;refine⟨i,.inl ⟨_,eW w (G.bg m) (.deferred none),p,?_,?_⟩⟩
   ·simp[Instr.takeDeferred,getObj,setObj,Sem.run,q,eW]
   ·exact ym i ms r (E.set m .dead 0) a _ l (hw.put j 0 trivial) c h
  ·cases c
def HK{G:Gh}{args:List AV}{a:Array Value}(e:aG G args a.toList)(j:args.length<=nt):cN G nt (dj args) (a++Array.replicate (nt-a.size) undef):=by
 have f:a.size=args.length:=by rw[<-amq];exact e.length
 refine⟨by simp;omega,λt v b=>?_,λt b=>?_⟩
 ·simp only[dj,agn];rw[Array.getElem?_append]at b;split at b
  ·rename_i h;have c:t<args.length:=by omega
   obtain⟨u,hu,g⟩:=e.get t args[t] (adQ c);rw[adQ c];have:some u=some v:=by rw[<-hu,<-b];simp
   cases this;exact g
  ·rename_i i;have d:args.length<=t:=by omega
   rw[alZ d];rw[axp]at b;split at b
   ·cases b;exact yg
   ·cases b
 ·simp only[dj,agn];rw[alZ (by omega)];rfl
theorem Xo{G:Gh}{nt:Nat}: ∀ (ps:lN) (args:List AV) (e:Env) (tmps:Array Value) (a:List Value),cN G nt e tmps->aG G args a->(∀p∈ps,p<nt)->cN G nt (ij e ps args) ((ps.zip a).foldl (λtmps (p:Nat×Value)=>tmps.setIfInBounds p.1 p.2) tmps)
 | [],args,e,tmps,a,he,b,c=>by simpa[ij]using he
 |p::ps,[],e,tmps,a,he,b,c=>by
  simp only[aG]at b;subst b;simpa[ij]using he
 |p::ps,x::xs,e,tmps,a,he,b,c=>by
  simp only[aG]at b;obtain⟨v,q,rfl,g,f⟩:=b;simp only[ij,List.zip_cons_cons,ayG];exact Xo ps xs _ _ q (he.set (c p (by simp)) g) f (λy d=>c y (by simp[d]))
def gB(P:Program)(B:Nat)(ay:World)(f:FuncId)(p:List AV->AS->Option aX):Prop:=
 ∀args E b,p args E=some b-> ∀G w (a:Array Value),ba P B ay G E w->aG G args a.toList->Dw P (Ends P B ay G E b) ((callFunc f a).run P w)
section
variable{C:bE}(hC:fY P B ay C)(hg:fC X B ay)(hX:py P X)(gQ:AQ P X B ay){L:eH}(hL:yk L)
include hC hg hX gQ hL
theorem aoY{pf:PF}(T:X.code f=some pf){args:List AV}{E:AS}{q:aX}(R:args.length<=pf.ntmps)
  (h:leave X E.heap.length E.lo pf (bm X C L f false pf.body {env:=dj args,marks:=[]} {heap:=E.heap,lo:=none})=some q) {G:Gh} {w:World} {b:Array Value} (z:ba P B ay G E w) (S:aG G args b.toList):
  CallsIn (W none) 0 P f b w (Ends P B ay G E q):=by
 obtain⟨rows,fn,F,n⟩:=hX f pf T;obtain⟨c,U,l,m,A,D⟩:=HG n;cases g:bm X C L f false pf.body {env:=dj args,marks:=[]} {heap:=E.heap,lo:=none}with
 |none=>rw[g]at h;simp[leave]at h
 |some res=>
  rw[g]at h;have he:cN G fn.ntmps (dj args) (b++Array.replicate (fn.ntmps-b.size) undef):=HK S (by rw[<-A];exact R);refine ax3 F U trivial (wj hC hg hX gQ hL (r:=none) rfl c pf.body l G {heap:=E.heap,lo:=none} w {env:=dj args,marks:=[]} _ res _ (z.lo none) he rfl g (λe a w' Q=>?_)) rfl;obtain⟨V,K,J,N,I,H,p⟩:=Q;obtain⟨ex,fr,E'⟩:=res;have k:qI X E.heap.length E.lo pf fr E'=some q->LeavesInM (W none) 0 P fn a.tmps (Ends P B ay G E q) a.defers .returning w':=by
   intro h;unfold qI at h;split at h
   ·rename_i j o;split at h
    ·rename_i v O;cases h;refine ym (by simp) fr.marks a.defers E' j w' I J o (λs d=>?_);obtain⟨v',e1,M⟩:=DB hg d N m O;refine⟨v',e1,?_⟩;obtain⟨i,y,x,u,t⟩:=yf z K d (H.trans (yl _ _ _ o)) M;exact⟨i,y,x,u,t⟩
    ·cases h
   ·cases h
  cases ex with
  |normal=>cases e<;>simp[fZ]at p;exact k h
  |ret=>cases e<;>simp[fZ]at p;exact k h
  |exit id=>simp[leave]at h
  |panic v=>
   cases e<;>simp[fZ]at p;rename_i chain;obtain⟨v',rfl,rv⟩:=p;simp only[leave]at h;split at h
   ·rename_i j o;cases h;refine ym (by simp) fr.marks a.defers E' j w' I J o (λs d=>?_);obtain⟨i,y,x,u,t⟩:=yf z K d (H.trans (yl _ _ _ o)) rv;exact⟨i,v',rfl,y,x,u,t⟩
   ·cases h
theorem aoZ{args:List AV}{E:AS}{cr:aX}(h:lW X C L l args E=some cr){G:Gh}(hw:ba P B ay G E w)(T:G.on l)(hl:aG G args c.toList):
  Dw P (Ends P B ay G E cr) ((Instr.yield (G.bg l) c).run P w):=by
 unfold lW at h;split at h
 ·rename_i st aBR f env ps assign body ao0;split at h
  ·rename_i U;obtain⟨o0,b,ob,os,oj,_,oe,op,N8,rows,oa,obd⟩:=hw.obj l _ ao0 T.2;have r9:c.size=args.length:=by rw[<-amq];exact hl.length
   have HL:b.params.size=ps.length:=by rw[<-op];simp
   have hy: (Instr.yield (G.bg l) c).run P w= .ok (.round (G.bg l) b.fn ((b.params.zip c).foldl (λtmps (t,a)=>tmps.setIfInBounds t a) b.tmps) b.assign b.body) w:=by
    simp[Instr.yield,Instr.getLoop,getObj,Sem.run,ob,r9,HL,U]
   rw[hy];have htm: (b.params.zip c).foldl (λtmps (t,a)=>tmps.setIfInBounds t a) b.tmps=(ps.zip c.toList).foldl (λtmps (p:Nat×Value)=>tmps.setIfInBounds p.1 p.2) b.tmps:=by
    rw[<-Array.foldl_toList,Array.toList_zip,op]
   rw[htm];split at h
   ·rename_i fr Z ha;split at h
    ·rename_i g f' u S V je I;have he:=Xo ps args env b.tmps c.toList oe hl (λp hp=>by simpa using agx.1 N8 p hp);refine roundIn_of_wpIn (F:=W none) trivial (wj hC hg hX gQ hL (r:=some (G.bg l)) (rd:=true) (bU:=f) rfl b.assign assign oa G {heap:=E.heap,lo:=none} w {env:=ij env ps args,marks:=[]} _ _ _ (hw.lo none) he rfl ha (λe a Y hr=>?_));obtain⟨z,q1,q2,q3,q4,q5,q6⟩:=hr;cases e<;>simp[fZ]at q6;obtain⟨p0,y,pb,pst,pj,_,pe,pp,Dy,ao4⟩:=q2.obj l _ I (q1.on l T).2;have k:z.on l:=q1.on l T;have hlG:G.on l:=T;have M:z.bg l=G.bg l:=(q1.same l hlG (by rw[p0,o0])).1;refine⟨eW Y (G.bg l) (.loop {y with state:=.busy}),?_,?_⟩
     ·rw[<-M];simp[Instr.beginRound,Instr.getLoop,getObj,setObj,Sem.run,pb,pst,eW]
     ·have ao6:ba P B ay z (Z.set l (.loop .busy g f' u S V je) 0) (eW Y (G.bg l) (.loop {y with state:=.busy})):=by
        have:=q2.put k (O:=.loop {y with state:=.busy}) (o':=.loop .busy g f' u S V je) 0 ⟨p0,{y with state:=.busy},uG (q2.low _ k).2,rfl,pj,trivial,pe,pp,Dy,ao4⟩;rw[M]at this;exact this
      cases wk:bm X C L f true body fr (Z.set l (.loop .busy g f' u S V je) 0)with
      |none=>rw[wk]at h;simp[endRound]at h
      |some res=>
       rw[wk]at h;refine wj hC hg hX gQ hL (r:=some (G.bg l)) (rd:=true) (bU:=f) rfl b.body body obd z _ _ fr a res _ ao6 q3 q4 wk (λe a' D hr=>?_);obtain⟨Q,u1,u2,u3,u4,u5,u6⟩:=hr;obtain⟨ex,HM,R⟩:=res;simp only[endRound]at h;split at h
       ·rename_i j aBS aBT N d i o m hj H;cases h;obtain⟨v0,x,vb,vst,vj,_,ve,vp,vps,ao8⟩:=u2.obj l _ H (u1.on l k).2;have J:Q.on l:=u1.on l k;have K:Q.bg l=G.bg l:=by rw[<-M];exact(u1.same l k (by rw[v0,p0])).1
        have Ob:=Gh.le_trans q1 u1;have ao9:AS.Ext {heap:=E.heap,lo:=none} (R.set l (.loop (if j.isNone then .ready else .done) j N d i o m) 0):=
         ((q5.trans (AS.Ext.set (o':=.loop .busy g f' u S V je) (refs:=0) I λn hn _=>hn)).trans u5).trans (AS.Ext.set (o':=.loop (if j.isNone then .ready else .done) j N d i o m) (refs:=0) H λn hn _=>hn)
        have fin: ∀ (q:Option Code),x6 j q-> ∃v w',(Instr.endRound (G.bg l) q).run P D= .ok v w'/\Ends P B ay G E (.ret (.bool j.isNone) (finish E.heap.length E.lo (.bool j.isNone) (R.set l (.loop (if j.isNone then .ready else .done) j N d i o m) 0)).2) (.returned v) w':=by
         intro q A;have s:q.isNone=j.isNone:=by
          cases j with
          |none=>simp only[x6]at A;subst A;rfl
          |some p=>cases p<;>simp only[x6]at A<;>first|exact A.elim| (subst A;rfl)
         refine⟨.bool q.isNone,eW D (G.bg l) (.loop {x with state:=if q.isNone then .ready else .done,pending:=q}),?_,?_⟩
         ·rw[<-K];simp[Instr.endRound,Instr.getLoop,getObj,setObj,Sem.run,vb,eW]
         ·have apa:ba P B ay Q (R.set l (.loop (if j.isNone then .ready else .done) j N d i o m) 0) (eW D (G.bg l) (.loop {x with state:=if q.isNone then .ready else .done,pending:=q})):=by
            have:=u2.put J (O:=.loop {x with state:=if q.isNone then .ready else .done,pending:=q}) (o':=.loop (if j.isNone then .ready else .done) j N d i o m) 0
             ⟨v0,{x with state:=if q.isNone then .ready else .done,pending:=q},uG (u2.low _ J).2,by show(if q.isNone=true then LoopState.ready else LoopState.done)=_;rw[s],A,trivial,ve,vp,vps,ao8⟩
            rw[K]at this;exact this
          obtain⟨apb,s1,s2,s3,s4⟩:=yf (v:=.bool j.isNone) (v':=.bool q.isNone) hw Ob apa ao9 (by simp[an,s]);exact⟨apb,s1,s2,by simp[an,s],s4⟩
        cases ex with
        |normal=>
         simp only[qJ,adP]at hj;subst hj;cases e<;>simp[fZ]at u6;exact fin none rfl
        |ret=>
         simp only[qJ,adP]at hj;subst hj;cases e<;>simp[fZ]at u6;exact fin (some .ret) rfl
        |exit id=>
         simp only[qJ,adP]at hj;subst hj;cases e<;>simp[fZ]at u6;subst u6;exact fin (some (.exit id)) rfl
        |panic v=>simp[qJ]at hj
       ·cases h
    ·cases h
   ·cases h
  ·cases h
 ·cases h
theorem apc(J: ∀f p,X.cg f=some p->gB P B ay f p):fY P B ay (step X C L):=by
 intro fv args E N h G w K b hw g z;unfold step at h;split at h
 ·rename_i f first cap
  simp only[an,m9]at g;obtain⟨M,a,d,rfl,rfl,t,A⟩:=g;have i:wi (.func (.func f) a d) b=callFunc f (a++b++d):=rfl;rw[i];have e:aG G (first++args++cap) (a++b++d).toList:=by
   simp only[Array.toList_append];exact(t.append z).append A
  split at h
  ·rename_i p D;exact J f p D _ _ _ h G w _ hw e
  ·split at h
   ·rename_i pf q;split at h
    ·rename_i F;obtain⟨rows,fn,v,o⟩:=hX f pf q;obtain⟨c,I,_,_,_,m⟩:=HG o;have j:=Xi (P:=P) v I m a d b w;rw[i]at j;rw[j];exact aoY hC hg hX gQ hL q F h hw e
    ·cases h
   ·cases h
 ·rename_i l cap;simp only[an,m9]at g;obtain⟨M,a,d,rfl,⟨s,k,rfl,H⟩,t,A⟩:=g;have n:G.aj l=0:=by
   unfold lW at h;split at h
   ·rename_i st y f env ps assign body r;exact(hw.obj l _ r s.2).1
   ·cases h
  have u:=H n;subst u;have x:a= #[]:=by
   simp only[aG]at t;apply aqr;simpa using t
  subst x;have i:wi (.func (.yield (G.bg l)) #[] d) b=Instr.yield (G.bg l) (#[]++b):=rfl;rw[i,Array.empty_append];exact aoZ hC hg hX gQ hL h hw s z
 ·cases h
end
end
section
variable{X:Ctx}
def nY{x:ao}{e a:Env}(h: ∀t∈x.tmps,e t=a t):x.get e=x.get a:=by
 cases x with
 |t i=>exact h i (by simp[ao.tmps])
 |c v=>rfl
def DC{x:Option ao}{e a:Env}(h: ∀y∈x.toList,∀t∈y.tmps,e t=a t):x.map (·.get e)=x.map (·.get a):=by
 cases x with
 |none=>rfl
 |some y=>simp only[agl];rw[nY (h y (by simp))]
def HN{xs:List ao}{e a:Env}(h: ∀t∈gZ xs,e t=a t):xs.map (·.get e)=xs.map (·.get a):=by
 apply arp;intro x b;exact nY λt c=>h t (by simp only[gZ,aqq];grind)
def apd{a:List (Nat×Nat×ao)}{e b:Env}(h: ∀t∈gZ (a.map (·.2.2)),e t=b t):a.map (λp=>(p.1,p.2.1,p.2.2.get e))=a.map (λp=>(p.1,p.2.1,p.2.2.get b)):=by
 apply arp;intro p d;rw[nY λt c=>h t (by simp only[gZ,aqq,ago];grind)]
def Xp{a b:ao}{e d:Env}(h: ∀t∈gZ [a,b],e t=d t):a.get e=a.get d/\b.get e=b.get d:=
 ⟨nY λt c=>h t (by simp[gZ,c]),nY λt c=>h t (by simp[gZ,c])⟩
def ape{a b c:ao}{e f:Env}(h: ∀t∈gZ [a,b,c],e t=f t):a.get e=a.get f/\b.get e=b.get f/\c.get e=c.get f:=
 ⟨nY λt d=>h t (by simp[gZ,d]),nY λt d=>h t (by simp[gZ,d]),nY λt d=>h t (by simp[gZ,d])⟩
def HO{C:bE}{i:I}{e m:Env}(h: ∀t∈i.reads,e t=m t)(E:AS):exec X C i e E=exec X C i m E:=by
 cases i with
 |mov x|box x|nilck x|un _ x|conv _ x|s2b x|mki _ x|ta _ x _ _|ext x _|len _ x|clear _ x|panic x|faddr _ x|fld _ _ _ x|load _ _ x=>
  simp only[exec,nY h]
 |alloc _|nS=>rfl
 |pick a b c|o8 _ a b c=>obtain⟨l,k,o⟩:=ape h;simp only[exec,l,k,o]
 |build _ ps|bslice _ _ ps|rT _ _ _ ps=>simp only[exec,apd h]
 |store _ a v|bin _ a v|shf _ a v|eq _ a v|ne _ a v|De _ _ _ a v|iaddra _ _ a v|iaddrs _ a v|idxa _ _ _ a v|idxs a v|lookup _ _ a v _|append _ _ _ a v|copy _ a v=>
  obtain⟨l,k⟩:=Xp h;simp only[exec,l,k]
 |mkf f a b=>
  simp only[exec];rw[HN (xs:=a) λt d=>h t (by simp only[I.reads,gZ,amL,ae2];exact .inl d),
   HN (xs:=b) λt d=>h t (by simp only[I.reads,gZ,amL,ae2];exact .inr d)]
 |slstr x lo j|slarr _ _ x lo j=>
  simp only[I.reads,gZ,ara,amL,ae2,aqq]at h;simp only[exec];rw[nY λt d=>h t (.inl d),DC λy g t d=>h t (.inr (.inl ⟨y,g,d⟩)),DC (x:=j) λy g t d=>h t (.inr (.inr ⟨y,g,d⟩))]
 |slsl _ x lo j n=>
  simp only[I.reads,gZ,ara,amL,ae2,aqq]at h;simp only[exec];rw[nY λt d=>h t (.inl d),DC (x:=lo) λy g t d=>h t (.inr (.inl (.inl ⟨y,g,d⟩))),DC (x:=j) λy g t d=>h t (.inr (.inl (.inr ⟨y,g,d⟩))),DC (x:=n) λy g t d=>h t (.inr (.inr ⟨y,g,d⟩))]
 |max xs|min xs=>simp only[exec,HN h]
 |call f as=>
  simp only[I.reads,gZ,ara,ae2]at h;simp only[exec];rw[nY λt d=>h t (.inl d),HN λt d=>h t (.inr d)]
def HP{i:I}{e b:Env}(h: ∀t∈i.reads,e t=b t)(E E':AS):aZ i e E E'=aZ i b E E':=by
 cases i with
 |load _ _ x=>simp only[aZ,nY h]
 |store _ a v=>obtain⟨c,_⟩:=Xp h;simp only[aZ,c]
 |_=>rfl
def apf{C:bE}{i:I}{e:Env}(j:i.cls=0): ∃o,∀E,exec X C i e E=fW E o:=by
 cases i<;>simp only[I.cls,reduceCtorEq]at j
 case mov x=>exact⟨some _,λ_=>rfl⟩
 case mki t x=>exact⟨some _,λ_=>rfl⟩
 case mkf f a b=>exact⟨some _,λ_=>rfl⟩
 case nilck x=>exact⟨_,λ_=>rfl⟩
 case bin op x y=>exact⟨_,λ_=>rfl⟩
 case un op x=>exact⟨_,λ_=>rfl⟩
 case slstr x lo g=>exact⟨_,λ_=>rfl⟩
 case slsl n x lo g l=>exact⟨_,λ_=>rfl⟩
 case slarr n sz x lo g=>exact⟨_,λ_=>rfl⟩
 case faddr o x=>exact⟨_,λ_=>rfl⟩
 case iaddra n sz x i=>exact⟨_,λ_=>rfl⟩
 case iaddrs sz x i=>exact⟨_,λ_=>rfl⟩
 case idxa b n sz x i=>exact⟨_,λ_=>rfl⟩
 case idxs x i=>exact⟨_,λ_=>rfl⟩
 case ta z x t ok=>exact⟨_,λ_=>rfl⟩
 case max xs=>exact⟨_,λ_=>rfl⟩
 case min xs=>exact⟨_,λ_=>rfl⟩
 case pick c a b=>cases h:c.get e<;>first|exact⟨some _,λ_=>by simp only[exec,h];rfl⟩|exact⟨none,λ_=>by simp only[exec,h];rfl⟩
 case build z ps=>cases h:eG z (ps.map λp=>(p.1,p.2.1,p.2.2.get e))<;>first|exact⟨some _,λ_=>by simp only[exec,h];rfl⟩|exact⟨none,λ_=>by simp only[exec,h];rfl⟩
 case bslice z n ps=>cases h:eG (List.replicate n z).flatten (ps.map λp=>(p.1,p.2.1,p.2.2.get e))<;>first|exact⟨some _,λ_=>by simp only[exec,h];rfl⟩|exact⟨none,λ_=>by simp only[exec,h];rfl⟩
 case shf op x y=>
  cases h:x.get e<;>cases d:y.get e<;>first|exact⟨none,λ_=>by simp only[exec,h,d];rfl⟩|exact⟨_,λ_=>by simp only[exec,h,d];rfl⟩
 case eq k x y=>cases h:dA k (x.get e) (y.get e)<;>first|exact⟨some _,λ_=>by simp only[exec,h];rfl⟩|exact⟨none,λ_=>by simp only[exec,h];rfl⟩
 case ne k x y=>cases h:dA k (x.get e) (y.get e)<;>first|exact⟨some _,λ_=>by simp only[exec,h];rfl⟩|exact⟨none,λ_=>by simp only[exec,h];rfl⟩
 case conv k x=>cases h:x.get e<;>first|exact⟨some _,λ_=>by simp only[exec,h];rfl⟩|exact⟨none,λ_=>by simp only[exec,h];rfl⟩
 case s2b x=>
  cases h:x.get e with
  |str s=>
   by_cases d:s.size<=room
   ·exact⟨some _,λ_=>by simp only[exec,h,d,ahJ];rfl⟩
   ·exact⟨none,λ_=>by simp only[exec,h,d,ajc];rfl⟩
  |_=>exact⟨none,λ_=>by simp only[exec,h];rfl⟩
 case fld b n off x=>cases h:x.get e<;>first|exact⟨none,λ_=>by simp only[exec,h];rfl⟩|exact⟨_,λ_=>by simp only[exec,h];rfl⟩
 case ext x i=>cases h:x.get e<;>first|exact⟨none,λ_=>by simp only[exec,h];rfl⟩|exact⟨_,λ_=>by simp only[exec,h];rfl⟩
theorem Xq{i:I}(a:i.cls=0)(e:Env)(E E':AS):aZ i e E E'= .no:=by
 cases i<;>simp only[I.cls,reduceCtorEq]at a<;>rfl
def wm{C:bE}{i:I}{e:Env}{E E':AS}{v:AV}(j:exec X C i e E=some (.ok v E'))(g:aZ i e E E'= .no):E'=E/\ ∀d,exec X C i e d=some (.ok v d)/\aZ i e d d= .no:=by
 by_cases m:i.cls=0
 ·obtain⟨o,ho⟩:=apf (X:=X) (C:=C) (e:=e) m;rw[ho]at j;obtain⟨rfl,rfl⟩:=ez j;exact⟨rfl,λd=>⟨by rw[ho];rfl,Xq m e _ _⟩⟩
 ·cases i<;>simp only[I.cls,not_true_eq_false]at m
  case load b n x=>
   simp only[exec]at j;obtain⟨h,rfl⟩:=ez j;refine⟨rfl,λd=>?_⟩;simp only[aZ]at g⊢;unfold cm at h;split at g<;>first|cases g|skip
   ·rename_i l;rw[l]at h;simp only at h;simp[exec,fW,cm,l,h]
   ·rename_i l;rw[l]at h;simp only at h;simp[exec,fW,cm,l,h]
  case store n a x=>simp only[aZ]at g;split at g<;>cases g
  case len k x=>
   simp only[exec]at j;obtain⟨h,rfl⟩:=ez j;refine⟨rfl,λd=>⟨?_,g⟩⟩;have:fX d k (x.get e)=fX E' k (x.get e):=by
    generalize x.get e=y;cases k<;>first|rfl| (cases y<;>first|rfl| (rename_i c;cases c<;>rfl))| (simp only[aZ]at g;cases g)
   simp only[exec,this,h,fW]
  case call f as=>simp only[aZ]at g;(repeat' split at g)<;>cases g
  all_goals simp[aZ]at g
end
section
variable{X:Ctx}
def qO{C:bE}{i:I}{e:Env}{E E':AS}{v:AV}(c:exec X C i e E=some (.ok v E'))(d:aZ i e E E'= .q\/ ∃id off n,aZ i e E E'= .rd id off n):E'=E:=by
 cases i with
 |load b n x=>exact(ez c).2
 |lookup g z m k ok=>exact(ez c).2
 |len k x=>exact(ez c).2
 |call f as=>
  simp only[aZ]at d
  grind
 |store n a x=>
  simp only[aZ]at d
  grind
 |_=>rcases d with h| ⟨_,_,_,h⟩<;>simp[aZ]at h
def AR:Option ae->Option (List AV)
 |some (.box cs _)=>some cs
 |_=>none
def sb{E:AS}{b:Bool}{id off:Nat}:cm X E b n (.ptr id off)=(AR E.heap[id]?).bind λcs=>part b n cs off:=by
 unfold cm;simp only;cases h:E.heap[id]? with
 |none=>rfl
 |some o=>cases o<;>simp[AR]
def Xr{cs vs:List AV}{off:Nat}(h:off+vs.length<=cs.length)(a:j<off\/off+vs.length<=j): (aJ cs off vs)[j]?=cs[j]?:=by
 unfold aJ;rcases a with a|a
 ·grind
 ·rw[ags (by simp;omega),ags (by simp;omega),al0]
  grind
def apg{cs vs:List AV}{off a:Nat}{b:Bool}(h:a+vs.length<=cs.length)(d:off+Nat.max n 1<=a\/a+vs.length<=off):part b n (aJ cs a vs) off=part b n cs off:=by
 have hm:n<=Nat.max n 1:=aq7 _ _;have c:1<=Nat.max n 1:=aqT _ _;unfold part;rw[NT h];cases b with
 |false=>
  exact Xr h (by omega)
 |true=>
  simp only[ahJ];split
  ·congr 2
   apply ang;intro j;simp only[amH,al0];split
   ·exact Xr h (by omega)
   ·rfl
  ·rfl
def Xs{C:bE}{e:Env}{E E':AS}{v:AV}{a x:ao}{c:Nat}(j:exec X C (.store m a x) e E=some (.ok v E'))(q:aZ (.store m a x) e E E'= .wr d c k)
  {b:Bool} {id off:Nat} (u:id≠d\/off+Nat.max n 1<=c\/c+k<=off):cm X E' b n (.ptr id off)=cm X E b n (.ptr id off):=by
 simp only[aZ]at q;split at q
 ·rename_i i o s;cases q;simp only[exec,s,kf]at j;split at j
  ·rename_i t l;cases j;split at l
   ·rename_i cs g;split at l
    ·cases l;rw[sb,sb];by_cases f:id=d
     ·subst f;have p:id<E.heap.length:=(adN.1 g).1;have r:off+Nat.max n 1<=c\/c+(x.get e).cells.length<=off:=by omega
      simp only[AS.set,ae1 p,AR,g,ao2];exact apg (by omega) r
     ·simp[AS.set,acG (λh=>f h.symm)]
    grind
   grind
  grind
 ·grind
 grind
def aph{E E':AS}{ty:TypeId}{bytes:Nat}{s v:AV}{ys:List (List AV)}(h:dv E ty sz bytes s ys=some (v,E')){b:Bool}{id off:Nat}:cm X E' b n (.ptr id off)=cm X E b n (.ptr id off):=by
 have push: ∀ (aj sz:Nat) (ty:TypeId) (af:List (List AV)),cm X (E.push (.row aj sz ty af)) b n (.ptr id off)=cm X E b n (.ptr id off):=by
  intro aj sz ty af;rw[sb,sb];simp only[AS.push,List.getElem?_append];split
  ·rfl
  ·rw[alZ (by omega:E.heap.length<=id)];cases k:id-E.heap.length<;>simp[AR]
 unfold dv at h;split at h
 ·split at h
  ·split at h
   ·cases h;rfl
   ·split at h
    ·cases h;exact push _ _ _ _
    ·cases h
  ·split at h
   ·cases h;rfl
   ·split at h
    ·cases h;exact push _ _ _ _
    ·cases h
  ·split at h
   ·cases h;rfl
   ·cases h
  ·rename_i a aj d g len cK;split at h
   ·rename_i f j i af he;split at h
    ·split at h
     ·cases h;rfl
     ·split at h
      ·cases h;exact push _ _ _ _
      ·cases h;rw[sb,sb]
       congr 1
       by_cases c:a=id
       ·subst c;have e:a<E.heap.length:=(adN.1 he).1;rw[he];simp[AS.set,e,AR]
       ·simp[AS.set,acG c]
    ·cases h
   ·cases h
  ·cases h
 grind
def api{E E':AS}{a o:Nat}{x:AV}(h:kf E n (.dn a aj i o) x=some E'){b:Bool}{id off:Nat}:cm X E' b m (.ptr id off)=cm X E b m (.ptr id off):=by
 unfold kf at h;simp only at h;split at h
 ·rename_i w sz ty af he;split at h
  ·split at h
   ·cases h;rw[sb,sb];by_cases c:id=a
    ·subst c;have d:id<E.heap.length:=(adN.1 he).1;simp[AS.set,ae1 d,AR,he]
    ·simp[AS.set,acG (λh=>c h.symm)]
   grind
  grind
 grind
def Xt{C:bE}{i:I}{e:Env}{E E':AS}{v:AV}(d:exec X C i e E=some (.ok v E'))(c:aZ i e E E'= .app){b:Bool}{id off:Nat}:cm X E' b n (.ptr id off)=cm X E b n (.ptr id off):=by
 cases i with
 |append ty sz bytes s x=>
  simp only[exec]at d;split at d
  ·split at d
   ·rename_i h;cases d;exact aph h
   grind
  grind
 |load _ _ _=>simp only[aZ]at c;split at c<;>cases c
 |store m a x=>
  simp only[aZ]at c;split at c<;>first|cases c|skip
  rename_i g;simp only[exec,g]at d;split at d
  ·rename_i f;cases d;exact api f
  ·cases d
 |len k x=>simp only[aZ]at c;split at c<;>cases c
 |call _ _=>simp only[aZ]at c;(repeat' split at c)<;>cases c
 |_=>simp[aZ]at c
def HQ{i:I}{e:Env}{E E':AS}{id off:Nat}(c:aZ i e E E'= .rd id off k): ∃b n a,i= .load b n a/\a.get e= .ptr id off/\k=Nat.max n 1:=by
 cases i with
 |load b n a=>
  simp only[aZ]at c
  grind
 |store _ _ _=>simp only[aZ]at c;grind
 |len k x=>simp only[aZ]at c;grind
 |call _ _=>simp only[aZ]at c;grind
 |_=>trivial
def HR{i:I}{e:Env}{E E':AS}{id off:Nat}(c:aZ i e E E'= .wr id off k): ∃n a x,i= .store n a x:=by
 cases i with
 |load b n a=>simp only[aZ]at c;grind
 |store n a x=>simp
 |len k x=>simp only[aZ]at c;grind
 |call _ _=>simp only[aZ]at c;grind
 |_=>trivial
def wo{C:bE}{b:Bool}{a:ao}{e:Env}{E c:AS}{p:AV}{v:AV}{E':AS}(g:a.get e=p)(h:cm X c b n p=cm X E b n p)(d:exec X C (.load b n a) e E=some (.ok v E')):
  exec X C (.load b n a) e c=some (.ok v c):=by
 simp only[exec,g]at d⊢;obtain⟨f,_⟩:=ez d;rw[h,f];rfl
def DD{i:I}{e:Env}{E E':AS}(c:aZ i e E E'= .rr): ∃b n a id aj j o,i= .load b n a/\a.get e= .dn id aj j o:=by
 cases i with
 |load b n a=>
  simp only[aZ]at c
  grind
 |store _ _ _=>simp only[aZ]at c;grind
 |len k x=>simp only[aZ]at c;grind
 |call _ _=>simp only[aZ]at c;grind
 |_=>trivial
def Xu{C:bE}{e:Env}{E E':AS}{v:AV}{a x:ao}{c:Nat}(l:exec X C (.store m a x) e E=some (.ok v E'))(r:aZ (.store m a x) e E E'= .wr d c k)
  {b:Bool} {id o:Nat}:cm X E' b n (.dn id aj j o)=cm X E b n (.dn id aj j o):=by
 simp only[aZ]at r;split at r
 ·rename_i i o' s;cases r;simp only[exec,s,kf]at l;split at l
  ·rename_i t p;cases l;split at p
   ·rename_i cs g;split at p
    ·cases p;unfold cm;by_cases f:id=d
     ·subst f;have q:id<E.heap.length:=(adN.1 g).1;simp[AS.set,ae1 q,g]
     ·simp[AS.set,acG (λh=>f h.symm)]
    grind
   grind
  grind
 ·grind
 grind
def Xv{i:I}{e:Env}{E E':AS}(c:aZ i e E E'= .new k){b:Bool}{id off:Nat}(h:id<k):cm X E' b n (.ptr id off)=cm X E b n (.ptr id off):=by
 cases i with
 |load b n a=>simp only[aZ]at c;grind
 |store _ _ _=>simp only[aZ]at c;grind
 |len k x=>simp only[aZ]at c;grind
 |call _ _=>
  simp only[aZ]at c;split at c
  ·grind
  split at c
  ·rename_i d;cases c;rw[sb,sb,<-d,amH,aez h]
  grind
 |_=>trivial
def apj{C:bE}{x y:I}{D A:Env}{E i d:AS}{v w:AV}(r:exec X C x D E=some (.ok v i))(p:exec X C y A i=some (.ok w d))(f: (aZ x D E i).ok (aZ y A i d)=true):
  ∃E',exec X C y A E=some (.ok w E')/\exec X C x D E'=some (.ok v d)/\aZ y A E E'=aZ y A i d/\aZ x D E' d=aZ x D E i:=by
 cases l:aZ x D E i with
 |no=>
  obtain⟨rfl,g⟩:=wm r l
  grind
 |rd id off n=>
  have e1:=qO r (.inr ⟨_,_,_,l⟩);subst e1;obtain⟨b,m,a,rfl,z,rfl⟩:=HQ l;cases c:aZ y A i d with
  |no=>
   obtain⟨rfl,g⟩:=wm p c
   grind
  |rd u s B=>
   have t:=qO p (.inr ⟨_,_,_,c⟩);grind
  |q=>
   have t:=qO p (.inl c);grind
  |wr u s B=>
   obtain⟨m',a',F,rfl⟩:=HR c;rw[l,c]at f;refine⟨d,p,wo z (Xs p c ?_) r,c,by rw[<-l];rfl⟩;simp only[FP.ok,aoS,bne_iff_ne,alR]at f;rcases f with(h|h)|h
   ·exact .inl h
   ·exact .inr (.inl h)
   ·exact .inr (.inr h)
  |rr=>
   obtain⟨_,_,_,_,_,_,_,rfl,_⟩:=DD c;have t:=(ez p).2;subst t;exact⟨_,p,r,c,l⟩
  |app=>exact⟨d,p,wo z (Xt p c) r,c,by rw[<-l];rfl⟩
  |new k=>
   rw[l,c]at f;exact⟨d,p,wo z (Xv c (aqA f)) r,c,by rw[<-l];rfl⟩
  |all=>rw[l,c]at f;simp[FP.ok]at f
 |q=>
  have e1:=qO r (.inl l);subst e1;cases c:aZ y A i d with
  |no=>
   obtain⟨rfl,g⟩:=wm p c;exact⟨d,p,r,c,l⟩
  |rd u s B=>
   have t:=qO p (.inr ⟨_,_,_,c⟩);subst t;exact⟨d,p,r,c,l⟩
  |q=>
   have t:=qO p (.inl c);subst t;exact⟨d,p,r,c,l⟩
  |rr=>
   obtain⟨_,_,_,_,_,_,_,rfl,_⟩:=DD c;have t:=(ez p).2;subst t;exact⟨_,p,r,c,l⟩
  |_=>rw[l,c]at f;simp[FP.ok]at f
 |wr id off n=>
  cases c:aZ y A i d with
  |no=>
   obtain⟨rfl,g⟩:=wm p c;exact⟨E,(g E).1,r,(g E).2,l⟩
  |rd u s B=>
   have t:=qO p (.inr ⟨_,_,_,c⟩);subst t;obtain⟨b,m,a,rfl,z,rfl⟩:=HQ c;obtain⟨m',a',F,rfl⟩:=HR l;rw[l,c]at f;refine⟨E,wo z (Xs r l ?_).symm p,r,by rw[<-c];rfl,l⟩;simp only[FP.ok,aoS,bne_iff_ne,alR]at f;rcases f with(h|h)|h
   ·exact .inl (λe=>h e.symm)
   ·exact .inr (.inr h)
   ·exact .inr (.inl h)
  |rr=>
   obtain⟨b,m,a,u,aj,j,o,rfl,z⟩:=DD c;have t:=(ez p).2;subst t;obtain⟨m',a',F,rfl⟩:=HR l;exact⟨E,wo z (Xu r l).symm p,r,by rw[<-c];rfl,l⟩
  |_=>rw[l,c]at f;simp[FP.ok]at f
 |app=>
  cases c:aZ y A i d with
  |no=>
   obtain⟨rfl,g⟩:=wm p c;exact⟨E,(g E).1,r,(g E).2,l⟩
  |rd u s B=>
   have t:=qO p (.inr ⟨_,_,_,c⟩);subst t;obtain⟨b,m,a,rfl,z,rfl⟩:=HQ c;exact⟨E,wo z (Xt r l).symm p,r,by rw[<-c];rfl,l⟩
  |_=>rw[l,c]at f;simp[FP.ok]at f
 |new k=>
  cases c:aZ y A i d with
  |no=>
   obtain⟨rfl,g⟩:=wm p c;exact⟨E,(g E).1,r,(g E).2,l⟩
  |rd u s B=>
   have t:=qO p (.inr ⟨_,_,_,c⟩);subst t;obtain⟨b,m,a,rfl,z,rfl⟩:=HQ c;rw[l,c]at f;exact⟨E,wo z (Xv l (aqA f)).symm p,r,by rw[<-c];rfl,l⟩
  |_=>rw[l,c]at f;simp[FP.ok]at f
 |rr=>
  obtain⟨b,m,a,u,aj,j,o,rfl,z⟩:=DD l;have e1:=(ez r).2;subst e1;cases c:aZ y A i d with
  |no=>
   obtain⟨rfl,g⟩:=wm p c;exact⟨d,p,r,c,l⟩
  |rd u s B=>
   have t:=qO p (.inr ⟨_,_,_,c⟩);subst t;exact⟨_,p,r,c,l⟩
  |q=>
   have t:=qO p (.inl c);subst t;exact⟨_,p,r,c,l⟩
  |rr=>
   obtain⟨_,_,_,_,_,_,_,rfl,_⟩:=DD c;have t:=(ez p).2;subst t;exact⟨_,p,r,c,l⟩
  |wr u s B=>
   obtain⟨m',a',F,rfl⟩:=HR c;exact⟨d,p,wo z (Xu p c) r,c,by rw[<-l];rfl⟩
  |_=>rw[l,c]at f;simp[FP.ok]at f
 |all=>
  cases c:aZ y A i d with
  |no=>
   obtain⟨rfl,g⟩:=wm p c;exact⟨E,(g E).1,r,(g E).2,l⟩
  |_=>rw[l,c]at f;simp[FP.ok]at f
end
end Go.Den
