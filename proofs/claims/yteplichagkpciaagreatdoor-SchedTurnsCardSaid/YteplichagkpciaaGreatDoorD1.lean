/- An evaluator, sound; no condition. -/
import GoSem.Step
import Derived.Below
import Derived.Laws.Rows
import Derived.ChangeKeysEq
import Derived.Laws.Entries
import Derived.Laws.StructEq
import Derived.Great.BuildSlice
import Derived.Laws.BytesString
import Derived.Laws.IdiomStrings
import Derived.Laws.MakeOwn
import Derived.Lib.UnsafeStr
import Derived.RangeFuncLeaves
set_option linter.all false
set_option maxRecDepth 10000
set_option maxHeartbeats 1000000
namespace Go.Den
open Go Go.RowKit
abbrev oN:=Option Nat
abbrev lN:=List Nat
abbrev lB:=List UInt8
variable{i j b nt m aj sz k n l:Nat}{a:Act}{vs:List Value}{v v' d:Value}{w w':World}{c:Array Value}{O:Obj}{t e:TypeId}{ak:Option Value}{r:Bool}{f:FuncId}
def aeR:=@List.getElem?_set_ne
def aeT:=@List.getElem?_append_left
def afA:=@List.getElem?_eq_some_iff
def afB:=@if_neg
def afE:=@Option.some.injEq
def afJ:=@if_pos
def afL:=@List.append_assoc
def afM:=@Go.run_underlying
def ag6:=@List.getElem?_eq_getElem
def ag8:=@List.take_of_length_le
def aha:=@Nat.zero_le
def ahb:=@List.mem_append
def ahc:=@List.length_append
def ahd:=@Nat.le_refl
def ahf:=@Bool.false_eq_true
def ahg:=@Option.map_eq_some_iff
def ahh:=@List.length_map
def ahi:=@Option.map_some
def ahj:=@List.getElem?_set_self
def ahk:=@List.mem_map
def ahm:=@List.getD_eq_getElem?_getD
def ahn:=@List.take_length
def aho:=@List.length_cons
def ahp:=@List.all_eq_true
def ahr:=@List.getElem?_append_right
def ahs:=@List.map_append
def ahu:=@Nat.add_zero
def aiJ:=@List.mem_filter
def aiL:=@Bool.and_eq_true
def aiV:=@List.take_add_one
def aiZ:=@if_true
def ai1:=@List.length_take
def ai2:=@List.mem_cons
def aj8:=@List.nil_append
def akG:=@congrArg
def akH:=@Nat.le_trans
def alb:=@List.cons_append
def al6:=@List.drop_eq_nil_of_le
def al8:=@List.mem_of_mem_take
def amE:=@Nat.lt_of_lt_of_le
def amJ:=@if_false
def amK:=@List.length_eq_zero_iff
def amP:=@Option.some.inj
def amS:=@List.drop_zero
def amT:=@decide_eq_true_eq
def anr:=@List.mem_of_getElem?
def ans:=@Nat.zero_add
def ant:=@Nat.add_sub_cancel_left
def anQ:=@List.getElem?_eq_none
def anR:=@List.getElem?_drop
def anS:=@Array.length_toList
def anT:=@Array.getElem?_setIfInBounds
def anU:=@Nat.mul_le_mul_right
def anV:=@Array.getElem?_eq_some_iff
def anW:=@Nat.add_assoc
def aoZ:=@List.map_cons
def ao0:=@List.drop_succ_cons
def apg:=@List.ext_getElem?
def apj:=@List.getElem?_take
def apu:=@List.flatten_append
def apy:=@Nat.mod_eq_of_lt
def apL:=@List.drop_eq_getElem_cons
def apR:=@List.flatMap_append
def aqj:=@List.take_append_drop
def arc:=@List.mem_of_mem_drop
def arh:=@List.flatten_cons
def arj:=@Bool.or_eq_true
def arn:=@Option.bind_some
def arp:=@Nat.add_mul
def arq:=@Nat.succ_mul
def arv:=@List.drop_drop
def arw:=@Go.heap_alloc_new
def arC:=@List.mem_flatMap
def arD:=@Array.ext'
def arI:=@Nat.min_eq_left
def arV:=@List.take_succ_cons
def arZ:=@List.take_take
def ar0:=@Go.run_program
def ar4:=@Nat.le_max_left
def ar6:=@List.length_singleton
def ar9:=@List.flatMap_cons
def asR:=@List.extract_eq_take_drop
def atT:=@List.replicate_succ
def aum:=@Option.isSome_iff_exists
def auo:=@List.eq_of_mem_replicate
def au5:=@beq_iff_eq
def awC:=@List.take_append_of_le_length
def awD:=@List.drop_append
def ax8:=@Array.toList_extract
def ax9:=@List.all_cons
def ayM:=@Bool.not_true
def ayN:=@List.map_congr_left
def azp:=@List.map_nil
def azv:=@List.drop_take
def azw:=@Array.getElem?_eq_getElem
def azE:=@Array.getElem?_replicate
def azJ:=@List.take_append
def aAF:=@Go.callsIn_of_wp_marks
def aA9:=@Nat.ne_of_lt
def aBh:=@Nat.min_self
def aBk:=@List.foldl_cons
def aBT:=@List.cons.injEq
def aBW:=@List.range_eq_range'
def aCu:=@List.mapM_cons
def aCS:=@Go.grownCap_ge
def aCZ:=@Go.wpIn_seq
def aDk:=@List.size_toArray
def aDl:=@List.replicate_append_replicate
def aDq:=@Go.size_zeroCells
def aDs:=@Bool.not_eq_true'
def aDu:=@Array.size_append
def aDx:=@decide_false
def aDz:=@List.map_map
def aDB:=@List.drop_append_of_le_length
inductive AV where
 |bool(b:Bool)
 |int(k:IntKind)(n:Int)
 |str(s:ByteArray)
 |agg(cs:List AV)
 |au(vs:List AV)
 |dZ
 |ptr(id off:Nat)
 |dq(id aj i off:Nat)
 |eL(cs:List AV)(off:Nat)
 |dg(g:Nat)
 |ai
 |sl(af:List (List AV))(cx:Bool)
 |ref(id aj sz off len:Nat)(cx:Bool)
 |fa(id sz off len:Nat)
 |mh
 |mp(id:Nat)
 |jb(g:Nat)
 |fn(f:Fn)(first cap:List AV)
 |cJ
 |c9(t:TypeId)(v:AV)
 |ez
 |iD
 deriving Inhabited
abbrev AV.undef:AV:=.au []
def AV.cells:AV->List AV
 |.agg cs=>cs
 |v=>[v]
def AV.cb:AV->Bool
 |.au _=>true
 |.iD=>true
 |_=>false
def AV.jX:Value->AV
 |.bool b=>.bool b
 |.int k n=>.int k n
 |.string s=>.str s
 |.pointer none=>.dZ
 |.slice none n c=>if n=0/\c=0 then .ai else .iD
 |.map none=>.mh
 |.nilFunc=>.cJ
 |.nilIface=>.ez
 |.tuple vs=>if vs.size=0 then .au []else .iD
 |_=>.iD
def AV.ofValue:Value->AV
 |.agg cs=>.agg (cs.toList.map AV.jX)
 |.iface t v=>.c9 t (AV.jX v)
 |v=>AV.jX v
mutual
def AV.refs:AV->Nat
 |.ptr id _=>id+1
 |.dq id _ _ _=>id+1
 |.ref id _ _ _ _ _=>id+1
 |.fa id _ _ _=>id+1
 |.mp id=>id+1
 |.agg cs=>aG cs
 |.au cs=>aG cs
 |.eL cs _=>aG cs
 |.sl af _=>b8 af
 |.fn f a b=>max (match f with|.yield l=>l+1|_=>0) (max (aG a) (aG b))
 |.c9 _ v=>v.refs
 |_=>0
def aG:List AV->Nat
 | []=>0
 |a::as=>max a.refs (aG as)
def b8:List (List AV)->Nat
 | []=>0
 |a::as=>max (aG a) (b8 as)
end
abbrev Env:=Nat->AV
def Env.set(e:Env)(d:Nat)(v:AV):Env:=λt=>if t=d then v else e t
inductive ao where
 |t(i:Nat)
 |c(v:AV)
 deriving Inhabited
def ao.get(e:Env):ao->AV
 |.t i=>e i
 |.c v=>v
inductive EK where
 |bool
 |int
 |str
 |ptr
 |sl
 |map
 |cap
 |fn
 |c9
 |Af(ts:List TypeId)
 |agg(ks:List EK)
 deriving Inhabited
inductive I where
 |mov(x:ao)
 |pick(c a b:ao)
 |alloc(z:List AV)(tg:Option TypeId)
 |box(x:ao)(tg:Option TypeId:=none)
 |build(z:List AV)(parts:List (Nat×Nat×ao))
 |bslice(z:List AV)(len:Nat)(parts:List (Nat×Nat×ao))
 |rT(ty:TypeId)(z:List AV)(len:Nat)(parts:List (Nat×Nat×ao))
 |load(agg:Bool)(n:Nat)(a:ao)
 |store(n:Nat)(a v:ao)
 |nilck(x:ao)
 |bin(op:BinOp)(x y:ao)
 |shf(op:BinOp)(x y:ao)
 |eq(k:EK)(x y:ao)
 |ne(k:EK)(x y:ao)
 |un(op:UnOp)(x:ao)
 |conv(k:IntKind)(x:ao)
 |s2b(x:ao)
 |mki(t:TypeId)(x:ao)
 |mkf(f:Fn)(first cap:List ao)
 |nS
 |Da(ty:TypeId)(z:List AV)(bytes:Nat)(l c:ao)
 |slstr(x:ao)(lo hi:Option ao)
 |slsl(sz:Nat)(x:ao)(lo hi mx:Option ao)
 |slarr(n sz:Nat)(x:ao)(lo hi:Option ao)
 |faddr(off:Nat)(x:ao)
 |fld(agg:Bool)(n off:Nat)(x:ao)
 |iaddra(len sz:Nat)(x i:ao)
 |iaddrs(sz:Nat)(x i:ao)
 |idxa(agg:Bool)(len sz:Nat)(x i:ao)
 |idxs(x i:ao)
 |lookup(kk:EK)(z:AV)(m k:ao)(ok:Bool)
 |oW(kk:EK)(m k v:ao)
 |ta(z:AV)(x:ao)(t:TypeId)(ok:Bool)
 |ext(x:ao)(i:Nat)
 |len(k:EK)(x:ao)
 |append(ty:TypeId)(sz bytes:Nat)(s x:ao)
 |copy(sz:Nat)(d s:ao)
 |clear(z:List AV)(x:ao)
 |max(xs:List ao)
 |min(xs:List ao)
 |call(f:ao)(args:List ao)
 |panic(x:ao)
 deriving Inhabited
structure aO where
 g:Option (Nat×Bool)
 dst:oN
 i:I
 deriving Inhabited
inductive PC where
 |skip
 |aL(ops:List aO)
 |uq(ops:List (aO×lN))
 |seq(a b:PC)
 |cond(c:ao)(a b:PC)
 |block(id:Nat)(b:PC)
 |loop(b:PC)
 |ia(g:ao)(params:lN)(assign body:PC)
 |exit(id:Nat)
 |ret
 deriving Inhabited
inductive RV where
 |t(i:Nat)
 |cell(a:Nat)(agg:Bool)(n:Nat)
 deriving Inhabited
structure PF where
 ntmps:Nat
 results:List RV
 body:PC
 deriving Inhabited
inductive ae where
 |box(cs:List AV)(tg:Option TypeId)
 |row(aj sz:Nat)(ty:TypeId)(af:List (List AV))
 |map(es:List (AV×AV))
 |loop(state:LoopState)(pending:Option PC)(fn:FuncId)(env:Env)(params:lN)(assign body:PC)
 |bB
 |dead
 deriving Inhabited
structure AS where
 heap:List ae
 lo:oN
 deriving Inhabited
inductive aS where
 |ret(v:AV)(E:AS)
 |panic(v:AV)(E:AS)
 deriving Inhabited
abbrev bw:=AV->List AV->AS->Option aS
structure Ctx where
 dg:Nat->Option (List AV)
 code:FuncId->Option PF
 bU:FuncId->Option (List AV->AS->Option aS)
 fb:Nat->Option (List (AV×AV)):=λ_=>none
def AS.push(E:AS)(o:ae):AS:={E with heap:=E.heap++[o]}
def cA(a:oN)(i:Nat):oN:=match a with|none=>some i|some j=>some (Nat.min i j)
def fV(a b:oN):oN:=match b with|none=>a|some j=>cA a j
def AS.set(E:AS)(id:Nat)(o:ae)(refs:Nat):AS:=
 {heap:=E.heap.set id o,lo:=if refs<=id+1 then E.lo else cA E.lo id}
def part(agg:Bool)(n:Nat)(cs:List AV)(off:Nat):Option AV:=
 if agg then(if off+n<=cs.length then some (.agg ((cs.drop off).take n))else none)else cs[off]?
def aH(cs:List AV)(off:Nat)(vs:List AV):List AV:=cs.take off++(vs++cs.drop (off+vs.length))
def ea(cs:List AV):List (Nat×Nat×AV)->Option (List AV)
 | []=>some cs
 | (off,n,v)::rest=>if v.cb=false/\v.cells.length=n/\off+n<=cs.length then ea (aH cs off v.cells) rest else none
def chunks(sz:Nat):Nat->List AV->List (List AV)
 |0,_=>[]
 |k+1,cs=>cs.take sz::chunks sz k (cs.drop sz)
def AV.Ag:AV->Bool
 |.ptr .. |.dq .. |.eL .. |.dg _=>true
 |_=>false
def AV.Ah:AV->Bool
 |.sl .. |.ref .. |.fa .. =>true
 |_=>false
def qw:EK->AV->AV->Option Bool
 |.bool,.bool a,.bool b=>some (a==b)
 |.int,.int k a,.int k' b=>if k=k' then some (a==b)else none
 |.str,.str a,.str b=>some (a.toList==b.toList)
 |.ptr,.dZ,.dZ=>some true
 |.ptr,.dZ,b=>if b.Ag then some false else none
 |.ptr,a,.dZ=>if a.Ag then some false else none
 |.sl,.ai,.ai=>some true
 |.sl,.ai,b=>if b.Ah then some false else none
 |.sl,a,.ai=>if a.Ah then some false else none
 |.map,.mh,.mh=>some true
 |.map,.mh,.mp _=>some false
 |.map,.mp _,.mh=>some false
 |.fn,.cJ,.cJ=>some true
 |.fn,.cJ,.fn .. =>some false
 |.fn,.fn ..,.cJ=>some false
 |.c9,.ez,.ez=>some true
 |.c9,.ez,.c9 .. =>some false
 |.c9,.c9 ..,.ez=>some false
 |.Af ts,.c9 t (.int k a),.c9 c (.int k' b)=>if t=c then(if ts.contains t/\k=k' then some (a==b)else none)else some false
 |_,_,_=>none
def jc:List EK->List AV->List AV->Option Bool
 | [],[],[]=>some true
 |k::c,a::as,b::bs=>match qw k a b with
  |some true=>jc c as bs
  |some false=>some false
  |none=>none
 |_,_,_=>none
def ed:EK->AV->AV->Option Bool
 |.agg a,.agg xs,.agg ys=>if xs.length=a.length/\ys.length=a.length then jc a xs ys else none
 |.agg _,_,_=>none
 |k,x,y=>qw k x y
def v7(a:BinOp)(k:IntKind)(x y:Int):Option AV:=
 match a with
 |.and=>some (.int k (k.wrap (BitVec.ofInt k.bits x&&&BitVec.ofInt k.bits y).toNat))
 |.or=>some (.int k (k.wrap (BitVec.ofInt k.bits x|||BitVec.ofInt k.bits y).toNat))
 |.xor=>some (.int k (k.wrap (BitVec.ofInt k.bits x^^^BitVec.ofInt k.bits y).toNat))
 |.andNot=>some (.int k (k.wrap (BitVec.ofInt k.bits x&&& ~~~ (BitVec.ofInt k.bits y)).toNat))
 |_=>none
def mi(a:BinOp)(k:IntKind)(x y:Int):Option AV:=
 match a with
 |.add=>some (.int k (k.wrap (x+y)))
 |.sub=>some (.int k (k.wrap (x-y)))
 |.mul=>some (.int k (k.wrap (x*y)))
 |.quo=>if y=0 then none else some (.int k (k.wrap (x.tdiv y)))
 |.rem=>if y=0 then none else some (.int k (x.tmod y))
 |.eql=>some (.bool (x==y))
 |.neq=>some (.bool (x !=y))
 |.lss=>some (.bool (x<y))
 |.leq=>some (.bool (x<=y))
 |.gtr=>some (.bool (x>y))
 |.geq=>some (.bool (x>=y))
 |a=>v7 a k x y
def v8(a:BinOp)(k:IntKind)(x y:Int):Option AV:=
 if y<0 then none else
 match a with
 |.shl=>some (.int k (k.wrap (x*2^(min y.toNat k.bits))))
 |.shr=>some (.int k (x.fdiv (2^(min y.toNat k.bits))))
 |_=>none
def XD:Nat:=1152921504606846976
def XE(a:BinOp)(x y:ByteArray):Option AV:=
 match a with
 |.add=>if x.size+y.size<=XD then some (.str (x++y))else none
 |.eql=>some (.bool (x.toList==y.toList))
 |.neq=>some (.bool !(x.toList==y.toList))
 |.lss=>some (.bool (Op.bytesLess x.toList y.toList))
 |.leq=>some (.bool (Op.bytesLess x.toList y.toList||x.toList==y.toList))
 |.gtr=>some (.bool !(Op.bytesLess x.toList y.toList||x.toList==y.toList))
 |.geq=>some (.bool !(Op.bytesLess x.toList y.toList))
 |_=>none
def dh(c:BinOp):AV->AV->Option AV
 |.int k a,.int k' b=>if k=k' then mi c k a b else none
 |.str a,.str b=>XE c a b
 |_,_=>none
def xY(a:UnOp)(x:AV):Option AV:=
 match a,x with
 |.neg,.int k n=>some (.int k (k.wrap (0-n)))
 |.xor,.int k n=>v7 .xor k (if k.signed then-1 else k.max) n
 |.not,.bool b=>some (.bool !b)
 |_,_=>none
inductive Out where
 |ok(v:AV)(E:AS)
 |panic(v:AV)(E:AS)
def fH(E:AS):Option AV->Option Out
 |some v=>some (.ok v E)
 |none=>none
variable(X:Ctx)
def cg(E:AS)(agg:Bool)(n:Nat)(a:AV):Option AV:=
 match a with
 |.ptr id off=>match E.heap[id]? with
  |some (.box cs _)=>part agg n cs off
  |_=>none
 |.dq id aj i off=>match E.heap[id]? with
  |some (.row v sz _ af)=>if v=aj then(af[i]?).bind λel=>if el.length=sz then part agg n el off else none else none
  |_=>none
 |.eL cs off=>part agg n cs off
 |.dg g=>(X.dg g).bind λcs=>part agg n cs 0
 |_=>none
def kR(E:AS)(n:Nat)(a v:AV):Option AS:=
 match a with
 |.ptr id off=>match E.heap[id]? with
  |some (.box cs tg)=>if v.cb=false/\v.cells.length=n/\off+n<=cs.length then some (E.set id (.box (aH cs off v.cells) tg) v.refs)else none
  |_=>none
 |.dq id aj i off=>match E.heap[id]? with
  |some (.row w sz ty af)=>match af[i]? with
   |some el=>if w=aj/\el.length=sz/\v.cb=false/\v.cells.length=n/\off+n<=el.length then some (E.set id (.row aj sz ty (af.set i (aH el off v.cells))) v.refs)else none
   |none=>none
  |_=>none
 |_=>none
def elems(E:AS)(sz:Nat):AV->Option (List (List AV))
 |.ai=>some []
 |.sl af _=>if af.all (λel=>el.length==sz)then some af else none
 |.ref id aj a off len _=>match E.heap[id]? with
  |some (.row v b _ af)=>if v=aj/\b=sz/\a=sz/\off+len<=af.length then some ((af.drop off).take len)else none
  |_=>none
 |.fa id b off len=>match E.heap[id]? with
  |some (.box cs _)=>if b=sz/\off+len*sz<=cs.length then some (chunks sz len (cs.drop off))else none
  |_=>none
 |_=>none
def rU:AV->Option Int
 |.int _ n=>some n
 |_=>none
def lK(n:Nat):Option AV->Nat->oN
 |none,d=>some d
 |some (.int _ i),_=>if 0<=i/\i<=n then some i.toNat else none
 |some _,_=>none
def fW(len:Nat)(b a:Option AV):Option (Nat×Nat):=
 match lK len a len with
 |some h=>match lK h b 0 with
  |some l=>some (l,h)
  |none=>none
 |none=>none
def ur(x:AV)(b a:Option AV):Option AV:=
 match x with
 |.str s=>match fW s.size b a with
  |some (l,h)=>some (.str (s.extract l h))
  |none=>none
 |_=>none
def lL(len h:Nat)(cx:Bool):Option AV->Option Bool
 |none=>some (cx&&h==len)
 |some (.int _ i)=>if(h:Int)<=i/\i<=len then some (i==h)else none
 |some _=>none
def fX(n:Nat)(x:AV)(b a d:Option AV):Option AV:=
 match x with
 |.ai=>match fW 0 b a,lL 0 0 true d with
  |some _,some _=>some .ai
  |_,_=>none
 |.sl af cx=>match fW af.length b a with
  |some (l,h)=>match lL af.length h cx d with
   |some c=>if af.all (λel=>el.length==n)then some (.sl ((af.drop l).take (h-l)) c)else none
   |none=>none
  |none=>none
 |.ref id aj sz off len cx=>match fW len b a with
  |some (l,h)=>match lL len h cx d with
   |some c=>if sz=n then some (.ref id aj sz (off+l) (h-l) c)else none
   |none=>none
  |none=>none
 |.fa id sz off len=>match fW len b a,d with
  |some (l,h),none=>if sz=n then some (.fa id sz (off+l*sz) (h-l))else none
  |_,_=>none
 |_=>none
def qx(n sz:Nat)(x:AV)(b a:Option AV):Option AV:=
 match fW n b a with
 |some (l,h)=>match x with
  |.ptr id off=>some (.fa id sz (off+l*sz) (h-l))
  |.eL cs off=>if off+n*sz<=cs.length then some (.sl (chunks sz (h-l) (cs.drop (off+l*sz))) false)else none
  |.dg g=>match X.dg g with
   |some cs=>if n*sz<=cs.length then some (.sl (chunks sz (h-l) (cs.drop (l*sz))) false)else none
   |none=>none
  |_=>none
 |none=>none
def rV(s:ByteArray):List (List AV):=s.data.toList.map λb=>[.int .u8 b.toNat]
def v9:List (List AV)->Option lB
 | []=>some []
 | [.int .u8 n]::r=>(v9 r).map (UInt8.ofNat n.toNat:: ·)
 |_=>none
def room:Nat:=1099511627776
def dx(E:AS)(ty:TypeId)(sz bytes:Nat)(s:AV)(ys:List (List AV)):Option (AV×AS):=
 if 0<sz/\ys.all (λel=>el.length==sz)then
  match s with
  |.ai=>if ys.length=0 then some (.ai,E)else
   if ys.length*bytes<=room then some (.ref E.heap.length 0 sz 0 ys.length false,E.push (.row 0 sz ty ys))else none
  |.sl af true=>if ys.length=0 then some (s,E)else
   if(af.length+ys.length)*bytes<=room/\af.all (λel=>el.length==sz)then
    some (.ref E.heap.length 0 sz 0 (af.length+ys.length) false,E.push (.row 0 sz ty (af++ys)))else none
  |.sl _ false=>if ys.length=0 then some (s,E)else none
  |.ref id aj a off len cx=>
   match E.heap[id]? with
   |some (.row v c b af)=>
    if v=aj/\c=sz/\a=sz/\b=ty/\off+len<=af.length/\ (len+ys.length)*bytes<=room then
     if ys.length=0 then some (s,E)else
     if cx then some (.ref E.heap.length 0 sz 0 (len+ys.length) false,E.push (.row 0 sz ty ((af.drop off).take len++ys)))else
     some (.ref id (aj+1) sz 0 (len+ys.length) false,E.set id (.row (aj+1) sz ty ((af.drop off).take len++ys)) (b8 ys))
    else none
   |_=>none
  |_=>none
 else none
def oX:AV->AV->Option Bool
 |.int k a,.int k' b=>if k=k' then some (a==b)else none
 |.str a,.str b=>some (a==b)
 |.bool a,.bool b=>some (a==b)
 |_,_=>none
def dS(k:AV):List (AV×AV)->Option (Option AV)
 | []=>some none
 | (k',v)::es=>match oX k k' with
   |some true=>some (some v)
   |some false=>dS k es
   |none=>none
def lM(k v:AV):List (AV×AV)->Option (List (AV×AV))
 | []=>some [(k,v)]
 | (k',v')::es=>match oX k k' with
   |some true=>some ((k,v)::es)
   |some false=>(lM k v es).map ((k',v'):: ·)
   |none=>none
def mapOf(gm:Nat->Option (List (AV×AV)))(E:AS):AV->Option (List (AV×AV))
 |.mh=>some []
 |.jb g=>gm g
 |.mp id=>match E.heap[id]? with
  |some (.map es)=>some es
  |_=>none
 |_=>none
def isKey:AV->Bool
 |.int _ _|.str _|.bool _=>true
 |_=>false
def kS:EK->AV->Bool
 |.int,.int _ _|.str,.str _|.bool,.bool _=>true
 |_,_=>false
def gP(gm:Nat->Option (List (AV×AV)))(E:AS)(b:EK)(z m k:AV)(a:Bool):Option AV:=
 if kS b k then
  match mapOf gm E m with
  |some es=>match dS k es with
   |some (some v)=>some (if a then .au [v,.bool true]else v)
   |some none=>some (if a then .au [z,.bool false]else z)
   |none=>none
  |none=>none
 else none
def mj(E:AS)(b:EK)(m k v:AV):Option AS:=
 if kS b k then
  match m with
  |.mp id=>match E.heap[id]? with
   |some (.map es)=>match lM k v es with
    |some a=>some (E.set id (.map a) v.refs)
    |none=>none
   |_=>none
  |_=>none
 else none
def qy:AV->AV->Option AV
 |.int k x,.int _ y=>some (.int k (if y>x then y else x))
 |_,_=>none
def wa:AV->AV->Option AV
 |.int k x,.int _ y=>some (.int k (if y<x then y else x))
 |_,_=>none
def fj(E:AS):EK->AV->Option AV
 |.str,.str s=>some (.int .i64 s.size)
 |.sl,.ai=>some (.int .i64 0)
 |.sl,.sl af _=>some (.int .i64 af.length)
 |.sl,.ref _ _ _ _ n _=>some (.int .i64 n)
 |.sl,.fa _ _ _ n=>some (.int .i64 n)
 |.map,.mh=>some (.int .i64 0)
 |.map,.mp id=>match E.heap[id]? with
  |some (.map es)=>some (.int .i64 es.length)
  |_=>none
 |.cap,.ai=>some (.int .i64 0)
 |.cap,.sl af true=>some (.int .i64 af.length)
 |.cap,.ref _ _ _ _ n true=>some (.int .i64 n)
 |_,_=>none
def Db(E:AS)(sz:Nat)(s:AV):Option (List (List AV)):=
 match s with
 |.str b=>if sz=1 then some (rV b)else none
 |s=>elems E sz s
def rW(E:AS)(sz:Nat)(d s:AV):Option (AV×AS):=
 match Db E sz s with
 |some ys=>match d with
  |.ai=>some (.int .i64 0,E)
  |.ref id aj a off len _=>match E.heap[id]? with
   |some (.row v b ty af)=>
    if v=aj/\b=sz/\a=sz/\off+len<=af.length then
     some (.int .i64 (Nat.min ys.length len),E.set id (.row aj sz ty (af.take off++(ys.take (Nat.min ys.length len)++af.drop (off+Nat.min ys.length len)))) (b8 ys))
    else none
   |_=>none
  |.fa id b off len=>match E.heap[id]? with
   |some (.box cs tg)=>
    if b=sz/\off+len*sz<=cs.length/\ys.all (λel=>el.length==sz)then
     some (.int .i64 (Nat.min ys.length len),E.set id (.box (aH cs off (ys.take (Nat.min ys.length len)).flatten) tg) (b8 ys))
    else none
   |_=>none
  |_=>none
 |none=>none
def rX(E:AS)(z:List AV)(x:AV):Option AS:=
 match x with
 |.ai=>some E
 |.ref id aj a off len _=>match E.heap[id]? with
  |some (.row v sz ty af)=>
   if v=aj/\a=sz/\sz=z.length/\off+len<=af.length/\aG z=0 then
    some (E.set id (.row aj sz ty (af.take off++(List.replicate len z++af.drop (off+len)))) 0)
   else none
  |_=>none
 |.fa id sz off len=>match E.heap[id]? with
  |some (.box cs tg)=>
   if sz=z.length/\off+len*sz<=cs.length/\aG z=0 then
    some (E.set id (.box (aH cs off (List.replicate len z).flatten) tg) 0)
   else none
  |_=>none
 |_=>none
def rY(o:Nat)(x:AV):Option AV:=
 match x with
 |.ptr id off=>some (.ptr id (off+o))
 |.dq id aj i off=>some (.dq id aj i (off+o))
 |.eL cs off=>some (.eL cs (off+o))
 |.dg g=>match X.dg g with
  |some cs=>some (.eL cs o)
  |none=>none
 |_=>none
def uu(n sz:Nat)(x a:AV):Option AV:=
 match rU a with
 |some i=>if 0<=i/\i<n then
    match x with
    |.ptr id off=>some (.ptr id (off+i.toNat*sz))
    |.dq id aj j off=>some (.dq id aj j (off+i.toNat*sz))
    |.eL cs off=>some (.eL cs (off+i.toNat*sz))
    |.dg g=>match X.dg g with
     |some cs=>some (.eL cs (i.toNat*sz))
     |none=>none
    |_=>none
  else none
 |none=>none
def jY(sz:Nat)(x b:AV):Option AV:=
 match rU b with
 |some i=>match x with
  |.sl af _=>if 0<=i then match af[i.toNat]? with
     |some el=>if el.length=sz then some (.eL el 0)else none
     |none=>none
   else none
  |.ref id aj a off len _=>if 0<=i/\i<len/\a=sz then some (.dq id aj (off+i.toNat) 0)else none
  |.fa id a off len=>if 0<=i/\i<len/\a=sz then some (.ptr id (off+i.toNat*sz))else none
  |_=>none
 |none=>none
def qz(agg:Bool)(n sz:Nat)(x a:AV):Option AV:=
 match rU a,x with
 |some i,.agg cs=>if 0<=i/\i<n then part agg sz cs (i.toNat*sz)else none
 |_,_=>none
def xZ(x a:AV):Option AV:=
 match rU a,x with
 |some i,.str s=>if 0<=i then match s.data.toList[i.toNat]? with
    |some b=>some (.int .u8 b.toNat)
    |none=>none
  else none
 |_,_=>none
def NQ(E:AS)(ty:TypeId)(z:List AV)(bytes:Nat)(l c:AV):Option (AV×AS):=
 match l,c with
 |.int _ l,.int _ c=>if 0<=l/\l<=c/\c*bytes<=room/\c<=room then
    some (.ref E.heap.length 0 z.length 0 l.toNat false,E.push (.row 0 z.length ty (List.replicate l.toNat z)))
  else none
 |_,_=>none
def Ai(z x:AV)(t:TypeId)(a:Bool):Option AV:=
 match x with
 |.ez=>if a then some (.au [z,.bool false])else none
 |.c9 b v=>if b=t then some (if a then .au [v,.bool true]else v)else if a then some (.au [z,.bool false])else none
 |_=>none
def aCJ(a:List TypeId)(x:AV)(b:Bool):Option AV:=
 match x with
 |.ez=>if b then some (.au [.ez,.bool false])else none
 |.c9 t v=>if a.contains t then some (if b then .au [.c9 t v,.bool true]else .c9 t v)else none
 |_=>none
def fY(f:AV->AV->Option AV):List AV->Option AV
 | []=>none
 | [x]=>some x
 |x::y::r=>match f x y with
  |some z=>fY f (z::r)
  |none=>none
termination_by l=>l.length
def wb:AV->Option AV
 |.ptr id off=>some (.ptr id off)
 |.dq id aj i off=>some (.dq id aj i off)
 |.eL cs off=>some (.eL cs off)
 |.dg g=>some (.dg g)
 |.fn (.func f) a b=>some (.fn (.func f) a b)
 |.fn (.yield l) a b=>some (.fn (.yield l) a b)
 |_=>none
def exec(C:bw)(i:I)(e:Env)(E:AS):Option Out:=
 match i with
 |.mov x=>some (.ok (x.get e) E)
 |.pick c a b=>match c.get e with
  |.bool t=>some (.ok (if t then a.get e else b.get e) E)
  |_=>none
 |.alloc z tg=>some (.ok (.ptr E.heap.length 0) (E.push (.box z tg)))
 |.box x tg=>if(x.get e).cb then none else some (.ok (.ptr E.heap.length 0) (E.push (.box (x.get e).cells tg)))
 |.build z parts=>match ea z (parts.map λp=>(p.1,p.2.1,p.2.2.get e))with
  |some cs=>some (.ok (.agg cs) E)
  |none=>none
 |.bslice z len parts=>match ea (List.replicate len z).flatten (parts.map λp=>(p.1,p.2.1,p.2.2.get e))with
  |some cs=>some (.ok (.sl (chunks z.length len cs) true) E)
  |none=>none
 |.rT ty z len parts=>match ea (List.replicate len z).flatten (parts.map λp=>(p.1,p.2.1,p.2.2.get e))with
  |some cs=>some (.ok (.ref E.heap.length 0 z.length 0 len false) (E.push (.row 0 z.length ty (chunks z.length len cs))))
  |none=>none
 |.load agg n a=>fH E (cg X E agg n (a.get e))
 |.store n a v=>match kR E n (a.get e) (v.get e)with
  |some g=>some (.ok .undef g)
  |none=>none
 |.nilck x=>fH E (wb (x.get e))
 |.bin op x y=>fH E (dh op (x.get e) (y.get e))
 |.shf op x y=>match x.get e,y.get e with
  |.int k a,.int _ b=>fH E (v8 op k a b)
  |_,_=>none
 |.eq k x y=>match ed k (x.get e) (y.get e)with
  |some b=>some (.ok (.bool b) E)
  |none=>none
 |.ne k x y=>match ed k (x.get e) (y.get e)with
  |some b=>some (.ok (.bool !b) E)
  |none=>none
 |.un op x=>fH E (xY op (x.get e))
 |.conv k x=>match x.get e with
  |.int _ n=>some (.ok (.int k (k.wrap n)) E)
  |_=>none
 |.s2b x=>match x.get e with
  |.str s=>if s.size<=room then some (.ok (.sl (rV s) false) E)else none
  |_=>none
 |.mki t x=>some (.ok (.c9 t (x.get e)) E)
 |.mkf f first cap=>some (.ok (.fn f (first.map (·.get e)) (cap.map (·.get e))) E)
 |.nS=>some (.ok (.mp E.heap.length) (E.push (.map [])))
 |.Da ty z bytes l c=>match NQ E ty z bytes (l.get e) (c.get e)with
  |some (v,g)=>some (.ok v g)
  |none=>none
 |.slstr x lo h=>fH E (ur (x.get e) (lo.map (·.get e)) (h.map (·.get e)))
 |.slsl n x lo h q=>fH E (fX n (x.get e) (lo.map (·.get e)) (h.map (·.get e)) (q.map (·.get e)))
 |.slarr n sz x lo h=>fH E (qx X n sz (x.get e) (lo.map (·.get e)) (h.map (·.get e)))
 |.faddr o x=>fH E (rY X o (x.get e))
 |.fld agg n off x=>match x.get e with
  |.agg cs=>fH E (part agg n cs off)
  |_=>none
 |.iaddra n sz x i=>fH E (uu X n sz (x.get e) (i.get e))
 |.iaddrs sz x i=>fH E (jY sz (x.get e) (i.get e))
 |.idxa agg n sz x i=>fH E (qz agg n sz (x.get e) (i.get e))
 |.idxs x i=>fH E (xZ (x.get e) (i.get e))
 |.lookup j z m k ok=>fH E (gP X.fb E j z (m.get e) (k.get e) ok)
 |.oW j m k v=>match mj E j (m.get e) (k.get e) (v.get e)with
  |some g=>some (.ok .undef g)
  |none=>none
 |.ta z x t ok=>fH E (Ai z (x.get e) t ok)
 |.ext x i=>match x.get e with
  |.au vs=>fH E (vs[i]?)
  |_=>none
 |.len k x=>fH E (fj E k (x.get e))
 |.append ty sz bytes s x=>match elems E sz (x.get e)with
  |some ys=>match dx E ty sz bytes (s.get e) ys with
   |some (v,g)=>some (.ok v g)
   |none=>none
  |none=>none
 |.copy sz d s=>match rW E sz (d.get e) (s.get e)with
  |some (v,g)=>some (.ok v g)
  |none=>none
 |.clear z x=>match rX E z (x.get e)with
  |some g=>some (.ok .undef g)
  |none=>none
 |.max xs=>fH E (fY qy (xs.map (·.get e)))
 |.min xs=>fH E (fY wa (xs.map (·.get e)))
 |.call f args=>match C (f.get e) (args.map (·.get e)) E with
  |some (.ret v g)=>some (.ok v g)
  |some (.panic v g)=>some (.panic v g)
  |none=>none
 |.panic x=>match x.get e with
  |.c9 t v=>some (.panic (.c9 t v) E)
  |_=>none
structure Fr where
 env:Env
 marks:lN
 deriving Inhabited
def Fr.put(a:Fr)(dst:oN)(v:AV):Fr:=
 match dst with
 |some d=>{a with env:=a.env.set d v}
 |none=>a
inductive Ex where
 |normal
 |exit(id:Nat)
 |ret
 |panic(v:AV)
abbrev jd:=Option (Ex×Fr×AS)
def fL(e:Env):Option (Nat×Bool)->Bool
 |none=>true
 |some (t,want)=>match e t with
  |.bool b=>b==want
  |_=>false
def eF(C:bw):List aO->Fr->AS->jd
 | [],fr,E=>some (.normal,fr,E)
 |o::os,fr,E=>
  if fL fr.env o.g then
   match exec X C o.i fr.env E with
   |some (.ok v a)=>eF C os (fr.put o.dst v) a
   |some (.panic v a)=>some (.panic v,fr,a)
   |none=>none
  else eF C os (fr.put o.dst .undef) E
inductive FP where
 |no
 |rd(id off n:Nat)
 |q
 |wr(id off n:Nat)
 |app
 |all
def FP.ok:FP->FP->Bool
 |.no,_=>true
 |_,.no=>true
 |.rd ..,.rd .. =>true
 |.rd ..,.q=>true
 |.q,.rd .. =>true
 |.q,.q=>true
 |.rd id off n,.wr b a c=>id !=b||off+n<=a||a+c<=off
 |.wr id off n,.rd b a c=>id !=b||off+n<=a||a+c<=off
 |.rd ..,.app=>true
 |.app,.rd .. =>true
 |_,_=>false
open Classical in
noncomputable def ba(i:I)(e:Env)(E b:AS):FP:=
 match i with
 |.load _ n a=>match a.get e with
  |.ptr id off=>.rd id off (Nat.max n 1)
  |.dq .. =>.q
  |.eL .. =>.no
  |.dg _=>.no
  |_=>.all
 |.lookup .. =>.q
 |.len k _=>match k with
  |.map=>.q
  |_=>.no
 |.store n a _=>match a.get e with
  |.ptr id off=>.wr id off n
  |.dq .. =>.app
  |_=>.all
 |.append .. =>.app
 |.call .. =>if b=E then .q else .all
 |.alloc _ _|.box .. |.rT .. |.nS|.Da .. |.oW .. |.copy .. |.clear .. |.panic _=>.all
 |_=>.no
def I.cls:I->Nat
 |.mov _|.pick .. |.build .. |.bslice .. |.nilck _|.bin .. |.shf .. |.eq .. |.ne .. |.un .. |.conv .. |.s2b _|.mki .. |.mkf .. =>0
 |.slstr .. |.slsl .. |.slarr .. |.faddr .. |.fld .. |.iaddra .. |.iaddrs .. |.idxa .. |.idxs .. |.ta .. |.ext .. |.max _|.min _=>0
 |.load .. |.lookup .. |.len .. =>1
 |.call .. =>2
 |_=>3
def ao.tmps:ao->lN
 |.t i=>[i]
 |.c _=>[]
def gA(l:List ao):lN:=l.flatMap ao.tmps
def I.reads:I->lN
 |.mov x|.box x _|.nilck x|.un _ x|.conv _ x|.s2b x|.mki _ x|.ta _ x _ _|.ext x _|.len _ x|.clear _ x|.panic x=>x.tmps
 |.alloc _ _|.nS=>[]
 |.pick a b c|.oW _ a b c=>gA [a,b,c]
 |.build _ ps|.bslice _ _ ps|.rT _ _ _ ps=>gA (ps.map (·.2.2))
 |.load _ _ a=>a.tmps
 |.store _ a v|.bin _ a v|.shf _ a v|.eq _ a v|.ne _ a v|.Da _ _ _ a v|.iaddra _ _ a v|.iaddrs _ a v|.idxa _ _ _ a v|.idxs a v
 |.lookup _ _ a v _|.append _ _ _ a v|.copy _ a v=>gA [a,v]
 |.mkf _ a b=>gA (a++b)
 |.slstr x lo d|.slarr _ _ x lo d=>gA (x:: (lo.toList++d.toList))
 |.slsl _ x lo d e=>gA (x:: (lo.toList++d.toList++e.toList))
 |.faddr _ x|.fld _ _ _ x=>x.tmps
 |.max xs|.min xs=>gA xs
 |.call f as=>gA (f::as)
def aO.reads(o:aO):lN:=o.i.reads++(match o.g with|some (t,_)=>[t]|none=>[])
def Dc(l m:lN):Bool:=l.all λx=>!m.contains x
def jZ(x y:aO):Bool:=
 Dc x.dst.toList y.reads&&Dc y.dst.toList x.reads&&Dc x.dst.toList y.dst.toList
def FP.is:FP->Bool
 |.no=>false
 |_=>true
def Dd(a:List FP)(o:aO×lN)(os:List (aO×lN)):Bool:=
 o.2.isEmpty&& (o.1.i.cls !=0&& ((o.1.i.cls==2||a.all FP.is)&&os.all λo'=>if o'.1.i.cls=0 then !jZ o.1 o'.1 else !o'.2.contains a.length))
noncomputable def fZ(C:bw):List FP->List (aO×lN)->Fr->AS->jd
 |_,[],fr,E=>some (.normal,fr,E)
 |a,o::os,fr,E=>
  if fL fr.env o.1.g then
   match exec X C o.1.i fr.env E with
   |some (.ok v b)=>
    if o.2.all (λj=>((a.getD j .all).ok (ba o.1.i fr.env E b)))then
     fZ C (a++[ba o.1.i fr.env E b]) os (fr.put o.1.dst v) b
    else none
   |some (.panic v b)=>if Dd a o os then some (.panic v,fr,b)else none
   |none=>none
  else fZ C (a++[.no]) os (fr.put o.1.dst .undef) E
def aO.fB(x:aO):Option ae:=match x.i with
 |.alloc z tg=>some (.box z tg)
 |_=>none
def lO(m:Nat)(x:aO):aO:=match x.fB with
 |some _=>{x with i:=.mov (.c (.ptr m 0))}
 |none=>x
def gQ:Nat->List (aO×lN)->List (aO×lN)
 |_,[]=>[]
 |n,o::os=>(lO n o.1,o.2)::gQ (match o.1.fB with|some _=>n+1|none=>n) os
def ds:List (aO×lN)->List ae
 | []=>[]
 |o::os=>match o.1.fB with
  |some b=>b::ds os
  |none=>ds os
def AS.ml(E:AS)(os:List ae):AS:={E with heap:=E.heap++os}
def Aj:PC->Option Ex
 |.ret=>some .ret
 |.exit id=>some (.exit id)
 |_=>none
abbrev ee:=(Fr->AS->jd)->Fr->AS->jd
def rZ:AV->Bool
 |.fn (.func f) _ _=>(X.bU f).isNone&& (X.code f).isSome
 |_=>false
def endLoop(l:Nat)(b:Fr)(E:AS):jd:=
 match E.heap[l]? with
 |some (.loop st a f env ps as bd)=>
  if st= .busy then none else
  match a with
  |none=>some (.normal,b,E.set l (.loop .exhausted a f env ps as bd) 0)
  |some j=>match Aj j with
   |some ex=>some (ex,b,E.set l (.loop .exhausted a f env ps as bd) 0)
   |none=>none
 |_=>none
noncomputable def aY(C:bw)(L:ee)(bO:FuncId)(rd:Bool):PC->Fr->AS->jd
 |.skip,fr,E=>some (.normal,fr,E)
 |.seq a b,fr,E=>match aY C L bO rd a fr E with
  |some (.normal,d,e)=>aY C L bO rd b d e
  |r=>r
 |.cond c a b,fr,E=>match c.get fr.env with
  |.bool t=>if t then aY C L bO rd a fr E else aY C L bO rd b fr E
  |_=>none
 |.block id body,fr,E=>match aY C L bO rd body fr E with
  |some (.exit f,d,e)=>if f=id then some (.normal,d,e)else some (.exit f,d,e)
  |r=>r
 |.loop body,fr,E=>L (aY C L bO rd body) fr E
 |.exit id,fr,E=>some (.exit id,fr,E)
 |.ret,fr,E=>some (.ret,fr,E)
 |.aL ops,fr,E=>eF X C ops fr E
 |.uq ops,fr,E=>fZ X C [] (gQ E.heap.length ops) fr (E.ml (ds ops))
 |.ia g params assign body,fr,E=>
  if rd then none else
  if rZ X (g.get fr.env)then
   match C (g.get fr.env) [.fn (.yield (E.heap.length+1)) [] []] ((E.push .bB).push (.loop .ready none bO fr.env params assign body))with
   |some (.ret _ e)=>endLoop (E.heap.length+1) {fr with marks:=E.heap.length::fr.marks} e
   |some (.panic v e)=>some (.panic v,{fr with marks:=E.heap.length::fr.marks},e)
   |none=>none
  else none
mutual
def freeze(E:AS)(n:Nat):Nat->AV->Option AV
 |0,_=>none
 |k+1,v=>if v.refs<=n then some v else
  match v with
  |.ref id aj sz off len cx=>match E.heap[id]? with
   |some (.row v c _ af)=>if v=aj/\c=sz/\off+len<=af.length then
      match r0 E n k ((af.drop off).take len)with
      |some a=>some (.sl a cx)
      |none=>none
    else none
   |_=>none
  |.agg cs=>match ib E n k cs with
   |some b=>some (.agg b)
   |none=>none
  |.au cs=>match ib E n k cs with
   |some b=>some (.au b)
   |none=>none
  |.sl af cx=>match r0 E n k af with
   |some a=>some (.sl a cx)
   |none=>none
  |_=>none
def ib(E:AS)(n:Nat):Nat->List AV->Option (List AV)
 |_,[]=>some []
 |0,_::_=>none
 |k+1,a::as=>match freeze E n k a with
  |some a'=>match ib E n (k+1) as with
   |some b=>some (a'::b)
   |none=>none
  |none=>none
def r0(E:AS)(n:Nat):Nat->List (List AV)->Option (List (List AV))
 |_,[]=>some []
 |0,_::_=>none
 |k+1,a::as=>match ib E n k a with
  |some a'=>match r0 E n (k+1) as with
   |some b=>some (a'::b)
   |none=>none
  |none=>none
end
def finish(n:Nat)(dy:oN)(v:AV)(E:AS):AV×AS:=
 if(match E.lo with|none=>true|some j=>n<=j)then
  match freeze E n 12 v with
  |some v'=>(v',{heap:=E.heap.take n,lo:=dy})
  |none=>(v,{heap:=E.heap,lo:=fV dy E.lo})
 else(v,{heap:=E.heap,lo:=fV dy E.lo})
def nT(E:AS)(e:Env):RV->Option AV
 |.t i=>some (e i)
 |.cell a agg n=>cg X E agg n (e a)
def jz(E:AS)(e:Env):List RV->Option (List AV)
 | []=>some []
 |r::rs=>match nT X E e r with
  |some v=>match jz E e rs with
   |some vs=>some (v::vs)
   |none=>none
  |none=>none
def fk(E:AS)(e:Env)(a:List RV):Option AV:=
 match jz X E e a with
 |some [v]=>some v
 |some vs=>some (.au vs)
 |none=>none
def dA(E:AS):lN->Option AS
 | []=>some E
 |m::ms=>match E.heap[m]? with
  |some .bB=>dA (E.set m .dead 0) ms
  |_=>none
def cZ(args:List AV):Env:=λt=>args.getD t .undef
def iE(e:Env):lN->List AV->Env
 |p::ps,a::as=>iE (e.set p a) ps as
 |_,_=>e
def qA(n:Nat)(dy:oN)(pf:PF)(b:Fr)(E:AS):Option aS:=
 match dA E b.marks with
 |some a=>match fk X a b.env pf.results with
  |some v=>some (.ret (finish n dy v a).1 (finish n dy v a).2)
  |none=>none
 |none=>none
def leave(n:Nat)(dy:oN)(pf:PF):jd->Option aS
 |some (.normal,fr,E)=>qA X n dy pf fr E
 |some (.ret,fr,E)=>qA X n dy pf fr E
 |some (.panic v,fr,E)=>match dA E fr.marks with
  |some a=>some (.panic (finish n dy v a).1 (finish n dy v a).2)
  |none=>none
 |_=>none
def r6:Ex->Option (Option PC)
 |.normal=>some none
 |.ret=>some (some .ret)
 |.exit id=>some (some (.exit id))
 |.panic _=>none
def endRound(l n:Nat)(dy:oN):jd->Option aS
 |some (ex,_,E)=>match r6 ex,E.heap[l]? with
  |some j,some (.loop _ _ f env ps as bd)=>
   some (.ret (.bool j.isNone) (finish n dy (.bool j.isNone) (E.set l (.loop (if j.isNone then .ready else .done) j f env ps as bd) 0)).2)
  |_,_=>none
 |none=>none
noncomputable def j0(C:bw)(L:ee)(l:Nat)(args:List AV)(E:AS):Option aS:=
 match E.heap[l]? with
 |some (.loop _ _ f env ps assign body)=>
  if args.length=ps.length then
   match aY X C L f true assign {env:=iE env ps args,marks:=[]} {E with lo:=none}with
   |some (.normal,fr,a)=>
    match a.heap[l]? with
    |some (.loop .ready b g c d e iF)=>
     endRound l E.heap.length E.lo (aY X C L f true body fr (a.set l (.loop .busy b g c d e iF) 0))
    |_=>none
   |_=>none
  else none
 |_=>none
noncomputable def step(C:bw)(L:ee):bw
 |.fn (.func f) first cap,args,E=>
  match X.bU f with
  |some p=>p (first++args++cap) E
  |none=>
   match X.code f with
   |some pf=>
    if(first++args++cap).length<=pf.ntmps then
     leave X E.heap.length E.lo pf (aY X C L f false pf.body {env:=cZ (first++args++cap),marks:=[]} {E with lo:=none})
    else none
   |none=>none
 |.fn (.yield l) [] _,args,E=>j0 X C L l args E
 |_,_,_=>none
def iter:Nat->ee
 |0,_,_,_=>none
 |n+1,body,fr,E=>match body fr E with
  |some (.normal,a,b)=>iter n body a b
  |r=>r
noncomputable def ic:Nat->bw
 |0=>λ_ _ _=>none
 |n+1=>step X (ic n) (iter n)
section
variable(P:Program)
def cn(t:TypeId):oN:=(P.info? t).map (·.size)
def x0(t:TypeId):oN:=(P.info? t).map (·.bytes)
def mX(t:TypeId):Option Bool:=(P.underlying t).map λ |.struct _|.array _ _=>true|_=>false
def AV.plain:AV->Bool
 |.iD=>false
 |_=>true
def Hf:Value->Bool
 |.agg cs=>cs.toList.all λv=>(AV.jX v).plain&& !(AV.jX v).cb
 |.iface _ v=>(AV.jX v).plain
 |v=>(AV.jX v).plain
def zeroV(t:TypeId):Option Value:=(P.info? t).bind (·.zero)
def x4(t:TypeId):Option AV:=
 match zeroV P t with
 |some z=>if Hf z then some (AV.ofValue z)else none
 |none=>none
def gB(t:TypeId):Option (List AV):=
 match x4 P t,cn P t with
 |some z,some n=>if z.cb=false/\z.cells.length=n then some z.cells else none
 |_,_=>none
def r7:List AV->TypeId->Option TypeId
 | [.dZ,.ai],t=>some t
 |_,_=>none
def bJ:Operand->Option ao
 |.tmp t=>some (.t t)
 |.const v=>if Hf v then some (.c (AV.ofValue v))else none
 |.global g=>some (.c (.dg g))
 |.func f=>some (.c (.fn (.func f) [] []))
def nU:List Operand->Option (List ao)
 | []=>some []
 |x::xs=>match bJ x,nU xs with
  |some y,some ys=>some (y::ys)
  |_,_=>none
def uv:Option Operand->Option (Option ao)
 |none=>some none
 |some x=>(bJ x).map some
def parts(a:Nat->Option (Nat×Nat)):List (Nat×Operand)->Option (List (Nat×Nat×ao))
 | []=>some []
 | (i,x)::r=>match a i,bJ x,parts a r with
   |some (off,n),some y,some b=>some ((off,n,y)::b)
   |_,_,_=>none
def Ak(f:TypeId->Option (List EK)):List Field->Nat->Option (List EK)
 | [],_=>some []
 |g::gs,off=>match f g.type with
  |some a=>if g.name≠ "_" /\g.offset=off/\cn P g.type=some a.length then(Ak f gs (off+a.length)).map (a++ ·)else none
  |none=>none
def nV:Nat->TypeId->Option (List EK)
 |0,_=>none
 |d+1,t=>match P.underlying t with
  |some .bool=>some [.bool]
  |some (.int _)=>some [.int]
  |some .string=>some [.str]
  |some (.struct fields)=>if P.stoodInHeld t=false then Ak P (nV d) fields.toList 0 else none
  |some (.array n e)=>match nV d e with
   |some a=>if cn P e=some a.length/\n*a.length<=1024 then some (List.replicate n a).flatten else none
   |none=>none
  |_=>none
def XF:List TypeId:=
 (List.range P.types.size).filter λt=>match P.info? t,P.underlying t with
   |some i,some (.int _)=>i.comparable
   |_,_=>false
def x5(t:TypeId)(x y:Operand):Option EK:=
 match P.underlying t with
 |some .bool=>some .bool
 |some (.int _)=>some .int
 |some .string=>some .str
 |some (.pointer _)=>some .ptr
 |some (.slice _)=>some .sl
 |some (.map _ _)=>some .map
 |some (.func _ _ _)=>some .fn
 |some (.interface _)=>(match x,y with|.const .nilIface,_=>some .c9|_,.const .nilIface=>some .c9|_,_=>some (.Af (XF P)))
 |some (.struct _)=>if P.eqGuardType P.depth t=false then(nV P 10 t).map .agg else none
 |some (.array _ _)=>if P.eqGuardType P.depth t=false then(nV P 10 t).map .agg else none
 |_=>none
def Al(t:TypeId):Option EK:=
 match P.underlying t with
 |some .bool=>some .bool
 |some (.int _)=>some .int
 |some .string=>some .str
 |_=>none
def aCK(t:TypeId):Bool:=match zeroV P t with|some .nilIface=>true|_=>false
def XG:Fn->Bool
 |.yield _=>true
 |_=>false
def aCL(a:Array (String×TypeId)):List TypeId:=
 (List.range P.types.size).filter λt=>match P.info? t with
   |some i=>(Instr.missingMethod a i.methods).isNone
   |none=>false
def De(a:TypeId)(c:Call):Option I:=
 match c.callee,c.argTypes.toList,c.args.toList with
 |.value f,_,args=>match bJ f,nU args with
  |some f,some as=>some (.call f as)
  |_,_=>none
 |.builtin .len,[t],[x]=>match P.underlying t with
  |some .string=>(bJ x).map (.len .str)
  |some (.slice _)=>(bJ x).map (.len .sl)
  |some (.map _ _)=>(bJ x).map (.len .map)
  |_=>none
 |.builtin .append,[st,g],[s,x]=>match P.underlying st with
  |some (.slice e)=>match cn P e,x0 P e,bJ s,bJ x with
   |some sz,some b,some s,some x=>match P.underlying g with
    |some (.slice _)=>if 0<b/\ (gB P e).isSome then some (.append e sz b s x)else none
    |_=>none
   |_,_,_,_=>none
  |_=>none
 |.builtin .copy,[h,_],[d,s]=>match P.underlying h with
  |some (.slice e)=>match cn P e,bJ d,bJ s with
   |some sz,some d,some s=>some (.copy sz d s)
   |_,_,_=>none
  |_=>none
 |.builtin .clear,[t],[x]=>match P.underlying t with
  |some (.slice e)=>match gB P e,bJ x with
   |some z,some x=>some (.clear z x)
   |_,_=>none
  |_=>none
 |.builtin .max,_,xs=>match P.underlying a with
  |some (.int _)=>(nU xs).map .max
  |_=>none
 |.builtin .min,_,xs=>match P.underlying a with
  |some (.int _)=>(nU xs).map .min
  |_=>none
 |.builtin .cap,[t],[x]=>match P.underlying t with
  |some (.slice _)=>(bJ x).map (.len .cap)
  |_=>none
 |_,_,_=>none
def kT(rows:Bool)(o:Oper):Option I:=
 match o.op with
 |.move x|.assign x=>(bJ x).map .mov
 |.pick c a b=>match bJ c,bJ a,bJ b with
  |some c,some a,some b=>some (.pick c a b)
  |_,_,_=>none
 |.alloc t=>(gB P t).map λz=>.alloc z (r7 z t)
 |.box t x=>(bJ x).map λx=>.box x ((gB P t).bind λz=>r7 z t)
 |.build t ps=>match P.underlying t,gB P t with
  |some (.struct fields),some z=>if fields.toList.all (λf=>(cn P f.type).isSome)then(parts (λi=>match fields[i]? with
    |some f=>(cn P f.type).map λn=>(f.offset,n)
    |none=>none) ps.toList).map (.build z)else none
  |some (.array _ e),some z=>match cn P e with
   |some sz=>(parts (λi=>some (i*sz,sz)) ps.toList).map (.build z)
   |none=>none
  |_,_=>none
 |.buildSlice t len ps=>match P.underlying t with
  |some (.slice e)=>match gB P e with
   |some z=>if len*z.length<=65536/\0<z.length then
      (parts (λi=>some (i*z.length,z.length)) ps.toList).map λps=>if rows then .rT e z len ps else .bslice z len ps
    else none
   |none=>none
  |_=>none
 |.load t a=>match mX P t,cn P t,bJ a with
  |some b,some n,some a=>some (.load b n a)
  |_,_,_=>none
 |.store t a v=>match cn P t,bJ a,bJ v with
  |some n,some a,some v=>some (.store n a v)
  |_,_,_=>none
 |.nilCheck x=>(bJ x).map .nilck
 |.binOp op t x y _=>match bJ x,bJ y with
  |some p,some j=>match op,P.underlying t with
   |.shl,some (.int _)|.shr,some (.int _)=>some (.shf op p j)
   |.eql,_=>(x5 P t x y).map λk=>.eq k p j
   |.neq,_=>(x5 P t x y).map λk=>.ne k p j
   |_,some (.int _)|_,some .string=>some (.bin op p j)
   |_,_=>none
  |_,_=>none
 |.unOp op _ x=>(bJ x).map (.un op)
 |.convert src dst x=>match P.underlying src,P.underlying dst,bJ x with
  |some (.int _),some (.int k),some x=>some (.conv k x)
  |some .string,some (.slice e),some x=>match P.underlying e with
   |some (.int .u8)=>some (.s2b x)
   |_=>none
  |_,_,_=>none
 |.makeInterface t x=>match P.underlying t with
  |some (.interface _)|none=>none
  |some _=>(bJ x).map (.mki t)
 |.makeFunc f first cap=>match nU first.toList,nU cap.toList with
  |some a,some b=>if XG f then none else some (.mkf f a b)
  |_,_=>none
 |.makeMap _ none=>some .nS
 |.makeSlice t l c=>match P.underlying t with
  |some (.slice e)=>match gB P e,x0 P e,bJ l,bJ c with
   |some z,some b,some l,some c=>if 0<z.length/\0<b then some (.Da e z b l c)else none
   |_,_,_,_=>none
  |_=>none
 |.slice t x lo h d=>match bJ x,uv lo,uv h,uv d with
  |some x,some lo,some h,some d=>match P.underlying t with
   |some .string=>if d.isNone then some (.slstr x lo h)else none
   |some (.slice e)=>if d.isNone||h.isSome then(cn P e).map λn=>.slsl n x lo h d else none
   |some (.array n e)=>if d.isNone then(cn P e).map λsz=>.slarr n sz x lo h else none
   |_=>none
  |_,_,_,_=>none
 |.fieldAddr s x f=>match P.underlying s,bJ x with
  |some (.struct fields),some x=>match fields[f]? with
   |some g=>match cn P g.type with
    |some n=>if 0<n then some (.faddr g.offset x)else none
    |none=>none
   |none=>none
  |_,_=>none
 |.field s x f=>match P.underlying s,bJ x with
  |some (.struct fields),some x=>match fields[f]? with
   |some g=>match mX P g.type,cn P g.type with
    |some b,some n=>some (.fld b n g.offset x)
    |_,_=>none
   |none=>none
  |_,_=>none
 |.indexAddr t x i=>match P.underlying t,bJ x,bJ i with
  |some (.array n e),some x,some i=>(cn P e).map λsz=>.iaddra n sz x i
  |some (.slice e),some x,some i=>(cn P e).map λsz=>.iaddrs sz x i
  |_,_,_=>none
 |.index t x i=>match P.underlying t,bJ x,bJ i with
  |some (.array n e),some x,some i=>match mX P e,cn P e with
   |some b,some sz=>some (.idxa b n sz x i)
   |_,_=>none
  |some .string,some x,some i=>some (.idxs x i)
  |_,_,_=>none
 |.lookup t m k ok=>match P.underlying t with
  |some (.map q u)=>match Al P q,x4 P u,bJ m,bJ k with
   |some r,some z,some m,some k=>some (.lookup r z m k ok)
   |_,_,_,_=>none
  |_=>none
 |.mapUpdate t m k v|.insert t m k v=>match P.underlying t with
  |some (.map q _)=>match Al P q,bJ m,bJ k,bJ v with
   |some r,some m,some k,some v=>some (.oW r m k v)
   |_,_,_,_=>none
  |_=>none
 |.typeAssert x _ asserted ok=>match P.underlying asserted,bJ x with
  |some (.interface _),some _=>none
  |some _,some x=>match x4 P asserted with
   |some z=>some (.ta z x asserted ok)
   |none=>none
  |_,_=>none
 |.extract x i=>(bJ x).map λx=>.ext x i
 |.call c=>De P o.type c
 |.panic x=>(bJ x).map .panic
 |_=>none
def guardOf(a:Array Oper)(o:Oper):Option (Option (Nat×Bool)):=
 match o.guard with
 |none=>some none
 |some (j,want)=>match(a[j]?).bind (·.dst)with
  |some t=>some (some (t,want))
  |none=>none
def ie(rows:Bool)(a:Array Oper)(o:Oper):Option aO:=
 match kT P rows o,guardOf a o with
 |some i,some g=>some {g:=g,dst:=o.dst,i:=i}
 |_,_=>none
def kW(rows:Bool)(a:Array Oper):List Oper->Option (List aO)
 | []=>some []
 |o::os=>match ie P rows a o,kW rows a os with
  |some x,some xs=>some (x::xs)
  |_,_=>none
def kX(o:Oper):lN:=(o.after.toList.filter (Region.binds .any)).map (·.on)
def Am(a:lN)(n:Nat):lN->Nat
 | []=>0
 |e::es=>Nat.lor (Nat.lor (Nat.shiftLeft 1 e) (if e<n then a.getD (n-1-e) 0 else 0)) (Am a n es)
def uw(a:Array Oper):Nat->lN
 |0=>[]
 |n+1=>Am (uw a n) n (match a[n]? with|some o=>kX o|none=>[])::uw a n
def gC(b:Array Oper)(_:Nat)(i:Nat):lN:=(List.range i).filter λa=>Nat.testBit ((uw b (i+1)).headD 0) a
def Hg(b:Region.Mode)(a:Array Oper):lN->lN->Bool
 |_,[]=>true
 |pre,i::rest=>(match a[i]? with|some o=>o.after.toList.all (λe=>!Region.binds b e||pre.contains e.on)|none=>false)&&Hg b a (i::pre) rest
def ux(c:Region.Mode)(b:Array Oper)(a:lN):Bool:=(List.range b.size).all (λi=>a.contains i)&&Hg c b [] a
def r8(ys:List (aO×Nat))(a:List lN)(y:aO)(j:Nat):lN:=
 if y.i.cls=0 then[]else
 match(ys.filter λ (x,i)=>i<j&&x.i.cls>=1&& !(a.getD j []).contains i).map (·.2)with
 | []=>if y.i.cls=2 then((ys.filter λ (x,i)=>i<j&&x.i.cls=0&& !(a.getD j []).contains i).map (·.2)).take 1 else[]
 |l=>l
def NR{ys:List (aO×Nat)}{a:List lN}{y x:aO}(c: (x,i)∈ys)(b:i<j)(f:x.i.cls≠0)(e:y.i.cls≠0)(d: (a.getD j []).contains i=false):i∈r8 ys a y j:=by
 unfold r8;have hm:i∈(ys.filter λ (x,i)=>i<j&&x.i.cls>=1&& !(a.getD j []).contains i).map (·.2):=by
  simp only[ahk,aiJ]
  grind
 grind
def an3{ys:List (aO×Nat)}{b:List lN}{y x:aO}(d: (x,i)∈ys)(c:i<j)(k:y.i.cls=2)(f: (b.getD j []).contains i=false):r8 ys b y j≠[]:=by
 intro h;by_cases ci:x.i.cls=0
 ·unfold r8 at h;rw[afB (by omega)]at h;split at h
  ·have hm:i∈(ys.filter λ (x,i)=>i<j&&x.i.cls=0&& !(b.getD j []).contains i).map (·.2):=by
     simp only[ahk,aiJ]
     grind
   cases e: (ys.filter λ (x,i)=>i<j&&x.i.cls=0&& !(b.getD j []).contains i).map (·.2)with
   |nil=>grind
   |cons a g=>grind
  grind
 ·have:=NR (y:=y) d c ci (by omega) f
  grind
def NS(a:Array Oper)(xs:List aO):Option (List (aO×lN)):=
 let n:=xs.length
 let before:=(List.range n).map λi=>(gC a 64 i).eraseDups
 let ordered (i j:Nat):Bool:=(before.getD j []).contains i
 let ys:=xs.zipIdx
 if(ux .any a (List.range a.size)&&ux .text a (List.range a.size)&&ux .gc a (Region.linearise .gc a 0))&& (List.range n).all (λi=>match a[i]? with|some o=>(kX o).all (· <i)|none=>false)&&
   ys.all (λ (x,i)=>ys.all λ (y,j)=>i>=j||ordered i j||jZ x y)
 then some (ys.map λ (y,j)=>(y,r8 ys before y j))
 else none
def eG(rows:Bool)(nt:Nat):Code->Option PC
 |.skip|.label _=>some .skip
 |.seq a b=>match eG rows nt a,eG rows nt b with
  |some a,some b=>some (.seq a b)
  |_,_=>none
 |.cond c a b=>match bJ c,eG rows nt a,eG rows nt b with
  |some c,some a,some b=>some (.cond c a b)
  |_,_,_=>none
 |.block id b=>(eG rows nt b).map (.block id)
 |.loop b=>(eG rows nt b).map .loop
 |.exit id=>some (.exit id)
 |.ret=>some .ret
 |.region _ ops draw=>match kW P rows ops ops.toList with
  |some xs=>
   if xs.all (λx=>match x.dst with|some d=>d<nt|none=>true)then
    if draw then(NS ops xs).map .uq else some (.aL xs)
   else none
  |none=>none
 |.rangeFunc g ps assign body=>match bJ g,eG rows nt assign,eG rows nt body with
  |some g,some a,some b=>if ps.toList.all (· <nt)then some (.ia g ps.toList a b)else none
  |_,_,_=>none
 |.scope _|.goto _|.refuse _=>none
def oY:List ResultVar->Option (List RV)
 | []=>some []
 |.tmp t::r=>(oY r).map (.t t:: ·)
 |.cell a t::r=>match mX P t,cn P t,oY r with
  |some b,some n,some rs=>some (.cell a b n::rs)
  |_,_,_=>none
def Df(rows:Bool)(fn:Func):Option PF:=
 match fn.body with
 |some c=>match eG P rows fn.ntmps c,oY P fn.results.toList with
  |some b,some rs=>if(fn.name != "runtime.NumGoroutine")then some {ntmps:=fn.ntmps,results:=rs,body:=b}else none
  |_,_=>none
 |none=>none
end
structure Gh where
 bt:Nat->Nat->Option Value
 n:Nat
 aZ:Nat->Nat
 base:Nat->Nat
 aj:Nat->Nat
 dU:Nat->Nat
 sz:Nat->Nat
 pz:Nat->Option ae:=λ_=>none
def Gh.on(G:Gh)(i:Nat):Prop:=i<G.n/\G.pz i=none
def leaf:Value->Bool
 |.agg _=>false
 |.tuple _=>false
 |_=>true
def mY(G:Gh)(b o:Nat)(vs:List Value):Prop:= ∀j v,vs[j]?=some v->G.bt b (o+j)=some v
def Leaves(vs:List Value):Prop:= ∀v∈vs,leaf v=true
def kY(G:Gh):Fn->Fn->Prop
 |.yield l,f=>G.on l/\ (∃k,f= .yield k/\ (G.aj l=0->k=G.aZ l))
 |g,f=>f=g
mutual
def an(G:Gh):AV->Value->Prop
 |.bool b,v=>v= .bool b
 |.int k n,v=>v= .int k n
 |.str s,v=>v= .string s
 |.agg cs,v=> ∃vs:Array Value,v= .agg vs/\aD G cs vs.toList/\Leaves vs.toList
 |.au cs,v=> ∃vs:Array Value,v= .tuple vs/\aD G cs vs.toList
 |.dZ,v=>v= .pointer none
 |.ptr id off,v=>G.on id/\ ∃a,v= .pointer (some a)/\ (G.aj id=0->a=⟨G.aZ id,off,none⟩)
 |.dq id aj i off,v=>G.on id/\aj<=G.aj id/\ ∃a,v= .pointer (some a)/\ (G.aj id=aj->a=⟨G.aZ id,G.base id+i*G.sz id+off,none⟩)
 |.eL cs off,v=> ∃b o vs,v= .pointer (some ⟨b,o+off,none⟩)/\mY G b o vs/\Leaves vs/\aD G cs vs
 |.dg g,v=>v= .pointer (some ⟨g,0,none⟩)
 |.ai,v=>v= .slice none 0 0
 |.sl af cx,v=> ∃b o cap sz vs,v= .slice (some ⟨b,o,none⟩) af.length cap/\af.length<=cap/\ (cx=true->cap=af.length)/\ (∀el∈af,el.length=sz)/\mY G b o vs/\Leaves vs/\bo G af vs
 |.ref id aj sz off len cx,v=>G.on id/\aj<=G.aj id/\ ∃a cap,v= .slice (some a) len cap/\ (len<=cap/\a.spot=none)/\ (cx=true->cap=len)/\
   (G.aj id=aj->G.sz id=sz/\ (0<cap->a=⟨G.aZ id,G.base id+off*sz,none⟩)/\off*sz+cap*sz<=G.dU id)
 |.fa id _ off len,v=>G.on id/\ ∃a cap,v= .slice (some a) len cap/\len<=cap/\ (G.aj id=0->0<cap->a=⟨G.aZ id,off,none⟩)
 |.mh,v=>v= .map none
 |.jb g,v=>(∃r,v= .map (some r))/\G.bt g 0=some v
 |.mp id,v=>G.on id/\ ∃r,v= .map (some r)/\ (G.aj id=0->r=G.aZ id)
 |.fn f a b,v=> ∃ (c:Fn) (a' d:Array Value),v= .func c a' d/\kY G f c/\aD G a a'.toList/\aD G b d.toList
 |.cJ,v=>v= .nilFunc
 |.c9 t x,v=> ∃y,v= .iface t y/\an G x y
 |.ez,v=>v= .nilIface
 |.iD,_=>False
def aD(G:Gh):List AV->List Value->Prop
 | [],vs=>vs=[]
 |a::as,vs=> ∃v r,vs=v::r/\an G a v/\aD G as r
def bo(G:Gh):List (List AV)->List Value->Prop
 | [],vs=>vs=[]
 |a::as,vs=> ∃v r,vs=v++r/\aD G a v/\bo G as r
end
structure Gh.sub(G G':Gh):Prop where
 bt: ∀b o v,G.bt b o=some v->G'.bt b o=some v
 n:G.n<=G'.n
 on: ∀i,G.on i->G'.on i
 aj: ∀i,G.on i->G.aj i<=G'.aj i
 same: ∀i,G.on i->G'.aj i=G.aj i->G'.aZ i=G.aZ i/\G'.base i=G.base i/\G'.dU i=G.dU i/\G'.sz i=G.sz i
structure Gh.le(G G':Gh):Prop extends toSub:Gh.sub G G' where
 pz: ∀i,i<G.n->G'.pz i=G.pz i
theorem Gh.le.mk'{G a:Gh}(bt: ∀b o v,G.bt b o=some v->a.bt b o=some v)(n:G.n<=a.n)(pz: ∀i,i<G.n->a.pz i=G.pz i)(aj: ∀i,i<G.n->G.aj i<=a.aj i)
  (same: ∀i,i<G.n->a.aj i=G.aj i->a.aZ i=G.aZ i/\a.base i=G.base i/\a.dU i=G.dU i/\a.sz i=G.sz i):G.le a:=
 {bt:=bt,n:=n,pz:=pz,on:=λi h=>⟨amE h.1 n,by rw[pz i h.1];exact h.2⟩,aj:=λi h=>aj i h.1,same:=λi h=>same i h.1}
theorem Gh.an4(G:Gh):G.sub G:=⟨λ_ _ _ h=>h,ahd _,λ_ h=>h,λ_ _=>ahd _,λ_ _ _=>⟨rfl,rfl,rfl,rfl⟩⟩
theorem Gh.le_refl(G:Gh):G.le G:={G.an4 with pz:=λ_ _=>rfl}
def Gh.XH{f c d:Gh}(h:f.sub c)(k:c.sub d):f.sub d where
 bt b o v e:=k.bt b o v (h.bt b o v e)
 n:=akH h.n k.n
 on i g:=k.on i (h.on i g)
 aj i g:=akH (h.aj i g) (k.aj i (h.on i g))
 same i g e:=by
  have a:=h.aj i g;have b:=k.aj i (h.on i g);have e1:c.aj i=f.aj i:=by omega
  have j:d.aj i=c.aj i:=by omega
  obtain⟨u,t,s,r⟩:=h.same i g e1;obtain⟨q,p,m,l⟩:=k.same i (h.on i g) j;omega
theorem Gh.le_trans{c b a:Gh}(h:c.le b)(k:b.le a):c.le a:=
 {Gh.XH h.toSub k.toSub with pz:=λi d=>(k.pz i (amE d h.n)).trans (h.pz i d)}
theorem mY.df{G a:Gh}(h:G.sub a){o:Nat}(f:mY G b o vs):mY a b o vs:=λj v e=>h.bt _ _ _ (f j v e)
def kY.df{G b:Gh}(h:G.sub b){f g:Fn}(r:kY G f g):kY b f g:=by
 cases f<;>simp only[kY]at* <;>try exact r
 obtain⟨a,k,e,c⟩:=r;refine⟨h.on _ a,k,e,λi=>?_⟩;have d:=h.aj _ a;rw[(h.same _ a (by omega)).1];omega
mutual
theorem an.df{G z:Gh}(h:G.sub z): ∀ (x:AV) (v:Value),an G x v->an z x v
 |.bool _,_,r=>by simpa[an]using r
 |.int _ _,_,r=>by simpa[an]using r
 |.str _,_,r=>by simpa[an]using r
 |.agg cs,_,r=>by
  simp only[an]at*;obtain⟨vs,e,l,d⟩:=r;exact⟨vs,e,aD.df h cs _ l,d⟩
 |.au cs,_,r=>by
  simp only[an]at*;obtain⟨vs,e,l⟩:=r;exact⟨vs,e,aD.df h cs _ l⟩
 |.dZ,_,r=>by simpa[an]using r
 |.ptr id off,_,r=>by
  simp only[an]at*;obtain⟨a,x,e,c⟩:=r;refine⟨h.on _ a,x,e,λn=>?_⟩;have m:=h.aj id a;rw[(h.same id a (by omega)).1];exact c (by omega)
 |.dq id aj i off,_,r=>by
  simp only[an]at*;obtain⟨a,b,x,e,c⟩:=r;have m:=h.aj id a;refine⟨h.on _ a,by omega,x,e,λn=>?_⟩;obtain⟨s,q,w,p⟩:=h.same id a (by omega);rw[s,q,p];exact c (by omega)
 |.eL cs off,_,r=>by
  simp only[an]at*;obtain⟨b,o,vs,e,f,d,l⟩:=r;exact⟨b,o,vs,e,f.df h,d,aD.df h cs _ l⟩
 |.dg _,_,r=>by simpa[an]using r
 |.ai,_,r=>by simpa[an]using r
 |.sl af cx,_,r=>by
  simp only[an]at*;obtain⟨b,o,cap,sz,vs,e,k,j,u,f,d,l⟩:=r;exact⟨b,o,cap,sz,vs,e,k,j,u,f.df h,d,bo.df h af _ l⟩
 |.ref id aj sz off len cx,_,r=>by
  simp only[an]at*;obtain⟨a,b,x,cap,e,k,j,u⟩:=r;have m:=h.aj id a;refine⟨h.on _ a,by omega,x,cap,e,k,j,λn=>?_⟩;obtain⟨s,q,w,p⟩:=h.same id a (by omega);rw[s,q,w,p];exact u (by omega)
 |.fa id sz off len,_,r=>by
  simp only[an]at*;obtain⟨a,x,cap,e,k,j⟩:=r;have m:=h.aj id a;refine⟨h.on _ a,x,cap,e,k,λn D=>?_⟩;rw[(h.same id a (by omega)).1];exact j (by omega) D
 |.mh,_,r=>by simpa[an]using r
 |.jb g,_,r=>by
  simp only[an]at*;exact⟨r.1,h.bt _ _ _ r.2⟩
 |.mp id,_,r=>by
  simp only[an]at*;obtain⟨a,x,e,c⟩:=r;have m:=h.aj id a;refine⟨h.on _ a,x,e,λn=>?_⟩;rw[(h.same id a (by omega)).1];exact c (by omega)
 |.fn f a b,_,r=>by
  simp only[an]at*;obtain⟨E,a',F,e,A,C,B⟩:=r;exact⟨E,a',F,e,A.df h,aD.df h a _ C,aD.df h b _ B⟩
 |.cJ,_,r=>by simpa[an]using r
 |.c9 t x,_,r=>by
  simp only[an]at*;obtain⟨y,e,l⟩:=r;exact⟨y,e,an.df h x _ l⟩
 |.ez,_,r=>by simpa[an]using r
 |.iD,_,r=>by simp[an]at r
theorem aD.df{G b:Gh}(h:G.sub b): ∀ (xs:List AV) (vs:List Value),aD G xs vs->aD b xs vs
 | [],_,r=>by simpa[aD]using r
 |a::as,_,r=>by
  simp only[aD]at*;obtain⟨v,q,e,d,c⟩:=r;exact⟨v,q,e,an.df h a _ d,aD.df h as _ c⟩
theorem bo.df{G b:Gh}(h:G.sub b): ∀ (xs:List (List AV)) (vs:List Value),bo G xs vs->bo b xs vs
 | [],_,r=>by simpa[bo]using r
 |a::as,_,r=>by
  simp only[bo]at*;obtain⟨v,q,e,d,c⟩:=r;exact⟨v,q,e,aD.df h a _ d,bo.df h as _ c⟩
end
theorem mY.mono{G a:Gh}(h:G.le a){o:Nat}(f:mY G b o vs):mY a b o vs:=f.df h.toSub
theorem kY.mono{G a:Gh}(h:G.le a){f g:Fn}(r:kY G f g):kY a f g:=r.df h.toSub
theorem an.mono{G a:Gh}(h:G.le a)(x:AV)(v:Value)(r:an G x v):an a x v:=an.df h.toSub x v r
theorem aD.mono{G a:Gh}(h:G.le a)(xs:List AV)(vs:List Value)(r:aD G xs vs):aD a xs vs:=aD.df h.toSub xs vs r
theorem bo.mono{G a:Gh}(h:G.le a)(xs:List (List AV))(vs:List Value)(r:bo G xs vs):bo a xs vs:=bo.df h.toSub xs vs r
theorem aD.length{G:Gh}: ∀ {xs:List AV} {vs:List Value},aD G xs vs->vs.length=xs.length
 | [],_,r=>by simp only[aD]at r;simp[r]
 |_::as,_,r=>by
  obtain⟨v,q,rfl,_,a⟩:=r;simp[aD.length a]
theorem aD.get{G:Gh}: ∀ {xs:List AV} {vs:List Value},aD G xs vs-> ∀ (j:Nat) (x:AV),xs[j]?=some x-> ∃v,vs[j]?=some v/\an G x v
 | [],_,_,_,_,e=>by grind
 |a::as,_,r,j,x,e=>by
  obtain⟨v,q,rfl,c,b⟩:=r;cases j with
  |zero=>grind
  |succ j=>obtain⟨u,hu,hr⟩:=aD.get b j x e;grind
theorem aD.NT{G:Gh}: ∀ {xs:List AV} {vs:List Value},vs.length=xs.length->(∀ (j:Nat) (x:AV) (v:Value),xs[j]?=some x->vs[j]?=some v->an G x v)->aD G xs vs
 | [],vs,b,_=>by cases vs<;>simp_all[aD]
 |a::as,vs,b,h=>by
  cases vs with
  |nil=>grind
  |cons v vs=>
   refine⟨v,vs,rfl,h 0 a v (by simp) (by simp),aD.NT (by grind) λj x u c hu=>h (j+1) x u (by grind) (by grind)⟩
theorem aD.append{G:Gh}: ∀ {xs ys:List AV} {vs us:List Value},aD G xs vs->aD G ys us->aD G (xs++ys) (vs++us)
 | [],_,_,_,r,k=>by simp only[aD]at r;grind
 |a::as,_,_,_,r,k=>by
  obtain⟨v,q,rfl,c,b⟩:=r;exact⟨v,q++_,rfl,c,aD.append b k⟩
theorem aD.split{G:Gh}: ∀ {xs ys:List AV} {vs:List Value},aD G (xs++ys) vs-> ∃v1 v2,vs=v1++v2/\aD G xs v1/\aD G ys v2
 | [],_,vs,r=>⟨[],vs,rfl,by rfl,r⟩
 |a::as,_,_,r=>by
  obtain⟨v,q,rfl,e,d⟩:=r;obtain⟨v1,v2,rfl,c,b⟩:=aD.split d;exact⟨v::v1,v2,rfl,⟨v,v1,rfl,e,c⟩,b⟩
theorem aD.take{G:Gh}{xs:List AV}(r:aD G xs vs)(n:Nat):aD G (xs.take n) (vs.take n):=
 .NT (by simp[r.length]) λj x v a b=>by
  rw[apj]at a b;split at a
  ·obtain⟨u,hu,hr⟩:=r.get j x a
   grind
  grind
theorem aD.drop{G:Gh}{xs:List AV}(r:aD G xs vs)(n:Nat):aD G (xs.drop n) (vs.drop n):=
 .NT (by simp[r.length]) λj x v a b=>by
  rw[anR]at a b;obtain⟨u,hu,hr⟩:=r.get _ x a
  grind
theorem bo.iff{G:Gh}: ∀ {af:List (List AV)} {vs:List Value},bo G af vs↔aD G af.flatten vs
 | [],_=>by rfl
 |a::as,vs=>by
  constructor
  ·rintro⟨v,r,rfl,e,d⟩;exact e.append (bo.iff.1 d)
  ·intro h;obtain⟨v1,v2,rfl,c,b⟩:=aD.split h;exact⟨v1,v2,rfl,c,bo.iff.2 b⟩
def aD.single{G:Gh}{x:AV}:aD G [x] [v]↔an G x v:=by simp[aD]
theorem Leaves.append{a b:List Value}(h:Leaves a)(k:Leaves b):Leaves (a++b):=λv c=>(ahb.1 c).elim (h v) (k v)
theorem Leaves.take{a:List Value}(h:Leaves a)(n:Nat):Leaves (a.take n):=λv b=>h v (al8 b)
theorem Leaves.drop{a:List Value}(h:Leaves a)(n:Nat):Leaves (a.drop n):=λv b=>h v (arc b)
theorem Leaves.get{a:List Value}(h:Leaves a)(e:a[j]?=some v):leaf v=true:=h v (anr e)
theorem an.cells{G:Gh}{x:AV}(r:an G x v)(h:x.cb=false):aD G x.cells v.cells.toList/\Leaves v.cells.toList:=by
 cases x<;>simp[AV.cb]at h<;>simp only[AV.cells]
 case agg cs=>
  obtain⟨vs,rfl,l,b⟩:=r;exact⟨l,b⟩
 all_goals
  have a:=r;simp only[an]at r
  first
   |rfl
   | (obtain⟨_,_,rfl,_⟩:=r;exact⟨aD.single.2 a,by simp[Leaves,Value.cells,leaf]⟩)
   | (obtain⟨_,rfl,_⟩:=r;exact⟨aD.single.2 a,by simp[Leaves,Value.cells,leaf]⟩)
   | (obtain⟨_,_,_,rfl,_⟩:=r;exact⟨aD.single.2 a,by simp[Leaves,Value.cells,leaf]⟩)
   | (obtain⟨_,_,_,_,rfl,_⟩:=r;exact⟨aD.single.2 a,by simp[Leaves,Value.cells,leaf]⟩)
   | (obtain⟨_,_,_,_,_,rfl,_⟩:=r;exact⟨aD.single.2 a,by simp[Leaves,Value.cells,leaf]⟩)
   | (obtain⟨⟨_,rfl⟩,_⟩:=r;exact⟨aD.single.2 a,by simp[Leaves,Value.cells,leaf]⟩)
mutual
theorem an.refs{G:Gh}: ∀ (x:AV) (v:Value),an G x v->x.refs<=G.n
 |.bool _,_,_|.int _ _,_,_|.str _,_,_|.dZ,_,_|.dg _,_,_|.ai,_,_|.mh,_,_|.jb _,_,_|.cJ,_,_|.ez,_,_|.iD,_,_=>by simp[AV.refs]
 |.agg cs,_,r=>by simp only[an]at r;obtain⟨vs,_,l,_⟩:=r;simp only[AV.refs];exact aD.refs cs _ l
 |.au cs,_,r=>by simp only[an]at r;obtain⟨vs,_,l⟩:=r;simp only[AV.refs];exact aD.refs cs _ l
 |.ptr id off,_,r=>by simp only[an]at r;have:=r.1.1;simp only[AV.refs];omega
 |.dq id aj i off,_,r=>by simp only[an]at r;have:=r.1.1;simp only[AV.refs];omega
 |.ref id aj sz off len cx,_,r=>by simp only[an]at r;have:=r.1.1;simp only[AV.refs];omega
 |.fa id sz off len,_,r=>by simp only[an]at r;have:=r.1.1;simp only[AV.refs];omega
 |.mp id,_,r=>by simp only[an]at r;have:=r.1.1;simp only[AV.refs];omega
 |.eL cs off,_,r=>by simp only[an]at r;obtain⟨b,o,vs,_,_,_,l⟩:=r;simp only[AV.refs];exact aD.refs cs _ l
 |.sl af cx,_,r=>by simp only[an]at r;obtain⟨b,o,cap,sz,vs,_,_,_,_,_,_,l⟩:=r;simp only[AV.refs];exact bo.refs af _ l
 |.fn f a b,_,r=>by
  simp only[an]at r;obtain⟨j,a',k,_,c,e,d⟩:=r;have h:=aD.refs a _ e;have g:=aD.refs b _ d;simp only[AV.refs];cases f<;>simp only[kY]at c<;>simp only<;>first|omega| (have:=c.1.1;omega)
 |.c9 t x,_,r=>by simp only[an]at r;obtain⟨y,_,l⟩:=r;simp only[AV.refs];exact an.refs x _ l
theorem aD.refs{G:Gh}: ∀ (xs:List AV) (vs:List Value),aD G xs vs->aG xs<=G.n
 | [],_,_=>by simp[aG]
 |a::as,_,r=>by
  simp only[aD]at r;obtain⟨v,q,_,c,b⟩:=r;have:=an.refs a _ c;have:=aD.refs as _ b;simp only[aG];omega
theorem bo.refs{G:Gh}: ∀ (xs:List (List AV)) (vs:List Value),bo G xs vs->b8 xs<=G.n
 | [],_,_=>by simp[b8]
 |a::as,_,r=>by
  simp only[bo]at r;obtain⟨v,q,_,c,b⟩:=r;have:=aD.refs a _ c;have:=bo.refs as _ b;simp only[b8];omega
end
structure Gh.dO(m:Nat)(G G':Gh):Prop where
 bt: ∀b o v,G.bt b o=some v->G'.bt b o=some v
 n:m<=G'.n
 pz: ∀i,i<m->G'.pz i=G.pz i
 aj: ∀i,i<m->G'.aj i=G.aj i
 aZ: ∀i,i<m->G'.aZ i=G.aZ i
 base: ∀i,i<m->G'.base i=G.base i
 dU: ∀i,i<m->G'.dU i=G.dU i
 sz: ∀i,i<m->G'.sz i=G.sz i
mutual
theorem an.dO{m:Nat}{G n:Gh}(h:G.dO m n): ∀ (x:AV) (v:Value),an G x v->x.refs<=m->an n x v
 |.bool _,_,r,_|.int _ _,_,r,_|.str _,_,r,_|.dZ,_,r,_|.dg _,_,r,_|.ai,_,r,_|.mh,_,r,_|.cJ,_,r,_|.ez,_,r,_=>by simpa[an]using r
 |.iD,_,r,_=>by simp[an]at r
 |.jb g,_,r,_=>by
  simp only[an]at*;exact⟨r.1,h.bt _ _ _ r.2⟩
 |.agg cs,_,r,hm=>by
  simp only[an,AV.refs]at*;obtain⟨vs,e,l,c⟩:=r;exact⟨vs,e,aD.dO h cs _ l hm,c⟩
 |.au cs,_,r,hm=>by
  simp only[an,AV.refs]at*;obtain⟨vs,e,l⟩:=r;exact⟨vs,e,aD.dO h cs _ l hm⟩
 |.ptr id off,_,r,hm=>by
  simp only[an,AV.refs]at*;rw[h.aj id (by omega),h.aZ id (by omega)];exact⟨⟨amE (by omega) h.n,by rw[h.pz id (by omega)];exact r.1.2⟩,r.2⟩
 |.dq id aj i off,_,r,hm=>by
  simp only[an,AV.refs]at*;rw[h.aj id (by omega),h.aZ id (by omega),h.base id (by omega),h.sz id (by omega)];exact⟨⟨amE (by omega) h.n,by rw[h.pz id (by omega)];exact r.1.2⟩,r.2⟩
 |.eL cs off,_,r,hm=>by
  simp only[an,AV.refs]at*;obtain⟨b,o,vs,e,f,c,l⟩:=r;exact⟨b,o,vs,e,λj v d=>h.bt _ _ _ (f j v d),c,aD.dO h cs _ l hm⟩
 |.sl af cx,_,r,hm=>by
  simp only[an,AV.refs]at*;obtain⟨b,o,cap,sz,vs,e,z,w,u,f,c,l⟩:=r;exact⟨b,o,cap,sz,vs,e,z,w,u,λj v d=>h.bt _ _ _ (f j v d),c,bo.dO h af _ l hm⟩
 |.ref id aj sz off len cx,_,r,hm=>by
  simp only[an,AV.refs]at*;rw[h.aj id (by omega),h.aZ id (by omega),h.base id (by omega),h.sz id (by omega),h.dU id (by omega)];exact⟨⟨amE (by omega) h.n,by rw[h.pz id (by omega)];exact r.1.2⟩,r.2⟩
 |.fa id sz off len,_,r,hm=>by
  simp only[an,AV.refs]at*;rw[h.aj id (by omega),h.aZ id (by omega)];exact⟨⟨amE (by omega) h.n,by rw[h.pz id (by omega)];exact r.1.2⟩,r.2⟩
 |.mp id,_,r,hm=>by
  simp only[an,AV.refs]at*;rw[h.aj id (by omega),h.aZ id (by omega)];exact⟨⟨amE (by omega) h.n,by rw[h.pz id (by omega)];exact r.1.2⟩,r.2⟩
 |.fn f a b,_,r,hm=>by
  simp only[an,AV.refs]at*;obtain⟨s,a',A,e,k,q,p⟩:=r;refine⟨s,a',A,e,?_,aD.dO h a _ q (by omega),aD.dO h b _ p (by omega)⟩;cases f<;>simp only[kY]at* <;>try exact k
  rename_i l;rw[h.aj l (by omega),h.aZ l (by omega)];exact⟨⟨amE (by omega) h.n,by rw[h.pz l (by omega)];exact k.1.2⟩,k.2⟩
 |.c9 t x,_,r,hm=>by
  simp only[an,AV.refs]at*;obtain⟨y,e,l⟩:=r;exact⟨y,e,an.dO h x _ l hm⟩
theorem aD.dO{m:Nat}{G b:Gh}(h:G.dO m b): ∀ (xs:List AV) (vs:List Value),aD G xs vs->aG xs<=m->aD b xs vs
 | [],_,r,_=>by simpa[aD]using r
 |a::as,_,r,hm=>by
  simp only[aD,aG]at*;obtain⟨v,q,e,d,c⟩:=r;exact⟨v,q,e,an.dO h a _ d (by omega),aD.dO h as _ c (by omega)⟩
theorem bo.dO{m:Nat}{G b:Gh}(h:G.dO m b): ∀ (xs:List (List AV)) (vs:List Value),bo G xs vs->b8 xs<=m->bo b xs vs
 | [],_,r,_=>by simpa[bo]using r
 |a::as,_,r,hm=>by
  simp only[bo,b8]at*;obtain⟨v,q,e,d,c⟩:=r;exact⟨v,q,e,aD.dO h a _ d (by omega),bo.dO h as _ c (by omega)⟩
end
def ae.le(n:Nat):ae->Prop
 |.box cs _=>aG cs<=n
 |.row _ _ _ af=>b8 af<=n
 |.map es=> ∀p∈es,p.2.refs<=n
 |.loop _ _ _ env _ _ _=> ∀t,(env t).refs<=n
 |_=>True
theorem ae.le.mono{n a:Nat}(h:n<=a): ∀ {o:ae},o.le n->o.le a
 |.box _ _,r=>akH r h
 |.row _ _ _ _,r=>akH r h
 |.map _,r=>λp b=>akH (r p b) h
 |.loop _ _ _ _ _ _ _,r=>λt=>akH (r t) h
 |.bB,_|.dead,_=>trivial
def x6:Option PC->Option Code->Prop
 |none,c=>c=none
 |some .ret,c=>c=some .ret
 |some (.exit id),c=>c=some (.exit id)
 |_,_=>False
structure cC(G:Gh)(nt:Nat)(e:Env)(tmps:Array Value):Prop where
 size:tmps.size=nt
 get: ∀t v,tmps[t]?=some v->an G (e t) v
 out: ∀t,nt<=t->e t= .undef
theorem cC.refs{G:Gh}{e:Env}{a:Array Value}(h:cC G nt e a)(t:Nat): (e t).refs<=G.n:=by
 by_cases b:t<nt
 ·have:t<a.size:=by rw[h.size];exact b
  exact an.refs _ _ (h.get t a[t] (by simp))
 ·rw[h.out t (by omega)];simp[AV.refs,aG]
theorem cC.df{G b:Gh}(h:G.sub b){e:Env}{a:Array Value}(r:cC G nt e a):cC b nt e a:=
 ⟨r.size,λt v c=>(r.get t v c).df h,r.out⟩
theorem cC.mono{G b:Gh}(h:G.le b){e:Env}{a:Array Value}(r:cC G nt e a):cC b nt e a:=r.df h.toSub
theorem cC.dO{G b:Gh}(h:G.dO m b){e:Env}{a:Array Value}(r:cC G nt e a)(d: ∀t,(e t).refs<=m):cC b nt e a:=
 ⟨r.size,λt v c=>(r.get t v c).dO h _ _ (d t),r.out⟩
def eN(G:Gh):List (AV×AV)->List MapEntry->Prop
 | [],ms=>ms=[]
 | (k,v)::es,ms=> ∃m r,ms=m::r/\isKey k=true/\an G k m.key/\an G v m.val/\eN G es r
theorem eN.df{G a:Gh}(h:G.sub a): ∀ {es:List (AV×AV)} {ms:List MapEntry},eN G es ms->eN a es ms
 | [],_,r=>by trivial
 | (k,v)::es,_,r=>by
   obtain⟨m,q,e,f,d,c,b⟩:=r;exact⟨m,q,e,f,d.df h,c.df h,b.df h⟩
theorem eN.mono{G b:Gh}(h:G.le b){es:List (AV×AV)}{a:List MapEntry}(r:eN G es a):eN b es a:=r.df h.toSub
def an5{k:AV}(h:isKey k=true):k.refs=0:=by cases k<;>simp[isKey]at h<;>simp[AV.refs]
theorem eN.dO{m:Nat}{G b:Gh}(h:G.dO m b): ∀ {es:List (AV×AV)} {ms:List MapEntry},eN G es ms->(∀p∈es,p.2.refs<=m)->eN b es ms
 | [],_,r,_=>by trivial
 | (k,v)::es,_,r,hm=>by
   obtain⟨e,q,he,a,f,d,c⟩:=r;exact⟨e,q,he,a,f.dO h _ _ (by simp[an5 a]),d.dO h _ _ (hm (k,v) (by simp)),c.dO h λp g=>hm p (by grind)⟩
def an.aCM{G:Gh}{id off:Nat}(r:an G (.ptr id off) v):G.pz id=none:=by exact r.1.2
def an.aCN{G:Gh}{id off:Nat}(r:an G (.dq id aj i off) v):G.pz id=none:=by exact r.1.2
def an.NU{G:Gh}{id off len:Nat}{c:Bool}(r:an G (.ref id aj sz off len c) v):G.pz id=none:=by exact r.1.2
def an.an6{G:Gh}{id off len:Nat}(r:an G (.fa id sz off len) v):G.pz id=none:=by exact r.1.2
def an.Hh{G:Gh}{id:Nat}(r:an G (.mp id) v):G.pz id=none:=by exact r.1.2
variable(P:Program)
def ig(G:Gh)(id:Nat)(w:World):ae->Prop
 |.box cs tg=>G.aj id=0/\ ∃ (c:Array Value) (ty:TypeId),w.heap[G.aZ id]?=some (.cells c ty (0,0))/\aD G cs c.toList/\Leaves c.toList/\ ∀t,tg=some t->ty=t
 |.row aj sz ty af=>G.aj id=aj/\G.sz id=sz/\ (∀el∈af,el.length=sz)/\ ∃ (c:Array Value) (pre vs post:List Value),w.heap[G.aZ id]?=some (.cells c ty (0,0))/\
   c.toList=pre++(vs++post)/\pre.length=G.base id/\c.size=G.base id+G.dU id/\bo G af vs/\Leaves vs
 |.map es=>G.aj id=0/\ ∃ms clock,w.heap[G.aZ id]?=some (.map ms clock)/\eN G es ms.toList
 |.loop st a fn env ps as bd=>G.aj id=0/\ ∃L:Loop,w.heap[G.aZ id]?=some (.loop L)/\L.state=st/\x6 a L.pending/\True/\cC G L.tmps.size env L.tmps/\L.params.toList=ps/\
   ps.all (· <L.tmps.size)=true/\ ∃rows,eG P rows L.tmps.size L.assign=some as/\eG P rows L.tmps.size L.body=some bd
 |.bB=>G.aj id=0/\w.heap[G.aZ id]?=some (.deferred (some []))
 |.dead=>True
structure aU(B:Nat)(av:World)(G:Gh)(E:AS)(w:World):Prop where
 len:G.n=E.heap.length
 bt: ∀b o v,G.bt b o=some v->w.cell? ⟨b,o,none⟩=some v
 obj: ∀ (id:Nat) (o:ae),E.heap[id]?=some o->G.pz id=none->ig P G id w o
 inj: ∀i j,G.on i->G.on j->G.aZ i=G.aZ j->i=j
 sep: ∀i,G.on i-> ∀o,G.bt (G.aZ i) o=none
 low: ∀i,G.on i->B<=G.aZ i/\G.aZ i<w.heap.size
 lP:Below B av w
 hB:B<=w.heap.size
 lQ: ∀id o,id<G.n->G.pz id=some o->E.heap[id]?=some o/\ ∃z tg,o= .box z tg/\aG z=0
 dB: ∀b o v,b<B->av.cell? ⟨b,o,none⟩=some v->G.bt b o=some v
def aU.x7{B:Nat}{a:World}{G:Gh}{E:AS}(h:aU P B a G E w){o:Nat}(e:G.bt b o=some v):b<w.heap.size:=by
 have:=h.bt b o v e;simp only[World.cell?]at this
 grind
variable{P}
theorem eN.refs{G:Gh}: ∀ {es:List (AV×AV)} {ms:List MapEntry},eN G es ms-> ∀p∈es,p.2.refs<=G.n
 | [],_,_,_,a=>by grind
 | (k,v)::es,_,r,p,a=>by
   obtain⟨m,q,_,_,_,c,b⟩:=r;rcases ai2.1 a with rfl|a
   ·exact an.refs _ _ c
   ·exact eN.refs b p a
theorem ig.le{G:Gh}{id:Nat}{w:World}: ∀ {o:ae},ig P G id w o->o.le G.n
 |.box _ _,r=>by obtain⟨_,c,ty,_,l,_⟩:=r;exact aD.refs _ _ l
 |.row _ _ _ _,r=>by obtain⟨_,_,_,c,pre,vs,post,_,_,_,_,l,_⟩:=r;exact bo.refs _ _ l
 |.map es,r=>by obtain⟨_,ms,clock,_,l⟩:=r;exact l.refs
 |.loop _ _ _ _ _ _ _,r=>by obtain⟨_,L,_,_,_,_,he,_⟩:=r;exactλt=>he.refs t
 |.bB,_|.dead,_=>trivial
def aU.an7{B:Nat}{a:World}{G:Gh}{E:AS}(h:aU P B a G E w){id:Nat}{o:ae}(e:E.heap[id]?=some o):o.le G.n:=by
 cases c:G.pz id with
 |none=>exact(h.obj id o e c).le
 |some o'=>
  obtain⟨b,z,tg,rfl,d⟩:=h.lQ id o' (by rw[h.len];grind) c;rw[e]at b;cases b;simp only[ae.le,d];omega
theorem ig.df{G d:Gh}(h:G.sub d){id:Nat}(j:G.on id)(g:d.aj id=G.aj id)(i:w'.heap[G.aZ id]?=w.heap[G.aZ id]?): ∀ {o:ae},ig P G id w o->ig P d id w' o:=by
 obtain⟨k,x,v,u⟩:=h.same id j g;intro o r;cases o with
 |box cs tg=>
  obtain⟨b,c,ty,e,l,a⟩:=r;exact⟨by omega,c,ty,by grind,l.df h,a⟩
 |row aj sz ty af=>
  obtain⟨b,e1,hu,c,pre,vs,post,e,m,e3,y,l,a⟩:=r;exact⟨by omega,by omega,hu,c,pre,vs,post,by grind,m,by omega,by omega,l.df h,a⟩
 |map es=>
  obtain⟨b,ms,clock,e,l⟩:=r;exact⟨by omega,ms,clock,by grind,l.df h⟩
 |loop st f fn env ps as bd=>
  obtain⟨b,L,e,t,s,q,p,n⟩:=r;exact⟨by omega,L,by grind,t,s,q,p.df h,n⟩
 |bB=>exact⟨by rw[g];exact r.1,by rw[k,i];exact r.2⟩
 |dead=>trivial
theorem ig.mono{G a:Gh}(h:G.le a){id:Nat}(d:G.on id)(c:a.aj id=G.aj id)(b:w'.heap[G.aZ id]?=w.heap[G.aZ id]?){o:ae}(r:ig P G id w o):ig P a id w' o:=r.df h.toSub d c b
theorem ig.dO{G g:Gh}(h:G.dO m g){id:Nat}(a:id<m)(i:w'.heap[G.aZ id]?=w.heap[G.aZ id]?): ∀ {o:ae},ig P G id w o->o.le m->ig P g id w' o:=by
 have k:=h.aZ id a;have y:=h.base id a;have x:=h.dU id a;have v:=h.sz id a;have j:=h.aj id a;intro o r hm;cases o with
 |box cs tg=>
  obtain⟨d,c,ty,e,l,b⟩:=r;exact⟨by omega,c,ty,by grind,aD.dO h _ _ l hm,b⟩
 |row aj sz ty af=>
  obtain⟨d,e1,hu,c,pre,vs,post,e,n,e3,z,l,b⟩:=r;exact⟨by omega,by omega,hu,c,pre,vs,post,by grind,n,by omega,by omega,bo.dO h _ _ l hm,b⟩
 |map es=>
  obtain⟨d,ms,clock,e,l⟩:=r;exact⟨by omega,ms,clock,by grind,l.dO h hm⟩
 |loop st f fn env ps as bd=>
  obtain⟨d,L,e,u,t,s,q,p⟩:=r;exact⟨by omega,L,by grind,u,t,s,q.dO h hm,p⟩
 |bB=>exact⟨by rw[j];exact r.1,by rw[k,i];exact r.2⟩
 |dead=>trivial
section
def An(lo:oN)(j:Nat):Prop:= ∃l,lo=some l/\l<=j
structure AS.Ext(E E':AS):Prop where
 len:E.heap.length<=E'.heap.length
 lo: ∀j,An E.lo j->An E'.lo j
 obj: ∀ (j:Nat) (o:ae),E.heap[j]?=some o-> ∃o',E'.heap[j]?=some o'/\ ((∀n,o.le n->o'.le (max n (j+1)))\/An E'.lo j)
theorem AS.Ext.refl(E:AS):E.Ext E:=⟨ahd _,λ_ h=>h,λ_ o h=>⟨o,h,.inl λ_ k=>k.mono (by omega)⟩⟩
def AS.Ext.trans{a b c:AS}(h:a.Ext b)(k:b.Ext c):a.Ext c where
 len:=akH h.len k.len
 lo j x:=k.lo j (h.lo j x)
 obj j o e:=by
  obtain⟨i,m,d⟩:=h.obj j o e;obtain⟨g,l,f⟩:=k.obj j i m;refine⟨g,l,?_⟩;rcases f with f|f
  ·rcases d with d|d
   ·grind
   ·exact .inr (k.lo j d)
  grind
theorem AS.Ext.push(E:AS)(o:ae):E.Ext (E.push o)where
 len:=by simp[AS.push]
 lo _ h:=h
 obj j x e:=⟨x,by
  have:j<E.heap.length:=(afA.1 e).1;simp[AS.push,aeT this,e],.inl λ_ k=>k.mono (by omega)⟩
def Ao{lo:oN}{id:Nat}(h:An lo j\/id<=j):An (cA lo id) j:=by
 cases lo with
 |none=>
  rcases h with⟨l,e,_⟩|h
  ·cases e
  ·exact⟨id,rfl,h⟩
 |some a=>
  refine⟨Nat.min a id,by simp[cA,Nat.min_comm],?_⟩;rcases h with⟨l,e,b⟩|h
  ·grind
  grind
theorem AS.Ext.set{E:AS}{id:Nat}{o o':ae}{refs:Nat}(d:E.heap[id]?=some o)(h: ∀n,o.le n->refs<=n->o'.le n):E.Ext (E.set id o' refs)where
 len:=by simp[AS.set]
 lo j x:=by
  simp only[AS.set];split
  ·exact x
  ·exact Ao (.inl x)
 obj j x e:=by
  by_cases b:j=id
  ·subst b;obtain rfl:o=x:=by grind
   have a:j<E.heap.length:=(afA.1 e).1;refine⟨o',by simp[AS.set,a],?_⟩;simp only[AS.set];split
   ·exact .inl λn c=>h _ (c.mono (by omega)) (by omega)
   ·simp_all[Ao,ahd]
  ·exact⟨x,by simp[AS.set,aeR (λh=>b h.symm),e],.inl λ_ k=>k.mono (by omega)⟩
theorem Below.an8{B:Nat}{av:World}(h:Below B av w)(ho:w'.os=w.os)(b:w'.tape=w.tape)(a:w'.output=w.output)(c:w.heap.size<=w'.heap.size)
 (d: ∀k,k<B->w'.heap[k]?=w.heap[k]?):Below B av w':=h.trans ⟨ho,b,a,c,d⟩
variable{P:Program}{B:Nat}{av:World}
def Gh.push(G:Gh)(b:Nat)(dU sz:Nat):Gh:=
 {G with n:=G.n+1,aZ:=λi=>if i=G.n then b else G.aZ i,base:=λi=>if i=G.n then 0 else G.base i,
         aj:=λi=>if i=G.n then 0 else G.aj i,dU:=λi=>if i=G.n then dU else G.dU i,sz:=λi=>if i=G.n then sz else G.sz i,pz:=λi=>if i=G.n then none else G.pz i}
theorem Gh.Ap(G:Gh)(b dU sz:Nat):G.le (G.push b dU sz):=
 .mk' (λ_ _ _ h=>h) (by simp[Gh.push]) (λi a=>by simp[Gh.push,aA9 a]) (λi a=>by simp[Gh.push,aA9 a]) (λi a _=>by simp[Gh.push,aA9 a])
def Gh.Hi{G:Gh}{dU:Nat}(h: (G.push b dU sz).on i):i=G.n\/ (i≠G.n/\G.on i):=by
 obtain⟨c,a⟩:=h;simp only[Gh.push]at c a;by_cases e:i=G.n
 ·omega
 ·rw[afB e]at a;exact .inr ⟨e,by omega,a⟩
theorem cell?_alloc_old{o:Obj}(h:b<w.heap.size): (w.alloc o).cell? ⟨b,k,none⟩=w.cell? ⟨b,k,none⟩:=World.cell?_alloc_lt w o ⟨b,k,none⟩ h
theorem aU.push{G:Gh}{E:AS}(h:aU P B av G E w)(O:Obj)(o:ae)(dU sz:Nat)
  (ho:ig P (G.push w.heap.size dU sz) G.n (w.alloc O) o):aU P B av (G.push w.heap.size dU sz) (E.push o) (w.alloc O)where
 len:=by simp[Gh.push,AS.push,h.len]
 bt b k v e:=by
  have q:G.bt b k=some v:=e;rw[cell?_alloc_old (h.x7 P q)];exact h.bt b k v q
 obj id x e d:=by
  simp only[AS.push,List.getElem?_append]at e;split at e
  ·rename_i m;have c:id<G.n:=by rw[h.len];exact m
   simp only[Gh.push,afB (aA9 c)]at d;exact ig.mono (G.Ap _ _ _) ⟨c,d⟩ (by simp[Gh.push,aA9 c]) (Below.heap_alloc _ _ _ (h.low id ⟨c,d⟩).2) (h.obj id x e d)
  ·rename_i u;have:id=E.heap.length:=by
    cases s:id-E.heap.length with
    |zero=>omega
    |succ k=>rw[s]at e;simp at e
   subst this;simp at e;subst e;rw[<-h.len];exact ho
 inj i j g t e:=by
  rcases Gh.Hi g with a| ⟨f,a⟩<;>rcases Gh.Hi t with l| ⟨p,l⟩
  ·rw[a,l]
  ·simp only[Gh.push,a,aiZ,afB p]at e;have:=(h.low j l).2;omega
  ·simp only[Gh.push,l,aiZ,afB f]at e;have:=(h.low i a).2;omega
  ·simp only[Gh.push,afB f,afB p]at e;exact h.inj i j a l e
 sep i g k:=by
  rcases Gh.Hi g with a| ⟨f,a⟩
  ·simp only[Gh.push,a,aiZ];cases y:G.bt w.heap.size k with
   |none=>rfl
   |some v=>have:=h.x7 P y;omega
  ·simp only[Gh.push,afB f];exact h.sep i a k
 low i g:=by
  rcases Gh.Hi g with a| ⟨f,a⟩
  ·simp only[Gh.push,a,aiZ];exact⟨h.hB,by simp⟩
  ·simp only[Gh.push,afB f];have:=h.low i a;exact⟨this.1,by simp;omega⟩
 lQ id x c d:=by
  simp only[Gh.push]at c d;by_cases a:id=G.n
  ·rw[afJ a]at d;cases d
  ·rw[afB a]at d;obtain⟨n,r⟩:=h.lQ id x (by omega) d;exact⟨by simp only[AS.push];rw[aeT (afA.1 n).1];exact n,r⟩
 lP:=h.lP.alloc h.hB O
 hB:=by have:=h.hB;simp;omega
 dB:=h.dB
theorem Gh.Dg{G:Gh}{E:AS}(h:aU P B av G E w){dU:Nat}: (G.push b dU sz).on E.heap.length:=⟨by simp[Gh.push,h.len],by simp[Gh.push,h.len]⟩
def Gh.freeze(G:Gh)(b:Nat)(vs:List Value):Gh:={G with bt:=λa o=>if a=b then vs[o]? else G.bt a o}
def aU.XI{G:Gh}{E:AS}(h:aU P B av G E w)(c:Array Value)(ty:TypeId)(g:Nat×Nat)(vs:List Value)(n: ∀ (j:Nat) (v:Value),vs[j]?=some v->c[j]?=some v):
  G.le (G.freeze w.heap.size vs)/\aU P B av (G.freeze w.heap.size vs) E (w.alloc (.cells c ty g)):=by
 have hle:G.le (G.freeze w.heap.size vs):=by
  refine .mk' (λb o v e=>?_) (ahd _) (λ_ _=>rfl) (λ_ _=>ahd _) (λ_ _ _=>⟨rfl,rfl,rfl,rfl⟩);have:=h.x7 P e;simp only[Gh.freeze]
  grind
 refine⟨hle,h.len,λb o v e=>?_,λid x e f=>?_,h.inj,λi d k=>?_,λi d=>?_,h.lP.alloc h.hB _,?_,h.lQ,λb o v l e=>hle.bt _ _ _ (h.dB b o v l e)⟩
 ·simp only[Gh.freeze]at e;split at e
  ·have p: (w.alloc (.cells c ty g)).heap[w.heap.size]?=some (.cells c ty g):=arw w _;unfold World.cell?
   grind
  ·rw[cell?_alloc_old (h.x7 P e)];exact h.bt b o v e
 ·have a:id<G.n:=by rw[h.len];exact(afA.1 e).1
  exact ig.mono hle ⟨a,f⟩ rfl (Below.heap_alloc _ _ _ (h.low id ⟨a,f⟩).2) (h.obj id x e f)
 ·have:=(h.low i d).2;simp only[Gh.freeze];rw[afB (by omega)];exact h.sep i d k
 ·obtain⟨m,q⟩:=h.low i d
  exact⟨m,by have e: (G.freeze w.heap.size vs).aZ i=G.aZ i:=rfl
             rw[e];simp;omega⟩
 ·have:=h.hB;simp;omega
theorem aU.set{G p:Gh}{E:AS}(h:aU P B av G E w){id:Nat}(d:G.on id)(o':ae)(refs:Nat)
  (c:G.le p) (q:p.n=G.n) (C:p.bt=G.bt)
  (l: ∀i,i<G.n->i≠id->p.aj i=G.aj i)
  (m:p.aZ id=G.aZ id\/w.heap.size<=p.aZ id) (z:p.aZ id<w'.heap.size)
  (D: ∀k,k≠G.aZ id->k<w.heap.size->w'.heap[k]?=w.heap[k]?) (I:w.heap.size<=w'.heap.size)
  (n:w'.os=w.os) (y:w'.tape=w.tape) (J:w'.output=w.output)
  (ho:ig P p id w' o'):aU P B av p (E.set id o' refs) w' where
 len:=by simp[AS.set,q,h.len]
 bt b k v e:=by
  rw[C]at e;have g:b≠G.aZ id:=λg=>by rw[g,h.sep id d k]at e;cases e
  have:=h.bt b k v e;simp only[World.cell?]at*
  grind
 obj j x e r:=by
  by_cases f:j=id
  ·subst f;have:E.heap.length=G.n:=h.len.symm;simp[AS.set,this,d.1]at e;subst e;exact ho
  ·simp only[AS.set,aeR (λh=>f h.symm)]at e;have t:j<G.n:=by rw[h.len];exact(afA.1 e).1
   rw[c.pz j t]at r;have u:G.on j:=⟨t,r⟩;refine ig.mono c u (l j t f) (D _ (λhe=>f (h.inj j id u d he)) (h.low j u).2) (h.obj j x e r)
 inj i j a f e:=by
  have a:G.on i:=⟨by rw[<-q];exact a.1,by rw[<-c.pz i (by rw[<-q];exact a.1)];exact a.2⟩;have f:G.on j:=⟨by rw[<-q];exact f.1,by rw[<-c.pz j (by rw[<-q];exact f.1)];exact f.2⟩;have key: ∀i,G.on i->i≠id->p.aZ i=G.aZ i:=λi a s=>(c.same i a (l i a.1 s)).1
  by_cases n:i=id<;>by_cases y:j=id
  ·omega
  ·rw[n,key j f y]at e;rcases m with g|g
   ·rw[g]at e;rw[n];exact h.inj id j d f e
   ·have:=(h.low j f).2;omega
  ·rw[y,key i a n]at e;rcases m with g|g
   ·rw[g]at e;rw[y];exact h.inj i id a d e
   ·have:=(h.low i a).2;omega
  ·rw[key i a n,key j f y]at e;exact h.inj i j a f e
 sep i a k:=by
  have a:G.on i:=⟨by rw[<-q];exact a.1,by rw[<-c.pz i (by rw[<-q];exact a.1)];exact a.2⟩;rw[C];by_cases n:i=id
  ·subst n;rcases m with g|g
   ·rw[g];exact h.sep i d k
   ·cases A:G.bt (p.aZ i) k with
    |none=>rfl
    |some v=>have:=h.x7 P A;omega
  ·rw[(c.same i a (l i a.1 n)).1];exact h.sep i a k
 low i a:=by
  have a:G.on i:=⟨by rw[<-q];exact a.1,by rw[<-c.pz i (by rw[<-q];exact a.1)];exact a.2⟩;by_cases n:i=id
  ·subst n;rcases m with g|g
   ·exact⟨by rw[g];exact(h.low i d).1,z⟩
   ·have:=h.hB;exact⟨by omega,z⟩
  ·rw[(c.same i a (l i a.1 n)).1];have:=h.low i a;exact⟨this.1,by omega⟩
 lP:=Below.an8 h.lP n y J I λk K=>D k (by have:=(h.low id d).1;omega) (by have:=h.hB;omega)
 hB:=by have:=h.hB;omega
 lQ j x f r:=by
  rw[q]at f;rw[c.pz j f]at r;obtain⟨H,F⟩:=h.lQ j x f r;have s:id≠j:=λe=>by rw[<-e,d.2]at r;cases r
  exact⟨by simp only[AS.set];rw[aeR s];exact H,F⟩
 dB b o v g e:=by rw[C];exact h.dB b o v g e
theorem aU.drew{G:Gh}{E:AS}(h:aU P B av G E w):aU P B av G E w.drew:=
 ⟨h.len,h.bt,λid x e a=>ig.mono G.le_refl ⟨by rw[h.len];grind,a⟩ rfl rfl (h.obj id x e a),h.inj,h.sep,h.low,h.lP.drew,h.hB,h.lQ,h.dB⟩
theorem aU.lo{G:Gh}{E:AS}(h:aU P B av G E w)(lo:oN):aU P B av G {E with lo:=lo} w:=
 ⟨h.len,h.bt,h.obj,h.inj,h.sep,h.low,h.lP,h.hB,h.lQ,h.dB⟩
end
section
variable{P:Program}
def eA(w:World)(b:Nat)(O:Obj):World:={w with heap:=w.heap.setIfInBounds b O}
def an9(w:World)(b:Nat)(O a:Obj):eA (eA w b O) b a=eA w b a:=by simp[eA]
def uy(h:b<w.heap.size): (eA w b O).heap[b]?=some O:=by simp[eA,h]
def XJ(h:k≠b): (eA w b O).heap[k]?=w.heap[k]?:=by
 simp only[eA]
 grind
def aoa(h:w.heap[b]?=some O):eA w b O=w:=by
 have:w.heap.setIfInBounds b O=w.heap:=by grind
 unfold eA;rw[this]
@[simp]theorem aob (w:World) (b:Nat) (O:Obj): (eA w b O).heap.size=w.heap.size:=by simp[eA]
def aoc{o:Nat}{ty:TypeId}{a:Nat×Nat}(h:w.heap[b]?=some (.cells c ty a))(v:Value):
  w.setCell ⟨b,o,none⟩ v=eA w b (.cells (c.setIfInBounds o v) ty a):=by
 simp only[World.setCell,eA]
 congr 1
 grind
def kZ(c:Array Value)(o:Nat):List Value->Array Value
 | []=>c
 |v::vs=>kZ (c.setIfInBounds o v) (o+1) vs
@[simp]theorem aCO (c:Array Value) (o:Nat) (vs:List Value): (kZ c o vs).size=c.size:=by
  induction vs generalizing c o with
  |nil=>rfl
  |cons v vs ih=>simp[kZ,ih]
def Hj(c:Array Value)(o:Nat)(vs:List Value)(h:o+vs.length<=c.size):
  (kZ c o vs).toList=c.toList.take o++(vs++c.toList.drop (o+vs.length)):=by
 induction vs generalizing c o with
 |nil=>simp[kZ]
 |cons v vs a=>
  rw[kZ,a _ _ (by grind)];have ho:o<c.toList.length:=by grind
  simp only[Array.toList_setIfInBounds,aho];rw[List.take_set,List.drop_set];simp only[show(o<o+1+vs.length) by omega,aiZ,aiV,ag6 ho];have hm:min o c.size=o:=arI (by omega);simp[show o+1+vs.length=o+(vs.length+1) by omega,hm]
theorem je(b o i:Nat): (⟨b,o,none⟩:Addr).add i=⟨b,o+i,none⟩:=by
 unfold Addr.add
 grind
def aod(h:leaf v=true):v.oneCell'=true:=by trivial
def NV{ty:TypeId}(vs:List Value): ∀ (c:Array Value) (w:World) (o i:Nat),w.heap[b]?=some (.cells c ty (0,0))->o+i+vs.length<=c.size->Leaves vs->
  (storeCells ⟨b,o,none⟩ vs i).run P w= .ok () (eA w b (.cells (kZ c (o+i) vs) ty (0,0))):=by
 induction vs with
 |nil=>intro c w o i h _ _;simp[storeCells,kZ,aoa h]
 |cons v vs e=>
  intro c w o i h g d;simp only[aho]at g;have j:w.cell? (Addr.add ⟨b,o,none⟩ i)=some (c[o+i]'(by omega)):=by
   rw[je,cell_of_row w b (o+i) c ty (0,0) h];grind
  have f:w.frozen? (Addr.add ⟨b,o,none⟩ i)=false:=by grind [je,frozen_of_row]
  simp only[storeCells,Sem.run_bind];rw[run_store P w _ v .plain (aod (d v (by simp)))];simp only[j,f];rw[je,aoc h];have a:b<w.heap.size:=(anV.1 h).1;simp only[ahf,amJ,Result.andThen_ok];rw[e (c.setIfInBounds (o+i) v) _ o (i+1) (uy a) (by grind) (λu hu=>d u (by grind)),an9];rfl
def run_loadCellsFrom{o:Nat}(n:Nat): ∀ (i:Nat) (acc:Array Value) (vs:List Value),vs.length=n->(∀j v,vs[j]?=some v->w.cell? ⟨b,o+i+j,none⟩=some v)->
  (loadCellsFrom ⟨b,o,none⟩ i n acc).run P w= .ok (acc++vs.toArray) w:=by
 induction n with
 |zero=>intro i acc vs c _;have:vs=[]:=amK.1 c;subst this;simp[loadCellsFrom]
 |succ n e=>
  intro i acc vs c a;cases vs with
  |nil=>grind
  |cons v vs=>
   have d:=a 0 v (by simp);simp only[loadCellsFrom,Sem.run_bind];rw[je,run_load];simp only[ahu]at d;simp only[d];simp only[Result.andThen_ok];rw[e (i+1) (acc.push v) vs (by grind) (λj u f=>by
    have:=a (j+1) u (by grind)
    grind)]
   simp_all
def run_loadCells{o:Nat}(vs:List Value)(a:vs.length=n)(c: ∀j v,vs[j]?=some v->w.cell? ⟨b,o+j,none⟩=some v):
  (loadCells ⟨b,o,none⟩ n).run P w= .ok vs.toArray w:=by
 unfold loadCells;rw[run_loadCellsFrom n 0 #[] vs a (by omega)];simp
end
section
section
variable{P:Program}
def nW(h:cn P t=some n)(w:World): (sizeOf t).run P w= .ok n w:=by
 unfold cn at h;cases b:P.info? t with
 |none=>grind
 |some i=>
  simp[b]at h;simp only[sizeOf,Sem.run_bind,run_typeInfo _ b,Result.andThen_ok,Sem.run_pure];rw[h]
def r9{b:Bool}(h:mX P t=some b)(w:World): (isAgg t).run P w= .ok b w:=by
 unfold mX at h;cases hu:P.underlying t with
 |none=>grind
 |some d=>
  simp only[hu,ahi,afE]at h;subst h;simp only[isAgg,Sem.run_bind,afM hu,Result.andThen_ok];cases d<;>simp[Sem.run_pure]
end
def G0(B:Nat)(av:World):Gh:={bt:=λb o=>if b<B then av.cell? ⟨b,o,none⟩else none,n:=0,aZ:=id,base:=id,aj:=id,dU:=id,sz:=id}
def fo(X:Ctx)(B:Nat)(av:World):Prop:=
 (∀g cs,X.dg g=some cs->g<B/\ ∃vs,(∀ (j:Nat) v,vs[j]?=some v->av.cell? ⟨g,j,none⟩=some v)/\Leaves vs/\
   aD (G0 B av) cs vs)/\
 (∀g es,X.fb g=some es->g<B/\ ∃b r ms clock,r<B/\av.cell? ⟨g,0,none⟩=some (.map (some r))/\av.heap[r]?=some (.map ms clock)/\eN (G0 B av) b ms.toList/\ ∀k v,dS k es=some v->dS k b=some v)
variable{P:Program}{X:Ctx}{B:Nat}{av:World}
def XK{G:Gh}{E:AS}(h:aU P B av G E w): (G0 B av).dO 0 G:=by
 refine⟨λb o v c=>?_,aha _,?_,?_,?_,?_,?_,?_⟩
 ·simp only[G0]at c;split at c
  ·exact h.dB b o v ‹_› c
  grind
 all_goals simp
def fo.rel(d:fo X B av){G:Gh}{E:AS}(h:aU P B av G E w){g:Nat}{cs:List AV}(e:X.dg g=some cs):
  ∃vs,mY G g 0 vs/\Leaves vs/\aD G cs vs:=by
 obtain⟨f,vs,k,i,b⟩:=d.1 g cs e;refine⟨vs,λj v c=>?_,i,aD.dO (XK h) _ _ b (by have:=aD.refs _ _ b;simpa[G0]using this)⟩;rw[ans];exact h.dB g j v f (k j v c)
def fo.aoe(i:fo X B av){G:Gh}{E:AS}(h:aU P B av G E w){g:Nat}{es:List (AV×AV)}(e:X.fb g=some es)(d:an G (.jb g) v):
  ∃b r ms clock,v= .map (some r)/\w.heap[r]?=some (.map ms clock)/\eN G b ms.toList/\ ∀k v,dS k es=some v->dS k b=some v:=by
 obtain⟨j,b,r,ms,clock,o,n,m,c,l⟩:=i.2 g es e;have:=h.dB g 0 _ j n;rw[d.2]at this;cases this;exact⟨b,r,ms,clock,rfl,by rw[h.lP.block r o];exact m,eN.dO (XK h) c (λp f=>by have:=eN.refs c p f;simpa[G0]using this),l⟩
def Good(P:Program)(B:Nat)(av:World)(G:Gh)(E:AS)(v:AV)(c:AS)(r:Result Next):Prop:=
 ∃b w' v',(r= .ok (.value v') w'\/ (r= .ok .skip w'/\v'=undef))/\G.le b/\aU P B av b c w'/\an b v v'/\E.Ext c
theorem Good.same{G:Gh}{E:AS}(h:aU P B av G E w){v:AV}(b:an G v v'):Good P B av G E v E (.ok (.value v') w):=
 ⟨G,w,v',.inl rfl,G.le_refl,h,b,.refl E⟩
def NW{G:Gh}: ∀ (v:Value),(AV.jX v).plain=true->an G (AV.jX v) v:=by
 intro v h;cases v with
 |pointer a=>cases a<;>simp_all[AV.jX,an,AV.plain]
 |slice a n c=>
  cases a with
  |none=>
   simp only[AV.jX]at*;split at h
   ·rename_i e;simp[e,an]
   ·trivial
  |some a=>trivial
 |map r=>cases r<;>simp_all[AV.jX,an,AV.plain]
 |tuple vs=>
  simp only[AV.jX]at*;split at h
  ·rename_i e;have:vs= #[]:=Array.eq_empty_of_size_eq_zero e;subst this;simp[an,aD]
  ·trivial
 |_=>trivial
theorem XL{G:Gh}: ∀ (vs:List Value),(∀v∈vs,(AV.jX v).plain=true)->aD G (vs.map AV.jX) vs
 | [],_=>by rfl
 |v::vs,h=>⟨v,vs.map id,by simp,NW v (h v (by simp)),by simpa using XL vs λu hu=>h u (by grind)⟩
def aof(h: (AV.jX v).plain=true)(k: (AV.jX v).cb=false):leaf v=true:=by
 cases v with
 |agg cs=>trivial
 |tuple vs=>simp only[AV.jX]at k;split at k<;>simp[AV.cb]at k
 |_=>rfl
def XM{G:Gh}(v:Value)(h:Hf v=true):an G (AV.ofValue v) v:=by
 cases v with
 |agg cs=>
  simp only[Hf,ahp,aiL,aDs]at h;exact⟨cs,rfl,XL _ λv b=>(h v b).1,λv b=>aof (h v b).1 (h v b).2⟩
 |iface t v=>exact⟨v,rfl,NW v h⟩
 |_=>simp only[AV.ofValue];apply NW;exact h
def NX{G:Gh}{e:Env}{b:Array Value}(h:cC G nt e b)(t:Nat):an G (e t) (b.getD t undef):=by
 by_cases c:t<b.size
 ·have:=h.get t b[t] (by simp);simp_all
 ·rw[h.out t (by have:=h.size;omega)];simp[Array.getD,c,an,aD,undef]
def cu{G:Gh}{e:Env}(h:cC G nt e a.tmps){x:Operand}{y:ao}(b:bJ x=some y):an G (y.get e) (a.eval x):=by
 cases x with
 |tmp t=>simp only[bJ,afE]at b;subst b;exact NX h t
 |const v=>
  simp only[bJ]at b;split at b
  ·rename_i c;cases b;exact XM v c
  grind
 |global g=>simp only[bJ,afE]at b;subst b;simp[ao.get,an,Act.eval]
 |func f=>simp only[bJ,afE]at b;subst b;exact⟨.func f,#[],#[],rfl,rfl,by rfl,by rfl⟩
theorem x8{G:Gh}{nt:Nat}{e:Env}{a:Act}(h:cC G nt e a.tmps): ∀ {xs:List Operand} {ys:List ao},nU xs=some ys->aD G (ys.map (·.get e)) (xs.map a.eval)
 | [],_,b=>by simp only[nU,afE]at b;subst b;simp[aD]
 |x::xs,ys,b=>by
  simp only[nU]at b;split at b
  ·rename_i y c f d;cases b;exact⟨_,_,rfl,cu h f,x8 h d⟩
  grind
section ops
variable{G:Gh}{E:AS}{w:World}(hw:aU P B av G E w){nt:Nat}{e:Env}{a:Act}(he:cC G nt e a.tmps)
include hw
omit hw in
theorem XN{b:Bool}{off:Nat}{cs:List AV}{v:AV}(c:aD G cs vs)(d:Leaves vs)(h:part b n cs off=some v):
  (b=true/\off+n<=vs.length/\an G v (.agg ((vs.drop off).take n).toArray))\/ (b=false/\ ∃u,vs[off]?=some u/\an G v u):=by
 unfold part at h;cases b with
 |true=>
  simp only[aiZ]at h;split at h
  ·rename_i hle;cases h;refine .inl ⟨rfl,by rw[c.length];exact hle,⟨_,rfl,by simpa using(c.drop off).take n,by simpa using(d.drop off).take n⟩⟩
  ·cases h
 |false=>
  simp only[ahf,amJ]at h;obtain⟨u,hu,hr⟩:=c.get off v h;exact .inr ⟨rfl,u,hu,hr⟩
omit hw in
theorem Hk{g:Bool}{o:Nat}{v:AV}{cs:List AV}{off:Nat}(f:mX P t=some g)(l:cn P t=some n)
  (k:aD G cs vs) (h:Leaves vs) (i:part g n cs off=some v) (d: ∀j u,vs[j]?=some u->w.cell? ⟨b,o+j,none⟩=some u):
  ∃v',(loadVar t ⟨b,o+off,none⟩).run P w= .ok v' w/\an G v v':=by
 rcases XN k h i with⟨rfl,hle,hr⟩| ⟨rfl,u,hu,hr⟩
 ·refine⟨_,?_,hr⟩;simp only[loadVar,Sem.run_bind,r9 f,Result.andThen_ok,aiZ,nW l];rw[run_loadCells ((vs.drop off).take n) (by simp;omega) (λj u c=>by
   rw[apj]at c;split at c
   ·rw[anR]at c;rw[anW];exact d _ _ c
   ·cases c)]
  simp
 ·refine⟨u,?_,hr⟩;simp only[loadVar,Sem.run_bind,r9 f,Result.andThen_ok,ahf,amJ,run_load];rw[d off u hu]
theorem Aq{id:Nat}{cs:List AV}{tg:Option TypeId}(h:E.heap[id]?=some (.box cs tg))(b:G.pz id=none):G.aj id=0/\G.on id/\ ∃c ty,w.heap[G.aZ id]?=some (.cells c ty (0,0))/\aD G cs c.toList/\Leaves c.toList/\ ∀t,tg=some t->ty=t:=by
 obtain⟨i,c,ty,g,f,d⟩:=hw.obj id _ h b;exact⟨i,⟨by rw[hw.len];grind,b⟩,c,ty,g,f,d⟩
omit hw in
theorem Dh{ty:TypeId}(h:w.heap[b]?=some (.cells c ty (0,0)))(j:Nat)(u:Value)(d:c.toList[j]?=some u):w.cell? ⟨b,j,none⟩=some u:=by
 rw[cell_of_row w b j c ty (0,0) h];simpa using d
theorem XO(hg:fo X B av){W:Bool}(H:mX P t=some W)(F:cn P t=some n){x v:AV}{C:Value}(d:an G x C)(h:cg X E W n x=some v):
  ∃v',(Instr.loadAt t C).run P w= .ok v' w/\an G v v':=by
 have key: ∀ (A:Addr),C= .pointer (some A)->(∃v',(loadVar t A).run P w= .ok v' w/\an G v v')-> ∃v',(Instr.loadAt t C).run P w= .ok v' w/\an G v v':=by
  rintro A rfl ⟨v',K,hr⟩;refine⟨v',?_,hr⟩;exact K
 unfold cg at h;split at h
 ·rename_i id off;simp only[an]at d;obtain⟨r,A,rfl,z⟩:=d;split at h
  ·rename_i cs N;obtain⟨S,_,c,ty,R,f,m,_⟩:=Aq hw N r.2;refine key A rfl ?_;rw[z S];have:=Hk (b:=G.aZ id) (o:=0) H F f m h (λj u hu=>by rw[ans];exact Dh R j u hu);rwa[ans]at this
  ·cases h
 ·rename_i id aj i off;simp only[an]at d;obtain⟨r,_,A,rfl,z⟩:=d;split at h
  ·rename_i T sz ty af N;split at h
   ·rename_i K;obtain⟨S,q,hu,c,pre,vs,post,R,hc,hp,hs,f,m⟩:=hw.obj id _ N r.2;subst K;cases k:af[i]? with
    |none=>simp[k]at h
    |some el=>
     simp only[k,arn]at h;split at h
     ·rename_i D;refine key A rfl ?_;rw[z S];have M:i<af.length:=(afA.1 k).1;have O:af.flatten=(af.take i).flatten++(el++(af.drop (i+1)).flatten):=by
       conv=>lhs;rw[<-aqj i af]
       rw[apu,apL M];have:af[i]=el:=by simpa[ag6 M]using k
       simp[this]
      have L: (af.take i).flatten.length=i*sz:=by
       have: ∀ (l:List (List AV)),(∀x∈l,x.length=sz)->l.flatten.length=l.length*sz:=by
        intro l f
        induction l with
        |nil=>simp
        |cons x xs ih=>simp[ih λy J=>f y (by simp[J]),f x (by simp)];rw[arq];omega
       rw[this _ λx d=>hu x (al8 d),ai1,arI (Nat.le_of_lt M)]
      have V:=bo.iff.1 f;rw[O]at V;obtain⟨v1,v2,rfl,k1,Z⟩:=V.split;obtain⟨U,v4,rfl,Y,k4⟩:=Z.split;have p:v1.length=i*sz:=by rw[k1.length,L]
      have I:Leaves U:=λy J=>m y (by simp[J])
      have:=Hk (b:=G.aZ id) (o:=G.base id+i*G.sz id) H F Y I h (λj u hu=>by
       refine Dh R _ u ?_;rw[hc];have hj:j<U.length:=(afA.1 hu).1;rw[ahr (by omega),afL,ahr (by rw[p,q];omega),afL,aeT (by rw[p,q];omega)];rw[<-hu];congr 1;rw[p,q];omega)
      exact this
     ·cases h
   ·cases h
  ·cases h
 ·rename_i cs off;simp only[an]at d;obtain⟨b,o,vs,rfl,Q,m,f⟩:=d;exact key _ rfl (Hk H F f m h λj u hu=>hw.bt _ _ _ (Q j u hu))
 ·rename_i g;simp only[an]at d;subst d;cases s:X.dg g with
  |none=>simp[s]at h
  |some cs=>
   simp only[s,arn]at h;obtain⟨vs,Q,m,f⟩:=hg.rel hw s;have:=Hk (b:=g) (o:=0) H F f m h λj u hu=>hw.bt _ _ _ (Q j u hu)
   exact key _ rfl (by simpa using this)
 grind
end ops
end
section
variable{P:Program}{X:Ctx}{B:Nat}{av:World}
variable{G:Gh}{E:AS}{w:World}
def aog(t:aU P B av G E w)(y:fo X B av){s:TypeId}{a:Array Field}{f:Nat}{g:Field}(D:P.underlying s=some (.struct a))(C:a[f]?=some g)
  (A:cn P g.type=some n) (F:0<n) {x v:AV} {j:Value} (i:an G x j) (h:rY X g.offset x=some v):
  ∃v',(Instr.fieldAt s j f).run P w= .ok v' w/\an G v v':=by
 have key: ∀d,j= .pointer (some d)->(Instr.fieldAt s j f).run P w= .ok (.pointer (some (d.add g.offset))) w:=by
  rintro d rfl;simp only[Instr.fieldAt,Sem.run_bind,afM D,Result.andThen_ok,C,Instr.sureAddr,Sem.run_pure,fieldPlace,nW A,Sem.run_ite];rw[afB (by omega)];simp
 unfold rY at h;split at h
 ·obtain⟨p,d,e,c⟩:=i;cases h;refine⟨_,key d e,p,_,rfl,λk=>?_⟩;rw[c k,je]
 ·obtain⟨p,m,d,e,c⟩:=i;cases h;refine⟨_,key d e,p,m,_,rfl,λk=>?_⟩;rw[c k,je];grind
 ·obtain⟨b,o,vs,e,r⟩:=i;cases h;refine⟨_,key _ e,b,o,vs,?_,r⟩;rw[je,anW]
 ·simp only[an]at i;split at h
  ·rename_i cs l;cases h;obtain⟨vs,z,q,u⟩:=y.rel t l;refine⟨_,key _ i,_,0,vs,?_,z,q,u⟩;rw[je]
  ·cases h
 grind
def Hl{x:AV}{a:Value}{i:Int}(b:an G x a)(h:rU x=some i): ∃k,x= .int k i/\a= .int k i:=by
 cases x<;>simp[rU]at h;simp only[an]at b
 grind
def aoh(y:aU P B av G E w)(C:fo X B av){a:TypeId}(I:P.underlying t=some (.array n a))(H:cn P a=some sz)
  {x s v:AV} {j g:Value} (d:an G x j) (A:an G s g) (h:uu X n sz x s=some v):
  ∃v',(Instr.indexAt t j g).run P w= .ok v' w/\an G v v':=by
 unfold uu at h;split at h
 ·rename_i i hint;obtain⟨k,_,rfl⟩:=Hl A hint;split at h
  ·rename_i F;have key: ∀f,j= .pointer (some f)->(Instr.indexAt t j (.int k i)).run P w= .ok (.pointer (some (f.add (i.toNat*sz)))) w:=by
    rintro f rfl;simp only[Instr.indexAt,Sem.run_bind,asIntOf,Sem.run_pure,Result.andThen_ok,afM I,Instr.sureAddr];by_cases J:n<=1<;>simp[F,nW H]
   split at h
   ·obtain⟨q,f,e,c⟩:=d;cases h;refine⟨_,key f e,q,_,rfl,λl=>?_⟩;rw[c l,je]
   ·simp only[an]at d;obtain⟨q,p,f,e,c⟩:=d;cases h;refine⟨_,key f e,q,p,_,rfl,λl=>?_⟩;rw[c l,je];congr 1;omega
   ·simp only[an]at d;obtain⟨b,o,vs,e,r⟩:=d;cases h;refine⟨_,key _ e,b,o,vs,?_,r⟩;rw[je,anW]
   ·simp only[an]at d;split at h
    ·rename_i cs m;cases h;obtain⟨vs,D,u,z⟩:=C.rel y m;refine⟨_,key _ d,_,0,vs,?_,D,u,z⟩;rw[je]
    ·cases h
   grind
  grind
 grind
theorem aoi{af:List (List AV)}(h: ∀el∈af,el.length=sz):af.flatten.length=af.length*sz:=by
 induction af with
 |nil=>simp
 |cons x xs a=>grind
def bo.at{af:List (List AV)}{el:List AV}(k:bo G af vs)(n: ∀x∈af,x.length=sz)(l:af[i]?=some el):
  aD G el ((vs.drop (i*sz)).take sz):=by
 have b:af.flatten=(af.take i).flatten++(el++(af.drop (i+1)).flatten):=by grind [List.take_append_drop,List.flatten_append,List.drop_eq_getElem_cons]
 have a: (af.take i).flatten.length=i*sz:=by grind [aoi,List.mem_of_mem_take,List.length_take,Nat.min_eq_left,Nat.le_of_lt]
 have c:=bo.iff.1 k;rw[b]at c;obtain⟨v1,v2,rfl,g,f⟩:=c.split;obtain⟨d,v4,rfl,e,m⟩:=f.split;have j:v1.length=i*sz:=by rw[g.length,a]
 have h:d.length=sz:=by rw[e.length];grind
 grind
def aoj{d:TypeId}(O:P.underlying t=some (.slice d))(N:cn P d=some sz)
  {x H v:AV} {s m:Value} (g:an G x s) (I:an G H m) (h:jY sz x H=some v):
  ∃v',(Instr.indexAt t s m).run P w= .ok v' w/\an G v v':=by
 unfold jY at h;split at h
 ·rename_i i hint;obtain⟨k,_,rfl⟩:=Hl I hint;have key: ∀ (r:Addr) (len cap:Nat),s= .slice (some r) len cap->0<=i/\i<len->(Instr.indexAt t s (.int k i)).run P w= .ok (.pointer (some (r.add (i.toNat*sz)))) w:=by
   rintro r len cap rfl l;simp only[Instr.indexAt,Sem.run_bind,asIntOf,Sem.run_pure,Result.andThen_ok,afM O];by_cases Q:len<=1<;>simp[l,nW N]
  split at h
  ·rename_i af cx;split at h
   ·rename_i p;split at h
    ·rename_i el f;split at h
     ·rename_i c;cases h;simp only[an]at g;obtain⟨b,o,cap,a,vs,e,J,F,q,M,K,L⟩:=g;have I:i.toNat<af.length:=(afA.1 f).1;have z:a=sz:=by rw[<-c];exact(q el (anr f)).symm
      subst z;refine⟨_,key _ _ _ e ⟨p,by omega⟩,b,o+i.toNat*a,(vs.drop (i.toNat*a)).take a,?_,?_,(K.drop _).take _,L.at q f⟩
      ·rw[je];rfl
      ·intro j u n;rw[apj]at n;split at n
       ·rw[anR]at n;rw[anW];exact M _ _ n
       ·cases n
     ·cases h
    ·cases h
   grind
  ·rename_i id aj a off len cx;split at h
   ·rename_i l;obtain⟨C,A,rfl⟩:=l;cases h;simp only[an]at g;obtain⟨p,D,r,cap,e,J,F,q⟩:=g;refine⟨_,key _ _ _ e ⟨C,A⟩,p,D,_,rfl,λy=>?_⟩;rw[(q y).2.1 (by omega),je,(q y).1,arp];congr 1;omega
   ·cases h
  ·rename_i id a off len;split at h
   ·rename_i l;cases h;simp only[an]at g;obtain⟨p,r,cap,e,J,F⟩:=g;refine⟨_,key _ _ _ e ⟨l.1,l.2.1⟩,p,_,rfl,λy=>?_⟩;rw[F y (by omega),je]
   ·cases h
  grind
 grind
end
section
variable{P:Program}{X:Ctx}{B:Nat}{av:World}
variable{G:Gh}{E:AS}{w:World}
def XP{d:Bool}{off:Nat}{cs:List AV}{v:AV}(b:mX P t=some d)(h:cn P t=some n)
  (g:aD G cs c.toList) (e:Leaves c.toList) (f:Den.part d n cs off=some v) (w:World): ∃v',(Go.part t c off).run P w= .ok v' w/\an G v v':=by
 rcases XN g e f with⟨rfl,hle,hr⟩| ⟨rfl,u,hu,hr⟩
 ·refine⟨_,?_,hr⟩;simp only[Go.part,Sem.run_bind,r9 b,Result.andThen_ok,aiZ,nW h,Sem.run_pure]
  congr 2
  grind
 ·refine⟨u,?_,hr⟩;have a:c[off]?=some u:=by grind
  simp only[Go.part,Sem.run_bind,r9 b,Result.andThen_ok,ahf,amJ,a,Sem.run_pure]
def aok{s:TypeId}{a:Array Field}{f:Nat}{g:Field}{d:Bool}(p:P.underlying s=some (.struct a))(o:a[f]?=some g)
  (m:mX P g.type=some d) (l:cn P g.type=some n) {cs:List AV} {v:AV} {b:Value} (i:an G (.agg cs) b) (h:Den.part d n cs g.offset=some v) (w:World):
  ∃v',(Instr.field s b f).run P w= .ok v' w/\an G v v':=by
 obtain⟨c,rfl,k,e⟩:=i;obtain⟨v',j,hr⟩:=XP m l k e h w;refine⟨v',?_,hr⟩;simp only[Instr.field,Sem.run_bind,afM p,Result.andThen_ok,o,asAgg,Sem.run_pure];exact j
def aol{a:TypeId}{g:Bool}(s:P.underlying t=some (.array n a))(r:mX P a=some g)(f:cn P a=some sz)
  {x e v:AV} {b:Value} (l:an G x d) (p:an G e b) (h:qz g n sz x e=some v) (w:World):
  ∃v',(Instr.index t d b).run P w= .ok v' w/\an G v v':=by
 unfold qz at h;split at h
 ·rename_i i cs hint;obtain⟨k,_,rfl⟩:=Hl p hint;split at h
  ·rename_i q;obtain⟨c,rfl,o,j⟩:=l;obtain⟨v',m,hr⟩:=XP r f o j h w;refine⟨v',?_,hr⟩;simp only[Instr.index,Sem.run_bind,asIntOf,Sem.run_pure,Result.andThen_ok,afM s];rw[afJ q];simp only[Sem.run_bind,nW f,Result.andThen_ok];exact m
  grind
 grind
def aom(n:P.underlying t=some .string){x j v:AV}{g a:Value}(l:an G x g)(m:an G j a)(h:xZ x j=some v)(w:World):
  ∃v',(Instr.index t g a).run P w= .ok v' w/\an G v v':=by
 unfold xZ at h;split at h
 ·rename_i i s hint;obtain⟨k,_,rfl⟩:=Hl m hint;subst l;split at h
  ·rename_i o;split at h
   ·rename_i b p;cases h;refine⟨.int .u8 b.toNat,?_,by rfl⟩;have f:s[i.toNat]?=some b:=by
     have:s.data[i.toNat]?=some b:=by grind
     obtain⟨d,e⟩:=anV.1 this;have c:i.toNat<s.size:=d;rw[getElem?_pos s i.toNat c];exact akG some e
    simp only[Instr.index,Sem.run_bind,asIntOf,Sem.run_pure,Result.andThen_ok,afM n,afJ o,f]
   grind
  grind
 grind
def aon{x:AV}{a:Value}{vs:List AV}{v:AV}(b:an G (.au vs) a)(h:vs[i]?=some v)(w:World):
  ∃v',(Instr.extract a i).run P w= .ok v' w/\an G v v':=by
 obtain⟨c,rfl,d⟩:=b;obtain⟨v',e,hr⟩:=d.get i v h;refine⟨v',?_,hr⟩;have:c[i]?=some v':=by grind
 simp[Instr.extract,this]
def Ar{d r:Nat}{o:Option AV}(h:lK n o d=some r):
  (o=none/\r=d)\/ ∃k i,o=some (.int k i)/\0<=i/\i<=n/\r=i.toNat:=by
 unfold lK at h
 grind
def uz{k:IntKind}{i:Int}{y:Nat}(h:0<=i/\i<=y)(a:BoundsCode)(w:World): (Instr.sliceBound (.int k i) y a).run P w= .ok i.toNat w:=by
 simp[Instr.sliceBound,asIntOf,h]
def lR(G:Gh):Option AV->Option Value->Prop
 |none,o=>o=none
 |some x,o=> ∃v,o=some v/\an G x v
def Hm{Di:Bool}{len cap:Nat}(t:len<=cap){lo n:Option AV}{d:Option Value}(a:lR G lo ak)(e:lR G n d){h:Nat}(f:fW len lo n=some (l,h))(w:World):
  (Instr.sliceBounds Di len cap ak d none).run P w= .ok (l,h,cap) w/\l<=h/\h<=len:=by
 unfold fW at f;split at f
 ·rename_i u p;split at f
  ·rename_i s m;cases f;rcases Ar p with⟨rfl,rfl⟩| ⟨k,i,rfl,g,o,rfl⟩
   ·subst e;rcases Ar m with⟨rfl,rfl⟩| ⟨k,i,rfl,g,o,rfl⟩
    ·subst a;exact⟨by rfl,by omega,by omega⟩
    ·obtain⟨v,rfl,c⟩:=a;subst c;exact⟨by simp[Instr.sliceBounds,uz ⟨g,o⟩],by omega,by omega⟩
   ·obtain⟨v,rfl,c⟩:=e;simp only[an]at c;subst c;have b: (0:Int)<=i/\i<=cap:=⟨g,by omega⟩;rcases Ar m with⟨rfl,rfl⟩| ⟨k,j,rfl,r,q,rfl⟩
    ·simp only[lR]at a;subst a;exact⟨by simp[Instr.sliceBounds,uz b],by omega,by omega⟩
    ·obtain⟨v,rfl,c⟩:=a;simp only[an]at c;subst c;exact⟨by simp[Instr.sliceBounds,uz b,uz ⟨r,q⟩],by omega,by omega⟩
  grind
 grind
def aoo(i:P.underlying t=some .string){x v:AV}{lo e:Option AV}{a:Option Value}(f:an G x d)(b:lR G lo ak)(c:lR G e a)
  (h:ur x lo e=some v) (w:World): ∃v',(Instr.sliceAt t d ak a none).run P w= .ok v' w/\an G v v':=by
 unfold ur at h;split at h
 ·rename_i s;split at h
  ·rename_i l j g;cases h;subst f;obtain⟨hr,_,_⟩:=Hm (P:=P) (Di:=false) (ahd _) b c g w;refine⟨.string (s.extract l j),?_,by rfl⟩;simp[Instr.sliceAt,Instr.slice,afM i,hr]
  grind
 grind
def aop{len h:Nat}{cx c:Bool}{a:Option AV}(b:lL len h cx a=some c):
  (a=none/\c=(cx&&h==len))\/ ∃k i,a=some (.int k i)/\ (h:Int)<=i/\i<=len/\c=(i==h):=by
 unfold lL at b
 grind
def aoq{len cap:Nat}{cx:Bool}(r:len<=cap)(p:cx=true->cap=len){lo t u:Option AV}{n f:Option Value}(a:lR G lo ak)(o:lR G t n)(g:lR G u f)
  (d:u=none\/t≠none) {h:Nat} {c:Bool} (s:fW len lo t=some (l,h)) (D:lL len h cx u=some c) (w:World):
  ∃m,(Instr.sliceBounds true len cap ak n f).run P w= .ok (l,h,m) w/\l<=h/\h<=len/\h<=m/\m<=cap/\ (c=true->m=h):=by
 rcases aop D with⟨rfl,rfl⟩| ⟨k,i,rfl,J,I,rfl⟩
 ·subst g;obtain⟨hr,M,L⟩:=Hm (P:=P) (Di:=true) r a o s w
  grind
 ·obtain⟨v,rfl,b⟩:=g;simp only[an]at b;subst b;have d:t≠none:=d.resolve_left (by simp);have hm: (0:Int)<=i/\i<=cap:=⟨by omega,by omega⟩;unfold fW at s;split at s
  ·rename_i K C;split at s
   ·rename_i H z;cases s;rcases Ar C with⟨rfl,rfl⟩| ⟨k',j,rfl,F,g1,rfl⟩
    ·grind
    ·obtain⟨v,rfl,b⟩:=o;simp only[an]at b;subst b;have A: (0:Int)<=j/\j<=i.toNat:=⟨F,by omega⟩;refine⟨i.toNat,?_,?_,by omega,by omega,by omega,λe=>by simp only[au5]at e;omega⟩
     ·rcases Ar z with⟨rfl,rfl⟩| ⟨k',q,rfl,y,x,rfl⟩
      ·simp only[lR]at a;subst a;simp[Instr.sliceBounds,uz hm,uz A]
      ·obtain⟨v,rfl,b⟩:=a;simp only[an]at b;subst b;simp[Instr.sliceBounds,uz hm,uz A,uz ⟨y,x⟩]
     ·rcases Ar z with⟨rfl,rfl⟩| ⟨k',q,rfl,y,x,rfl⟩<;>omega
   grind
  grind
theorem NY{sz:Nat}: ∀ {l:Nat} {af:List (List AV)},(∀el∈af,el.length=sz)->(af.drop l).flatten=af.flatten.drop (l*sz)
 |0,_,_=>by simp
 |l+1,[],_=>by simp
 |l+1,x::xs,hu=>by
  have a:=NY (l:=l) (af:=xs) λel h=>hu el (by grind)
  simp only[ao0,arh,a];have e: (l+1)*sz=x.length+l*sz:=by grind
  rw[e,awD];simp_all
theorem Hn{sz:Nat}: ∀ {n:Nat} {af:List (List AV)},(∀el∈af,el.length=sz)->(af.take n).flatten=af.flatten.take (n*sz)
 |0,_,_=>by simp
 |n+1,[],_=>by simp
 |n+1,x::xs,hu=>by
  have a:=Hn (n:=n) (af:=xs) λel h=>hu el (by grind)
  have e: (n+1)*sz=x.length+n*sz:=by grind
  grind
def XQ{af:List (List AV)}(a: ∀el∈af,el.length=sz): ((af.drop l).take n).flatten=(af.flatten.drop (l*sz)).take (n*sz):=by grind [Hn,List.mem_of_mem_drop,NY]
def bo.slice{af:List (List AV)}(b:bo G af vs)(a: ∀x∈af,x.length=sz):bo G ((af.drop l).take n) ((vs.drop (l*sz)).take (n*sz)):=by
 rw[bo.iff,XQ a];exact((bo.iff.1 b).drop _).take _
def mY.slice{o:Nat}(c:mY G b o vs)(l n:Nat):mY G b (o+l) ((vs.drop l).take n):=by
 intro j u a;rw[apj]at a;split at a
 ·rw[anR]at a;rw[anW];exact c _ _ a
 grind
def aor{a:Addr}(h:a.spot=none)(k:Nat): (a.add k).spot=none:=by
 unfold Addr.add
 grind
def NZ(a:Addr)(b o k:Nat)(h:a=⟨b,o,none⟩):a.add k=⟨b,o+k,none⟩:=by rw[h,je]
def aos{y:TypeId}(h1:P.underlying t=some (.slice y))(h2:cn P y=some n){x v:AV}{N:Value}{lo Q O:Option AV}{C z:Option Value}
  (s:an G x N) (I:lR G lo ak) (K:lR G Q C) (S:lR G O z) (J:O=none\/Q≠none)
  (h:fX n x lo Q O=some v) (w:World): ∃v',(Instr.sliceAt t N ak C z).run P w= .ok v' w/\an G v v':=by
 have key: ∀ {a:Option Addr} {len cap:Nat} {cx:Bool} {l h:Nat} {c:Bool},N= .slice a len cap->len<=cap->(cx=true->cap=len)->fW len lo Q=some (l,h)->lL len h cx O=some c->
   ∃m,(Instr.sliceAt t N ak C z).run P w= .ok (.slice (if m=l then a else a.map (·.add (l*n))) (h-l) (m-l)) w/\l<=h/\h<=len/\h<=m/\m<=cap/\ (c=true->m=h):=by
  intro a len cap cx l h c e hle f g F;obtain⟨m,hr,r⟩:=aoq (P:=P) hle f I K S J g F w;refine⟨m,?_,r⟩;subst e;simp[Instr.sliceAt,Instr.slice,afM h1,hr,nW h2]
 unfold fX at h;split at h
 ·simp only[an]at s;split at h
  ·rename_i p q g F;cases h;obtain⟨l,k⟩:=p;obtain⟨-,k1,k2⟩:=Hm (P:=P) (Di:=false) (ahd 0) I K g w;have T:k=0:=by omega
   subst T;obtain⟨m,hr,Z,Y,W,V,L⟩:=key (cx:=true) s (ahd _) (λ_=>rfl) g F;refine⟨_,hr,?_⟩;have e1:l=0:=by omega
   have e3:m=0:=by omega
   subst e1 e3;simp[an]
  ·cases h
 ·rename_i af cx;split at h
  ·rename_i l k g;split at h
   ·rename_i c F;split at h
    ·rename_i hu;cases h;have hu: ∀el∈af,el.length=n:=λel D=>by simpa using ahp.1 hu el D
     simp only[an]at s;obtain⟨b,o,cap,sz,vs,e,d1,d2,d3,hf,lf,hl⟩:=s;obtain⟨m,hr,Z,Y,W,V,L⟩:=key e d1 d2 g F;refine⟨_,hr,?_⟩;have d: ((af.drop l).take (k-l)).length=k-l:=by simp;omega
     by_cases hm:m=l
     ·have:k=l:=by omega
      subst this;rw[afJ hm];refine⟨b,o,m-k,n,[],by simp,by simp,λi=>by simp;omega,by simp,λj u hj=>by simp at hj,λu hu=>by simp at hu,by simp[bo]⟩
     ·rw[afB hm];refine⟨b,o+l*n,m-l,n,(vs.drop (l*n)).take ((k-l)*n),?_,?_,λi=>?_,λel D=>hu el (arc (al8 D)),hf.slice _ _,(lf.drop _).take _,hl.slice hu⟩
      ·simp[d,je]
      ·rw[d];omega
      ·rw[d];have:=L i;omega
    ·cases h
   ·cases h
  ·cases h
 ·rename_i id aj sz off len cx;split at h
  ·rename_i l k g;split at h
   ·rename_i c F;split at h
    ·rename_i A;subst A;cases h;simp only[an]at s;obtain⟨U,e1,M,cap,e,d1,d2,d3⟩:=s;obtain⟨m,hr,Z,Y,W,V,L⟩:=key e d1.1 d2 g F;refine⟨_,hr,U,e1,if m=l then M else M.add (l*sz),m-l,by split<;>simp_all,⟨by omega,by split<;>first|exact d1.2|exact aor d1.2 _⟩,λi=>by have:=L i;omega,λR=>?_⟩;obtain⟨f1,f2,f3⟩:=d3 R;refine⟨f1,λH=>?_,?_⟩
     ·rw[afB (by omega),NZ _ _ _ _ (f2 (by omega)),arp,anW]
     ·have: (off+l)*sz+(m-l)*sz<=off*sz+cap*sz:=by
        rw[<-arp,<-arp];exact anU _ (by omega)
      omega
    ·cases h
   ·cases h
  ·cases h
 ·rename_i id sz off len;split at h
  ·rename_i l k g;split at h
   ·rename_i A;subst A;cases h;simp only[an]at s;obtain⟨U,M,cap,e,d1,d2⟩:=s;obtain⟨m,hr,Z,Y,W,V,L⟩:=key (cx:=false) (c:=false) e d1 (λhh=>by cases hh) g (by simp[lL]);refine⟨_,hr,U,if m=l then M else M.add (l*sz),m-l,by split<;>simp_all,by omega,λR H=>?_⟩;rw[afB (by omega),NZ _ _ _ _ (d2 R (by omega))]
   ·cases h
  ·cases h
 ·cases h
theorem chunks_flatten{sz:Nat}: ∀ {k:Nat} {cs:List AV},k*sz<=cs.length->(chunks sz k cs).flatten=cs.take (k*sz)
 |0,_,_=>by simp[chunks]
 |k+1,cs,h=>by
  have e: (k+1)*sz=sz+k*sz:=by grind
  simp only[chunks,arh];rw[chunks_flatten (k:=k) (cs:=cs.drop sz) (by grind),e,List.take_add]
theorem Dj{sz:Nat}: ∀ {k:Nat} {cs:List AV},k*sz<=cs.length-> ∀el∈chunks sz k cs,el.length=sz
 |0,_,_=>by simp[chunks]
 |k+1,cs,h=>by
  intro el a;simp only[chunks,ai2]at a;rcases a with rfl|a
  ·grind
  ·exact Dj (k:=k) (cs:=cs.drop sz) (by grind) el a
@[simp]theorem N0 {sz:Nat}: ∀ {k:Nat} {cs:List AV},(chunks sz k cs).length=k
  |0,_=>rfl
  |k+1,_=>by simp[chunks,N0]
def aot(I:aU P B av G E w)(M:fo X B av){f:TypeId}(Q:P.underlying t=some (.array n f))(O:cn P f=some sz){x v:AV}{k:Value}{lo H:Option AV}{a:Option Value}
  (m:an G x k) (y:lR G lo ak) (z:lR G H a) (h:qx X n sz x lo H=some v): ∃v',(Instr.sliceAt t k ak a none).run P w= .ok v' w/\an G v v':=by
 unfold qx at h;split at h
 ·rename_i l i N;obtain⟨hr,T,S⟩:=Hm (P:=P) (Di:=false) (ahd n) y z N w;have key: ∀p,k= .pointer (some p)->(Instr.sliceAt t k ak a none).run P w= .ok (.slice (some (if n=l then p else p.add (l*sz))) (i-l) (n-l)) w:=by
   rintro p rfl;simp[Instr.sliceAt,afM Q,Instr.sureAddr,hr,nW O]
  have frozen: ∀ (b o:Nat) (cs:List AV) (vs:List Value) (off:Nat),k= .pointer (some ⟨b,o+off,none⟩)->mY G b o vs->Leaves vs->aD G cs vs->off+n*sz<=cs.length->
    ∃v',(Instr.sliceAt t k ak a none).run P w= .ok v' w/\an G (.sl (chunks sz (i-l) (cs.drop (off+l*sz))) false) v':=by
   intro b o cs vs off e s q r hle;refine⟨_,key _ e,?_⟩;have K:l*sz+(i-l)*sz<=n*sz:=by rw[<-arp];exact anU _ (by omega)
   have d: (i-l)*sz<=(cs.drop (off+l*sz)).length:=by simp;omega
   by_cases F:n=l
   ·rw[afJ F];have:i=l:=by omega
    subst this;refine⟨b,o+off,n-i,sz,[],by simp,by simp,(λC=>by cases C),by simp[chunks],(λj u L=>by simp at L),(λu hu=>by simp at hu),by simp[chunks,bo]⟩
   ·rw[afB F];refine⟨b,o+(off+l*sz),n-l,sz,(vs.drop (off+l*sz)).take ((i-l)*sz),?_,(by rw[N0];omega),(λC=>by cases C),Dj d,s.slice _ _,(q.drop _).take _,?_⟩
    ·simp[je,anW]
    ·rw[bo.iff,chunks_flatten d];exact(r.drop _).take _
  split at h
  ·rename_i id off;cases h;simp only[an]at m;obtain⟨R,p,e,c⟩:=m;refine⟨_,key p e,R,_,n-l,rfl,by omega,λJ D=>?_⟩;rw[afB (by omega),NZ _ _ _ _ (c J)]
  ·rename_i cs off;split at h
   ·rename_i hle;cases h;simp only[an]at m;obtain⟨b,o,vs,e,s,q,r⟩:=m;exact frozen b o cs vs off e s q r hle
   ·cases h
  ·rename_i g;split at h
   ·rename_i cs A;split at h
    ·rename_i hle;cases h;simp only[an]at m;obtain⟨vs,s,q,r⟩:=M.rel I A;have:=frozen g 0 cs vs 0 (by simpa using m) s q r (by omega);simpa using this
    ·cases h
   ·cases h
  grind
 grind
end
section
variable{P:Program}{X:Ctx}{B:Nat}{av:World}
variable{G:Gh}{E:AS}{w:World}
def N2{z:AV}(h:x4 P t=some z)(G:Gh)(w:World): ∃b,(zeroValue t).run P w= .ok b w/\zeroV P t=some b/\an G z b:=by
 unfold x4 at h;split at h
 ·rename_i v a;split at h
  ·rename_i d;cases h;refine⟨v,?_,a,XM v d⟩;unfold zeroV at a;cases c:P.info? t with
   |none=>grind
   |some i=>
    simp only[c,arn]at a;simp only[zeroValue,Sem.run_bind,run_typeInfo _ c,Result.andThen_ok,a,Sem.run_pure]
  grind
 grind
def sa{z:List AV}(h:gB P t=some z)(G:Gh)(w:World):
  ∃a,(zeroValue t).run P w= .ok a w/\zeroV P t=some a/\aD G z a.cells.toList/\Leaves a.cells.toList/\cn P t=some z.length:=by
 unfold gB at h;split at h
 ·rename_i y n c f;split at h
  ·rename_i b;obtain⟨a,e,g,r⟩:=N2 c G w;obtain⟨l,d⟩:=r.cells b.1
   grind
  grind
 grind
theorem aou:IntKind.i64.max=9223372036854775807:=by rfl
theorem k0{s:Sem Value}{k:IntKind}{n:Int}{w:World}(h:s.run P w= .ok (.int k n) w): ∃v',s.run P w= .ok v' w/\an G (.int k n) v':=⟨_,h,by rfl⟩
theorem Dk{s:Sem Value}{b:Bool}{w:World}(h:s.run P w= .ok (.bool b) w): ∃v',s.run P w= .ok v' w/\an G (.bool b) v':=⟨_,h,by rfl⟩
theorem aCP{s:Sem Value}{b:ByteArray}{w:World}(h:s.run P w= .ok (.string b) w): ∃v',s.run P w= .ok v' w/\an G (.str b) v':=⟨_,h,by rfl⟩
def XR{c:BinOp}{x y v:AV}{j i:Value}(e:an G x j)(d:an G y i)(h:dh c x y=some v)(ho:c≠ .eql)(f:c≠ .neq)(w:World):
  ∃v',(binOp c t j i).run P w= .ok v' w/\an G v v':=by
 unfold dh at h;split at h
 ·rename_i k a k' b;split at h
  ·rename_i l;subst l;simp only[an]at e d;subst e d;cases c<;>simp[mi,v7]at h<;>(simp_all)<;>(try rfl)
   all_goals
    first
     | (subst h;exact k0 (by simp[binOp,Op.intArith,Op.intBits]))
     | (subst h;exact Dk (by simp[binOp,Op.intCmp]))
     | (obtain⟨g,rfl⟩:=h;exact k0 (by simp[binOp,Op.intDiv,g]))
  grind
 ·rename_i a b;simp only[an]at e d;subst e d;cases c<;>simp[XE]at h<;>(try exact absurd rfl ho)<;>(try exact absurd rfl f)
  all_goals
   first
    | (subst h;exact Dk (by simp[binOp,Op.stringOp]))
    | (obtain⟨g,rfl⟩:=h
       refine⟨.string (a++b),?_,by simp[an]⟩;simp only[binOp,Op.stringOp,Sem.run_ite];rw[afB (by rw[aou];simp only[XD]at g;omega)];simp)
 grind
def aov{c:BinOp}{k k':IntKind}{a b:Int}{v:AV}(h:v8 c k a b=some v)(w:World):
  ∃v',(binOp c t (.int k a) (.int k' b)).run P w= .ok v' w/\an G v v':=by
 unfold v8 at h;split at h
 ·cases h
 ·rename_i d;split at h
  ·cases h;exact k0 (by simp[binOp,Op.shift,d])
  ·cases h;exact k0 (by simp[binOp,Op.shift,d])
  grind
def aow{c:UnOp}{x v:AV}{b:Value}(a:an G x b)(h:xY c x=some v)(w:World): ∃v',(Op.unary c b).run P w= .ok v' w/\an G v v':=by
 unfold xY at h;split at h
 ·cases h;subst a;exact k0 (by rfl)
 ·simp only[v7,afE]at h;subst h;subst a;exact k0 (by rfl)
 ·cases h;subst a;exact Dk (by rfl)
 grind
def aox{s d:TypeId}{k q:IntKind}{n:Int}(b: (P.underlying s).isSome=true)(a:P.underlying d=some (.int k))(w:World):
  (convert s d (.int q n)).run P w= .ok (.int k (k.wrap n)) w:=by
 cases hu:P.underlying s with
 |none=>grind
 |some u=>simp[convert,afM hu,afM a,Conv.intToInt]
def XS{b:AV}{c:Value}(h:b.Ag=true)(r:an G b c): ∃a,c= .pointer (some a):=by
 cases b<;>simp[AV.Ag]at h<;>simp only[an]at r
 ·grind
 ·grind
 ·grind
 grind
def XT{b:AV}(h:b.Ah=true)(r:an G b d): ∃a n c,d= .slice (some a) n c:=by
 cases b<;>simp[AV.Ah]at h<;>simp only[an]at r
 ·grind
 ·grind
 grind
def kindOk:EK->TypeDesc->Prop
 |.bool,d=>d= .bool
 |.int,d=> ∃k,d= .int k
 |.str,d=>d= .string
 |.ptr,d=> ∃e,d= .pointer e
 |.sl,d=> ∃e,d= .slice e
 |.map,d=> ∃k e,d= .map k e
 |.cap,_=>False
 |.fn,d=> ∃a b c,d= .func a b c
 |.c9,d=> ∃ms,d= .interface ms
 |.Af _,d=> ∃ms,d= .interface ms
 |.agg _,_=>False
def XU(P:Program)(t:TypeId):Prop:= ∃i q,P.info? t=some i/\i.comparable=true/\P.underlying t=some (.int q)
def XV{a ty:TypeId}{e:Array (String×TypeId)}(f:P.underlying t=some (.interface e))(d:Nat)(c b:Value)(w:World)
  (h:a≠ty->r=false) (m:a=ty-> ∃i,P.info? a=some i/\i.comparable=true/\ (Op.equalIn d a c b).run P w= .ok r w): (Op.equalIn (d+1) t (.iface a c) (.iface ty b)).run P w= .ok r w:=by
 rw[Op.equalIn];simp only[Sem.run_bind,afM f,Result.andThen_ok];by_cases g:a=ty
 ·subst g;obtain⟨i,l,k,j⟩:=m rfl;simp[typeInfo,l,k,j]
 simp_all
def XW{k:EK}{u:TypeDesc}{x y:AV}{F D:Value}(l:P.underlying t=some u)(j:kindOk k u)(g:an G x F)(f:an G y D)(h:qw k x y=some r)(d:Nat)(w:World)(I: ∀ts,k= .Af ts->1<=d/\ ∀t∈ts,XU P t):
  (Op.equalIn (d+1) t F D).run P w= .ok r w:=by
 unfold qw at h;split at h
 case h_1=>
  cases h;simp only[an]at g f;subst g f;simp only[kindOk]at j;subst j;exact run_equalIn_bool w d t _ _ l
 case h_2=>
  split at h
  ·rename_i e;subst e;cases h;simp only[an]at g f;subst g f;obtain⟨k',rfl⟩:=j;exact run_equalIn_int w d t _ _ _ _ l
  ·cases h
 case h_3=>
  cases h;simp only[an]at g f;subst g f;simp only[kindOk]at j;subst j;exact run_equalIn_string w d t _ _ l
 case h_4=>
  cases h;simp only[an]at g f;subst g f;obtain⟨e,rfl⟩:=j;simp[Op.equalIn,afM l]
 case h_5=>
  split at h
  ·rename_i m;cases h;simp only[an]at g;subst g;obtain⟨e,rfl⟩:=j;obtain⟨a,rfl⟩:=XS m f;simp[Op.equalIn,afM l]
  ·cases h
 case h_6=>
  split at h
  ·rename_i m;cases h;simp only[an]at f;subst f;obtain⟨e,rfl⟩:=j;obtain⟨a,rfl⟩:=XS m g;simp[Op.equalIn,afM l]
  ·cases h
 case h_7=>
  cases h;simp only[an]at g f;subst g f;obtain⟨e,rfl⟩:=j;simp[Op.equalIn,afM l]
 case h_8=>
  split at h
  ·rename_i m;cases h;simp only[an]at g;subst g;obtain⟨e,rfl⟩:=j;obtain⟨a,n,c,rfl⟩:=XT m f;simp[Op.equalIn,afM l]
  ·cases h
 case h_9=>
  split at h
  ·rename_i m;cases h;simp only[an]at f;subst f;obtain⟨e,rfl⟩:=j;obtain⟨a,n,c,rfl⟩:=XT m g;simp[Op.equalIn,afM l]
  ·cases h
 case h_10=>
  cases h;simp only[an]at g f;subst g f;obtain⟨_,_,rfl⟩:=j;simp[Op.equalIn,afM l]
 case h_11=>
  cases h;simp only[an]at g f;subst g;obtain⟨_,_,rfl,_⟩:=f;obtain⟨_,_,rfl⟩:=j;simp[Op.equalIn,afM l]
 case h_12=>
  cases h;simp only[an]at g f;subst f;obtain⟨_,_,rfl,_⟩:=g;obtain⟨_,_,rfl⟩:=j;simp[Op.equalIn,afM l]
 case h_13=>
  cases h;simp only[an]at g f;subst g f;obtain⟨_,_,_,rfl⟩:=j;simp[Op.equalIn,afM l]
 case h_14=>
  cases h;simp only[an]at g f;subst g;obtain⟨_,_,_,rfl,_⟩:=f;obtain⟨_,_,_,rfl⟩:=j;simp[Op.equalIn,afM l]
 case h_15=>
  cases h;simp only[an]at g f;subst f;obtain⟨_,_,_,rfl,_⟩:=g;obtain⟨_,_,_,rfl⟩:=j;simp[Op.equalIn,afM l]
 case h_16=>
  cases h;simp only[an]at g f;subst g f;obtain⟨_,rfl⟩:=j;simp[Op.equalIn,afM l]
 case h_17=>
  cases h;simp only[an]at g f;subst g;obtain⟨_,rfl,_⟩:=f;obtain⟨_,rfl⟩:=j;simp[Op.equalIn,afM l]
 case h_18=>
  cases h;simp only[an]at g f;subst f;obtain⟨_,rfl,_⟩:=g;obtain⟨_,rfl⟩:=j;simp[Op.equalIn,afM l]
 case h_19=>
  rename_i ts tx q a ty H b;simp only[an]at g f;obtain⟨_,rfl,rfl⟩:=g;obtain⟨_,rfl,rfl⟩:=f;obtain⟨ms,rfl⟩:=j;obtain⟨J,o⟩:=I ts rfl;split at h
  ·rename_i p;subst p;split at h
   ·rename_i A;obtain⟨A,rfl⟩:=A;cases h;obtain⟨i,H,z,v,s⟩:=o tx (by simpa using A);obtain⟨C,rfl⟩: ∃C,d=C+1:=⟨d-1,by omega⟩;exact XV l _ _ _ w (λe=>absurd rfl e) λ_=>⟨i,z,v,run_equalIn_int w C tx q H a b s⟩
   ·cases h
  ·rename_i p;cases h;exact XV l _ _ _ w (λ_=>rfl) λe=>absurd e p
 case h_20=>cases h
def XX{c d:List EK}{a b:List AV}(j:a.length=(c++d).length)(i:b.length=(c++d).length)(h:jc (c++d) a b=some r):
  ∃e,jc c (a.take c.length) (b.take c.length)=some e/\ (e=false->r=false)/\ (e=true->jc d (a.drop c.length) (b.drop c.length)=some r):=by
 induction c generalizing a b with
 |nil=>exact⟨true,by rfl,by simp,λ_=>by grind⟩
 |cons k f g=>
  cases a with
  |nil=>grind
  |cons x xs=>
   cases b with
   |nil=>grind
   |cons y ys=>
    simp only[alb,jc]at h;simp only[aho,arV,ao0,jc]
    grind
def x9:TypeDesc->Bool
 |.struct _|.array _ _=>true
 |_=>false
def ya{u:TypeDesc}(h:P.underlying t=some u):mX P t=some (x9 u):=by
 unfold mX;rw[h];cases u<;>rfl
def Ho(P:Program)(d:Nat)(t:TypeId)(a:List EK):Prop:=
 ∀ (D:Nat),d<=D-> ∀ (G:Gh) (w:World) (xs ys:Array Value) (as bs:List AV) (off:Nat) (r:Bool),cn P t=some a.length->aD G as xs.toList->aD G bs ys.toList->Leaves xs.toList->Leaves ys.toList->
   off+a.length<=as.length->off+a.length<=bs.length->jc a ((as.drop off).take a.length) ((bs.drop off).take a.length)=some r->
   ∃x y,(Go.part t xs off).run P w= .ok x w/\ (Go.part t ys off).run P w= .ok y w/\ (Op.equalIn D t x y).run P w= .ok r w
def XY{d:Nat}(C: ∀t a,nV P d t=some a->Ho P d t a): ∀ (fs:List Field) (off:Nat) (a:List EK),Ak P (nV P d) fs off=some a->
  ∀ (D:Nat),d<=D-> ∀ (G:Gh) (w:World) (xs ys:Array Value) (as bs:List AV) (r:Bool),aD G as xs.toList->aD G bs ys.toList->Leaves xs.toList->Leaves ys.toList->
  off+a.length<=as.length->off+a.length<=bs.length->jc a ((as.drop off).take a.length) ((bs.drop off).take a.length)=some r->
  (Op.eqFields D xs ys fs).run P w= .ok r w:=by
 intro fs
 induction fs with
 |nil=>
  intro off a h D g G w xs ys as bs r _ _ _ _ _ _ he;simp only[Ak,afE]at h;subst h;simp[jc]at he;subst he;simp[Op.eqFields]
 |cons f fs q=>
  intro off a h D g G w xs ys as bs r k j f1 f2 z v he;simp only[Ak]at h;split at h
  ·rename_i c e;split at h
   ·rename_i u;obtain⟨s,ho,hs⟩:=u;cases b:Ak P (nV P d) fs (off+c.length)with
    |none=>simp[b]at h
    |some p=>
     simp only[b,ahi,afE]at h;subst h;simp only[ahc]at z v;obtain⟨i,e1,A,e3⟩:=XX (by simp;omega) (by simp;omega) he;rw[arZ,arZ,ahc,arI (Nat.le_add_right _ _)]at e1;obtain⟨x,y,o,n,m⟩:=C f.type c e D g G w xs ys as bs off i hs k j f1 f2 (by omega) (by omega) e1;simp only[Op.eqFields,ho];rw[afJ s];simp only[Sem.run_bind,o,n,m,Result.andThen_ok];cases i with
     |false=>simp[A rfl]
     |true=>
      simp only[ayM,ahf,amJ];have l:=e3 rfl;rw[azv,azv,arv,arv,ahc,ant]at l;exact q (off+c.length) p b D g G w xs ys as bs r k j f1 f2 (by omega) (by omega) l
   grind
  grind
def N3{d:Nat}{u:TypeDesc}{k:EK}(o:P.underlying t=some u)(q:kindOk k u)(g:mX P t=some false)(p: ∀ts,k≠ .Af ts):Ho P (d+1) t [k]:=by
 intro D F G w xs ys as bs off r hs l j f1 f2 v s he;simp only[ar6]at v s he;have C:as[off]?=some (as[off]'(by omega)):=ag6 _;have A:bs[off]?=some (bs[off]'(by omega)):=ag6 _;obtain⟨x,n,rx⟩:=l.get off _ C;obtain⟨y,m,i⟩:=j.get off _ A;have e1: (as.drop off).take 1=[as[off]'(by omega)]:=by rw[apL (by omega)];rfl
 have z: (bs.drop off).take 1=[bs[off]'(by omega)]:=by rw[apL (by omega)];rfl
 rw[e1,z]at he;have c:qw k as[off] bs[off]=some r:=by
  simp only[jc]at he;split at he
  ·rename_i h;rw[h];exact he
  ·rename_i h;rw[h];exact he
  ·cases he
 have b:xs[off]?=some x:=by simpa using n
 have a:ys[off]?=some y:=by simpa using m
 refine⟨x,y,by simp[Go.part,r9 g,b],by simp[Go.part,r9 g,a],?_⟩;obtain⟨f,rfl⟩: ∃f,D=f+1:=⟨D-1,by omega⟩;exact XW o q rx i c f w (λts e=>absurd e (p ts))
theorem N4{D:Nat}{e:TypeId}{a:List EK}(l:Ho P D e a)(g:cn P e=some a.length){G:Gh}{w:World}{xs ys:Array Value}{as bs:List AV}(f:aD G as xs.toList)(d:aD G bs ys.toList)(i:Leaves xs.toList)(h:Leaves ys.toList):
  ∀ (m j:Nat) (r:Bool),(j+m)*a.length<=as.length->(j+m)*a.length<=bs.length->jc (List.replicate m a).flatten ((as.drop (j*a.length)).take (m*a.length)) ((bs.drop (j*a.length)).take (m*a.length))=some r->
  (Op.eqItems D e a.length xs ys (List.range' j m)).run P w= .ok r w
 |0,j,r,_,_,he=>by
  simp[jc]at he;subst he;simp[Op.eqItems]
 |m+1,j,r,t,s,he=>by
  have hm: (m+1)*a.length=a.length+m*a.length:=by rw[arq];omega
  have q: (j+(m+1))*a.length=j*a.length+(a.length+m*a.length):=by rw[arp,hm]
  rw[q]at t s;rw[atT,arh,hm]at he;obtain⟨c,e1,u,e3⟩:=XX (by simp;omega) (by simp;omega) he;rw[arZ,arZ,arI (Nat.le_add_right _ _)]at e1;obtain⟨x,y,p,o,n⟩:=l D (ahd _) G w xs ys as bs (j*a.length) c g f d i h (by omega) (by omega) e1;rw[List.range'_succ];simp only[Op.eqItems,Sem.run_bind,p,o,n,Result.andThen_ok];cases c with
  |false=>simp[u rfl]
  |true=>
   simp only[ayM,ahf,amJ];have k:=e3 rfl;rw[azv,azv,arv,arv,ant]at k;have b: (j+1)*a.length=j*a.length+a.length:=arq _ _;refine N4 l g f d i h m (j+1) r ?_ ?_ ?_
   ·have: (j+1+m)*a.length=j*a.length+(a.length+m*a.length):=by rw[arp,b];omega
    omega
   ·have: (j+1+m)*a.length=j*a.length+(a.length+m*a.length):=by rw[arp,b];omega
    omega
   ·rw[b];exact k
theorem Hp: ∀ (d:Nat) (t:TypeId) (b:List EK),nV P d t=some b->Ho P d t b
 |0,_,_,h=>by trivial
 |d+1,t,b,h=>by
  simp only[nV]at h;split at h
  ·rename_i hu;cases h;exact N3 (k:=.bool) hu rfl (ya hu) (by simp)
  ·rename_i hu;cases h;exact N3 (k:=.int) hu ⟨_,rfl⟩ (ya hu) (by simp)
  ·rename_i hu;cases h;exact N3 (k:=.str) hu rfl (ya hu) (by simp)
  ·rename_i fields hu;split at h
   ·rename_i C;intro D J G w xs ys as bs off r hs o m f1 f2 z y he;have q: (Go.part t xs off).run P w= .ok (.agg (xs.extract off (off+b.length))) w:=by simp[Go.part,r9 (ya hu),nW hs,x9]
    have p: (Go.part t ys off).run P w= .ok (.agg (ys.extract off (off+b.length))) w:=by simp[Go.part,r9 (ya hu),nW hs,x9]
    refine⟨_,_,q,p,?_⟩;obtain⟨f,rfl⟩: ∃f,D=f+1:=⟨D-1,by omega⟩;have v:P.fieldsOf t=fields:=by simp[Program.fieldsOf,hu]
    rw[run_equalIn_struct w f t _ _ (by rw[v];exact hu) C,v];have ex: (xs.extract off (off+b.length)).toList=(xs.toList.drop off).take b.length:=by rw[ax8,asR];simp
    have l: (ys.extract off (off+b.length)).toList=(ys.toList.drop off).take b.length:=by rw[ax8,asR];simp
    refine XY (λt b h=>Hp d t b h) fields.toList 0 b h f (by omega) G w _ _ ((as.drop off).take b.length) ((bs.drop off).take b.length) r (by rw[ex];exact(o.drop _).take _) (by rw[l];exact(m.drop _).take _)
     (by rw[ex];exact(f1.drop _).take _) (by rw[l];exact(f2.drop _).take _) (by simp;omega) (by simp;omega) ?_
    rw[amS,amS,arZ,arZ,aBh];exact he
   ·cases h
  ·rename_i n e hu;split at h
   ·rename_i a F;split at h
    ·rename_i I;obtain⟨j,_⟩:=I;cases h;intro D J G w xs ys as bs off r hs o m f1 f2 z y he;have s: (List.replicate n a).flatten.length=n*a.length:=by simp
     rw[s]at z y he hs;have q: (Go.part t xs off).run P w= .ok (.agg (xs.extract off (off+n*a.length))) w:=by simp[Go.part,r9 (ya hu),nW hs,x9]
     have p: (Go.part t ys off).run P w= .ok (.agg (ys.extract off (off+n*a.length))) w:=by simp[Go.part,r9 (ya hu),nW hs,x9]
     refine⟨_,_,q,p,?_⟩;obtain⟨f,rfl⟩: ∃f,D=f+1:=⟨D-1,by omega⟩;have c:=j;unfold cn at c;obtain⟨i,H,A⟩:=ahg.1 c;rw[run_equalIn_array w f _ _ hu H];have g:P.cellsOf e=a.length:=by
      unfold Program.cellsOf;rw[c];rfl
     rw[g,aBW];have ex: (xs.extract off (off+n*a.length)).toList=(xs.toList.drop off).take (n*a.length):=by rw[ax8,asR];simp
     have l: (ys.extract off (off+n*a.length)).toList=(ys.toList.drop off).take (n*a.length):=by rw[ax8,asR];simp
     refine N4 (as:=(as.drop off).take (n*a.length)) (bs:=(bs.drop off).take (n*a.length)) (λu x=>Hp d e a F u (by omega)) j (by rw[ex];exact(o.drop _).take _) (by rw[l];exact(m.drop _).take _)
      (by rw[ex];exact(f1.drop _).take _) (by rw[l];exact(f2.drop _).take _) n 0 r (by simp;omega) (by simp;omega) ?_
     rw[Nat.zero_mul,amS,amS,arZ,arZ,aBh];exact he
    ·cases h
   ·cases h
  grind
end
section
variable{P:Program}{X:Ctx}{B:Nat}{av:World}
variable{G:Gh}{E:AS}{w:World}
def yb:Operand->Bool
 |.const _=>true
 |_=>false
def As(c:BinOp)(t:TypeId)(x y:Operand)(a b:Value)(e:a= .nilIface->b= .nilIface->(yb x||yb y)=true)(d: ∀xs ys,a= .agg xs->b= .agg ys->P.eqGuardType P.depth t=false)(w:World):
  (eqGuard c t x y a b).run P w= .ok () w:=by
 cases c<;>(simp_all)<;>cases a<;>(try(simp[eqGuard];done))<;>cases b<;>(try(simp[eqGuard];done))
 all_goals first
  | (have h:=d _ _ rfl rfl;simp[eqGuard,ar0,h];done)
  | (have h:=e rfl rfl;cases x<;>cases y<;>simp[yb]at h<;>simp[eqGuard])
def Dl:Value->Bool
 |.int _ _|.float _ _|.complex _ _ _|.string _=>false
 |_=>true
def binOp_eql{x y:Value}(a:Dl x=true)(t:TypeId):binOp .eql t x y=(do pure (.bool (<-Op.equal t x y))):=by
 cases x<;>simp[Dl]at a<;>first|rfl|rfl
def binOp_neq{x y:Value}(a:Dl x=true)(t:TypeId):binOp .neq t x y=(do pure (.bool (!(<-Op.equal t x y)))):=by
 cases x<;>simp[Dl]at a<;>first|rfl|rfl
def uA:AV->Bool
 |.int _ _|.str _|.au _|.iD=>false
 |_=>true
def aoy{x:AV}{a:Value}(h:uA x=true)(r:an G x a):Dl a=true:=by
 cases x<;>simp[uA]at h<;>simp only[an]at r
 all_goals first
  |rfl
  | (obtain⟨_,rfl,_⟩:=r;rfl)
  | (obtain⟨_,_,rfl,_⟩:=r;rfl)
  | (obtain⟨_,_,_,rfl,_⟩:=r;rfl)
  | (obtain⟨_,_,_,_,rfl,_⟩:=r;rfl)
  | (obtain⟨_,_,_,_,_,rfl,_⟩:=r;rfl)
  | (obtain⟨⟨_,rfl⟩,_⟩:=r;rfl)
def aoz{x:AV}{xs:Array Value}(h:x.cb=false)(r:an G x (.agg xs)): ∃cs,x= .agg cs:=by
 cases x<;>simp[AV.cb]at h<;>simp[an]at r
 grind
def aoA{x y:Operand}{k:EK}(h:x5 P t x y=some k):
  (∃u,P.underlying t=some u/\kindOk k u/\ (k= .c9->(yb x||yb y)=true)/\ ∀ts,k= .Af ts-> ∀t∈ts,XU P t)\/
  (∃a u,P.underlying t=some u/\x9 u=true/\k= .agg a/\nV P 10 t=some a/\P.eqGuardType P.depth t=false):=by
 unfold x5 at h;split at h
 ·rename_i hu;cases h;exact .inl ⟨_,hu,rfl,by simp,by simp⟩
 ·rename_i hu;cases h;exact .inl ⟨_,hu,⟨_,rfl⟩,by simp,by simp⟩
 ·rename_i hu;cases h;exact .inl ⟨_,hu,rfl,by simp,by simp⟩
 ·rename_i hu;cases h;exact .inl ⟨_,hu,⟨_,rfl⟩,by simp,by simp⟩
 ·rename_i hu;cases h;exact .inl ⟨_,hu,⟨_,rfl⟩,by simp,by simp⟩
 ·rename_i hu;cases h;exact .inl ⟨_,hu,⟨_,_,rfl⟩,by simp,by simp⟩
 ·rename_i hu;cases h;exact .inl ⟨_,hu,⟨_,_,_,rfl⟩,by simp,by simp⟩
 ·rename_i hu;split at h
  ·cases h;exact .inl ⟨_,hu,⟨_,rfl⟩,by simp[yb],by simp⟩
  ·cases h;exact .inl ⟨_,hu,⟨_,rfl⟩,by simp[yb],by simp⟩
  ·cases h;refine .inl ⟨_,hu,⟨_,rfl⟩,by simp,λts d t b=>?_⟩;cases d;simp only[XF,aiJ]at b;obtain⟨_,b⟩:=b;split at b
   ·rename_i i q g f;exact⟨i,q,g,b,f⟩
   ·cases b
 ·rename_i hu;split at h
  ·rename_i e;cases c:nV P 10 t with
   |none=>simp[c]at h
   |some a=>simp[c]at h;exact .inr ⟨a,_,hu,rfl,h.symm,rfl,e⟩
  ·cases h
 ·rename_i hu;split at h
  ·rename_i e;cases c:nV P 10 t with
   |none=>simp[c]at h
   |some a=>simp[c]at h;exact .inr ⟨a,_,hu,rfl,h.symm,rfl,e⟩
  ·cases h
 grind
def aoB{k:EK}{x y:AV}{u:TypeDesc}(b:kindOk k u):ed k x y=qw k x y:=by
 cases k with
 |agg a=>trivial
 |_=>rfl
def XZ{b:AV}(h:b.Ag=true):uA b=true/\ (∀cs,b≠ .agg cs)/\b≠ .ez/\b.cb=false:=by
 cases b<;>simp[AV.Ag]at h<;>simp[uA,AV.cb]
def X7{b:AV}(h:b.Ah=true):uA b=true/\ (∀cs,b≠ .agg cs)/\b≠ .ez/\b.cb=false:=by
 cases b<;>simp[AV.Ah]at h<;>simp[uA,AV.cb]
def aoC{k:EK}{x y:AV}(h:qw k x y=some r):
  (k= .int/\ ∃q a b,x= .int q a/\y= .int q b/\r=(a==b))\/ (k= .str/\ ∃a b,x= .str a/\y= .str b/\r=(a.toList==b.toList))\/ (uA x=true/\ (∀cs,x≠ .agg cs)/\ (∀cs,y≠ .agg cs)/\ (x= .ez->k= .c9)/\x.cb=false/\y.cb=false):=by
 unfold qw at h;split at h
 case h_1=>exact .inr (.inr (by simp[uA,AV.cb]))
 case h_2=>grind
 case h_3=>grind
 case h_5=>
  split at h
  ·rename_i f;obtain⟨_,d,g,c⟩:=XZ f;exact .inr (.inr ⟨rfl,by simp,d,by simp,rfl,c⟩)
  ·cases h
 case h_6=>
  split at h
  ·rename_i f;obtain⟨i,d,g,c⟩:=XZ f;exact .inr (.inr ⟨i,d,by simp,λe=>absurd e g,c,rfl⟩)
  ·cases h
 case h_8=>
  split at h
  ·rename_i f;obtain⟨_,d,g,c⟩:=X7 f;exact .inr (.inr ⟨rfl,by simp,d,by simp,rfl,c⟩)
  ·cases h
 case h_9=>
  split at h
  ·rename_i f;obtain⟨i,d,g,c⟩:=X7 f;exact .inr (.inr ⟨i,d,by simp,λe=>absurd e g,c,rfl⟩)
  ·cases h
 case h_20=>cases h
 all_goals exact .inr (.inr (by simp[uA,AV.cb]))
def aoD{x:AV}(h:x.cb=false)(r:an G x .nilIface):x= .ez:=by
 cases x<;>simp[AV.cb]at h<;>simp[an]at r;rfl
def X8{A z:Operand}{k:EK}(hk:x5 P t A z=some k){x y:AV}{m l:Value}(j:an G x m)(v:an G y l)(h:ed k x y=some r)(w:World):
  (eqGuard .eql t A z m l).run P w= .ok () w/\ (binOp .eql t m l).run P w= .ok (.bool r) w/\ (eqGuard .neq t A z m l).run P w= .ok () w/\ (binOp .neq t m l).run P w= .ok (.bool !r) w:=by
 rcases aoA hk with⟨u,hu,C,F,D⟩| ⟨K,u,hu,I,rfl,f,hg⟩
 ·rw[aoB C]at h;rcases aoC h with⟨rfl,q,a,b,rfl,rfl,rfl⟩| ⟨rfl,a,b,rfl,rfl,rfl⟩| ⟨h1,h2,h3,h4,V,h6⟩
  ·subst j v;exact⟨As _ _ _ _ _ _ (by simp) (by simp) w,by simp[binOp,Op.intCmp],As _ _ _ _ _ _ (by simp) (by simp) w,by simp[binOp,Op.intCmp,bne]⟩
  ·simp only[an]at j v;subst j v;exact⟨As _ _ _ _ _ _ (by simp) (by simp) w,by simp[binOp,Op.stringOp],As _ _ _ _ _ _ (by simp) (by simp) w,by simp[binOp,Op.stringOp]⟩
  ·have S:=aoy h1 j;have e: (Op.equal t m l).run P w= .ok r w:=XW hu C j v h 9999 w (λts L=>⟨by decide,D ts L⟩);have g: ∀op,(eqGuard op t A z m l).run P w= .ok () w:=λop=>by
    refine As _ _ _ _ _ _ (λQ _=>?_) (λxs ys Q _=>?_) w
    ·subst Q;exact F (h4 (aoD V j))
    ·subst Q;obtain⟨cs,rfl⟩:=aoz V j;exact absurd rfl (h2 cs)
   exact⟨g _,by simp[binOp_eql S,e],g _,by simp[binOp_neq S,e]⟩
 ·unfold ed at h;split at h
  ·rename_i c xs ys he;cases he;split at h
   ·rename_i o;simp only[an]at j v;obtain⟨s,rfl,lx,Y⟩:=j;obtain⟨J,rfl,ly,W⟩:=v;have g: ∀op,(eqGuard op t A z (.agg s) (.agg J)).run P w= .ok () w:=λop=>As _ _ _ _ _ _ (by simp) (λ_ _ _ _=>hg) w
    have e: (Op.equal t (.agg s) (.agg J)).run P w= .ok r w:=by
     rw[show(10:Nat)=9+1 from rfl,nV,hu]at f;cases u<;>simp only[x9,ahf]at I
     ·rename_i n e;simp only at f;split at f
      ·rename_i c M;split at f
       ·rename_i O;obtain⟨H,_⟩:=O;cases f;have d:=H;unfold cn at d;obtain⟨i,hi,oZ⟩:=ahg.1 d;show(Op.equalIn (9999+1) t (.agg s) (.agg J)).run P w=_;rw[run_equalIn_array w 9999 _ _ hu hi];have p:P.cellsOf e=c.length:=by
         unfold Program.cellsOf;rw[d];rfl
        rw[p,aBW];have N: (List.replicate n c).flatten.length=n*c.length:=by simp
        rw[N]at o;refine N4 (as:=xs) (bs:=ys) (λR U=>Hp 9 e c M R (by omega)) H lx ly Y W n 0 r (by rw[ans];omega) (by rw[ans];omega) ?_;rw[Nat.zero_mul,amS,amS,<-o.1,ahn,o.1,<-o.2,ahn];exact h
       ·cases f
      ·cases f
     ·rename_i fs;simp only at f;split at f
      ·rename_i hp;have T:P.fieldsOf t=fs:=by simp[Program.fieldsOf,hu]
       show(Op.equalIn (9999+1) t (.agg s) (.agg J)).run P w=_;rw[run_equalIn_struct w 9999 t _ _ (by rw[T];exact hu) hp,T];refine XY (λt K h=>Hp 9 t K h) fs.toList 0 K f 9999 (by omega) G w _ _ xs ys r lx ly Y W (by omega) (by omega) ?_;rw[amS,amS,<-o.1,ahn,o.1,<-o.2,ahn];exact h
      ·cases f
    exact⟨g _,by simp[binOp_eql (x:=.agg s) rfl,e],g _,by simp[binOp_neq (x:=.agg s) rfl,e]⟩
   ·cases h
  ·cases h
  ·rename_i n1 Z;first|exact(n1 _ rfl).elim|exact(Z _ rfl).elim
def aoE{a:TypeId}{u:TypeDesc}(g:P.underlying a=some u)(b: ∀ms,u≠ .interface ms){z:AV}(o:x4 P a=some z){x v:AV}{l:Value}{j:Bool}(f:an G x l)(h:Ai z x a j=some v)(n:TypeId)(w:World):
  ∃v',(Instr.typeAssert l n a j).run P w= .ok v' w/\an G v v':=by
 obtain⟨d,e,_,rz⟩:=N2 o G w;unfold Ai at h;split at h
 ·simp only[an]at f;subst f;split at h
  ·rename_i c;subst c;cases h;refine⟨.tuple #[d,.bool false],?_,⟨_,rfl,⟨d,_,rfl,rz,⟨_,_,rfl,by simp[an],by simp[aD]⟩⟩⟩⟩;cases u<;>first|exact absurd rfl (b _)|simp[Instr.typeAssert,afM g,e]
  ·cases h
 ·rename_i p y;simp only[an]at f;obtain⟨i,rfl,m⟩:=f;split at h
  ·rename_i k;subst k;cases h;cases j with
   |true=>
    refine⟨.tuple #[i,.bool true],?_,⟨_,rfl,⟨i,_,rfl,m,⟨_,_,rfl,by simp[an],by simp[aD]⟩⟩⟩⟩;cases u<;>first|exact absurd rfl (b _)|simp[Instr.typeAssert,afM g]
   |false=>
    refine⟨i,?_,m⟩;cases u<;>first|exact absurd rfl (b _)|simp[Instr.typeAssert,afM g]
  ·rename_i k;split at h
   ·rename_i c;subst c;cases h;refine⟨.tuple #[d,.bool false],?_,⟨_,rfl,⟨d,_,rfl,rz,⟨_,_,rfl,by simp[an],by simp[aD]⟩⟩⟩⟩;cases u<;>first|exact absurd rfl (b _)|simp[Instr.typeAssert,afM g,e,k]
   ·cases h
 ·cases h
def aoF{u:TypeDesc}(a:P.underlying t=some u)(b: ∀ms,u≠ .interface ms)(x:Value)(w:World): (Instr.makeInterface t x).run P w= .ok (.iface t x) w:=by
 cases u<;>first|grind|simp[Instr.makeInterface,run_underlying a]
def aoG{x v:AV}(c:an G x d)(h:wb x=some v):v=x/\ ((∃a,d= .pointer (some a))\/ (∃f a b,d= .func (.func f) a b)\/ ∃f a b,d= .func (.yield f) a b):=by
 unfold wb at h;split at h
 all_goals(try cases h)
 ·simp only[an]at c;grind
 ·simp only[an]at c;grind
 ·simp only[an]at c;grind
 ·simp only[an]at c;grind
 ·simp only[an,kY]at c;grind
 ·simp only[an,kY]at c;grind
theorem eN.length: ∀ {es:List (AV×AV)} {ms:List MapEntry},eN G es ms->ms.length=es.length
 | [],ms,r=>by simp only[eN]at r;grind
 | (k,v)::es,ms,r=>by
   obtain⟨m,q,rfl,_,_,_,h⟩:=r;simp[eN.length h]
def N5(f:aU P B av G E w){ty:TypeId}{u:TypeDesc}{k:EK}(c:P.underlying t=some u)(b:kindOk k u){x v:AV}(a:an G x d)(h:fj E k x=some v):
  ∃v',(Builtin.len_ #[t] ty #[d]).run P w= .ok v' w/\an G v v':=by
 unfold fj at h;split at h
 ·cases h;simp only[an]at a;subst a;simp only[kindOk]at b;subst b;exact k0 (by simp[Builtin.len_,afM c,goInt])
 ·cases h;simp only[an]at a;subst a;obtain⟨e,rfl⟩:=b;exact k0 (by simp[Builtin.len_,afM c,goInt])
 ·cases h;simp only[an]at a;obtain⟨_,_,_,_,_,rfl,_⟩:=a;obtain⟨e,rfl⟩:=b;exact k0 (by simp[Builtin.len_,afM c,goInt])
 ·cases h;simp only[an]at a;obtain⟨_,_,_,_,rfl,_⟩:=a;obtain⟨e,rfl⟩:=b;exact k0 (by simp[Builtin.len_,afM c,goInt])
 ·cases h;simp only[an]at a;obtain⟨_,_,_,rfl,_⟩:=a;obtain⟨e,rfl⟩:=b;exact k0 (by simp[Builtin.len_,afM c,goInt])
 ·cases h;simp only[an]at a;subst a;obtain⟨_,e,rfl⟩:=b;exact k0 (by simp[Builtin.len_,afM c,goInt])
 ·rename_i id;split at h
  ·rename_i es he;cases h;obtain⟨j,ms,clock,i,hm⟩:=f.obj id _ he a.Hh;simp only[an]at a;obtain⟨_,r,rfl,hr⟩:=a;obtain⟨_,e,rfl⟩:=b;rw[hr j];have g:ms.size=es.length:=by rw[<-anS];exact hm.length
   exact k0 (by simp[Builtin.len_,afM c,goInt,getObj,Sem.run,i,g])
  ·cases h
 ·exact b.elim
 ·exact b.elim
 ·exact b.elim
 ·cases h
def aoH{ty:TypeId}(b:P.underlying t=some (.slice e)){x v:AV}(a:an G x d)(h:fj E .cap x=some v)(w:World):
  ∃v',(Builtin.cap_ #[t] ty #[d]).run P w= .ok v' w/\an G v v':=by
 unfold fj at h;split at h<;>first|grind|skip
 all_goals simp_all
 ·cases h;subst a;exact k0 (by simp[Builtin.cap_,afM b,goInt])
 ·cases h;simp only[an]at a;obtain⟨_,_,cap,_,_,rfl,_,c,_⟩:=a;rw[<-c trivial];exact k0 (by simp[Builtin.cap_,afM b,goInt])
 ·cases h;simp only[an]at a;obtain⟨_,_,_,cap,rfl,_,c,_⟩:=a;rw[<-c trivial];exact k0 (by simp[Builtin.cap_,afM b,goInt])
theorem N6{f:AV->AV->Option AV}{g:Value->Value->Sem Value}(m: ∀a b c a' o,f a b=some c->an G a a'->an G b o-> ∃n,(∀w,(g a' o).run P w= .ok n w)/\an G c n):
  ∀ (xs:List AV) (x:AV) (v:AV) (j:Value) (d:List Value),fY f (x::xs)=some v->an G x j->aD G xs d-> ∀w,∃v',(d.foldlM g j).run P w= .ok v' w/\an G v v'
 | [],x,v,j,d,h,l,i,w=>by
   subst i;unfold fY at h;simp_all
 |y::ys,x,v,j,d,h,l,i,w=>by
  obtain⟨s,k,rfl,r,i⟩:=i;unfold fY at h;split at h
  ·rename_i z q;obtain⟨p,e,rz⟩:=m _ _ _ _ _ q l r;obtain⟨v',t,rv⟩:=N6 m ys z v p k h rz i w;simp_all
  grind
def aoI{j:Array TypeId}{xs:List AV}{v:AV}{d:Array Value}(g:aD G xs d.toList)(h:fY qy xs=some v)(w:World):
  ∃v',(Builtin.max_ j t d).run P w= .ok v' w/\an G v v':=by
 cases xs with
 |nil=>simp[fY]at h
 |cons x xs=>
  obtain⟨i,r,e,k,g⟩:=g;simp only[Builtin.max_,e];refine N6 (λa b c a' n f m l=>?_) xs x v i r h k g w;unfold qy at f;split at f
  ·cases f;subst m l;exact⟨_,λw=>by rfl,by rfl⟩
  grind
def aoJ{j:Array TypeId}{xs:List AV}{v:AV}{d:Array Value}(g:aD G xs d.toList)(h:fY wa xs=some v)(w:World):
  ∃v',(Builtin.min_ j t d).run P w= .ok v' w/\an G v v':=by
 cases xs with
 |nil=>simp[fY]at h
 |cons x xs=>
  obtain⟨i,r,e,k,g⟩:=g;simp only[Builtin.min_,e];refine N6 (λa b c a' n f m l=>?_) xs x v i r h k g w;unfold wa at f;split at f
  ·cases f;subst m l;exact⟨_,λw=>by rfl,by rfl⟩
  grind
end
section
variable{P:Program}{X:Ctx}{B:Nat}{av:World}
variable{G:Gh}{E:AS}{w:World}
def aD.aH{cs vs:List AV}{b:List Value}{off:Nat}(a:aD G cs c.toList)(d:aD G vs b)(h:off+vs.length<=cs.length):
  aD G (aH cs off vs) (kZ c off b).toList:=by
 have e:=d.length;have f:=a.length;rw[anS]at f;rw[Hj _ _ _ (by omega)];rw[e];exact(a.take off).append (d.append (a.drop _))
def Leaves.aH{a:List Value}{off:Nat}(b:Leaves c.toList)(d:Leaves a)(h:off+a.length<=c.size):Leaves (kZ c off a).toList:=by
 rw[Hj _ _ _ h];exact(b.take off).append (d.append (b.drop _))
theorem X9(off:Nat): ∀ (l:List Value) (k:Nat) (c:Array Value),(l.zipIdx k).foldl (λcs (p:Value×Nat)=>cs.setIfInBounds (off+p.2) p.1) c=kZ c (off+k) l
 | [],_,_=>rfl
 |v::l,k,c=>by
  simp only[List.zipIdx_cons,aBk,kZ];rw[X9 off l (k+1)];rfl
theorem Hq{nt:Nat}{e:Env}{a:Act}(v:cC G nt e a.tmps){b Dm:Nat->Option (Nat×Nat)}(u: ∀i p,b i=some p->Dm i=some p):
  ∀ (ps:List (Nat×Operand)) (l:List (Nat×Nat×ao)) (cs d:List AV) (c:Array Value),parts b ps=some l->ea cs (l.map λp=>(p.1,p.2.1,p.2.2.get e))=some d->aD G cs c.toList->Leaves c.toList->
  ∃j,Instr.fill Dm c (ps.map λp=>(p.1,a.eval p.2))=some j/\aD G d j.toList/\Leaves j.toList
 | [],l,cs,d,c,h,g,k,q=>by
   simp only[parts,afE]at h;subst h;simp only[azp,ea,afE]at g;subst g;exact⟨c,by rfl,k,q⟩
 | (i,x)::ps,l,cs,d,c,h,g,k,q=>by
   simp only[parts]at h;split at h
   ·rename_i off n y z F D C;cases h;simp only[aoZ,ea]at g;split at g
    ·rename_i A;obtain⟨t1,t2,t3⟩:=A;have hr:=cu v D;obtain⟨t,m⟩:=hr.cells t1;have f:=t.length;rw[anS]at f;have s:=k.length;rw[anS]at s;obtain⟨j,H,r,o⟩:=Hq v u ps z _ d (kZ c off (a.eval x).cells.toList) C g (k.aH t (by omega)) (q.aH m (by rw[anS];omega));refine⟨j,?_,r,o⟩;simp only[aoZ,Instr.fill,u i _ F];rw[afB (by simp only[ne_eq,arj,amT];omega)];rw[<-H]
     congr 1
     rw[<-Array.foldl_toList,Array.toList_zipIdx];exact X9 off _ 0 c
    grind
   grind
def aoK{b:Array Field}{z:List AV}(O:P.underlying t=some (.struct b))(M:gB P t=some z)(L:b.toList.all (λf=>(cn P f.type).isSome)=true)
   {e:Env}  (K:cC G nt e a.tmps) {o:Array (Nat×Operand)} {l:List (Nat×Nat×ao)}
  (H:parts (λi=>match b[i]? with|some f=>(cn P f.type).map λn=>(f.offset,n)|none=>none) o.toList=some l) {cs:List AV} (J:ea z (l.map λp=>(p.1,p.2.1,p.2.2.get e))=some cs) (w:World):
  ∃v',(Instr.build t (o.map λ (i,x)=>(i,a.eval x))).run P w= .ok v' w/\an G (.agg cs) v':=by
 obtain⟨m,_,D,lz,q,_⟩:=sa M G w;obtain⟨it,I,C⟩: ∃it,P.info? t=some it/\it.zero=some m:=by
  unfold zeroV at D;cases d:P.info? t with
  |none=>grind
  |some i=>grind
 have hm: ∀ (fs:List Field),fs.all (λf=>(cn P f.type).isSome)=true-> ∃places,fs.mapM (λf=>(P.info? f.type).map λi=>(f.offset,i.size))=some places/\ ∀ (i:Nat) (f:Field),fs[i]?=some f-> ∃n,cn P f.type=some n/\places[i]?=some (f.offset,n):=by
  intro fs
  induction fs with
  |nil=>simp
  |cons f fs y=>
   intro c;simp only[ax9,aiL]at c;obtain⟨places,e1,N⟩:=y c.2;cases d:P.info? f.type with
   |none=>simp[cn,d]at c
   |some i=>
    refine⟨(f.offset,i.size)::places,by simp[aCu,d,e1],λj g s=>?_⟩;cases j with
    |zero=>simp at s;subst s;exact⟨i.size,by simp[cn,d],by simp⟩
    |succ j=>simpa using N j g (by simpa using s)
 obtain⟨places,F,k⟩:=hm _ L;have A:m.cells.toList=m.cells.toList:=rfl;obtain⟨u,Q,r,v⟩:=Hq (Dm:=(places.toArray[·]?)) K (λi p d=>by
  cases h:b[i]? with
  |none=>simp[h]at d
  |some f=>
   obtain⟨n,s1,s2⟩:=k i f (by simpa using h);simp[h,s1]at d;subst d;simpa using s2) o.toList l z cs m.cells H J lz q
 refine⟨.agg u,?_,⟨u,rfl,r,v⟩⟩;refine run_build w t _ u ?_;unfold Program.built;simp_all
def aoL{b:TypeId}{z:List AV}(F:P.underlying t=some (.array n b))(D:gB P t=some z)(C:cn P b=some sz)
   {e:Env}  (A:cC G nt e a.tmps) {c:Array (Nat×Operand)} {l:List (Nat×Nat×ao)}
  (s:parts (λi=>some (i*sz,sz)) c.toList=some l) {cs:List AV} (y:ea z (l.map λp=>(p.1,p.2.1,p.2.2.get e))=some cs) (w:World):
  ∃v',(Instr.build t (c.map λ (i,x)=>(i,a.eval x))).run P w= .ok v' w/\an G (.agg cs) v':=by
 obtain⟨h,_,o,lz,d,_⟩:=sa D G w;obtain⟨it,u,m⟩: ∃it,P.info? t=some it/\it.zero=some h:=by
  unfold zeroV at o;cases j:P.info? t with
  |none=>grind
  |some i=>grind
 obtain⟨f,v,q⟩: ∃f,P.info? b=some f/\f.size=sz:=by
  unfold cn at C;simp_all
 obtain⟨g,H,r,k⟩:=Hq (Dm:=λi=>some (i*sz,sz)) A (λi p j=>j) c.toList l z cs h.cells s y lz d;refine⟨.agg g,?_,⟨g,rfl,r,k⟩⟩;refine run_build w t _ g ?_;unfold Program.built;simp_all
def N7{af:List (List AV)}(h:af.all (λel=>el.length==sz)=true): ∀el∈af,el.length=sz:=by grind
def aoM(r:aU P B av G E w){x:AV}{q:Value}{af:List (List AV)}(g:an G x q)(h:elems E sz x=some af):
  (af=[]/\q= .slice none 0 0)\/
  ∃a cap vs,q= .slice (some a) af.length cap/\ (∀el∈af,el.length=sz)/\bo G af vs/\Leaves vs/\ (vs=[]\/ ∃b o,a=⟨b,o,none⟩/\ ∀j u,vs[j]?=some u->w.cell? ⟨b,o+j,none⟩=some u):=by
 unfold elems at h;split at h
 ·simp only[an]at g;grind
 ·rename_i k cx;split at h
  ·rename_i hu;cases h;simp only[an]at g;obtain⟨b,o,cap,s,vs,e,_,_,_,L,m,n⟩:=g;exact .inr ⟨_,cap,vs,e,N7 hu,n,m,.inr ⟨b,o,rfl,λj u d=>r.bt _ _ _ (L j u d)⟩⟩
  grind
 ·rename_i id aj f off len cx;split at h
  ·rename_i v l ty k he;split at h
   ·rename_i z;obtain⟨F,J,M,N⟩:=z;subst F J M;cases h;obtain⟨g1,g2,I,c,pre,vs,post,A,y,H,_,n,m⟩:=r.obj id _ he g.NU;simp only[an]at g;obtain⟨_,_,a,cap,e,p,_,K⟩:=g;obtain⟨_,C,_⟩:=K g1;have i: ((k.drop off).take len).length=len:=by simp;omega
    refine .inr ⟨a,cap,(vs.drop (off*f)).take (len*f),by rw[i];exact e,λel t=>I el (arc (al8 t)),n.slice I,(m.drop _).take _,?_⟩;by_cases D:len=0
    ·left;simp[D]
    ·right
     refine⟨_,_,C (by omega),λj u d=>?_⟩;refine Dh A _ u ?_;rw[apj]at d;split at d
     ·rw[anR]at d;rw[y,ahr (by omega),aeT (by have:=(afA.1 d).1;omega)];rw[<-d];congr 1;omega
     ·cases d
   ·cases h
  ·cases h
 ·rename_i id l off len;split at h
  ·rename_i cs tg he;split at h
   ·rename_i z;obtain⟨F,J⟩:=z;subst F;cases h;obtain⟨g1,_,c,ty,A,n,m,_⟩:=Aq r he g.an6;simp only[an]at g;obtain⟨_,a,cap,e,p,C⟩:=g;have hle:len*l<=(cs.drop off).length:=by simp;omega
    refine .inr ⟨a,cap,(c.toList.drop off).take (len*l),by rw[N0];exact e,Dj hle,?_,(m.drop _).take _,?_⟩
    ·rw[bo.iff,chunks_flatten hle];exact(n.drop _).take _
    ·by_cases D:len=0
     ·left;simp[D]
     ·right
      refine⟨_,_,C g1 (by omega),λj u d=>?_⟩;refine Dh A _ u ?_;rw[apj]at d;split at d
      ·rwa[anR]at d
      ·cases d
   ·cases h
  ·cases h
 grind
theorem o5{sz:Nat}: ∀ {af:List (List AV)},(∀el∈af,el.length=sz)->af.flatten.length=af.length*sz
 | [],_=>by simp
 |x::xs,h=>by
  have a:=o5 (af:=xs) λy b=>h y (by grind)
  grind
def bo.len{af:List (List AV)}(h:bo G af vs)(a: ∀el∈af,el.length=sz):vs.length=af.length*sz:=by
 rw[(bo.iff.1 h).length,o5 a]
def Ya(p:aU P B av G E w){x:AV}{e:Value}{af:List (List AV)}(m:an G x e)(h:elems E sz x=some af):
  ∃vs,bo G af vs/\Leaves vs/\ (∀el∈af,el.length=sz)/\vs.length=af.length*sz/\ (∃a cap,e= .slice a af.length cap/\ (a=none->af=[]))/\
   ∀w',w'.heap=w.heap-> ∀n,n<=af.length->(Builtin.firstCells sz n e).run P w'= .ok (vs.take (n*sz)).toArray w':=by
 rcases aoM p m h with⟨rfl,rfl⟩| ⟨a,cap,vs,rfl,hu,g,l,k⟩
 ·refine⟨[],by rfl,λu hu=>by grind,by simp,by simp,⟨none,0,rfl,λ_=>rfl⟩,λw' c n f=>?_⟩;simp[Builtin.firstCells]
 ·refine⟨vs,g,l,hu,g.len hu,⟨some a,cap,rfl,λh=>by cases h⟩,λw' c n f=>?_⟩;have d:=g.len hu;rcases k with rfl| ⟨b,o,rfl,k⟩
  ·simp only[Builtin.firstCells];have:n*sz=0:=by
    have q:af.length*sz=0:=by grind
    have:=anU sz f;omega
   rw[this];simp[loadCells,loadCellsFrom]
  ·simp only[Builtin.firstCells];have hle:n*sz<=af.length*sz:=anU _ f;exact run_loadCells (vs.take (n*sz)) (by grind) (λj u i=>by
    rw[apj]at i;split at i
    ·have:=k _ _ i;simp only[World.cell?,c]at this⊢;exact this
    grind)
theorem aoN: ∀ {af:List (List AV)} {vs:List Value} {l:lB},bo G af vs->v9 af=some l-> ∃a:List Int,vs=a.map (Value.int .u8)/\l=a.map λn=>UInt8.ofNat n.toNat
 | [],vs,l,h,e=>by
   subst h;simp only[v9,afE]at e;simp_all
 |x::xs,vs,l,h,e=>by
  obtain⟨v,r,rfl,c,b⟩:=h;unfold v9 at e;split at e
  ·grind
  ·rename_i n d heq;cases heq;cases hr:v9 xs with
   |none=>grind
   |some f=>
    simp[hr]at e;subst e;obtain⟨a,rfl,rfl⟩:=aoN b hr;obtain⟨v',q,rfl,rfl,rfl⟩:=c;exact⟨n::a,rfl,rfl⟩
  grind
theorem foldl_push: ∀ (a:List Int) (s:ByteArray),a.foldl (λr n=>r.push (UInt8.ofNat n.toNat)) s=⟨s.data++(a.map λn=>UInt8.ofNat n.toNat).toArray⟩
 | [],s=>by simp
 |n::a,s=>by
  rw[aBk,foldl_push a];simp_all
end
section
variable{P:Program}{X:Ctx}{B:Nat}{av:World}
variable{G:Gh}{E:AS}{w:World}
def mm(P:Program)(B:Nat)(av:World)(G:Gh)(E:AS)(v:AV)(b:AS)(r:Result Value):Prop:=
 ∃a w' v',r= .ok v' w'/\G.le a/\aU P B av a b w'/\an a v v'/\E.Ext b
def Au(P:Program)(B:Nat)(av:World)(G:Gh)(E:AS)(b:AS)(r:Result Unit):Prop:=
 ∃a w',r= .ok () w'/\G.le a/\aU P B av a b w'/\E.Ext b
theorem uB: ∀ {a b:List AV},aG (a++b)=max (aG a) (aG b)
 | [],b=>by rfl
 |x::a,b=>by simp only[alb,aG,uB (a:=a)];omega
theorem wc: ∀ {af:List (List AV)},b8 af=aG af.flatten
 | []=>by rfl
 |x::xs=>by simp only[b8,arh,uB,wc (af:=xs)]
def Yb{a:List AV}:aG (a.take n)<=aG a:=by grind [uB,List.take_append_drop]
def Yc{a:List AV}:aG (a.drop n)<=aG a:=by
 have h:=uB (a:=a.take n) (b:=a.drop n);rw[aqj]at h;omega
def Yd{cs vs:List AV}{off:Nat}:aG (aH cs off vs)<=max (aG cs) (aG vs):=by
 unfold aH;have c:=Yb (a:=cs) (n:=off);have b:=Yc (a:=cs) (n:=off+vs.length);rw[uB,uB];omega
def Ye{v:AV}:aG v.cells=v.refs:=by
 cases v<;>simp[AV.cells,aG,AV.refs]
def N8{cs vs:List AV}{off:Nat}(h:off+vs.length<=cs.length): (aH cs off vs).length=cs.length:=by
 unfold aH;grind
def Yf(a:aU P B av G E w){cs:List AV}(ty:TypeId)(e:aD G cs c.toList)(d:Leaves c.toList)(tg:Option TypeId)(b: ∀t,tg=some t->ty=t):
  mm P B av G E (.ptr E.heap.length 0) (E.push (.box cs tg)) (.ok (.pointer (some ⟨w.heap.size,0,none⟩)) (w.alloc (.cells c ty))):=by
 have hle:=G.Ap w.heap.size 0 0;refine⟨G.push w.heap.size 0 0,_,_,rfl,hle,a.push _ _ 0 0 ?_,?_,.push E _⟩
 ·refine⟨by simp[Gh.push],c,ty,?_,e.mono hle,d,b⟩;have: (G.push w.heap.size 0 0).aZ G.n=w.heap.size:=by simp[Gh.push]
  rw[this];exact arw _ _
 ·refine⟨Gh.Dg a,_,rfl,λ_=>?_⟩;simp[Gh.push,a.len]
def N9{z:List AV}{a:TypeId}(h:r7 z t=some a):t=a:=by
 unfold r7 at h
 grind
def aoO{z:Option (List AV)}{a:TypeId}(h: (z.bind λz=>r7 z t)=some a):t=a:=by
 cases z with
 |none=>cases h
 |some z=>exact N9 h
def aoP(d:aU P B av G E w){z:List AV}(c:gB P t=some z):
  mm P B av G E (.ptr E.heap.length 0) (E.push (.box z (r7 z t))) ((Instr.alloc t true (.tuple #[])).run P w):=by
 obtain⟨a,e,_,l,b,_⟩:=sa c G w;have: (Instr.alloc t true (.tuple #[])).run P w= .ok (.pointer (some ⟨w.heap.size,0,none⟩)) (w.alloc (.cells a.cells t)):=by
  simp[Instr.alloc,e,newVar,newRow]
 rw[this];exact Yf d t l b _ (λf h=>N9 h)
def aoQ(f:aU P B av G E w){x:AV}{b:Value}{tg:Option TypeId}(a: ∀c,tg=some c->t=c)(e:an G x b)(g:x.cb=false):
  mm P B av G E (.ptr E.heap.length 0) (E.push (.box x.cells tg)) ((Instr.box t b).run P w):=by
 obtain⟨l,d⟩:=e.cells g;exact Yf f t l d tg a
def Hr(g:aU P B av G E w){af:List (List AV)}{post:List Value}{cap:Nat}(ty:TypeId)(l:c.toList=vs++post)(j: ∀el∈af,el.length=sz)(k:bo G af vs)(i:Leaves vs)
  (e:c.size=cap*sz) (h:af.length<=cap) (len:Nat) (a:len=af.length)  (f:w'.heap=w.heap) (d:aU P B av G E w'):
  mm P B av G E (.ref E.heap.length 0 sz 0 len false) (E.push (.row 0 sz ty af)) (.ok (.slice (some ⟨w.heap.size,0,none⟩) len cap) (w'.alloc (.cells c ty))):=by
 subst a;rw[<-f];have b:=G.Ap w'.heap.size (cap*sz) sz;refine⟨G.push w'.heap.size (cap*sz) sz,_,_,rfl,b,d.push _ _ _ _ ?_,?_,.push E _⟩
 ·have e1: (G.push w'.heap.size (cap*sz) sz).aZ G.n=w'.heap.size:=by simp[Gh.push]
  refine⟨by simp[Gh.push],by simp[Gh.push],j,c,[],vs,post,?_,by grind,by simp[Gh.push],?_,k.mono b,i⟩
  ·rw[e1];exact arw _ _
  ·simp[Gh.push,e]
 ·refine⟨Gh.Dg d,by simp,_,cap,rfl,⟨h,rfl⟩,by simp,λ_=>⟨by simp[Gh.push,g.len],λ_=>by simp[Gh.push,g.len],by simp[Gh.push,g.len]⟩⟩
def aoR(a:aU P B av G E w)(t:TypeId):mm P B av G E (.mp E.heap.length) (E.push (.map [])) ((Instr.makeMap t none).run P w):=by
 have hle:=G.Ap w.heap.size 0 0;refine⟨G.push w.heap.size 0 0,_,_,rfl,hle,a.push _ _ 0 0 ?_,?_,.push E _⟩
 ·refine⟨by simp[Gh.push],#[],0,?_,by rfl⟩;have: (G.push w.heap.size 0 0).aZ G.n=w.heap.size:=by simp[Gh.push]
  rw[this];exact arw _ _
 ·exact⟨Gh.Dg a,_,rfl,λ_=>by simp[Gh.push,a.len]⟩
theorem aU.put(b:aU P B av G E w){id:Nat}(a:G.on id){o':ae}(refs:Nat)(ho:ig P G id (eA w (G.aZ id) O) o'):aU P B av G (E.set id o' refs) (eA w (G.aZ id) O):=
 b.set a o' refs G.le_refl rfl rfl (λ_ _ _=>rfl) (.inl rfl) (by rw[aob];exact(b.low id a).2) (λk c _=>XJ c) (by simp) rfl rfl rfl ho
def Oa(f:aU P B av G E w){id:Nat}{cs as:List AV}{tg:Option TypeId}(k:E.heap[id]?=some (.box cs tg))(l:G.pz id=none){a:List Value}{off:Nat}(j:aD G as a)(i:Leaves a)(h:off+as.length<=cs.length){refs:Nat}(s:aG as<=refs):
  Au P B av G E (E.set id (.box (aH cs off as) tg) refs) ((storeCells ⟨G.aZ id,off,none⟩ a).run P w):=by
 obtain⟨r,d,c,ty,q,b,e,g⟩:=Aq f k l;have p:=b.length;rw[anS]at p;have hu:=j.length;refine⟨G,_,?_,G.le_refl,f.put d refs (O:=.cells (kZ c off a) ty (0,0)) ?_,.set k λn o m=>?_⟩
 ·have:=NV (P:=P) a c w off 0 q (by omega) i;omega
 ·exact⟨r,_,ty,uy (f.low id d).2,b.aH j h,e.aH i (by omega),g⟩
 ·simp only[ae.le]at o⊢;have:=Yd (cs:=cs) (vs:=as) (off:=off);omega
def Yg(f:aU P B av G E w){id:Nat}{ty:TypeId}{af a:List (List AV)}{as:List AV}(s:E.heap[id]?=some (.row aj sz ty af))(m:G.pz id=none){b:List Value}{p:Nat}(q:aD G as b)(l:Leaves b)(h:p+as.length<=af.flatten.length)
  (v: ∀el∈a,el.length=sz) (r:a.flatten=aH af.flatten p as) {refs:Nat} (F:aG as<=refs):
  Au P B av G E (E.set id (.row aj sz ty a) refs) ((storeCells ⟨G.aZ id,G.base id+p,none⟩ b).run P w):=by
 obtain⟨D,i,u,c,pre,vs,post,C,A,o,hs,j,d⟩:=f.obj id _ s m;have e:G.on id:=⟨by rw[f.len];grind,m⟩;have k:=bo.iff.1 j;have t:=k.length;have g:=q.length;have z:c.size=pre.length+(vs.length+post.length):=by grind [Array.length_toList]
 refine⟨G,_,?_,G.le_refl,f.put e refs (O:=.cells (kZ c (G.base id+p) b) ty (0,0)) ?_,.set s λn y x=>?_⟩
 ·have:=NV (P:=P) b c w (G.base id+p) 0 C (by omega) l;omega
 ·refine⟨D,i,v,_,pre,vs.take p++(b++vs.drop (p+b.length)),post,uy (f.low id e).2,?_,o,by simp_all,?_,(d.take p).append (l.append (d.drop _))⟩
  ·rw[Hj _ _ _ (by omega),A,<-o];rw[azJ,ag8 (by omega:pre.length<=pre.length+p),ant,awC (by omega)];rw[anW,awD,al6 (by omega:pre.length<=pre.length+(p+b.length)),ant,aj8,aDB (by omega)];simp
  ·rw[bo.iff,r];unfold aH;rw[<-g];exact(k.take p).append (q.append (k.drop _))
 ·simp only[ae.le,wc]at y⊢;rw[r];have:=Yd (cs:=af.flatten) (vs:=as) (off:=p);omega
def aoS{af:List (List AV)}{el b:List AV}(g: ∀x∈af,x.length=sz)(e:af[i]?=some el)(off:Nat)(vs:List AV)(h:off+vs.length<=el.length)(f:b=aH el off vs):
  (af.set i b).flatten=aH af.flatten (i*sz+off) vs:=by
 subst f;have c:i<af.length:=(afA.1 e).1;have d:af.flatten=(af.take i).flatten++(el++(af.drop (i+1)).flatten):=by grind [List.take_append_drop,List.flatten_append,List.drop_eq_getElem_cons]
 have a: (af.take i).flatten.length=i*sz:=by grind [o5,List.mem_of_mem_take,List.length_take,Nat.min_eq_left,Nat.le_of_lt]
 rw[List.set_eq_take_append_cons_drop,afJ c,apu,arh];rw[d];unfold aH;rw[azJ,ag8 (by omega: (af.take i).flatten.length<=i*sz+off),a,ant,awC (by omega)];rw[anW,awD,al6 (by omega: (af.take i).flatten.length<=i*sz+(off+vs.length)),a,ant,aj8,aDB (by omega)];simp
def aoT(j:aU P B av G E w)(I:cn P t=some n){x v:AV}{f:Value}{C:AS}(g:an G x f)(D:an G v v')(h:kR E n x v=some C):
  Au P B av G E C ((Instr.storeAt t f v').run P w):=by
 have key: ∀ (b:Addr),f= .pointer (some b)->v.cb=false->v.cells.length=n->(Instr.storeAt t f v').run P w=(storeCells b v'.cells.toList).run P w/\aD G v.cells v'.cells.toList/\Leaves v'.cells.toList:=by
  rintro b rfl F L;obtain⟨l,K⟩:=D.cells F;have M:=l.length;simp only[Instr.storeAt,Sem.run_bind,Instr.sureAddr,Sem.run_pure,Result.andThen_ok,storeVar,nW I]
  grind
 unfold kR at h;split at h
 ·rename_i id off;split at h
  ·rename_i cs he;split at h
   ·rename_i p;obtain⟨u,s,J⟩:=p;cases h;simp only[an]at g;obtain⟨a,b,e,q⟩:=g;obtain⟨o,m,k⟩:=key b e u s;rw[o,q (Aq j he a.2).1];exact Oa j he a.2 m k (by omega) (by rw[Ye];exact ahd _)
   grind
  grind
 ·rename_i id aj i off;split at h
  ·rename_i A sz ty af he;split at h
   ·rename_i el d;split at h
    ·rename_i p;obtain⟨c0,z,u,s,J⟩:=p;subst c0;cases h;simp only[an]at g;obtain⟨a,_,b,e,q⟩:=g;obtain⟨o,m,k⟩:=key b e u s;obtain⟨g1,g2,r,_⟩:=j.obj id _ he a.2;rw[o,q g1,g2,anW];have H:i<af.length:=(afA.1 d).1;have hs:=aoS r d off v.cells (by omega) rfl;have hle:i*sz+sz<=af.flatten.length:=by
      rw[o5 r,<-arq];exact anU _ H
     exact Yg j he a.2 m k (by omega) (λy c=>by
      rcases List.mem_or_eq_of_mem_set c with c|c
      ·exact r y c
      ·rw[c,N8 (by omega)];exact z) hs (by rw[Ye];exact ahd _)
    ·cases h
   ·cases h
  ·cases h
 grind
end
section
variable{P:Program}{X:Ctx}{B:Nat}{av:World}
variable{G:Gh}{E:AS}{w:World}
theorem Hs(zc:Array Value)(b:0<zc.size): ∀ (k:Nat),(List.range (k*zc.size)).map (λi=>zc[i % zc.size]!)=(List.replicate k zc.toList).flatten
 |0=>by simp
 |k+1=>by
  have e: (k+1)*zc.size=zc.size+k*zc.size:=by grind
  rw[e,List.range_add,ahs,aDz,atT,arh,<-Hs zc b k]
  congr 1
  ·apply apg;intro j;by_cases a:j<zc.size
   ·simp[a,apy a]
   grind
  simp_all
theorem Dn{z:List AV}{vs:List Value}(a:aD G z vs): ∀ (k:Nat),bo G (List.replicate k z) (List.replicate k vs).flatten
 |0=>by rfl
 |k+1=>by
  exact⟨_,_,rfl,a,Dn a k⟩
theorem Ht(h:Leaves vs)(k:Nat):Leaves (List.replicate k vs).flatten:=by
 intro v a;simp only[List.mem_flatten,List.mem_replicate]at a;obtain⟨l,⟨_,rfl⟩,a⟩:=a;exact h v a
def Yh(h:x0 P t=some n): ∃i,P.info? t=some i/\i.bytes=n:=by
 unfold x0 at h;simp_all
def Yi(h:cn P t=some n): ∃i,P.info? t=some i/\i.size=n:=by
 unfold cn at h;simp_all
def Ob{i:TypeInfo}{z:Value}(a:P.info? t=some i)(h:zeroV P t=some z):i.zero=some z:=by
 unfold zeroV at h;grind
def aoU(m:aU P B av G E w){z:List AV}{bytes:Nat}(F:P.underlying t=some (.slice e))(D:gB P e=some z)(C:x0 P e=some bytes)(x:0<z.length)
  {l c:AV} {k q:Value} {v:AV} {r:AS} (n:an G l k) (p:an G c q) (h:NQ E e z bytes l c=some (v,r)):mm P B av G E v r ((Instr.makeSlice t k q).run P w):=by
 unfold NQ at h;split at h
 ·rename_i s l u c;split at h
  ·rename_i A;obtain⟨K,J,I,H⟩:=A;cases h;simp only[an]at n p;subst n p;obtain⟨i,o,rfl⟩:=Yh C;obtain⟨b,_,f,lz,d,j⟩:=sa D G w;have a:i.size=z.length:=by unfold cn at j;grind
   have g:b.cells.size=z.length:=by exact lz.length
   rw[run_make w t e i b F o (Ob o f) s u l c K J (by rw[Int.mul_comm];simp only[room]at I;omega) (by simp only[room]at H;omega)];have hm: (madeCells b.cells (c.toNat*i.size)).toList=(List.replicate l.toNat b.cells.toList).flatten++(List.replicate (c.toNat-l.toNat) b.cells.toList).flatten:=by
    unfold madeCells;rw[a,<-g,Array.toList_map,Array.toList_range,Hs _ (by omega)];rw[<-apu,aDl]
    grind
   refine Hr m e hm (λel y=>by grind) (Dn lz _) (Ht d _) (cap:=c.toNat) ?_ (by rw[List.length_replicate];omega) l.toNat (by simp) rfl m;simp[madeCells,a]
  grind
 grind
def aoV(k:aU P B av G E w){s d:TypeId}(p:P.underlying s=some .string)(o:P.underlying d=some (.slice e))(n:P.underlying e=some (.int .u8))(b:ByteArray):
  mm P B av G E (.sl (rV b) false) E ((convert s d (.string b)).run P w):=by
 rw[run_bytes_of_string w s d e b p o n];have a:b.data.toList.length=b.size:=by simp
 obtain⟨hle,c⟩:=k.drew.XI (bytesRow b (grownCap w b.size 0 e)) e ((bytesRow b (grownCap w b.size 0 e)).size,(bytesRow b (grownCap w b.size 0 e)).size+1) (b.data.toList.map λx=>Value.int .u8 x.toNat) (λj v h=>by
  unfold bytesRow
  grind)
 refine⟨_,_,_,rfl,hle,c,?_,.refl E⟩;have m: ∀ (G:Gh) (l:lB),bo G (l.map λx=>[AV.int .u8 x.toNat]) (l.map λx=>Value.int .u8 x.toNat):=by
  intro G l
  induction l with
  |nil=>rfl
  |cons x xs i=>exact⟨[_],_,rfl,by simp[aD,an],i⟩
 refine⟨w.heap.size,0,grownCap w b.size 0 e,1,_,?_,?_,by simp,?_,?_,?_,m _ _⟩
 ·simp[rV,a]
 ·simp only[rV,ahh,a];exact aCS w b.size 0 e
 ·intro el f;simp only[rV,ahk]at f
  grind
 ·intro j v h;simp only[Gh.freeze,ans];rw[afJ (show w.heap.size=w.drew.heap.size from rfl)];exact h
 ·intro v g;simp only[ahk]at g;obtain⟨x,_,rfl⟩:=g;rfl
def Yj{z:List AV}{len:Nat}(q:P.underlying t=some (.slice e))(J:gB P e=some z)(A:0<z.length)(C:len*z.length<=65536)
   {f:Env}  (I:cC G nt f a.tmps) {j:Array (Nat×Operand)} {l:List (Nat×Nat×ao)}
  (F:parts (λi=>some (i*z.length,z.length)) j.toList=some l) {cs:List AV} (H:ea (List.replicate len z).flatten (l.map λp=>(p.1,p.2.1,p.2.2.get f))=some cs) (w:World):
  ∃c:Array Value,(Instr.buildSlice t len (j.map λ (i,x)=>(i,a.eval x))).run P w= .ok (.slice (some ⟨w.heap.size,0,none⟩) len len) (w.alloc (.cells c e))/\aD G cs c.toList/\Leaves c.toList:=by
 obtain⟨b,D,k,lz,u,m⟩:=sa J G w;obtain⟨i,o,d⟩:=Yi m;have y:b.cells.size=z.length:=by exact lz.length
 have hm: ((Array.range (len*i.size)).map (b.cells[· % b.cells.size]!)).toList=(List.replicate len b.cells.toList).flatten:=by grind [Array.toList_map,Array.toList_range,Hs]
 obtain⟨c,K,r,v⟩:=Hq (Dm:=λi=>some (i*z.length,z.length)) I (λi p h=>h) j.toList l _ cs ((Array.range (len*i.size)).map (b.cells[· % b.cells.size]!)) F H
  (by rw[hm];exact bo.iff.1 (Dn lz len)) (by grind [Ht])
 refine⟨c,?_,r,v⟩;have g:Instr.fill (λx=>some (x*i.size,i.size)) ((Array.range (len*i.size)).map (b.cells[· % b.cells.size]!)) (j.map λ (i,x)=>(i,a.eval x)).toList=some c:=by simp_all
 by_cases s:len*i.size=0
 ·have n:len=0:=by
    rcases Nat.mul_eq_zero.1 s with h|h
    ·exact h
    ·omega
  subst n;simp[Instr.buildSlice,afM q,sizeOf,typeInfo,o,newRow,Array.range_zero'];simp[Array.range_zero']at g;simp_all
 ·exact run_buildSlice w t e len _ c i b q o (Ob o k) (by rw[d];omega) s g
def aoW(n:aU P B av G E w){z:List AV}{len:Nat}(A:P.underlying t=some (.slice e))(y:gB P e=some z)(d:0<z.length)(g:len*z.length<=65536)
   {b:Env}  (s:cC G nt b a.tmps) {h:Array (Nat×Operand)} {l:List (Nat×Nat×ao)}
  (o:parts (λi=>some (i*z.length,z.length)) h.toList=some l) {cs:List AV} (q:ea (List.replicate len z).flatten (l.map λp=>(p.1,p.2.1,p.2.2.get b))=some cs) (u:cs.length=len*z.length):
  mm P B av G E (.sl (chunks z.length len cs) true) E ((Instr.buildSlice t len (h.map λ (i,x)=>(i,a.eval x))).run P w):=by
 obtain⟨c,C,r,m⟩:=Yj A y d g s o q w;rw[C];obtain⟨hle,f⟩:=n.XI c e (0,0) c.toList (λj v k=>by grind);refine⟨_,_,_,rfl,hle,f,?_,.refl E⟩;refine⟨w.heap.size,0,len,z.length,c.toList,by simp,by simp,λ_=>by simp,Dj (by omega),?_,m,?_⟩
 ·intro j v k;simp only[Gh.freeze,ans,aiZ];exact k
 ·rw[bo.iff,chunks_flatten (by omega),ag8 (by omega)];exact r.mono hle
def aoX(h:aU P B av G E w){z:List AV}{len:Nat}(u:P.underlying t=some (.slice e))(s:gB P e=some z)(d:0<z.length)(f:len*z.length<=65536)
   {b:Env}  (o:cC G nt b a.tmps) {g:Array (Nat×Operand)} {l:List (Nat×Nat×ao)}
  (m:parts (λi=>some (i*z.length,z.length)) g.toList=some l) {cs:List AV} (n:ea (List.replicate len z).flatten (l.map λp=>(p.1,p.2.1,p.2.2.get b))=some cs) (q:cs.length=len*z.length):
  mm P B av G E (.ref E.heap.length 0 z.length 0 len false) (E.push (.row 0 z.length e (chunks z.length len cs))) ((Instr.buildSlice t len (g.map λ (i,x)=>(i,a.eval x))).run P w):=by
 obtain⟨c,v,r,j⟩:=Yj u s d f o m n w;rw[v];have k:=r.length;refine Hr h e (vs:=c.toList) (post:=[]) (by simp) (Dj (by omega)) ?_ j (cap:=len) (by grind) (by simp) len (by simp) rfl h;rw[bo.iff,chunks_flatten (by omega),ag8 (by omega)];exact r
theorem Oc: ∀ {ps:List (Nat×Nat×AV)} {cs a:List AV},ea cs ps=some a->a.length=cs.length
 | [],cs,a,h=>by simp only[ea,afE]at h;grind
 | (off,n,v)::ps,cs,a,h=>by
   simp only[ea]at h;split at h
   ·rw[Oc h,N8 (by omega)]
   grind
end
section
variable{P:Program}{X:Ctx}{B:Nat}{av:World}
variable{G:Gh}{E:AS}{w:World}
def Gh.ef(G:Gh)(id b base dU:Nat):Gh:=
 {G with aZ:=λi=>if i=id then b else G.aZ i,base:=λi=>if i=id then base else G.base i,aj:=λi=>if i=id then G.aj i+1 else G.aj i,dU:=λi=>if i=id then dU else G.dU i}
def Gh.Yk(G:Gh)(id b base dU:Nat):G.le (G.ef id b base dU):=by
 refine .mk' (λ_ _ _ h=>h) (ahd _) (λ_ _=>rfl) (λi _=>?_) (λi _ h=>?_)
 ·simp only[Gh.ef];grind
 ·simp only[Gh.ef]at h;split at h
  ·omega
  ·rename_i a;simp[Gh.ef,a]
structure Od(P:Program)(w:World)(sz:Nat)(xt:TypeId)(x':Value)(n:Nat)(new:List Value):Prop where
 len: (Builtin.lenOf x').run P w= .ok n w
 cells: ∀w',w'.heap=w.heap->(Builtin.firstCells sz n x').run P w'= .ok new.toArray w'
 type: (∃e,P.underlying xt=some (.slice e))\/P.underlying xt=some .string
def Dp{j ty:TypeId}{i:TypeInfo}(d:P.underlying t=some (.slice e))(f:P.info? e=some i){k:Value}{c:List Value}(b:Od P w i.size j k n c)
  {base:Option Addr} {jf mn:Nat} (h:jf+n<=mn)  (l: ∀a,base=some a->(storeCells (a.add (jf*i.size)) c).run P w= .ok () w') (m:base=none->w'=w):
  (Builtin.append_ #[t,j] ty #[.slice base jf mn,k]).run P w= .ok (.slice base (jf+n) mn) w':=by
 have g:=b.cells w rfl;cases base with
 |none=>
  have:=m rfl;subst this;rcases b.type with⟨o,hu⟩|hu
  ·simp[Builtin.append_,afM d,afM hu,sizeOf,typeInfo,f,b.len,g,h]
  ·simp[Builtin.append_,afM d,afM hu,sizeOf,typeInfo,f,b.len,g,h]
 |some a=>
  have:=l a rfl;rcases b.type with⟨o,hu⟩|hu
  ·simp[Builtin.append_,afM d,afM hu,sizeOf,typeInfo,f,b.len,g,h,this]
  ·simp[Builtin.append_,afM d,afM hu,sizeOf,typeInfo,f,b.len,g,h,this]
def Hu{j ty:TypeId}{i:TypeInfo}{z:Value}(m:P.underlying t=some (.slice e))(p:P.info? e=some i)(l:i.zero=some z){k:Value}{c:List Value}(g:Od P w i.size j k n c)
  {base:Option Addr} {jf mn:Nat} (h:mn<jf+n) {dB:List Value} (hold: ∀w',w'.heap=w.heap->(Builtin.firstCells i.size jf (.slice base jf mn)).run P w'= .ok dB.toArray w') (s:0<i.bytes) (b: (jf+n)*i.bytes<=room):
  (Builtin.append_ #[t,j] ty #[.slice base jf mn,k]).run P w= .ok (.slice (some ⟨w.heap.size,0,none⟩) (jf+n) (grownCap w (jf+n) mn e))
    (w.drew.alloc (.cells (dB.toArray++c.toArray++Builtin.zeroCells z.cells (grownCap w (jf+n) mn e- (jf+n))) e)):=by
 have o: ¬(jf+n<=mn):=by omega
 have q:=growslice_fits (bytes:=i.bytes) h (by simp only[room]at b;omega);have a: ¬(281474976710656<Builtin.nextslicecap (jf+n) mn*i.bytes):=by omega
 have f:i.bytes≠0:=by omega
 have r:=g.cells w.drew rfl;have d:=hold w.drew rfl;rcases g.type with⟨u,hu⟩|hu
 ·simp[Builtin.append_,afM m,afM hu,sizeOf,typeInfo,zeroValue,p,l,g.len,o,a,f,Question.forced,r,d,newRow,grownCap]
  congr 2;apply arD;simp[afL]
 ·simp[Builtin.append_,afM m,afM hu,sizeOf,typeInfo,zeroValue,p,l,g.len,o,a,f,Question.forced,r,d,newRow,grownCap]
  congr 2;apply arD;simp[afL]
def Oe(c:aU P B av G E w){af:List (List AV)}{z:Value}{zc:Nat}(e:TypeId)(b:z.cells.size=sz)(d: ∀el∈af,el.length=sz)(g:bo G af vs)(h:Leaves vs)(a dB:Nat)(f:a=af.length):
  mm P B av G E (.ref E.heap.length 0 sz 0 a false) (E.push (.row 0 sz e af)) (.ok (.slice (some ⟨w.heap.size,0,none⟩) a (grownCap w a dB e))
   (w.drew.alloc (.cells (vs.toArray++Builtin.zeroCells z.cells (grownCap w a dB e-a)) e))):=by
 have i:=aCS w a dB e;refine Hr c e (post:=(Builtin.zeroCells z.cells (grownCap w a dB e-a)).toList) (by simp) d g h (cap:=grownCap w a dB e) ?_ (by omega) a f rfl c.drew;have:=g.len d;simp only[aDu,aDk,aDq,b,this,<-f];rw[<-arp];grind
def Yl{a b:List (List AV)}{u v:List Value}(h:bo G a u)(k:bo G b v):bo G (a++b) (u++v):=by
 rw[bo.iff,apu];exact(bo.iff.1 h).append (bo.iff.1 k)
theorem AS.Ext.ef{E:AS}{id:Nat}{d:Nat}{ty c:TypeId}{af a:List (List AV)}{refs:Nat}(f:E.heap[id]?=some (.row aj sz ty af))(h:b8 a<=max (b8 af) refs):E.Ext (E.set id (.row b d c a) refs):=
 .set f λn e hr=>by simp only[ae.le]at e⊢;omega
def aoY(l:aU P B av G E w){xt ty:TypeId}{bytes:Nat}(C:P.underlying t=some (.slice e))(h2:cn P e=some sz)(h3:x0 P e=some bytes)(hz: (gB P e).isSome=true)(hb:0<bytes)
  {s v:AV} {s' x':Value} {ys:List (List AV)} {d:List Value} {E':AS} (x:an G s s') (Q:bo G ys d) (lf:Leaves d) (p:Od P w sz xt x' ys.length d)
  (h:dx E e sz bytes s ys=some (v,E')):mm P B av G E v E' ((Builtin.append_ #[t,xt] ty #[s',x']).run P w):=by
 obtain⟨i,z,rfl⟩:=Yh h3;have oZ:i.size=sz:=by unfold cn at h2;simpa[z]using h2
 subst oZ;obtain⟨zz,hzz⟩:=aum.1 hz;obtain⟨z',_,hzv,lz,_,V⟩:=sa hzz G w;have H:=Ob z hzv;have F:z'.cells.size=i.size:=by
  have:cn P e=some i.size:=h2;rw[this]at V;rw[<-anS,lz.length];exact(amP V).symm
 unfold dx at h;split at h
 ·rename_i hc;obtain⟨Ym,uD⟩:=hc;have hu:=N7 uD;split at h
  ·simp only[an]at x;subst x;split at h
   ·rename_i g;cases h;have U:d=[]:=by
     have:=Q.len hu;rw[g]at this;exact amK.1 (by simpa using this)
    rw[g]at p;have:=Dp (ty:=ty) C z p (base:=none) (jf:=0) (mn:=0) (by simp) (w':=w) (by simp) (λ_=>rfl);rw[this];exact⟨G,w,_,rfl,G.le_refl,l,by simp[an],.refl E⟩
   ·rename_i g;split at h
    ·rename_i hr;cases h;rw[Hu C z H p (by omega) (dB:=[]) (λw' _=>by simp[Builtin.firstCells]) hb (by simpa using hr)];have:=Oe (zc:=0) l e F hu Q lf ys.length 0 rfl;simpa using this
    ·cases h
  ·rename_i af;have r:=x;simp only[an]at x;obtain⟨b,o,cap,sz,vs,rfl,d1,d2,d3,hf,D,m⟩:=x;have K:=d2 trivial;subst K;split at h
   ·rename_i g;cases h;have U:d=[]:=by
     have:=Q.len hu;rw[g]at this;exact amK.1 (by simpa using this)
    rw[g]at p;have:=Dp (ty:=ty) C z p (base:=some ⟨b,o,none⟩) (jf:=af.length) (mn:=af.length) (by omega) (w':=w) (λa _=>by rw[U];simp[storeCells]) (by simp);rw[this];exact⟨G,w,_,rfl,G.le_refl,l,r,.refl E⟩
   ·rename_i g;split at h
    ·rename_i hr;obtain⟨hr,T⟩:=hr;have Y:=N7 T;cases h;have W:=m.len Y;rw[Hu C z H p (by omega) (dB:=vs) (λw' hh=>by
      simp only[Builtin.firstCells];exact run_loadCells vs W (λj u q=>by
       have:=l.bt _ _ _ (hf j u q);simp only[World.cell?,hh]at this⊢;exact this)) hb hr]
     have:=Oe (zc:=0) (af:=af++ys) l e F (λel R=>(ahb.1 R).elim (Y el) (hu el)) (Yl m Q) (D.append lf) (af.length+ys.length) af.length (by simp);simpa using this
    ·cases h
  ·rename_i af;have r:=x;simp only[an]at x;obtain⟨b,o,cap,sz,vs,rfl,d1,d2,d3,hf,D,m⟩:=x;split at h
   ·rename_i g;cases h;have U:d=[]:=by
     have:=Q.len hu;rw[g]at this;exact amK.1 (by simpa using this)
    rw[g]at p;have:=Dp (ty:=ty) C z p (base:=some ⟨b,o,none⟩) (jf:=af.length) (mn:=cap) (by omega) (w':=w) (λa _=>by rw[U];simp[storeCells]) (by simp);rw[this];exact⟨G,w,_,rfl,G.le_refl,l,r,.refl E⟩
   ·cases h
  ·rename_i id aj aCQ off len cx;have r:=x;simp only[an]at x;obtain⟨f,aCR,ad,cap,rfl,d1,d2,d3⟩:=x;split at h
   ·rename_i Hv sz' ty' af he;split at h
    ·rename_i hc;obtain⟨c1,c2,c3,c4,c5,c6⟩:=hc;subst c1 c2 c3;have c4:=c4.symm;subst c4;obtain⟨g1,g2,g3,c,pre,vs,post,Yn,o6,J,N,m,D⟩:=l.obj id _ he f.2;obtain⟨f1,f2,f3⟩:=d3 g1;have W:=m.len g3;have hmul:off*i.size+len*i.size<=af.length*i.size:=by rw[<-arp];exact anU _ c5
     have I:=Q.len hu;have hold: ∀w',w'.heap=w.heap->(Builtin.firstCells i.size len (.slice (some ad) len cap)).run P w'= .ok ((vs.drop (off*i.size)).take (len*i.size)).toArray w':=by
      intro w' hh;simp only[Builtin.firstCells];by_cases h0:len=0
      ·subst h0;simp[loadCells,loadCellsFrom]
      ·rw[f2 (by omega)];refine run_loadCells _ (by simp;omega) (λj u q=>?_);have S:w'.cell? ⟨G.aZ id,G.base id+off*i.size+j,none⟩=c[G.base id+off*i.size+j]?:=cell_of_row w' _ _ c e (0,0) (by rw[hh];exact Yn);rw[S];rw[apj]at q;split at q
       ·rw[anR]at q;have Z:=(afA.1 q).1;have:c.toList[G.base id+off*i.size+j]?=some u:=by
         rw[o6,ahr (by omega),aeT (by omega),<-q]
         congr 1;omega
        simpa using this
       ·cases q
     have M: ∀el∈(af.drop off).take len++ys,el.length=i.size:=λel R=>(ahb.1 R).elim (λh=>g3 el (arc (al8 h))) (hu el)
     have y:bo G ((af.drop off).take len++ys) ((vs.drop (off*i.size)).take (len*i.size)++d):=Yl (m.slice g3) Q;have L:Leaves ((vs.drop (off*i.size)).take (len*i.size)++d):=((D.drop _).take _).append lf;have O: ((af.drop off).take len++ys).length=len+ys.length:=by simp;omega
     split at h
     ·rename_i g;cases h;have U:d=[]:=by
       rw[g]at I;exact amK.1 (by simpa using I)
      rw[g]at p;have:=Dp (ty:=ty) C z p (base:=some ad) (jf:=len) (mn:=cap) (by omega) (w':=w) (λa _=>by rw[U];simp[storeCells]) (by simp);rw[this];exact⟨G,w,_,rfl,G.le_refl,l,r,.refl E⟩
     ·rename_i g;split at h
      ·rename_i hcp;cases h;have K:=d2 hcp;rw[Hu C z H p (by omega) hold hb c6];have:=Oe (zc:=0) l e F M y L (len+ys.length) cap O.symm;simpa using this
      ·cases h;have hrefs:b8 ((af.drop off).take len++ys)<=max (b8 af) (b8 ys):=by
        rw[wc,wc (af:=af),wc (af:=ys),apu,uB,XQ g3];have C:=Yb (a:=af.flatten.drop (off*i.size)) (n:=len*i.size);have h2:=Yc (a:=af.flatten) (n:=off*i.size);omega
       by_cases A:len+ys.length<=cap
       ·have Yo:=f2 (by omega);have Yp:len*i.size+d.length<=cap*i.size:=by rw[I,<-arp];exact anU _ A
        have uE:=NV (P:=P) d c w (G.base id+off*i.size+len*i.size) 0 Yn (by omega) lf;rw[Dp (ty:=ty) C z p (base:=some ad) A (w':=eA w (G.aZ id) (.cells (kZ c (G.base id+off*i.size+len*i.size) d) e (0,0))) (λa hae=>by
         cases hae;rw[Yo,je];simpa using uE) (by simp)]
        have hle:=G.Yk id (G.aZ id) (G.base id+off*i.size) (G.dU id-off*i.size);refine⟨G.ef id (G.aZ id) (G.base id+off*i.size) (G.dU id-off*i.size),_,_,rfl,hle,?_,?_,.ef he hrefs⟩
        ·refine l.set f _ _ hle rfl rfl (λj _ q=>by simp[Gh.ef,q]) (.inl (by simp[Gh.ef])) (by simp[Gh.ef];exact(l.low id f).2) (λk hk _=>XJ hk) (by simp) rfl rfl rfl ?_;refine⟨by simp[Gh.ef,g1],by simp[Gh.ef,g2],M,kZ c (G.base id+off*i.size+len*i.size) d,pre++vs.take (off*i.size),(vs.drop (off*i.size)).take (len*i.size)++d,
          (vs++post).drop (off*i.size+(len*i.size+d.length)),?_,?_,?_,?_,y.mono hle,L⟩
         ·have: (G.ef id (G.aZ id) (G.base id+off*i.size) (G.dU id-off*i.size)).aZ id=G.aZ id:=by simp[Gh.ef]
          rw[this];exact uy (l.low id f).2
         ·rw[Hj _ _ _ (by omega),o6,<-J,anW];rw[azJ,ag8 (by omega:pre.length<=pre.length+(off*i.size+len*i.size)),ant,awC (by omega)];rw[anW pre.length,awD,al6 (by omega:pre.length<=pre.length+(off*i.size+len*i.size+d.length)),ant,aj8];rw[List.take_add];simp[anW]
         ·simp[Gh.ef,J];omega
         ·simp[Gh.ef,N];omega
        ·refine⟨f,by simp[Gh.ef,g1],ad,cap,rfl,⟨A,d1.2⟩,by simp,λ_=>⟨by simp[Gh.ef,g2],λ_=>by simp[Gh.ef,Yo],by simp[Gh.ef];omega⟩⟩
       ·rw[Hu C z H p (by omega) hold hb c6];have hg:=aCS w (len+ys.length) cap e;have hle:=G.Yk id w.heap.size 0 (grownCap w (len+ys.length) cap e*i.size);have aCT:=(l.low id f).2;refine⟨G.ef id w.heap.size 0 (grownCap w (len+ys.length) cap e*i.size),_,_,rfl,hle,?_,?_,.ef he hrefs⟩
        ·refine l.set f _ _ hle rfl rfl (λj _ q=>by simp[Gh.ef,q]) (.inr (by simp[Gh.ef])) (by simp[Gh.ef]) (λk hk Z=>heap_alloc_old w.drew _ k Z) (by simp) rfl rfl rfl ?_;refine⟨by simp[Gh.ef,g1],by simp[Gh.ef,g2],M,((vs.drop (off*i.size)).take (len*i.size)).toArray++d.toArray++Builtin.zeroCells z'.cells (grownCap w (len+ys.length) cap e- (len+ys.length)),[],(vs.drop (off*i.size)).take (len*i.size)++d,(Builtin.zeroCells z'.cells (grownCap w (len+ys.length) cap e- (len+ys.length))).toList,?_,?_,by simp[Gh.ef],?_,y.mono hle,L⟩
         ·have: (G.ef id w.heap.size 0 (grownCap w (len+ys.length) cap e*i.size)).aZ id=w.heap.size:=by simp[Gh.ef]
          rw[this];exact arw w.drew _
         ·simp
         ·have hvn: ((vs.drop (off*i.size)).take (len*i.size)).length=len*i.size:=by simp;omega
          simp only[aDu,aDk,aDq,F,hvn,I,Gh.ef,aiZ];rw[<-arp,<-arp,ans];congr 1;omega
        ·refine⟨f,by simp[Gh.ef,g1],_,_,rfl,⟨hg,rfl⟩,by simp,λ_=>⟨by simp[Gh.ef,g2],λ_=>by simp[Gh.ef],by simp[Gh.ef]⟩⟩
    ·cases h
   ·cases h
  ·cases h
 grind
end
section
variable{P:Program}{X:Ctx}{B:Nat}{av:World}
variable{G:Gh}{E:AS}{w:World}
def ao5(i:aU P B av G E w){d ty j:TypeId}{bytes:Nat}(z:P.underlying t=some (.slice e))(c:P.underlying d=some (.slice j))(y:cn P e=some sz)(u:x0 P e=some bytes)(m: (gB P e).isSome=true)(r:0<bytes)
  {s v x:AV} {g f:Value} {ys:List (List AV)} {k:AS} (p:an G s g) (o:an G x f) (n:elems E sz x=some ys) (h:dx E e sz bytes s ys=some (v,k)):
  mm P B av G E v k ((Builtin.append_ #[t,d] ty #[g,f]).run P w):=by
 obtain⟨vs,q,l,hu,b,⟨a,cap,rfl,_⟩,C⟩:=Ya i o n;refine aoY i z y u m r p q l ⟨by rfl,λw' A=>?_,.inl ⟨j,c⟩⟩ h
 grind
def ao6(l:lB):bo G (l.map λx=>[AV.int .u8 x.toNat]) (l.map λx=>Value.int .u8 x.toNat):=by
 induction l with
 |nil=>rfl
 |cons x xs a=>exact⟨[_],_,rfl,by simp[aD,an],a⟩
def Yq{a:EK}(h:Al P t=some a): ∃u,P.underlying t=some u/\kindOk a u/\ (a= .bool\/a= .int\/a= .str):=by
 unfold Al at h;split at h
 ·rename_i hu;cases h;exact⟨_,hu,rfl,.inl rfl⟩
 ·rename_i hu;cases h;exact⟨_,hu,⟨_,rfl⟩,.inr (.inl rfl)⟩
 ·rename_i hu;cases h;exact⟨_,hu,rfl,.inr (.inr rfl)⟩
 grind
def Yr{a:EK}{k:AV}(h:kS a k=true):isKey k=true:=by
 cases a<;>cases k<;>simp[kS]at h<;>rfl
def Hw{g:EK}{u:TypeDesc}{k d:AV}{k' a:Value}{b:Bool}(j:kS g k=true)(i:kindOk g u)(m:an G k k')(l:an G d a)(h:oX k d=some b):
  Instr.sameNow u k' a=some b/\ (b=true->Instr.sameBits 10000 a k'=true):=by
 unfold oX at h;split at h
 ·split at h
  ·rename_i e;subst e;cases h;subst m l;cases g<;>simp[kS]at j;obtain⟨q,rfl⟩:=i;refine⟨by simp[Instr.sameNow],λf=>?_⟩;have c:=eq_of_beq f;subst c;simp[Instr.sameBits]
  grind
 ·cases h;subst m l;cases g<;>simp[kS]at j;subst i;refine⟨by rfl,λf=>?_⟩;rw[beq_toListBytes]at f;have c:=eq_of_beq f;simp only[Instr.sameBits];rw[beq_toListBytes,c];simp
 ·cases h;subst m l;cases g<;>simp[kS]at j;simp only[kindOk]at i;subst i;refine⟨by rfl,λf=>?_⟩;have c:=eq_of_beq f;subst c;simp[Instr.sameBits]
 grind
theorem Of{g:EK}{u:TypeDesc}{k:AV}{k':Value}(d:kS g k=true)(c:kindOk g u)(e:an G k k'): ∀ (es:List (AV×AV)) (ms:List MapEntry) (i:Nat) (r:Option AV),eN G es ms->dS k es=some r->
  match r with
  |none=>Instr.findNow u k' ms i=some none
  |some v=> ∃j v',Instr.findNow u k' ms i=some (some (j,v'))/\an G v v'
 | [],ms,i,r,hm,h=>by
   subst hm;simp only[dS,afE]at h;subst h;simp[Instr.findNow]
 | (k₂,f)::es,ms,i,r,hm,h=>by
   obtain⟨m,q,rfl,_,a,b,hm⟩:=hm;simp only[dS]at h;split at h
   ·rename_i he;cases h;have:=(Hw d c e a he).1;exact⟨i,m.val,by simp[Instr.findNow,this],b⟩
   ·rename_i he;have hs:=(Hw d c e a he).1;have l:=Of d c e es q (i+1) r hm h;cases r with
    |none=>simpa[Instr.findNow,hs]using l
    |some v=>simpa[Instr.findNow,hs]using l
   grind
def ao7{u:TypeDesc}(h:P.underlying t=some u)(a:u= .bool\/ (∃k,u= .int k)\/u= .string)(b:Bool)(n:Nat)(v:Value)(w:World): (Instr.checkKey b (n+1) t v).run P w= .ok () w:=by
 rcases a with rfl| ⟨q,rfl⟩|rfl<;>simp[Instr.checkKey,afM h]
def Og{a:EK}{u:TypeDesc}(h:P.underlying t=some u)(d:kindOk a u)(c:a= .bool\/a= .int\/a= .str)(b:Bool)(v:Value)(w:World): (Instr.checkKey b 10000 t v).run P w= .ok () w:=by
 refine ao7 h ?_ b 9999 v w;rcases c with rfl|rfl|rfl
 ·exact .inl d
 ·exact .inr (.inl d)
 ·exact .inr (.inr d)
def ao8(N:aU P B av G E w){X:Ctx}(Q:fo X B av){L I:TypeId}{M:EK}{z:AV}(H:P.underlying t=some (.map L I))(S:Al P L=some M)(R:x4 P I=some z){m k v:AV}{m' k':Value}{d:Bool}(s:an G m m')(O:an G k k')
  (h:gP X.fb E M z m k d=some v): ∃v',(Instr.lookup t m' k' d).run P w= .ok v' w/\an G v v':=by
 obtain⟨u,hu,n,F⟩:=Yq S;obtain⟨J,U,_,rz⟩:=N2 R G w;unfold gP at h;split at h
 ·rename_i l;split at h
  ·rename_i es a;obtain⟨c,ms,D,y,f⟩: ∃ (c:List (AV×AV)) (ms:Array MapEntry),(m'= .map none/\ms= #[]\/ ∃r clock,m'= .map (some r)/\w.heap[r]?=some (.map ms clock))/\eN G c ms.toList/\ ∀k v,dS k es=some v->dS k c=some v:=by
    unfold mapOf at a;split at a
    ·cases a;simp only[an]at s;subst s;exact⟨[],#[],.inl ⟨rfl,rfl⟩,by simp[eN],λ_ _ h=>h⟩
    ·rename_i g;obtain⟨c,r,ms,clock,e1,Y,e3,W⟩:=Q.aoe N a s;exact⟨c,ms,.inr ⟨r,clock,e1,Y⟩,e3,W⟩
    ·rename_i id;split at a
     ·rename_i c he;cases a;obtain⟨T,ms,clock,A,hr⟩:=N.obj id _ he s.Hh;simp only[an]at s;obtain⟨_,r,rfl,C⟩:=s;have V:=C T;subst V;exact⟨_,ms,.inr ⟨_,clock,rfl,A⟩,hr,λ_ _ h=>h⟩
     ·cases a
    ·cases a
   have az: ∀ (r:Option (Nat×Value)) (v:Value),Instr.findNow u k' ms.toList 0=some r->(match r with|some (_,x)=>v=x|none=>(zeroValue I).run P w= .ok v w)->
     (Instr.lookup t m' k' d).run P w= .ok (if d then .tuple #[v,.bool r.isSome]else v) w:=by
    intro r v i hr;have o:=λb=>Og hu n F b k' w
    rcases D with⟨rfl,rfl⟩| ⟨q,clock,rfl,A⟩
    ·cases r with
     |none=>simp only at hr;cases d<;>simp[Instr.lookup,afM H,o,Instr.findKey,afM hu]<;>(simp at i;simp[i,hr])
     |some p=>obtain⟨j,x⟩:=p;simp only at hr;subst hr;simp[Instr.findNow]at i
    ·cases r with
     |none=>simp only at hr;cases d<;>simp[Instr.lookup,afM H,o,Instr.findKey,afM hu,hr,getObj,Sem.run,A,i]
     |some p=>obtain⟨j,x⟩:=p;simp only at hr;subst hr;cases d<;>simp[Instr.lookup,afM H,o,Instr.findKey,afM hu,getObj,Sem.run,A,i]
   split at h
   ·rename_i K i;cases h;obtain⟨j,v',e,rv⟩:=Of l n O c ms.toList 0 _ y (f _ _ i);refine⟨if d then .tuple #[v',.bool true]else v',?_,?_⟩
    ·exact az _ _ e rfl
    ·cases d
     ·exact rv
     ·exact⟨_,rfl,⟨_,_,rfl,rv,⟨_,_,rfl,by simp[an],by simp[aD]⟩⟩⟩
   ·rename_i i;cases h;have e:=Of l n O c ms.toList 0 _ y (f _ _ i);refine⟨if d then .tuple #[J,.bool false]else J,?_,?_⟩
    ·exact az _ _ e U
    ·cases d
     ·exact rz
     ·exact⟨_,rfl,⟨_,_,rfl,rz,⟨_,_,rfl,by simp[an],by simp[aD]⟩⟩⟩
   grind
  grind
 grind
theorem Ys{t:EK}{u:TypeDesc}{k v:AV}{k' v':Value}(g:kS t k=true)(p:kindOk t u)(n:an G k k')(o:an G v v'): ∀ (es b:List (AV×AV)) (ms:List MapEntry) (i:Nat),eN G es ms->lM k v es=some b->
  (Instr.findNow u k' ms i=some none/\ ∀born,eN G b (ms++[{key:=k',val:=v',born}]))\/
  ∃j a m,Instr.findNow u k' ms i=some (some (i+j,a))/\ms[j]?=some m/\Instr.sameBits 10000 m.key k'=true/\eN G b (ms.modify j λe=>{e with key:=k',val:=v'})
 | [],b,ms,i,hm,h=>by
   subst hm;simp only[lM,afE]at h;subst h;exact .inl ⟨by rfl,λborn=>⟨_,_,rfl,Yr g,n,o,by rfl⟩⟩
 | (k₂,s)::es,b,ms,i,hm,h=>by
   simp only[eN]at hm;obtain⟨m,q,rfl,l,c,f,hm⟩:=hm;simp only[lM]at h;split at h
   ·rename_i he;cases h;obtain⟨hs,y⟩:=Hw g p n c he;refine .inr ⟨0,m.val,m,by simp[Instr.findNow,hs],rfl,y rfl,?_⟩;exact⟨_,_,rfl,Yr g,n,o,hm⟩
   ·rename_i he;obtain⟨hs,_⟩:=Hw g p n c he;cases x:lM k v es with
    |none=>grind
    |some d=>
     simp only[x,ahi,afE]at h;subst h;rcases Ys g p n o es d q (i+1) hm x with⟨e1,r⟩| ⟨j,a,m',e1,r,e3,z⟩
     ·refine .inl ⟨by simpa[Instr.findNow,hs]using e1,λborn=>⟨_,_,rfl,l,c,f,r born⟩⟩
     ·refine .inr ⟨j+1,a,m',?_,by simpa using r,e3,?_⟩
      ·simp only[Instr.findNow,hs];rw[e1];congr 3;omega
      ·simp only[List.modify_succ_cons];exact⟨_,_,rfl,l,c,f,z⟩
   grind
theorem Yt{k v:AV}{n:Nat}: ∀ {es a:List (AV×AV)},lM k v es=some a->(∀p∈es,p.2.refs<=n)->v.refs<=n-> ∀p∈a,p.2.refs<=n
 | [],a,h,_,f=>by
   simp only[lM,afE]at h;grind
 | (k₂,e)::es,a,h,c,f=>by
   simp only[lM]at h;split at h
   ·grind
   ·cases g:lM k v es with
    |none=>grind
    |some d=>
     simp only[g,ahi,afE]at h;subst h;intro p b;rcases ai2.1 b with rfl|b
     ·simp_all
     ·exact Yt g (λp h=>c p (by grind)) f p b
   grind
def ao9(d:aU P B av G E w){A N:TypeId}{C:EK}(H:P.underlying t=some (.map A N))(M:Al P A=some C){m k v:AV}{m' k':Value}{I:AS}(o:an G m m')(L:an G k k')(J:an G v v')
  (h:mj E C m k v=some I):Au P B av G E I ((Instr.mapUpdate t m' k' v').run P w):=by
 obtain⟨u,hu,b,g⟩:=Yq M;unfold mj at h;split at h
 ·rename_i i;split at h
  ·rename_i id;split at h
   ·rename_i es he;split at h
    ·rename_i l D;cases h;obtain⟨s,ms,clock,F,hr⟩:=d.obj id _ he o.Hh;have c:G.on id:=⟨by rw[d.len];grind,o.Hh⟩;simp only[an]at o;obtain⟨_,r,rfl,q⟩:=o;rw[q s];have a:E.Ext (E.set id (.map l) v.refs):=.set he λn K p=>Yt D K p
     have f:=(d.low id c).2;rcases Ys i b L J es l ms.toList 0 hr D with⟨e1,y⟩| ⟨j,z,m',e1,y,e3,O⟩
     ·refine⟨G,eA w (G.aZ id) (.map (ms.push {key:=k',val:=v',born:=clock}) (clock+1)),?_,G.le_refl,d.put c _ ⟨s,_,_,uy f,by simpa using y clock⟩,a⟩;simp[Instr.mapUpdate,afM H,getObj,setObj,Sem.run,F,Og hu b g,Instr.findKey,afM hu,e1,eA]
     ·rw[ans]at e1;have x:ms[j]?=some m':=by simpa using y
      refine⟨G,eA w (G.aZ id) (.map (ms.modify j λe=>{e with key:=k',val:=v'}) clock),?_,G.le_refl,d.put c _ ⟨s,_,_,uy f,by simpa using O⟩,a⟩;simp[Instr.mapUpdate,afM H,getObj,setObj,Sem.run,F,Og hu b g,Instr.findKey,afM hu,e1,eA,Instr.keyThatStays,x,e3]
    grind
   grind
  grind
 grind
end
section
variable{P:Program}{X:Ctx}{B:Nat}{av:World}
variable{G:Gh}{E:AS}{w:World}
def Oh{a a':Addr}{b:List Value}(h:b=[]\/a=a'):storeCells a b=storeCells a' b:=by
 rcases h with rfl|rfl
 ·rfl
 ·rfl
def Yu{af:List (List AV)}:b8 (af.take n)<=b8 af:=by
 induction af generalizing n with
 |nil=>simp
 |cons x xs a=>
  cases n with
  |zero=>simp[b8]
  |succ n=>simp only[arV,b8];grind
def Yv(f:aU P B av G E w){id:Nat}{ty:TypeId}{af b:List (List AV)}(g:E.heap[id]?=some (.row aj sz ty af))(e:G.pz id=none){d:List Value}{off:Nat}(m:bo G b d)(i:Leaves d)(k: ∀el∈b,el.length=sz)(h:off+b.length<=af.length)
  {refs:Nat} (l:b8 b<=refs) {a:Addr} (p:d=[]\/a=⟨G.aZ id,G.base id+off*sz,none⟩):
  Au P B av G E (E.set id (.row aj sz ty (af.take off++(b++af.drop (off+b.length)))) refs) ((storeCells a d).run P w):=by
 rw[Oh p];obtain⟨_,_,c,_⟩:=f.obj id _ g e;have n:=o5 c;have j:=o5 k;have hm:off*sz+b.length*sz<=af.length*sz:=by rw[<-arp];exact anU _ h
 refine Yg f g e (bo.iff.1 m) i (by omega) (λel o=>?_) ?_ (by rw[<-wc];exact l)
 ·grind
 ·rw[apu,apu,Hn c,NY c];unfold aH
  grind
def apa(r:aU P B av G E w){st ty:TypeId}(J:P.underlying t=some (.slice e))(h2:cn P e=some sz){d s v:AV}{K y:Value}{E':AS}(u:an G d K)(N:an G s y)(h:rW E sz d s=some (v,E')):
  mm P B av G E v E' ((Builtin.copy_ #[t,st] ty #[K,y]).run P w):=by
 obtain⟨i,hi,rfl⟩:=Yi h2;unfold rW at h;split at h
 ·rename_i ys q;have src: ∃vs,bo G ys vs/\Leaves vs/\ (∀el∈ys,el.length=i.size)/\ (Builtin.lenOf y).run P w= .ok ys.length w/\ ∀n,n<=ys.length->(Builtin.firstCells i.size n y).run P w= .ok (vs.take (n*i.size)).toArray w:=by
   unfold Db at q;split at q
   ·rename_i b;split at q
    ·rename_i J;cases q;simp only[an]at N;subst N;refine⟨b.data.toList.map λx=>Value.int .u8 x.toNat,ao6 _,?_,?_,by simp[Builtin.lenOf,rV],λn Z=>?_⟩
     ·intro v Y;simp only[ahk]at Y;obtain⟨x,_,rfl⟩:=Y;rfl
     ·intro el f;simp only[rV,ahk]at f;obtain⟨x,_,rfl⟩:=f;rw[J];rfl
     ·rw[J];simp only[Builtin.firstCells,Sem.run_pure]
      congr 1
      apply arD;simp[]
    ·cases q
   ·obtain⟨vs,I,F,hu,H,⟨a,cap,rfl,_⟩,R⟩:=Ya r N q;exact⟨vs,I,F,hu,by simp[Builtin.lenOf],λn Z=>R w rfl n Z⟩
  obtain⟨vs,I,F,hu,Q,R⟩:=src;have key: ∀ (base:Option Addr) (c m:Nat),K= .slice base c m->(Builtin.copy_ #[t,st] ty #[K,y]).run P w=
    ((match base with|some b=>storeCells b (vs.take (Nat.min ys.length c*i.size))|none=>pure ():Sem Unit).run P w).andThen λ_ w'=>.ok (goInt (Nat.min ys.length c)) w':=by
   rintro base c m rfl;have:=R (Nat.min ys.length c) (Nat.min_le_left _ _);cases base<;>simp[Builtin.copy_,afM J,Q,sizeOf,typeInfo,hi,this]
  split at h
  ·cases h;simp only[an]at u;rw[key none 0 0 u];exact⟨G,w,_,rfl,G.le_refl,r,by simp[an,goInt],.refl E⟩
  ·rename_i id aj L off len cx;split at h
   ·rename_i V M ty' af he;split at h
    ·rename_i S;obtain⟨T,c2,c3,c4⟩:=S;subst T c2 c3;cases h;simp only[an]at u;obtain⟨g,W,D,k,e1,d1,d2,d3⟩:=u;obtain⟨f1,f2,f3⟩:=d3 (r.obj id _ he g.2).1;rw[key (some D) len k e1];have O:Nat.min ys.length len<=ys.length:=Nat.min_le_left ys.length len;have C:Nat.min ys.length len<=len:=Nat.min_le_right ys.length len;have z: (ys.take (Nat.min ys.length len)).length=Nat.min ys.length len:=by rw[ai1];omega
     have p:bo G (ys.take (Nat.min ys.length len)) (vs.take (Nat.min ys.length len*i.size)):=by
      have:=I.slice (l:=0) (n:=Nat.min ys.length len) hu;simpa using this
     obtain⟨U,w',hr,hle,o,j⟩:=Yv r he g.2 p (F.take _) (λel f=>hu el (al8 f)) (off:=off) (by omega) (refs:=b8 ys) Yu (a:=D) (by
      by_cases h0:len=0
      ·left;have:Nat.min ys.length len=0:=by omega
       rw[this];simp
      ·right;rw[f2 (by omega)])
     rw[hr,z]at*;exact⟨U,w',_,rfl,hle,o,by simp[an,goInt],j⟩
    ·cases h
   ·cases h
  ·rename_i id M off len;split at h
   ·rename_i cs he;split at h
    ·rename_i S;obtain⟨T,c2,c3⟩:=S;subst T;cases h;simp only[an]at u;obtain⟨g,D,k,e1,d1,d2⟩:=u;rw[key (some D) len k e1];have O:Nat.min ys.length len<=ys.length:=Nat.min_le_left ys.length len;have C:Nat.min ys.length len<=len:=Nat.min_le_right ys.length len;have z: (ys.take (Nat.min ys.length len)).flatten.length=Nat.min ys.length len*i.size:=by rw[o5 λel f=>hu el (al8 f),ai1];congr 1;omega
     have p:aD G (ys.take (Nat.min ys.length len)).flatten (vs.take (Nat.min ys.length len*i.size)):=by
      rw[Hn hu];exact(bo.iff.1 I).take _
     have hmm:Nat.min ys.length len*i.size<=len*i.size:=anU _ C;have A:=Oa r he g.2 p (F.take _) (off:=off) (by omega) (refs:=b8 ys) (by rw[<-wc];exact Yu);simp only;rw[Oh (a:=D) (a':=⟨G.aZ id,off,none⟩) (by
      by_cases h0:len=0
      ·left;have:Nat.min ys.length len=0:=by omega
       rw[this];simp
      ·right;exact d2 (Aq r he g.2).1 (by omega))]
     obtain⟨U,w',hr,hle,o,j⟩:=A;rw[hr];exact⟨U,w',_,rfl,hle,o,by simp[an,goInt],j⟩
    ·cases h
   ·cases h
  grind
 grind
def apb(zc:Array Value)(k:Nat): (Builtin.zeroCells zc k).toList=(List.replicate k zc.toList).flatten:=by
 unfold Builtin.zeroCells;rw[Array.toList_map,Array.toList_range];by_cases a:0<zc.size
 ·exact Hs zc a k
 simp_all
def apc(l:aU P B av G E w){ty:TypeId}{z:List AV}(u:P.underlying t=some (.slice e))(O:gB P e=some z){x:AV}{p:Value}{J:AS}(j:an G x p)(h:rX E z x=some J):
  mm P B av G E .undef J ((Builtin.clear_ #[t] ty #[p]).run P w):=by
 obtain⟨C,Q,_,lz,k,_⟩:=sa O G w;have key: ∀ (a:Addr) (n c:Nat),p= .slice (some a) n c->(Builtin.clear_ #[t] ty #[p]).run P w=
   ((storeCells a (List.replicate n C.cells.toList).flatten).run P w).andThen λ_ w'=>.ok (.tuple #[]) w':=by
  rintro a n c rfl;cases n with
  |zero=>simp[Builtin.clear_,afM u,storeCells]
  |succ n=>
   have:=apb C.cells (n+1);simp only[Builtin.clear_];simp[afM u,Q,<-this]
 unfold rX at h;split at h
 ·cases h;simp only[an]at j;subst j;exact⟨G,w,.tuple #[],by simp[Builtin.clear_,afM u],G.le_refl,l,⟨_,rfl,by simp[aD]⟩,.refl E⟩
 ·rename_i id aj q off len cx;split at h
  ·rename_i D L K af he;split at h
   ·rename_i s;obtain⟨y,I,H,R,S⟩:=s;subst y I H;cases h;simp only[an]at j;obtain⟨d,F,o,f,e1,d1,d2,d3⟩:=j;obtain⟨f1,f2,f3⟩:=d3 (l.obj id _ he d.2).1;rw[key o len f e1];obtain⟨A,w',hr,hle,g,b⟩:=Yv l he d.2 (Dn lz len) (Ht k len) (λel i=>by rw[auo i]) (off:=off) (by simpa using R) (refs:=0) (by
      rw[wc];have: ∀n,aG (List.replicate n z).flatten<=0:=by
       intro n
       induction n with
       |zero=>simp[aG]
       |succ n M=>simp only[atT,arh,uB];omega
      exact this len) (a:=o) (by
     by_cases v:len=0
     ·left;rw[v];simp
     ·right;rw[f2 (by omega)])
    rw[hr];rw[List.length_replicate]at g b;exact⟨A,w',_,rfl,hle,g,⟨_,rfl,by simp[aD]⟩,b⟩
   ·cases h
  ·cases h
 ·rename_i id sz off len;split at h
  ·rename_i cs he;split at h
   ·rename_i s;obtain⟨y,I,H⟩:=s;subst y;cases h;simp only[an]at j;obtain⟨d,o,f,e1,d1,d2⟩:=j;rw[key o len f e1];have r:=Dn lz len;have N: (List.replicate len z).flatten.length=len*z.length:=by rw[o5 (sz:=z.length) λel i=>by rw[auo i]];simp
    have m:=Oa l he d.2 (bo.iff.1 r) (Ht k len) (off:=off) (by omega) (refs:=0) (by
     have: ∀n,aG (List.replicate n z).flatten<=0:=by
      intro n
      induction n with
      |zero=>simp[aG]
      |succ n M=>simp only[atT,arh,uB];omega
     exact this len)
    rw[Oh (a:=o) (a':=⟨G.aZ id,off,none⟩) (by
     by_cases v:len=0
     ·left;rw[v];simp
     ·right;exact d2 (Aq l he d.2).1 (by omega))]
    obtain⟨A,w',hr,hle,g,b⟩:=m;rw[hr];exact⟨A,w',_,rfl,hle,g,⟨_,rfl,by simp[aD]⟩,b⟩
   ·cases h
  ·cases h
 grind
def aCV(d:P.cellsOf e=1)(a off n:Nat)(c:off+n<=a):liesAt P P.depth e a off e n=true:=by
 have b:P.depth=(2*(P.types.size+Made.depth)+1)+1:=rfl;rw[b];simp only[liesAt,arj];rw[b];simp[rowAt,d,c,sameLayout,Nat.mod_one]
theorem apd{w:World}: ∀ (a:List Int) (b o:Nat) (acc:ByteArray),(∀ (j:Nat) (u:Value),(a.map (Value.int .u8))[j]?=some u->w.cell? ⟨b,o+j,none⟩=some u)->
  (loadBytes ⟨b,o,none⟩ acc a.length).run P w= .ok ⟨acc.data++(a.map λn=>UInt8.ofNat n.toNat).toArray⟩ w
 | [],b,o,acc,_=>by rfl
 |n::a,b,o,acc,h=>by
  have c:w.cell? ⟨b,o,none⟩=some (.int .u8 n):=by
   have:=h 0 (.int .u8 n) rfl;omega
  have d:=apd a b (o+1) (acc.push n.toNat.toUInt8) (λj u e=>by
   have:=h (j+1) u (by grind);rw[show o+1+j=o+(j+1) by omega];omega)
  simp only[aho,loadBytes,Sem.run_bind,run_load,c,Result.andThen_ok,je];simp_all
def aCW(w:World)(a:Addr)(n:Nat): (w.freeze a n).heap.size=w.heap.size:=by
 unfold World.freeze;grind
def aCX{w:World}{a:Addr}(h:k≠a.block): (w.freeze a n).heap[k]?=w.heap[k]?:=by
 unfold World.freeze
 grind
def aCY(w:World)(a:Addr)(n:Nat): (w.freeze a n).os=w.os/\ (w.freeze a n).tape=w.tape/\ (w.freeze a n).output=w.output:=by
 unfold World.freeze;grind
end
section
variable{P:Program}{X:Ctx}{B:Nat}{av:World}
variable{G:Gh}{E:AS}{w:World}
def ft{s:Sem Value}{v:AV}(hw:aU P B av G E w)(h: ∃v',s.run P w= .ok v' w/\an G v v'):Good P B av G E v E ((do pure (.value (<-s)):Sem Next).run P w):=by
 obtain⟨v',e,r⟩:=h;simp only[Sem.run_bind,e,Result.andThen_ok,Sem.run_pure];exact .same hw r
def sb{s:Sem Value}{v:AV}{b:AS}(h:mm P B av G E v b (s.run P w)):Good P B av G E v b ((do pure (.value (<-s)):Sem Next).run P w):=by
 obtain⟨i,w',v',e,g,f,d,c⟩:=h;simp only[Sem.run_bind,e,Result.andThen_ok,Sem.run_pure];exact⟨i,w',v',.inl rfl,g,f,d,c⟩
def Yw{s:Sem Unit}{b:AS}(h:Au P B av G E b (s.run P w)):Good P B av G E .undef b ((do s;pure .skip:Sem Next).run P w):=by
 obtain⟨g,w',e,f,d,c⟩:=h;simp only[Sem.run_bind,e,Result.andThen_ok,Sem.run_pure];exact⟨g,w',undef,.inr ⟨rfl,rfl⟩,f,d,⟨#[],rfl,by rfl⟩,c⟩
def fe{E b:AS}{o:Option AV}{v:AV}(h:fH E o=some (.ok v b)):o=some v/\b=E:=by
 cases o with
 |none=>trivial
 |some a=>simp[fH]at h;grind
def yc{e:Env}(he:cC G nt e a.tmps){x:Option Operand}{y:Option ao}(h:uv x=some y):lR G (y.map (·.get e)) (x.map a.eval):=by
 cases x with
 |none=>simp only[uv,afE]at h;subst h;simp[lR]
 |some x=>
  simp only[uv]at h;cases b:bJ x with
  |none=>grind
  |some z=>simp[b]at h;subst h;exact⟨_,rfl,cu he b⟩
def Yx{x:Option Operand}{y:Option ao}(h:uv x=some y):y.isNone=x.isNone:=by
 cases x with
 |none=>simp only[uv,afE]at h;grind
 |some x=>
  simp only[uv]at h;cases b:bJ x with
  |none=>grind
  |some z=>grind
def I.plain:I->Bool
 |.call .. |.panic _=>false
 |_=>true
section
variable(hw:aU P B av G E w)(hg:fo X B av){nt:Nat}{e:Env}{a:Act}(he:cC G nt e a.tmps)(C:bw)
include hw hg he
omit hg in
theorem ape{f:TypeId}{c:Call}{i:I}(h:De P f c=some i)(T:i.plain=true){v:AV}{Q:AS}(j:exec X C i e E=some (.ok v Q)):
  Good P B av G E v Q ((do let d<-resolve a.eval c f;invoke d.target d.args:Sem Next).run P w):=by
 obtain⟨callee,args,argTypes⟩:=c;unfold De at h;split at h
 case h_1=>
  split at h
  ·cases h;simp[I.plain]at T
  ·cases h
 case h_2 t x l n o=>
  simp only at l n o;subst l;have q:args= #[x]:=by apply arD;simpa using o
  have p:argTypes= #[t]:=by apply arD;simpa using n
  subst q p;have g: (do let d<-resolve a.eval ⟨.builtin .len,#[x],#[t]⟩ f;invoke d.target d.args:Sem Next)=(do pure (.value (<-Builtin.len_ #[t] f ((#[x]:Array Operand).map a.eval)))):=rfl;rw[g,show(#[x]:Array Operand).map a.eval= #[a.eval x] by simp];split at h
  ·rename_i hu;cases ho:bJ x with
   |none=>simp[ho]at h
   |some y=>
    simp only[ho,ahi,afE]at h;subst h;obtain⟨m,rfl⟩:=fe j;exact ft hw (N5 (k:=.str) hw hu rfl (cu he ho) m)
  ·rename_i hu;cases ho:bJ x with
   |none=>simp[ho]at h
   |some y=>
    simp only[ho,ahi,afE]at h;subst h;obtain⟨m,rfl⟩:=fe j;exact ft hw (N5 (k:=.sl) hw hu ⟨_,rfl⟩ (cu he ho) m)
  ·rename_i hu;cases ho:bJ x with
   |none=>simp[ho]at h
   |some y=>
    simp only[ho,ahi,afE]at h;subst h;obtain⟨m,rfl⟩:=fe j;exact ft hw (N5 (k:=.map) hw hu ⟨_,_,rfl⟩ (cu he ho) m)
  ·cases h
 case h_3 st A s x l n o=>
  simp only at l n o;subst l;have q:args= #[s,x]:=by apply arD;simpa using o
  have p:argTypes= #[st,A]:=by apply arD;simpa using n
  subst q p;have g: (do let d<-resolve a.eval ⟨.builtin .append,#[s,x],#[st,A]⟩ f;invoke d.target d.args:Sem Next)=(do pure (.value (<-Builtin.append_ #[st,A] f ((#[s,x]:Array Operand).map a.eval)))):=rfl;rw[g,show(#[s,x]:Array Operand).map a.eval= #[a.eval s,a.eval x] by simp];split at h
  ·rename_i el hu;split at h
   ·rename_i sz b R W K J H F;split at h
    ·rename_i V D;split at h
     ·rename_i O;cases h;simp only[exec]at j;split at j
      ·rename_i ys S;split at j
       ·rename_i v' u L;cases j;exact sb (ao5 hw hu D K J O.2 O.1 (cu he H) (cu he F) S L)
       ·cases j
      ·cases j
     ·cases h
    ·cases h
   ·cases h
  ·cases h
 case h_4 N st d s l n o=>
  simp only at l n o;subst l;have q:args= #[d,s]:=by apply arD;simpa using o
  have p:argTypes= #[N,st]:=by apply arD;simpa using n
  subst q p;have g: (do let d<-resolve a.eval ⟨.builtin .copy,#[d,s],#[N,st]⟩ f;invoke d.target d.args:Sem Next)=(do pure (.value (<-Builtin.copy_ #[N,st] f ((#[d,s]:Array Operand).map a.eval)))):=rfl;rw[g,show(#[d,s]:Array Operand).map a.eval= #[a.eval d,a.eval s] by simp];split at h
  ·rename_i el hu;split at h
   ·rename_i sz Y R m M U;cases h;simp only[exec]at j;split at j
    ·rename_i v' u r;cases j;exact sb (apa hw hu m (cu he M) (cu he U) r)
    ·cases j
   ·cases h
  ·cases h
 case h_5 t x l n o=>
  simp only at l n o;subst l;have q:args= #[x]:=by apply arD;simpa using o
  have p:argTypes= #[t]:=by apply arD;simpa using n
  subst q p;have g: (do let d<-resolve a.eval ⟨.builtin .clear,#[x],#[t]⟩ f;invoke d.target d.args:Sem Next)=(do pure (.value (<-Builtin.clear_ #[t] f ((#[x]:Array Operand).map a.eval)))):=rfl;rw[g,show(#[x]:Array Operand).map a.eval= #[a.eval x] by simp];split at h
  ·rename_i el hu;split at h
   ·rename_i z y m M;cases h;simp only[exec]at j;split at j
    ·rename_i u r;cases j;exact sb (apc hw hu m (cu he M) r)
    ·cases j
   ·cases h
  ·cases h
 case h_6 xs l=>
  simp only at l;subst l;have g: (do let d<-resolve a.eval ⟨.builtin .max,args,argTypes⟩ f;invoke d.target d.args:Sem Next)=(do pure (.value (<-Builtin.max_ argTypes f (args.map a.eval)))):=rfl;rw[g];split at h
  ·cases ho:nU args.toList with
   |none=>simp[ho]at h
   |some ys=>
    simp only[ho,ahi,afE]at h;subst h;obtain⟨m,rfl⟩:=fe j;exact ft hw (aoI (by simpa using x8 he ho) m w)
  ·cases h
 case h_7 xs l=>
  simp only at l;subst l;have g: (do let d<-resolve a.eval ⟨.builtin .min,args,argTypes⟩ f;invoke d.target d.args:Sem Next)=(do pure (.value (<-Builtin.min_ argTypes f (args.map a.eval)))):=rfl;rw[g];split at h
  ·cases ho:nU args.toList with
   |none=>simp[ho]at h
   |some ys=>
    simp only[ho,ahi,afE]at h;subst h;obtain⟨m,rfl⟩:=fe j;exact ft hw (aoJ (by simpa using x8 he ho) m w)
  ·cases h
 case h_8 t x l n o=>
  simp only at l n o;subst l;have q:args= #[x]:=by apply arD;simpa using o
  have p:argTypes= #[t]:=by apply arD;simpa using n
  subst q p;have g: (do let d<-resolve a.eval ⟨.builtin .cap,#[x],#[t]⟩ f;invoke d.target d.args:Sem Next)=(do pure (.value (<-Builtin.cap_ #[t] f ((#[x]:Array Operand).map a.eval)))):=rfl;rw[g,show(#[x]:Array Operand).map a.eval= #[a.eval x] by simp];split at h
  ·rename_i hu;cases ho:bJ x with
   |none=>simp[ho]at h
   |some y=>
    simp only[ho,ahi,afE]at h;subst h;obtain⟨m,rfl⟩:=fe j;exact ft hw (aoH hu (cu he ho) m w)
  ·cases h
 case h_9=>cases h
theorem apf{rows:Bool}{o:Oper}{i:I}(h:kT P rows o=some i)(hp:i.plain=true){v:AV}{E':AS}(A:exec X C i e E=some (.ok v E')):Good P B av G E v E' ((execOp a.eval o).run P w):=by
 unfold kT at h;split at h
 case h_1 x d|h_2 x d=>
  simp only[d,execOp];cases ho:bJ x with
  |none=>simp[ho]at h
  |some y=>
   simp only[ho,ahi,afE]at h;subst h;cases A;simp only[Sem.run_pure];exact .same hw (cu he ho)
 case h_3 c x y d=>
  simp only[d,execOp];split at h
  ·rename_i c' x' y' F D L;cases h;simp only[exec]at A;split at A
   ·rename_i t ht;cases A;have hr:=cu he F;rw[ht]at hr;simp only[an]at hr;simp only[Sem.run_bind,hr,asBool,Sem.run_pure,Result.andThen_ok];cases t
    ·exact .same hw (cu he L)
    ·exact .same hw (cu he D)
   ·cases A
  ·cases h
 case h_4 t d=>
  simp only[d,execOp];cases O:gB P t with
  |none=>simp[O]at h
  |some z=>
   simp only[O,ahi,afE]at h;subst h;cases A;exact sb (aoP hw O)
 case h_5 t x d=>
  simp only[d,execOp];cases ho:bJ x with
  |none=>simp[ho]at h
  |some y=>
   simp only[ho,ahi,afE]at h;subst h;simp only[exec]at A;split at A
   ·cases A
   ·rename_i ht;cases A;exact sb (aoQ hw (λt' h=>aoO h) (cu he ho) (by simpa using ht))
 case h_6 t ps d=>
  simp only[d,execOp];split at h
  ·rename_i fields z hu O;split at h
   ·rename_i uD;obtain⟨l,K,rfl⟩:=ahg.1 h;simp only[exec]at A;split at A
    ·rename_i cs Q;cases A;exact ft hw (aoK hu O uD he K Q w)
    ·cases A
   ·cases h
  ·rename_i n el z hu O;split at h
   ·rename_i sz hs;cases K:parts (λi=>some (i*sz,sz)) ps.toList with
    |none=>simp[K]at h
    |some l=>
     simp only[K,ahi,afE]at h;subst h;simp only[exec]at A;split at A
     ·rename_i cs Q;cases A;exact ft hw (aoL hu O hs he K Q w)
     ·cases A
   ·cases h
  ·cases h
 case h_7 t len ps d=>
  simp only[d,execOp];split at h
  ·rename_i el hu;split at h
   ·rename_i z O;split at h
    ·rename_i hc;obtain⟨yd,Yy⟩:=hc;cases K:parts (λi=>some (i*z.length,z.length)) ps.toList with
     |none=>simp[K]at h
     |some l=>
      simp only[K,ahi,afE]at h;have R: ∀k,(List.replicate k z).flatten.length=k*z.length:=λk=>by
       rw[o5 (sz:=z.length) λel Y=>by rw[auo Y]];simp
      cases rows with
      |true=>
       simp only[aiZ]at h;subst h;simp only[exec]at A;split at A
       ·rename_i cs Q;cases A;exact sb (aoX hw hu O Yy yd he K Q (by rw[Oc Q,R]))
       ·cases A
      |false=>
       simp only[ahf,amJ]at h;subst h;simp only[exec]at A;split at A
       ·rename_i cs Q;cases A;exact sb (aoW hw hu O Yy yd he K Q (by rw[Oc Q,R]))
       ·cases A
    ·cases h
   ·cases h
  ·cases h
 case h_8 t x d=>
  simp only[d,execOp];split at h
  ·rename_i b n y F D L;cases h;obtain⟨J,rfl⟩:=fe A;exact ft hw (XO hw hg F D (cu he L) J)
  ·cases h
 case h_9 t x y d=>
  simp only[d,execOp];split at h
  ·rename_i n x' y' F D L;cases h;simp only[exec]at A;split at A
   ·rename_i Yz hs;cases A;exact Yw (aoT hw F (cu he D) (cu he L) hs)
   ·cases A
  ·cases h
 case h_10 x d=>
  simp only[d,execOp];cases ho:bJ x with
  |none=>simp[ho]at h
  |some y=>
   simp only[ho,ahi,afE]at h;subst h;obtain⟨J,rfl⟩:=fe A;have hr:=cu he ho;obtain⟨rfl,hsh⟩:=aoG hr J;rcases hsh with⟨b,e1⟩| ⟨f,b,c,e1⟩| ⟨f,b,c,e1⟩<;>rw[e1]at hr⊢ <;>simp only[Sem.run_pure]<;>exact .same hw hr
 case h_11 op t x y g d=>
  simp only[d,execOp];split at h
  ·rename_i x' y' F D;have N:=cu he F;have M:=cu he D;split at h
   case h_1|h_2=>
    cases h;simp only[exec]at A;split at A
    ·rename_i k p k' q e1 e2;obtain⟨J,rfl⟩:=fe A;rw[e1]at N;rw[e2]at M;simp only[an]at N M;rw[N,M];refine ft hw ?_;obtain⟨v',e3,r⟩:=aov (P:=P) (G:=G) (t:=t) (k':=k') J w;exact⟨v',by simp[eqGuard,e3],r⟩
    ·cases A
   case h_3=>
    cases U:x5 P t x y with
    |none=>simp[U]at h
    |some k=>
     simp only[U,ahi,afE]at h;subst h;simp only[exec]at A;split at A
     ·rename_i b hb;cases A;obtain⟨e1,e2,_,_⟩:=X8 U N M hb w;exact ft hw (Dk (by simp[e1,e2]))
     ·cases A
   case h_4=>
    cases U:x5 P t x y with
    |none=>simp[U]at h
    |some k=>
     simp only[U,ahi,afE]at h;subst h;simp only[exec]at A;split at A
     ·rename_i b hb;cases A;obtain⟨_,_,e1,e2⟩:=X8 U N M hb w;exact ft hw (Dk (by simp[e1,e2]))
     ·cases A
   case h_5=>
    cases h;rename_i op _ _ _ n1 n2 n3 Z _;obtain⟨J,rfl⟩:=fe A;obtain⟨v',e3,r⟩:=XR (P:=P) (t:=t) N M J n3 Z w;have W: (eqGuard op t x y (a.eval x) (a.eval y)).run P w= .ok () w:=by
     cases op<;>first|exact absurd rfl n3|exact absurd rfl Z|simp[eqGuard]
    exact ft hw ⟨v',by simp[W,e3],r⟩
   case h_6=>
    cases h;rename_i op _ _ n3 Z _;obtain⟨J,rfl⟩:=fe A;obtain⟨v',e3,r⟩:=XR (P:=P) (t:=t) N M J n3 Z w;have W: (eqGuard op t x y (a.eval x) (a.eval y)).run P w= .ok () w:=by
     cases op<;>first|exact absurd rfl n3|exact absurd rfl Z|simp[eqGuard]
    exact ft hw ⟨v',by simp[W,e3],r⟩
   case h_7=>cases h
  ·cases h
 case h_12 op t x d=>
  simp only[d,execOp];cases ho:bJ x with
  |none=>simp[ho]at h
  |some y=>
   simp only[ho,ahi,afE]at h;subst h;obtain⟨J,rfl⟩:=fe A;exact ft hw (aow (cu he ho) J w)
 case h_13 src dst x d=>
  simp only[d,execOp];split at h
  ·rename_i k kd y hs hd ho;cases h;simp only[exec]at A;split at A
   ·rename_i k' n hn;cases A;have hr:=cu he ho;rw[hn]at hr;simp only[an]at hr;rw[hr];exact ft hw (k0 (aox (by simp[hs]) hd w))
   ·cases A
  ·rename_i el y hs hd ho;split at h
   ·rename_i Y;cases h;simp only[exec]at A;split at A
    ·rename_i s hn;split at A
     ·cases A;have hr:=cu he ho;rw[hn]at hr;simp only[an]at hr;rw[hr];exact sb (aoV hw hs hd Y s)
     ·cases A
    ·cases A
   ·cases h
  ·cases h
 case h_14 t x d=>
  simp only[d,execOp];split at h
  ·cases h
  ·cases h
  ·rename_i u S hu;cases ho:bJ x with
   |none=>simp[ho]at h
   |some y=>
    simp only[ho,ahi,afE]at h;subst h;cases A;exact ft hw ⟨_,aoF hu (λms e=>S ms e) _ w,⟨_,rfl,cu he ho⟩⟩
 case h_15 f first cap d=>
  simp only[d,execOp];split at h
  ·rename_i xs ys F D;split at h
   ·cases h
   ·rename_i hy;cases h;cases A;refine ft hw ⟨_,by simp only[Instr.makeFunc,Sem.run_pure];rfl,⟨f,_,_,rfl,?_,by simpa using x8 he F,by simpa using x8 he D⟩⟩;cases f<;>simp[XG]at hy<;>simp[kY]
  ·cases h
 case h_16 t d=>
  simp only[d,execOp];cases h;cases A;exact sb (aoR hw t)
 case h_17 t l c d=>
  simp only[d,execOp];split at h
  ·rename_i el hu;split at h
   ·rename_i z b l' c' F D L J;split at h
    ·rename_i hc;cases h;simp only[exec]at A;split at A
     ·rename_i v' Yz hm;cases A;exact sb (aoU hw hu F D hc.1 (cu he L) (cu he J) hm)
     ·cases A
    ·cases h
   ·cases h
  ·cases h
 case h_18 t x lo hi mx d=>
  simp only[d,execOp];split at h
  ·rename_i x' ak hi' mx' F D L J;split at h
   ·rename_i hu;split at h
    ·rename_i hm;cases h;obtain⟨H,rfl⟩:=fe A;have T:mx=none:=by
      have:=Yx J;rw[hm]at this;simpa using this.symm
     subst T;exact ft hw (aoo hu (cu he F) (yc he D) (yc he L) H w)
    ·cases h
   ·rename_i el hu;split at h
    ·rename_i hm;cases hs:cn P el with
     |none=>simp[hs]at h
     |some n=>
      simp only[hs,ahi,afE]at h;subst h;obtain⟨H,rfl⟩:=fe A;refine ft hw (aos hu hs (cu he F) (yc he D) (yc he L) (yc he J) ?_ H w);cases mx' with
      |none=>exact .inl rfl
      |some m=>
       right
       cases hi' with
       |none=>simp at hm
       |some q=>simp
    ·cases h
   ·rename_i n el hu;split at h
    ·rename_i hm;cases hs:cn P el with
     |none=>simp[hs]at h
     |some sz=>
      simp only[hs,ahi,afE]at h;subst h;obtain⟨H,rfl⟩:=fe A;have T:mx=none:=by
       have:=Yx J;rw[hm]at this;simpa using this.symm
      subst T;exact ft hw (aot hw hg hu hs (cu he F) (yc he D) (yc he L) H)
    ·cases h
   ·cases h
  ·cases h
 case h_19 s x f d=>
  simp only[d,execOp];split at h
  ·rename_i fields y hu ho;split at h
   ·rename_i g V;split at h
    ·rename_i n hn;split at h
     ·rename_i Ym;cases h;obtain⟨H,rfl⟩:=fe A;exact ft hw (aog hw hg hu V hn Ym (cu he ho) H)
     ·cases h
    ·cases h
   ·cases h
  ·cases h
 case h_20 s x f d=>
  simp only[d,execOp];split at h
  ·rename_i fields y hu ho;split at h
   ·rename_i g V;split at h
    ·rename_i b n F D;cases h;simp only[exec]at A;split at A
     ·rename_i cs Hx;obtain⟨H,rfl⟩:=fe A;have hr:=cu he ho;rw[Hx]at hr;exact ft hw (aok hu V F D hr H w)
     ·cases A
    ·cases h
   ·cases h
  ·cases h
 case h_21 t x ix d=>
  simp only[d,execOp];split at h
  ·rename_i n el y iy hu F D;cases hs:cn P el with
   |none=>simp[hs]at h
   |some sz=>
    simp only[hs,ahi,afE]at h;subst h;obtain⟨H,rfl⟩:=fe A;exact ft hw (aoh hw hg hu hs (cu he F) (cu he D) H)
  ·rename_i el y iy hu F D;cases hs:cn P el with
   |none=>simp[hs]at h
   |some sz=>
    simp only[hs,ahi,afE]at h;subst h;obtain⟨H,rfl⟩:=fe A;exact ft hw (aoj hu hs (cu he F) (cu he D) H)
  ·cases h
 case h_22 t x ix d=>
  simp only[d,execOp];split at h
  ·rename_i n el y iy hu F D;split at h
   ·rename_i b sz L J;cases h;obtain⟨H,rfl⟩:=fe A;exact ft hw (aol hu L J (cu he F) (cu he D) H w)
   ·cases h
  ·rename_i y iy hu F D;cases h;obtain⟨H,rfl⟩:=fe A;exact ft hw (aom hu (cu he F) (cu he D) H w)
  ·cases h
 case h_23 t m k ok d=>
  simp only[d,execOp];split at h
  ·rename_i kt et hu;split at h
   ·rename_i kk z m' k' F D L J;cases h;obtain⟨H,rfl⟩:=fe A;exact ft hw (ao8 hw hg hu F D (cu he L) (cu he J) H)
   ·cases h
  ·cases h
 case h_24 t m k x d|h_25 t m k x d=>
  simp only[d,execOp];split at h
  ·rename_i kt et hu;split at h
   ·rename_i kk m' k' x' F D L J;cases h;simp only[exec]at A;split at A
    ·rename_i Yz hm;cases A;exact Yw (ao9 hw hu F (cu he D) (cu he L) (cu he J) hm)
    ·cases A
   ·cases h
  ·cases h
 case h_26 x xt asserted ok d=>
  simp only[d,execOp];split at h
  ·cases h
  ·rename_i u y S hu ho;split at h
   ·rename_i z O;cases h;obtain⟨H,rfl⟩:=fe A;exact ft hw (aoE hu (λms e=>S ms e) O (cu he ho) H xt w)
   ·cases h
  ·cases h
 case h_27 x j d=>
  simp only[d,execOp];cases ho:bJ x with
  |none=>simp[ho]at h
  |some y=>
   simp only[ho,ahi,afE]at h;subst h;simp only[exec]at A;split at A
   ·rename_i vs hvs;obtain⟨H,rfl⟩:=fe A;have hr:=cu he ho;rw[hvs]at hr;exact ft hw (aon (x:=.au vs) hr H w)
   ·cases A
 case h_28 c d=>
  simp only[d,execOp];exact ape hw he C h hp A
 case h_29 x d=>
  cases ho:bJ x with
  |none=>simp[ho]at h
  |some y=>simp only[ho,ahi,afE]at h;subst h;simp[I.plain]at hp
 case h_30=>cases h
end
end
section
variable{P:Program}{X:Ctx}{B:Nat}{av:World}
open Classical in
noncomputable def Gh.cut(G:Gh)(n:Nat)(w:World):Gh:=
 {G with n:=n,bt:=λb o=>if∃id,n<=id/\G.on id/\G.aZ id=b then w.cell? ⟨b,o,none⟩else G.bt b o}
def Hy{G:Gh}{E:AS}(a:aU P B av G E w){o:Nat}(h:G.bt b o=some v): (G.cut n w).bt b o=some v:=by
 simp only[Gh.cut];split
 ·rename_i d;obtain⟨id,_,c,rfl⟩:=d;rw[a.sep id c]at h;cases h
 omega
theorem YA{G:Gh}{E:AS}(a:aU P B av G E w):G.dO n (G.cut n w):=
 ⟨λ_ _ _ h=>Hy a h,ahd _,λ_ _=>rfl,λ_ _=>rfl,λ_ _=>rfl,λ_ _=>rfl,λ_ _=>rfl,λ_ _=>rfl⟩
def apk{G:Gh}{id:Nat}(b:n<=id)(a:G.on id)(o:Nat): (G.cut n w).bt (G.aZ id) o=w.cell? ⟨G.aZ id,o,none⟩:=by
 simp only[Gh.cut];rw[afJ ⟨id,b,a,rfl⟩]
theorem aU.cut{G:Gh}{E:AS}(a:aU P B av G E w)(d:n<=G.n)(m: ∀j o,j<n->E.heap[j]?=some o->o.le n)(lo:oN):aU P B av (G.cut n w) {heap:=E.heap.take n,lo} w where
 len:=by
  have:=a.len;simp[Gh.cut];omega
 bt b o v h:=by
  simp only[Gh.cut]at h;split at h
  ·exact h
  ·exact a.bt b o v h
 obj id o h l:=by
  simp only[apj]at h;split at h
  ·rename_i f;exact ig.dO (YA a) f rfl (a.obj id o h l) (m id o f h)
  grind
 inj i j c p e:=a.inj i j ⟨amE c.1 d,c.2⟩ ⟨amE p.1 d,p.2⟩ e
 sep i c o:=by
  have r:i<n:=c.1;have k:G.on i:=⟨amE c.1 d,c.2⟩;simp only[Gh.cut];rw[afB]
  ·exact a.sep i k o
  ·rintro⟨id,y,t,e⟩;have:=a.inj id i t k e;omega
 low i c:=a.low i ⟨amE c.1 d,c.2⟩
 lP:=a.lP
 hB:=a.hB
 lQ id o g l:=by
  have q:id<n:=g;obtain⟨x,u⟩:=a.lQ id o (amE g d) l
  grind
 dB b o v s h:=Hy a (a.dB b o v s h)
mutual
theorem YB{G:Gh}{E:AS}{w:World}(m:aU P B av G E w){n:Nat}: ∀ (k:Nat) (v f:AV) (v':Value),freeze E n k v=some f->an G v v'->an (G.cut n w) f v'/\f.refs<=n
 |0,_,_,_,h,_=>by simp[freeze]at h
 |k+1,v,f,v',h,r=>by
  unfold freeze at h;split at h
  ·rename_i hr;cases h;exact⟨r.dO (YA m) _ _ hr,hr⟩
  ·rename_i hr;split at h
   ·rename_i id aj sz off len cx;split at h
    ·rename_i S q ty af he;split at h
     ·rename_i W;obtain⟨c1,c2,c3⟩:=W;subst c1 c2;split at h
      ·rename_i g z;cases h;obtain⟨g1,g2,R,c,pre,vs,post,Y,Q,T,L,J,D⟩:=m.obj id _ he r.NU;have M:G.on id:=⟨by rw[m.len];exact(afA.1 he).1,r.NU⟩;have H:n<=id:=by simp only[AV.refs]at hr;omega
       simp only[an]at r;obtain⟨_,_,a,cap,e,d1,d2,d3⟩:=r;obtain⟨f1,f2,f3⟩:=d3 g1;have K:=J.slice (l:=off) (n:=len) R;obtain⟨y,x,t⟩:=Oi m k _ g _ z K;have d:g.length=len:=by
        have:=t;rw[this.1];simp;omega
       refine⟨⟨a.block,a.off,cap,q,_,?_,by rw[d];exact d1.1,λA=>by rw[d];exact d2 A,?_,?_,(D.drop _).take _,y⟩,x⟩
       ·rw[e,d];congr 2;obtain⟨b,o,s⟩:=a;have:=d1.2;simp only at this;rw[this]
       ·exact t.2 q (λel O=>R el (arc (al8 O)))
       ·intro j u i;have p:0<cap:=by
         by_cases Z:len=0
         ·subst Z;simp at i
         ·omega
        have F:a.off=G.base id+off*q:=by rw[f2 p]
        have I:a.block=G.aZ id:=by rw[f2 p]
        rw[F,I,apk H M];refine Dh Y _ u ?_;have U:=J.len R;rw[apj]at i;split at i
        ·rw[anR]at i;have V:=(afA.1 i).1;rw[Q,ahr (by omega),aeT (by omega),<-i]
         congr 1;omega
        ·cases i
      ·cases h
     ·cases h
    ·cases h
   ·rename_i cs;split at h
    ·rename_i C z;cases h;simp only[an]at r;obtain⟨vs,rfl,l,D⟩:=r;obtain⟨y,x,_⟩:=Hz m k cs C _ z l;exact⟨⟨vs,rfl,y,D⟩,x⟩
    ·cases h
   ·rename_i cs;split at h
    ·rename_i C z;cases h;simp only[an]at r;obtain⟨vs,rfl,l⟩:=r;obtain⟨y,x,_⟩:=Hz m k cs C _ z l;exact⟨⟨vs,rfl,y⟩,x⟩
    ·cases h
   ·rename_i af cx;split at h
    ·rename_i g z;cases h;simp only[an]at r;obtain⟨b,o,cap,sz,vs,rfl,d1,d2,d3,N,D,J⟩:=r;obtain⟨y,x,t⟩:=Oi m k af g _ z J;refine⟨⟨b,o,cap,sz,vs,by rw[t.1],by rw[t.1];exact d1,λA=>by rw[t.1];exact d2 A,t.2 sz d3,λj u i=>Hy m (N j u i),D,y⟩,x⟩
    ·cases h
   ·cases h
theorem Hz{G:Gh}{E:AS}{w:World}(d:aU P B av G E w){n:Nat}: ∀ (k:Nat) (cs b:List AV) (vs:List Value),ib E n k cs=some b->aD G cs vs->aD (G.cut n w) b vs/\aG b<=n/\b.length=cs.length
 |k,[],b,vs,h,r=>by
  cases k<;>simp only[ib,afE]at h<;>subst h<;>simp only[aD]at r<;>subst r<;>simp[aD,aG]
 |0,_::_,_,_,h,_=>by simp[ib]at h
 |k+1,a::as,b,vs,h,r=>by
  simp only[ib]at h;split at h
  ·rename_i a' i;split at h
   ·rename_i c has;cases h;simp only[aD]at r;obtain⟨v,q,rfl,l,j⟩:=r;obtain⟨g,o⟩:=YB d k a a' v i l;obtain⟨f,m,e⟩:=Hz d (k+1) as c q has j;exact⟨⟨v,q,rfl,g,f⟩,by simp only[aG];omega,by simp[e]⟩
   ·cases h
  ·cases h
theorem Oi{G:Gh}{E:AS}{w:World}(e:aU P B av G E w){n:Nat}: ∀ (k:Nat) (af b:List (List AV)) (vs:List Value),r0 E n k af=some b->bo G af vs->
  bo (G.cut n w) b vs/\b8 b<=n/\ (b.length=af.length/\ ∀sz,(∀el∈af,el.length=sz)-> ∀el∈b,el.length=sz)
 |k,[],b,vs,h,r=>by
  cases k<;>simp only[r0,afE]at h<;>subst h<;>simp only[bo]at r<;>subst r<;>simp[bo,b8]
 |0,_::_,_,_,h,_=>by simp[r0]at h
 |k+1,a::as,b,vs,h,r=>by
  simp only[r0]at h;split at h
  ·rename_i a' o;split at h
   ·rename_i d has;cases h;simp only[bo]at r;obtain⟨v,q,rfl,s,p⟩:=r;obtain⟨j,u,l⟩:=Hz e k a a' v o s;obtain⟨i,t,g,f⟩:=Oi e (k+1) as d q has p;refine⟨⟨v,q,rfl,j,i⟩,by simp only[b8];omega,by simp[g],λsz hu el c=>?_⟩;rcases ai2.1 c with rfl|c
    ·rw[l];exact hu a (by simp)
    ·exact f sz (λx m=>hu x (by simp[m])) el c
   ·cases h
  ·cases h
end
def ye{fN:Gh}{ch:AS}{t:World}(k:aU P B av fN ch t){G:Gh}{E:AS}(f:fN.le G)(x:aU P B av G E w)(d:AS.Ext {heap:=ch.heap,lo:=none} E){v:AV}{v':Value}(D:an G v v'):
  ∃a,fN.le a/\aU P B av a (finish ch.heap.length ch.lo v E).2 w/\an a (finish ch.heap.length ch.lo v E).1 v'/\ch.Ext (finish ch.heap.length ch.lo v E).2:=by
 have nX: ∃a,fN.le a/\aU P B av a {heap:=E.heap,lo:=fV ch.lo E.lo} w/\an a v v'/\ch.Ext {heap:=E.heap,lo:=fV ch.lo E.lo}:=by
  refine⟨G,f,x.lo _,D,d.len,λj h=>?_,λj o h=>?_⟩
  ·cases E.lo with
   |none=>exact h
   |some l=>exact Ao (.inl h)
  ·obtain⟨o',s,g⟩:=d.obj j o h;refine⟨o',s,g.imp id λ ⟨l,e,q⟩=>?_⟩;simp only[fV,e];exact Ao (.inr q)
 have clear: (∀j,j<ch.heap.length-> ¬An E.lo j)-> ∀c,freeze E ch.heap.length 12 v=some c->
   ∃a,fN.le a/\aU P B av a {heap:=E.heap.take ch.heap.length,lo:=ch.lo} w/\an a c v'/\ch.Ext {heap:=E.heap.take ch.heap.length,lo:=ch.lo}:=by
  intro z c C;have A:=k.len;have y: ∀j o,j<ch.heap.length->E.heap[j]?=some o->o.le ch.heap.length:=by
   intro j o r ho;have H:ch.heap[j]?=some ch.heap[j]:=ag6 r;obtain⟨o',s,g⟩:=d.obj j _ H;rw[ho]at s;cases s;rcases g with g|g
   ·have:=g ch.heap.length (by have:=k.an7 H;rwa[A]at this);exact this.mono (by omega)
   ·exact absurd g (z j r)
  have m:ch.heap.length<=G.n:=by rw[x.len];exact d.len
  obtain⟨I,J⟩:=YB x 12 v c v' C D;refine⟨G.cut ch.heap.length w,?_,x.cut m y _,I,?_,λj h=>h,λj o h=>?_⟩
  ·exact{bt:=λb o u h=>Hy x (f.bt b o u h),n:=by simp[Gh.cut,A],on:=λi p=>⟨by have:=p.1;simp only[Gh.cut];omega,(f.on i p).2⟩,aj:=λi p=>f.aj i p,same:=λi p e=>f.same i p e,pz:=λi p=>f.pz i p}
  ·have:=d.len;simp only at this;simp;omega
  ·have r:j<ch.heap.length:=(afA.1 h).1;obtain⟨o',s,g⟩:=d.obj j o h;refine⟨o',by simp[r,s],.inl ?_⟩;rcases g with g|g
   ·exact g
   ·exact absurd g (z j r)
 unfold finish;cases q:E.lo with
 |none=>
  simp only[aiZ];cases C:freeze E ch.heap.length 12 v with
  |none=>simp only;rw[q]at nX;exact nX
  |some c=>exact clear (by rintro j _ ⟨l,e,_⟩;rw[q]at e;cases e) c C
 |some l=>
  rw[q]at nX;by_cases h:ch.heap.length<=l
  ·simp only[h,decide_true,aiZ];cases C:freeze E ch.heap.length 12 v with
   |none=>exact nX
   |some c=>exact clear (by rintro j r ⟨K,e,F⟩;rw[q]at e;cases e;omega) c C
  ·simp only[h,aDx,ahf,amJ];exact nX
end
section
variable{P:Program}{X:Ctx}{B:Nat}{av:World}{cS:List Deferred}
def W(r:oN):Fence:={fn:=λ_=>True,depth:=none,alive:=false,round:=r}
theorem apl:W none=Fence.wide:=rfl
theorem Dq(r:oN)(n:Nat): (W r).room n:=λ_ h=>by simp[W]at h
theorem Oj{r a:oN}{args:Array Value}{R:Ending->World->Prop}(h:CallsIn (W r) n P f args w R):CallsIn (W a) b P f args w R:=
 ⟨trivial,λcs _=>h.2 cs (Dq _ _)⟩
theorem apm{r d:oN}{e:Nat}{a:Array Value}{as b:Code}{R:Ending->World->Prop}(h:RoundIn (W r) n P l f a as b w R):RoundIn (W d) e P l f a as b w R:=
 ⟨trivial,λc cs _=>h.2 c cs (Dq _ _)⟩
def Ends(P:Program)(B:Nat)(av:World)(G:Gh)(E:AS):aS->Ending->World->Prop
 |.ret v b,.returned v',w'=> ∃a,G.le a/\aU P B av a b w'/\an a v v'/\E.Ext b
 |.panic v b,.panicked chain,w'=> ∃a v',chain=[{v:=v',recovered:=false}]/\G.le a/\aU P B av a b w'/\an a v v'/\E.Ext b
 |_,_,_=>False
def uF(P:Program)(K:Ending->World->Prop):Result Next->Prop
 |.ok (.value v) w'=>K (.returned v) w'
 |.ok (.enter f args) w'=>CallsIn (W none) 0 P f args w' K
 |.ok (.round l f tmps as bd) w'=>RoundIn (W none) 0 P l f tmps as bd w' K
 |_=>False
theorem uF.mono{K b:Ending->World->Prop}{r:Result Next}(h:uF P K r)(a: ∀e w,K e w->b e w):uF P b r:=by
 unfold uF at*;split at h
 ·exact a _ _ h
 ·exact h.mono a
 ·exact h.mono a
 ·exact h.elim
def we(fv:Value)(args:Array Value):Sem Next:=do let d<-Deferred.ofValue fv args;invoke d.target d.args
def fI(P:Program)(B:Nat)(av:World)(C:bw):Prop:=
 ∀fv args E c,C fv args E=some c-> ∀G w b (a:Array Value),aU P B av G E w->an G fv b->aD G args a.toList->uF P (Ends P B av G E c) ((we b a).run P w)
def ga(cS:List Deferred)(G:Gh):lN->List Deferred->Prop
 | [],a=>a=cS
 |m::ms,a=> ∃d r k,a=d::r/\d.target= .collected k/\G.on m/\ (G.aj m=0->k=G.aZ m)/\ga cS G ms r
theorem ga.mono{G c:Gh}(h:G.le c): ∀ {ms:lN} {b:List Deferred},ga cS G ms b->ga cS c ms b
 | [],_,r=>r
 |m::ms,_,r=>by
  simp only[ga]at*;obtain⟨d,q,k,e,i,a,g,f⟩:=r;refine⟨d,q,k,e,i,h.on _ a,λl=>?_,f.mono h⟩;have j:=h.aj _ a;rw[(h.same _ a (by omega)).1];exact g (by omega)
theorem ga.df{G c:Gh}(h:G.sub c): ∀ {ms:lN} {b:List Deferred},ga cS G ms b->ga cS c ms b
 | [],_,r=>r
 |m::ms,_,r=>by
  simp only[ga]at*;obtain⟨d,q,k,e,i,a,g,f⟩:=r;refine⟨d,q,k,e,i,h.on _ a,λl=>?_,f.df h⟩;have j:=h.aj _ a;rw[(h.same _ a (by omega)).1];exact g (by omega)
def fJ(G:Gh):Ex->Exit->Prop
 |.normal,.normal=>True
 |.exit i,.exit j=>i=j
 |.ret,.ret=>True
 |.panic v,.panic chain=> ∃v',chain=[{v:=v',recovered:=false}]/\an G v v'
 |_,_=>False
def mo(P:Program)(B:Nat)(av:World)(cS:List Deferred)(fN:Gh)(ch:AS)(nt:Nat)(b:Ex×Fr×AS)(e:Exit)(a:Act)(w:World):Prop:=
 ∃G,fN.le G/\aU P B av G b.2.2 w/\cC G nt b.2.1.env a.tmps/\ga cS G b.2.1.marks a.defers/\ch.Ext b.2.2/\fJ G b.1 e
theorem mo.trans{fN b:Gh}{ch c:AS}{d:Ex×Fr×AS}{e:Exit}(h:mo P B av cS b c nt d e a w)(hg:fN.le b)(f:ch.Ext c):mo P B av cS fN ch nt d e a w:=by
 obtain⟨G,m,l,k,j,i,g⟩:=h;exact⟨G,Gh.le_trans hg m,l,k,j,f.trans i,g⟩
theorem cC.set{G:Gh}{e:Env}{a:Array Value}(h:cC G nt e a){d:Nat}(g:d<nt){v:AV}(f:an G v v'):cC G nt (e.set d v) (a.setIfInBounds d v')where
 size:=by simp[h.size]
 get t u b:=by
  rw[anT]at b;simp only[Env.set];split at b
  ·rename_i e;subst e;split at b
   ·cases b;rw[afJ rfl];exact f
   ·cases b
  ·rename_i c;rw[afB (λe=>c e.symm)];exact h.get t u b
 out t b:=by
  simp only[Env.set];rw[afB (by omega)];exact h.out t b
def qB{G:Gh}{b:Fr}(h:cC G nt b.env a.tmps){dst:oN}(e: ∀d,dst=some d->d<nt){v:AV}(c:an G v v'):
  cC G nt (b.put dst v).env (a.put dst v').tmps/\ (b.put dst v).marks=b.marks/\ (a.put dst v').defers=a.defers:=by
 cases dst with
 |none=>exact⟨h,rfl,rfl⟩
 |some d=>exact⟨h.set (e d rfl) c,rfl,rfl⟩
theorem yf{G:Gh}:an G .undef undef:=⟨#[],rfl,by simp[aD]⟩
def apn{G:Gh}{x:AV}{b:Bool}(h:an G x (.bool b)):x= .bool b:=by
 cases x<;>simp[an]at h;rw[h]
def yg{G:Gh}{e:Env}(i:cC G nt e a.tmps){d:Array Oper}{o:Oper}{g:Option (Nat×Bool)}(h:guardOf d o=some g):Region.wanted o (yielded d a.tmps)=fL e g:=by
 unfold guardOf at h;unfold Region.wanted;split at h
 ·rename_i p;cases h;simp[p,fL]
 ·rename_i j want hs;split at h
  ·rename_i t m;cases h;simp only[hs,fL,yielded,m,arn];by_cases c:t<a.tmps.size
   ·have hr:=i.get t a.tmps[t] (by simp[c]);simp only[azw c];cases k:a.tmps[t]with
    |bool b=>
     rw[k]at hr;rw[apn hr];simp
    |_=>
     rw[k]at hr;cases l:e t<;>rw[l]at hr<;>simp[an]at hr<;>simp
   ·have f:a.tmps.size<=t:=Nat.le_of_not_lt c;rw[i.out t (by rw[<-i.size];exact f)];have:a.tmps[t]?=none:=Array.getElem?_eq_none f;simp[this]
  ·cases h
section region
variable{C:bw}(hC:fI P B av C)(hg:fo X B av){r:oN}{n nt:Nat}
include hC hg
theorem yh{rows:Bool}{ops:Array Oper}{o:Oper}{x:aO}(h:ie P rows ops o=some x)(hd: ∀d,x.dst=some d->d<nt){G:Gh}{E:AS}{F:Fr}(hw:aU P B av G E w)(J:cC G nt F.env a.tmps)(hm:ga cS G F.marks a.defers)
  {u:Out} (m:exec X C x.i F.env E=some u) {next:Act->World->Prop} {Q:Exit->Act->World->Prop}
  (T: ∀v l,u= .ok v l-> ∀H a' w',G.le H->aU P B av H l w'->E.Ext l->cC H nt (F.put x.dst v).env a'.tmps->ga cS H (F.put x.dst v).marks a'.defers->next a' w')
  (p: ∀v l,u= .panic v l-> ∀e a' w',mo P B av cS G E nt (.panic v,F,l) e a' w'->Q e a' w'):o.wpIn (W r) n P a w next Q:=by
 refine⟨λ_ _=>trivial,?_⟩;unfold ie at h;split at h
 ·rename_i i g b ij;cases h;have R:o.semAt (W r).round a.eval=execOp a.eval o:=by
   apply Oper.semAt_eq;intro c e;simp[kT,e]at b
  rw[R];have ax: ∀v l,u= .ok v l->Good P B av G E v l ((execOp a.eval o).run P w)->o.uponIn (W r) n P a next Q ((execOp a.eval o).run P w):=by
   intro v l e L;obtain⟨H,w',v',hr,s,N,V,U⟩:=L;obtain⟨p1,p2,p3⟩:=qB (a:=a) (J.mono s) hd V;have hn:=T v l e H (a.put o.dst v') w' s N U p1 (by rw[p2,p3];exact hm.mono s);rcases hr with hr| ⟨hr,Y⟩
   ·rw[hr];exact hn
   ·rw[hr];subst Y;exact hn
  by_cases Z:i.plain=true
  ·cases u with
   |ok v l=>exact ax v l rfl (apf hw hg J C b Z m)
   |panic v l=>
    exfalso;cases i<;>simp[I.plain]at Z<;>simp only[exec,fH]at m<;>(repeat' split at m)<;>(try cases m)
  ·cases A:o.op with
   |call c=>
    simp only[kT,A]at b;obtain⟨callee,D,cts⟩:=c;have M: ∃f fs as,callee= .value f/\bJ f=some fs/\nU D.toList=some as/\i= .call fs as:=by
     unfold De at b;split at b
     case h_1 d1 d2 d3 f hc=>
      simp only at hc;split at b
      ·rename_i f' as s N;cases b;exact⟨_,_,_,hc,s,N,rfl⟩
      ·cases b
     all_goals exfalso
     all_goals(first| (repeat' split at b)|skip)<;>(try cases b)<;>(try(simp only[ahg]at b;obtain⟨_,_,rfl⟩:=b))<;>simp[I.plain]at Z
    obtain⟨f,fs,as,rfl,hf,has,rfl⟩:=M;have z: (execOp a.eval o).run P w=(we (a.eval f) (D.map a.eval)).run P w:=by
     unfold execOp;simp only[A];rfl
    simp only[exec]at m;have key: ∀O,C (fs.get F.env) (as.map (·.get F.env)) E=some O->uF P (Ends P B av G E O) ((execOp a.eval o).run P w):=by
     intro O q;rw[z];exact hC _ _ _ _ q G w _ _ hw (cu J hf) (by simpa using x8 J has)
    cases q:C (fs.get F.env) (as.map (·.get F.env)) E with
    |none=>simp[q]at m
    |some O=>
     have K:=key O q;have cont: ∀e k,Ends P B av G E O e k->(match e with
       |.returned v=>next (a.put o.dst v) k
       |.panicked chain=>Q (.panic chain) a k
       |.outgrown=>LetsOut Q):=by
      intro e k j;cases O with
      |ret v l=>
       simp only[q,afE]at m;cases e with
       |returned v'=>
        obtain⟨H,s,N,V,U⟩:=j;obtain⟨p1,p2,p3⟩:=qB (a:=a) (J.mono s) hd V;exact T v l m.symm H _ k s N U p1 (by rw[p2,p3];exact hm.mono s)
       |panicked _=>exact j.elim
       |outgrown=>exact j.elim
      |panic v l=>
       simp only[q,afE]at m;cases e with
       |returned _=>exact j.elim
       |panicked chain=>
        obtain⟨H,v',Ol,s,N,V,U⟩:=j;exact p v l m.symm _ _ _ ⟨H,s,N,J.mono s,hm.mono s,U,v',Ol,V⟩
       |outgrown=>exact j.elim
     generalize(execOp a.eval o).run P w=res at K;unfold uF at K;split at K
     ·exact cont _ _ K
     ·exact⟨λh=>by simp[W]at h,Oj (K.mono λe k h=>by have:=cont e k h;cases e<;>exact this)⟩
     ·exact⟨λh=>by simp[W]at h,apm (K.mono λe k h=>by have:=cont e k h;cases e<;>exact this)⟩
     ·exact K.elim
   |panic x=>
    simp only[kT,A]at b;cases ho:bJ x with
    |none=>simp[ho]at b
    |some y=>
     simp only[ho,ahi,afE]at b;subst b;simp only[exec]at m;split at m
     ·rename_i t v ht;cases m;have hr:=cu J ho;rw[ht]at hr;have S:=hr;simp only[an]at hr;obtain⟨v',Y,_⟩:=hr;have z: (execOp a.eval o).run P w= .halt (.panic (.iface t v')) w:=by
       unfold execOp;simp only[A,Y];simp[Instr.panic,goPanic,Sem.run_bind,Sem.run,Result.andThen]
      rw[z];rw[Y]at S;exact p _ _ rfl _ _ _ ⟨G,G.le_refl,hw,J,hm,.refl E,_,rfl,S⟩
     ·cases m
   |_=>
    exfalso;simp only[kT,A]at b
    repeat' split at b
    all_goals(try cases b)
    all_goals(try(simp only[ahg]at b;obtain⟨_,_,rfl⟩:=b))
    all_goals first| (simp[I.plain]at Z;done)| (simp_all;done)
 ·cases h
end region
end
section
variable{P:Program}{X:Ctx}{B:Nat}{av:World}{cS:List Deferred}
section
variable{C:bw}(hC:fI P B av C)(hg:fo X B av){r:oN}{n nt:Nat}{rows:Bool}
include hC hg
theorem Om{g:Array Oper}: ∀ (os:List Oper) (is:lN) (l:List aO),is.map (g[·]?)=os.map some->kW P rows g os=some l->(∀x∈l,∀d,x.dst=some d->d<nt)->
  ∀ (G:Gh) (E:AS) (w:World) (fr:Fr) (a:Act) (res:Ex×Fr×AS) (Q:Exit->Act->World->Prop),aU P B av G E w->cC G nt fr.env a.tmps->ga cS G fr.marks a.defers->eF X C l fr E=some res->
  (∀e a w,mo P B av cS G E nt res e a w->Q e a w)->wpOpsIn (W r) n P g Q is a w
 | [],is,l,j,m,p,G,E,w,fr,a,res,Q,hw,he,hm,hr,t=>by
   have:is=[]:=by simpa using j
   subst this;simp only[kW,afE]at m;subst m;simp only[eF,afE]at hr;subst hr;exact t _ _ _ ⟨G,G.le_refl,hw,he,hm,.refl E,trivial⟩
 |o::os,is,l,j,m,p,G,E,w,fr,a,res,Q,hw,he,hm,hr,t=>by
  cases is with
  |nil=>simp at j
  |cons i is=>
   simp only[aoZ,aBT]at j;obtain⟨A,j⟩:=j;simp only[kW]at m;split at m
   ·rename_i x xs f q;cases m;simp only[wpOpsIn,A];have D:guardOf g o=some x.g:=by
     unfold ie at f;split at f
     ·rename_i F;cases f;exact F
     ·cases f
    have s:x.dst=o.dst:=by
     unfold ie at f;split at f
     ·cases f;rfl
     ·cases f
    have z:=yg he D;simp only[eF]at hr;rw[z];split at hr
    ·rename_i k;rw[afJ k];split at hr
     ·rename_i v H hex;refine yh hC hg f (p x (by simp)) hw he hm hex (λb c e R a' w' O F N M L=>?_) (λb c e=>by cases e);cases e;exact Om os is xs j q (λy u=>p y (by simp[u])) R H w' _ a' res Q F M L hr (λe a w h=>t e a w (h.trans O N))
     ·rename_i v H hex;cases hr;exact yh hC hg f (p x (by simp)) hw he hm hex (λb c e=>by cases e) (λb c e S a' w' h=>by cases e;exact t _ _ _ h)
     ·cases hr
    ·rename_i k;rw[afB k];refine⟨λ_ _=>trivial,?_⟩;obtain⟨K,J,I⟩:=qB (a:=a) he (p x (by simp)) (v:=.undef) (v':=undef) yf;rw[<-s];exact Om os is xs j q (λy u=>p y (by simp[u])) G E w _ _ res Q hw K (by rw[J,I];exact hm) hr t
   ·cases m
omit hC hg in
theorem apo(a:Array Oper): (List.range a.size).map (a[·]?)=a.toList.map some:=by
 apply apg;intro j;by_cases b:j<a.size
 ·simp[b]
 ·simp[b]
end
def yi(L:ee):Prop:= ∀body fr E res,L body fr E=some res-> ∃k,iter k body fr E=some res
def Av(P:Program)(B:Nat)(av:World)(cS:List Deferred)(r:oN)(n nt:Nat)(c:Code)(b:Fr->AS->jd):Prop:=
 ∀ (G:Gh) (E:AS) (w:World) (fr:Fr) (a:Act) (res:Ex×Fr×AS) (Q:Exit->Act->World->Prop),aU P B av G E w->cC G nt fr.env a.tmps->ga cS G fr.marks a.defers->b fr E=some res->
   (∀e a w,mo P B av cS G E nt res e a w->Q e a w)->c.wpIn (W r) n P Q a w
theorem YC{r:oN}{n nt:Nat}{c:Code}{t:Fr->AS->jd}(h:Av P B av cS r n nt c t): ∀ (m:Nat) (G:Gh) (E:AS) (w:World) (fr:Fr) (a:Act) (res:Ex×Fr×AS) (Q:Exit->Act->World->Prop),
  aU P B av G E w->cC G nt fr.env a.tmps->ga cS G fr.marks a.defers->iter m t fr E=some res->(∀e a w,mo P B av cS G E nt res e a w->Q e a w)->
  ∀ (b:Frame) (k:List Item) (cs:List Frame),b.roundOf=(W r).round-> ∃e a' w',Q e a' w'/\ArrivesIn (Machine.fenced P (W r)) P (lone (b.atR a (.code c:: .inLoop c::k)) cs w) b k cs e a' w'
 |0,_,_,_,_,_,_,_,_,_,_,hr,_,_,_,_,_=>by simp[iter]at hr
 |m+1,G,E,w,fr,a,res,Q,hw,he,hm,hr,O,b,k,cs,u=>by
  simp only[iter]at hr;split at hr
  ·rename_i q F S;have j:=h G E w fr a (.normal,q,F) (Exit.then (λa' w'=>mo P B av cS G E nt (.normal,q,F) .normal a' w') (λ_ _ _=>False)) hw he hm S (λe a' w' i=>by
    have v:=i;obtain⟨s,M,L,K,J,I,H⟩:=i;cases e<;>simp[fJ]at H;exact v)
   obtain⟨e,g,d,o,f⟩:=j b (.inLoop c::k) cs u trivial (Dq _ _);cases e<;>try exact o.elim
   obtain⟨s,M,L,K,J,I,H⟩:=o;obtain⟨A,D,z,y,p⟩:=YC h m s F d q g res Q L K J hr (λe a w R=>O e a w (R.trans M I)) b k cs u;exact⟨A,D,z,y,.of_steps (StepsIn.trans f (.one (fenced_calm (n:=n) trivial (Dq _ _) rfl) stepR_inLoop)) p⟩
  ·rename_i N;have j:=h G E w fr a res (Exit.then (λ_ _=>False) Q) hw he hm hr (λe a' w' i=>by
    have o:=O e a' w' i;obtain⟨s,M,L,K,J,I,H⟩:=i;obtain⟨ex,q,F⟩:=res;cases e<;>first|exact o| (exfalso;cases ex<;>simp[fJ]at H;exact N q F hr))
   obtain⟨e,g,d,o,f⟩:=j b (.inLoop c::k) cs u trivial (Dq _ _);cases e with
   |normal=>exact o.elim
   |exit id=>exact⟨_,g,d,o,.pass (x:=.inLoop c) rfl (λ_ _=>.inl (by simp)) f⟩
   |goto l=>exact⟨_,g,d,o,.pass (x:=.inLoop c) rfl (λ_ _=>.inl (by simp)) f⟩
   |ret=>exact⟨_,g,d,o,.pass (x:=.inLoop c) rfl (λ_ _=>.inl (by simp)) f⟩
   |panic T=>exact⟨_,g,d,o,.pass (x:=.inLoop c) rfl (λ_ _=>.inl (by simp)) f⟩
   |outgrown=>exact⟨_,g,d,o,.pass (x:=.inLoop c) rfl (λ_ _=>.inl (by simp)) f⟩
def apq{r:oN}{c:Code}{d:Fr->AS->jd}(h:Av P B av cS r n nt c d)(m:Nat):Av P B av cS r n nt (.loop c) (iter m d):=by
 intro G E w fr a res Q hw he hm hr o b k cs i l f;obtain⟨e,a',w',j,g⟩:=YC h m G E w fr a res Q hw he hm hr o b k cs i;exact⟨e,a',w',j,.of_steps (.one (fenced_calm l f rfl) stepR_loop) g⟩
end
section
variable{P:Program}{X:Ctx}{B:Nat}{av:World}{cS:List Deferred}
def o7(P:Program)(X:Ctx):Prop:= ∀f pf,X.code f=some pf-> ∃rows fn,P.funcs[f]?=some fn/\Df P rows fn=some pf
def HA{rows:Bool}{fn:Func}{pf:PF}(h:Df P rows fn=some pf): ∃c,fn.body=some c/\eG P rows fn.ntmps c=some pf.body/\oY P fn.results.toList=some pf.results/\pf.ntmps=fn.ntmps/\ (fn.name== "runtime.NumGoroutine")=false:=by
 unfold Df at h;split at h
 ·rename_i c d;split at h
  ·rename_i b rs f e;split at h
   ·rename_i a;cases h;exact⟨c,d,f,e,rfl,by simpa using a⟩
   ·cases h
  ·cases h
 ·cases h
def YD{fn:Func}{c:Code}(d:P.funcs[f]?=some fn)(e:fn.body=some c)(b: (fn.name== "runtime.NumGoroutine")=false)(first cap args:Array Value)(w:World):
  (we (.func (.func f) first cap) args).run P w= .ok (.enter f (first++args++cap)) w:=by
 have a: ¬fn.name= "runtime.NumGoroutine" :=by simpa using b
 simp[we,Deferred.ofValue,invoke,callFunc,ar0,d,a,e]
def apr{r:oN}{b:PC}{g:Ex}{c:Option Code}(d:x6 (some b) c)(f:Aj b=some g){Q:Exit->Act->World->Prop}(h: ∀e,(∀G,fJ G g e)->Q e a w): ∃code,c=some code/\code.wpIn (W r) n P Q a w:=by
 cases b<;>simp[Aj]at f<;>simp only[x6]at d<;>subst d<;>subst f
 ·exact⟨_,rfl,wpIn_exit (h _ λ_=>rfl)⟩
 ·exact⟨_,rfl,wpIn_ret (h _ λ_=>trivial)⟩
section
variable{C:bw}(hC:fI P B av C)(hg:fo X B av)(hX:o7 P X){n nt:Nat}{rows:Bool}
include hC hX
theorem aps{bO:FuncId}{g:Operand}{g':ao}{M:Array Tmp}{assign body:Code}{as bd:PC}(h1:bJ g=some g')(h2:eG P rows nt assign=some as)(h3:eG P rows nt body=some bd)(h4:M.toList.all (· <nt)=true){L:ee}:
  Av P B av cS none n nt (.rangeFunc g M assign body) (aY X C L bO false (.ia g' M.toList as bd)):=by
 intro G E w fr a res Q hw he hm hr hQ;simp only[aY,ahf,amJ]at hr;split at hr
 ·rename_i o;have R:=cu he h1;obtain⟨f,first,cap,pf,hgv,aC0,hpf⟩: ∃f first cap pf,g'.get fr.env= .fn (.func f) first cap/\X.bU f=none/\X.code f=some pf:=by
   unfold rZ at o;split at o
   ·rename_i f first cap hv
    simp only[aiL,Option.isNone_iff_eq_none,aum]at o;obtain⟨h1,pf,h2⟩:=o;exact⟨f,first,cap,pf,hv,h1,h2⟩
   ·cases o
  obtain⟨apv,fn,hf,apw⟩:=hX f pf hpf;obtain⟨c,K,_,_,_,F⟩:=HA apw;have apx:=R;rw[hgv]at R;simp only[an,kY]at R;obtain⟨f',d,t,Aw,qC,aC1,aC2⟩:=R;subst qC;refine wpIn_rangeFunc (λYE _=>?_);have N:=he.size
  let x:Loop:={state:=.ready,pending:=none,fn:=YE,tmps:=a.tmps,params:=M,assign,body,defers:=w.heap.size}
  let k:=(w.alloc (.deferred (some []))).alloc (.loop x)
  have HB: (w.alloc (.deferred (some []))).heap.size=w.heap.size+1:=by simp
  have YF:=hw.push (.deferred (some [])) .bB 0 0 ⟨by simp[Gh.push],by
   have: (G.push w.heap.size 0 0).aZ G.n=w.heap.size:=by simp[Gh.push]
   rw[this];exact arw _ _⟩
  have s:=G.Ap w.heap.size 0 0;have p:=(G.push w.heap.size 0 0).Ap (w.alloc (.deferred (some []))).heap.size 0 0;have hw2:=YF.push (.loop x) (.loop .ready none bO fr.env M.toList as bd) 0 0 ⟨by simp[Gh.push],x,by
   have: ((G.push w.heap.size 0 0).push (w.alloc (.deferred (some []))).heap.size 0 0).aZ (G.push w.heap.size 0 0).n=(w.alloc (.deferred (some []))).heap.size:=by simp[Gh.push]
   rw[this];exact arw _ _,rfl,rfl,trivial,by
    have:=(he.mono s).mono p;show cC _ a.tmps.size fr.env a.tmps;rw[N];exact this,rfl,by show M.toList.all (· <a.tmps.size)=true;rw[N];exact h4,rows,by show eG P rows a.tmps.size assign=_;rw[N];exact h2,by show eG P rows a.tmps.size body=_;rw[N];exact h3⟩
  have i:=hw.len;have apz: ((G.push w.heap.size 0 0).push (w.alloc (.deferred (some []))).heap.size 0 0).on E.heap.length:=p.on _ (Gh.Dg hw);have D: ((G.push w.heap.size 0 0).push (w.alloc (.deferred (some []))).heap.size 0 0).on (E.heap.length+1):=by
   have:=Gh.Dg YF (b:=(w.alloc (.deferred (some []))).heap.size) (dU:=0) (sz:=0);have e: (E.push .bB).heap.length=E.heap.length+1:=by simp[AS.push]
   rwa[e]at this
  refine⟨w.heap.size+1,[{target:=.collected w.heap.size,args:= #[]}],k,{target:=.fn (.func f) t,args:=d++ #[.func (.yield (w.heap.size+1)) #[] #[]]},k,f,d++ #[.func (.yield (w.heap.size+1)) #[] #[]]++t,k,?_,?_,λ_ _=>trivial,?_,λh=>by simp[W]at h,?_⟩
  ·show(Instr.enterLoop YE a.tmps M assign body none).run P w=_;simp[Instr.enterLoop,k,x]
  ·have apA:Act.eval a g= .func (.func f) d t:=Aw;have hm0: (#[Operand.const (.func (.yield (w.heap.size+1)) #[] #[])]:Array Operand).map a.eval= #[.func (.yield (w.heap.size+1)) #[] #[]]:=by simp[Act.eval]
   simp only[rangeCall,resolve,hm0,apA,Deferred.ofValue,Sem.run_pure]
  ·have HC: ¬fn.name= "runtime.NumGoroutine" :=by simpa using F
   simp[invoke,callFunc,ar0,hf,HC,K]
  ·have hy:an ((G.push w.heap.size 0 0).push (w.alloc (.deferred (some []))).heap.size 0 0) (.fn (.yield (E.heap.length+1)) [] []) (.func (.yield (w.heap.size+1)) #[] #[]):=by
     refine⟨_,#[],#[],rfl,⟨D,_,rfl,λ_=>by simp[Gh.push,i]⟩,by simp[aD],by simp[aD]⟩
   have y:=YD (P:=P) hf K F d t #[.func (.yield (w.heap.size+1)) #[] #[]] k;have Y:E.Ext ((E.push .bB).push (.loop .ready none bO fr.env M.toList as bd)):=(AS.Ext.push _ _).trans (.push _ _);have main: ∀cr,C (g'.get fr.env) [.fn (.yield (E.heap.length+1)) [] []] ((E.push .bB).push (.loop .ready none bO fr.env M.toList as bd))=some cr->
     CallsIn (W none) 0 P f (d++ #[.func (.yield (w.heap.size+1)) #[] #[]]++t) k (Ends P B av ((G.push w.heap.size 0 0).push (w.alloc (.deferred (some []))).heap.size 0 0) ((E.push .bB).push (.loop .ready none bO fr.env M.toList as bd)) cr):=by
    intro cr J;have:=hC _ _ _ _ J _ k (a.eval g) #[.func (.yield (w.heap.size+1)) #[] #[]] hw2 ((apx.mono s).mono p) ⟨_,_,rfl,hy,by simp[aD]⟩;rw[Aw,y]at this;exact this
   have hmarks: ∀u,((G.push w.heap.size 0 0).push (w.alloc (.deferred (some []))).heap.size 0 0).le u->ga cS u (E.heap.length::fr.marks) ({target:=.collected w.heap.size,args:= #[]}::a.defers):=by
    intro u hG';refine ga.mono hG' ⟨_,_,w.heap.size,rfl,rfl,apz,λ_=>by simp[Gh.push,i],(hm.mono s).mono p⟩
   split at hr
   ·rename_i v E' J;refine Oj ((main _ J).mono λe q m=>?_);cases e with
    |panicked _=>exact m.elim
    |outgrown=>exact m.elim
    |returned v'=>
     obtain⟨u,T,q2,q3,q4⟩:=m;unfold endLoop at hr;split at hr
     ·rename_i st z ff env Dr HD iF V;split at hr
      ·cases hr
      ·rename_i uE;have H:u.on (E.heap.length+1):=T.on _ D;obtain⟨o0,L',ob,os,oj,_,oe,op,On,apD⟩:=q2.obj _ _ V H.2;have Z:u.aZ (E.heap.length+1)=w.heap.size+1:=by
        rw[(T.same (E.heap.length+1) D (by rw[o0];simp[Gh.push,i])).1];simp[Gh.push,i]
       rw[Z]at ob;have U: (Instr.endLoop (w.heap.size+1)).run P q= .ok L'.pending (eA q (w.heap.size+1) (.loop {L' with state:=.exhausted})):=by
        have Oo: ¬L'.state= .busy:=by rw[os];exact uE
        simp[Instr.endLoop,Instr.getLoop,getObj,setObj,Sem.run,ob,Oo,eA]
       have A:aU P B av u (E'.set (E.heap.length+1) (.loop .exhausted z ff env Dr HD iF) 0) (eA q (w.heap.size+1) (.loop {L' with state:=.exhausted})):=by
        have:=q2.put H (O:=.loop {L' with state:=.exhausted}) (o':=.loop .exhausted z ff env Dr HD iF) 0 ⟨o0,{L' with state:=.exhausted},uy (q2.low _ H).2,rfl,oj,trivial,oe,op,On,apD⟩;rw[Z]at this;exact this
       have I:E.Ext (E'.set (E.heap.length+1) (.loop .exhausted z ff env Dr HD iF) 0):=(Y.trans q4).trans (.set V λn hn _=>hn);have l:=Gh.le_trans (Gh.le_trans s p) T;generalize eA q (w.heap.size+1) (.loop {L' with state:=.exhausted})=S at A U;refine⟨L'.pending,S,U,?_⟩;split at hr
       ·cases hr;simp only[x6]at oj;rw[oj];exact hQ _ _ _ ⟨u,l,A,he.mono l,hmarks u T,I,trivial⟩
       ·rename_i j;split at hr
        ·rename_i ex hex;cases hr;obtain⟨code,Ds,hwp⟩:=apr (r:=none) (n:=n) (P:=P) (Q:=Q) oj hex (a:={a with defers:=[{target:=.collected w.heap.size,args:= #[]}]++a.defers}) (w:=S)
          (λe apF=>hQ _ _ _ ⟨u,l,A,he.mono l,hmarks u T,I,apF u⟩)
         rw[Ds];exact hwp
        ·cases hr
     ·cases hr
   ·rename_i v E' J;cases hr;refine Oj ((main _ J).mono λe q m=>?_);cases e with
    |returned _=>exact m.elim
    |outgrown=>exact m.elim
    |panicked chain=>
     obtain⟨u,v',Ol,T,q2,q3,q4⟩:=m;have l:=Gh.le_trans (Gh.le_trans s p) T;exact hQ _ _ _ ⟨u,l,q2,he.mono l,hmarks u T,Y.trans q4,v',Ol,q3⟩
   ·cases hr
 ·cases hr
end
def Ax(P:Program)(X:Ctx)(B:Nat)(av:World):Prop:=
 ∀ (cS:List Deferred) (C:bw),fI P B av C-> ∀ (rows:Bool) (r:oN) (n nt id:Nat) (ops:Array Oper) (xs:List aO) (ys:List (aO×lN)),kW P rows ops ops.toList=some xs->(∀x∈xs,∀d,x.dst=some d->d<nt)->NS ops xs=some ys->
   Av P B av cS r n nt (.region id ops true) (λfr E=>fZ X C [] (gQ E.heap.length ys) fr (E.ml (ds ys)))
def wg{C:bw}(hC:fI P B av C)(hg:fo X B av)(hX:o7 P X)(gl:Ax P X B av){L:ee}(hL:yi L){rows:Bool}{bO:FuncId}{rd:Bool}{r:oN}(S:rd=r.isSome):
  ∀ (c:Code) (j:PC),eG P rows nt c=some j->Av P B av cS r n nt c (aY X C L bO rd j):=by
 intro c
 induction c with
 |skip=>
  intro j h G E w fr a res Q hw he hm hr f;simp only[eG,afE]at h;subst h;simp only[aY,afE]at hr;subst hr;exact wpIn_skip (f _ _ _ ⟨G,G.le_refl,hw,he,hm,.refl E,trivial⟩)
 |label l=>
  intro j h G E w fr a res Q hw he hm hr f;simp only[eG,afE]at h;subst h;simp only[aY,afE]at hr;subst hr;exact wpIn_label (f _ _ _ ⟨G,G.le_refl,hw,he,hm,.refl E,trivial⟩)
 |seq x y q v=>
  intro j h G E w fr a res Q hw he hm hr f;simp only[eG]at h;split at h
  ·rename_i U V K Y;cases h;simp only[aY]at hr;split at hr
   ·rename_i m N hb;refine aCZ (q U K G E w fr a _ _ hw he hm hb (λe a' w' b=>?_));obtain⟨i,J,I,H,F,D,u⟩:=b;cases e<;>simp[fJ]at u;exact v V Y i N w' m a' res Q I H F hr (λe a w hh=>f e a w (hh.trans J D))
   ·rename_i z;refine aCZ (q U K G E w fr a res _ hw he hm hr (λe a' w' b=>?_));have hq:=f e a' w' b;obtain⟨i,J,I,H,F,D,u⟩:=b;obtain⟨ex,m,N⟩:=res;cases e<;>first|exact hq| (exfalso;cases ex<;>simp[fJ]at u;exact z m N hr)
  ·cases h
 |cond c x y q v=>
  intro j h G E w fr a res Q hw he hm hr f;simp only[eG]at h;split at h
  ·rename_i c' U V M K Y;cases h;simp only[aY]at hr;split at hr
   ·rename_i t ht;have o:=cu he M;rw[ht]at o;simp only[an]at o;refine wpIn_cond o ?_;cases t with
    |true=>simp only[aiZ]at hr⊢;exact q U K G E w fr a res Q hw he hm hr f
    |false=>simp only[ahf,amJ]at hr⊢;exact v V Y G E w fr a res Q hw he hm hr f
   ·cases hr
  ·cases h
 |block id c O=>
  intro j h G E w fr a res Q hw he hm hr f;simp only[eG]at h;obtain⟨p,M,rfl⟩:=ahg.1 h;simp only[aY]at hr;split at hr
  ·rename_i id' m N hb;refine wpIn_block (O p M G E w fr a _ _ hw he hm hb (λe a' w' b=>?_));obtain⟨i,J,I,H,F,D,u⟩:=b;cases e<;>simp[fJ]at u;subst u;simp only[Exit.inBlock];split at hr
   ·rename_i A;cases hr;rw[afJ A];exact f _ _ _ ⟨i,J,I,H,F,D,trivial⟩
   ·rename_i A;cases hr;rw[afB A];exact f _ _ _ ⟨i,J,I,H,F,D,rfl⟩
  ·rename_i z;refine wpIn_block (O p M G E w fr a res _ hw he hm hr (λe a' w' b=>?_));have hq:=f e a' w' b;obtain⟨i,J,I,H,F,D,u⟩:=b;obtain⟨ex,m,N⟩:=res;cases e<;>first|exact hq| (exfalso;cases ex<;>simp[fJ]at u;exact z _ m N hr)
 |loop c O=>
  intro j h G E w fr a res Q hw he hm hr f;simp only[eG]at h;obtain⟨p,M,rfl⟩:=ahg.1 h;simp only[aY]at hr;obtain⟨k,hk⟩:=hL _ _ _ _ hr;exact apq (O p M) k G E w fr a res Q hw he hm hk f
 |exit id=>
  intro j h G E w fr a res Q hw he hm hr f;simp only[eG,afE]at h;subst h;simp only[aY,afE]at hr;subst hr;exact wpIn_exit (f _ _ _ ⟨G,G.le_refl,hw,he,hm,.refl E,rfl⟩)
 |ret=>
  intro j h G E w fr a res Q hw he hm hr f;simp only[eG,afE]at h;subst h;simp only[aY,afE]at hr;subst hr;exact wpIn_ret (f _ _ _ ⟨G,G.le_refl,hw,he,hm,.refl E,trivial⟩)
 |region id ops draw=>
  intro j h;simp only[eG]at h;split at h
  ·rename_i xs R;split at h
   ·rename_i T;have hd: ∀x∈xs,∀d,x.dst=some d->d<nt:=by
     intro x K d Z;have:=ahp.1 T x K;rw[Z]at this;simpa using this
    cases draw with
    |false=>
     simp only[ahf,amJ,afE]at h;subst h;intro G E w fr a res Q hw he hm hr f;simp only[aY]at hr;exact wpIn_region (Om hC hg ops.toList _ xs (apo ops) R hd G E w fr a res Q hw he hm hr f)
    |true=>
     simp only[aiZ]at h;obtain⟨ys,W,rfl⟩:=ahg.1 h;intro G E w fr a res Q hw he hm hr f;simp only[aY]at hr;exact gl _ C hC rows r n nt id ops xs ys R hd W G E w fr a res Q hw he hm hr f
   ·cases h
  ·cases h
 |rangeFunc g ps assign body iha ihb=>
  intro j h;simp only[eG]at h;split at h
  ·rename_i g' as bd h1 h2 h3;split at h
   ·rename_i h4;cases h;cases r with
    |none=>
     subst S;exact aps hC hX h1 h2 h3 h4
    |some l=>
     subst S;intro G E w fr a res Q hw he hm hr f;simp[aY]at hr
   ·cases h
  ·cases h
 |scope c O=>intro j h;simp[eG]at h
 |goto l=>intro j h;simp[eG]at h
 |refuse s=>intro j h;simp[eG]at h
end
section
variable{P:Program}{X:Ctx}{B:Nat}{av:World}{cS:List Deferred}
def apG{x:Value}(h: (Instr.loadAt t x).run P w= .ok v w): (do loadVar t (<-asAddr x):Sem Value).run P w= .ok v w:=by
 cases x with
 |pointer a=>
  cases a with
  |some a=>simpa[Instr.loadAt,Instr.sureAddr,asAddr]using h
  |none=>simp[Instr.loadAt,Instr.sureAddr,Sem.run_bind,stuck,Sem.run,Result.andThen]at h
 |_=>simp[Instr.loadAt,Instr.sureAddr,Sem.run_bind,stuck,Sem.run,Result.andThen]at h
def Dt(b:Array Value):ResultVar->Sem Value
 |.tmp t=>pure (b.getD t undef)
 |.cell a t=>do loadVar t (<-asAddr (b.getD a undef))
def apH(fn:Func)(b:Array Value):results fn b=(do let vs<-fn.results.mapM (Dt b);pure (if h:vs.size=1 then vs[0]else .tuple vs)):=by
 have:Dt b=(λ
  |.tmp t=>pure (b.getD t undef)
  |.cell a t=>do loadVar t (<-asAddr (b.getD a undef))):=by
  funext x
  cases x<;>rfl
 unfold results;rw[this];rfl
theorem Oq(hg:fo X B av){G:Gh}{E:AS}{w:World}(j:aU P B av G E w){nt:Nat}{e:Env}{d:Array Value}(i:cC G nt e d): ∀ (l:List ResultVar) (rs:List RV) (vs:List AV),oY P l=some rs->jz X E e rs=some vs->
  ∃f,(l.mapM (Dt d)).run P w= .ok f w/\aD G vs f
 | [],rs,vs,h,hr=>by
   simp only[oY,afE]at h;subst h;simp only[jz,afE]at hr;subst hr;exact⟨[],by simp,by simp[aD]⟩
 |.tmp t::l,rs,vs,h,hr=>by
  simp only[oY]at h;obtain⟨g,o,rfl⟩:=ahg.1 h;simp only[jz,nT]at hr;split at hr
  ·rename_i c m;cases hr;obtain⟨f,e1,r⟩:=Oq hg j i l g c o m;refine⟨d.getD t undef::f,?_,⟨_,_,rfl,NX i t,r⟩⟩;rw[aCu];simp only[Sem.run_bind,Dt,Sem.run_pure,Result.andThen_ok];rw[e1];simp only[Result.andThen_ok,Sem.run_pure]
  ·cases hr
 |.cell a t::l,rs,vs,h,hr=>by
  simp only[oY]at h;split at h
  ·rename_i b n g s q o;cases h;simp only[jz,nT]at hr;split at hr
   ·rename_i v m;split at hr
    ·rename_i c k;cases hr;obtain⟨f,e1,r⟩:=Oq hg j i l g c o k;obtain⟨v',x,p⟩:=XO j hg s q (NX i a) m;have e3:=apG x;refine⟨v'::f,?_,⟨_,_,rfl,p,r⟩⟩;rw[aCu];have u: (Dt d (.cell a t)).run P w= .ok v' w:=e3;simp only[Sem.run_bind];rw[u];simp only[Result.andThen_ok];rw[e1];simp only[Result.andThen_ok,Sem.run_pure]
    ·cases hr
   ·cases hr
  ·cases h
def Du(hg:fo X B av){G:Gh}{E:AS}(k:aU P B av G E w){e:Env}{b:Array Value}(m:cC G nt e b){fn:Func}{f:List RV}{v:AV}(h:oY P fn.results.toList=some f)(d:fk X E e f=some v):
  ∃v',(results fn b).run P w= .ok v' w/\an G v v':=by
 have key: ∀vs,jz X E e f=some vs-> ∃a:List Value,aD G vs a/\ (results fn b).run P w= .ok (if h:a.toArray.size=1 then a.toArray[0]else .tuple a.toArray) w:=by
  intro vs c;obtain⟨a,e1,r⟩:=Oq hg k m _ f vs h c;refine⟨a,r,?_⟩;rw[apH,Array.mapM_eq_mapM_toList];simp only[Sem.run_bind,Sem.run_map];rw[e1];simp[Result.andThen]
 unfold fk at d;split at d
 ·rename_i i c;cases d;obtain⟨a,r,e1⟩:=key _ c;simp only[aD]at r;obtain⟨v',q,rfl,j,rfl⟩:=r;exact⟨v',by rw[e1];simp,j⟩
 ·rename_i vs g c;cases d;obtain⟨a,r,e1⟩:=key _ c;have l:=r.length;refine⟨.tuple a.toArray,?_,⟨_,rfl,by simpa using r⟩⟩;rw[e1,dif_neg];intro n;have:vs.length=1:=by simpa[l]using n
  obtain⟨x,rfl⟩:=List.length_eq_one_iff.1 this;exact g x rfl
 ·cases d
theorem yj: ∀ (ms:lN) (E a:AS),dA E ms=some a->E.Ext a
 | [],E,a,h=>by simp only[dA,afE]at h;subst h;exact .refl E
 |m::ms,E,a,h=>by
  simp only[dA]at h;split at h
  ·rename_i hm;exact(AS.Ext.set (o':=.dead) (refs:=0) hm λ_ _ _=>trivial).trans (yj ms _ a h)
  ·cases h
theorem yk{n:Nat}{fn:Func}{b:Array Value}{R:Ending->World->Prop}{u:FrameMode}(i:u≠ .run){G:Gh}: ∀ (ms:lN) (f:List Deferred) (E a:AS) (w:World),ga cS G ms f->aU P B av G E w->dA E ms=some a->
  (∀w',aU P B av G a w'->LeavesInM (W none) n P fn b R cS u w')->LeavesInM (W none) n P fn b R f u w
 | [],f,E,a,w,e,hw,c,h=>by
   simp only[ga]at e;subst e;simp only[dA,afE]at c;subst c;exact h w hw
 |m::ms,f,E,a,w,e,hw,c,h=>by
  simp only[ga]at e;obtain⟨d,r,k,rfl,p,j,o,l⟩:=e;simp only[dA]at c;split at c
  ·rename_i hm;obtain⟨s,q⟩:=hw.obj m _ hm j.2;have g:=o s;subst g;refine⟨i,.inl ⟨_,eA w (G.aZ m) (.deferred none),p,?_,?_⟩⟩
   ·simp[Instr.takeDeferred,getObj,setObj,Sem.run,q,eA]
   ·exact yk i ms r (E.set m .dead 0) a _ l (hw.put j 0 trivial) c h
  ·cases c
def HE{G:Gh}{args:List AV}{a:Array Value}(e:aD G args a.toList)(i:args.length<=nt):cC G nt (cZ args) (a++Array.replicate (nt-a.size) undef):=by
 have f:a.size=args.length:=by rw[<-anS];exact e.length
 refine⟨by simp;omega,λt v b=>?_,λt b=>?_⟩
 ·simp only[cZ,ahm];rw[Array.getElem?_append]at b;split at b
  ·rename_i g;have c:t<args.length:=by omega
   obtain⟨u,hu,hr⟩:=e.get t args[t] (ag6 c);rw[ag6 c];have:some u=some v:=by rw[<-hu,<-b];simp
   cases this;exact hr
  ·rename_i h;have d:args.length<=t:=by omega
   rw[anQ d];rw[azE]at b;split at b
   ·cases b;exact yf
   ·cases b
 ·simp only[cZ,ahm];rw[anQ (by omega)];rfl
theorem YG{G:Gh}{nt:Nat}: ∀ (ps:lN) (args:List AV) (e:Env) (tmps:Array Value) (a:List Value),cC G nt e tmps->aD G args a->(∀p∈ps,p<nt)->cC G nt (iE e ps args) ((ps.zip a).foldl (λtmps (p:Nat×Value)=>tmps.setIfInBounds p.1 p.2) tmps)
 | [],args,e,tmps,a,he,b,c=>by simpa[iE]using he
 |p::ps,[],e,tmps,a,he,b,c=>by
  simp only[aD]at b;subst b;simpa[iE]using he
 |p::ps,x::xs,e,tmps,a,he,b,c=>by
  simp only[aD]at b;obtain⟨v,q,rfl,g,f⟩:=b;simp only[iE,List.zip_cons_cons,aBk];exact YG ps xs _ _ q (he.set (c p (by simp)) g) f (λy d=>c y (by simp[d]))
def gb(P:Program)(B:Nat)(av:World)(f:FuncId)(p:List AV->AS->Option aS):Prop:=
 ∀args E b,p args E=some b-> ∀G w (a:Array Value),aU P B av G E w->aD G args a.toList->uF P (Ends P B av G E b) ((callFunc f a).run P w)
section
variable{C:bw}(hC:fI P B av C)(hg:fo X B av)(hX:o7 P X)(gl:Ax P X B av){L:ee}(hL:yi L)
include hC hg hX gl hL
theorem apI{pf:PF}(T:X.code f=some pf){args:List AV}{E:AS}{q:aS}(R:args.length<=pf.ntmps)
  (h:leave X E.heap.length E.lo pf (aY X C L f false pf.body {env:=cZ args,marks:=[]} {heap:=E.heap,lo:=none})=some q) {G:Gh} {w:World} {b:Array Value} (z:aU P B av G E w) (S:aD G args b.toList):
  CallsIn (W none) 0 P f b w (Ends P B av G E q):=by
 obtain⟨rows,fn,F,n⟩:=hX f pf T;obtain⟨c,U,l,m,A,D⟩:=HA n;cases g:aY X C L f false pf.body {env:=cZ args,marks:=[]} {heap:=E.heap,lo:=none}with
 |none=>rw[g]at h;simp[leave]at h
 |some res=>
  rw[g]at h;have he:cC G fn.ntmps (cZ args) (b++Array.replicate (fn.ntmps-b.size) undef):=HE S (by rw[<-A];exact R);refine aAF F U trivial (wg hC hg hX gl hL (r:=none) rfl c pf.body l G {heap:=E.heap,lo:=none} w {env:=cZ args,marks:=[]} _ res _ (z.lo none) he rfl g (λe a w' hr=>?_)) rfl;obtain⟨V,M,K,O,J,I,p⟩:=hr;obtain⟨ex,fr,H⟩:=res;have k:qA X E.heap.length E.lo pf fr H=some q->LeavesInM (W none) 0 P fn a.tmps (Ends P B av G E q) a.defers .returning w':=by
   intro h;unfold qA at h;split at h
   ·rename_i j o;split at h
    ·rename_i v Q;cases h;refine yk (by simp) fr.marks a.defers H j w' J K o (λs d=>?_);obtain⟨v',e1,N⟩:=Du hg d O m Q;refine⟨v',e1,?_⟩;obtain⟨i,y,x,u,t⟩:=ye z M d (I.trans (yj _ _ _ o)) N;exact⟨i,y,x,u,t⟩
    ·cases h
   ·cases h
  cases ex with
  |normal=>cases e<;>simp[fJ]at p;exact k h
  |ret=>cases e<;>simp[fJ]at p;exact k h
  |exit id=>simp[leave]at h
  |panic v=>
   cases e<;>simp[fJ]at p;rename_i chain;obtain⟨v',rfl,rv⟩:=p;simp only[leave]at h;split at h
   ·rename_i j o;cases h;refine yk (by simp) fr.marks a.defers H j w' J K o (λs d=>?_);obtain⟨i,y,x,u,t⟩:=ye z M d (I.trans (yj _ _ _ o)) rv;exact⟨i,v',rfl,y,x,u,t⟩
   ·cases h
theorem apJ{args:List AV}{E:AS}{cr:aS}(h:j0 X C L l args E=some cr){G:Gh}(hw:aU P B av G E w)(T:G.on l)(hl:aD G args c.toList):
  uF P (Ends P B av G E cr) ((Instr.yield (G.aZ l) c).run P w):=by
 unfold j0 at h;split at h
 ·rename_i st aC6 f env ps assign body apK;split at h
  ·rename_i U;obtain⟨o0,b,ob,os,oj,_,oe,op,On,rows,oa,obd⟩:=hw.obj l _ apK T.2;have oZ:c.size=args.length:=by rw[<-anS];exact hl.length
   have HF:b.params.size=ps.length:=by rw[<-op];simp
   have hy: (Instr.yield (G.aZ l) c).run P w= .ok (.round (G.aZ l) b.fn ((b.params.zip c).foldl (λtmps (t,a)=>tmps.setIfInBounds t a) b.tmps) b.assign b.body) w:=by
    simp[Instr.yield,Instr.getLoop,getObj,Sem.run,ob,oZ,HF,U]
   rw[hy];have htm: (b.params.zip c).foldl (λtmps (t,a)=>tmps.setIfInBounds t a) b.tmps=(ps.zip c.toList).foldl (λtmps (p:Nat×Value)=>tmps.setIfInBounds p.1 p.2) b.tmps:=by
    rw[<-Array.foldl_toList,Array.toList_zip,op]
   rw[htm];split at h
   ·rename_i fr Z ha;split at h
    ·rename_i g f' u S V iF I;have he:=YG ps args env b.tmps c.toList oe hl (λp hp=>by simpa using ahp.1 On p hp);refine roundIn_of_wpIn (F:=W none) trivial (wg hC hg hX gl hL (r:=some (G.aZ l)) (rd:=true) (bO:=f) rfl b.assign assign oa G {heap:=E.heap,lo:=none} w {env:=iE env ps args,marks:=[]} _ _ _ (hw.lo none) he rfl ha (λe a Y hr=>?_));obtain⟨z,q1,q2,q3,q4,q5,q6⟩:=hr;cases e<;>simp[fJ]at q6;obtain⟨p0,y,pb,pst,pj,_,pe,pp,Dr,apO⟩:=q2.obj l _ I (q1.on l T).2;have k:z.on l:=q1.on l T;have hlG:G.on l:=T;have M:z.aZ l=G.aZ l:=(q1.same l hlG (by rw[p0,o0])).1;refine⟨eA Y (G.aZ l) (.loop {y with state:=.busy}),?_,?_⟩
     ·rw[<-M];simp[Instr.beginRound,Instr.getLoop,getObj,setObj,Sem.run,pb,pst,eA]
     ·have apQ:aU P B av z (Z.set l (.loop .busy g f' u S V iF) 0) (eA Y (G.aZ l) (.loop {y with state:=.busy})):=by
        have:=q2.put k (O:=.loop {y with state:=.busy}) (o':=.loop .busy g f' u S V iF) 0 ⟨p0,{y with state:=.busy},uy (q2.low _ k).2,rfl,pj,trivial,pe,pp,Dr,apO⟩;rw[M]at this;exact this
      cases yl:aY X C L f true body fr (Z.set l (.loop .busy g f' u S V iF) 0)with
      |none=>rw[yl]at h;simp[endRound]at h
      |some res=>
       rw[yl]at h;refine wg hC hg hX gl hL (r:=some (G.aZ l)) (rd:=true) (bO:=f) rfl b.body body obd z _ _ fr a res _ apQ q3 q4 yl (λe a' D hr=>?_);obtain⟨Q,u1,u2,u3,u4,u5,u6⟩:=hr;obtain⟨ex,HG,R⟩:=res;simp only[endRound]at h;split at h
       ·rename_i j aC7 aC8 N d i o m hj H;cases h;obtain⟨v0,x,vb,vst,vj,_,ve,vp,vps,apS⟩:=u2.obj l _ H (u1.on l k).2;have J:Q.on l:=u1.on l k;have K:Q.aZ l=G.aZ l:=by rw[<-M];exact(u1.same l k (by rw[v0,p0])).1
        have apT:=Gh.le_trans q1 u1;have apU:AS.Ext {heap:=E.heap,lo:=none} (R.set l (.loop (if j.isNone then .ready else .done) j N d i o m) 0):=
         ((q5.trans (AS.Ext.set (o':=.loop .busy g f' u S V iF) (refs:=0) I λn hn _=>hn)).trans u5).trans (AS.Ext.set (o':=.loop (if j.isNone then .ready else .done) j N d i o m) (refs:=0) H λn hn _=>hn)
        have fin: ∀ (q:Option Code),x6 j q-> ∃v w',(Instr.endRound (G.aZ l) q).run P D= .ok v w'/\Ends P B av G E (.ret (.bool j.isNone) (finish E.heap.length E.lo (.bool j.isNone) (R.set l (.loop (if j.isNone then .ready else .done) j N d i o m) 0)).2) (.returned v) w':=by
         intro q A;have s:q.isNone=j.isNone:=by
          cases j with
          |none=>simp only[x6]at A;subst A;rfl
          |some p=>cases p<;>simp only[x6]at A<;>first|exact A.elim| (subst A;rfl)
         refine⟨.bool q.isNone,eA D (G.aZ l) (.loop {x with state:=if q.isNone then .ready else .done,pending:=q}),?_,?_⟩
         ·rw[<-K];simp[Instr.endRound,Instr.getLoop,getObj,setObj,Sem.run,vb,eA]
         ·have apV:aU P B av Q (R.set l (.loop (if j.isNone then .ready else .done) j N d i o m) 0) (eA D (G.aZ l) (.loop {x with state:=if q.isNone then .ready else .done,pending:=q})):=by
            have:=u2.put J (O:=.loop {x with state:=if q.isNone then .ready else .done,pending:=q}) (o':=.loop (if j.isNone then .ready else .done) j N d i o m) 0
             ⟨v0,{x with state:=if q.isNone then .ready else .done,pending:=q},uy (u2.low _ J).2,by show(if q.isNone=true then LoopState.ready else LoopState.done)=_;rw[s],A,trivial,ve,vp,vps,apS⟩
            rw[K]at this;exact this
          obtain⟨apW,s1,s2,s3,s4⟩:=ye (v:=.bool j.isNone) (v':=.bool q.isNone) hw apT apV apU (by simp[an,s]);exact⟨apW,s1,s2,by simp[an,s],s4⟩
        cases ex with
        |normal=>
         simp only[r6,afE]at hj;subst hj;cases e<;>simp[fJ]at u6;exact fin none rfl
        |ret=>
         simp only[r6,afE]at hj;subst hj;cases e<;>simp[fJ]at u6;exact fin (some .ret) rfl
        |exit id=>
         simp only[r6,afE]at hj;subst hj;cases e<;>simp[fJ]at u6;subst u6;exact fin (some (.exit id)) rfl
        |panic v=>simp[r6]at hj
       ·cases h
    ·cases h
   ·cases h
  ·cases h
 ·cases h
theorem apX(J: ∀f p,X.bU f=some p->gb P B av f p):fI P B av (step X C L):=by
 intro fv args E N h G w K b hw g z;unfold step at h;split at h
 ·rename_i f first cap
  simp only[an,kY]at g;obtain⟨M,a,d,rfl,rfl,t,A⟩:=g;have i:we (.func (.func f) a d) b=callFunc f (a++b++d):=rfl;rw[i];have e:aD G (first++args++cap) (a++b++d).toList:=by
   simp only[Array.toList_append];exact(t.append z).append A
  split at h
  ·rename_i p D;exact J f p D _ _ _ h G w _ hw e
  ·split at h
   ·rename_i pf q;split at h
    ·rename_i F;obtain⟨rows,fn,v,o⟩:=hX f pf q;obtain⟨c,I,_,_,_,m⟩:=HA o;have j:=YD (P:=P) v I m a d b w;rw[i]at j;rw[j];exact apI hC hg hX gl hL q F h hw e
    ·cases h
   ·cases h
 ·rename_i l cap;simp only[an,kY]at g;obtain⟨M,a,d,rfl,⟨s,k,rfl,H⟩,t,A⟩:=g;have n:G.aj l=0:=by
   unfold j0 at h;split at h
   ·rename_i st y f env ps assign body r;exact(hw.obj l _ r s.2).1
   ·cases h
  have u:=H n;subst u;have x:a= #[]:=by
   simp only[aD]at t;apply arD;simpa using t
  subst x;have i:we (.func (.yield (G.aZ l)) #[] d) b=Instr.yield (G.aZ l) (#[]++b):=rfl;rw[i,Array.empty_append];exact apJ hC hg hX gl hL h hw s z
 ·cases h
end
end
section
variable{X:Ctx}
theorem nY{x:ao}{e a:Env}(h: ∀t∈x.tmps,e t=a t):x.get e=x.get a:=by
 cases x with
 |t i=>exact h i (by simp[ao.tmps])
 |c v=>rfl
def Dv{x:Option ao}{e a:Env}(h: ∀y∈x.toList,∀t∈y.tmps,e t=a t):x.map (·.get e)=x.map (·.get a):=by
 cases x with
 |none=>rfl
 |some y=>grind [nY]
def HH{xs:List ao}{e a:Env}(h: ∀t∈gA xs,e t=a t):xs.map (·.get e)=xs.map (·.get a):=by
 apply ayN;intro x b;exact nY λt c=>h t (by simp only[gA,arC];grind)
def apY{a:List (Nat×Nat×ao)}{e b:Env}(h: ∀t∈gA (a.map (·.2.2)),e t=b t):a.map (λp=>(p.1,p.2.1,p.2.2.get e))=a.map (λp=>(p.1,p.2.1,p.2.2.get b)):=by
 apply ayN;intro p d;rw[nY λt c=>h t (by simp only[gA,arC,ahk];grind)]
theorem YH{a b:ao}{e d:Env}(h: ∀t∈gA [a,b],e t=d t):a.get e=a.get d/\b.get e=b.get d:=
 ⟨nY λt c=>h t (by simp[gA,c]),nY λt c=>h t (by simp[gA,c])⟩
theorem apZ{a b c:ao}{e f:Env}(h: ∀t∈gA [a,b,c],e t=f t):a.get e=a.get f/\b.get e=b.get f/\c.get e=c.get f:=
 ⟨nY λt d=>h t (by simp[gA,d]),nY λt d=>h t (by simp[gA,d]),nY λt d=>h t (by simp[gA,d])⟩
def HI{C:bw}{i:I}{e m:Env}(h: ∀t∈i.reads,e t=m t)(E:AS):exec X C i e E=exec X C i m E:=by
 cases i with
 |mov x|box x|nilck x|un _ x|conv _ x|s2b x|mki _ x|ta _ x _ _|ext x _|len _ x|clear _ x|panic x|faddr _ x|fld _ _ _ x|load _ _ x=>
  simp only[exec,nY h]
 |alloc _|nS=>rfl
 |pick a b c|oW _ a b c=>obtain⟨l,k,o⟩:=apZ h;simp only[exec,l,k,o]
 |build _ ps|bslice _ _ ps|rT _ _ _ ps=>simp only[exec,apY h]
 |store _ a v|bin _ a v|shf _ a v|eq _ a v|ne _ a v|Da _ _ _ a v|iaddra _ _ a v|iaddrs _ a v|idxa _ _ _ a v|idxs a v|lookup _ _ a v _|append _ _ _ a v|copy _ a v=>
  obtain⟨l,k⟩:=YH h;simp only[exec,l,k]
 |mkf f a b=>
  simp only[exec];rw[HH (xs:=a) λt d=>h t (by simp only[I.reads,gA,apR,ahb];exact .inl d),
   HH (xs:=b) λt d=>h t (by simp only[I.reads,gA,apR,ahb];exact .inr d)]
 |slstr x lo j|slarr _ _ x lo j=>
  simp only[I.reads,gA,ar9,apR,ahb,arC]at h;simp only[exec];rw[nY λt d=>h t (.inl d),Dv λy g t d=>h t (.inr (.inl ⟨y,g,d⟩)),Dv (x:=j) λy g t d=>h t (.inr (.inr ⟨y,g,d⟩))]
 |slsl _ x lo j n=>
  simp only[I.reads,gA,ar9,apR,ahb,arC]at h;simp only[exec];rw[nY λt d=>h t (.inl d),Dv (x:=lo) λy g t d=>h t (.inr (.inl (.inl ⟨y,g,d⟩))),Dv (x:=j) λy g t d=>h t (.inr (.inl (.inr ⟨y,g,d⟩))),Dv (x:=n) λy g t d=>h t (.inr (.inr ⟨y,g,d⟩))]
 |max xs|min xs=>simp only[exec,HH h]
 |call f as=>
  simp only[I.reads,gA,ar9,ahb]at h;simp only[exec];rw[nY λt d=>h t (.inl d),HH λt d=>h t (.inr d)]
def HJ{i:I}{e b:Env}(h: ∀t∈i.reads,e t=b t)(E c:AS):ba i e E c=ba i b E c:=by
 cases i with
 |load _ _ x=>simp only[ba,nY h]
 |store _ a v=>obtain⟨d,_⟩:=YH h;simp only[ba,d]
 |_=>rfl
def ap0{C:bw}{i:I}{e:Env}(j:i.cls=0): ∃o,∀E,exec X C i e E=fH E o:=by
 cases i<;>simp only[I.cls,reduceCtorEq]at j
 case mov x=>exact⟨some _,λ_=>rfl⟩
 case mki t x=>exact⟨some _,λ_=>rfl⟩
 case mkf f a b=>exact⟨some _,λ_=>rfl⟩
 case nilck x=>exact⟨_,λ_=>rfl⟩
 case bin op x y=>exact⟨_,λ_=>rfl⟩
 case un op x=>exact⟨_,λ_=>rfl⟩
 case slstr x lo g=>exact⟨_,λ_=>rfl⟩
 case slsl n x lo g l=>exact⟨_,λ_=>rfl⟩
 case slarr n sz x lo g=>exact⟨_,λ_=>rfl⟩
 case faddr o x=>exact⟨_,λ_=>rfl⟩
 case iaddra n sz x i=>exact⟨_,λ_=>rfl⟩
 case iaddrs sz x i=>exact⟨_,λ_=>rfl⟩
 case idxa b n sz x i=>exact⟨_,λ_=>rfl⟩
 case idxs x i=>exact⟨_,λ_=>rfl⟩
 case ta z x t ok=>exact⟨_,λ_=>rfl⟩
 case max xs=>exact⟨_,λ_=>rfl⟩
 case min xs=>exact⟨_,λ_=>rfl⟩
 case pick c a b=>cases h:c.get e<;>first|exact⟨some _,λ_=>by simp only[exec,h];rfl⟩|exact⟨none,λ_=>by simp only[exec,h];rfl⟩
 case build z ps=>cases h:ea z (ps.map λp=>(p.1,p.2.1,p.2.2.get e))<;>first|exact⟨some _,λ_=>by simp only[exec,h];rfl⟩|exact⟨none,λ_=>by simp only[exec,h];rfl⟩
 case bslice z n ps=>cases h:ea (List.replicate n z).flatten (ps.map λp=>(p.1,p.2.1,p.2.2.get e))<;>first|exact⟨some _,λ_=>by simp only[exec,h];rfl⟩|exact⟨none,λ_=>by simp only[exec,h];rfl⟩
 case shf op x y=>
  cases h:x.get e<;>cases d:y.get e<;>first|exact⟨none,λ_=>by simp only[exec,h,d];rfl⟩|exact⟨_,λ_=>by simp only[exec,h,d];rfl⟩
 case eq k x y=>cases h:ed k (x.get e) (y.get e)<;>first|exact⟨some _,λ_=>by simp only[exec,h];rfl⟩|exact⟨none,λ_=>by simp only[exec,h];rfl⟩
 case ne k x y=>cases h:ed k (x.get e) (y.get e)<;>first|exact⟨some _,λ_=>by simp only[exec,h];rfl⟩|exact⟨none,λ_=>by simp only[exec,h];rfl⟩
 case conv k x=>cases h:x.get e<;>first|exact⟨some _,λ_=>by simp only[exec,h];rfl⟩|exact⟨none,λ_=>by simp only[exec,h];rfl⟩
 case s2b x=>
  cases h:x.get e with
  |str s=>
   by_cases d:s.size<=room
   ·exact⟨some _,λ_=>by simp only[exec,h,d,aiZ];rfl⟩
   ·exact⟨none,λ_=>by simp only[exec,h,d,amJ];rfl⟩
  |_=>exact⟨none,λ_=>by simp only[exec,h];rfl⟩
 case fld b n off x=>cases h:x.get e<;>first|exact⟨none,λ_=>by simp only[exec,h];rfl⟩|exact⟨_,λ_=>by simp only[exec,h];rfl⟩
 case ext x i=>cases h:x.get e<;>first|exact⟨none,λ_=>by simp only[exec,h];rfl⟩|exact⟨_,λ_=>by simp only[exec,h];rfl⟩
theorem YI{i:I}(a:i.cls=0)(e:Env)(E b:AS):ba i e E b= .no:=by
 cases i<;>simp only[I.cls,reduceCtorEq]at a<;>rfl
theorem Ay{C:bw}{i:I}{e:Env}{E m:AS}{v:AV}(j:exec X C i e E=some (.ok v m))(g:ba i e E m= .no):m=E/\ ∀d,exec X C i e d=some (.ok v d)/\ba i e d d= .no:=by
 by_cases p:i.cls=0
 ·obtain⟨o,ho⟩:=ap0 (X:=X) (C:=C) (e:=e) p;rw[ho]at j;obtain⟨rfl,rfl⟩:=fe j;exact⟨rfl,λd=>⟨by rw[ho];rfl,YI p e _ _⟩⟩
 ·cases i<;>simp only[I.cls,not_true_eq_false]at p
  case load b n x=>
   simp only[exec]at j;obtain⟨h,rfl⟩:=fe j;refine⟨rfl,λd=>?_⟩;simp only[ba]at g⊢;unfold cg at h;split at g<;>first|cases g|skip
   ·rename_i l;rw[l]at h;simp only at h;simp[exec,fH,cg,l,h]
   ·rename_i l;rw[l]at h;simp only at h;simp[exec,fH,cg,l,h]
  case store n a x=>simp only[ba]at g;split at g<;>cases g
  case len k x=>
   simp only[exec]at j;obtain⟨h,rfl⟩:=fe j;refine⟨rfl,λd=>⟨?_,g⟩⟩;have:fj d k (x.get e)=fj m k (x.get e):=by
    generalize x.get e=y;cases k<;>first|rfl| (cases y<;>first|rfl| (rename_i c;cases c<;>rfl))| (simp only[ba]at g;cases g)
   simp only[exec,this,h,fH]
  case call f as=>simp only[ba]at g;split at g<;>cases g
  all_goals simp[ba]at g
end
section
variable{X:Ctx}
theorem wi{C:bw}{i:I}{e:Env}{E c:AS}{v:AV}(d:exec X C i e E=some (.ok v c))(g:ba i e E c= .q\/ ∃id off n,ba i e E c= .rd id off n):c=E:=by
 cases i with
 |load b n x=>exact(fe d).2
 |lookup j z m k ok=>exact(fe d).2
 |len k x=>exact(fe d).2
 |call f as=>
  simp only[ba]at g
  grind
 |store n a x=>
  simp only[ba]at g
  grind
 |_=>rcases g with h| ⟨_,_,_,h⟩<;>simp[ba]at h
def Az:Option ae->Option (List AV)
 |some (.box cs _)=>some cs
 |_=>none
def wj{E:AS}{b:Bool}{id off:Nat}:cg X E b n (.ptr id off)=(Az E.heap[id]?).bind λcs=>part b n cs off:=by
 unfold cg;simp only;cases h:E.heap[id]? with
 |none=>rfl
 |some o=>cases o<;>simp[Az]
theorem YJ{cs vs:List AV}{off:Nat}(h:off+vs.length<=cs.length)(a:j<off\/off+vs.length<=j): (aH cs off vs)[j]?=cs[j]?:=by
 unfold aH;rcases a with a|a
 ·grind
 ·rw[ahr (by simp;omega),ahr (by simp;omega),anR]
  congr 1
  simp;omega
def ap1{cs vs:List AV}{off a:Nat}{b:Bool}(h:a+vs.length<=cs.length)(c:off+Nat.max n 1<=a\/a+vs.length<=off):part b n (aH cs a vs) off=part b n cs off:=by
 have hm:n<=Nat.max n 1:=ar4 _ _;unfold part;rw[N8 h];cases b with
 |false=>grind [YJ]
 |true=>
  simp only[aiZ];split
  ·congr 2
   apply apg;intro j;simp only[apj,anR];split
   ·exact YJ h (by omega)
   ·rfl
  ·rfl
def YK{C:bw}{e:Env}{E r:AS}{v:AV}{a x:ao}{d c:Nat}(l:exec X C (.store m a x) e E=some (.ok v r))(j:ba (.store m a x) e E r= .wr d c k)
  {b:Bool} {id off:Nat} (u:id≠d\/off+Nat.max n 1<=c\/c+k<=off):cg X r b n (.ptr id off)=cg X E b n (.ptr id off):=by
 simp only[ba]at j;split at j
 ·rename_i i o s;cases j;simp only[exec,s,kR]at l;split at l
  ·rename_i t hs;cases l;split at hs
   ·rename_i cs g;split at hs
    ·cases hs;rw[wj,wj];by_cases f:id=d
     ·subst f;have p:id<E.heap.length:=(afA.1 g).1;have q:off+Nat.max n 1<=c\/c+(x.get e).cells.length<=off:=by omega
      simp only[AS.set,ahj p,Az,g,arn];exact ap1 (by omega) q
     ·simp[AS.set,aeR (λh=>f h.symm)]
    grind
   grind
  grind
 ·cases j
 grind
theorem ap2{E i:AS}{ty:TypeId}{bytes:Nat}{s v:AV}{ys:List (List AV)}(h:dx E ty sz bytes s ys=some (v,i)){b:Bool}{id off:Nat}:cg X i b n (.ptr id off)=cg X E b n (.ptr id off):=by
 have push: ∀ (aj sz:Nat) (ty:TypeId) (af:List (List AV)),cg X (E.push (.row aj sz ty af)) b n (.ptr id off)=cg X E b n (.ptr id off):=by
  intro aj sz ty af;rw[wj,wj];simp only[AS.push,List.getElem?_append];split
  ·rfl
  ·rw[anQ (by omega:E.heap.length<=id)];cases l:id-E.heap.length<;>simp[Az]
 unfold dx at h;split at h
 ·split at h
  ·split at h
   ·cases h;rfl
   ·split at h
    ·cases h;exact push _ _ _ _
    ·cases h
  ·split at h
   ·cases h;rfl
   ·split at h
    ·cases h;exact push _ _ _ _
    ·cases h
  ·split at h
   ·cases h;rfl
   ·cases h
  ·rename_i a aj d g len cx;split at h
   ·rename_i f k j af he;split at h
    ·split at h
     ·cases h;rfl
     ·split at h
      ·cases h;exact push _ _ _ _
      ·cases h;rw[wj,wj]
       congr 1
       by_cases c:a=id
       ·subst c;have e:a<E.heap.length:=(afA.1 he).1;rw[he];simp[AS.set,e,Az]
       ·simp[AS.set,aeR c]
    ·cases h
   ·cases h
  ·cases h
 grind
def ap3{E e:AS}{a o:Nat}{x:AV}(h:kR E n (.dq a aj i o) x=some e){b:Bool}{id off:Nat}:cg X e b m (.ptr id off)=cg X E b m (.ptr id off):=by
 unfold kR at h;simp only at h;split at h
 ·rename_i w sz ty af he;split at h
  ·split at h
   ·cases h;rw[wj,wj];by_cases c:id=a
    ·subst c;have d:id<E.heap.length:=(afA.1 he).1;simp[AS.set,ahj d,Az,he]
    ·simp[AS.set,aeR (λh=>c h.symm)]
   grind
  grind
 grind
def YL{C:bw}{i:I}{e:Env}{E f:AS}{v:AV}(d:exec X C i e E=some (.ok v f))(c:ba i e E f= .app){b:Bool}{id off:Nat}:cg X f b n (.ptr id off)=cg X E b n (.ptr id off):=by
 cases i with
 |append ty sz bytes s x=>
  simp only[exec]at d;split at d
  ·grind [ap2]
  grind
 |load _ _ _=>simp only[ba]at c;grind
 |store m a x=>
  simp only[ba]at c;split at c<;>first|cases c|skip
  rename_i g;simp only[exec,g]at d;split at d
  ·rename_i hs;cases d;exact ap3 hs
  ·cases d
 |len k x=>simp only[ba]at c;split at c<;>cases c
 |call _ _=>simp only[ba]at c;split at c<;>cases c
 |_=>simp[ba]at c
def Ot{i:I}{e:Env}{E d:AS}{id off:Nat}(c:ba i e E d= .rd id off k): ∃b n a,i= .load b n a/\a.get e= .ptr id off/\k=Nat.max n 1:=by
 cases i with
 |load b n a=>
  simp only[ba]at c
  grind
 |store _ _ _=>simp only[ba]at c;grind
 |len k x=>simp only[ba]at c;grind
 |call _ _=>simp only[ba]at c;grind
 |_=>trivial
def YM{i:I}{e:Env}{E d:AS}{id off:Nat}(c:ba i e E d= .wr id off k): ∃n a x,i= .store n a x:=by
 cases i with
 |load b n a=>simp only[ba]at c;grind
 |store n a x=>simp
 |len k x=>simp only[ba]at c;grind
 |call _ _=>simp only[ba]at c;grind
 |_=>trivial
def HK{C:bw}{b:Bool}{a:ao}{e:Env}{E c:AS}{id off:Nat}{v:AV}{i:AS}(g:a.get e= .ptr id off)(h:cg X c b n (.ptr id off)=cg X E b n (.ptr id off))(d:exec X C (.load b n a) e E=some (.ok v i)):
  exec X C (.load b n a) e c=some (.ok v c):=by
 simp only[exec,g]at d⊢;obtain⟨f,_⟩:=fe d;rw[h,f];rfl
def ap4{C:bw}{x y:I}{u p:Env}{E f c:AS}{v w:AV}(o:exec X C x u E=some (.ok v f))(k:exec X C y p f=some (.ok w c))(d: (ba x u E f).ok (ba y p f c)=true):
  ∃A,exec X C y p E=some (.ok w A)/\exec X C x u A=some (.ok v c)/\ba y p E A=ba y p f c/\ba x u A c=ba x u E f:=by
 cases j:ba x u E f with
 |no=>grind [Ay]
 |rd id off n=>
  have e1:=wi o (.inr ⟨_,_,_,j⟩);subst e1;obtain⟨b,m,a,rfl,t,rfl⟩:=Ot j;cases g:ba y p f c with
  |no=>grind [Ay]
  |rd r l z=>
   have s:=wi k (.inr ⟨_,_,_,g⟩);grind
  |q=>grind [wi]
  |wr r l z=>
   obtain⟨m',a',B,rfl⟩:=YM g;rw[j,g]at d;refine⟨c,k,HK t (YK k g ?_) o,g,by rw[<-j];rfl⟩;simp only[FP.ok,arj,bne_iff_ne,amT]at d;rcases d with(h|h)|h
   ·exact .inl h
   ·exact .inr (.inl h)
   ·exact .inr (.inr h)
  |app=>exact⟨c,k,HK t (YL k g) o,g,by rw[<-j];rfl⟩
  |all=>rw[j,g]at d;simp[FP.ok]at d
 |q=>
  have e1:=wi o (.inl j);subst e1;cases g:ba y p f c with
  |no=>
   obtain⟨rfl,i⟩:=Ay k g;exact⟨c,k,o,g,j⟩
  |rd r l z=>
   have s:=wi k (.inr ⟨_,_,_,g⟩);subst s;exact⟨c,k,o,g,j⟩
  |q=>
   have s:=wi k (.inl g);subst s;exact⟨c,k,o,g,j⟩
  |wr _ _ _=>rw[j,g]at d;simp[FP.ok]at d
  |app=>rw[j,g]at d;simp[FP.ok]at d
  |all=>rw[j,g]at d;simp[FP.ok]at d
 |wr id off n=>
  cases g:ba y p f c with
  |no=>
   obtain⟨rfl,i⟩:=Ay k g;exact⟨E,(i E).1,o,(i E).2,j⟩
  |rd r l z=>
   have s:=wi k (.inr ⟨_,_,_,g⟩);subst s;obtain⟨b,m,a,rfl,t,rfl⟩:=Ot g;obtain⟨m',a',B,rfl⟩:=YM j;rw[j,g]at d;refine⟨E,HK t (YK o j ?_).symm k,o,by rw[<-g];rfl,j⟩;simp only[FP.ok,arj,bne_iff_ne,amT]at d;rcases d with(h|h)|h
   ·exact .inl (λe=>h e.symm)
   ·exact .inr (.inr h)
   ·exact .inr (.inl h)
  |_=>rw[j,g]at d;simp[FP.ok]at d
 |app=>
  cases g:ba y p f c with
  |no=>
   obtain⟨rfl,i⟩:=Ay k g;exact⟨E,(i E).1,o,(i E).2,j⟩
  |rd r l z=>
   have s:=wi k (.inr ⟨_,_,_,g⟩);subst s;obtain⟨b,m,a,rfl,t,rfl⟩:=Ot g;exact⟨E,HK t (YL o j).symm k,o,by rw[<-g];rfl,j⟩
  |_=>rw[j,g]at d;simp[FP.ok]at d
 |all=>
  cases g:ba y p f c with
  |no=>
   obtain⟨rfl,i⟩:=Ay k g;exact⟨E,(i E).1,o,(i E).2,j⟩
  |_=>rw[j,g]at d;simp[FP.ok]at d
end
end Go.Den
