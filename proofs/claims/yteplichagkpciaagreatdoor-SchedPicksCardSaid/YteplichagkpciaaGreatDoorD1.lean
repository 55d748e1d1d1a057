/- An evaluator, sound; no condition. -/
import GoSem.Step
import Derived.Below
import Derived.Laws.Rows
import Derived.ChangeKeysEq
import Derived.Laws.Entries
import Derived.Laws.StructEq
import Derived.Great.BuildSlice
import Derived.Laws.BytesString
import Derived.Laws.IdiomStrings
import Derived.Laws.MakeOwn
import Derived.Lib.UnsafeStr
import Derived.RangeFuncLeaves
set_option linter.all false
set_option maxRecDepth 10000
set_option maxHeartbeats 1000000
namespace Go.Den
open Go Go.RowKit
abbrev oN:=Option Nat
abbrev lN:=List Nat
abbrev lB:=List UInt8
variable{i j b nt m aj sz k n d l:Nat}{a:Act}{vs:List Value}{v v':Value}{w w':World}{c:Array Value}{O:Obj}{t e:TypeId}{ak:Option Value}{r:Bool}{f:FuncId}
def aaD:=@List.getElem?_set_ne
def aaF:=@List.getElem?_append_left
def aaG:=@List.getElem?_eq_some_iff
def aaH:=@if_neg
def aaQ:=@Option.some.injEq
def aaR:=@if_pos
def aaS:=@List.append_assoc
def abe:=@List.getElem?_eq_getElem
def abg:=@Go.run_underlying
def abk:=@List.take_of_length_le
def abX:=@Nat.zero_le
def aha:=@List.mem_append
def ahT:=@Nat.le_refl
def ahU:=@List.length_append
def ahX:=@List.length_map
def ah2:=@Bool.false_eq_true
def ah3:=@Option.map_eq_some_iff
def ah5:=@List.getElem?_set_self
def ah6:=@Option.map_some
def ais:=@List.mem_map
def aiu:=@List.getD_eq_getElem?_getD
def aiv:=@List.take_length
def aiw:=@List.map_append
def ajC:=@List.length_cons
def ajD:=@List.all_eq_true
def ajE:=@List.getElem?_append_right
def ajG:=@Nat.add_zero
def ajI:=@Bool.and_eq_true
def ajL:=@List.mem_filter
def ajM:=@List.length_take
def ajN:=@List.take_add_one
def ajQ:=@if_true
def ajR:=@List.mem_cons
def ajS:=@List.nil_append
def ajU:=@Nat.le_trans
def ajV:=@congrArg
def ajW:=@List.cons_append
def ajX:=@List.drop_eq_nil_of_le
def ajY:=@List.mem_of_mem_take
def ak7:=@Nat.lt_of_lt_of_le
def ak8:=@if_false
def ak9:=@List.length_eq_zero_iff
def alb:=@decide_eq_true_eq
def alo:=@Option.some.inj
def alq:=@List.drop_zero
def alv:=@Nat.zero_add
def alw:=@Nat.add_sub_cancel_left
def ana:=@List.getElem?_eq_none
def anb:=@List.getElem?_drop
def anc:=@Array.length_toList
def ane:=@Array.getElem?_setIfInBounds
def anI:=@Nat.mul_le_mul_right
def aoA:=@List.mem_of_getElem?
def ao8:=@Array.getElem?_eq_some_iff
def apd:=@Nat.add_assoc
def ape:=@List.map_cons
def apg:=@List.drop_succ_cons
def apn:=@List.ext_getElem?
def apX:=@List.getElem?_take
def apZ:=@List.flatten_append
def ap9:=@Nat.mod_eq_of_lt
def aqn:=@List.drop_eq_getElem_cons
def aqp:=@List.flatMap_append
def aqr:=@List.take_append_drop
def aqw:=@List.mem_of_mem_drop
def aqy:=@List.flatten_cons
def arJ:=@Bool.or_eq_true
def arL:=@Option.bind_some
def arX:=@Nat.add_mul
def arY:=@List.drop_drop
def arZ:=@Go.heap_alloc_new
def asa:=@List.mem_flatMap
def asg:=@Array.ext'
def asr:=@Nat.succ_mul
def as0:=@Nat.min_eq_left
def as1:=@List.take_succ_cons
def atU:=@List.take_take
def atV:=@Go.run_program
def atX:=@Nat.le_max_left
def atZ:=@List.length_singleton
def at2:=@List.flatMap_cons
def auc:=@List.extract_eq_take_drop
def auj:=@List.replicate_succ
def aul:=@Option.isSome_iff_exists
def aum:=@List.eq_of_mem_replicate
def aup:=@beq_iff_eq
def auF:=@List.take_append_of_le_length
def auG:=@List.drop_append
def auI:=@Array.toList_extract
def auK:=@List.all_cons
def auM:=@Bool.not_true
def auO:=@List.map_congr_left
def awu:=@List.map_nil
def aww:=@List.drop_take
def awy:=@Array.getElem?_eq_getElem
def axb:=@Array.getElem?_replicate
def axI:=@List.take_append
def azd:=@Go.callsIn_of_wp_marks
def aze:=@Nat.ne_of_lt
def azv:=@Nat.min_self
def aAK:=@List.foldl_cons
def aAL:=@List.cons.injEq
def aBq:=@List.range_eq_range'
def aBs:=@List.mapM_cons
def aBt:=@Go.grownCap_ge
def aB2:=@Go.wpIn_seq
def aCf:=@List.size_toArray
def aCg:=@List.replicate_append_replicate
def aCj:=@Go.size_zeroCells
def aCk:=@Bool.not_eq_true'
def aCl:=@Array.size_append
def aDg:=@decide_false
def aDR:=@List.map_map
def aDT:=@List.drop_append_of_le_length
inductive AV where
 |bool(b:Bool)
 |int(k:IntKind)(n:Int)
 |str(s:ByteArray)
 |agg(cs:List AV)
 |au(vs:List AV)
 |en
 |ptr(id off:Nat)
 |dm(id aj i off:Nat)
 |eZ(cs:List AV)(off:Nat)
 |dp(g:Nat)
 |ai
 |sl(af:List (List AV))(cH:Bool)
 |ref(id aj sz off len:Nat)(cH:Bool)
 |fk(id sz off len:Nat)
 |mw
 |mp(id:Nat)
 |jh(g:Nat)
 |fn(f:Fn)(first cap:List AV)
 |cR
 |di(t:TypeId)(v:AV)
 |eI
 |iI
 deriving Inhabited
abbrev AV.undef:AV:=.au []
def AV.cells:AV->List AV
 |.agg cs=>cs
 |v=>[v]
def AV.cn:AV->Bool
 |.au _=>true
 |.iI=>true
 |_=>false
def AV.j0:Value->AV
 |.bool b=>.bool b
 |.int k n=>.int k n
 |.string s=>.str s
 |.pointer none=>.en
 |.slice none n c=>if n=0/\c=0 then .ai else .iI
 |.map none=>.mw
 |.nilFunc=>.cR
 |.nilIface=>.eI
 |.tuple vs=>if vs.size=0 then .au []else .iI
 |_=>.iI
def AV.ofValue:Value->AV
 |.agg cs=>.agg (cs.toList.map AV.j0)
 |.iface t v=>.di t (AV.j0 v)
 |v=>AV.j0 v
mutual
def AV.refs:AV->Nat
 |.ptr id _=>id+1
 |.dm id _ _ _=>id+1
 |.ref id _ _ _ _ _=>id+1
 |.fk id _ _ _=>id+1
 |.mp id=>id+1
 |.agg cs=>aG cs
 |.au cs=>aG cs
 |.eZ cs _=>aG cs
 |.sl af _=>b9 af
 |.fn f a b=>max (match f with|.yield l=>l+1|_=>0) (max (aG a) (aG b))
 |.di _ v=>v.refs
 |_=>0
def aG:List AV->Nat
 | []=>0
 |a::as=>max a.refs (aG as)
def b9:List (List AV)->Nat
 | []=>0
 |a::as=>max (aG a) (b9 as)
end
abbrev Env:=Nat->AV
def Env.set(e:Env)(d:Nat)(v:AV):Env:=λt=>if t=d then v else e t
inductive ao where
 |t(i:Nat)
 |c(v:AV)
 deriving Inhabited
def ao.get(e:Env):ao->AV
 |.t i=>e i
 |.c v=>v
inductive EK where
 |bool
 |int
 |str
 |ptr
 |sl
 |map
 |cap
 |fn
 |di
 |AK(ts:List TypeId)
 |agg(ks:List EK)
 deriving Inhabited
inductive I where
 |mov(x:ao)
 |pick(c a b:ao)
 |alloc(z:List AV)(tg:Option TypeId)
 |box(x:ao)(tg:Option TypeId:=none)
 |build(z:List AV)(parts:List (Nat×Nat×ao))
 |bslice(z:List AV)(len:Nat)(parts:List (Nat×Nat×ao))
 |sv(ty:TypeId)(z:List AV)(len:Nat)(parts:List (Nat×Nat×ao))
 |load(agg:Bool)(n:Nat)(a:ao)
 |store(n:Nat)(a v:ao)
 |nilck(x:ao)
 |bin(op:BinOp)(x y:ao)
 |shf(op:BinOp)(x y:ao)
 |eq(k:EK)(x y:ao)
 |ne(k:EK)(x y:ao)
 |un(op:UnOp)(x:ao)
 |conv(k:IntKind)(x:ao)
 |s2b(x:ao)
 |mki(t:TypeId)(x:ao)
 |mkf(f:Fn)(first cap:List ao)
 |oc
 |DT(ty:TypeId)(z:List AV)(bytes:Nat)(l c:ao)
 |slstr(x:ao)(lo hi:Option ao)
 |slsl(sz:Nat)(x:ao)(lo hi mx:Option ao)
 |slarr(n sz:Nat)(x:ao)(lo hi:Option ao)
 |faddr(off:Nat)(x:ao)
 |fld(agg:Bool)(n off:Nat)(x:ao)
 |iaddra(len sz:Nat)(x i:ao)
 |iaddrs(sz:Nat)(x i:ao)
 |idxa(agg:Bool)(len sz:Nat)(x i:ao)
 |idxs(x i:ao)
 |lookup(kk:EK)(z:AV)(m k:ao)(ok:Bool)
 |pA(kk:EK)(m k v:ao)
 |ta(z:AV)(x:ao)(t:TypeId)(ok:Bool)
 |ext(x:ao)(i:Nat)
 |len(k:EK)(x:ao)
 |append(ty:TypeId)(sz bytes:Nat)(s x:ao)
 |copy(sz:Nat)(d s:ao)
 |clear(z:List AV)(x:ao)
 |max(xs:List ao)
 |min(xs:List ao)
 |call(f:ao)(args:List ao)
 |panic(x:ao)
 deriving Inhabited
structure aP where
 g:Option (Nat×Bool)
 dst:oN
 i:I
 deriving Inhabited
inductive PC where
 |skip
 |aL(ops:List aP)
 |uP(ops:List (aP×lN))
 |seq(a b:PC)
 |cond(c:ao)(a b:PC)
 |block(id:Nat)(b:PC)
 |loop(b:PC)
 |ik(g:ao)(params:lN)(assign body:PC)
 |exit(id:Nat)
 |ret
 deriving Inhabited
inductive RV where
 |t(i:Nat)
 |cell(a:Nat)(agg:Bool)(n:Nat)
 deriving Inhabited
structure PF where
 ntmps:Nat
 results:List RV
 body:PC
 deriving Inhabited
inductive ae where
 |box(cs:List AV)(tg:Option TypeId)
 |row(aj sz:Nat)(ty:TypeId)(af:List (List AV))
 |map(es:List (AV×AV))
 |loop(state:LoopState)(pending:Option PC)(fn:FuncId)(env:Env)(params:lN)(assign body:PC)
 |bE
 |dead
 deriving Inhabited
structure AS where
 heap:List ae
 lo:oN
 deriving Inhabited
inductive aS where
 |ret(v:AV)(E:AS)
 |panic(v:AV)(E:AS)
 deriving Inhabited
abbrev bA:=AV->List AV->AS->Option aS
structure Ctx where
 dp:Nat->Option (List AV)
 code:FuncId->Option PF
 bZ:FuncId->Option (List AV->AS->Option aS)
 fo:Nat->Option (List (AV×AV)):=λ_=>none
def AS.push(E:AS)(o:ae):AS:={E with heap:=E.heap++[o]}
def cI(a:oN)(i:Nat):oN:=match a with|none=>some i|some j=>some (Nat.min i j)
def ga(a b:oN):oN:=match b with|none=>a|some j=>cI a j
def AS.set(E:AS)(id:Nat)(o:ae)(refs:Nat):AS:=
 {heap:=E.heap.set id o,lo:=if refs<=id+1 then E.lo else cI E.lo id}
def part(agg:Bool)(n:Nat)(cs:List AV)(off:Nat):Option AV:=
 if agg then(if off+n<=cs.length then some (.agg ((cs.drop off).take n))else none)else cs[off]?
def aH(cs:List AV)(off:Nat)(vs:List AV):List AV:=cs.take off++(vs++cs.drop (off+vs.length))
def eo(cs:List AV):List (Nat×Nat×AV)->Option (List AV)
 | []=>some cs
 | (off,n,v)::rest=>if v.cn=false/\v.cells.length=n/\off+n<=cs.length then eo (aH cs off v.cells) rest else none
def chunks(sz:Nat):Nat->List AV->List (List AV)
 |0,_=>[]
 |k+1,cs=>cs.take sz::chunks sz k (cs.drop sz)
def AV.AL:AV->Bool
 |.ptr .. |.dm .. |.eZ .. |.dp _=>true
 |_=>false
def AV.AM:AV->Bool
 |.sl .. |.ref .. |.fk .. =>true
 |_=>false
def qM:EK->AV->AV->Option Bool
 |.bool,.bool a,.bool b=>some (a==b)
 |.int,.int k a,.int k' b=>if k=k' then some (a==b)else none
 |.str,.str a,.str b=>some (a.toList==b.toList)
 |.ptr,.en,.en=>some true
 |.ptr,.en,b=>if b.AL then some false else none
 |.ptr,a,.en=>if a.AL then some false else none
 |.sl,.ai,.ai=>some true
 |.sl,.ai,b=>if b.AM then some false else none
 |.sl,a,.ai=>if a.AM then some false else none
 |.map,.mw,.mw=>some true
 |.map,.mw,.mp _=>some false
 |.map,.mp _,.mw=>some false
 |.fn,.cR,.cR=>some true
 |.fn,.cR,.fn .. =>some false
 |.fn,.fn ..,.cR=>some false
 |.di,.eI,.eI=>some true
 |.di,.eI,.di .. =>some false
 |.di,.di ..,.eI=>some false
 |.AK ts,.di t (.int k a),.di c (.int k' b)=>if t=c then(if ts.contains t/\k=k' then some (a==b)else none)else some false
 |_,_,_=>none
def ji:List EK->List AV->List AV->Option Bool
 | [],[],[]=>some true
 |k::c,a::as,b::bs=>match qM k a b with
  |some true=>ji c as bs
  |some false=>some false
  |none=>none
 |_,_,_=>none
def ep:EK->AV->AV->Option Bool
 |.agg a,.agg xs,.agg ys=>if xs.length=a.length/\ys.length=a.length then ji a xs ys else none
 |.agg _,_,_=>none
 |k,x,y=>qM k x y
def wB(a:BinOp)(k:IntKind)(x y:Int):Option AV:=
 match a with
 |.and=>some (.int k (k.wrap (BitVec.ofInt k.bits x&&&BitVec.ofInt k.bits y).toNat))
 |.or=>some (.int k (k.wrap (BitVec.ofInt k.bits x|||BitVec.ofInt k.bits y).toNat))
 |.xor=>some (.int k (k.wrap (BitVec.ofInt k.bits x^^^BitVec.ofInt k.bits y).toNat))
 |.andNot=>some (.int k (k.wrap (BitVec.ofInt k.bits x&&& ~~~ (BitVec.ofInt k.bits y)).toNat))
 |_=>none
def my(a:BinOp)(k:IntKind)(x y:Int):Option AV:=
 match a with
 |.add=>some (.int k (k.wrap (x+y)))
 |.sub=>some (.int k (k.wrap (x-y)))
 |.mul=>some (.int k (k.wrap (x*y)))
 |.quo=>if y=0 then none else some (.int k (k.wrap (x.tdiv y)))
 |.rem=>if y=0 then none else some (.int k (x.tmod y))
 |.eql=>some (.bool (x==y))
 |.neq=>some (.bool (x !=y))
 |.lss=>some (.bool (x<y))
 |.leq=>some (.bool (x<=y))
 |.gtr=>some (.bool (x>y))
 |.geq=>some (.bool (x>=y))
 |a=>wB a k x y
def wC(a:BinOp)(k:IntKind)(x y:Int):Option AV:=
 if y<0 then none else
 match a with
 |.shl=>some (.int k (k.wrap (x*2^(min y.toNat k.bits))))
 |.shr=>some (.int k (x.fdiv (2^(min y.toNat k.bits))))
 |_=>none
def Z1:Nat:=1152921504606846976
def Z2(a:BinOp)(x y:ByteArray):Option AV:=
 match a with
 |.add=>if x.size+y.size<=Z1 then some (.str (x++y))else none
 |.eql=>some (.bool (x.toList==y.toList))
 |.neq=>some (.bool !(x.toList==y.toList))
 |.lss=>some (.bool (Op.bytesLess x.toList y.toList))
 |.leq=>some (.bool (Op.bytesLess x.toList y.toList||x.toList==y.toList))
 |.gtr=>some (.bool !(Op.bytesLess x.toList y.toList||x.toList==y.toList))
 |.geq=>some (.bool !(Op.bytesLess x.toList y.toList))
 |_=>none
def dq(c:BinOp):AV->AV->Option AV
 |.int k a,.int k' b=>if k=k' then my c k a b else none
 |.str a,.str b=>Z2 c a b
 |_,_=>none
def yo(a:UnOp)(x:AV):Option AV:=
 match a,x with
 |.neg,.int k n=>some (.int k (k.wrap (0-n)))
 |.xor,.int k n=>wB .xor k (if k.signed then-1 else k.max) n
 |.not,.bool b=>some (.bool !b)
 |_,_=>none
inductive Out where
 |ok(v:AV)(E:AS)
 |panic(v:AV)(E:AS)
def fO(E:AS):Option AV->Option Out
 |some v=>some (.ok v E)
 |none=>none
variable(X:Ctx)
def cb(E:AS)(agg:Bool)(n:Nat)(a:AV):Option AV:=
 match a with
 |.ptr id off=>match E.heap[id]? with
  |some (.box cs _)=>part agg n cs off
  |_=>none
 |.dm id aj i off=>match E.heap[id]? with
  |some (.row v sz _ af)=>if v=aj then(af[i]?).bind λel=>if el.length=sz then part agg n el off else none else none
  |_=>none
 |.eZ cs off=>part agg n cs off
 |.dp g=>(X.dp g).bind λcs=>part agg n cs 0
 |_=>none
def j4(E:AS)(n:Nat)(a v:AV):Option AS:=
 match a with
 |.ptr id off=>match E.heap[id]? with
  |some (.box cs tg)=>if v.cn=false/\v.cells.length=n/\off+n<=cs.length then some (E.set id (.box (aH cs off v.cells) tg) v.refs)else none
  |_=>none
 |.dm id aj i off=>match E.heap[id]? with
  |some (.row w sz ty af)=>match af[i]? with
   |some el=>if w=aj/\el.length=sz/\v.cn=false/\v.cells.length=n/\off+n<=el.length then some (E.set id (.row aj sz ty (af.set i (aH el off v.cells))) v.refs)else none
   |none=>none
  |_=>none
 |_=>none
def elems(E:AS)(sz:Nat):AV->Option (List (List AV))
 |.ai=>some []
 |.sl af _=>if af.all (λel=>el.length==sz)then some af else none
 |.ref id aj a off len _=>match E.heap[id]? with
  |some (.row v b _ af)=>if v=aj/\b=sz/\a=sz/\off+len<=af.length then some ((af.drop off).take len)else none
  |_=>none
 |.fk id b off len=>match E.heap[id]? with
  |some (.box cs _)=>if b=sz/\off+len*sz<=cs.length then some (chunks sz len (cs.drop off))else none
  |_=>none
 |_=>none
def sw:AV->Option Int
 |.int _ n=>some n
 |_=>none
def lR(n:Nat):Option AV->Nat->oN
 |none,d=>some d
 |some (.int _ i),_=>if 0<=i/\i<=n then some i.toNat else none
 |some _,_=>none
def gb(len:Nat)(b a:Option AV):Option (Nat×Nat):=
 match lR len a len with
 |some h=>match lR h b 0 with
  |some l=>some (l,h)
  |none=>none
 |none=>none
def uQ(x:AV)(b a:Option AV):Option AV:=
 match x with
 |.str s=>match gb s.size b a with
  |some (l,h)=>some (.str (s.extract l h))
  |none=>none
 |_=>none
def lS(len h:Nat)(cH:Bool):Option AV->Option Bool
 |none=>some (cH&&h==len)
 |some (.int _ i)=>if(h:Int)<=i/\i<=len then some (i==h)else none
 |some _=>none
def gd(n:Nat)(x:AV)(b a d:Option AV):Option AV:=
 match x with
 |.ai=>match gb 0 b a,lS 0 0 true d with
  |some _,some _=>some .ai
  |_,_=>none
 |.sl af cH=>match gb af.length b a with
  |some (l,h)=>match lS af.length h cH d with
   |some c=>if af.all (λel=>el.length==n)then some (.sl ((af.drop l).take (h-l)) c)else none
   |none=>none
  |none=>none
 |.ref id aj sz off len cH=>match gb len b a with
  |some (l,h)=>match lS len h cH d with
   |some c=>if sz=n then some (.ref id aj sz (off+l) (h-l) c)else none
   |none=>none
  |none=>none
 |.fk id sz off len=>match gb len b a,d with
  |some (l,h),none=>if sz=n then some (.fk id sz (off+l*sz) (h-l))else none
  |_,_=>none
 |_=>none
def qN(n sz:Nat)(x:AV)(b a:Option AV):Option AV:=
 match gb n b a with
 |some (l,h)=>match x with
  |.ptr id off=>some (.fk id sz (off+l*sz) (h-l))
  |.eZ cs off=>if off+n*sz<=cs.length then some (.sl (chunks sz (h-l) (cs.drop (off+l*sz))) false)else none
  |.dp g=>match X.dp g with
   |some cs=>if n*sz<=cs.length then some (.sl (chunks sz (h-l) (cs.drop (l*sz))) false)else none
   |none=>none
  |_=>none
 |none=>none
def sx(s:ByteArray):List (List AV):=s.data.toList.map λb=>[.int .u8 b.toNat]
def wD:List (List AV)->Option lB
 | []=>some []
 | [.int .u8 n]::r=>(wD r).map (UInt8.ofNat n.toNat:: ·)
 |_=>none
def room:Nat:=1099511627776
def dx(E:AS)(ty:TypeId)(sz bytes:Nat)(s:AV)(ys:List (List AV)):Option (AV×AS):=
 if 0<sz/\ys.all (λel=>el.length==sz)then
  match s with
  |.ai=>if ys.length=0 then some (.ai,E)else
   if ys.length*bytes<=room then some (.ref E.heap.length 0 sz 0 ys.length false,E.push (.row 0 sz ty ys))else none
  |.sl af true=>if ys.length=0 then some (s,E)else
   if(af.length+ys.length)*bytes<=room/\af.all (λel=>el.length==sz)then
    some (.ref E.heap.length 0 sz 0 (af.length+ys.length) false,E.push (.row 0 sz ty (af++ys)))else none
  |.sl _ false=>if ys.length=0 then some (s,E)else none
  |.ref id aj a off len cH=>
   match E.heap[id]? with
   |some (.row v c b af)=>
    if v=aj/\c=sz/\a=sz/\b=ty/\off+len<=af.length/\ (len+ys.length)*bytes<=room then
     if ys.length=0 then some (s,E)else
     if cH then some (.ref E.heap.length 0 sz 0 (len+ys.length) false,E.push (.row 0 sz ty ((af.drop off).take len++ys)))else
     some (.ref id (aj+1) sz 0 (len+ys.length) false,E.set id (.row (aj+1) sz ty ((af.drop off).take len++ys)) (b9 ys))
    else none
   |_=>none
  |_=>none
 else none
def pC:AV->AV->Option Bool
 |.int k a,.int k' b=>if k=k' then some (a==b)else none
 |.str a,.str b=>some (a==b)
 |.bool a,.bool b=>some (a==b)
 |_,_=>none
def ea(k:AV):List (AV×AV)->Option (Option AV)
 | []=>some none
 | (k',v)::es=>match pC k k' with
   |some true=>some (some v)
   |some false=>ea k es
   |none=>none
def lT(k v:AV):List (AV×AV)->Option (List (AV×AV))
 | []=>some [(k,v)]
 | (k',v')::es=>match pC k k' with
   |some true=>some ((k,v)::es)
   |some false=>(lT k v es).map ((k',v'):: ·)
   |none=>none
def mapOf(gm:Nat->Option (List (AV×AV)))(E:AS):AV->Option (List (AV×AV))
 |.mw=>some []
 |.jh g=>gm g
 |.mp id=>match E.heap[id]? with
  |some (.map es)=>some es
  |_=>none
 |_=>none
def isKey:AV->Bool
 |.int _ _|.str _|.bool _=>true
 |_=>false
def kY:EK->AV->Bool
 |.int,.int _ _|.str,.str _|.bool,.bool _=>true
 |_,_=>false
def gV(gm:Nat->Option (List (AV×AV)))(E:AS)(b:EK)(z m k:AV)(a:Bool):Option AV:=
 if kY b k then
  match mapOf gm E m with
  |some es=>match ea k es with
   |some (some v)=>some (if a then .au [v,.bool true]else v)
   |some none=>some (if a then .au [z,.bool false]else z)
   |none=>none
  |none=>none
 else none
def mz(E:AS)(b:EK)(m k v:AV):Option AS:=
 if kY b k then
  match m with
  |.mp id=>match E.heap[id]? with
   |some (.map es)=>match lT k v es with
    |some a=>some (E.set id (.map a) v.refs)
    |none=>none
   |_=>none
  |_=>none
 else none
def qO:AV->AV->Option AV
 |.int k x,.int _ y=>some (.int k (if y>x then y else x))
 |_,_=>none
def wE:AV->AV->Option AV
 |.int k x,.int _ y=>some (.int k (if y<x then y else x))
 |_,_=>none
def ft(E:AS):EK->AV->Option AV
 |.str,.str s=>some (.int .i64 s.size)
 |.sl,.ai=>some (.int .i64 0)
 |.sl,.sl af _=>some (.int .i64 af.length)
 |.sl,.ref _ _ _ _ n _=>some (.int .i64 n)
 |.sl,.fk _ _ _ n=>some (.int .i64 n)
 |.map,.mw=>some (.int .i64 0)
 |.map,.mp id=>match E.heap[id]? with
  |some (.map es)=>some (.int .i64 es.length)
  |_=>none
 |.cap,.ai=>some (.int .i64 0)
 |.cap,.sl af true=>some (.int .i64 af.length)
 |.cap,.ref _ _ _ _ n true=>some (.int .i64 n)
 |_,_=>none
def DU(E:AS)(sz:Nat)(s:AV):Option (List (List AV)):=
 match s with
 |.str b=>if sz=1 then some (sx b)else none
 |s=>elems E sz s
def sy(E:AS)(sz:Nat)(d s:AV):Option (AV×AS):=
 match DU E sz s with
 |some ys=>match d with
  |.ai=>some (.int .i64 0,E)
  |.ref id aj a off len _=>match E.heap[id]? with
   |some (.row v b ty af)=>
    if v=aj/\b=sz/\a=sz/\off+len<=af.length then
     some (.int .i64 (Nat.min ys.length len),E.set id (.row aj sz ty (af.take off++(ys.take (Nat.min ys.length len)++af.drop (off+Nat.min ys.length len)))) (b9 ys))
    else none
   |_=>none
  |.fk id b off len=>match E.heap[id]? with
   |some (.box cs tg)=>
    if b=sz/\off+len*sz<=cs.length/\ys.all (λel=>el.length==sz)then
     some (.int .i64 (Nat.min ys.length len),E.set id (.box (aH cs off (ys.take (Nat.min ys.length len)).flatten) tg) (b9 ys))
    else none
   |_=>none
  |_=>none
 |none=>none
def sA(E:AS)(z:List AV)(x:AV):Option AS:=
 match x with
 |.ai=>some E
 |.ref id aj a off len _=>match E.heap[id]? with
  |some (.row v sz ty af)=>
   if v=aj/\a=sz/\sz=z.length/\off+len<=af.length/\aG z=0 then
    some (E.set id (.row aj sz ty (af.take off++(List.replicate len z++af.drop (off+len)))) 0)
   else none
  |_=>none
 |.fk id sz off len=>match E.heap[id]? with
  |some (.box cs tg)=>
   if sz=z.length/\off+len*sz<=cs.length/\aG z=0 then
    some (E.set id (.box (aH cs off (List.replicate len z).flatten) tg) 0)
   else none
  |_=>none
 |_=>none
def wF(o:Nat)(x:AV):Option AV:=
 match x with
 |.ptr id off=>some (.ptr id (off+o))
 |.dm id aj i off=>some (.dm id aj i (off+o))
 |.eZ cs off=>some (.eZ cs (off+o))
 |.dp g=>match X.dp g with
  |some cs=>some (.eZ cs o)
  |none=>none
 |_=>none
def uR(n sz:Nat)(x a:AV):Option AV:=
 match sw a with
 |some i=>if 0<=i/\i<n then
    match x with
    |.ptr id off=>some (.ptr id (off+i.toNat*sz))
    |.dm id aj j off=>some (.dm id aj j (off+i.toNat*sz))
    |.eZ cs off=>some (.eZ cs (off+i.toNat*sz))
    |.dp g=>match X.dp g with
     |some cs=>some (.eZ cs (i.toNat*sz))
     |none=>none
    |_=>none
  else none
 |none=>none
def j5(sz:Nat)(x b:AV):Option AV:=
 match sw b with
 |some i=>match x with
  |.sl af _=>if 0<=i then match af[i.toNat]? with
     |some el=>if el.length=sz then some (.eZ el 0)else none
     |none=>none
   else none
  |.ref id aj a off len _=>if 0<=i/\i<len/\a=sz then some (.dm id aj (off+i.toNat) 0)else none
  |.fk id a off len=>if 0<=i/\i<len/\a=sz then some (.ptr id (off+i.toNat*sz))else none
  |_=>none
 |none=>none
def qP(agg:Bool)(n sz:Nat)(x a:AV):Option AV:=
 match sw a,x with
 |some i,.agg cs=>if 0<=i/\i<n then part agg sz cs (i.toNat*sz)else none
 |_,_=>none
def yp(x a:AV):Option AV:=
 match sw a,x with
 |some i,.str s=>if 0<=i then match s.data.toList[i.toNat]? with
    |some b=>some (.int .u8 b.toNat)
    |none=>none
  else none
 |_,_=>none
def Px(E:AS)(ty:TypeId)(z:List AV)(bytes:Nat)(l c:AV):Option (AV×AS):=
 match l,c with
 |.int _ l,.int _ c=>if 0<=l/\l<=c/\c*bytes<=room/\c<=room then
    some (.ref E.heap.length 0 z.length 0 l.toNat false,E.push (.row 0 z.length ty (List.replicate l.toNat z)))
  else none
 |_,_=>none
def AN(z x:AV)(t:TypeId)(a:Bool):Option AV:=
 match x with
 |.eI=>if a then some (.au [z,.bool false])else none
 |.di b v=>if b=t then some (if a then .au [v,.bool true]else v)else if a then some (.au [z,.bool false])else none
 |_=>none
def aFz(a:List TypeId)(x:AV)(b:Bool):Option AV:=
 match x with
 |.eI=>if b then some (.au [.eI,.bool false])else none
 |.di t v=>if a.contains t then some (if b then .au [.di t v,.bool true]else .di t v)else none
 |_=>none
def gg(f:AV->AV->Option AV):List AV->Option AV
 | []=>none
 | [x]=>some x
 |x::y::r=>match f x y with
  |some z=>gg f (z::r)
  |none=>none
termination_by l=>l.length
def wG:AV->Option AV
 |.ptr id off=>some (.ptr id off)
 |.dm id aj i off=>some (.dm id aj i off)
 |.eZ cs off=>some (.eZ cs off)
 |.dp g=>some (.dp g)
 |.fn (.func f) a b=>some (.fn (.func f) a b)
 |.fn (.yield l) a b=>some (.fn (.yield l) a b)
 |_=>none
def exec(C:bA)(i:I)(e:Env)(E:AS):Option Out:=
 match i with
 |.mov x=>some (.ok (x.get e) E)
 |.pick c a b=>match c.get e with
  |.bool t=>some (.ok (if t then a.get e else b.get e) E)
  |_=>none
 |.alloc z tg=>some (.ok (.ptr E.heap.length 0) (E.push (.box z tg)))
 |.box x tg=>if(x.get e).cn then none else some (.ok (.ptr E.heap.length 0) (E.push (.box (x.get e).cells tg)))
 |.build z parts=>match eo z (parts.map λp=>(p.1,p.2.1,p.2.2.get e))with
  |some cs=>some (.ok (.agg cs) E)
  |none=>none
 |.bslice z len parts=>match eo (List.replicate len z).flatten (parts.map λp=>(p.1,p.2.1,p.2.2.get e))with
  |some cs=>some (.ok (.sl (chunks z.length len cs) true) E)
  |none=>none
 |.sv ty z len parts=>match eo (List.replicate len z).flatten (parts.map λp=>(p.1,p.2.1,p.2.2.get e))with
  |some cs=>some (.ok (.ref E.heap.length 0 z.length 0 len false) (E.push (.row 0 z.length ty (chunks z.length len cs))))
  |none=>none
 |.load agg n a=>fO E (cb X E agg n (a.get e))
 |.store n a v=>match j4 E n (a.get e) (v.get e)with
  |some g=>some (.ok .undef g)
  |none=>none
 |.nilck x=>fO E (wG (x.get e))
 |.bin op x y=>fO E (dq op (x.get e) (y.get e))
 |.shf op x y=>match x.get e,y.get e with
  |.int k a,.int _ b=>fO E (wC op k a b)
  |_,_=>none
 |.eq k x y=>match ep k (x.get e) (y.get e)with
  |some b=>some (.ok (.bool b) E)
  |none=>none
 |.ne k x y=>match ep k (x.get e) (y.get e)with
  |some b=>some (.ok (.bool !b) E)
  |none=>none
 |.un op x=>fO E (yo op (x.get e))
 |.conv k x=>match x.get e with
  |.int _ n=>some (.ok (.int k (k.wrap n)) E)
  |_=>none
 |.s2b x=>match x.get e with
  |.str s=>if s.size<=room then some (.ok (.sl (sx s) false) E)else none
  |_=>none
 |.mki t x=>some (.ok (.di t (x.get e)) E)
 |.mkf f first cap=>some (.ok (.fn f (first.map (·.get e)) (cap.map (·.get e))) E)
 |.oc=>some (.ok (.mp E.heap.length) (E.push (.map [])))
 |.DT ty z bytes l c=>match Px E ty z bytes (l.get e) (c.get e)with
  |some (v,g)=>some (.ok v g)
  |none=>none
 |.slstr x lo h=>fO E (uQ (x.get e) (lo.map (·.get e)) (h.map (·.get e)))
 |.slsl n x lo h q=>fO E (gd n (x.get e) (lo.map (·.get e)) (h.map (·.get e)) (q.map (·.get e)))
 |.slarr n sz x lo h=>fO E (qN X n sz (x.get e) (lo.map (·.get e)) (h.map (·.get e)))
 |.faddr o x=>fO E (wF X o (x.get e))
 |.fld agg n off x=>match x.get e with
  |.agg cs=>fO E (part agg n cs off)
  |_=>none
 |.iaddra n sz x i=>fO E (uR X n sz (x.get e) (i.get e))
 |.iaddrs sz x i=>fO E (j5 sz (x.get e) (i.get e))
 |.idxa agg n sz x i=>fO E (qP agg n sz (x.get e) (i.get e))
 |.idxs x i=>fO E (yp (x.get e) (i.get e))
 |.lookup j z m k ok=>fO E (gV X.fo E j z (m.get e) (k.get e) ok)
 |.pA j m k v=>match mz E j (m.get e) (k.get e) (v.get e)with
  |some g=>some (.ok .undef g)
  |none=>none
 |.ta z x t ok=>fO E (AN z (x.get e) t ok)
 |.ext x i=>match x.get e with
  |.au vs=>fO E (vs[i]?)
  |_=>none
 |.len k x=>fO E (ft E k (x.get e))
 |.append ty sz bytes s x=>match elems E sz (x.get e)with
  |some ys=>match dx E ty sz bytes (s.get e) ys with
   |some (v,g)=>some (.ok v g)
   |none=>none
  |none=>none
 |.copy sz d s=>match sy E sz (d.get e) (s.get e)with
  |some (v,g)=>some (.ok v g)
  |none=>none
 |.clear z x=>match sA E z (x.get e)with
  |some g=>some (.ok .undef g)
  |none=>none
 |.max xs=>fO E (gg qO (xs.map (·.get e)))
 |.min xs=>fO E (gg wE (xs.map (·.get e)))
 |.call f args=>match C (f.get e) (args.map (·.get e)) E with
  |some (.ret v g)=>some (.ok v g)
  |some (.panic v g)=>some (.panic v g)
  |none=>none
 |.panic x=>match x.get e with
  |.di t v=>some (.panic (.di t v) E)
  |_=>none
structure Fr where
 env:Env
 marks:lN
 deriving Inhabited
def Fr.put(a:Fr)(dst:oN)(v:AV):Fr:=
 match dst with
 |some d=>{a with env:=a.env.set d v}
 |none=>a
inductive Ex where
 |normal
 |exit(id:Nat)
 |ret
 |panic(v:AV)
abbrev jk:=Option (Ex×Fr×AS)
def fS(e:Env):Option (Nat×Bool)->Bool
 |none=>true
 |some (t,want)=>match e t with
  |.bool b=>b==want
  |_=>false
def eN(C:bA):List aP->Fr->AS->jk
 | [],fr,E=>some (.normal,fr,E)
 |o::os,fr,E=>
  if fS fr.env o.g then
   match exec X C o.i fr.env E with
   |some (.ok v a)=>eN C os (fr.put o.dst v) a
   |some (.panic v a)=>some (.panic v,fr,a)
   |none=>none
  else eN C os (fr.put o.dst .undef) E
inductive FP where
 |no
 |rd(id off n:Nat)
 |q
 |wr(id off n:Nat)
 |app
 |all
 |rr
def FP.ok:FP->FP->Bool
 |.no,_=>true
 |_,.no=>true
 |.rd ..,.rd .. =>true
 |.rd ..,.q=>true
 |.q,.rd .. =>true
 |.q,.q=>true
 |.rd id off n,.wr b a c=>id !=b||off+n<=a||a+c<=off
 |.wr id off n,.rd b a c=>id !=b||off+n<=a||a+c<=off
 |.rd ..,.app=>true
 |.app,.rd .. =>true
 |.rr,.rd .. =>true
 |.rd ..,.rr=>true
 |.rr,.q=>true
 |.q,.rr=>true
 |.rr,.rr=>true
 |.rr,.wr .. =>true
 |.wr ..,.rr=>true
 |_,_=>false
open Classical in
noncomputable def aW(i:I)(e:Env)(E b:AS):FP:=
 match i with
 |.load _ n a=>match a.get e with
  |.ptr id off=>.rd id off (Nat.max n 1)
  |.dm .. =>.rr
  |.eZ .. =>.no
  |.dp _=>.no
  |_=>.all
 |.lookup .. =>.q
 |.len k _=>match k with
  |.map=>.q
  |_=>.no
 |.store n a _=>match a.get e with
  |.ptr id off=>.wr id off n
  |.dm .. =>.app
  |_=>.all
 |.append .. =>.app
 |.call .. =>if b=E then .q else .all
 |.alloc _ _|.box .. |.sv .. |.oc|.DT .. |.pA .. |.copy .. |.clear .. |.panic _=>.all
 |_=>.no
def I.cls:I->Nat
 |.mov _|.pick .. |.build .. |.bslice .. |.nilck _|.bin .. |.shf .. |.eq .. |.ne .. |.un .. |.conv .. |.s2b _|.mki .. |.mkf .. =>0
 |.slstr .. |.slsl .. |.slarr .. |.faddr .. |.fld .. |.iaddra .. |.iaddrs .. |.idxa .. |.idxs .. |.ta .. |.ext .. |.max _|.min _=>0
 |.load .. |.lookup .. |.len .. =>1
 |.call .. =>2
 |_=>3
def ao.tmps:ao->lN
 |.t i=>[i]
 |.c _=>[]
def gJ(l:List ao):lN:=l.flatMap ao.tmps
def I.reads:I->lN
 |.mov x|.box x _|.nilck x|.un _ x|.conv _ x|.s2b x|.mki _ x|.ta _ x _ _|.ext x _|.len _ x|.clear _ x|.panic x=>x.tmps
 |.alloc _ _|.oc=>[]
 |.pick a b c|.pA _ a b c=>gJ [a,b,c]
 |.build _ ps|.bslice _ _ ps|.sv _ _ _ ps=>gJ (ps.map (·.2.2))
 |.load _ _ a=>a.tmps
 |.store _ a v|.bin _ a v|.shf _ a v|.eq _ a v|.ne _ a v|.DT _ _ _ a v|.iaddra _ _ a v|.iaddrs _ a v|.idxa _ _ _ a v|.idxs a v
 |.lookup _ _ a v _|.append _ _ _ a v|.copy _ a v=>gJ [a,v]
 |.mkf _ a b=>gJ (a++b)
 |.slstr x lo d|.slarr _ _ x lo d=>gJ (x:: (lo.toList++d.toList))
 |.slsl _ x lo d e=>gJ (x:: (lo.toList++d.toList++e.toList))
 |.faddr _ x|.fld _ _ _ x=>x.tmps
 |.max xs|.min xs=>gJ xs
 |.call f as=>gJ (f::as)
def aP.reads(o:aP):lN:=o.i.reads++(match o.g with|some (t,_)=>[t]|none=>[])
def DV(l m:lN):Bool:=l.all λx=>!m.contains x
def j6(x y:aP):Bool:=
 DV x.dst.toList y.reads&&DV y.dst.toList x.reads&&DV x.dst.toList y.dst.toList
def FP.is:FP->Bool
 |.no=>false
 |_=>true
def DW(a:List FP)(o:aP×lN)(os:List (aP×lN)):Bool:=
 o.2.isEmpty&& (o.1.i.cls !=0&& ((o.1.i.cls==2||a.all FP.is)&&os.all λo'=>if o'.1.i.cls=0 then !j6 o.1 o'.1 else !o'.2.contains a.length))
noncomputable def gh(C:bA):List FP->List (aP×lN)->Fr->AS->jk
 |_,[],fr,E=>some (.normal,fr,E)
 |a,o::os,fr,E=>
  if fS fr.env o.1.g then
   match exec X C o.1.i fr.env E with
   |some (.ok v b)=>
    if o.2.all (λj=>((a.getD j .all).ok (aW o.1.i fr.env E b)))then
     gh C (a++[aW o.1.i fr.env E b]) os (fr.put o.1.dst v) b
    else none
   |some (.panic v b)=>if DW a o os then some (.panic v,fr,b)else none
   |none=>none
  else gh C (a++[.no]) os (fr.put o.1.dst .undef) E
def aP.fH(x:aP):Option ae:=match x.i with
 |.alloc z tg=>some (.box z tg)
 |_=>none
def lU(m:Nat)(x:aP):aP:=match x.fH with
 |some _=>{x with i:=.mov (.c (.ptr m 0))}
 |none=>x
def gW:Nat->List (aP×lN)->List (aP×lN)
 |_,[]=>[]
 |n,o::os=>(lU n o.1,o.2)::gW (match o.1.fH with|some _=>n+1|none=>n) os
def dy:List (aP×lN)->List ae
 | []=>[]
 |o::os=>match o.1.fH with
  |some b=>b::dy os
  |none=>dy os
def AS.mA(E:AS)(os:List ae):AS:={E with heap:=E.heap++os}
def AO:PC->Option Ex
 |.ret=>some .ret
 |.exit id=>some (.exit id)
 |_=>none
abbrev eu:=(Fr->AS->jk)->Fr->AS->jk
def sB:AV->Bool
 |.fn (.func f) _ _=>(X.bZ f).isNone&& (X.code f).isSome
 |_=>false
def endLoop(l:Nat)(b:Fr)(E:AS):jk:=
 match E.heap[l]? with
 |some (.loop st a f env ps as bd)=>
  if st= .busy then none else
  match a with
  |none=>some (.normal,b,E.set l (.loop .exhausted a f env ps as bd) 0)
  |some j=>match AO j with
   |some ex=>some (ex,b,E.set l (.loop .exhausted a f env ps as bd) 0)
   |none=>none
 |_=>none
noncomputable def a0(C:bA)(L:eu)(bS:FuncId)(rd:Bool):PC->Fr->AS->jk
 |.skip,fr,E=>some (.normal,fr,E)
 |.seq a b,fr,E=>match a0 C L bS rd a fr E with
  |some (.normal,d,e)=>a0 C L bS rd b d e
  |r=>r
 |.cond c a b,fr,E=>match c.get fr.env with
  |.bool t=>if t then a0 C L bS rd a fr E else a0 C L bS rd b fr E
  |_=>none
 |.block id body,fr,E=>match a0 C L bS rd body fr E with
  |some (.exit f,d,e)=>if f=id then some (.normal,d,e)else some (.exit f,d,e)
  |r=>r
 |.loop body,fr,E=>L (a0 C L bS rd body) fr E
 |.exit id,fr,E=>some (.exit id,fr,E)
 |.ret,fr,E=>some (.ret,fr,E)
 |.aL ops,fr,E=>eN X C ops fr E
 |.uP ops,fr,E=>gh X C [] (gW E.heap.length ops) fr (E.mA (dy ops))
 |.ik g params assign body,fr,E=>
  if rd then none else
  if sB X (g.get fr.env)then
   match C (g.get fr.env) [.fn (.yield (E.heap.length+1)) [] []] ((E.push .bE).push (.loop .ready none bS fr.env params assign body))with
   |some (.ret _ e)=>endLoop (E.heap.length+1) {fr with marks:=E.heap.length::fr.marks} e
   |some (.panic v e)=>some (.panic v,{fr with marks:=E.heap.length::fr.marks},e)
   |none=>none
  else none
mutual
def freeze(E:AS)(n:Nat):Nat->AV->Option AV
 |0,_=>none
 |k+1,v=>if v.refs<=n then some v else
  match v with
  |.ref id aj sz off len cH=>match E.heap[id]? with
   |some (.row v c _ af)=>if v=aj/\c=sz/\off+len<=af.length then
      match sD E n k ((af.drop off).take len)with
      |some a=>some (.sl a cH)
      |none=>none
    else none
   |_=>none
  |.agg cs=>match il E n k cs with
   |some b=>some (.agg b)
   |none=>none
  |.au cs=>match il E n k cs with
   |some b=>some (.au b)
   |none=>none
  |.sl af cH=>match sD E n k af with
   |some a=>some (.sl a cH)
   |none=>none
  |_=>none
def il(E:AS)(n:Nat):Nat->List AV->Option (List AV)
 |_,[]=>some []
 |0,_::_=>none
 |k+1,a::as=>match freeze E n k a with
  |some a'=>match il E n (k+1) as with
   |some b=>some (a'::b)
   |none=>none
  |none=>none
def sD(E:AS)(n:Nat):Nat->List (List AV)->Option (List (List AV))
 |_,[]=>some []
 |0,_::_=>none
 |k+1,a::as=>match il E n k a with
  |some a'=>match sD E n (k+1) as with
   |some b=>some (a'::b)
   |none=>none
  |none=>none
end
def finish(n:Nat)(dI:oN)(v:AV)(E:AS):AV×AS:=
 if(match E.lo with|none=>true|some j=>n<=j)then
  match freeze E n 12 v with
  |some v'=>(v',{heap:=E.heap.take n,lo:=dI})
  |none=>(v,{heap:=E.heap,lo:=ga dI E.lo})
 else(v,{heap:=E.heap,lo:=ga dI E.lo})
def od(E:AS)(e:Env):RV->Option AV
 |.t i=>some (e i)
 |.cell a agg n=>cb X E agg n (e a)
def jE(E:AS)(e:Env):List RV->Option (List AV)
 | []=>some []
 |r::rs=>match od X E e r with
  |some v=>match jE E e rs with
   |some vs=>some (v::vs)
   |none=>none
  |none=>none
def fy(E:AS)(e:Env)(a:List RV):Option AV:=
 match jE X E e a with
 |some [v]=>some v
 |some vs=>some (.au vs)
 |none=>none
def dJ(E:AS):lN->Option AS
 | []=>some E
 |m::ms=>match E.heap[m]? with
  |some .bE=>dJ (E.set m .dead 0) ms
  |_=>none
def dc(args:List AV):Env:=λt=>args.getD t .undef
def iJ(e:Env):lN->List AV->Env
 |p::ps,a::as=>iJ (e.set p a) ps as
 |_,_=>e
def qQ(n:Nat)(dI:oN)(pf:PF)(b:Fr)(E:AS):Option aS:=
 match dJ E b.marks with
 |some a=>match fy X a b.env pf.results with
  |some v=>some (.ret (finish n dI v a).1 (finish n dI v a).2)
  |none=>none
 |none=>none
def leave(n:Nat)(dI:oN)(pf:PF):jk->Option aS
 |some (.normal,fr,E)=>qQ X n dI pf fr E
 |some (.ret,fr,E)=>qQ X n dI pf fr E
 |some (.panic v,fr,E)=>match dJ E fr.marks with
  |some a=>some (.panic (finish n dI v a).1 (finish n dI v a).2)
  |none=>none
 |_=>none
def sE:Ex->Option (Option PC)
 |.normal=>some none
 |.ret=>some (some .ret)
 |.exit id=>some (some (.exit id))
 |.panic _=>none
def endRound(l n:Nat)(dI:oN):jk->Option aS
 |some (ex,_,E)=>match sE ex,E.heap[l]? with
  |some j,some (.loop _ _ f env ps as bd)=>
   some (.ret (.bool j.isNone) (finish n dI (.bool j.isNone) (E.set l (.loop (if j.isNone then .ready else .done) j f env ps as bd) 0)).2)
  |_,_=>none
 |none=>none
noncomputable def j7(C:bA)(L:eu)(l:Nat)(args:List AV)(E:AS):Option aS:=
 match E.heap[l]? with
 |some (.loop _ _ f env ps assign body)=>
  if args.length=ps.length then
   match a0 X C L f true assign {env:=iJ env ps args,marks:=[]} {E with lo:=none}with
   |some (.normal,fr,a)=>
    match a.heap[l]? with
    |some (.loop .ready b g c d e iK)=>
     endRound l E.heap.length E.lo (a0 X C L f true body fr (a.set l (.loop .busy b g c d e iK) 0))
    |_=>none
   |_=>none
  else none
 |_=>none
noncomputable def step(C:bA)(L:eu):bA
 |.fn (.func f) first cap,args,E=>
  match X.bZ f with
  |some p=>p (first++args++cap) E
  |none=>
   match X.code f with
   |some pf=>
    if(first++args++cap).length<=pf.ntmps then
     leave X E.heap.length E.lo pf (a0 X C L f false pf.body {env:=dc (first++args++cap),marks:=[]} {E with lo:=none})
    else none
   |none=>none
 |.fn (.yield l) [] _,args,E=>j7 X C L l args E
 |_,_,_=>none
def iter:Nat->eu
 |0,_,_,_=>none
 |n+1,body,fr,E=>match body fr E with
  |some (.normal,a,b)=>iter n body a b
  |r=>r
noncomputable def im:Nat->bA
 |0=>λ_ _ _=>none
 |n+1=>step X (im n) (iter n)
section
variable(P:Program)
def cy(t:TypeId):oN:=(P.info? t).map (·.size)
def yq(t:TypeId):oN:=(P.info? t).map (·.bytes)
def na(t:TypeId):Option Bool:=(P.underlying t).map λ |.struct _|.array _ _=>true|_=>false
def AV.plain:AV->Bool
 |.iI=>false
 |_=>true
def Io:Value->Bool
 |.agg cs=>cs.toList.all λv=>(AV.j0 v).plain&& !(AV.j0 v).cn
 |.iface _ v=>(AV.j0 v).plain
 |v=>(AV.j0 v).plain
def zeroV(t:TypeId):Option Value:=(P.info? t).bind (·.zero)
def yr(t:TypeId):Option AV:=
 match zeroV P t with
 |some z=>if Io z then some (AV.ofValue z)else none
 |none=>none
def gL(t:TypeId):Option (List AV):=
 match yr P t,cy P t with
 |some z,some n=>if z.cn=false/\z.cells.length=n then some z.cells else none
 |_,_=>none
def sF:List AV->TypeId->Option TypeId
 | [.en,.ai],t=>some t
 |_,_=>none
def bM:Operand->Option ao
 |.tmp t=>some (.t t)
 |.const v=>if Io v then some (.c (AV.ofValue v))else none
 |.global g=>some (.c (.dp g))
 |.func f=>some (.c (.fn (.func f) [] []))
def og:List Operand->Option (List ao)
 | []=>some []
 |x::xs=>match bM x,og xs with
  |some y,some ys=>some (y::ys)
  |_,_=>none
def uS:Option Operand->Option (Option ao)
 |none=>some none
 |some x=>(bM x).map some
def parts(a:Nat->Option (Nat×Nat)):List (Nat×Operand)->Option (List (Nat×Nat×ao))
 | []=>some []
 | (i,x)::r=>match a i,bM x,parts a r with
   |some (off,n),some y,some b=>some ((off,n,y)::b)
   |_,_,_=>none
def AP(f:TypeId->Option (List EK)):List Field->Nat->Option (List EK)
 | [],_=>some []
 |g::gs,off=>match f g.type with
  |some a=>if g.name≠ "_" /\g.offset=off/\cy P g.type=some a.length then(AP f gs (off+a.length)).map (a++ ·)else none
  |none=>none
def oh:Nat->TypeId->Option (List EK)
 |0,_=>none
 |d+1,t=>match P.underlying t with
  |some .bool=>some [.bool]
  |some (.int _)=>some [.int]
  |some .string=>some [.str]
  |some (.struct fields)=>if P.stoodInHeld t=false then AP P (oh d) fields.toList 0 else none
  |some (.array n e)=>match oh d e with
   |some a=>if cy P e=some a.length/\n*a.length<=1024 then some (List.replicate n a).flatten else none
   |none=>none
  |_=>none
def Z3:List TypeId:=
 (List.range P.types.size).filter λt=>match P.info? t,P.underlying t with
   |some i,some (.int _)=>i.comparable
   |_,_=>false
def yt(t:TypeId)(x y:Operand):Option EK:=
 match P.underlying t with
 |some .bool=>some .bool
 |some (.int _)=>some .int
 |some .string=>some .str
 |some (.pointer _)=>some .ptr
 |some (.slice _)=>some .sl
 |some (.map _ _)=>some .map
 |some (.func _ _ _)=>some .fn
 |some (.interface _)=>(match x,y with|.const .nilIface,_=>some .di|_,.const .nilIface=>some .di|_,_=>some (.AK (Z3 P)))
 |some (.struct _)=>if P.eqGuardType P.depth t=false then(oh P 10 t).map .agg else none
 |some (.array _ _)=>if P.eqGuardType P.depth t=false then(oh P 10 t).map .agg else none
 |_=>none
def AQ(t:TypeId):Option EK:=
 match P.underlying t with
 |some .bool=>some .bool
 |some (.int _)=>some .int
 |some .string=>some .str
 |_=>none
def aFA(t:TypeId):Bool:=match zeroV P t with|some .nilIface=>true|_=>false
def Z4:Fn->Bool
 |.yield _=>true
 |_=>false
def aFB(a:Array (String×TypeId)):List TypeId:=
 (List.range P.types.size).filter λt=>match P.info? t with
   |some i=>(Instr.missingMethod a i.methods).isNone
   |none=>false
def DX(a:TypeId)(c:Call):Option I:=
 match c.callee,c.argTypes.toList,c.args.toList with
 |.value f,_,args=>match bM f,og args with
  |some f,some as=>some (.call f as)
  |_,_=>none
 |.builtin .len,[t],[x]=>match P.underlying t with
  |some .string=>(bM x).map (.len .str)
  |some (.slice _)=>(bM x).map (.len .sl)
  |some (.map _ _)=>(bM x).map (.len .map)
  |_=>none
 |.builtin .append,[st,g],[s,x]=>match P.underlying st with
  |some (.slice e)=>match cy P e,yq P e,bM s,bM x with
   |some sz,some b,some s,some x=>match P.underlying g with
    |some (.slice _)=>if 0<b/\ (gL P e).isSome then some (.append e sz b s x)else none
    |_=>none
   |_,_,_,_=>none
  |_=>none
 |.builtin .copy,[h,_],[d,s]=>match P.underlying h with
  |some (.slice e)=>match cy P e,bM d,bM s with
   |some sz,some d,some s=>some (.copy sz d s)
   |_,_,_=>none
  |_=>none
 |.builtin .clear,[t],[x]=>match P.underlying t with
  |some (.slice e)=>match gL P e,bM x with
   |some z,some x=>some (.clear z x)
   |_,_=>none
  |_=>none
 |.builtin .max,_,xs=>match P.underlying a with
  |some (.int _)=>(og xs).map .max
  |_=>none
 |.builtin .min,_,xs=>match P.underlying a with
  |some (.int _)=>(og xs).map .min
  |_=>none
 |.builtin .cap,[t],[x]=>match P.underlying t with
  |some (.slice _)=>(bM x).map (.len .cap)
  |_=>none
 |_,_,_=>none
def kZ(rows:Bool)(o:Oper):Option I:=
 match o.op with
 |.move x|.assign x=>(bM x).map .mov
 |.pick c a b=>match bM c,bM a,bM b with
  |some c,some a,some b=>some (.pick c a b)
  |_,_,_=>none
 |.alloc t=>(gL P t).map λz=>.alloc z (sF z t)
 |.box t x=>(bM x).map λx=>.box x ((gL P t).bind λz=>sF z t)
 |.build t ps=>match P.underlying t,gL P t with
  |some (.struct fields),some z=>if fields.toList.all (λf=>(cy P f.type).isSome)then(parts (λi=>match fields[i]? with
    |some f=>(cy P f.type).map λn=>(f.offset,n)
    |none=>none) ps.toList).map (.build z)else none
  |some (.array _ e),some z=>match cy P e with
   |some sz=>(parts (λi=>some (i*sz,sz)) ps.toList).map (.build z)
   |none=>none
  |_,_=>none
 |.buildSlice t len ps=>match P.underlying t with
  |some (.slice e)=>match gL P e with
   |some z=>if len*z.length<=65536/\0<z.length then
      (parts (λi=>some (i*z.length,z.length)) ps.toList).map λps=>if rows then .sv e z len ps else .bslice z len ps
    else none
   |none=>none
  |_=>none
 |.load t a=>match na P t,cy P t,bM a with
  |some b,some n,some a=>some (.load b n a)
  |_,_,_=>none
 |.store t a v=>match cy P t,bM a,bM v with
  |some n,some a,some v=>some (.store n a v)
  |_,_,_=>none
 |.nilCheck x=>(bM x).map .nilck
 |.binOp op t x y _=>match bM x,bM y with
  |some p,some j=>match op,P.underlying t with
   |.shl,some (.int _)|.shr,some (.int _)=>some (.shf op p j)
   |.eql,_=>(yt P t x y).map λk=>.eq k p j
   |.neq,_=>(yt P t x y).map λk=>.ne k p j
   |_,some (.int _)|_,some .string=>some (.bin op p j)
   |_,_=>none
  |_,_=>none
 |.unOp op _ x=>(bM x).map (.un op)
 |.convert src dst x=>match P.underlying src,P.underlying dst,bM x with
  |some (.int _),some (.int k),some x=>some (.conv k x)
  |some .string,some (.slice e),some x=>match P.underlying e with
   |some (.int .u8)=>some (.s2b x)
   |_=>none
  |_,_,_=>none
 |.makeInterface t x=>match P.underlying t with
  |some (.interface _)|none=>none
  |some _=>(bM x).map (.mki t)
 |.makeFunc f first cap=>match og first.toList,og cap.toList with
  |some a,some b=>if Z4 f then none else some (.mkf f a b)
  |_,_=>none
 |.makeMap _ none=>some .oc
 |.makeSlice t l c=>match P.underlying t with
  |some (.slice e)=>match gL P e,yq P e,bM l,bM c with
   |some z,some b,some l,some c=>if 0<z.length/\0<b then some (.DT e z b l c)else none
   |_,_,_,_=>none
  |_=>none
 |.slice t x lo h d=>match bM x,uS lo,uS h,uS d with
  |some x,some lo,some h,some d=>match P.underlying t with
   |some .string=>if d.isNone then some (.slstr x lo h)else none
   |some (.slice e)=>if d.isNone||h.isSome then(cy P e).map λn=>.slsl n x lo h d else none
   |some (.array n e)=>if d.isNone then(cy P e).map λsz=>.slarr n sz x lo h else none
   |_=>none
  |_,_,_,_=>none
 |.fieldAddr s x f=>match P.underlying s,bM x with
  |some (.struct fields),some x=>match fields[f]? with
   |some g=>match cy P g.type with
    |some n=>if 0<n then some (.faddr g.offset x)else none
    |none=>none
   |none=>none
  |_,_=>none
 |.field s x f=>match P.underlying s,bM x with
  |some (.struct fields),some x=>match fields[f]? with
   |some g=>match na P g.type,cy P g.type with
    |some b,some n=>some (.fld b n g.offset x)
    |_,_=>none
   |none=>none
  |_,_=>none
 |.indexAddr t x i=>match P.underlying t,bM x,bM i with
  |some (.array n e),some x,some i=>(cy P e).map λsz=>.iaddra n sz x i
  |some (.slice e),some x,some i=>(cy P e).map λsz=>.iaddrs sz x i
  |_,_,_=>none
 |.index t x i=>match P.underlying t,bM x,bM i with
  |some (.array n e),some x,some i=>match na P e,cy P e with
   |some b,some sz=>some (.idxa b n sz x i)
   |_,_=>none
  |some .string,some x,some i=>some (.idxs x i)
  |_,_,_=>none
 |.lookup t m k ok=>match P.underlying t with
  |some (.map q u)=>match AQ P q,yr P u,bM m,bM k with
   |some r,some z,some m,some k=>some (.lookup r z m k ok)
   |_,_,_,_=>none
  |_=>none
 |.mapUpdate t m k v|.insert t m k v=>match P.underlying t with
  |some (.map q _)=>match AQ P q,bM m,bM k,bM v with
   |some r,some m,some k,some v=>some (.pA r m k v)
   |_,_,_,_=>none
  |_=>none
 |.typeAssert x _ asserted ok=>match P.underlying asserted,bM x with
  |some (.interface _),some _=>none
  |some _,some x=>match yr P asserted with
   |some z=>some (.ta z x asserted ok)
   |none=>none
  |_,_=>none
 |.extract x i=>(bM x).map λx=>.ext x i
 |.call c=>DX P o.type c
 |.panic x=>(bM x).map .panic
 |_=>none
def guardOf(a:Array Oper)(o:Oper):Option (Option (Nat×Bool)):=
 match o.guard with
 |none=>some none
 |some (j,want)=>match(a[j]?).bind (·.dst)with
  |some t=>some (some (t,want))
  |none=>none
def iq(rows:Bool)(a:Array Oper)(o:Oper):Option aP:=
 match kZ P rows o,guardOf a o with
 |some i,some g=>some {g:=g,dst:=o.dst,i:=i}
 |_,_=>none
def k0(rows:Bool)(a:Array Oper):List Oper->Option (List aP)
 | []=>some []
 |o::os=>match iq P rows a o,k0 rows a os with
  |some x,some xs=>some (x::xs)
  |_,_=>none
def k5(o:Oper):lN:=(o.after.toList.filter (Region.binds .any)).map (·.on)
def AR(a:lN)(n:Nat):lN->Nat
 | []=>0
 |e::es=>Nat.lor (Nat.lor (Nat.shiftLeft 1 e) (if e<n then a.getD (n-1-e) 0 else 0)) (AR a n es)
def uT(a:Array Oper):Nat->lN
 |0=>[]
 |n+1=>AR (uT a n) n (match a[n]? with|some o=>k5 o|none=>[])::uT a n
def gM(b:Array Oper)(_:Nat)(i:Nat):lN:=(List.range i).filter λa=>Nat.testBit ((uT b (i+1)).headD 0) a
def Ip(b:Region.Mode)(a:Array Oper):lN->lN->Bool
 |_,[]=>true
 |pre,i::rest=>(match a[i]? with|some o=>o.after.toList.all (λe=>!Region.binds b e||pre.contains e.on)|none=>false)&&Ip b a (i::pre) rest
def uU(c:Region.Mode)(b:Array Oper)(a:lN):Bool:=(List.range b.size).all (λi=>a.contains i)&&Ip c b [] a
def sG(ys:List (aP×Nat))(a:List lN)(y:aP)(j:Nat):lN:=
 if y.i.cls=0 then[]else
 match(ys.filter λ (x,i)=>i<j&&x.i.cls>=1&& !(a.getD j []).contains i).map (·.2)with
 | []=>if y.i.cls=2 then((ys.filter λ (x,i)=>i<j&&x.i.cls=0&& !(a.getD j []).contains i).map (·.2)).take 1 else[]
 |l=>l
def Py{ys:List (aP×Nat)}{a:List lN}{y x:aP}(c: (x,i)∈ys)(b:i<j)(f:x.i.cls≠0)(e:y.i.cls≠0)(d: (a.getD j []).contains i=false):i∈sG ys a y j:=by
 unfold sG;have hm:i∈(ys.filter λ (x,i)=>i<j&&x.i.cls>=1&& !(a.getD j []).contains i).map (·.2):=by
  simp only[ais,ajL]
  grind
 grind
def aqI{ys:List (aP×Nat)}{b:List lN}{y x:aP}(d: (x,i)∈ys)(c:i<j)(k:y.i.cls=2)(f: (b.getD j []).contains i=false):sG ys b y j≠[]:=by
 intro h;by_cases ci:x.i.cls=0
 ·unfold sG at h;rw[aaH (by omega)]at h;split at h
  ·have hm:i∈(ys.filter λ (x,i)=>i<j&&x.i.cls=0&& !(b.getD j []).contains i).map (·.2):=by
     simp only[ais,ajL]
     grind
   cases e: (ys.filter λ (x,i)=>i<j&&x.i.cls=0&& !(b.getD j []).contains i).map (·.2)with
   |nil=>grind
   |cons a g=>grind
  grind
 ·have:=Py (y:=y) d c ci (by omega) f
  grind
def Pz(a:Array Oper)(xs:List aP):Option (List (aP×lN)):=
 let n:=xs.length
 let before:=(List.range n).map λi=>(gM a 64 i).eraseDups
 let ordered (i j:Nat):Bool:=(before.getD j []).contains i
 let ys:=xs.zipIdx
 if(uU .any a (List.range a.size)&&uU .text a (List.range a.size)&&uU .gc a (Region.linearise .gc a 0))&& (List.range n).all (λi=>match a[i]? with|some o=>(k5 o).all (· <i)|none=>false)&&
   ys.all (λ (x,i)=>ys.all λ (y,j)=>i>=j||ordered i j||j6 x y)
 then some (ys.map λ (y,j)=>(y,sG ys before y j))
 else none
def eO(rows:Bool)(nt:Nat):Code->Option PC
 |.skip|.label _=>some .skip
 |.seq a b=>match eO rows nt a,eO rows nt b with
  |some a,some b=>some (.seq a b)
  |_,_=>none
 |.cond c a b=>match bM c,eO rows nt a,eO rows nt b with
  |some c,some a,some b=>some (.cond c a b)
  |_,_,_=>none
 |.block id b=>(eO rows nt b).map (.block id)
 |.loop b=>(eO rows nt b).map .loop
 |.exit id=>some (.exit id)
 |.ret=>some .ret
 |.region _ ops draw=>match k0 P rows ops ops.toList with
  |some xs=>
   if xs.all (λx=>match x.dst with|some d=>d<nt|none=>true)then
    if draw then(Pz ops xs).map .uP else some (.aL xs)
   else none
  |none=>none
 |.rangeFunc g ps assign body=>match bM g,eO rows nt assign,eO rows nt body with
  |some g,some a,some b=>if ps.toList.all (· <nt)then some (.ik g ps.toList a b)else none
  |_,_,_=>none
 |.scope _|.goto _|.refuse _=>none
def pD:List ResultVar->Option (List RV)
 | []=>some []
 |.tmp t::r=>(pD r).map (.t t:: ·)
 |.cell a t::r=>match na P t,cy P t,pD r with
  |some b,some n,some rs=>some (.cell a b n::rs)
  |_,_,_=>none
def DY(rows:Bool)(fn:Func):Option PF:=
 match fn.body with
 |some c=>match eO P rows fn.ntmps c,pD P fn.results.toList with
  |some b,some rs=>if(fn.name != "runtime.NumGoroutine")then some {ntmps:=fn.ntmps,results:=rs,body:=b}else none
  |_,_=>none
 |none=>none
end
structure Gh where
 bt:Nat->Nat->Option Value
 n:Nat
 ba:Nat->Nat
 base:Nat->Nat
 aj:Nat->Nat
 ed:Nat->Nat
 sz:Nat->Nat
 pz:Nat->Option ae:=λ_=>none
def Gh.on(G:Gh)(i:Nat):Prop:=i<G.n/\G.pz i=none
def leaf:Value->Bool
 |.agg _=>false
 |.tuple _=>false
 |_=>true
def qR(G:Gh)(b o:Nat)(vs:List Value):Prop:= ∀j v,vs[j]?=some v->G.bt b (o+j)=some v
def Leaves(vs:List Value):Prop:= ∀v∈vs,leaf v=true
def nb(G:Gh):Fn->Fn->Prop
 |.yield l,f=>G.on l/\ (∃k,f= .yield k/\ (G.aj l=0->k=G.ba l))
 |g,f=>f=g
mutual
def an(G:Gh):AV->Value->Prop
 |.bool b,v=>v= .bool b
 |.int k n,v=>v= .int k n
 |.str s,v=>v= .string s
 |.agg cs,v=> ∃vs:Array Value,v= .agg vs/\aD G cs vs.toList/\Leaves vs.toList
 |.au cs,v=> ∃vs:Array Value,v= .tuple vs/\aD G cs vs.toList
 |.en,v=>v= .pointer none
 |.ptr id off,v=>G.on id/\ ∃a,v= .pointer (some a)/\ (G.aj id=0->a=⟨G.ba id,off,none⟩)
 |.dm id aj i off,v=>G.on id/\aj<=G.aj id/\ ∃a,v= .pointer (some a)/\ (G.aj id=aj->a=⟨G.ba id,G.base id+i*G.sz id+off,none⟩)
 |.eZ cs off,v=> ∃b o vs,v= .pointer (some ⟨b,o+off,none⟩)/\qR G b o vs/\Leaves vs/\aD G cs vs
 |.dp g,v=>v= .pointer (some ⟨g,0,none⟩)
 |.ai,v=>v= .slice none 0 0
 |.sl af cH,v=> ∃b o cap sz vs,v= .slice (some ⟨b,o,none⟩) af.length cap/\af.length<=cap/\ (cH=true->cap=af.length)/\ (∀el∈af,el.length=sz)/\qR G b o vs/\Leaves vs/\br G af vs
 |.ref id aj sz off len cH,v=>G.on id/\aj<=G.aj id/\ ∃a cap,v= .slice (some a) len cap/\ (len<=cap/\a.spot=none)/\ (cH=true->cap=len)/\
   (G.aj id=aj->G.sz id=sz/\ (0<cap->a=⟨G.ba id,G.base id+off*sz,none⟩)/\off*sz+cap*sz<=G.ed id)
 |.fk id _ off len,v=>G.on id/\ ∃a cap,v= .slice (some a) len cap/\len<=cap/\ (G.aj id=0->0<cap->a=⟨G.ba id,off,none⟩)
 |.mw,v=>v= .map none
 |.jh g,v=>(∃r,v= .map (some r))/\G.bt g 0=some v
 |.mp id,v=>G.on id/\ ∃r,v= .map (some r)/\ (G.aj id=0->r=G.ba id)
 |.fn f a b,v=> ∃ (c:Fn) (a' d:Array Value),v= .func c a' d/\nb G f c/\aD G a a'.toList/\aD G b d.toList
 |.cR,v=>v= .nilFunc
 |.di t x,v=> ∃y,v= .iface t y/\an G x y
 |.eI,v=>v= .nilIface
 |.iI,_=>False
def aD(G:Gh):List AV->List Value->Prop
 | [],vs=>vs=[]
 |a::as,vs=> ∃v r,vs=v::r/\an G a v/\aD G as r
def br(G:Gh):List (List AV)->List Value->Prop
 | [],vs=>vs=[]
 |a::as,vs=> ∃v r,vs=v++r/\aD G a v/\br G as r
end
structure Gh.sub(G G':Gh):Prop where
 bt: ∀b o v,G.bt b o=some v->G'.bt b o=some v
 n:G.n<=G'.n
 on: ∀i,G.on i->G'.on i
 aj: ∀i,G.on i->G.aj i<=G'.aj i
 same: ∀i,G.on i->G'.aj i=G.aj i->G'.ba i=G.ba i/\G'.base i=G.base i/\G'.ed i=G.ed i/\G'.sz i=G.sz i
structure Gh.le(G G':Gh):Prop extends toSub:Gh.sub G G' where
 pz: ∀i,i<G.n->G'.pz i=G.pz i
def Gh.le.mk'{G a:Gh}(bt: ∀b o v,G.bt b o=some v->a.bt b o=some v)(n:G.n<=a.n)(pz: ∀i,i<G.n->a.pz i=G.pz i)(aj: ∀i,i<G.n->G.aj i<=a.aj i)
  (same: ∀i,i<G.n->a.aj i=G.aj i->a.ba i=G.ba i/\a.base i=G.base i/\a.ed i=G.ed i/\a.sz i=G.sz i):G.le a:=
 {bt:=bt,n:=n,pz:=pz,on:=λi h=>⟨ak7 h.1 n,by rw[pz i h.1];exact h.2⟩,aj:=λi h=>aj i h.1,same:=λi h=>same i h.1}
def Gh.aqJ(G:Gh):G.sub G:=⟨λ_ _ _ h=>h,ahT _,λ_ h=>h,λ_ _=>ahT _,λ_ _ _=>⟨rfl,rfl,rfl,rfl⟩⟩
theorem Gh.le_refl(G:Gh):G.le G:={G.aqJ with pz:=λ_ _=>rfl}
def Gh.Z5{f c d:Gh}(h:f.sub c)(k:c.sub d):f.sub d where
 bt b o v e:=k.bt b o v (h.bt b o v e)
 n:=ajU h.n k.n
 on i g:=k.on i (h.on i g)
 aj i g:=ajU (h.aj i g) (k.aj i (h.on i g))
 same i g e:=by
  have a:=h.aj i g;have b:=k.aj i (h.on i g);have e1:c.aj i=f.aj i:=by omega
  have j:d.aj i=c.aj i:=by omega
  obtain⟨u,t,s,r⟩:=h.same i g e1;obtain⟨q,p,m,l⟩:=k.same i (h.on i g) j;omega
def Gh.le_trans{c b a:Gh}(h:c.le b)(k:b.le a):c.le a:=
 {Gh.Z5 h.toSub k.toSub with pz:=λi d=>(k.pz i (ak7 d h.n)).trans (h.pz i d)}
def qR.dA{G a:Gh}(h:G.sub a){o:Nat}(f:qR G b o vs):qR a b o vs:=λj v e=>h.bt _ _ _ (f j v e)
def nb.dA{G b:Gh}(h:G.sub b){f g:Fn}(r:nb G f g):nb b f g:=by
 cases f<;>simp only[nb]at* <;>try exact r
 obtain⟨a,k,e,c⟩:=r;refine⟨h.on _ a,k,e,λi=>?_⟩;have d:=h.aj _ a;rw[(h.same _ a (by omega)).1];omega
mutual
theorem an.dA{G z:Gh}(h:G.sub z): ∀ (x:AV) (v:Value),an G x v->an z x v
 |.bool _,_,r=>by simpa[an]using r
 |.int _ _,_,r=>by simpa[an]using r
 |.str _,_,r=>by simpa[an]using r
 |.agg cs,_,r=>by
  simp only[an]at*;obtain⟨vs,e,l,d⟩:=r;exact⟨vs,e,aD.dA h cs _ l,d⟩
 |.au cs,_,r=>by
  simp only[an]at*;obtain⟨vs,e,l⟩:=r;exact⟨vs,e,aD.dA h cs _ l⟩
 |.en,_,r=>by simpa[an]using r
 |.ptr id off,_,r=>by
  simp only[an]at*;obtain⟨a,x,e,c⟩:=r;refine⟨h.on _ a,x,e,λn=>?_⟩;have m:=h.aj id a;rw[(h.same id a (by omega)).1];exact c (by omega)
 |.dm id aj i off,_,r=>by
  simp only[an]at*;obtain⟨a,b,x,e,c⟩:=r;have m:=h.aj id a;refine⟨h.on _ a,by omega,x,e,λn=>?_⟩;obtain⟨s,q,w,p⟩:=h.same id a (by omega);rw[s,q,p];exact c (by omega)
 |.eZ cs off,_,r=>by
  simp only[an]at*;obtain⟨b,o,vs,e,f,d,l⟩:=r;exact⟨b,o,vs,e,f.dA h,d,aD.dA h cs _ l⟩
 |.dp _,_,r=>by simpa[an]using r
 |.ai,_,r=>by simpa[an]using r
 |.sl af cH,_,r=>by
  simp only[an]at*;obtain⟨b,o,cap,sz,vs,e,k,j,u,f,d,l⟩:=r;exact⟨b,o,cap,sz,vs,e,k,j,u,f.dA h,d,br.dA h af _ l⟩
 |.ref id aj sz off len cH,_,r=>by
  simp only[an]at*;obtain⟨a,b,x,cap,e,k,j,u⟩:=r;have m:=h.aj id a;refine⟨h.on _ a,by omega,x,cap,e,k,j,λn=>?_⟩;obtain⟨s,q,w,p⟩:=h.same id a (by omega);rw[s,q,w,p];exact u (by omega)
 |.fk id sz off len,_,r=>by
  simp only[an]at*;obtain⟨a,x,cap,e,k,j⟩:=r;have m:=h.aj id a;refine⟨h.on _ a,x,cap,e,k,λn D=>?_⟩;rw[(h.same id a (by omega)).1];exact j (by omega) D
 |.mw,_,r=>by simpa[an]using r
 |.jh g,_,r=>by
  simp only[an]at*;exact⟨r.1,h.bt _ _ _ r.2⟩
 |.mp id,_,r=>by
  simp only[an]at*;obtain⟨a,x,e,c⟩:=r;have m:=h.aj id a;refine⟨h.on _ a,x,e,λn=>?_⟩;rw[(h.same id a (by omega)).1];exact c (by omega)
 |.fn f a b,_,r=>by
  simp only[an]at*;obtain⟨E,a',F,e,A,C,B⟩:=r;exact⟨E,a',F,e,A.dA h,aD.dA h a _ C,aD.dA h b _ B⟩
 |.cR,_,r=>by simpa[an]using r
 |.di t x,_,r=>by
  simp only[an]at*;obtain⟨y,e,l⟩:=r;exact⟨y,e,an.dA h x _ l⟩
 |.eI,_,r=>by simpa[an]using r
 |.iI,_,r=>by simp[an]at r
theorem aD.dA{G b:Gh}(h:G.sub b): ∀ (xs:List AV) (vs:List Value),aD G xs vs->aD b xs vs
 | [],_,r=>by simpa[aD]using r
 |a::as,_,r=>by
  simp only[aD]at*;obtain⟨v,q,e,d,c⟩:=r;exact⟨v,q,e,an.dA h a _ d,aD.dA h as _ c⟩
theorem br.dA{G b:Gh}(h:G.sub b): ∀ (xs:List (List AV)) (vs:List Value),br G xs vs->br b xs vs
 | [],_,r=>by simpa[br]using r
 |a::as,_,r=>by
  simp only[br]at*;obtain⟨v,q,e,d,c⟩:=r;exact⟨v,q,e,aD.dA h a _ d,br.dA h as _ c⟩
end
def an.mono{G a:Gh}(h:G.le a)(x:AV)(v:Value)(r:an G x v):an a x v:=an.dA h.toSub x v r
def aD.mono{G a:Gh}(h:G.le a)(xs:List AV)(vs:List Value)(r:aD G xs vs):aD a xs vs:=aD.dA h.toSub xs vs r
def br.mono{G a:Gh}(h:G.le a)(xs:List (List AV))(vs:List Value)(r:br G xs vs):br a xs vs:=br.dA h.toSub xs vs r
theorem aD.length{G:Gh}: ∀ {xs:List AV} {vs:List Value},aD G xs vs->vs.length=xs.length
 | [],_,r=>by simp only[aD]at r;simp[r]
 |_::as,_,r=>by
  obtain⟨v,q,rfl,_,a⟩:=r;simp[aD.length a]
theorem aD.get{G:Gh}: ∀ {xs:List AV} {vs:List Value},aD G xs vs-> ∀ (j:Nat) (x:AV),xs[j]?=some x-> ∃v,vs[j]?=some v/\an G x v
 | [],_,_,_,_,e=>by grind
 |a::as,_,r,j,x,e=>by
  obtain⟨v,q,rfl,c,b⟩:=r;cases j with
  |zero=>grind
  |succ j=>obtain⟨u,hu,hr⟩:=aD.get b j x e;grind
theorem aD.PA{G:Gh}: ∀ {xs:List AV} {vs:List Value},vs.length=xs.length->(∀ (j:Nat) (x:AV) (v:Value),xs[j]?=some x->vs[j]?=some v->an G x v)->aD G xs vs
 | [],vs,b,_=>by cases vs<;>simp_all[aD]
 |a::as,vs,b,h=>by
  cases vs with
  |nil=>grind
  |cons v vs=>
   refine⟨v,vs,rfl,h 0 a v (by simp) (by simp),aD.PA (by grind) λj x u c hu=>h (j+1) x u (by grind) (by grind)⟩
theorem aD.append{G:Gh}: ∀ {xs ys:List AV} {vs us:List Value},aD G xs vs->aD G ys us->aD G (xs++ys) (vs++us)
 | [],_,_,_,r,k=>by simp only[aD]at r;grind
 |a::as,_,_,_,r,k=>by
  obtain⟨v,q,rfl,c,b⟩:=r;exact⟨v,q++_,rfl,c,aD.append b k⟩
theorem aD.split{G:Gh}: ∀ {xs ys:List AV} {vs:List Value},aD G (xs++ys) vs-> ∃v1 v2,vs=v1++v2/\aD G xs v1/\aD G ys v2
 | [],_,vs,r=>⟨[],vs,rfl,by rfl,r⟩
 |a::as,_,_,r=>by
  obtain⟨v,q,rfl,e,d⟩:=r;obtain⟨v1,v2,rfl,c,b⟩:=aD.split d;exact⟨v::v1,v2,rfl,⟨v,v1,rfl,e,c⟩,b⟩
theorem aD.take{G:Gh}{xs:List AV}(r:aD G xs vs)(n:Nat):aD G (xs.take n) (vs.take n):=
 .PA (by simp[r.length]) λj x v a b=>by
  rw[apX]at a b;split at a
  ·obtain⟨u,hu,hr⟩:=r.get j x a
   grind
  grind
theorem aD.drop{G:Gh}{xs:List AV}(r:aD G xs vs)(n:Nat):aD G (xs.drop n) (vs.drop n):=
 .PA (by simp[r.length]) λj x v a b=>by
  rw[anb]at a b;obtain⟨u,hu,hr⟩:=r.get _ x a
  grind
theorem br.iff{G:Gh}: ∀ {af:List (List AV)} {vs:List Value},br G af vs↔aD G af.flatten vs
 | [],_=>by rfl
 |a::as,vs=>by
  constructor
  ·rintro⟨v,r,rfl,e,d⟩;exact e.append (br.iff.1 d)
  ·intro h;obtain⟨v1,v2,rfl,c,b⟩:=aD.split h;exact⟨v1,v2,rfl,c,br.iff.2 b⟩
def aD.single{G:Gh}{x:AV}:aD G [x] [v]↔an G x v:=by simp[aD]
def Leaves.append{a b:List Value}(h:Leaves a)(k:Leaves b):Leaves (a++b):=λv c=>(aha.1 c).elim (h v) (k v)
theorem Leaves.take{a:List Value}(h:Leaves a)(n:Nat):Leaves (a.take n):=λv b=>h v (ajY b)
theorem Leaves.drop{a:List Value}(h:Leaves a)(n:Nat):Leaves (a.drop n):=λv b=>h v (aqw b)
theorem an.cells{G:Gh}{x:AV}(r:an G x v)(h:x.cn=false):aD G x.cells v.cells.toList/\Leaves v.cells.toList:=by
 cases x<;>simp[AV.cn]at h<;>simp only[AV.cells]
 case agg cs=>
  obtain⟨vs,rfl,l,b⟩:=r;exact⟨l,b⟩
 all_goals
  have a:=r;simp only[an]at r
  first
   |rfl
   | (obtain⟨_,_,rfl,_⟩:=r;exact⟨aD.single.2 a,by simp[Leaves,Value.cells,leaf]⟩)
   | (obtain⟨_,rfl,_⟩:=r;exact⟨aD.single.2 a,by simp[Leaves,Value.cells,leaf]⟩)
   | (obtain⟨_,_,_,rfl,_⟩:=r;exact⟨aD.single.2 a,by simp[Leaves,Value.cells,leaf]⟩)
   | (obtain⟨_,_,_,_,rfl,_⟩:=r;exact⟨aD.single.2 a,by simp[Leaves,Value.cells,leaf]⟩)
   | (obtain⟨_,_,_,_,_,rfl,_⟩:=r;exact⟨aD.single.2 a,by simp[Leaves,Value.cells,leaf]⟩)
   | (obtain⟨⟨_,rfl⟩,_⟩:=r;exact⟨aD.single.2 a,by simp[Leaves,Value.cells,leaf]⟩)
mutual
theorem an.refs{G:Gh}: ∀ (x:AV) (v:Value),an G x v->x.refs<=G.n
 |.bool _,_,_|.int _ _,_,_|.str _,_,_|.en,_,_|.dp _,_,_|.ai,_,_|.mw,_,_|.jh _,_,_|.cR,_,_|.eI,_,_|.iI,_,_=>by simp[AV.refs]
 |.agg cs,_,r=>by simp only[an]at r;obtain⟨vs,_,l,_⟩:=r;simp only[AV.refs];exact aD.refs cs _ l
 |.au cs,_,r=>by simp only[an]at r;obtain⟨vs,_,l⟩:=r;simp only[AV.refs];exact aD.refs cs _ l
 |.ptr id off,_,r=>by simp only[an]at r;have:=r.1.1;simp only[AV.refs];omega
 |.dm id aj i off,_,r=>by simp only[an]at r;have:=r.1.1;simp only[AV.refs];omega
 |.ref id aj sz off len cH,_,r=>by simp only[an]at r;have:=r.1.1;simp only[AV.refs];omega
 |.fk id sz off len,_,r=>by simp only[an]at r;have:=r.1.1;simp only[AV.refs];omega
 |.mp id,_,r=>by simp only[an]at r;have:=r.1.1;simp only[AV.refs];omega
 |.eZ cs off,_,r=>by simp only[an]at r;obtain⟨b,o,vs,_,_,_,l⟩:=r;simp only[AV.refs];exact aD.refs cs _ l
 |.sl af cH,_,r=>by simp only[an]at r;obtain⟨b,o,cap,sz,vs,_,_,_,_,_,_,l⟩:=r;simp only[AV.refs];exact br.refs af _ l
 |.fn f a b,_,r=>by
  simp only[an]at r;obtain⟨j,a',k,_,c,e,d⟩:=r;have h:=aD.refs a _ e;have g:=aD.refs b _ d;simp only[AV.refs];cases f<;>simp only[nb]at c<;>simp only<;>first|omega| (have:=c.1.1;omega)
 |.di t x,_,r=>by simp only[an]at r;obtain⟨y,_,l⟩:=r;simp only[AV.refs];exact an.refs x _ l
theorem aD.refs{G:Gh}: ∀ (xs:List AV) (vs:List Value),aD G xs vs->aG xs<=G.n
 | [],_,_=>by simp[aG]
 |a::as,_,r=>by
  simp only[aD]at r;obtain⟨v,q,_,c,b⟩:=r;have:=an.refs a _ c;have:=aD.refs as _ b;simp only[aG];omega
theorem br.refs{G:Gh}: ∀ (xs:List (List AV)) (vs:List Value),br G xs vs->b9 xs<=G.n
 | [],_,_=>by simp[b9]
 |a::as,_,r=>by
  simp only[br]at r;obtain⟨v,q,_,c,b⟩:=r;have:=aD.refs a _ c;have:=br.refs as _ b;simp only[b9];omega
end
structure Gh.dV(m:Nat)(G G':Gh):Prop where
 bt: ∀b o v,G.bt b o=some v->G'.bt b o=some v
 n:m<=G'.n
 pz: ∀i,i<m->G'.pz i=G.pz i
 aj: ∀i,i<m->G'.aj i=G.aj i
 ba: ∀i,i<m->G'.ba i=G.ba i
 base: ∀i,i<m->G'.base i=G.base i
 ed: ∀i,i<m->G'.ed i=G.ed i
 sz: ∀i,i<m->G'.sz i=G.sz i
mutual
theorem an.dV{m:Nat}{G n:Gh}(h:G.dV m n): ∀ (x:AV) (v:Value),an G x v->x.refs<=m->an n x v
 |.bool _,_,r,_|.int _ _,_,r,_|.str _,_,r,_|.en,_,r,_|.dp _,_,r,_|.ai,_,r,_|.mw,_,r,_|.cR,_,r,_|.eI,_,r,_=>by simpa[an]using r
 |.iI,_,r,_=>by simp[an]at r
 |.jh g,_,r,_=>by
  simp only[an]at*;exact⟨r.1,h.bt _ _ _ r.2⟩
 |.agg cs,_,r,hm=>by
  simp only[an,AV.refs]at*;obtain⟨vs,e,l,c⟩:=r;exact⟨vs,e,aD.dV h cs _ l hm,c⟩
 |.au cs,_,r,hm=>by
  simp only[an,AV.refs]at*;obtain⟨vs,e,l⟩:=r;exact⟨vs,e,aD.dV h cs _ l hm⟩
 |.ptr id off,_,r,hm=>by
  simp only[an,AV.refs]at*;rw[h.aj id (by omega),h.ba id (by omega)];exact⟨⟨ak7 (by omega) h.n,by rw[h.pz id (by omega)];exact r.1.2⟩,r.2⟩
 |.dm id aj i off,_,r,hm=>by
  simp only[an,AV.refs]at*;rw[h.aj id (by omega),h.ba id (by omega),h.base id (by omega),h.sz id (by omega)];exact⟨⟨ak7 (by omega) h.n,by rw[h.pz id (by omega)];exact r.1.2⟩,r.2⟩
 |.eZ cs off,_,r,hm=>by
  simp only[an,AV.refs]at*;obtain⟨b,o,vs,e,f,c,l⟩:=r;exact⟨b,o,vs,e,λj v d=>h.bt _ _ _ (f j v d),c,aD.dV h cs _ l hm⟩
 |.sl af cH,_,r,hm=>by
  simp only[an,AV.refs]at*;obtain⟨b,o,cap,sz,vs,e,z,w,u,f,c,l⟩:=r;exact⟨b,o,cap,sz,vs,e,z,w,u,λj v d=>h.bt _ _ _ (f j v d),c,br.dV h af _ l hm⟩
 |.ref id aj sz off len cH,_,r,hm=>by
  simp only[an,AV.refs]at*;rw[h.aj id (by omega),h.ba id (by omega),h.base id (by omega),h.sz id (by omega),h.ed id (by omega)];exact⟨⟨ak7 (by omega) h.n,by rw[h.pz id (by omega)];exact r.1.2⟩,r.2⟩
 |.fk id sz off len,_,r,hm=>by
  simp only[an,AV.refs]at*;rw[h.aj id (by omega),h.ba id (by omega)];exact⟨⟨ak7 (by omega) h.n,by rw[h.pz id (by omega)];exact r.1.2⟩,r.2⟩
 |.mp id,_,r,hm=>by
  simp only[an,AV.refs]at*;rw[h.aj id (by omega),h.ba id (by omega)];exact⟨⟨ak7 (by omega) h.n,by rw[h.pz id (by omega)];exact r.1.2⟩,r.2⟩
 |.fn f a b,_,r,hm=>by
  simp only[an,AV.refs]at*;obtain⟨s,a',A,e,k,q,p⟩:=r;refine⟨s,a',A,e,?_,aD.dV h a _ q (by omega),aD.dV h b _ p (by omega)⟩;cases f<;>simp only[nb]at* <;>try exact k
  rename_i l;rw[h.aj l (by omega),h.ba l (by omega)];exact⟨⟨ak7 (by omega) h.n,by rw[h.pz l (by omega)];exact k.1.2⟩,k.2⟩
 |.di t x,_,r,hm=>by
  simp only[an,AV.refs]at*;obtain⟨y,e,l⟩:=r;exact⟨y,e,an.dV h x _ l hm⟩
theorem aD.dV{m:Nat}{G b:Gh}(h:G.dV m b): ∀ (xs:List AV) (vs:List Value),aD G xs vs->aG xs<=m->aD b xs vs
 | [],_,r,_=>by simpa[aD]using r
 |a::as,_,r,hm=>by
  simp only[aD,aG]at*;obtain⟨v,q,e,d,c⟩:=r;exact⟨v,q,e,an.dV h a _ d (by omega),aD.dV h as _ c (by omega)⟩
theorem br.dV{m:Nat}{G b:Gh}(h:G.dV m b): ∀ (xs:List (List AV)) (vs:List Value),br G xs vs->b9 xs<=m->br b xs vs
 | [],_,r,_=>by simpa[br]using r
 |a::as,_,r,hm=>by
  simp only[br,b9]at*;obtain⟨v,q,e,d,c⟩:=r;exact⟨v,q,e,aD.dV h a _ d (by omega),br.dV h as _ c (by omega)⟩
end
def ae.le(n:Nat):ae->Prop
 |.box cs _=>aG cs<=n
 |.row _ _ _ af=>b9 af<=n
 |.map es=> ∀p∈es,p.2.refs<=n
 |.loop _ _ _ env _ _ _=> ∀t,(env t).refs<=n
 |_=>True
theorem ae.le.mono{n a:Nat}(h:n<=a): ∀ {o:ae},o.le n->o.le a
 |.box _ _,r=>ajU r h
 |.row _ _ _ _,r=>ajU r h
 |.map _,r=>λp b=>ajU (r p b) h
 |.loop _ _ _ _ _ _ _,r=>λt=>ajU (r t) h
 |.bE,_|.dead,_=>trivial
def yu:Option PC->Option Code->Prop
 |none,c=>c=none
 |some .ret,c=>c=some .ret
 |some (.exit id),c=>c=some (.exit id)
 |_,_=>False
structure cK(G:Gh)(nt:Nat)(e:Env)(tmps:Array Value):Prop where
 size:tmps.size=nt
 get: ∀t v,tmps[t]?=some v->an G (e t) v
 out: ∀t,nt<=t->e t= .undef
theorem cK.refs{G:Gh}{e:Env}{a:Array Value}(h:cK G nt e a)(t:Nat): (e t).refs<=G.n:=by
 by_cases b:t<nt
 ·have:t<a.size:=by rw[h.size];exact b
  exact an.refs _ _ (h.get t a[t] (by simp))
 ·rw[h.out t (by omega)];simp[AV.refs,aG]
theorem cK.dA{G b:Gh}(h:G.sub b){e:Env}{a:Array Value}(r:cK G nt e a):cK b nt e a:=
 ⟨r.size,λt v c=>(r.get t v c).dA h,r.out⟩
def cK.mono{G b:Gh}(h:G.le b){e:Env}{a:Array Value}(r:cK G nt e a):cK b nt e a:=r.dA h.toSub
theorem cK.dV{G b:Gh}(h:G.dV m b){e:Env}{a:Array Value}(r:cK G nt e a)(d: ∀t,(e t).refs<=m):cK b nt e a:=
 ⟨r.size,λt v c=>(r.get t v c).dV h _ _ (d t),r.out⟩
def fI(G:Gh):List (AV×AV)->List MapEntry->Prop
 | [],ms=>ms=[]
 | (k,v)::es,ms=> ∃m r,ms=m::r/\isKey k=true/\an G k m.key/\an G v m.val/\fI G es r
theorem fI.dA{G a:Gh}(h:G.sub a): ∀ {es:List (AV×AV)} {ms:List MapEntry},fI G es ms->fI a es ms
 | [],_,r=>by trivial
 | (k,v)::es,_,r=>by
   obtain⟨m,q,e,f,d,c,b⟩:=r;exact⟨m,q,e,f,d.dA h,c.dA h,b.dA h⟩
def aqK{k:AV}(h:isKey k=true):k.refs=0:=by cases k<;>simp[isKey]at h<;>simp[AV.refs]
theorem fI.dV{m:Nat}{G b:Gh}(h:G.dV m b): ∀ {es:List (AV×AV)} {ms:List MapEntry},fI G es ms->(∀p∈es,p.2.refs<=m)->fI b es ms
 | [],_,r,_=>by trivial
 | (k,v)::es,_,r,hm=>by
   obtain⟨e,q,he,a,f,d,c⟩:=r;exact⟨e,q,he,a,f.dV h _ _ (by simp[aqK a]),d.dV h _ _ (hm (k,v) (by simp)),c.dV h λp g=>hm p (by grind)⟩
def an.aFC{G:Gh}{id off:Nat}(r:an G (.ptr id off) v):G.pz id=none:=by exact r.1.2
def an.aFD{G:Gh}{id off:Nat}(r:an G (.dm id aj i off) v):G.pz id=none:=by exact r.1.2
def an.PB{G:Gh}{id off len:Nat}{c:Bool}(r:an G (.ref id aj sz off len c) v):G.pz id=none:=by exact r.1.2
def an.aqL{G:Gh}{id off len:Nat}(r:an G (.fk id sz off len) v):G.pz id=none:=by exact r.1.2
def an.Iq{G:Gh}{id:Nat}(r:an G (.mp id) v):G.pz id=none:=by exact r.1.2
variable(P:Program)
def ir(G:Gh)(id:Nat)(w:World):ae->Prop
 |.box cs tg=>G.aj id=0/\ ∃ (c:Array Value) (ty:TypeId),w.heap[G.ba id]?=some (.cells c ty (0,0))/\aD G cs c.toList/\Leaves c.toList/\ ∀t,tg=some t->ty=t
 |.row aj sz ty af=>G.aj id=aj/\G.sz id=sz/\ (∀el∈af,el.length=sz)/\ ∃ (c:Array Value) (pre vs post:List Value),w.heap[G.ba id]?=some (.cells c ty (0,0))/\
   c.toList=pre++(vs++post)/\pre.length=G.base id/\c.size=G.base id+G.ed id/\br G af vs/\Leaves vs
 |.map es=>G.aj id=0/\ ∃ms clock,w.heap[G.ba id]?=some (.map ms clock)/\fI G es ms.toList
 |.loop st a fn env ps as bd=>G.aj id=0/\ ∃L:Loop,w.heap[G.ba id]?=some (.loop L)/\L.state=st/\yu a L.pending/\True/\cK G L.tmps.size env L.tmps/\L.params.toList=ps/\
   ps.all (· <L.tmps.size)=true/\ ∃rows,eO P rows L.tmps.size L.assign=some as/\eO P rows L.tmps.size L.body=some bd
 |.bE=>G.aj id=0/\w.heap[G.ba id]?=some (.deferred (some []))
 |.dead=>True
structure aV(B:Nat)(av:World)(G:Gh)(E:AS)(w:World):Prop where
 len:G.n=E.heap.length
 bt: ∀b o v,G.bt b o=some v->w.cell? ⟨b,o,none⟩=some v
 obj: ∀ (id:Nat) (o:ae),E.heap[id]?=some o->G.pz id=none->ir P G id w o
 inj: ∀i j,G.on i->G.on j->G.ba i=G.ba j->i=j
 sep: ∀i,G.on i-> ∀o,G.bt (G.ba i) o=none
 low: ∀i,G.on i->B<=G.ba i/\G.ba i<w.heap.size
 lV:Below B av w
 hB:B<=w.heap.size
 lW: ∀id o,id<G.n->G.pz id=some o->E.heap[id]?=some o/\ ∃z tg,o= .box z tg/\aG z=0
 dL: ∀b o v,b<B->av.cell? ⟨b,o,none⟩=some v->G.bt b o=some v
def aV.yv{B:Nat}{a:World}{G:Gh}{E:AS}(h:aV P B a G E w){o:Nat}(e:G.bt b o=some v):b<w.heap.size:=by
 have:=h.bt b o v e;simp only[World.cell?]at this
 grind
variable{P}
theorem fI.refs{G:Gh}: ∀ {es:List (AV×AV)} {ms:List MapEntry},fI G es ms-> ∀p∈es,p.2.refs<=G.n
 | [],_,_,_,a=>by grind
 | (k,v)::es,_,r,p,a=>by
   obtain⟨m,q,_,_,_,c,b⟩:=r;rcases ajR.1 a with rfl|a
   ·exact an.refs _ _ c
   ·exact fI.refs b p a
theorem ir.le{G:Gh}{id:Nat}{w:World}: ∀ {o:ae},ir P G id w o->o.le G.n
 |.box _ _,r=>by obtain⟨_,c,ty,_,l,_⟩:=r;exact aD.refs _ _ l
 |.row _ _ _ _,r=>by obtain⟨_,_,_,c,pre,vs,post,_,_,_,_,l,_⟩:=r;exact br.refs _ _ l
 |.map es,r=>by obtain⟨_,ms,clock,_,l⟩:=r;exact l.refs
 |.loop _ _ _ _ _ _ _,r=>by obtain⟨_,L,_,_,_,_,he,_⟩:=r;exactλt=>he.refs t
 |.bE,_|.dead,_=>trivial
def aV.aqM{B:Nat}{a:World}{G:Gh}{E:AS}(h:aV P B a G E w){id:Nat}{o:ae}(e:E.heap[id]?=some o):o.le G.n:=by
 cases c:G.pz id with
 |none=>exact(h.obj id o e c).le
 |some o'=>
  obtain⟨b,z,tg,rfl,d⟩:=h.lW id o' (by rw[h.len];grind) c;rw[e]at b;cases b;simp only[ae.le,d];omega
theorem ir.dA{G d:Gh}(h:G.sub d){id:Nat}(j:G.on id)(g:d.aj id=G.aj id)(i:w'.heap[G.ba id]?=w.heap[G.ba id]?): ∀ {o:ae},ir P G id w o->ir P d id w' o:=by
 obtain⟨k,x,v,u⟩:=h.same id j g;intro o r;cases o with
 |box cs tg=>
  obtain⟨b,c,ty,e,l,a⟩:=r;exact⟨by omega,c,ty,by grind,l.dA h,a⟩
 |row aj sz ty af=>
  obtain⟨b,e1,hu,c,pre,vs,post,e,m,e3,y,l,a⟩:=r;exact⟨by omega,by omega,hu,c,pre,vs,post,by grind,m,by omega,by omega,l.dA h,a⟩
 |map es=>
  obtain⟨b,ms,clock,e,l⟩:=r;exact⟨by omega,ms,clock,by grind,l.dA h⟩
 |loop st f fn env ps as bd=>
  obtain⟨b,L,e,t,s,q,p,n⟩:=r;exact⟨by omega,L,by grind,t,s,q,p.dA h,n⟩
 |bE=>exact⟨by rw[g];exact r.1,by rw[k,i];exact r.2⟩
 |dead=>trivial
def ir.mono{G a:Gh}(h:G.le a){id:Nat}(d:G.on id)(c:a.aj id=G.aj id)(b:w'.heap[G.ba id]?=w.heap[G.ba id]?){o:ae}(r:ir P G id w o):ir P a id w' o:=r.dA h.toSub d c b
theorem ir.dV{G g:Gh}(h:G.dV m g){id:Nat}(a:id<m)(i:w'.heap[G.ba id]?=w.heap[G.ba id]?): ∀ {o:ae},ir P G id w o->o.le m->ir P g id w' o:=by
 have k:=h.ba id a;have y:=h.base id a;have x:=h.ed id a;have v:=h.sz id a;have j:=h.aj id a;intro o r hm;cases o with
 |box cs tg=>
  obtain⟨d,c,ty,e,l,b⟩:=r;exact⟨by omega,c,ty,by grind,aD.dV h _ _ l hm,b⟩
 |row aj sz ty af=>
  obtain⟨d,e1,hu,c,pre,vs,post,e,n,e3,z,l,b⟩:=r;exact⟨by omega,by omega,hu,c,pre,vs,post,by grind,n,by omega,by omega,br.dV h _ _ l hm,b⟩
 |map es=>
  obtain⟨d,ms,clock,e,l⟩:=r;exact⟨by omega,ms,clock,by grind,l.dV h hm⟩
 |loop st f fn env ps as bd=>
  obtain⟨d,L,e,u,t,s,q,p⟩:=r;exact⟨by omega,L,by grind,u,t,s,q.dV h hm,p⟩
 |bE=>exact⟨by rw[j];exact r.1,by rw[k,i];exact r.2⟩
 |dead=>trivial
section
def AT(lo:oN)(j:Nat):Prop:= ∃l,lo=some l/\l<=j
structure AS.Ext(E E':AS):Prop where
 len:E.heap.length<=E'.heap.length
 lo: ∀j,AT E.lo j->AT E'.lo j
 obj: ∀ (j:Nat) (o:ae),E.heap[j]?=some o-> ∃o',E'.heap[j]?=some o'/\ ((∀n,o.le n->o'.le (max n (j+1)))\/AT E'.lo j)
def AS.Ext.refl(E:AS):E.Ext E:=⟨ahT _,λ_ h=>h,λ_ o h=>⟨o,h,.inl λ_ k=>k.mono (by omega)⟩⟩
def AS.Ext.trans{a b c:AS}(h:a.Ext b)(k:b.Ext c):a.Ext c where
 len:=ajU h.len k.len
 lo j x:=k.lo j (h.lo j x)
 obj j o e:=by
  obtain⟨i,m,d⟩:=h.obj j o e;obtain⟨g,l,f⟩:=k.obj j i m;refine⟨g,l,?_⟩;rcases f with f|f
  ·rcases d with d|d
   ·grind
   ·exact .inr (k.lo j d)
  grind
theorem AS.Ext.push(E:AS)(o:ae):E.Ext (E.push o)where
 len:=by simp[AS.push]
 lo _ h:=h
 obj j x e:=⟨x,by
  have:j<E.heap.length:=(aaG.1 e).1;simp[AS.push,aaF this,e],.inl λ_ k=>k.mono (by omega)⟩
def AU{lo:oN}{id:Nat}(h:AT lo j\/id<=j):AT (cI lo id) j:=by
 cases lo with
 |none=>
  rcases h with⟨l,e,_⟩|h
  ·cases e
  ·exact⟨id,rfl,h⟩
 |some a=>
  refine⟨Nat.min a id,by simp[cI,Nat.min_comm],?_⟩;rcases h with⟨l,e,b⟩|h
  ·grind
  grind
theorem AS.Ext.set{E:AS}{id:Nat}{o o':ae}{refs:Nat}(d:E.heap[id]?=some o)(h: ∀n,o.le n->refs<=n->o'.le n):E.Ext (E.set id o' refs)where
 len:=by simp[AS.set]
 lo j x:=by
  simp only[AS.set];split
  ·exact x
  ·exact AU (.inl x)
 obj j x e:=by
  by_cases b:j=id
  ·subst b;obtain rfl:o=x:=by grind
   have a:j<E.heap.length:=(aaG.1 e).1;refine⟨o',by simp[AS.set,a],?_⟩;simp only[AS.set];split
   ·exact .inl λn c=>h _ (c.mono (by omega)) (by omega)
   ·simp_all[AU,ahT]
  ·exact⟨x,by simp[AS.set,aaD (λh=>b h.symm),e],.inl λ_ k=>k.mono (by omega)⟩
def Below.aqN{B:Nat}{av:World}(h:Below B av w)(ho:w'.os=w.os)(b:w'.tape=w.tape)(a:w'.output=w.output)(c:w.heap.size<=w'.heap.size)
 (d: ∀k,k<B->w'.heap[k]?=w.heap[k]?):Below B av w':=h.trans ⟨ho,b,a,c,d⟩
variable{P:Program}{B:Nat}{av:World}
def Gh.push(G:Gh)(b:Nat)(ed sz:Nat):Gh:=
 {G with n:=G.n+1,ba:=λi=>if i=G.n then b else G.ba i,base:=λi=>if i=G.n then 0 else G.base i,
         aj:=λi=>if i=G.n then 0 else G.aj i,ed:=λi=>if i=G.n then ed else G.ed i,sz:=λi=>if i=G.n then sz else G.sz i,pz:=λi=>if i=G.n then none else G.pz i}
def Gh.AW(G:Gh)(b ed sz:Nat):G.le (G.push b ed sz):=
 .mk' (λ_ _ _ h=>h) (by simp[Gh.push]) (λi a=>by simp[Gh.push,aze a]) (λi a=>by simp[Gh.push,aze a]) (λi a _=>by simp[Gh.push,aze a])
def Gh.Ir{G:Gh}{ed:Nat}(h: (G.push b ed sz).on i):i=G.n\/ (i≠G.n/\G.on i):=by
 obtain⟨c,a⟩:=h;simp only[Gh.push]at c a;by_cases e:i=G.n
 ·omega
 ·rw[aaH e]at a;exact .inr ⟨e,by omega,a⟩
def cell?_alloc_old{o:Obj}(h:b<w.heap.size): (w.alloc o).cell? ⟨b,k,none⟩=w.cell? ⟨b,k,none⟩:=World.cell?_alloc_lt w o ⟨b,k,none⟩ h
theorem aV.push{G:Gh}{E:AS}(h:aV P B av G E w)(O:Obj)(o:ae)(ed sz:Nat)
  (ho:ir P (G.push w.heap.size ed sz) G.n (w.alloc O) o):aV P B av (G.push w.heap.size ed sz) (E.push o) (w.alloc O)where
 len:=by simp[Gh.push,AS.push,h.len]
 bt b k v e:=by
  have q:G.bt b k=some v:=e;rw[cell?_alloc_old (h.yv P q)];exact h.bt b k v q
 obj id x e d:=by
  simp only[AS.push,List.getElem?_append]at e;split at e
  ·rename_i m;have c:id<G.n:=by rw[h.len];exact m
   simp only[Gh.push,aaH (aze c)]at d;exact ir.mono (G.AW _ _ _) ⟨c,d⟩ (by simp[Gh.push,aze c]) (Below.heap_alloc _ _ _ (h.low id ⟨c,d⟩).2) (h.obj id x e d)
  ·rename_i u;have:id=E.heap.length:=by
    cases s:id-E.heap.length with
    |zero=>omega
    |succ k=>rw[s]at e;simp at e
   subst this;simp at e;subst e;rw[<-h.len];exact ho
 inj i j g t e:=by
  rcases Gh.Ir g with a| ⟨f,a⟩<;>rcases Gh.Ir t with l| ⟨p,l⟩
  ·rw[a,l]
  ·simp only[Gh.push,a,ajQ,aaH p]at e;have:=(h.low j l).2;omega
  ·simp only[Gh.push,l,ajQ,aaH f]at e;have:=(h.low i a).2;omega
  ·simp only[Gh.push,aaH f,aaH p]at e;exact h.inj i j a l e
 sep i g k:=by
  rcases Gh.Ir g with a| ⟨f,a⟩
  ·simp only[Gh.push,a,ajQ];cases y:G.bt w.heap.size k with
   |none=>rfl
   |some v=>have:=h.yv P y;omega
  ·simp only[Gh.push,aaH f];exact h.sep i a k
 low i g:=by
  rcases Gh.Ir g with a| ⟨f,a⟩
  ·simp only[Gh.push,a,ajQ];exact⟨h.hB,by simp⟩
  ·simp only[Gh.push,aaH f];have:=h.low i a;exact⟨this.1,by simp;omega⟩
 lW id x c d:=by
  simp only[Gh.push]at c d;by_cases a:id=G.n
  ·rw[aaR a]at d;cases d
  ·rw[aaH a]at d;obtain⟨n,r⟩:=h.lW id x (by omega) d;exact⟨by simp only[AS.push];rw[aaF (aaG.1 n).1];exact n,r⟩
 lV:=h.lV.alloc h.hB O
 hB:=by have:=h.hB;simp;omega
 dL:=h.dL
def Gh.D0{G:Gh}{E:AS}(h:aV P B av G E w){ed:Nat}: (G.push b ed sz).on E.heap.length:=⟨by simp[Gh.push,h.len],by simp[Gh.push,h.len]⟩
def Gh.freeze(G:Gh)(b:Nat)(vs:List Value):Gh:={G with bt:=λa o=>if a=b then vs[o]? else G.bt a o}
def aV.Z6{G:Gh}{E:AS}(h:aV P B av G E w)(c:Array Value)(ty:TypeId)(g:Nat×Nat)(vs:List Value)(n: ∀ (j:Nat) (v:Value),vs[j]?=some v->c[j]?=some v):
  G.le (G.freeze w.heap.size vs)/\aV P B av (G.freeze w.heap.size vs) E (w.alloc (.cells c ty g)):=by
 have hle:G.le (G.freeze w.heap.size vs):=by
  refine .mk' (λb o v e=>?_) (ahT _) (λ_ _=>rfl) (λ_ _=>ahT _) (λ_ _ _=>⟨rfl,rfl,rfl,rfl⟩);have:=h.yv P e;simp only[Gh.freeze]
  grind
 refine⟨hle,h.len,λb o v e=>?_,λid x e f=>?_,h.inj,λi d k=>?_,λi d=>?_,h.lV.alloc h.hB _,?_,h.lW,λb o v l e=>hle.bt _ _ _ (h.dL b o v l e)⟩
 ·simp only[Gh.freeze]at e;split at e
  ·have p: (w.alloc (.cells c ty g)).heap[w.heap.size]?=some (.cells c ty g):=arZ w _;unfold World.cell?
   grind
  ·rw[cell?_alloc_old (h.yv P e)];exact h.bt b o v e
 ·have a:id<G.n:=by rw[h.len];exact(aaG.1 e).1
  exact ir.mono hle ⟨a,f⟩ rfl (Below.heap_alloc _ _ _ (h.low id ⟨a,f⟩).2) (h.obj id x e f)
 ·have:=(h.low i d).2;simp only[Gh.freeze];rw[aaH (by omega)];exact h.sep i d k
 ·obtain⟨m,q⟩:=h.low i d
  exact⟨m,by have e: (G.freeze w.heap.size vs).ba i=G.ba i:=rfl
             rw[e];simp;omega⟩
 ·have:=h.hB;simp;omega
theorem aV.set{G p:Gh}{E:AS}(h:aV P B av G E w){id:Nat}(d:G.on id)(o':ae)(refs:Nat)
  (c:G.le p) (q:p.n=G.n) (C:p.bt=G.bt)
  (l: ∀i,i<G.n->i≠id->p.aj i=G.aj i)
  (m:p.ba id=G.ba id\/w.heap.size<=p.ba id) (z:p.ba id<w'.heap.size)
  (D: ∀k,k≠G.ba id->k<w.heap.size->w'.heap[k]?=w.heap[k]?) (I:w.heap.size<=w'.heap.size)
  (n:w'.os=w.os) (y:w'.tape=w.tape) (J:w'.output=w.output)
  (ho:ir P p id w' o'):aV P B av p (E.set id o' refs) w' where
 len:=by simp[AS.set,q,h.len]
 bt b k v e:=by
  rw[C]at e;have g:b≠G.ba id:=λg=>by rw[g,h.sep id d k]at e;cases e
  have:=h.bt b k v e;simp only[World.cell?]at*
  grind
 obj j x e r:=by
  by_cases f:j=id
  ·subst f;have:E.heap.length=G.n:=h.len.symm;simp[AS.set,this,d.1]at e;subst e;exact ho
  ·simp only[AS.set,aaD (λh=>f h.symm)]at e;have t:j<G.n:=by rw[h.len];exact(aaG.1 e).1
   rw[c.pz j t]at r;have u:G.on j:=⟨t,r⟩;refine ir.mono c u (l j t f) (D _ (λhe=>f (h.inj j id u d he)) (h.low j u).2) (h.obj j x e r)
 inj i j a f e:=by
  have a:G.on i:=⟨by rw[<-q];exact a.1,by rw[<-c.pz i (by rw[<-q];exact a.1)];exact a.2⟩;have f:G.on j:=⟨by rw[<-q];exact f.1,by rw[<-c.pz j (by rw[<-q];exact f.1)];exact f.2⟩;have key: ∀i,G.on i->i≠id->p.ba i=G.ba i:=λi a s=>(c.same i a (l i a.1 s)).1
  by_cases n:i=id<;>by_cases y:j=id
  ·omega
  ·rw[n,key j f y]at e;rcases m with g|g
   ·rw[g]at e;rw[n];exact h.inj id j d f e
   ·have:=(h.low j f).2;omega
  ·rw[y,key i a n]at e;rcases m with g|g
   ·rw[g]at e;rw[y];exact h.inj i id a d e
   ·have:=(h.low i a).2;omega
  ·rw[key i a n,key j f y]at e;exact h.inj i j a f e
 sep i a k:=by
  have a:G.on i:=⟨by rw[<-q];exact a.1,by rw[<-c.pz i (by rw[<-q];exact a.1)];exact a.2⟩;rw[C];by_cases n:i=id
  ·subst n;rcases m with g|g
   ·rw[g];exact h.sep i d k
   ·cases A:G.bt (p.ba i) k with
    |none=>rfl
    |some v=>have:=h.yv P A;omega
  ·rw[(c.same i a (l i a.1 n)).1];exact h.sep i a k
 low i a:=by
  have a:G.on i:=⟨by rw[<-q];exact a.1,by rw[<-c.pz i (by rw[<-q];exact a.1)];exact a.2⟩;by_cases n:i=id
  ·subst n;rcases m with g|g
   ·exact⟨by rw[g];exact(h.low i d).1,z⟩
   ·have:=h.hB;exact⟨by omega,z⟩
  ·rw[(c.same i a (l i a.1 n)).1];have:=h.low i a;exact⟨this.1,by omega⟩
 lV:=Below.aqN h.lV n y J I λk K=>D k (by have:=(h.low id d).1;omega) (by have:=h.hB;omega)
 hB:=by have:=h.hB;omega
 lW j x f r:=by
  rw[q]at f;rw[c.pz j f]at r;obtain⟨H,F⟩:=h.lW j x f r;have s:id≠j:=λe=>by rw[<-e,d.2]at r;cases r
  exact⟨by simp only[AS.set];rw[aaD s];exact H,F⟩
 dL b o v g e:=by rw[C];exact h.dL b o v g e
def aV.drew{G:Gh}{E:AS}(h:aV P B av G E w):aV P B av G E w.drew:=
 ⟨h.len,h.bt,λid x e a=>ir.mono G.le_refl ⟨by rw[h.len];grind,a⟩ rfl rfl (h.obj id x e a),h.inj,h.sep,h.low,h.lV.drew,h.hB,h.lW,h.dL⟩
def aV.lo{G:Gh}{E:AS}(h:aV P B av G E w)(lo:oN):aV P B av G {E with lo:=lo} w:=
 ⟨h.len,h.bt,h.obj,h.inj,h.sep,h.low,h.lV,h.hB,h.lW,h.dL⟩
end
section
variable{P:Program}
def eJ(w:World)(b:Nat)(O:Obj):World:={w with heap:=w.heap.setIfInBounds b O}
def aqO(w:World)(b:Nat)(O a:Obj):eJ (eJ w b O) b a=eJ w b a:=by simp[eJ]
def uV(h:b<w.heap.size): (eJ w b O).heap[b]?=some O:=by simp[eJ,h]
def Z7(h:k≠b): (eJ w b O).heap[k]?=w.heap[k]?:=by
 simp only[eJ]
 grind
def aqP(h:w.heap[b]?=some O):eJ w b O=w:=by
 have:w.heap.setIfInBounds b O=w.heap:=by grind
 unfold eJ;rw[this]
@[simp]theorem aqQ (w:World) (b:Nat) (O:Obj): (eJ w b O).heap.size=w.heap.size:=by simp[eJ]
def aqR{o:Nat}{ty:TypeId}{a:Nat×Nat}(h:w.heap[b]?=some (.cells c ty a))(v:Value):
  w.setCell ⟨b,o,none⟩ v=eJ w b (.cells (c.setIfInBounds o v) ty a):=by
 simp only[World.setCell,eJ]
 congr 1
 grind
def k6(c:Array Value)(o:Nat):List Value->Array Value
 | []=>c
 |v::vs=>k6 (c.setIfInBounds o v) (o+1) vs
@[simp]theorem aFE (c:Array Value) (o:Nat) (vs:List Value): (k6 c o vs).size=c.size:=by
  induction vs generalizing c o with
  |nil=>rfl
  |cons v vs ih=>simp[k6,ih]
def Is(c:Array Value)(o:Nat)(vs:List Value)(h:o+vs.length<=c.size):
  (k6 c o vs).toList=c.toList.take o++(vs++c.toList.drop (o+vs.length)):=by
 induction vs generalizing c o with
 |nil=>simp[k6]
 |cons v vs a=>
  rw[k6,a _ _ (by grind)];have ho:o<c.toList.length:=by grind
  simp only[Array.toList_setIfInBounds,ajC];rw[List.take_set,List.drop_set];simp only[show(o<o+1+vs.length) by omega,ajQ,ajN,abe ho];have hm:min o c.size=o:=as0 (by omega);simp[show o+1+vs.length=o+(vs.length+1) by omega,hm]
theorem jl(b o i:Nat): (⟨b,o,none⟩:Addr).add i=⟨b,o+i,none⟩:=by
 unfold Addr.add
 grind
def aqS(h:leaf v=true):v.oneCell'=true:=by trivial
def PD{ty:TypeId}(vs:List Value): ∀ (c:Array Value) (w:World) (o i:Nat),w.heap[b]?=some (.cells c ty (0,0))->o+i+vs.length<=c.size->Leaves vs->
  (storeCells ⟨b,o,none⟩ vs i).run P w= .ok () (eJ w b (.cells (k6 c (o+i) vs) ty (0,0))):=by
 induction vs with
 |nil=>intro c w o i h _ _;simp[storeCells,k6,aqP h]
 |cons v vs e=>
  intro c w o i h g d;simp only[ajC]at g;have j:w.cell? (Addr.add ⟨b,o,none⟩ i)=some (c[o+i]'(by omega)):=by
   rw[jl,cell_of_row w b (o+i) c ty (0,0) h];grind
  have f:w.frozen? (Addr.add ⟨b,o,none⟩ i)=false:=by grind [jl,frozen_of_row]
  simp only[storeCells,Sem.run_bind];rw[run_store P w _ v .plain (aqS (d v (by simp)))];simp only[j,f];rw[jl,aqR h];have a:b<w.heap.size:=(ao8.1 h).1;simp only[ah2,ak8,Result.andThen_ok];rw[e (c.setIfInBounds (o+i) v) _ o (i+1) (uV a) (by grind) (λu hu=>d u (by grind)),aqO];rfl
def run_loadCellsFrom{o:Nat}(n:Nat): ∀ (i:Nat) (acc:Array Value) (vs:List Value),vs.length=n->(∀j v,vs[j]?=some v->w.cell? ⟨b,o+i+j,none⟩=some v)->
  (loadCellsFrom ⟨b,o,none⟩ i n acc).run P w= .ok (acc++vs.toArray) w:=by
 induction n with
 |zero=>intro i acc vs c _;have:vs=[]:=ak9.1 c;subst this;simp[loadCellsFrom]
 |succ n e=>
  intro i acc vs c a;cases vs with
  |nil=>grind
  |cons v vs=>
   have d:=a 0 v (by simp);simp only[loadCellsFrom,Sem.run_bind];rw[jl,run_load];simp only[ajG]at d;simp only[d];simp only[Result.andThen_ok];rw[e (i+1) (acc.push v) vs (by grind) (λj u f=>by
    have:=a (j+1) u (by grind)
    grind)]
   simp_all
def run_loadCells{o:Nat}(vs:List Value)(a:vs.length=n)(c: ∀j v,vs[j]?=some v->w.cell? ⟨b,o+j,none⟩=some v):
  (loadCells ⟨b,o,none⟩ n).run P w= .ok vs.toArray w:=by
 unfold loadCells;rw[run_loadCellsFrom n 0 #[] vs a (by omega)];simp
end
section
section
variable{P:Program}
def oi(h:cy P t=some n)(w:World): (sizeOf t).run P w= .ok n w:=by
 unfold cy at h;cases b:P.info? t with
 |none=>grind
 |some i=>
  simp[b]at h;simp only[sizeOf,Sem.run_bind,run_typeInfo _ b,Result.andThen_ok,Sem.run_pure];rw[h]
def sH{b:Bool}(h:na P t=some b)(w:World): (isAgg t).run P w= .ok b w:=by
 unfold na at h;cases hu:P.underlying t with
 |none=>grind
 |some d=>
  simp only[hu,ah6,aaQ]at h;subst h;simp only[isAgg,Sem.run_bind,abg hu,Result.andThen_ok];cases d<;>simp[Sem.run_pure]
end
def G0(B:Nat)(av:World):Gh:={bt:=λb o=>if b<B then av.cell? ⟨b,o,none⟩else none,n:=0,ba:=id,base:=id,aj:=id,ed:=id,sz:=id}
def fz(X:Ctx)(B:Nat)(av:World):Prop:=
 (∀g cs,X.dp g=some cs->g<B/\ ∃vs,(∀ (j:Nat) v,vs[j]?=some v->av.cell? ⟨g,j,none⟩=some v)/\Leaves vs/\
   aD (G0 B av) cs vs)/\
 (∀g es,X.fo g=some es->g<B/\ ∃b r ms clock,r<B/\av.cell? ⟨g,0,none⟩=some (.map (some r))/\av.heap[r]?=some (.map ms clock)/\fI (G0 B av) b ms.toList/\ ∀k v,ea k es=some v->ea k b=some v)
variable{P:Program}{X:Ctx}{B:Nat}{av:World}
def Z8{G:Gh}{E:AS}(h:aV P B av G E w): (G0 B av).dV 0 G:=by
 refine⟨λb o v c=>?_,abX _,?_,?_,?_,?_,?_,?_⟩
 ·simp only[G0]at c;split at c
  ·exact h.dL b o v ‹_› c
  grind
 all_goals simp
def fz.rel(d:fz X B av){G:Gh}{E:AS}(h:aV P B av G E w){g:Nat}{cs:List AV}(e:X.dp g=some cs):
  ∃vs,qR G g 0 vs/\Leaves vs/\aD G cs vs:=by
 obtain⟨f,vs,k,i,b⟩:=d.1 g cs e;refine⟨vs,λj v c=>?_,i,aD.dV (Z8 h) _ _ b (by have:=aD.refs _ _ b;simpa[G0]using this)⟩;rw[alv];exact h.dL g j v f (k j v c)
def fz.aqT(i:fz X B av){G:Gh}{E:AS}(h:aV P B av G E w){g:Nat}{es:List (AV×AV)}(e:X.fo g=some es)(d:an G (.jh g) v):
  ∃b r ms clock,v= .map (some r)/\w.heap[r]?=some (.map ms clock)/\fI G b ms.toList/\ ∀k v,ea k es=some v->ea k b=some v:=by
 obtain⟨j,b,r,ms,clock,o,n,m,c,l⟩:=i.2 g es e;have:=h.dL g 0 _ j n;rw[d.2]at this;cases this;exact⟨b,r,ms,clock,rfl,by rw[h.lV.block r o];exact m,fI.dV (Z8 h) c (λp f=>by have:=fI.refs c p f;simpa[G0]using this),l⟩
def Good(P:Program)(B:Nat)(av:World)(G:Gh)(E:AS)(v:AV)(c:AS)(r:Result Next):Prop:=
 ∃b w' v',(r= .ok (.value v') w'\/ (r= .ok .skip w'/\v'=undef))/\G.le b/\aV P B av b c w'/\an b v v'/\E.Ext c
def Good.same{G:Gh}{E:AS}(h:aV P B av G E w){v:AV}(b:an G v v'):Good P B av G E v E (.ok (.value v') w):=
 ⟨G,w,v',.inl rfl,G.le_refl,h,b,.refl E⟩
def PE{G:Gh}: ∀ (v:Value),(AV.j0 v).plain=true->an G (AV.j0 v) v:=by
 intro v h;cases v with
 |pointer a=>cases a<;>simp_all[AV.j0,an,AV.plain]
 |slice a n c=>
  cases a with
  |none=>
   simp only[AV.j0]at*;split at h
   ·rename_i e;simp[e,an]
   ·trivial
  |some a=>trivial
 |map r=>cases r<;>simp_all[AV.j0,an,AV.plain]
 |tuple vs=>
  simp only[AV.j0]at*;split at h
  ·rename_i e;have:vs= #[]:=Array.eq_empty_of_size_eq_zero e;subst this;simp[an,aD]
  ·trivial
 |_=>trivial
theorem Z9{G:Gh}: ∀ (vs:List Value),(∀v∈vs,(AV.j0 v).plain=true)->aD G (vs.map AV.j0) vs
 | [],_=>by rfl
 |v::vs,h=>⟨v,vs.map id,by simp,PE v (h v (by simp)),by simpa using Z9 vs λu hu=>h u (by grind)⟩
def aqU(h: (AV.j0 v).plain=true)(k: (AV.j0 v).cn=false):leaf v=true:=by
 cases v with
 |agg cs=>trivial
 |tuple vs=>simp only[AV.j0]at k;split at k<;>simp[AV.cn]at k
 |_=>rfl
def aaa{G:Gh}(v:Value)(h:Io v=true):an G (AV.ofValue v) v:=by
 cases v with
 |agg cs=>
  simp only[Io,ajD,ajI,aCk]at h;exact⟨cs,rfl,Z9 _ λv b=>(h v b).1,λv b=>aqU (h v b).1 (h v b).2⟩
 |iface t v=>exact⟨v,rfl,PE v h⟩
 |_=>simp only[AV.ofValue];apply PE;exact h
def PG{G:Gh}{e:Env}{b:Array Value}(h:cK G nt e b)(t:Nat):an G (e t) (b.getD t undef):=by
 by_cases c:t<b.size
 ·have:=h.get t b[t] (by simp);simp_all
 ·rw[h.out t (by have:=h.size;omega)];simp[Array.getD,c,an,aD,undef]
def cD{G:Gh}{e:Env}(h:cK G nt e a.tmps){x:Operand}{y:ao}(b:bM x=some y):an G (y.get e) (a.eval x):=by
 cases x with
 |tmp t=>simp only[bM,aaQ]at b;subst b;exact PG h t
 |const v=>
  simp only[bM]at b;split at b
  ·rename_i c;cases b;exact aaa v c
  grind
 |global g=>simp only[bM,aaQ]at b;subst b;simp[ao.get,an,Act.eval]
 |func f=>simp only[bM,aaQ]at b;subst b;exact⟨.func f,#[],#[],rfl,rfl,by rfl,by rfl⟩
theorem yw{G:Gh}{nt:Nat}{e:Env}{a:Act}(h:cK G nt e a.tmps): ∀ {xs:List Operand} {ys:List ao},og xs=some ys->aD G (ys.map (·.get e)) (xs.map a.eval)
 | [],_,b=>by simp only[og,aaQ]at b;subst b;simp[aD]
 |x::xs,ys,b=>by
  simp only[og]at b;split at b
  ·rename_i y c f d;cases b;exact⟨_,_,rfl,cD h f,yw h d⟩
  grind
section ops
variable{G:Gh}{E:AS}{w:World}(hw:aV P B av G E w){nt:Nat}{e:Env}{a:Act}(he:cK G nt e a.tmps)
include hw
omit hw in
theorem aab{b:Bool}{off:Nat}{cs:List AV}{v:AV}(c:aD G cs vs)(d:Leaves vs)(h:part b n cs off=some v):
  (b=true/\off+n<=vs.length/\an G v (.agg ((vs.drop off).take n).toArray))\/ (b=false/\ ∃u,vs[off]?=some u/\an G v u):=by
 unfold part at h;cases b with
 |true=>
  simp only[ajQ]at h;split at h
  ·rename_i hle;cases h;refine .inl ⟨rfl,by rw[c.length];exact hle,⟨_,rfl,by simpa using(c.drop off).take n,by simpa using(d.drop off).take n⟩⟩
  ·cases h
 |false=>
  simp only[ah2,ak8]at h;obtain⟨u,hu,hr⟩:=c.get off v h;exact .inr ⟨rfl,u,hu,hr⟩
omit hw in
theorem It{g:Bool}{o:Nat}{v:AV}{cs:List AV}{off:Nat}(f:na P t=some g)(l:cy P t=some n)
  (k:aD G cs vs) (h:Leaves vs) (i:part g n cs off=some v) (d: ∀j u,vs[j]?=some u->w.cell? ⟨b,o+j,none⟩=some u):
  ∃v',(loadVar t ⟨b,o+off,none⟩).run P w= .ok v' w/\an G v v':=by
 rcases aab k h i with⟨rfl,hle,hr⟩| ⟨rfl,u,hu,hr⟩
 ·refine⟨_,?_,hr⟩;simp only[loadVar,Sem.run_bind,sH f,Result.andThen_ok,ajQ,oi l];rw[run_loadCells ((vs.drop off).take n) (by simp;omega) (λj u c=>by
   rw[apX]at c;split at c
   ·rw[anb]at c;rw[apd];exact d _ _ c
   ·cases c)]
  simp
 ·refine⟨u,?_,hr⟩;simp only[loadVar,Sem.run_bind,sH f,Result.andThen_ok,ah2,ak8,run_load];rw[d off u hu]
theorem AX{id:Nat}{cs:List AV}{tg:Option TypeId}(h:E.heap[id]?=some (.box cs tg))(b:G.pz id=none):G.aj id=0/\G.on id/\ ∃c ty,w.heap[G.ba id]?=some (.cells c ty (0,0))/\aD G cs c.toList/\Leaves c.toList/\ ∀t,tg=some t->ty=t:=by
 obtain⟨i,c,ty,g,f,d⟩:=hw.obj id _ h b;exact⟨i,⟨by rw[hw.len];grind,b⟩,c,ty,g,f,d⟩
omit hw in
theorem D1{ty:TypeId}(h:w.heap[b]?=some (.cells c ty (0,0)))(j:Nat)(u:Value)(d:c.toList[j]?=some u):w.cell? ⟨b,j,none⟩=some u:=by
 rw[cell_of_row w b j c ty (0,0) h];simpa using d
theorem aac(hg:fz X B av){W:Bool}(H:na P t=some W)(F:cy P t=some n){x v:AV}{C:Value}(d:an G x C)(h:cb X E W n x=some v):
  ∃v',(Instr.loadAt t C).run P w= .ok v' w/\an G v v':=by
 have key: ∀ (A:Addr),C= .pointer (some A)->(∃v',(loadVar t A).run P w= .ok v' w/\an G v v')-> ∃v',(Instr.loadAt t C).run P w= .ok v' w/\an G v v':=by
  rintro A rfl ⟨v',K,hr⟩;refine⟨v',?_,hr⟩;exact K
 unfold cb at h;split at h
 ·rename_i id off;simp only[an]at d;obtain⟨r,A,rfl,z⟩:=d;split at h
  ·rename_i cs N;obtain⟨S,_,c,ty,R,f,m,_⟩:=AX hw N r.2;refine key A rfl ?_;rw[z S];have:=It (b:=G.ba id) (o:=0) H F f m h (λj u hu=>by rw[alv];exact D1 R j u hu);rwa[alv]at this
  ·cases h
 ·rename_i id aj i off;simp only[an]at d;obtain⟨r,_,A,rfl,z⟩:=d;split at h
  ·rename_i T sz ty af N;split at h
   ·rename_i K;obtain⟨S,q,hu,c,pre,vs,post,R,hc,hp,hs,f,m⟩:=hw.obj id _ N r.2;subst K;cases k:af[i]? with
    |none=>simp[k]at h
    |some el=>
     simp only[k,arL]at h;split at h
     ·rename_i D;refine key A rfl ?_;rw[z S];have M:i<af.length:=(aaG.1 k).1;have O:af.flatten=(af.take i).flatten++(el++(af.drop (i+1)).flatten):=by
       conv=>lhs;rw[<-aqr i af]
       rw[apZ,aqn M];have:af[i]=el:=by simpa[abe M]using k
       simp[this]
      have L: (af.take i).flatten.length=i*sz:=by
       have: ∀ (l:List (List AV)),(∀x∈l,x.length=sz)->l.flatten.length=l.length*sz:=by
        intro l f
        induction l with
        |nil=>simp
        |cons x xs ih=>simp[ih λy J=>f y (by simp[J]),f x (by simp)];rw[asr];omega
       rw[this _ λx d=>hu x (ajY d),ajM,as0 (Nat.le_of_lt M)]
      have V:=br.iff.1 f;rw[O]at V;obtain⟨v1,v2,rfl,k1,Z⟩:=V.split;obtain⟨U,v4,rfl,Y,k4⟩:=Z.split;have p:v1.length=i*sz:=by rw[k1.length,L]
      have I:Leaves U:=λy J=>m y (by simp[J])
      have:=It (b:=G.ba id) (o:=G.base id+i*G.sz id) H F Y I h (λj u hu=>by
       refine D1 R _ u ?_;rw[hc];have hj:j<U.length:=(aaG.1 hu).1;rw[ajE (by omega),aaS,ajE (by rw[p,q];omega),aaS,aaF (by rw[p,q];omega)];rw[<-hu];congr 1;rw[p,q];omega)
      exact this
     ·cases h
   ·cases h
  ·cases h
 ·rename_i cs off;simp only[an]at d;obtain⟨b,o,vs,rfl,Q,m,f⟩:=d;exact key _ rfl (It H F f m h λj u hu=>hw.bt _ _ _ (Q j u hu))
 ·rename_i g;simp only[an]at d;subst d;cases s:X.dp g with
  |none=>simp[s]at h
  |some cs=>
   simp only[s,arL]at h;obtain⟨vs,Q,m,f⟩:=hg.rel hw s;have:=It (b:=g) (o:=0) H F f m h λj u hu=>hw.bt _ _ _ (Q j u hu)
   exact key _ rfl (by simpa using this)
 grind
end ops
end
section
variable{P:Program}{X:Ctx}{B:Nat}{av:World}
variable{G:Gh}{E:AS}{w:World}
def aqV(t:aV P B av G E w)(y:fz X B av){s:TypeId}{a:Array Field}{f:Nat}{g:Field}(D:P.underlying s=some (.struct a))(C:a[f]?=some g)
  (A:cy P g.type=some n) (F:0<n) {x v:AV} {j:Value} (i:an G x j) (h:wF X g.offset x=some v):
  ∃v',(Instr.fieldAt s j f).run P w= .ok v' w/\an G v v':=by
 have key: ∀d,j= .pointer (some d)->(Instr.fieldAt s j f).run P w= .ok (.pointer (some (d.add g.offset))) w:=by
  rintro d rfl;simp only[Instr.fieldAt,Sem.run_bind,abg D,Result.andThen_ok,C,Instr.sureAddr,Sem.run_pure,fieldPlace,oi A,Sem.run_ite];rw[aaH (by omega)];simp
 unfold wF at h;split at h
 ·obtain⟨p,d,e,c⟩:=i;cases h;refine⟨_,key d e,p,_,rfl,λk=>?_⟩;rw[c k,jl]
 ·obtain⟨p,m,d,e,c⟩:=i;cases h;refine⟨_,key d e,p,m,_,rfl,λk=>?_⟩;rw[c k,jl];grind
 ·obtain⟨b,o,vs,e,r⟩:=i;cases h;refine⟨_,key _ e,b,o,vs,?_,r⟩;rw[jl,apd]
 ·simp only[an]at i;split at h
  ·rename_i cs l;cases h;obtain⟨vs,z,q,u⟩:=y.rel t l;refine⟨_,key _ i,_,0,vs,?_,z,q,u⟩;rw[jl]
  ·cases h
 grind
def Iu{x:AV}{a:Value}{i:Int}(b:an G x a)(h:sw x=some i): ∃k,x= .int k i/\a= .int k i:=by
 cases x<;>simp[sw]at h;simp only[an]at b
 grind
def aqW(y:aV P B av G E w)(C:fz X B av){a:TypeId}(I:P.underlying t=some (.array n a))(H:cy P a=some sz)
  {x s v:AV} {j g:Value} (d:an G x j) (A:an G s g) (h:uR X n sz x s=some v):
  ∃v',(Instr.indexAt t j g).run P w= .ok v' w/\an G v v':=by
 unfold uR at h;split at h
 ·rename_i i hint;obtain⟨k,_,rfl⟩:=Iu A hint;split at h
  ·rename_i F;have key: ∀f,j= .pointer (some f)->(Instr.indexAt t j (.int k i)).run P w= .ok (.pointer (some (f.add (i.toNat*sz)))) w:=by
    rintro f rfl;simp only[Instr.indexAt,Sem.run_bind,asIntOf,Sem.run_pure,Result.andThen_ok,abg I,Instr.sureAddr];by_cases J:n<=1<;>simp[F,oi H]
   split at h
   ·obtain⟨q,f,e,c⟩:=d;cases h;refine⟨_,key f e,q,_,rfl,λl=>?_⟩;rw[c l,jl]
   ·simp only[an]at d;obtain⟨q,p,f,e,c⟩:=d;cases h;refine⟨_,key f e,q,p,_,rfl,λl=>?_⟩;rw[c l,jl];congr 1;omega
   ·simp only[an]at d;obtain⟨b,o,vs,e,r⟩:=d;cases h;refine⟨_,key _ e,b,o,vs,?_,r⟩;rw[jl,apd]
   ·simp only[an]at d;split at h
    ·rename_i cs m;cases h;obtain⟨vs,D,u,z⟩:=C.rel y m;refine⟨_,key _ d,_,0,vs,?_,D,u,z⟩;rw[jl]
    ·cases h
   grind
  grind
 grind
theorem aqX{af:List (List AV)}(h: ∀el∈af,el.length=sz):af.flatten.length=af.length*sz:=by
 induction af with
 |nil=>simp
 |cons x xs a=>grind
def br.at{af:List (List AV)}{el:List AV}(k:br G af vs)(n: ∀x∈af,x.length=sz)(l:af[i]?=some el):
  aD G el ((vs.drop (i*sz)).take sz):=by
 have b:af.flatten=(af.take i).flatten++(el++(af.drop (i+1)).flatten):=by grind [List.take_append_drop,List.flatten_append,List.drop_eq_getElem_cons]
 have a: (af.take i).flatten.length=i*sz:=by grind [aqX,List.mem_of_mem_take,List.length_take,Nat.min_eq_left,Nat.le_of_lt]
 have c:=br.iff.1 k;rw[b]at c;obtain⟨v1,v2,rfl,g,f⟩:=c.split;obtain⟨d,v4,rfl,e,m⟩:=f.split;have j:v1.length=i*sz:=by rw[g.length,a]
 have h:d.length=sz:=by rw[e.length];grind
 grind
def aqY{d:TypeId}(O:P.underlying t=some (.slice d))(N:cy P d=some sz)
  {x H v:AV} {s m:Value} (g:an G x s) (I:an G H m) (h:j5 sz x H=some v):
  ∃v',(Instr.indexAt t s m).run P w= .ok v' w/\an G v v':=by
 unfold j5 at h;split at h
 ·rename_i i hint;obtain⟨k,_,rfl⟩:=Iu I hint;have key: ∀ (r:Addr) (len cap:Nat),s= .slice (some r) len cap->0<=i/\i<len->(Instr.indexAt t s (.int k i)).run P w= .ok (.pointer (some (r.add (i.toNat*sz)))) w:=by
   rintro r len cap rfl l;simp only[Instr.indexAt,Sem.run_bind,asIntOf,Sem.run_pure,Result.andThen_ok,abg O];by_cases Q:len<=1<;>simp[l,oi N]
  split at h
  ·rename_i af cH;split at h
   ·rename_i p;split at h
    ·rename_i el f;split at h
     ·rename_i c;cases h;simp only[an]at g;obtain⟨b,o,cap,a,vs,e,J,F,q,M,K,L⟩:=g;have I:i.toNat<af.length:=(aaG.1 f).1;have z:a=sz:=by rw[<-c];exact(q el (aoA f)).symm
      subst z;refine⟨_,key _ _ _ e ⟨p,by omega⟩,b,o+i.toNat*a,(vs.drop (i.toNat*a)).take a,?_,?_,(K.drop _).take _,L.at q f⟩
      ·rw[jl];rfl
      ·intro j u n;rw[apX]at n;split at n
       ·rw[anb]at n;rw[apd];exact M _ _ n
       ·cases n
     ·cases h
    ·cases h
   grind
  ·rename_i id aj a off len cH;split at h
   ·rename_i l;obtain⟨C,A,rfl⟩:=l;cases h;simp only[an]at g;obtain⟨p,D,r,cap,e,J,F,q⟩:=g;refine⟨_,key _ _ _ e ⟨C,A⟩,p,D,_,rfl,λy=>?_⟩;rw[(q y).2.1 (by omega),jl,(q y).1,arX];congr 1;omega
   ·cases h
  ·rename_i id a off len;split at h
   ·rename_i l;cases h;simp only[an]at g;obtain⟨p,r,cap,e,J,F⟩:=g;refine⟨_,key _ _ _ e ⟨l.1,l.2.1⟩,p,_,rfl,λy=>?_⟩;rw[F y (by omega),jl]
   ·cases h
  grind
 grind
end
section
variable{P:Program}{X:Ctx}{B:Nat}{av:World}
variable{G:Gh}{E:AS}{w:World}
def aad{d:Bool}{off:Nat}{cs:List AV}{v:AV}(b:na P t=some d)(h:cy P t=some n)
  (g:aD G cs c.toList) (e:Leaves c.toList) (f:Den.part d n cs off=some v) (w:World): ∃v',(Go.part t c off).run P w= .ok v' w/\an G v v':=by
 rcases aab g e f with⟨rfl,hle,hr⟩| ⟨rfl,u,hu,hr⟩
 ·refine⟨_,?_,hr⟩;simp only[Go.part,Sem.run_bind,sH b,Result.andThen_ok,ajQ,oi h,Sem.run_pure]
  congr 2
  grind
 ·refine⟨u,?_,hr⟩;have a:c[off]?=some u:=by grind
  simp only[Go.part,Sem.run_bind,sH b,Result.andThen_ok,ah2,ak8,a,Sem.run_pure]
def aqZ{s:TypeId}{a:Array Field}{f:Nat}{g:Field}{d:Bool}(p:P.underlying s=some (.struct a))(o:a[f]?=some g)
  (m:na P g.type=some d) (l:cy P g.type=some n) {cs:List AV} {v:AV} {b:Value} (i:an G (.agg cs) b) (h:Den.part d n cs g.offset=some v) (w:World):
  ∃v',(Instr.field s b f).run P w= .ok v' w/\an G v v':=by
 obtain⟨c,rfl,k,e⟩:=i;obtain⟨v',j,hr⟩:=aad m l k e h w;refine⟨v',?_,hr⟩;simp only[Instr.field,Sem.run_bind,abg p,Result.andThen_ok,o,asAgg,Sem.run_pure];exact j
def aq0{a:TypeId}{g:Bool}(s:P.underlying t=some (.array n a))(r:na P a=some g)(f:cy P a=some sz)
  {x e v:AV} {d b:Value} (l:an G x d) (p:an G e b) (h:qP g n sz x e=some v) (w:World):
  ∃v',(Instr.index t d b).run P w= .ok v' w/\an G v v':=by
 unfold qP at h;split at h
 ·rename_i i cs hint;obtain⟨k,_,rfl⟩:=Iu p hint;split at h
  ·rename_i q;obtain⟨c,rfl,o,j⟩:=l;obtain⟨v',m,hr⟩:=aad r f o j h w;refine⟨v',?_,hr⟩;simp only[Instr.index,Sem.run_bind,asIntOf,Sem.run_pure,Result.andThen_ok,abg s];rw[aaR q];simp only[Sem.run_bind,oi f,Result.andThen_ok];exact m
  grind
 grind
def aq1(n:P.underlying t=some .string){x j v:AV}{g a:Value}(l:an G x g)(m:an G j a)(h:yp x j=some v)(w:World):
  ∃v',(Instr.index t g a).run P w= .ok v' w/\an G v v':=by
 unfold yp at h;split at h
 ·rename_i i s hint;obtain⟨k,_,rfl⟩:=Iu m hint;subst l;split at h
  ·rename_i o;split at h
   ·rename_i b p;cases h;refine⟨.int .u8 b.toNat,?_,by rfl⟩;have f:s[i.toNat]?=some b:=by
     have:s.data[i.toNat]?=some b:=by grind
     obtain⟨d,e⟩:=ao8.1 this;have c:i.toNat<s.size:=d;rw[getElem?_pos s i.toNat c];exact ajV some e
    simp only[Instr.index,Sem.run_bind,asIntOf,Sem.run_pure,Result.andThen_ok,abg n,aaR o,f]
   grind
  grind
 grind
def aq2{x:AV}{a:Value}{vs:List AV}{v:AV}(b:an G (.au vs) a)(h:vs[i]?=some v)(w:World):
  ∃v',(Instr.extract a i).run P w= .ok v' w/\an G v v':=by
 obtain⟨c,rfl,d⟩:=b;obtain⟨v',e,hr⟩:=d.get i v h;refine⟨v',?_,hr⟩;have:c[i]?=some v':=by grind
 simp[Instr.extract,this]
def AY{r:Nat}{o:Option AV}(h:lR n o d=some r):
  (o=none/\r=d)\/ ∃k i,o=some (.int k i)/\0<=i/\i<=n/\r=i.toNat:=by
 unfold lR at h
 grind
def uW{k:IntKind}{i:Int}{y:Nat}(h:0<=i/\i<=y)(a:BoundsCode)(w:World): (Instr.sliceBound (.int k i) y a).run P w= .ok i.toNat w:=by
 simp[Instr.sliceBound,asIntOf,h]
def lY(G:Gh):Option AV->Option Value->Prop
 |none,o=>o=none
 |some x,o=> ∃v,o=some v/\an G x v
def Iv{D2:Bool}{len cap:Nat}(t:len<=cap){lo n:Option AV}{d:Option Value}(a:lY G lo ak)(e:lY G n d){h:Nat}(f:gb len lo n=some (l,h))(w:World):
  (Instr.sliceBounds D2 len cap ak d none).run P w= .ok (l,h,cap) w/\l<=h/\h<=len:=by
 unfold gb at f;split at f
 ·rename_i u p;split at f
  ·rename_i s m;cases f;rcases AY p with⟨rfl,rfl⟩| ⟨k,i,rfl,g,o,rfl⟩
   ·subst e;rcases AY m with⟨rfl,rfl⟩| ⟨k,i,rfl,g,o,rfl⟩
    ·subst a;exact⟨by rfl,by omega,by omega⟩
    ·obtain⟨v,rfl,c⟩:=a;subst c;exact⟨by simp[Instr.sliceBounds,uW ⟨g,o⟩],by omega,by omega⟩
   ·obtain⟨v,rfl,c⟩:=e;simp only[an]at c;subst c;have b: (0:Int)<=i/\i<=cap:=⟨g,by omega⟩;rcases AY m with⟨rfl,rfl⟩| ⟨k,j,rfl,r,q,rfl⟩
    ·simp only[lY]at a;subst a;exact⟨by simp[Instr.sliceBounds,uW b],by omega,by omega⟩
    ·obtain⟨v,rfl,c⟩:=a;simp only[an]at c;subst c;exact⟨by simp[Instr.sliceBounds,uW b,uW ⟨r,q⟩],by omega,by omega⟩
  grind
 grind
def aq3(i:P.underlying t=some .string){x v:AV}{d:Value}{lo e:Option AV}{a:Option Value}(f:an G x d)(b:lY G lo ak)(c:lY G e a)
  (h:uQ x lo e=some v) (w:World): ∃v',(Instr.sliceAt t d ak a none).run P w= .ok v' w/\an G v v':=by
 unfold uQ at h;split at h
 ·rename_i s;split at h
  ·rename_i l j g;cases h;subst f;obtain⟨hr,_,_⟩:=Iv (P:=P) (D2:=false) (ahT _) b c g w;refine⟨.string (s.extract l j),?_,by rfl⟩;simp[Instr.sliceAt,Instr.slice,abg i,hr]
  grind
 grind
def aq4{len h:Nat}{cH c:Bool}{a:Option AV}(b:lS len h cH a=some c):
  (a=none/\c=(cH&&h==len))\/ ∃k i,a=some (.int k i)/\ (h:Int)<=i/\i<=len/\c=(i==h):=by
 unfold lS at b
 grind
def aq5{len cap:Nat}{cH:Bool}(r:len<=cap)(p:cH=true->cap=len){lo t u:Option AV}{n f:Option Value}(a:lY G lo ak)(o:lY G t n)(g:lY G u f)
  (d:u=none\/t≠none) {h:Nat} {c:Bool} (s:gb len lo t=some (l,h)) (D:lS len h cH u=some c) (w:World):
  ∃m,(Instr.sliceBounds true len cap ak n f).run P w= .ok (l,h,m) w/\l<=h/\h<=len/\h<=m/\m<=cap/\ (c=true->m=h):=by
 rcases aq4 D with⟨rfl,rfl⟩| ⟨k,i,rfl,J,I,rfl⟩
 ·subst g;obtain⟨hr,M,L⟩:=Iv (P:=P) (D2:=true) r a o s w
  grind
 ·obtain⟨v,rfl,b⟩:=g;simp only[an]at b;subst b;have d:t≠none:=d.resolve_left (by simp);have hm: (0:Int)<=i/\i<=cap:=⟨by omega,by omega⟩;unfold gb at s;split at s
  ·rename_i K C;split at s
   ·rename_i H z;cases s;rcases AY C with⟨rfl,rfl⟩| ⟨k',j,rfl,F,g1,rfl⟩
    ·grind
    ·obtain⟨v,rfl,b⟩:=o;simp only[an]at b;subst b;have A: (0:Int)<=j/\j<=i.toNat:=⟨F,by omega⟩;refine⟨i.toNat,?_,?_,by omega,by omega,by omega,λe=>by simp only[aup]at e;omega⟩
     ·rcases AY z with⟨rfl,rfl⟩| ⟨k',q,rfl,y,x,rfl⟩
      ·simp only[lY]at a;subst a;simp[Instr.sliceBounds,uW hm,uW A]
      ·obtain⟨v,rfl,b⟩:=a;simp only[an]at b;subst b;simp[Instr.sliceBounds,uW hm,uW A,uW ⟨y,x⟩]
     ·rcases AY z with⟨rfl,rfl⟩| ⟨k',q,rfl,y,x,rfl⟩<;>omega
   grind
  grind
theorem PH{sz:Nat}: ∀ {l:Nat} {af:List (List AV)},(∀el∈af,el.length=sz)->(af.drop l).flatten=af.flatten.drop (l*sz)
 |0,_,_=>by simp
 |l+1,[],_=>by simp
 |l+1,x::xs,hu=>by
  have a:=PH (l:=l) (af:=xs) λel h=>hu el (by grind)
  simp only[apg,aqy,a];have e: (l+1)*sz=x.length+l*sz:=by grind
  rw[e,auG];simp_all
theorem Iw{sz:Nat}: ∀ {n:Nat} {af:List (List AV)},(∀el∈af,el.length=sz)->(af.take n).flatten=af.flatten.take (n*sz)
 |0,_,_=>by simp
 |n+1,[],_=>by simp
 |n+1,x::xs,hu=>by
  have a:=Iw (n:=n) (af:=xs) λel h=>hu el (by grind)
  have e: (n+1)*sz=x.length+n*sz:=by grind
  grind
def aae{af:List (List AV)}(a: ∀el∈af,el.length=sz): ((af.drop l).take n).flatten=(af.flatten.drop (l*sz)).take (n*sz):=by grind [Iw,List.mem_of_mem_drop,PH]
def br.slice{af:List (List AV)}(b:br G af vs)(a: ∀x∈af,x.length=sz):br G ((af.drop l).take n) ((vs.drop (l*sz)).take (n*sz)):=by
 rw[br.iff,aae a];exact((br.iff.1 b).drop _).take _
def qR.slice{o:Nat}(c:qR G b o vs)(l n:Nat):qR G b (o+l) ((vs.drop l).take n):=by
 intro j u a;rw[apX]at a;split at a
 ·rw[anb]at a;rw[apd];exact c _ _ a
 grind
def aq6{a:Addr}(h:a.spot=none)(k:Nat): (a.add k).spot=none:=by
 unfold Addr.add
 grind
def PI(a:Addr)(b o k:Nat)(h:a=⟨b,o,none⟩):a.add k=⟨b,o+k,none⟩:=by rw[h,jl]
def aq7{y:TypeId}(h1:P.underlying t=some (.slice y))(h2:cy P y=some n){x v:AV}{N:Value}{lo Q O:Option AV}{C z:Option Value}
  (s:an G x N) (I:lY G lo ak) (K:lY G Q C) (S:lY G O z) (J:O=none\/Q≠none)
  (h:gd n x lo Q O=some v) (w:World): ∃v',(Instr.sliceAt t N ak C z).run P w= .ok v' w/\an G v v':=by
 have key: ∀ {a:Option Addr} {len cap:Nat} {cH:Bool} {l h:Nat} {c:Bool},N= .slice a len cap->len<=cap->(cH=true->cap=len)->gb len lo Q=some (l,h)->lS len h cH O=some c->
   ∃m,(Instr.sliceAt t N ak C z).run P w= .ok (.slice (if m=l then a else a.map (·.add (l*n))) (h-l) (m-l)) w/\l<=h/\h<=len/\h<=m/\m<=cap/\ (c=true->m=h):=by
  intro a len cap cH l h c e hle f g F;obtain⟨m,hr,r⟩:=aq5 (P:=P) hle f I K S J g F w;refine⟨m,?_,r⟩;subst e;simp[Instr.sliceAt,Instr.slice,abg h1,hr,oi h2]
 unfold gd at h;split at h
 ·simp only[an]at s;split at h
  ·rename_i p q g F;cases h;obtain⟨l,k⟩:=p;obtain⟨-,k1,k2⟩:=Iv (P:=P) (D2:=false) (ahT 0) I K g w;have T:k=0:=by omega
   subst T;obtain⟨m,hr,Z,Y,W,V,L⟩:=key (cH:=true) s (ahT _) (λ_=>rfl) g F;refine⟨_,hr,?_⟩;have e1:l=0:=by omega
   have e3:m=0:=by omega
   subst e1 e3;simp[an]
  ·cases h
 ·rename_i af cH;split at h
  ·rename_i l k g;split at h
   ·rename_i c F;split at h
    ·rename_i hu;cases h;have hu: ∀el∈af,el.length=n:=λel D=>by simpa using ajD.1 hu el D
     simp only[an]at s;obtain⟨b,o,cap,sz,vs,e,d1,d2,d3,hf,lf,hl⟩:=s;obtain⟨m,hr,Z,Y,W,V,L⟩:=key e d1 d2 g F;refine⟨_,hr,?_⟩;have d: ((af.drop l).take (k-l)).length=k-l:=by simp;omega
     by_cases hm:m=l
     ·have:k=l:=by omega
      subst this;rw[aaR hm];refine⟨b,o,m-k,n,[],by simp,by simp,λi=>by simp;omega,by simp,λj u hj=>by simp at hj,λu hu=>by simp at hu,by simp[br]⟩
     ·rw[aaH hm];refine⟨b,o+l*n,m-l,n,(vs.drop (l*n)).take ((k-l)*n),?_,?_,λi=>?_,λel D=>hu el (aqw (ajY D)),hf.slice _ _,(lf.drop _).take _,hl.slice hu⟩
      ·simp[d,jl]
      ·rw[d];omega
      ·rw[d];have:=L i;omega
    ·cases h
   ·cases h
  ·cases h
 ·rename_i id aj sz off len cH;split at h
  ·rename_i l k g;split at h
   ·rename_i c F;split at h
    ·rename_i A;subst A;cases h;simp only[an]at s;obtain⟨U,e1,M,cap,e,d1,d2,d3⟩:=s;obtain⟨m,hr,Z,Y,W,V,L⟩:=key e d1.1 d2 g F;refine⟨_,hr,U,e1,if m=l then M else M.add (l*sz),m-l,by split<;>simp_all,⟨by omega,by split<;>first|exact d1.2|exact aq6 d1.2 _⟩,λi=>by have:=L i;omega,λR=>?_⟩;obtain⟨f1,f2,f3⟩:=d3 R;refine⟨f1,λH=>?_,?_⟩
     ·rw[aaH (by omega),PI _ _ _ _ (f2 (by omega)),arX,apd]
     ·have: (off+l)*sz+(m-l)*sz<=off*sz+cap*sz:=by
        rw[<-arX,<-arX];exact anI _ (by omega)
      omega
    ·cases h
   ·cases h
  ·cases h
 ·rename_i id sz off len;split at h
  ·rename_i l k g;split at h
   ·rename_i A;subst A;cases h;simp only[an]at s;obtain⟨U,M,cap,e,d1,d2⟩:=s;obtain⟨m,hr,Z,Y,W,V,L⟩:=key (cH:=false) (c:=false) e d1 (λhh=>by cases hh) g (by simp[lS]);refine⟨_,hr,U,if m=l then M else M.add (l*sz),m-l,by split<;>simp_all,by omega,λR H=>?_⟩;rw[aaH (by omega),PI _ _ _ _ (d2 R (by omega))]
   ·cases h
  ·cases h
 ·cases h
theorem chunks_flatten{sz:Nat}: ∀ {k:Nat} {cs:List AV},k*sz<=cs.length->(chunks sz k cs).flatten=cs.take (k*sz)
 |0,_,_=>by simp[chunks]
 |k+1,cs,h=>by
  have e: (k+1)*sz=sz+k*sz:=by grind
  simp only[chunks,aqy];rw[chunks_flatten (k:=k) (cs:=cs.drop sz) (by grind),e,List.take_add]
theorem D3{sz:Nat}: ∀ {k:Nat} {cs:List AV},k*sz<=cs.length-> ∀el∈chunks sz k cs,el.length=sz
 |0,_,_=>by simp[chunks]
 |k+1,cs,h=>by
  intro el a;simp only[chunks,ajR]at a;rcases a with rfl|a
  ·grind
  ·exact D3 (k:=k) (cs:=cs.drop sz) (by grind) el a
@[simp]theorem PJ {sz:Nat}: ∀ {k:Nat} {cs:List AV},(chunks sz k cs).length=k
  |0,_=>rfl
  |k+1,_=>by simp[chunks,PJ]
def aq8(I:aV P B av G E w)(M:fz X B av){f:TypeId}(Q:P.underlying t=some (.array n f))(O:cy P f=some sz){x v:AV}{k:Value}{lo H:Option AV}{a:Option Value}
  (m:an G x k) (y:lY G lo ak) (z:lY G H a) (h:qN X n sz x lo H=some v): ∃v',(Instr.sliceAt t k ak a none).run P w= .ok v' w/\an G v v':=by
 unfold qN at h;split at h
 ·rename_i l i N;obtain⟨hr,T,S⟩:=Iv (P:=P) (D2:=false) (ahT n) y z N w;have key: ∀p,k= .pointer (some p)->(Instr.sliceAt t k ak a none).run P w= .ok (.slice (some (if n=l then p else p.add (l*sz))) (i-l) (n-l)) w:=by
   rintro p rfl;simp[Instr.sliceAt,abg Q,Instr.sureAddr,hr,oi O]
  have frozen: ∀ (b o:Nat) (cs:List AV) (vs:List Value) (off:Nat),k= .pointer (some ⟨b,o+off,none⟩)->qR G b o vs->Leaves vs->aD G cs vs->off+n*sz<=cs.length->
    ∃v',(Instr.sliceAt t k ak a none).run P w= .ok v' w/\an G (.sl (chunks sz (i-l) (cs.drop (off+l*sz))) false) v':=by
   intro b o cs vs off e s q r hle;refine⟨_,key _ e,?_⟩;have K:l*sz+(i-l)*sz<=n*sz:=by rw[<-arX];exact anI _ (by omega)
   have d: (i-l)*sz<=(cs.drop (off+l*sz)).length:=by simp;omega
   by_cases F:n=l
   ·rw[aaR F];have:i=l:=by omega
    subst this;refine⟨b,o+off,n-i,sz,[],by simp,by simp,(λC=>by cases C),by simp[chunks],(λj u L=>by simp at L),(λu hu=>by simp at hu),by simp[chunks,br]⟩
   ·rw[aaH F];refine⟨b,o+(off+l*sz),n-l,sz,(vs.drop (off+l*sz)).take ((i-l)*sz),?_,(by rw[PJ];omega),(λC=>by cases C),D3 d,s.slice _ _,(q.drop _).take _,?_⟩
    ·simp[jl,apd]
    ·rw[br.iff,chunks_flatten d];exact(r.drop _).take _
  split at h
  ·rename_i id off;cases h;simp only[an]at m;obtain⟨R,p,e,c⟩:=m;refine⟨_,key p e,R,_,n-l,rfl,by omega,λJ D=>?_⟩;rw[aaH (by omega),PI _ _ _ _ (c J)]
  ·rename_i cs off;split at h
   ·rename_i hle;cases h;simp only[an]at m;obtain⟨b,o,vs,e,s,q,r⟩:=m;exact frozen b o cs vs off e s q r hle
   ·cases h
  ·rename_i g;split at h
   ·rename_i cs A;split at h
    ·rename_i hle;cases h;simp only[an]at m;obtain⟨vs,s,q,r⟩:=M.rel I A;have:=frozen g 0 cs vs 0 (by simpa using m) s q r (by omega);simpa using this
    ·cases h
   ·cases h
  grind
 grind
end
section
variable{P:Program}{X:Ctx}{B:Nat}{av:World}
variable{G:Gh}{E:AS}{w:World}
def PK{z:AV}(h:yr P t=some z)(G:Gh)(w:World): ∃b,(zeroValue t).run P w= .ok b w/\zeroV P t=some b/\an G z b:=by
 unfold yr at h;split at h
 ·rename_i v a;split at h
  ·rename_i d;cases h;refine⟨v,?_,a,aaa v d⟩;unfold zeroV at a;cases c:P.info? t with
   |none=>grind
   |some i=>
    simp only[c,arL]at a;simp only[zeroValue,Sem.run_bind,run_typeInfo _ c,Result.andThen_ok,a,Sem.run_pure]
  grind
 grind
def sI{z:List AV}(h:gL P t=some z)(G:Gh)(w:World):
  ∃a,(zeroValue t).run P w= .ok a w/\zeroV P t=some a/\aD G z a.cells.toList/\Leaves a.cells.toList/\cy P t=some z.length:=by
 unfold gL at h;split at h
 ·rename_i y n c f;split at h
  ·rename_i b;obtain⟨a,e,g,r⟩:=PK c G w;obtain⟨l,d⟩:=r.cells b.1
   grind
  grind
 grind
theorem aq9:IntKind.i64.max=9223372036854775807:=by rfl
theorem k7{s:Sem Value}{k:IntKind}{n:Int}{w:World}(h:s.run P w= .ok (.int k n) w): ∃v',s.run P w= .ok v' w/\an G (.int k n) v':=⟨_,h,by rfl⟩
theorem D4{s:Sem Value}{b:Bool}{w:World}(h:s.run P w= .ok (.bool b) w): ∃v',s.run P w= .ok v' w/\an G (.bool b) v':=⟨_,h,by rfl⟩
theorem aFF{s:Sem Value}{b:ByteArray}{w:World}(h:s.run P w= .ok (.string b) w): ∃v',s.run P w= .ok v' w/\an G (.str b) v':=⟨_,h,by rfl⟩
def aaf{c:BinOp}{x y v:AV}{j i:Value}(e:an G x j)(d:an G y i)(h:dq c x y=some v)(ho:c≠ .eql)(f:c≠ .neq)(w:World):
  ∃v',(binOp c t j i).run P w= .ok v' w/\an G v v':=by
 unfold dq at h;split at h
 ·rename_i k a k' b;split at h
  ·rename_i l;subst l;simp only[an]at e d;subst e d;cases c<;>simp[my,wB]at h<;>(simp_all)<;>(try rfl)
   all_goals
    first
     | (subst h;exact k7 (by simp[binOp,Op.intArith,Op.intBits]))
     | (subst h;exact D4 (by simp[binOp,Op.intCmp]))
     | (obtain⟨g,rfl⟩:=h;exact k7 (by simp[binOp,Op.intDiv,g]))
  grind
 ·rename_i a b;simp only[an]at e d;subst e d;cases c<;>simp[Z2]at h<;>(try exact absurd rfl ho)<;>(try exact absurd rfl f)
  all_goals
   first
    | (subst h;exact D4 (by simp[binOp,Op.stringOp]))
    | (obtain⟨g,rfl⟩:=h
       refine⟨.string (a++b),?_,by simp[an]⟩;simp only[binOp,Op.stringOp,Sem.run_ite];rw[aaH (by rw[aq9];simp only[Z1]at g;omega)];simp)
 grind
def ara{c:BinOp}{k k':IntKind}{a b:Int}{v:AV}(h:wC c k a b=some v)(w:World):
  ∃v',(binOp c t (.int k a) (.int k' b)).run P w= .ok v' w/\an G v v':=by
 unfold wC at h;split at h
 ·cases h
 ·rename_i d;split at h
  ·cases h;exact k7 (by simp[binOp,Op.shift,d])
  ·cases h;exact k7 (by simp[binOp,Op.shift,d])
  grind
def arb{c:UnOp}{x v:AV}{b:Value}(a:an G x b)(h:yo c x=some v)(w:World): ∃v',(Op.unary c b).run P w= .ok v' w/\an G v v':=by
 unfold yo at h;split at h
 ·cases h;subst a;exact k7 (by rfl)
 ·simp only[wB,aaQ]at h;subst h;subst a;exact k7 (by rfl)
 ·cases h;subst a;exact D4 (by rfl)
 grind
def arc{s d:TypeId}{k q:IntKind}{n:Int}(b: (P.underlying s).isSome=true)(a:P.underlying d=some (.int k))(w:World):
  (convert s d (.int q n)).run P w= .ok (.int k (k.wrap n)) w:=by
 cases hu:P.underlying s with
 |none=>grind
 |some u=>simp[convert,abg hu,abg a,Conv.intToInt]
def aag{b:AV}{c:Value}(h:b.AL=true)(r:an G b c): ∃a,c= .pointer (some a):=by
 cases b<;>simp[AV.AL]at h<;>simp only[an]at r
 ·grind
 ·grind
 ·grind
 grind
def aah{b:AV}{d:Value}(h:b.AM=true)(r:an G b d): ∃a n c,d= .slice (some a) n c:=by
 cases b<;>simp[AV.AM]at h<;>simp only[an]at r
 ·grind
 ·grind
 grind
def kindOk:EK->TypeDesc->Prop
 |.bool,d=>d= .bool
 |.int,d=> ∃k,d= .int k
 |.str,d=>d= .string
 |.ptr,d=> ∃e,d= .pointer e
 |.sl,d=> ∃e,d= .slice e
 |.map,d=> ∃k e,d= .map k e
 |.cap,_=>False
 |.fn,d=> ∃a b c,d= .func a b c
 |.di,d=> ∃ms,d= .interface ms
 |.AK _,d=> ∃ms,d= .interface ms
 |.agg _,_=>False
def aai(P:Program)(t:TypeId):Prop:= ∃i q,P.info? t=some i/\i.comparable=true/\P.underlying t=some (.int q)
def aaj{a ty:TypeId}{e:Array (String×TypeId)}(f:P.underlying t=some (.interface e))(d:Nat)(c b:Value)(w:World)
  (h:a≠ty->r=false) (m:a=ty-> ∃i,P.info? a=some i/\i.comparable=true/\ (Op.equalIn d a c b).run P w= .ok r w): (Op.equalIn (d+1) t (.iface a c) (.iface ty b)).run P w= .ok r w:=by
 rw[Op.equalIn];simp only[Sem.run_bind,abg f,Result.andThen_ok];by_cases g:a=ty
 ·subst g;obtain⟨i,l,k,j⟩:=m rfl;simp[typeInfo,l,k,j]
 simp_all
def aak{k:EK}{u:TypeDesc}{x y:AV}{F D:Value}(l:P.underlying t=some u)(j:kindOk k u)(g:an G x F)(f:an G y D)(h:qM k x y=some r)(d:Nat)(w:World)(I: ∀ts,k= .AK ts->1<=d/\ ∀t∈ts,aai P t):
  (Op.equalIn (d+1) t F D).run P w= .ok r w:=by
 unfold qM at h;split at h
 case h_1=>
  cases h;simp only[an]at g f;subst g f;simp only[kindOk]at j;subst j;exact run_equalIn_bool w d t _ _ l
 case h_2=>
  split at h
  ·rename_i e;subst e;cases h;simp only[an]at g f;subst g f;obtain⟨k',rfl⟩:=j;exact run_equalIn_int w d t _ _ _ _ l
  ·cases h
 case h_3=>
  cases h;simp only[an]at g f;subst g f;simp only[kindOk]at j;subst j;exact run_equalIn_string w d t _ _ l
 case h_4=>
  cases h;simp only[an]at g f;subst g f;obtain⟨e,rfl⟩:=j;simp[Op.equalIn,abg l]
 case h_5=>
  split at h
  ·rename_i m;cases h;simp only[an]at g;subst g;obtain⟨e,rfl⟩:=j;obtain⟨a,rfl⟩:=aag m f;simp[Op.equalIn,abg l]
  ·cases h
 case h_6=>
  split at h
  ·rename_i m;cases h;simp only[an]at f;subst f;obtain⟨e,rfl⟩:=j;obtain⟨a,rfl⟩:=aag m g;simp[Op.equalIn,abg l]
  ·cases h
 case h_7=>
  cases h;simp only[an]at g f;subst g f;obtain⟨e,rfl⟩:=j;simp[Op.equalIn,abg l]
 case h_8=>
  split at h
  ·rename_i m;cases h;simp only[an]at g;subst g;obtain⟨e,rfl⟩:=j;obtain⟨a,n,c,rfl⟩:=aah m f;simp[Op.equalIn,abg l]
  ·cases h
 case h_9=>
  split at h
  ·rename_i m;cases h;simp only[an]at f;subst f;obtain⟨e,rfl⟩:=j;obtain⟨a,n,c,rfl⟩:=aah m g;simp[Op.equalIn,abg l]
  ·cases h
 case h_10=>
  cases h;simp only[an]at g f;subst g f;obtain⟨_,_,rfl⟩:=j;simp[Op.equalIn,abg l]
 case h_11=>
  cases h;simp only[an]at g f;subst g;obtain⟨_,_,rfl,_⟩:=f;obtain⟨_,_,rfl⟩:=j;simp[Op.equalIn,abg l]
 case h_12=>
  cases h;simp only[an]at g f;subst f;obtain⟨_,_,rfl,_⟩:=g;obtain⟨_,_,rfl⟩:=j;simp[Op.equalIn,abg l]
 case h_13=>
  cases h;simp only[an]at g f;subst g f;obtain⟨_,_,_,rfl⟩:=j;simp[Op.equalIn,abg l]
 case h_14=>
  cases h;simp only[an]at g f;subst g;obtain⟨_,_,_,rfl,_⟩:=f;obtain⟨_,_,_,rfl⟩:=j;simp[Op.equalIn,abg l]
 case h_15=>
  cases h;simp only[an]at g f;subst f;obtain⟨_,_,_,rfl,_⟩:=g;obtain⟨_,_,_,rfl⟩:=j;simp[Op.equalIn,abg l]
 case h_16=>
  cases h;simp only[an]at g f;subst g f;obtain⟨_,rfl⟩:=j;simp[Op.equalIn,abg l]
 case h_17=>
  cases h;simp only[an]at g f;subst g;obtain⟨_,rfl,_⟩:=f;obtain⟨_,rfl⟩:=j;simp[Op.equalIn,abg l]
 case h_18=>
  cases h;simp only[an]at g f;subst f;obtain⟨_,rfl,_⟩:=g;obtain⟨_,rfl⟩:=j;simp[Op.equalIn,abg l]
 case h_19=>
  rename_i ts tx q a ty H b;simp only[an]at g f;obtain⟨_,rfl,rfl⟩:=g;obtain⟨_,rfl,rfl⟩:=f;obtain⟨ms,rfl⟩:=j;obtain⟨J,o⟩:=I ts rfl;split at h
  ·rename_i p;subst p;split at h
   ·rename_i A;obtain⟨A,rfl⟩:=A;cases h;obtain⟨i,H,z,v,s⟩:=o tx (by simpa using A);obtain⟨C,rfl⟩: ∃C,d=C+1:=⟨d-1,by omega⟩;exact aaj l _ _ _ w (λe=>absurd rfl e) λ_=>⟨i,z,v,run_equalIn_int w C tx q H a b s⟩
   ·cases h
  ·rename_i p;cases h;exact aaj l _ _ _ w (λ_=>rfl) λe=>absurd e p
 case h_20=>cases h
def aal{c d:List EK}{a b:List AV}(j:a.length=(c++d).length)(i:b.length=(c++d).length)(h:ji (c++d) a b=some r):
  ∃e,ji c (a.take c.length) (b.take c.length)=some e/\ (e=false->r=false)/\ (e=true->ji d (a.drop c.length) (b.drop c.length)=some r):=by
 induction c generalizing a b with
 |nil=>exact⟨true,by rfl,by simp,λ_=>by grind⟩
 |cons k f g=>
  cases a with
  |nil=>grind
  |cons x xs=>
   cases b with
   |nil=>grind
   |cons y ys=>
    simp only[ajW,ji]at h;simp only[ajC,as1,apg,ji]
    grind
def yx:TypeDesc->Bool
 |.struct _|.array _ _=>true
 |_=>false
def yy{u:TypeDesc}(h:P.underlying t=some u):na P t=some (yx u):=by
 unfold na;rw[h];cases u<;>rfl
def Ix(P:Program)(d:Nat)(t:TypeId)(a:List EK):Prop:=
 ∀ (D:Nat),d<=D-> ∀ (G:Gh) (w:World) (xs ys:Array Value) (as bs:List AV) (off:Nat) (r:Bool),cy P t=some a.length->aD G as xs.toList->aD G bs ys.toList->Leaves xs.toList->Leaves ys.toList->
   off+a.length<=as.length->off+a.length<=bs.length->ji a ((as.drop off).take a.length) ((bs.drop off).take a.length)=some r->
   ∃x y,(Go.part t xs off).run P w= .ok x w/\ (Go.part t ys off).run P w= .ok y w/\ (Op.equalIn D t x y).run P w= .ok r w
def aam(C: ∀t a,oh P d t=some a->Ix P d t a): ∀ (fs:List Field) (off:Nat) (a:List EK),AP P (oh P d) fs off=some a->
  ∀ (D:Nat),d<=D-> ∀ (G:Gh) (w:World) (xs ys:Array Value) (as bs:List AV) (r:Bool),aD G as xs.toList->aD G bs ys.toList->Leaves xs.toList->Leaves ys.toList->
  off+a.length<=as.length->off+a.length<=bs.length->ji a ((as.drop off).take a.length) ((bs.drop off).take a.length)=some r->
  (Op.eqFields D xs ys fs).run P w= .ok r w:=by
 intro fs
 induction fs with
 |nil=>
  intro off a h D g G w xs ys as bs r _ _ _ _ _ _ he;simp only[AP,aaQ]at h;subst h;simp[ji]at he;subst he;simp[Op.eqFields]
 |cons f fs q=>
  intro off a h D g G w xs ys as bs r k j f1 f2 z v he;simp only[AP]at h;split at h
  ·rename_i c e;split at h
   ·rename_i u;obtain⟨s,ho,hs⟩:=u;cases b:AP P (oh P d) fs (off+c.length)with
    |none=>simp[b]at h
    |some p=>
     simp only[b,ah6,aaQ]at h;subst h;simp only[ahU]at z v;obtain⟨i,e1,A,e3⟩:=aal (by simp;omega) (by simp;omega) he;rw[atU,atU,ahU,as0 (Nat.le_add_right _ _)]at e1;obtain⟨x,y,o,n,m⟩:=C f.type c e D g G w xs ys as bs off i hs k j f1 f2 (by omega) (by omega) e1;simp only[Op.eqFields,ho];rw[aaR s];simp only[Sem.run_bind,o,n,m,Result.andThen_ok];cases i with
     |false=>simp[A rfl]
     |true=>
      simp only[auM,ah2,ak8];have l:=e3 rfl;rw[aww,aww,arY,arY,ahU,alw]at l;exact q (off+c.length) p b D g G w xs ys as bs r k j f1 f2 (by omega) (by omega) l
   grind
  grind
def PM{u:TypeDesc}{k:EK}(o:P.underlying t=some u)(q:kindOk k u)(g:na P t=some false)(p: ∀ts,k≠ .AK ts):Ix P (d+1) t [k]:=by
 intro D F G w xs ys as bs off r hs l j f1 f2 v s he;simp only[atZ]at v s he;have C:as[off]?=some (as[off]'(by omega)):=abe _;have A:bs[off]?=some (bs[off]'(by omega)):=abe _;obtain⟨x,n,rx⟩:=l.get off _ C;obtain⟨y,m,i⟩:=j.get off _ A;have e1: (as.drop off).take 1=[as[off]'(by omega)]:=by rw[aqn (by omega)];rfl
 have z: (bs.drop off).take 1=[bs[off]'(by omega)]:=by rw[aqn (by omega)];rfl
 rw[e1,z]at he;have c:qM k as[off] bs[off]=some r:=by
  simp only[ji]at he;split at he
  ·rename_i h;rw[h];exact he
  ·rename_i h;rw[h];exact he
  ·cases he
 have b:xs[off]?=some x:=by simpa using n
 have a:ys[off]?=some y:=by simpa using m
 refine⟨x,y,by simp[Go.part,sH g,b],by simp[Go.part,sH g,a],?_⟩;obtain⟨f,rfl⟩: ∃f,D=f+1:=⟨D-1,by omega⟩;exact aak o q rx i c f w (λts e=>absurd e (p ts))
theorem PN{D:Nat}{e:TypeId}{a:List EK}(l:Ix P D e a)(g:cy P e=some a.length){G:Gh}{w:World}{xs ys:Array Value}{as bs:List AV}(f:aD G as xs.toList)(d:aD G bs ys.toList)(i:Leaves xs.toList)(h:Leaves ys.toList):
  ∀ (m j:Nat) (r:Bool),(j+m)*a.length<=as.length->(j+m)*a.length<=bs.length->ji (List.replicate m a).flatten ((as.drop (j*a.length)).take (m*a.length)) ((bs.drop (j*a.length)).take (m*a.length))=some r->
  (Op.eqItems D e a.length xs ys (List.range' j m)).run P w= .ok r w
 |0,j,r,_,_,he=>by
  simp[ji]at he;subst he;simp[Op.eqItems]
 |m+1,j,r,t,s,he=>by
  have hm: (m+1)*a.length=a.length+m*a.length:=by rw[asr];omega
  have q: (j+(m+1))*a.length=j*a.length+(a.length+m*a.length):=by rw[arX,hm]
  rw[q]at t s;rw[auj,aqy,hm]at he;obtain⟨c,e1,u,e3⟩:=aal (by simp;omega) (by simp;omega) he;rw[atU,atU,as0 (Nat.le_add_right _ _)]at e1;obtain⟨x,y,p,o,n⟩:=l D (ahT _) G w xs ys as bs (j*a.length) c g f d i h (by omega) (by omega) e1;rw[List.range'_succ];simp only[Op.eqItems,Sem.run_bind,p,o,n,Result.andThen_ok];cases c with
  |false=>simp[u rfl]
  |true=>
   simp only[auM,ah2,ak8];have k:=e3 rfl;rw[aww,aww,arY,arY,alw]at k;have b: (j+1)*a.length=j*a.length+a.length:=asr _ _;refine PN l g f d i h m (j+1) r ?_ ?_ ?_
   ·have: (j+1+m)*a.length=j*a.length+(a.length+m*a.length):=by rw[arX,b];omega
    omega
   ·have: (j+1+m)*a.length=j*a.length+(a.length+m*a.length):=by rw[arX,b];omega
    omega
   ·rw[b];exact k
theorem Iy: ∀ (d:Nat) (t:TypeId) (b:List EK),oh P d t=some b->Ix P d t b
 |0,_,_,h=>by trivial
 |d+1,t,b,h=>by
  simp only[oh]at h;split at h
  ·rename_i hu;cases h;exact PM (k:=.bool) hu rfl (yy hu) (by simp)
  ·rename_i hu;cases h;exact PM (k:=.int) hu ⟨_,rfl⟩ (yy hu) (by simp)
  ·rename_i hu;cases h;exact PM (k:=.str) hu rfl (yy hu) (by simp)
  ·rename_i fields hu;split at h
   ·rename_i C;intro D J G w xs ys as bs off r hs o m f1 f2 z y he;have q: (Go.part t xs off).run P w= .ok (.agg (xs.extract off (off+b.length))) w:=by simp[Go.part,sH (yy hu),oi hs,yx]
    have p: (Go.part t ys off).run P w= .ok (.agg (ys.extract off (off+b.length))) w:=by simp[Go.part,sH (yy hu),oi hs,yx]
    refine⟨_,_,q,p,?_⟩;obtain⟨f,rfl⟩: ∃f,D=f+1:=⟨D-1,by omega⟩;have v:P.fieldsOf t=fields:=by simp[Program.fieldsOf,hu]
    rw[run_equalIn_struct w f t _ _ (by rw[v];exact hu) C,v];have ex: (xs.extract off (off+b.length)).toList=(xs.toList.drop off).take b.length:=by rw[auI,auc];simp
    have l: (ys.extract off (off+b.length)).toList=(ys.toList.drop off).take b.length:=by rw[auI,auc];simp
    refine aam (λt b h=>Iy d t b h) fields.toList 0 b h f (by omega) G w _ _ ((as.drop off).take b.length) ((bs.drop off).take b.length) r (by rw[ex];exact(o.drop _).take _) (by rw[l];exact(m.drop _).take _)
     (by rw[ex];exact(f1.drop _).take _) (by rw[l];exact(f2.drop _).take _) (by simp;omega) (by simp;omega) ?_
    rw[alq,alq,atU,atU,azv];exact he
   ·cases h
  ·rename_i n e hu;split at h
   ·rename_i a F;split at h
    ·rename_i I;obtain⟨j,_⟩:=I;cases h;intro D J G w xs ys as bs off r hs o m f1 f2 z y he;have s: (List.replicate n a).flatten.length=n*a.length:=by simp
     rw[s]at z y he hs;have q: (Go.part t xs off).run P w= .ok (.agg (xs.extract off (off+n*a.length))) w:=by simp[Go.part,sH (yy hu),oi hs,yx]
     have p: (Go.part t ys off).run P w= .ok (.agg (ys.extract off (off+n*a.length))) w:=by simp[Go.part,sH (yy hu),oi hs,yx]
     refine⟨_,_,q,p,?_⟩;obtain⟨f,rfl⟩: ∃f,D=f+1:=⟨D-1,by omega⟩;have c:=j;unfold cy at c;obtain⟨i,H,A⟩:=ah3.1 c;rw[run_equalIn_array w f _ _ hu H];have g:P.cellsOf e=a.length:=by
      unfold Program.cellsOf;rw[c];rfl
     rw[g,aBq];have ex: (xs.extract off (off+n*a.length)).toList=(xs.toList.drop off).take (n*a.length):=by rw[auI,auc];simp
     have l: (ys.extract off (off+n*a.length)).toList=(ys.toList.drop off).take (n*a.length):=by rw[auI,auc];simp
     refine PN (as:=(as.drop off).take (n*a.length)) (bs:=(bs.drop off).take (n*a.length)) (λu x=>Iy d e a F u (by omega)) j (by rw[ex];exact(o.drop _).take _) (by rw[l];exact(m.drop _).take _)
      (by rw[ex];exact(f1.drop _).take _) (by rw[l];exact(f2.drop _).take _) n 0 r (by simp;omega) (by simp;omega) ?_
     rw[Nat.zero_mul,alq,alq,atU,atU,azv];exact he
    ·cases h
   ·cases h
  grind
end
section
variable{P:Program}{X:Ctx}{B:Nat}{av:World}
variable{G:Gh}{E:AS}{w:World}
def yz:Operand->Bool
 |.const _=>true
 |_=>false
def AZ(c:BinOp)(t:TypeId)(x y:Operand)(a b:Value)(e:a= .nilIface->b= .nilIface->(yz x||yz y)=true)(d: ∀xs ys,a= .agg xs->b= .agg ys->P.eqGuardType P.depth t=false)(w:World):
  (eqGuard c t x y a b).run P w= .ok () w:=by
 cases c<;>(simp_all)<;>cases a<;>(try(simp[eqGuard];done))<;>cases b<;>(try(simp[eqGuard];done))
 all_goals first
  | (have h:=d _ _ rfl rfl;simp[eqGuard,atV,h];done)
  | (have h:=e rfl rfl;cases x<;>cases y<;>simp[yz]at h<;>simp[eqGuard])
def D5:Value->Bool
 |.int _ _|.float _ _|.complex _ _ _|.string _=>false
 |_=>true
def binOp_eql{x y:Value}(a:D5 x=true)(t:TypeId):binOp .eql t x y=(do pure (.bool (<-Op.equal t x y))):=by
 cases x<;>simp[D5]at a<;>first|rfl|rfl
def binOp_neq{x y:Value}(a:D5 x=true)(t:TypeId):binOp .neq t x y=(do pure (.bool (!(<-Op.equal t x y)))):=by
 cases x<;>simp[D5]at a<;>first|rfl|rfl
def uX:AV->Bool
 |.int _ _|.str _|.au _|.iI=>false
 |_=>true
def ard{x:AV}{a:Value}(h:uX x=true)(r:an G x a):D5 a=true:=by
 cases x<;>simp[uX]at h<;>simp only[an]at r
 all_goals first
  |rfl
  | (obtain⟨_,rfl,_⟩:=r;rfl)
  | (obtain⟨_,_,rfl,_⟩:=r;rfl)
  | (obtain⟨_,_,_,rfl,_⟩:=r;rfl)
  | (obtain⟨_,_,_,_,rfl,_⟩:=r;rfl)
  | (obtain⟨_,_,_,_,_,rfl,_⟩:=r;rfl)
  | (obtain⟨⟨_,rfl⟩,_⟩:=r;rfl)
def are{x:AV}{xs:Array Value}(h:x.cn=false)(r:an G x (.agg xs)): ∃cs,x= .agg cs:=by
 cases x<;>simp[AV.cn]at h<;>simp[an]at r
 grind
def arf{x y:Operand}{k:EK}(h:yt P t x y=some k):
  (∃u,P.underlying t=some u/\kindOk k u/\ (k= .di->(yz x||yz y)=true)/\ ∀ts,k= .AK ts-> ∀t∈ts,aai P t)\/
  (∃a u,P.underlying t=some u/\yx u=true/\k= .agg a/\oh P 10 t=some a/\P.eqGuardType P.depth t=false):=by
 unfold yt at h;split at h
 ·rename_i hu;cases h;exact .inl ⟨_,hu,rfl,by simp,by simp⟩
 ·rename_i hu;cases h;exact .inl ⟨_,hu,⟨_,rfl⟩,by simp,by simp⟩
 ·rename_i hu;cases h;exact .inl ⟨_,hu,rfl,by simp,by simp⟩
 ·rename_i hu;cases h;exact .inl ⟨_,hu,⟨_,rfl⟩,by simp,by simp⟩
 ·rename_i hu;cases h;exact .inl ⟨_,hu,⟨_,rfl⟩,by simp,by simp⟩
 ·rename_i hu;cases h;exact .inl ⟨_,hu,⟨_,_,rfl⟩,by simp,by simp⟩
 ·rename_i hu;cases h;exact .inl ⟨_,hu,⟨_,_,_,rfl⟩,by simp,by simp⟩
 ·rename_i hu;split at h
  ·cases h;exact .inl ⟨_,hu,⟨_,rfl⟩,by simp[yz],by simp⟩
  ·cases h;exact .inl ⟨_,hu,⟨_,rfl⟩,by simp[yz],by simp⟩
  ·cases h;refine .inl ⟨_,hu,⟨_,rfl⟩,by simp,λts d t b=>?_⟩;cases d;simp only[Z3,ajL]at b;obtain⟨_,b⟩:=b;split at b
   ·rename_i i q g f;exact⟨i,q,g,b,f⟩
   ·cases b
 ·rename_i hu;split at h
  ·rename_i e;cases c:oh P 10 t with
   |none=>simp[c]at h
   |some a=>simp[c]at h;exact .inr ⟨a,_,hu,rfl,h.symm,rfl,e⟩
  ·cases h
 ·rename_i hu;split at h
  ·rename_i e;cases c:oh P 10 t with
   |none=>simp[c]at h
   |some a=>simp[c]at h;exact .inr ⟨a,_,hu,rfl,h.symm,rfl,e⟩
  ·cases h
 grind
def arh{k:EK}{x y:AV}{u:TypeDesc}(b:kindOk k u):ep k x y=qM k x y:=by
 cases k with
 |agg a=>trivial
 |_=>rfl
def aan{b:AV}(h:b.AL=true):uX b=true/\ (∀cs,b≠ .agg cs)/\b≠ .eI/\b.cn=false:=by
 cases b<;>simp[AV.AL]at h<;>simp[uX,AV.cn]
def aao{b:AV}(h:b.AM=true):uX b=true/\ (∀cs,b≠ .agg cs)/\b≠ .eI/\b.cn=false:=by
 cases b<;>simp[AV.AM]at h<;>simp[uX,AV.cn]
def ari{k:EK}{x y:AV}(h:qM k x y=some r):
  (k= .int/\ ∃q a b,x= .int q a/\y= .int q b/\r=(a==b))\/ (k= .str/\ ∃a b,x= .str a/\y= .str b/\r=(a.toList==b.toList))\/ (uX x=true/\ (∀cs,x≠ .agg cs)/\ (∀cs,y≠ .agg cs)/\ (x= .eI->k= .di)/\x.cn=false/\y.cn=false):=by
 unfold qM at h;split at h
 case h_1=>exact .inr (.inr (by simp[uX,AV.cn]))
 case h_2=>grind
 case h_3=>grind
 case h_5=>
  split at h
  ·rename_i f;obtain⟨_,d,g,c⟩:=aan f;exact .inr (.inr ⟨rfl,by simp,d,by simp,rfl,c⟩)
  ·cases h
 case h_6=>
  split at h
  ·rename_i f;obtain⟨i,d,g,c⟩:=aan f;exact .inr (.inr ⟨i,d,by simp,λe=>absurd e g,c,rfl⟩)
  ·cases h
 case h_8=>
  split at h
  ·rename_i f;obtain⟨_,d,g,c⟩:=aao f;exact .inr (.inr ⟨rfl,by simp,d,by simp,rfl,c⟩)
  ·cases h
 case h_9=>
  split at h
  ·rename_i f;obtain⟨i,d,g,c⟩:=aao f;exact .inr (.inr ⟨i,d,by simp,λe=>absurd e g,c,rfl⟩)
  ·cases h
 case h_20=>cases h
 all_goals exact .inr (.inr (by simp[uX,AV.cn]))
def arj{x:AV}(h:x.cn=false)(r:an G x .nilIface):x= .eI:=by
 cases x<;>simp[AV.cn]at h<;>simp[an]at r;rfl
def aap{A z:Operand}{k:EK}(hk:yt P t A z=some k){x y:AV}{m l:Value}(j:an G x m)(v:an G y l)(h:ep k x y=some r)(w:World):
  (eqGuard .eql t A z m l).run P w= .ok () w/\ (binOp .eql t m l).run P w= .ok (.bool r) w/\ (eqGuard .neq t A z m l).run P w= .ok () w/\ (binOp .neq t m l).run P w= .ok (.bool !r) w:=by
 rcases arf hk with⟨u,hu,C,F,D⟩| ⟨K,u,hu,I,rfl,f,hg⟩
 ·rw[arh C]at h;rcases ari h with⟨rfl,q,a,b,rfl,rfl,rfl⟩| ⟨rfl,a,b,rfl,rfl,rfl⟩| ⟨h1,h2,h3,h4,V,h6⟩
  ·subst j v;exact⟨AZ _ _ _ _ _ _ (by simp) (by simp) w,by simp[binOp,Op.intCmp],AZ _ _ _ _ _ _ (by simp) (by simp) w,by simp[binOp,Op.intCmp,bne]⟩
  ·simp only[an]at j v;subst j v;exact⟨AZ _ _ _ _ _ _ (by simp) (by simp) w,by simp[binOp,Op.stringOp],AZ _ _ _ _ _ _ (by simp) (by simp) w,by simp[binOp,Op.stringOp]⟩
  ·have S:=ard h1 j;have e: (Op.equal t m l).run P w= .ok r w:=aak hu C j v h 9999 w (λts L=>⟨by decide,D ts L⟩);have g: ∀op,(eqGuard op t A z m l).run P w= .ok () w:=λop=>by
    refine AZ _ _ _ _ _ _ (λQ _=>?_) (λxs ys Q _=>?_) w
    ·subst Q;exact F (h4 (arj V j))
    ·subst Q;obtain⟨cs,rfl⟩:=are V j;exact absurd rfl (h2 cs)
   exact⟨g _,by simp[binOp_eql S,e],g _,by simp[binOp_neq S,e]⟩
 ·unfold ep at h;split at h
  ·rename_i c xs ys he;cases he;split at h
   ·rename_i o;simp only[an]at j v;obtain⟨s,rfl,lx,Y⟩:=j;obtain⟨J,rfl,ly,W⟩:=v;have g: ∀op,(eqGuard op t A z (.agg s) (.agg J)).run P w= .ok () w:=λop=>AZ _ _ _ _ _ _ (by simp) (λ_ _ _ _=>hg) w
    have e: (Op.equal t (.agg s) (.agg J)).run P w= .ok r w:=by
     rw[show(10:Nat)=9+1 from rfl,oh,hu]at f;cases u<;>simp only[yx,ah2]at I
     ·rename_i n e;simp only at f;split at f
      ·rename_i c M;split at f
       ·rename_i O;obtain⟨H,_⟩:=O;cases f;have d:=H;unfold cy at d;obtain⟨i,hi,om⟩:=ah3.1 d;show(Op.equalIn (9999+1) t (.agg s) (.agg J)).run P w=_;rw[run_equalIn_array w 9999 _ _ hu hi];have p:P.cellsOf e=c.length:=by
         unfold Program.cellsOf;rw[d];rfl
        rw[p,aBq];have N: (List.replicate n c).flatten.length=n*c.length:=by simp
        rw[N]at o;refine PN (as:=xs) (bs:=ys) (λR U=>Iy 9 e c M R (by omega)) H lx ly Y W n 0 r (by rw[alv];omega) (by rw[alv];omega) ?_;rw[Nat.zero_mul,alq,alq,<-o.1,aiv,o.1,<-o.2,aiv];exact h
       ·cases f
      ·cases f
     ·rename_i fs;simp only at f;split at f
      ·rename_i hp;have T:P.fieldsOf t=fs:=by simp[Program.fieldsOf,hu]
       show(Op.equalIn (9999+1) t (.agg s) (.agg J)).run P w=_;rw[run_equalIn_struct w 9999 t _ _ (by rw[T];exact hu) hp,T];refine aam (λt K h=>Iy 9 t K h) fs.toList 0 K f 9999 (by omega) G w _ _ xs ys r lx ly Y W (by omega) (by omega) ?_;rw[alq,alq,<-o.1,aiv,o.1,<-o.2,aiv];exact h
      ·cases f
    exact⟨g _,by simp[binOp_eql (x:=.agg s) rfl,e],g _,by simp[binOp_neq (x:=.agg s) rfl,e]⟩
   ·cases h
  ·cases h
  ·rename_i n1 Z;first|exact(n1 _ rfl).elim|exact(Z _ rfl).elim
def ark{a:TypeId}{u:TypeDesc}(g:P.underlying a=some u)(b: ∀ms,u≠ .interface ms){z:AV}(o:yr P a=some z){x v:AV}{l:Value}{j:Bool}(f:an G x l)(h:AN z x a j=some v)(n:TypeId)(w:World):
  ∃v',(Instr.typeAssert l n a j).run P w= .ok v' w/\an G v v':=by
 obtain⟨d,e,_,rz⟩:=PK o G w;unfold AN at h;split at h
 ·simp only[an]at f;subst f;split at h
  ·rename_i c;subst c;cases h;refine⟨.tuple #[d,.bool false],?_,⟨_,rfl,⟨d,_,rfl,rz,⟨_,_,rfl,by simp[an],by simp[aD]⟩⟩⟩⟩;cases u<;>first|exact absurd rfl (b _)|simp[Instr.typeAssert,abg g,e]
  ·cases h
 ·rename_i p y;simp only[an]at f;obtain⟨i,rfl,m⟩:=f;split at h
  ·rename_i k;subst k;cases h;cases j with
   |true=>
    refine⟨.tuple #[i,.bool true],?_,⟨_,rfl,⟨i,_,rfl,m,⟨_,_,rfl,by simp[an],by simp[aD]⟩⟩⟩⟩;cases u<;>first|exact absurd rfl (b _)|simp[Instr.typeAssert,abg g]
   |false=>
    refine⟨i,?_,m⟩;cases u<;>first|exact absurd rfl (b _)|simp[Instr.typeAssert,abg g]
  ·rename_i k;split at h
   ·rename_i c;subst c;cases h;refine⟨.tuple #[d,.bool false],?_,⟨_,rfl,⟨d,_,rfl,rz,⟨_,_,rfl,by simp[an],by simp[aD]⟩⟩⟩⟩;cases u<;>first|exact absurd rfl (b _)|simp[Instr.typeAssert,abg g,e,k]
   ·cases h
 ·cases h
def arl{u:TypeDesc}(a:P.underlying t=some u)(b: ∀ms,u≠ .interface ms)(x:Value)(w:World): (Instr.makeInterface t x).run P w= .ok (.iface t x) w:=by
 cases u<;>first|grind|simp[Instr.makeInterface,run_underlying a]
def arn{x v:AV}{d:Value}(c:an G x d)(h:wG x=some v):v=x/\ ((∃a,d= .pointer (some a))\/ (∃f a b,d= .func (.func f) a b)\/ ∃f a b,d= .func (.yield f) a b):=by
 unfold wG at h;split at h
 all_goals(try cases h)
 ·simp only[an]at c;grind
 ·simp only[an]at c;grind
 ·simp only[an]at c;grind
 ·simp only[an]at c;grind
 ·simp only[an,nb]at c;grind
 ·simp only[an,nb]at c;grind
theorem fI.length: ∀ {es:List (AV×AV)} {ms:List MapEntry},fI G es ms->ms.length=es.length
 | [],ms,r=>by simp only[fI]at r;grind
 | (k,v)::es,ms,r=>by
   obtain⟨m,q,rfl,_,_,_,h⟩:=r;simp[fI.length h]
def PO(f:aV P B av G E w){ty:TypeId}{u:TypeDesc}{k:EK}(c:P.underlying t=some u)(b:kindOk k u){x v:AV}{d:Value}(a:an G x d)(h:ft E k x=some v):
  ∃v',(Builtin.len_ #[t] ty #[d]).run P w= .ok v' w/\an G v v':=by
 unfold ft at h;split at h
 ·cases h;simp only[an]at a;subst a;simp only[kindOk]at b;subst b;exact k7 (by simp[Builtin.len_,abg c,goInt])
 ·cases h;simp only[an]at a;subst a;obtain⟨e,rfl⟩:=b;exact k7 (by simp[Builtin.len_,abg c,goInt])
 ·cases h;simp only[an]at a;obtain⟨_,_,_,_,_,rfl,_⟩:=a;obtain⟨e,rfl⟩:=b;exact k7 (by simp[Builtin.len_,abg c,goInt])
 ·cases h;simp only[an]at a;obtain⟨_,_,_,_,rfl,_⟩:=a;obtain⟨e,rfl⟩:=b;exact k7 (by simp[Builtin.len_,abg c,goInt])
 ·cases h;simp only[an]at a;obtain⟨_,_,_,rfl,_⟩:=a;obtain⟨e,rfl⟩:=b;exact k7 (by simp[Builtin.len_,abg c,goInt])
 ·cases h;simp only[an]at a;subst a;obtain⟨_,e,rfl⟩:=b;exact k7 (by simp[Builtin.len_,abg c,goInt])
 ·rename_i id;split at h
  ·rename_i es he;cases h;obtain⟨j,ms,clock,i,hm⟩:=f.obj id _ he a.Iq;simp only[an]at a;obtain⟨_,r,rfl,hr⟩:=a;obtain⟨_,e,rfl⟩:=b;rw[hr j];have g:ms.size=es.length:=by rw[<-anc];exact hm.length
   exact k7 (by simp[Builtin.len_,abg c,goInt,getObj,Sem.run,i,g])
  ·cases h
 ·exact b.elim
 ·exact b.elim
 ·exact b.elim
 ·cases h
def aro{ty:TypeId}(b:P.underlying t=some (.slice e)){x v:AV}{d:Value}(a:an G x d)(h:ft E .cap x=some v)(w:World):
  ∃v',(Builtin.cap_ #[t] ty #[d]).run P w= .ok v' w/\an G v v':=by
 unfold ft at h;split at h<;>first|grind|skip
 all_goals simp_all
 ·cases h;subst a;exact k7 (by simp[Builtin.cap_,abg b,goInt])
 ·cases h;simp only[an]at a;obtain⟨_,_,cap,_,_,rfl,_,c,_⟩:=a;rw[<-c trivial];exact k7 (by simp[Builtin.cap_,abg b,goInt])
 ·cases h;simp only[an]at a;obtain⟨_,_,_,cap,rfl,_,c,_⟩:=a;rw[<-c trivial];exact k7 (by simp[Builtin.cap_,abg b,goInt])
theorem PQ{f:AV->AV->Option AV}{g:Value->Value->Sem Value}(m: ∀a b c a' o,f a b=some c->an G a a'->an G b o-> ∃n,(∀w,(g a' o).run P w= .ok n w)/\an G c n):
  ∀ (xs:List AV) (x:AV) (v:AV) (j:Value) (d:List Value),gg f (x::xs)=some v->an G x j->aD G xs d-> ∀w,∃v',(d.foldlM g j).run P w= .ok v' w/\an G v v'
 | [],x,v,j,d,h,l,i,w=>by
   subst i;unfold gg at h;simp_all
 |y::ys,x,v,j,d,h,l,i,w=>by
  obtain⟨s,k,rfl,r,i⟩:=i;unfold gg at h;split at h
  ·rename_i z q;obtain⟨p,e,rz⟩:=m _ _ _ _ _ q l r;obtain⟨v',t,rv⟩:=PQ m ys z v p k h rz i w;simp_all
  grind
def arp{j:Array TypeId}{xs:List AV}{v:AV}{d:Array Value}(g:aD G xs d.toList)(h:gg qO xs=some v)(w:World):
  ∃v',(Builtin.max_ j t d).run P w= .ok v' w/\an G v v':=by
 cases xs with
 |nil=>simp[gg]at h
 |cons x xs=>
  obtain⟨i,r,e,k,g⟩:=g;simp only[Builtin.max_,e];refine PQ (λa b c a' n f m l=>?_) xs x v i r h k g w;unfold qO at f;split at f
  ·cases f;subst m l;exact⟨_,λw=>by rfl,by rfl⟩
  grind
def arq{j:Array TypeId}{xs:List AV}{v:AV}{d:Array Value}(g:aD G xs d.toList)(h:gg wE xs=some v)(w:World):
  ∃v',(Builtin.min_ j t d).run P w= .ok v' w/\an G v v':=by
 cases xs with
 |nil=>simp[gg]at h
 |cons x xs=>
  obtain⟨i,r,e,k,g⟩:=g;simp only[Builtin.min_,e];refine PQ (λa b c a' n f m l=>?_) xs x v i r h k g w;unfold wE at f;split at f
  ·cases f;subst m l;exact⟨_,λw=>by rfl,by rfl⟩
  grind
end
section
variable{P:Program}{X:Ctx}{B:Nat}{av:World}
variable{G:Gh}{E:AS}{w:World}
def aD.aH{cs vs:List AV}{b:List Value}{off:Nat}(a:aD G cs c.toList)(d:aD G vs b)(h:off+vs.length<=cs.length):
  aD G (aH cs off vs) (k6 c off b).toList:=by
 have e:=d.length;have f:=a.length;rw[anc]at f;rw[Is _ _ _ (by omega)];rw[e];exact(a.take off).append (d.append (a.drop _))
def Leaves.aH{a:List Value}{off:Nat}(b:Leaves c.toList)(d:Leaves a)(h:off+a.length<=c.size):Leaves (k6 c off a).toList:=by
 rw[Is _ _ _ h];exact(b.take off).append (d.append (b.drop _))
theorem aaq(off:Nat): ∀ (l:List Value) (k:Nat) (c:Array Value),(l.zipIdx k).foldl (λcs (p:Value×Nat)=>cs.setIfInBounds (off+p.2) p.1) c=k6 c (off+k) l
 | [],_,_=>rfl
 |v::l,k,c=>by
  simp only[List.zipIdx_cons,aAK,k6];rw[aaq off l (k+1)];rfl
theorem Iz{nt:Nat}{e:Env}{a:Act}(v:cK G nt e a.tmps){b D6:Nat->Option (Nat×Nat)}(u: ∀i p,b i=some p->D6 i=some p):
  ∀ (ps:List (Nat×Operand)) (l:List (Nat×Nat×ao)) (cs d:List AV) (c:Array Value),parts b ps=some l->eo cs (l.map λp=>(p.1,p.2.1,p.2.2.get e))=some d->aD G cs c.toList->Leaves c.toList->
  ∃j,Instr.fill D6 c (ps.map λp=>(p.1,a.eval p.2))=some j/\aD G d j.toList/\Leaves j.toList
 | [],l,cs,d,c,h,g,k,q=>by
   simp only[parts,aaQ]at h;subst h;simp only[awu,eo,aaQ]at g;subst g;exact⟨c,by rfl,k,q⟩
 | (i,x)::ps,l,cs,d,c,h,g,k,q=>by
   simp only[parts]at h;split at h
   ·rename_i off n y z F D C;cases h;simp only[ape,eo]at g;split at g
    ·rename_i A;obtain⟨t1,t2,t3⟩:=A;have hr:=cD v D;obtain⟨t,m⟩:=hr.cells t1;have f:=t.length;rw[anc]at f;have s:=k.length;rw[anc]at s;obtain⟨j,H,r,o⟩:=Iz v u ps z _ d (k6 c off (a.eval x).cells.toList) C g (k.aH t (by omega)) (q.aH m (by rw[anc];omega));refine⟨j,?_,r,o⟩;simp only[ape,Instr.fill,u i _ F];rw[aaH (by simp only[ne_eq,arJ,alb];omega)];rw[<-H]
     congr 1
     rw[<-Array.foldl_toList,Array.toList_zipIdx];exact aaq off _ 0 c
    grind
   grind
def ars{b:Array Field}{z:List AV}(O:P.underlying t=some (.struct b))(M:gL P t=some z)(L:b.toList.all (λf=>(cy P f.type).isSome)=true)
   {e:Env}  (K:cK G nt e a.tmps) {o:Array (Nat×Operand)} {l:List (Nat×Nat×ao)}
  (H:parts (λi=>match b[i]? with|some f=>(cy P f.type).map λn=>(f.offset,n)|none=>none) o.toList=some l) {cs:List AV} (J:eo z (l.map λp=>(p.1,p.2.1,p.2.2.get e))=some cs) (w:World):
  ∃v',(Instr.build t (o.map λ (i,x)=>(i,a.eval x))).run P w= .ok v' w/\an G (.agg cs) v':=by
 obtain⟨m,_,D,lz,q,_⟩:=sI M G w;obtain⟨it,I,C⟩: ∃it,P.info? t=some it/\it.zero=some m:=by
  unfold zeroV at D;cases d:P.info? t with
  |none=>grind
  |some i=>grind
 have hm: ∀ (fs:List Field),fs.all (λf=>(cy P f.type).isSome)=true-> ∃places,fs.mapM (λf=>(P.info? f.type).map λi=>(f.offset,i.size))=some places/\ ∀ (i:Nat) (f:Field),fs[i]?=some f-> ∃n,cy P f.type=some n/\places[i]?=some (f.offset,n):=by
  intro fs
  induction fs with
  |nil=>simp
  |cons f fs y=>
   intro c;simp only[auK,ajI]at c;obtain⟨places,e1,N⟩:=y c.2;cases d:P.info? f.type with
   |none=>simp[cy,d]at c
   |some i=>
    refine⟨(f.offset,i.size)::places,by simp[aBs,d,e1],λj g s=>?_⟩;cases j with
    |zero=>simp at s;subst s;exact⟨i.size,by simp[cy,d],by simp⟩
    |succ j=>simpa using N j g (by simpa using s)
 obtain⟨places,F,k⟩:=hm _ L;have A:m.cells.toList=m.cells.toList:=rfl;obtain⟨u,Q,r,v⟩:=Iz (D6:=(places.toArray[·]?)) K (λi p d=>by
  cases h:b[i]? with
  |none=>simp[h]at d
  |some f=>
   obtain⟨n,s1,s2⟩:=k i f (by simpa using h);simp[h,s1]at d;subst d;simpa using s2) o.toList l z cs m.cells H J lz q
 refine⟨.agg u,?_,⟨u,rfl,r,v⟩⟩;refine run_build w t _ u ?_;unfold Program.built;simp_all
def art{b:TypeId}{z:List AV}(F:P.underlying t=some (.array n b))(D:gL P t=some z)(C:cy P b=some sz)
   {e:Env}  (A:cK G nt e a.tmps) {c:Array (Nat×Operand)} {l:List (Nat×Nat×ao)}
  (s:parts (λi=>some (i*sz,sz)) c.toList=some l) {cs:List AV} (y:eo z (l.map λp=>(p.1,p.2.1,p.2.2.get e))=some cs) (w:World):
  ∃v',(Instr.build t (c.map λ (i,x)=>(i,a.eval x))).run P w= .ok v' w/\an G (.agg cs) v':=by
 obtain⟨h,_,o,lz,d,_⟩:=sI D G w;obtain⟨it,u,m⟩: ∃it,P.info? t=some it/\it.zero=some h:=by
  unfold zeroV at o;cases j:P.info? t with
  |none=>grind
  |some i=>grind
 obtain⟨f,v,q⟩: ∃f,P.info? b=some f/\f.size=sz:=by
  unfold cy at C;simp_all
 obtain⟨g,H,r,k⟩:=Iz (D6:=λi=>some (i*sz,sz)) A (λi p j=>j) c.toList l z cs h.cells s y lz d;refine⟨.agg g,?_,⟨g,rfl,r,k⟩⟩;refine run_build w t _ g ?_;unfold Program.built;simp_all
def PR{af:List (List AV)}(h:af.all (λel=>el.length==sz)=true): ∀el∈af,el.length=sz:=by grind
def aru(r:aV P B av G E w){x:AV}{q:Value}{af:List (List AV)}(g:an G x q)(h:elems E sz x=some af):
  (af=[]/\q= .slice none 0 0)\/
  ∃a cap vs,q= .slice (some a) af.length cap/\ (∀el∈af,el.length=sz)/\br G af vs/\Leaves vs/\ (vs=[]\/ ∃b o,a=⟨b,o,none⟩/\ ∀j u,vs[j]?=some u->w.cell? ⟨b,o+j,none⟩=some u):=by
 unfold elems at h;split at h
 ·simp only[an]at g;grind
 ·rename_i k cH;split at h
  ·rename_i hu;cases h;simp only[an]at g;obtain⟨b,o,cap,s,vs,e,_,_,_,L,m,n⟩:=g;exact .inr ⟨_,cap,vs,e,PR hu,n,m,.inr ⟨b,o,rfl,λj u d=>r.bt _ _ _ (L j u d)⟩⟩
  grind
 ·rename_i id aj f off len cH;split at h
  ·rename_i v l ty k he;split at h
   ·rename_i z;obtain⟨F,J,M,N⟩:=z;subst F J M;cases h;obtain⟨g1,g2,I,c,pre,vs,post,A,y,H,_,n,m⟩:=r.obj id _ he g.PB;simp only[an]at g;obtain⟨_,_,a,cap,e,p,_,K⟩:=g;obtain⟨_,C,_⟩:=K g1;have i: ((k.drop off).take len).length=len:=by simp;omega
    refine .inr ⟨a,cap,(vs.drop (off*f)).take (len*f),by rw[i];exact e,λel t=>I el (aqw (ajY t)),n.slice I,(m.drop _).take _,?_⟩;by_cases D:len=0
    ·left;simp[D]
    ·right
     refine⟨_,_,C (by omega),λj u d=>?_⟩;refine D1 A _ u ?_;rw[apX]at d;split at d
     ·rw[anb]at d;rw[y,ajE (by omega),aaF (by have:=(aaG.1 d).1;omega)];rw[<-d];congr 1;omega
     ·cases d
   ·cases h
  ·cases h
 ·rename_i id l off len;split at h
  ·rename_i cs tg he;split at h
   ·rename_i z;obtain⟨F,J⟩:=z;subst F;cases h;obtain⟨g1,_,c,ty,A,n,m,_⟩:=AX r he g.aqL;simp only[an]at g;obtain⟨_,a,cap,e,p,C⟩:=g;have hle:len*l<=(cs.drop off).length:=by simp;omega
    refine .inr ⟨a,cap,(c.toList.drop off).take (len*l),by rw[PJ];exact e,D3 hle,?_,(m.drop _).take _,?_⟩
    ·rw[br.iff,chunks_flatten hle];exact(n.drop _).take _
    ·by_cases D:len=0
     ·left;simp[D]
     ·right
      refine⟨_,_,C g1 (by omega),λj u d=>?_⟩;refine D1 A _ u ?_;rw[apX]at d;split at d
      ·rwa[anb]at d
      ·cases d
   ·cases h
  ·cases h
 grind
theorem pE{sz:Nat}: ∀ {af:List (List AV)},(∀el∈af,el.length=sz)->af.flatten.length=af.length*sz
 | [],_=>by simp
 |x::xs,h=>by
  have a:=pE (af:=xs) λy b=>h y (by grind)
  grind
def br.len{af:List (List AV)}(h:br G af vs)(a: ∀el∈af,el.length=sz):vs.length=af.length*sz:=by
 rw[(br.iff.1 h).length,pE a]
def aar(p:aV P B av G E w){x:AV}{e:Value}{af:List (List AV)}(m:an G x e)(h:elems E sz x=some af):
  ∃vs,br G af vs/\Leaves vs/\ (∀el∈af,el.length=sz)/\vs.length=af.length*sz/\ (∃a cap,e= .slice a af.length cap/\ (a=none->af=[]))/\
   ∀w',w'.heap=w.heap-> ∀n,n<=af.length->(Builtin.firstCells sz n e).run P w'= .ok (vs.take (n*sz)).toArray w':=by
 rcases aru p m h with⟨rfl,rfl⟩| ⟨a,cap,vs,rfl,hu,g,l,k⟩
 ·refine⟨[],by rfl,λu hu=>by grind,by simp,by simp,⟨none,0,rfl,λ_=>rfl⟩,λw' c n f=>?_⟩;simp[Builtin.firstCells]
 ·refine⟨vs,g,l,hu,g.len hu,⟨some a,cap,rfl,λh=>by cases h⟩,λw' c n f=>?_⟩;have d:=g.len hu;rcases k with rfl| ⟨b,o,rfl,k⟩
  ·simp only[Builtin.firstCells];have:n*sz=0:=by
    have q:af.length*sz=0:=by grind
    have:=anI sz f;omega
   rw[this];simp[loadCells,loadCellsFrom]
  ·simp only[Builtin.firstCells];have hle:n*sz<=af.length*sz:=anI _ f;exact run_loadCells (vs.take (n*sz)) (by grind) (λj u i=>by
    rw[apX]at i;split at i
    ·have:=k _ _ i;simp only[World.cell?,c]at this⊢;exact this
    grind)
theorem arv: ∀ {af:List (List AV)} {vs:List Value} {l:lB},br G af vs->wD af=some l-> ∃a:List Int,vs=a.map (Value.int .u8)/\l=a.map λn=>UInt8.ofNat n.toNat
 | [],vs,l,h,e=>by
   subst h;simp only[wD,aaQ]at e;simp_all
 |x::xs,vs,l,h,e=>by
  obtain⟨v,r,rfl,c,b⟩:=h;unfold wD at e;split at e
  ·grind
  ·rename_i n d heq;cases heq;cases hr:wD xs with
   |none=>grind
   |some f=>
    simp[hr]at e;subst e;obtain⟨a,rfl,rfl⟩:=arv b hr;obtain⟨v',q,rfl,rfl,rfl⟩:=c;exact⟨n::a,rfl,rfl⟩
  grind
theorem foldl_push: ∀ (a:List Int) (s:ByteArray),a.foldl (λr n=>r.push (UInt8.ofNat n.toNat)) s=⟨s.data++(a.map λn=>UInt8.ofNat n.toNat).toArray⟩
 | [],s=>by simp
 |n::a,s=>by
  rw[aAK,foldl_push a];simp_all
end
section
variable{P:Program}{X:Ctx}{B:Nat}{av:World}
variable{G:Gh}{E:AS}{w:World}
def mB(P:Program)(B:Nat)(av:World)(G:Gh)(E:AS)(v:AV)(b:AS)(r:Result Value):Prop:=
 ∃a w' v',r= .ok v' w'/\G.le a/\aV P B av a b w'/\an a v v'/\E.Ext b
def A0(P:Program)(B:Nat)(av:World)(G:Gh)(E:AS)(b:AS)(r:Result Unit):Prop:=
 ∃a w',r= .ok () w'/\G.le a/\aV P B av a b w'/\E.Ext b
theorem uY: ∀ {a b:List AV},aG (a++b)=max (aG a) (aG b)
 | [],b=>by rfl
 |x::a,b=>by simp only[ajW,aG,uY (a:=a)];omega
theorem wH: ∀ {af:List (List AV)},b9 af=aG af.flatten
 | []=>by rfl
 |x::xs=>by simp only[b9,aqy,uY,wH (af:=xs)]
def aas{a:List AV}:aG (a.take n)<=aG a:=by grind [uY,List.take_append_drop]
def aat{a:List AV}:aG (a.drop n)<=aG a:=by
 have h:=uY (a:=a.take n) (b:=a.drop n);rw[aqr]at h;omega
def aau{cs vs:List AV}{off:Nat}:aG (aH cs off vs)<=max (aG cs) (aG vs):=by
 unfold aH;have c:=aas (a:=cs) (n:=off);have b:=aat (a:=cs) (n:=off+vs.length);rw[uY,uY];omega
def aav{v:AV}:aG v.cells=v.refs:=by
 cases v<;>simp[AV.cells,aG,AV.refs]
def PT{cs vs:List AV}{off:Nat}(h:off+vs.length<=cs.length): (aH cs off vs).length=cs.length:=by
 unfold aH;grind
def aaw(a:aV P B av G E w){cs:List AV}(ty:TypeId)(e:aD G cs c.toList)(d:Leaves c.toList)(tg:Option TypeId)(b: ∀t,tg=some t->ty=t):
  mB P B av G E (.ptr E.heap.length 0) (E.push (.box cs tg)) (.ok (.pointer (some ⟨w.heap.size,0,none⟩)) (w.alloc (.cells c ty))):=by
 have hle:=G.AW w.heap.size 0 0;refine⟨G.push w.heap.size 0 0,_,_,rfl,hle,a.push _ _ 0 0 ?_,?_,.push E _⟩
 ·refine⟨by simp[Gh.push],c,ty,?_,e.mono hle,d,b⟩;have: (G.push w.heap.size 0 0).ba G.n=w.heap.size:=by simp[Gh.push]
  rw[this];exact arZ _ _
 ·refine⟨Gh.D0 a,_,rfl,λ_=>?_⟩;simp[Gh.push,a.len]
def PU{z:List AV}{a:TypeId}(h:sF z t=some a):t=a:=by
 unfold sF at h
 grind
def arw{z:Option (List AV)}{a:TypeId}(h: (z.bind λz=>sF z t)=some a):t=a:=by
 cases z with
 |none=>cases h
 |some z=>exact PU h
def arx(d:aV P B av G E w){z:List AV}(c:gL P t=some z):
  mB P B av G E (.ptr E.heap.length 0) (E.push (.box z (sF z t))) ((Instr.alloc t true (.tuple #[])).run P w):=by
 obtain⟨a,e,_,l,b,_⟩:=sI c G w;have: (Instr.alloc t true (.tuple #[])).run P w= .ok (.pointer (some ⟨w.heap.size,0,none⟩)) (w.alloc (.cells a.cells t)):=by
  simp[Instr.alloc,e,newVar,newRow]
 rw[this];exact aaw d t l b _ (λf h=>PU h)
def ary(f:aV P B av G E w){x:AV}{b:Value}{tg:Option TypeId}(a: ∀c,tg=some c->t=c)(e:an G x b)(g:x.cn=false):
  mB P B av G E (.ptr E.heap.length 0) (E.push (.box x.cells tg)) ((Instr.box t b).run P w):=by
 obtain⟨l,d⟩:=e.cells g;exact aaw f t l d tg a
def IA(g:aV P B av G E w){af:List (List AV)}{post:List Value}{cap:Nat}(ty:TypeId)(l:c.toList=vs++post)(j: ∀el∈af,el.length=sz)(k:br G af vs)(i:Leaves vs)
  (e:c.size=cap*sz) (h:af.length<=cap) (len:Nat) (a:len=af.length)  (f:w'.heap=w.heap) (d:aV P B av G E w'):
  mB P B av G E (.ref E.heap.length 0 sz 0 len false) (E.push (.row 0 sz ty af)) (.ok (.slice (some ⟨w.heap.size,0,none⟩) len cap) (w'.alloc (.cells c ty))):=by
 subst a;rw[<-f];have b:=G.AW w'.heap.size (cap*sz) sz;refine⟨G.push w'.heap.size (cap*sz) sz,_,_,rfl,b,d.push _ _ _ _ ?_,?_,.push E _⟩
 ·have e1: (G.push w'.heap.size (cap*sz) sz).ba G.n=w'.heap.size:=by simp[Gh.push]
  refine⟨by simp[Gh.push],by simp[Gh.push],j,c,[],vs,post,?_,by grind,by simp[Gh.push],?_,k.mono b,i⟩
  ·rw[e1];exact arZ _ _
  ·simp[Gh.push,e]
 ·refine⟨Gh.D0 d,by simp,_,cap,rfl,⟨h,rfl⟩,by simp,λ_=>⟨by simp[Gh.push,g.len],λ_=>by simp[Gh.push,g.len],by simp[Gh.push,g.len]⟩⟩
def arz(a:aV P B av G E w)(t:TypeId):mB P B av G E (.mp E.heap.length) (E.push (.map [])) ((Instr.makeMap t none).run P w):=by
 have hle:=G.AW w.heap.size 0 0;refine⟨G.push w.heap.size 0 0,_,_,rfl,hle,a.push _ _ 0 0 ?_,?_,.push E _⟩
 ·refine⟨by simp[Gh.push],#[],0,?_,by rfl⟩;have: (G.push w.heap.size 0 0).ba G.n=w.heap.size:=by simp[Gh.push]
  rw[this];exact arZ _ _
 ·exact⟨Gh.D0 a,_,rfl,λ_=>by simp[Gh.push,a.len]⟩
def aV.put(b:aV P B av G E w){id:Nat}(a:G.on id){o':ae}(refs:Nat)(ho:ir P G id (eJ w (G.ba id) O) o'):aV P B av G (E.set id o' refs) (eJ w (G.ba id) O):=
 b.set a o' refs G.le_refl rfl rfl (λ_ _ _=>rfl) (.inl rfl) (by rw[aqQ];exact(b.low id a).2) (λk c _=>Z7 c) (by simp) rfl rfl rfl ho
def PV(f:aV P B av G E w){id:Nat}{cs as:List AV}{tg:Option TypeId}(k:E.heap[id]?=some (.box cs tg))(l:G.pz id=none){a:List Value}{off:Nat}(j:aD G as a)(i:Leaves a)(h:off+as.length<=cs.length){refs:Nat}(s:aG as<=refs):
  A0 P B av G E (E.set id (.box (aH cs off as) tg) refs) ((storeCells ⟨G.ba id,off,none⟩ a).run P w):=by
 obtain⟨r,d,c,ty,q,b,e,g⟩:=AX f k l;have p:=b.length;rw[anc]at p;have hu:=j.length;refine⟨G,_,?_,G.le_refl,f.put d refs (O:=.cells (k6 c off a) ty (0,0)) ?_,.set k λn o m=>?_⟩
 ·have:=PD (P:=P) a c w off 0 q (by omega) i;omega
 ·exact⟨r,_,ty,uV (f.low id d).2,b.aH j h,e.aH i (by omega),g⟩
 ·simp only[ae.le]at o⊢;have:=aau (cs:=cs) (vs:=as) (off:=off);omega
def aax(f:aV P B av G E w){id:Nat}{ty:TypeId}{af a:List (List AV)}{as:List AV}(s:E.heap[id]?=some (.row aj sz ty af))(m:G.pz id=none){b:List Value}{p:Nat}(q:aD G as b)(l:Leaves b)(h:p+as.length<=af.flatten.length)
  (v: ∀el∈a,el.length=sz) (r:a.flatten=aH af.flatten p as) {refs:Nat} (F:aG as<=refs):
  A0 P B av G E (E.set id (.row aj sz ty a) refs) ((storeCells ⟨G.ba id,G.base id+p,none⟩ b).run P w):=by
 obtain⟨D,i,u,c,pre,vs,post,C,A,o,hs,j,d⟩:=f.obj id _ s m;have e:G.on id:=⟨by rw[f.len];grind,m⟩;have k:=br.iff.1 j;have t:=k.length;have g:=q.length;have z:c.size=pre.length+(vs.length+post.length):=by grind [Array.length_toList]
 refine⟨G,_,?_,G.le_refl,f.put e refs (O:=.cells (k6 c (G.base id+p) b) ty (0,0)) ?_,.set s λn y x=>?_⟩
 ·have:=PD (P:=P) b c w (G.base id+p) 0 C (by omega) l;omega
 ·refine⟨D,i,v,_,pre,vs.take p++(b++vs.drop (p+b.length)),post,uV (f.low id e).2,?_,o,by simp_all,?_,(d.take p).append (l.append (d.drop _))⟩
  ·rw[Is _ _ _ (by omega),A,<-o];rw[axI,abk (by omega:pre.length<=pre.length+p),alw,auF (by omega)];rw[apd,auG,ajX (by omega:pre.length<=pre.length+(p+b.length)),alw,ajS,aDT (by omega)];simp
  ·rw[br.iff,r];unfold aH;rw[<-g];exact(k.take p).append (q.append (k.drop _))
 ·simp only[ae.le,wH]at y⊢;rw[r];have:=aau (cs:=af.flatten) (vs:=as) (off:=p);omega
def arA{af:List (List AV)}{el b:List AV}(g: ∀x∈af,x.length=sz)(e:af[i]?=some el)(off:Nat)(vs:List AV)(h:off+vs.length<=el.length)(f:b=aH el off vs):
  (af.set i b).flatten=aH af.flatten (i*sz+off) vs:=by
 subst f;have c:i<af.length:=(aaG.1 e).1;have d:af.flatten=(af.take i).flatten++(el++(af.drop (i+1)).flatten):=by grind [List.take_append_drop,List.flatten_append,List.drop_eq_getElem_cons]
 have a: (af.take i).flatten.length=i*sz:=by grind [pE,List.mem_of_mem_take,List.length_take,Nat.min_eq_left,Nat.le_of_lt]
 rw[List.set_eq_take_append_cons_drop,aaR c,apZ,aqy];rw[d];unfold aH;rw[axI,abk (by omega: (af.take i).flatten.length<=i*sz+off),a,alw,auF (by omega)];rw[apd,auG,ajX (by omega: (af.take i).flatten.length<=i*sz+(off+vs.length)),a,alw,ajS,aDT (by omega)];simp
def arB(j:aV P B av G E w)(I:cy P t=some n){x v:AV}{f:Value}{C:AS}(g:an G x f)(D:an G v v')(h:j4 E n x v=some C):
  A0 P B av G E C ((Instr.storeAt t f v').run P w):=by
 have key: ∀ (b:Addr),f= .pointer (some b)->v.cn=false->v.cells.length=n->(Instr.storeAt t f v').run P w=(storeCells b v'.cells.toList).run P w/\aD G v.cells v'.cells.toList/\Leaves v'.cells.toList:=by
  rintro b rfl F L;obtain⟨l,K⟩:=D.cells F;have M:=l.length;simp only[Instr.storeAt,Sem.run_bind,Instr.sureAddr,Sem.run_pure,Result.andThen_ok,storeVar,oi I]
  grind
 unfold j4 at h;split at h
 ·rename_i id off;split at h
  ·rename_i cs he;split at h
   ·rename_i p;obtain⟨u,s,J⟩:=p;cases h;simp only[an]at g;obtain⟨a,b,e,q⟩:=g;obtain⟨o,m,k⟩:=key b e u s;rw[o,q (AX j he a.2).1];exact PV j he a.2 m k (by omega) (by rw[aav];exact ahT _)
   grind
  grind
 ·rename_i id aj i off;split at h
  ·rename_i A sz ty af he;split at h
   ·rename_i el d;split at h
    ·rename_i p;obtain⟨c0,z,u,s,J⟩:=p;subst c0;cases h;simp only[an]at g;obtain⟨a,_,b,e,q⟩:=g;obtain⟨o,m,k⟩:=key b e u s;obtain⟨g1,g2,r,_⟩:=j.obj id _ he a.2;rw[o,q g1,g2,apd];have H:i<af.length:=(aaG.1 d).1;have hs:=arA r d off v.cells (by omega) rfl;have hle:i*sz+sz<=af.flatten.length:=by
      rw[pE r,<-asr];exact anI _ H
     exact aax j he a.2 m k (by omega) (λy c=>by
      rcases List.mem_or_eq_of_mem_set c with c|c
      ·exact r y c
      ·rw[c,PT (by omega)];exact z) hs (by rw[aav];exact ahT _)
    ·cases h
   ·cases h
  ·cases h
 grind
end
section
variable{P:Program}{X:Ctx}{B:Nat}{av:World}
variable{G:Gh}{E:AS}{w:World}
theorem IB(zc:Array Value)(b:0<zc.size): ∀ (k:Nat),(List.range (k*zc.size)).map (λi=>zc[i % zc.size]!)=(List.replicate k zc.toList).flatten
 |0=>by simp
 |k+1=>by
  have e: (k+1)*zc.size=zc.size+k*zc.size:=by grind
  rw[e,List.range_add,aiw,aDR,auj,aqy,<-IB zc b k]
  congr 1
  ·apply apn;intro j;by_cases a:j<zc.size
   ·simp[a,ap9 a]
   grind
  simp_all
theorem D7{z:List AV}{vs:List Value}(a:aD G z vs): ∀ (k:Nat),br G (List.replicate k z) (List.replicate k vs).flatten
 |0=>by rfl
 |k+1=>by
  exact⟨_,_,rfl,a,D7 a k⟩
theorem IC(h:Leaves vs)(k:Nat):Leaves (List.replicate k vs).flatten:=by
 intro v a;simp only[List.mem_flatten,List.mem_replicate]at a;obtain⟨l,⟨_,rfl⟩,a⟩:=a;exact h v a
def aay(h:yq P t=some n): ∃i,P.info? t=some i/\i.bytes=n:=by
 unfold yq at h;simp_all
def aaz(h:cy P t=some n): ∃i,P.info? t=some i/\i.size=n:=by
 unfold cy at h;simp_all
def PW{i:TypeInfo}{z:Value}(a:P.info? t=some i)(h:zeroV P t=some z):i.zero=some z:=by
 unfold zeroV at h;grind
def arC(m:aV P B av G E w){z:List AV}{bytes:Nat}(F:P.underlying t=some (.slice e))(D:gL P e=some z)(C:yq P e=some bytes)(x:0<z.length)
  {l c:AV} {k q:Value} {v:AV} {r:AS} (n:an G l k) (p:an G c q) (h:Px E e z bytes l c=some (v,r)):mB P B av G E v r ((Instr.makeSlice t k q).run P w):=by
 unfold Px at h;split at h
 ·rename_i s l u c;split at h
  ·rename_i A;obtain⟨K,J,I,H⟩:=A;cases h;simp only[an]at n p;subst n p;obtain⟨i,o,rfl⟩:=aay C;obtain⟨b,_,f,lz,d,j⟩:=sI D G w;have a:i.size=z.length:=by unfold cy at j;grind
   have g:b.cells.size=z.length:=by exact lz.length
   rw[run_make w t e i b F o (PW o f) s u l c K J (by rw[Int.mul_comm];simp only[room]at I;omega) (by simp only[room]at H;omega)];have hm: (madeCells b.cells (c.toNat*i.size)).toList=(List.replicate l.toNat b.cells.toList).flatten++(List.replicate (c.toNat-l.toNat) b.cells.toList).flatten:=by
    unfold madeCells;rw[a,<-g,Array.toList_map,Array.toList_range,IB _ (by omega)];rw[<-apZ,aCg]
    grind
   refine IA m e hm (λel y=>by grind) (D7 lz _) (IC d _) (cap:=c.toNat) ?_ (by rw[List.length_replicate];omega) l.toNat (by simp) rfl m;simp[madeCells,a]
  grind
 grind
def arD(k:aV P B av G E w){s d:TypeId}(p:P.underlying s=some .string)(o:P.underlying d=some (.slice e))(n:P.underlying e=some (.int .u8))(b:ByteArray):
  mB P B av G E (.sl (sx b) false) E ((convert s d (.string b)).run P w):=by
 rw[run_bytes_of_string w s d e b p o n];have a:b.data.toList.length=b.size:=by simp
 obtain⟨hle,c⟩:=k.drew.Z6 (bytesRow b (grownCap w b.size 0 e)) e ((bytesRow b (grownCap w b.size 0 e)).size,(bytesRow b (grownCap w b.size 0 e)).size+1) (b.data.toList.map λx=>Value.int .u8 x.toNat) (λj v h=>by
  unfold bytesRow
  grind)
 refine⟨_,_,_,rfl,hle,c,?_,.refl E⟩;have m: ∀ (G:Gh) (l:lB),br G (l.map λx=>[AV.int .u8 x.toNat]) (l.map λx=>Value.int .u8 x.toNat):=by
  intro G l
  induction l with
  |nil=>rfl
  |cons x xs i=>exact⟨[_],_,rfl,by simp[aD,an],i⟩
 refine⟨w.heap.size,0,grownCap w b.size 0 e,1,_,?_,?_,by simp,?_,?_,?_,m _ _⟩
 ·simp[sx,a]
 ·simp only[sx,ahX,a];exact aBt w b.size 0 e
 ·intro el f;simp only[sx,ais]at f
  grind
 ·intro j v h;simp only[Gh.freeze,alv];rw[aaR (show w.heap.size=w.drew.heap.size from rfl)];exact h
 ·intro v g;simp only[ais]at g;obtain⟨x,_,rfl⟩:=g;rfl
def aaA{z:List AV}{len:Nat}(q:P.underlying t=some (.slice e))(J:gL P e=some z)(A:0<z.length)(C:len*z.length<=65536)
   {f:Env}  (I:cK G nt f a.tmps) {j:Array (Nat×Operand)} {l:List (Nat×Nat×ao)}
  (F:parts (λi=>some (i*z.length,z.length)) j.toList=some l) {cs:List AV} (H:eo (List.replicate len z).flatten (l.map λp=>(p.1,p.2.1,p.2.2.get f))=some cs) (w:World):
  ∃c:Array Value,(Instr.buildSlice t len (j.map λ (i,x)=>(i,a.eval x))).run P w= .ok (.slice (some ⟨w.heap.size,0,none⟩) len len) (w.alloc (.cells c e))/\aD G cs c.toList/\Leaves c.toList:=by
 obtain⟨b,D,k,lz,u,m⟩:=sI J G w;obtain⟨i,o,d⟩:=aaz m;have y:b.cells.size=z.length:=by exact lz.length
 have hm: ((Array.range (len*i.size)).map (b.cells[· % b.cells.size]!)).toList=(List.replicate len b.cells.toList).flatten:=by grind [Array.toList_map,Array.toList_range,IB]
 obtain⟨c,K,r,v⟩:=Iz (D6:=λi=>some (i*z.length,z.length)) I (λi p h=>h) j.toList l _ cs ((Array.range (len*i.size)).map (b.cells[· % b.cells.size]!)) F H
  (by rw[hm];exact br.iff.1 (D7 lz len)) (by grind [IC])
 refine⟨c,?_,r,v⟩;have g:Instr.fill (λx=>some (x*i.size,i.size)) ((Array.range (len*i.size)).map (b.cells[· % b.cells.size]!)) (j.map λ (i,x)=>(i,a.eval x)).toList=some c:=by simp_all
 by_cases s:len*i.size=0
 ·have n:len=0:=by
    rcases Nat.mul_eq_zero.1 s with h|h
    ·exact h
    ·omega
  subst n;simp[Instr.buildSlice,abg q,sizeOf,typeInfo,o,newRow,Array.range_zero'];simp[Array.range_zero']at g;simp_all
 ·exact run_buildSlice w t e len _ c i b q o (PW o k) (by rw[d];omega) s g
def arE(n:aV P B av G E w){z:List AV}{len:Nat}(A:P.underlying t=some (.slice e))(y:gL P e=some z)(d:0<z.length)(g:len*z.length<=65536)
   {b:Env}  (s:cK G nt b a.tmps) {h:Array (Nat×Operand)} {l:List (Nat×Nat×ao)}
  (o:parts (λi=>some (i*z.length,z.length)) h.toList=some l) {cs:List AV} (q:eo (List.replicate len z).flatten (l.map λp=>(p.1,p.2.1,p.2.2.get b))=some cs) (u:cs.length=len*z.length):
  mB P B av G E (.sl (chunks z.length len cs) true) E ((Instr.buildSlice t len (h.map λ (i,x)=>(i,a.eval x))).run P w):=by
 obtain⟨c,C,r,m⟩:=aaA A y d g s o q w;rw[C];obtain⟨hle,f⟩:=n.Z6 c e (0,0) c.toList (λj v k=>by grind);refine⟨_,_,_,rfl,hle,f,?_,.refl E⟩;refine⟨w.heap.size,0,len,z.length,c.toList,by simp,by simp,λ_=>by simp,D3 (by omega),?_,m,?_⟩
 ·intro j v k;simp only[Gh.freeze,alv,ajQ];exact k
 ·rw[br.iff,chunks_flatten (by omega),abk (by omega)];exact r.mono hle
def arF(h:aV P B av G E w){z:List AV}{len:Nat}(u:P.underlying t=some (.slice e))(s:gL P e=some z)(d:0<z.length)(f:len*z.length<=65536)
   {b:Env}  (o:cK G nt b a.tmps) {g:Array (Nat×Operand)} {l:List (Nat×Nat×ao)}
  (m:parts (λi=>some (i*z.length,z.length)) g.toList=some l) {cs:List AV} (n:eo (List.replicate len z).flatten (l.map λp=>(p.1,p.2.1,p.2.2.get b))=some cs) (q:cs.length=len*z.length):
  mB P B av G E (.ref E.heap.length 0 z.length 0 len false) (E.push (.row 0 z.length e (chunks z.length len cs))) ((Instr.buildSlice t len (g.map λ (i,x)=>(i,a.eval x))).run P w):=by
 obtain⟨c,v,r,j⟩:=aaA u s d f o m n w;rw[v];have k:=r.length;refine IA h e (vs:=c.toList) (post:=[]) (by simp) (D3 (by omega)) ?_ j (cap:=len) (by grind) (by simp) len (by simp) rfl h;rw[br.iff,chunks_flatten (by omega),abk (by omega)];exact r
theorem PX: ∀ {ps:List (Nat×Nat×AV)} {cs a:List AV},eo cs ps=some a->a.length=cs.length
 | [],cs,a,h=>by simp only[eo,aaQ]at h;grind
 | (off,n,v)::ps,cs,a,h=>by
   simp only[eo]at h;split at h
   ·rw[PX h,PT (by omega)]
   grind
end
section
variable{P:Program}{X:Ctx}{B:Nat}{av:World}
variable{G:Gh}{E:AS}{w:World}
def Gh.ew(G:Gh)(id b base ed:Nat):Gh:=
 {G with ba:=λi=>if i=id then b else G.ba i,base:=λi=>if i=id then base else G.base i,aj:=λi=>if i=id then G.aj i+1 else G.aj i,ed:=λi=>if i=id then ed else G.ed i}
def Gh.aaB(G:Gh)(id b base ed:Nat):G.le (G.ew id b base ed):=by
 refine .mk' (λ_ _ _ h=>h) (ahT _) (λ_ _=>rfl) (λi _=>?_) (λi _ h=>?_)
 ·simp only[Gh.ew];grind
 ·simp only[Gh.ew]at h;split at h
  ·omega
  ·rename_i a;simp[Gh.ew,a]
structure PY(P:Program)(w:World)(sz:Nat)(xt:TypeId)(x':Value)(n:Nat)(new:List Value):Prop where
 len: (Builtin.lenOf x').run P w= .ok n w
 cells: ∀w',w'.heap=w.heap->(Builtin.firstCells sz n x').run P w'= .ok new.toArray w'
 type: (∃e,P.underlying xt=some (.slice e))\/P.underlying xt=some .string
def D8{j ty:TypeId}{i:TypeInfo}(d:P.underlying t=some (.slice e))(f:P.info? e=some i){k:Value}{c:List Value}(b:PY P w i.size j k n c)
  {base:Option Addr} {jm mC:Nat} (h:jm+n<=mC)  (l: ∀a,base=some a->(storeCells (a.add (jm*i.size)) c).run P w= .ok () w') (m:base=none->w'=w):
  (Builtin.append_ #[t,j] ty #[.slice base jm mC,k]).run P w= .ok (.slice base (jm+n) mC) w':=by
 have g:=b.cells w rfl;cases base with
 |none=>
  have:=m rfl;subst this;rcases b.type with⟨o,hu⟩|hu
  ·simp[Builtin.append_,abg d,abg hu,sizeOf,typeInfo,f,b.len,g,h]
  ·simp[Builtin.append_,abg d,abg hu,sizeOf,typeInfo,f,b.len,g,h]
 |some a=>
  have:=l a rfl;rcases b.type with⟨o,hu⟩|hu
  ·simp[Builtin.append_,abg d,abg hu,sizeOf,typeInfo,f,b.len,g,h,this]
  ·simp[Builtin.append_,abg d,abg hu,sizeOf,typeInfo,f,b.len,g,h,this]
def ID{j ty:TypeId}{i:TypeInfo}{z:Value}(m:P.underlying t=some (.slice e))(p:P.info? e=some i)(l:i.zero=some z){k:Value}{c:List Value}(g:PY P w i.size j k n c)
  {base:Option Addr} {jm mC:Nat} (h:mC<jm+n) {dL:List Value} (hold: ∀w',w'.heap=w.heap->(Builtin.firstCells i.size jm (.slice base jm mC)).run P w'= .ok dL.toArray w') (s:0<i.bytes) (b: (jm+n)*i.bytes<=room):
  (Builtin.append_ #[t,j] ty #[.slice base jm mC,k]).run P w= .ok (.slice (some ⟨w.heap.size,0,none⟩) (jm+n) (grownCap w (jm+n) mC e))
    (w.drew.alloc (.cells (dL.toArray++c.toArray++Builtin.zeroCells z.cells (grownCap w (jm+n) mC e- (jm+n))) e)):=by
 have o: ¬(jm+n<=mC):=by omega
 have q:=growslice_fits (bytes:=i.bytes) h (by simp only[room]at b;omega);have a: ¬(281474976710656<Builtin.nextslicecap (jm+n) mC*i.bytes):=by omega
 have f:i.bytes≠0:=by omega
 have r:=g.cells w.drew rfl;have d:=hold w.drew rfl;rcases g.type with⟨u,hu⟩|hu
 ·simp[Builtin.append_,abg m,abg hu,sizeOf,typeInfo,zeroValue,p,l,g.len,o,a,f,Question.forced,r,d,newRow,grownCap]
  congr 2;apply asg;simp[aaS]
 ·simp[Builtin.append_,abg m,abg hu,sizeOf,typeInfo,zeroValue,p,l,g.len,o,a,f,Question.forced,r,d,newRow,grownCap]
  congr 2;apply asg;simp[aaS]
def PZ(c:aV P B av G E w){af:List (List AV)}{z:Value}{zc:Nat}(e:TypeId)(b:z.cells.size=sz)(d: ∀el∈af,el.length=sz)(g:br G af vs)(h:Leaves vs)(a dL:Nat)(f:a=af.length):
  mB P B av G E (.ref E.heap.length 0 sz 0 a false) (E.push (.row 0 sz e af)) (.ok (.slice (some ⟨w.heap.size,0,none⟩) a (grownCap w a dL e))
   (w.drew.alloc (.cells (vs.toArray++Builtin.zeroCells z.cells (grownCap w a dL e-a)) e))):=by
 have i:=aBt w a dL e;refine IA c e (post:=(Builtin.zeroCells z.cells (grownCap w a dL e-a)).toList) (by simp) d g h (cap:=grownCap w a dL e) ?_ (by omega) a f rfl c.drew;have:=g.len d;simp only[aCl,aCf,aCj,b,this,<-f];rw[<-arX];grind
def aaC{a b:List (List AV)}{u v:List Value}(h:br G a u)(k:br G b v):br G (a++b) (u++v):=by
 rw[br.iff,apZ];exact(br.iff.1 h).append (br.iff.1 k)
def AS.Ext.ew{E:AS}{id:Nat}{ty c:TypeId}{af a:List (List AV)}{refs:Nat}(f:E.heap[id]?=some (.row aj sz ty af))(h:b9 a<=max (b9 af) refs):E.Ext (E.set id (.row b d c a) refs):=
 .set f λn e hr=>by simp only[ae.le]at e⊢;omega
def arG(l:aV P B av G E w){xt ty:TypeId}{bytes:Nat}(C:P.underlying t=some (.slice e))(h2:cy P e=some sz)(h3:yq P e=some bytes)(hz: (gL P e).isSome=true)(hb:0<bytes)
  {s v:AV} {s' x':Value} {ys:List (List AV)} {d:List Value} {E':AS} (x:an G s s') (Q:br G ys d) (lf:Leaves d) (p:PY P w sz xt x' ys.length d)
  (h:dx E e sz bytes s ys=some (v,E')):mB P B av G E v E' ((Builtin.append_ #[t,xt] ty #[s',x']).run P w):=by
 obtain⟨i,z,rfl⟩:=aay h3;have om:i.size=sz:=by unfold cy at h2;simpa[z]using h2
 subst om;obtain⟨zz,hzz⟩:=aul.1 hz;obtain⟨z',_,hzv,lz,_,V⟩:=sI hzz G w;have H:=PW z hzv;have F:z'.cells.size=i.size:=by
  have:cy P e=some i.size:=h2;rw[this]at V;rw[<-anc,lz.length];exact(alo V).symm
 unfold dx at h;split at h
 ·rename_i hc;obtain⟨aaE,uZ⟩:=hc;have hu:=PR uZ;split at h
  ·simp only[an]at x;subst x;split at h
   ·rename_i g;cases h;have U:d=[]:=by
     have:=Q.len hu;rw[g]at this;exact ak9.1 (by simpa using this)
    rw[g]at p;have:=D8 (ty:=ty) C z p (base:=none) (jm:=0) (mC:=0) (by simp) (w':=w) (by simp) (λ_=>rfl);rw[this];exact⟨G,w,_,rfl,G.le_refl,l,by simp[an],.refl E⟩
   ·rename_i g;split at h
    ·rename_i hr;cases h;rw[ID C z H p (by omega) (dL:=[]) (λw' _=>by simp[Builtin.firstCells]) hb (by simpa using hr)];have:=PZ (zc:=0) l e F hu Q lf ys.length 0 rfl;simpa using this
    ·cases h
  ·rename_i af;have r:=x;simp only[an]at x;obtain⟨b,o,cap,sz,vs,rfl,d1,d2,d3,hf,D,m⟩:=x;have K:=d2 trivial;subst K;split at h
   ·rename_i g;cases h;have U:d=[]:=by
     have:=Q.len hu;rw[g]at this;exact ak9.1 (by simpa using this)
    rw[g]at p;have:=D8 (ty:=ty) C z p (base:=some ⟨b,o,none⟩) (jm:=af.length) (mC:=af.length) (by omega) (w':=w) (λa _=>by rw[U];simp[storeCells]) (by simp);rw[this];exact⟨G,w,_,rfl,G.le_refl,l,r,.refl E⟩
   ·rename_i g;split at h
    ·rename_i hr;obtain⟨hr,T⟩:=hr;have Y:=PR T;cases h;have W:=m.len Y;rw[ID C z H p (by omega) (dL:=vs) (λw' hh=>by
      simp only[Builtin.firstCells];exact run_loadCells vs W (λj u q=>by
       have:=l.bt _ _ _ (hf j u q);simp only[World.cell?,hh]at this⊢;exact this)) hb hr]
     have:=PZ (zc:=0) (af:=af++ys) l e F (λel R=>(aha.1 R).elim (Y el) (hu el)) (aaC m Q) (D.append lf) (af.length+ys.length) af.length (by simp);simpa using this
    ·cases h
  ·rename_i af;have r:=x;simp only[an]at x;obtain⟨b,o,cap,sz,vs,rfl,d1,d2,d3,hf,D,m⟩:=x;split at h
   ·rename_i g;cases h;have U:d=[]:=by
     have:=Q.len hu;rw[g]at this;exact ak9.1 (by simpa using this)
    rw[g]at p;have:=D8 (ty:=ty) C z p (base:=some ⟨b,o,none⟩) (jm:=af.length) (mC:=cap) (by omega) (w':=w) (λa _=>by rw[U];simp[storeCells]) (by simp);rw[this];exact⟨G,w,_,rfl,G.le_refl,l,r,.refl E⟩
   ·cases h
  ·rename_i id aj aFG off len cH;have r:=x;simp only[an]at x;obtain⟨f,aFH,ad,cap,rfl,d1,d2,d3⟩:=x;split at h
   ·rename_i IE sz' ty' af he;split at h
    ·rename_i hc;obtain⟨c1,c2,c3,c4,c5,c6⟩:=hc;subst c1 c2 c3;have c4:=c4.symm;subst c4;obtain⟨g1,g2,g3,c,pre,vs,post,hb',pF,J,N,m,D⟩:=l.obj id _ he f.2;obtain⟨f1,f2,f3⟩:=d3 g1;have W:=m.len g3;have hmul:off*i.size+len*i.size<=af.length*i.size:=by rw[<-arX];exact anI _ c5
     have I:=Q.len hu;have hold: ∀w',w'.heap=w.heap->(Builtin.firstCells i.size len (.slice (some ad) len cap)).run P w'= .ok ((vs.drop (off*i.size)).take (len*i.size)).toArray w':=by
      intro w' hh;simp only[Builtin.firstCells];by_cases h0:len=0
      ·subst h0;simp[loadCells,loadCellsFrom]
      ·rw[f2 (by omega)];refine run_loadCells _ (by simp;omega) (λj u q=>?_);have S:w'.cell? ⟨G.ba id,G.base id+off*i.size+j,none⟩=c[G.base id+off*i.size+j]?:=cell_of_row w' _ _ c e (0,0) (by rw[hh];exact hb');rw[S];rw[apX]at q;split at q
       ·rw[anb]at q;have Z:=(aaG.1 q).1;have:c.toList[G.base id+off*i.size+j]?=some u:=by
         rw[pF,ajE (by omega),aaF (by omega),<-q]
         congr 1;omega
        simpa using this
       ·cases q
     have M: ∀el∈(af.drop off).take len++ys,el.length=i.size:=λel R=>(aha.1 R).elim (λh=>g3 el (aqw (ajY h))) (hu el)
     have y:br G ((af.drop off).take len++ys) ((vs.drop (off*i.size)).take (len*i.size)++d):=aaC (m.slice g3) Q;have L:Leaves ((vs.drop (off*i.size)).take (len*i.size)++d):=((D.drop _).take _).append lf;have O: ((af.drop off).take len++ys).length=len+ys.length:=by simp;omega
     split at h
     ·rename_i g;cases h;have U:d=[]:=by
       rw[g]at I;exact ak9.1 (by simpa using I)
      rw[g]at p;have:=D8 (ty:=ty) C z p (base:=some ad) (jm:=len) (mC:=cap) (by omega) (w':=w) (λa _=>by rw[U];simp[storeCells]) (by simp);rw[this];exact⟨G,w,_,rfl,G.le_refl,l,r,.refl E⟩
     ·rename_i g;split at h
      ·rename_i hcp;cases h;have K:=d2 hcp;rw[ID C z H p (by omega) hold hb c6];have:=PZ (zc:=0) l e F M y L (len+ys.length) cap O.symm;simpa using this
      ·cases h;have hrefs:b9 ((af.drop off).take len++ys)<=max (b9 af) (b9 ys):=by
        rw[wH,wH (af:=af),wH (af:=ys),apZ,uY,aae g3];have C:=aas (a:=af.flatten.drop (off*i.size)) (n:=len*i.size);have h2:=aat (a:=af.flatten) (n:=off*i.size);omega
       by_cases A:len+ys.length<=cap
       ·have had:=f2 (by omega);have hcm:len*i.size+d.length<=cap*i.size:=by rw[I,<-arX];exact anI _ A
        have u9:=PD (P:=P) d c w (G.base id+off*i.size+len*i.size) 0 hb' (by omega) lf;rw[D8 (ty:=ty) C z p (base:=some ad) A (w':=eJ w (G.ba id) (.cells (k6 c (G.base id+off*i.size+len*i.size) d) e (0,0))) (λa hae=>by
         cases hae;rw[had,jl];simpa using u9) (by simp)]
        have hle:=G.aaB id (G.ba id) (G.base id+off*i.size) (G.ed id-off*i.size);refine⟨G.ew id (G.ba id) (G.base id+off*i.size) (G.ed id-off*i.size),_,_,rfl,hle,?_,?_,.ew he hrefs⟩
        ·refine l.set f _ _ hle rfl rfl (λj _ q=>by simp[Gh.ew,q]) (.inl (by simp[Gh.ew])) (by simp[Gh.ew];exact(l.low id f).2) (λk hk _=>Z7 hk) (by simp) rfl rfl rfl ?_;refine⟨by simp[Gh.ew,g1],by simp[Gh.ew,g2],M,k6 c (G.base id+off*i.size+len*i.size) d,pre++vs.take (off*i.size),(vs.drop (off*i.size)).take (len*i.size)++d,
          (vs++post).drop (off*i.size+(len*i.size+d.length)),?_,?_,?_,?_,y.mono hle,L⟩
         ·have: (G.ew id (G.ba id) (G.base id+off*i.size) (G.ed id-off*i.size)).ba id=G.ba id:=by simp[Gh.ew]
          rw[this];exact uV (l.low id f).2
         ·rw[Is _ _ _ (by omega),pF,<-J,apd];rw[axI,abk (by omega:pre.length<=pre.length+(off*i.size+len*i.size)),alw,auF (by omega)];rw[apd pre.length,auG,ajX (by omega:pre.length<=pre.length+(off*i.size+len*i.size+d.length)),alw,ajS];rw[List.take_add];simp[apd]
         ·simp[Gh.ew,J];omega
         ·simp[Gh.ew,N];omega
        ·refine⟨f,by simp[Gh.ew,g1],ad,cap,rfl,⟨A,d1.2⟩,by simp,λ_=>⟨by simp[Gh.ew,g2],λ_=>by simp[Gh.ew,had],by simp[Gh.ew];omega⟩⟩
       ·rw[ID C z H p (by omega) hold hb c6];have hg:=aBt w (len+ys.length) cap e;have hle:=G.aaB id w.heap.size 0 (grownCap w (len+ys.length) cap e*i.size);have aFJ:=(l.low id f).2;refine⟨G.ew id w.heap.size 0 (grownCap w (len+ys.length) cap e*i.size),_,_,rfl,hle,?_,?_,.ew he hrefs⟩
        ·refine l.set f _ _ hle rfl rfl (λj _ q=>by simp[Gh.ew,q]) (.inr (by simp[Gh.ew])) (by simp[Gh.ew]) (λk hk Z=>heap_alloc_old w.drew _ k Z) (by simp) rfl rfl rfl ?_;refine⟨by simp[Gh.ew,g1],by simp[Gh.ew,g2],M,((vs.drop (off*i.size)).take (len*i.size)).toArray++d.toArray++Builtin.zeroCells z'.cells (grownCap w (len+ys.length) cap e- (len+ys.length)),[],(vs.drop (off*i.size)).take (len*i.size)++d,(Builtin.zeroCells z'.cells (grownCap w (len+ys.length) cap e- (len+ys.length))).toList,?_,?_,by simp[Gh.ew],?_,y.mono hle,L⟩
         ·have: (G.ew id w.heap.size 0 (grownCap w (len+ys.length) cap e*i.size)).ba id=w.heap.size:=by simp[Gh.ew]
          rw[this];exact arZ w.drew _
         ·simp
         ·have hvn: ((vs.drop (off*i.size)).take (len*i.size)).length=len*i.size:=by simp;omega
          simp only[aCl,aCf,aCj,F,hvn,I,Gh.ew,ajQ];rw[<-arX,<-arX,alv];congr 1;omega
        ·refine⟨f,by simp[Gh.ew,g1],_,_,rfl,⟨hg,rfl⟩,by simp,λ_=>⟨by simp[Gh.ew,g2],λ_=>by simp[Gh.ew],by simp[Gh.ew]⟩⟩
    ·cases h
   ·cases h
  ·cases h
 grind
end
section
variable{P:Program}{X:Ctx}{B:Nat}{av:World}
variable{G:Gh}{E:AS}{w:World}
def arM(i:aV P B av G E w){d ty j:TypeId}{bytes:Nat}(z:P.underlying t=some (.slice e))(c:P.underlying d=some (.slice j))(y:cy P e=some sz)(u:yq P e=some bytes)(m: (gL P e).isSome=true)(r:0<bytes)
  {s v x:AV} {g f:Value} {ys:List (List AV)} {k:AS} (p:an G s g) (o:an G x f) (n:elems E sz x=some ys) (h:dx E e sz bytes s ys=some (v,k)):
  mB P B av G E v k ((Builtin.append_ #[t,d] ty #[g,f]).run P w):=by
 obtain⟨vs,q,l,hu,b,⟨a,cap,rfl,_⟩,C⟩:=aar i o n;refine arG i z y u m r p q l ⟨by rfl,λw' A=>?_,.inl ⟨j,c⟩⟩ h
 grind
def arN(l:lB):br G (l.map λx=>[AV.int .u8 x.toNat]) (l.map λx=>Value.int .u8 x.toNat):=by
 induction l with
 |nil=>rfl
 |cons x xs a=>exact⟨[_],_,rfl,by simp[aD,an],a⟩
def aaI{a:EK}(h:AQ P t=some a): ∃u,P.underlying t=some u/\kindOk a u/\ (a= .bool\/a= .int\/a= .str):=by
 unfold AQ at h;split at h
 ·rename_i hu;cases h;exact⟨_,hu,rfl,.inl rfl⟩
 ·rename_i hu;cases h;exact⟨_,hu,⟨_,rfl⟩,.inr (.inl rfl)⟩
 ·rename_i hu;cases h;exact⟨_,hu,rfl,.inr (.inr rfl)⟩
 grind
def aaJ{a:EK}{k:AV}(h:kY a k=true):isKey k=true:=by
 cases a<;>cases k<;>simp[kY]at h<;>rfl
def IF{g:EK}{u:TypeDesc}{k d:AV}{k' a:Value}{b:Bool}(j:kY g k=true)(i:kindOk g u)(m:an G k k')(l:an G d a)(h:pC k d=some b):
  Instr.sameNow u k' a=some b/\ (b=true->Instr.sameBits 10000 a k'=true):=by
 unfold pC at h;split at h
 ·split at h
  ·rename_i e;subst e;cases h;subst m l;cases g<;>simp[kY]at j;obtain⟨q,rfl⟩:=i;refine⟨by simp[Instr.sameNow],λf=>?_⟩;have c:=eq_of_beq f;subst c;simp[Instr.sameBits]
  grind
 ·cases h;subst m l;cases g<;>simp[kY]at j;subst i;refine⟨by rfl,λf=>?_⟩;rw[beq_toListBytes]at f;have c:=eq_of_beq f;simp only[Instr.sameBits];rw[beq_toListBytes,c];simp
 ·cases h;subst m l;cases g<;>simp[kY]at j;simp only[kindOk]at i;subst i;refine⟨by rfl,λf=>?_⟩;have c:=eq_of_beq f;subst c;simp[Instr.sameBits]
 grind
theorem P0{g:EK}{u:TypeDesc}{k:AV}{k':Value}(d:kY g k=true)(c:kindOk g u)(e:an G k k'): ∀ (es:List (AV×AV)) (ms:List MapEntry) (i:Nat) (r:Option AV),fI G es ms->ea k es=some r->
  match r with
  |none=>Instr.findNow u k' ms i=some none
  |some v=> ∃j v',Instr.findNow u k' ms i=some (some (j,v'))/\an G v v'
 | [],ms,i,r,hm,h=>by
   subst hm;simp only[ea,aaQ]at h;subst h;simp[Instr.findNow]
 | (k₂,f)::es,ms,i,r,hm,h=>by
   obtain⟨m,q,rfl,_,a,b,hm⟩:=hm;simp only[ea]at h;split at h
   ·rename_i he;cases h;have:=(IF d c e a he).1;exact⟨i,m.val,by simp[Instr.findNow,this],b⟩
   ·rename_i he;have hs:=(IF d c e a he).1;have l:=P0 d c e es q (i+1) r hm h;cases r with
    |none=>simpa[Instr.findNow,hs]using l
    |some v=>simpa[Instr.findNow,hs]using l
   grind
def arO{u:TypeDesc}(h:P.underlying t=some u)(a:u= .bool\/ (∃k,u= .int k)\/u= .string)(b:Bool)(n:Nat)(v:Value)(w:World): (Instr.checkKey b (n+1) t v).run P w= .ok () w:=by
 rcases a with rfl| ⟨q,rfl⟩|rfl<;>simp[Instr.checkKey,abg h]
def P2{a:EK}{u:TypeDesc}(h:P.underlying t=some u)(d:kindOk a u)(c:a= .bool\/a= .int\/a= .str)(b:Bool)(v:Value)(w:World): (Instr.checkKey b 10000 t v).run P w= .ok () w:=by
 refine arO h ?_ b 9999 v w;rcases c with rfl|rfl|rfl
 ·exact .inl d
 ·exact .inr (.inl d)
 ·exact .inr (.inr d)
def arP(N:aV P B av G E w){X:Ctx}(Q:fz X B av){L I:TypeId}{M:EK}{z:AV}(H:P.underlying t=some (.map L I))(S:AQ P L=some M)(R:yr P I=some z){m k v:AV}{m' k':Value}{d:Bool}(s:an G m m')(O:an G k k')
  (h:gV X.fo E M z m k d=some v): ∃v',(Instr.lookup t m' k' d).run P w= .ok v' w/\an G v v':=by
 obtain⟨u,hu,n,F⟩:=aaI S;obtain⟨J,U,_,rz⟩:=PK R G w;unfold gV at h;split at h
 ·rename_i l;split at h
  ·rename_i es a;obtain⟨c,ms,D,y,f⟩: ∃ (c:List (AV×AV)) (ms:Array MapEntry),(m'= .map none/\ms= #[]\/ ∃r clock,m'= .map (some r)/\w.heap[r]?=some (.map ms clock))/\fI G c ms.toList/\ ∀k v,ea k es=some v->ea k c=some v:=by
    unfold mapOf at a;split at a
    ·cases a;simp only[an]at s;subst s;exact⟨[],#[],.inl ⟨rfl,rfl⟩,by simp[fI],λ_ _ h=>h⟩
    ·rename_i g;obtain⟨c,r,ms,clock,e1,Y,e3,W⟩:=Q.aqT N a s;exact⟨c,ms,.inr ⟨r,clock,e1,Y⟩,e3,W⟩
    ·rename_i id;split at a
     ·rename_i c he;cases a;obtain⟨T,ms,clock,A,hr⟩:=N.obj id _ he s.Iq;simp only[an]at s;obtain⟨_,r,rfl,C⟩:=s;have V:=C T;subst V;exact⟨_,ms,.inr ⟨_,clock,rfl,A⟩,hr,λ_ _ h=>h⟩
     ·cases a
    ·cases a
   have az: ∀ (r:Option (Nat×Value)) (v:Value),Instr.findNow u k' ms.toList 0=some r->(match r with|some (_,x)=>v=x|none=>(zeroValue I).run P w= .ok v w)->
     (Instr.lookup t m' k' d).run P w= .ok (if d then .tuple #[v,.bool r.isSome]else v) w:=by
    intro r v i hr;have o:=λb=>P2 hu n F b k' w
    rcases D with⟨rfl,rfl⟩| ⟨q,clock,rfl,A⟩
    ·cases r with
     |none=>simp only at hr;cases d<;>simp[Instr.lookup,abg H,o,Instr.findKey,abg hu]<;>(simp at i;simp[i,hr])
     |some p=>obtain⟨j,x⟩:=p;simp only at hr;subst hr;simp[Instr.findNow]at i
    ·cases r with
     |none=>simp only at hr;cases d<;>simp[Instr.lookup,abg H,o,Instr.findKey,abg hu,hr,getObj,Sem.run,A,i]
     |some p=>obtain⟨j,x⟩:=p;simp only at hr;subst hr;cases d<;>simp[Instr.lookup,abg H,o,Instr.findKey,abg hu,getObj,Sem.run,A,i]
   split at h
   ·rename_i K i;cases h;obtain⟨j,v',e,rv⟩:=P0 l n O c ms.toList 0 _ y (f _ _ i);refine⟨if d then .tuple #[v',.bool true]else v',?_,?_⟩
    ·exact az _ _ e rfl
    ·cases d
     ·exact rv
     ·exact⟨_,rfl,⟨_,_,rfl,rv,⟨_,_,rfl,by simp[an],by simp[aD]⟩⟩⟩
   ·rename_i i;cases h;have e:=P0 l n O c ms.toList 0 _ y (f _ _ i);refine⟨if d then .tuple #[J,.bool false]else J,?_,?_⟩
    ·exact az _ _ e U
    ·cases d
     ·exact rz
     ·exact⟨_,rfl,⟨_,_,rfl,rz,⟨_,_,rfl,by simp[an],by simp[aD]⟩⟩⟩
   grind
  grind
 grind
theorem aaK{t:EK}{u:TypeDesc}{k v:AV}{k' v':Value}(g:kY t k=true)(p:kindOk t u)(n:an G k k')(o:an G v v'): ∀ (es b:List (AV×AV)) (ms:List MapEntry) (i:Nat),fI G es ms->lT k v es=some b->
  (Instr.findNow u k' ms i=some none/\ ∀born,fI G b (ms++[{key:=k',val:=v',born}]))\/
  ∃j a m,Instr.findNow u k' ms i=some (some (i+j,a))/\ms[j]?=some m/\Instr.sameBits 10000 m.key k'=true/\fI G b (ms.modify j λe=>{e with key:=k',val:=v'})
 | [],b,ms,i,hm,h=>by
   subst hm;simp only[lT,aaQ]at h;subst h;exact .inl ⟨by rfl,λborn=>⟨_,_,rfl,aaJ g,n,o,by rfl⟩⟩
 | (k₂,s)::es,b,ms,i,hm,h=>by
   simp only[fI]at hm;obtain⟨m,q,rfl,l,c,f,hm⟩:=hm;simp only[lT]at h;split at h
   ·rename_i he;cases h;obtain⟨hs,y⟩:=IF g p n c he;refine .inr ⟨0,m.val,m,by simp[Instr.findNow,hs],rfl,y rfl,?_⟩;exact⟨_,_,rfl,aaJ g,n,o,hm⟩
   ·rename_i he;obtain⟨hs,_⟩:=IF g p n c he;cases x:lT k v es with
    |none=>grind
    |some d=>
     simp only[x,ah6,aaQ]at h;subst h;rcases aaK g p n o es d q (i+1) hm x with⟨e1,r⟩| ⟨j,a,m',e1,r,e3,z⟩
     ·refine .inl ⟨by simpa[Instr.findNow,hs]using e1,λborn=>⟨_,_,rfl,l,c,f,r born⟩⟩
     ·refine .inr ⟨j+1,a,m',?_,by simpa using r,e3,?_⟩
      ·simp only[Instr.findNow,hs];rw[e1];congr 3;omega
      ·simp only[List.modify_succ_cons];exact⟨_,_,rfl,l,c,f,z⟩
   grind
theorem aaL{k v:AV}{n:Nat}: ∀ {es a:List (AV×AV)},lT k v es=some a->(∀p∈es,p.2.refs<=n)->v.refs<=n-> ∀p∈a,p.2.refs<=n
 | [],a,h,_,f=>by
   simp only[lT,aaQ]at h;grind
 | (k₂,e)::es,a,h,c,f=>by
   simp only[lT]at h;split at h
   ·grind
   ·cases g:lT k v es with
    |none=>grind
    |some d=>
     simp only[g,ah6,aaQ]at h;subst h;intro p b;rcases ajR.1 b with rfl|b
     ·simp_all
     ·exact aaL g (λp h=>c p (by grind)) f p b
   grind
def arQ(d:aV P B av G E w){A N:TypeId}{C:EK}(H:P.underlying t=some (.map A N))(M:AQ P A=some C){m k v:AV}{m' k':Value}{I:AS}(o:an G m m')(L:an G k k')(J:an G v v')
  (h:mz E C m k v=some I):A0 P B av G E I ((Instr.mapUpdate t m' k' v').run P w):=by
 obtain⟨u,hu,b,g⟩:=aaI M;unfold mz at h;split at h
 ·rename_i i;split at h
  ·rename_i id;split at h
   ·rename_i es he;split at h
    ·rename_i l D;cases h;obtain⟨s,ms,clock,F,hr⟩:=d.obj id _ he o.Iq;have c:G.on id:=⟨by rw[d.len];grind,o.Iq⟩;simp only[an]at o;obtain⟨_,r,rfl,q⟩:=o;rw[q s];have a:E.Ext (E.set id (.map l) v.refs):=.set he λn K p=>aaL D K p
     have f:=(d.low id c).2;rcases aaK i b L J es l ms.toList 0 hr D with⟨e1,y⟩| ⟨j,z,m',e1,y,e3,O⟩
     ·refine⟨G,eJ w (G.ba id) (.map (ms.push {key:=k',val:=v',born:=clock}) (clock+1)),?_,G.le_refl,d.put c _ ⟨s,_,_,uV f,by simpa using y clock⟩,a⟩;simp[Instr.mapUpdate,abg H,getObj,setObj,Sem.run,F,P2 hu b g,Instr.findKey,abg hu,e1,eJ]
     ·rw[alv]at e1;have x:ms[j]?=some m':=by simpa using y
      refine⟨G,eJ w (G.ba id) (.map (ms.modify j λe=>{e with key:=k',val:=v'}) clock),?_,G.le_refl,d.put c _ ⟨s,_,_,uV f,by simpa using O⟩,a⟩;simp[Instr.mapUpdate,abg H,getObj,setObj,Sem.run,F,P2 hu b g,Instr.findKey,abg hu,e1,eJ,Instr.keyThatStays,x,e3]
    grind
   grind
  grind
 grind
end
section
variable{P:Program}{X:Ctx}{B:Nat}{av:World}
variable{G:Gh}{E:AS}{w:World}
def P3{a a':Addr}{b:List Value}(h:b=[]\/a=a'):storeCells a b=storeCells a' b:=by
 rcases h with rfl|rfl
 ·rfl
 ·rfl
def aaM{af:List (List AV)}:b9 (af.take n)<=b9 af:=by
 induction af generalizing n with
 |nil=>simp
 |cons x xs a=>
  cases n with
  |zero=>simp[b9]
  |succ n=>simp only[as1,b9];grind
def aaN(f:aV P B av G E w){id:Nat}{ty:TypeId}{af b:List (List AV)}(g:E.heap[id]?=some (.row aj sz ty af))(e:G.pz id=none){d:List Value}{off:Nat}(m:br G b d)(i:Leaves d)(k: ∀el∈b,el.length=sz)(h:off+b.length<=af.length)
  {refs:Nat} (l:b9 b<=refs) {a:Addr} (p:d=[]\/a=⟨G.ba id,G.base id+off*sz,none⟩):
  A0 P B av G E (E.set id (.row aj sz ty (af.take off++(b++af.drop (off+b.length)))) refs) ((storeCells a d).run P w):=by
 rw[P3 p];obtain⟨_,_,c,_⟩:=f.obj id _ g e;have n:=pE c;have j:=pE k;have hm:off*sz+b.length*sz<=af.length*sz:=by rw[<-arX];exact anI _ h
 refine aax f g e (br.iff.1 m) i (by omega) (λel o=>?_) ?_ (by rw[<-wH];exact l)
 ·grind
 ·rw[apZ,apZ,Iw c,PH c];unfold aH
  grind
def arR(r:aV P B av G E w){st ty:TypeId}(J:P.underlying t=some (.slice e))(h2:cy P e=some sz){d s v:AV}{K y:Value}{E':AS}(u:an G d K)(N:an G s y)(h:sy E sz d s=some (v,E')):
  mB P B av G E v E' ((Builtin.copy_ #[t,st] ty #[K,y]).run P w):=by
 obtain⟨i,hi,rfl⟩:=aaz h2;unfold sy at h;split at h
 ·rename_i ys q;have src: ∃vs,br G ys vs/\Leaves vs/\ (∀el∈ys,el.length=i.size)/\ (Builtin.lenOf y).run P w= .ok ys.length w/\ ∀n,n<=ys.length->(Builtin.firstCells i.size n y).run P w= .ok (vs.take (n*i.size)).toArray w:=by
   unfold DU at q;split at q
   ·rename_i b;split at q
    ·rename_i J;cases q;simp only[an]at N;subst N;refine⟨b.data.toList.map λx=>Value.int .u8 x.toNat,arN _,?_,?_,by simp[Builtin.lenOf,sx],λn Z=>?_⟩
     ·intro v Y;simp only[ais]at Y;obtain⟨x,_,rfl⟩:=Y;rfl
     ·intro el f;simp only[sx,ais]at f;obtain⟨x,_,rfl⟩:=f;rw[J];rfl
     ·rw[J];simp only[Builtin.firstCells,Sem.run_pure]
      congr 1
      apply asg;simp[]
    ·cases q
   ·obtain⟨vs,I,F,hu,H,⟨a,cap,rfl,_⟩,R⟩:=aar r N q;exact⟨vs,I,F,hu,by simp[Builtin.lenOf],λn Z=>R w rfl n Z⟩
  obtain⟨vs,I,F,hu,Q,R⟩:=src;have key: ∀ (base:Option Addr) (c m:Nat),K= .slice base c m->(Builtin.copy_ #[t,st] ty #[K,y]).run P w=
    ((match base with|some b=>storeCells b (vs.take (Nat.min ys.length c*i.size))|none=>pure ():Sem Unit).run P w).andThen λ_ w'=>.ok (goInt (Nat.min ys.length c)) w':=by
   rintro base c m rfl;have:=R (Nat.min ys.length c) (Nat.min_le_left _ _);cases base<;>simp[Builtin.copy_,abg J,Q,sizeOf,typeInfo,hi,this]
  split at h
  ·cases h;simp only[an]at u;rw[key none 0 0 u];exact⟨G,w,_,rfl,G.le_refl,r,by simp[an,goInt],.refl E⟩
  ·rename_i id aj L off len cH;split at h
   ·rename_i V M ty' af he;split at h
    ·rename_i S;obtain⟨T,c2,c3,c4⟩:=S;subst T c2 c3;cases h;simp only[an]at u;obtain⟨g,W,D,k,e1,d1,d2,d3⟩:=u;obtain⟨f1,f2,f3⟩:=d3 (r.obj id _ he g.2).1;rw[key (some D) len k e1];have O:Nat.min ys.length len<=ys.length:=Nat.min_le_left ys.length len;have C:Nat.min ys.length len<=len:=Nat.min_le_right ys.length len;have z: (ys.take (Nat.min ys.length len)).length=Nat.min ys.length len:=by rw[ajM];omega
     have p:br G (ys.take (Nat.min ys.length len)) (vs.take (Nat.min ys.length len*i.size)):=by
      have:=I.slice (l:=0) (n:=Nat.min ys.length len) hu;simpa using this
     obtain⟨U,w',hr,hle,o,j⟩:=aaN r he g.2 p (F.take _) (λel f=>hu el (ajY f)) (off:=off) (by omega) (refs:=b9 ys) aaM (a:=D) (by
      by_cases h0:len=0
      ·left;have:Nat.min ys.length len=0:=by omega
       rw[this];simp
      ·right;rw[f2 (by omega)])
     rw[hr,z]at*;exact⟨U,w',_,rfl,hle,o,by simp[an,goInt],j⟩
    ·cases h
   ·cases h
  ·rename_i id M off len;split at h
   ·rename_i cs he;split at h
    ·rename_i S;obtain⟨T,c2,c3⟩:=S;subst T;cases h;simp only[an]at u;obtain⟨g,D,k,e1,d1,d2⟩:=u;rw[key (some D) len k e1];have O:Nat.min ys.length len<=ys.length:=Nat.min_le_left ys.length len;have C:Nat.min ys.length len<=len:=Nat.min_le_right ys.length len;have z: (ys.take (Nat.min ys.length len)).flatten.length=Nat.min ys.length len*i.size:=by rw[pE λel f=>hu el (ajY f),ajM];congr 1;omega
     have p:aD G (ys.take (Nat.min ys.length len)).flatten (vs.take (Nat.min ys.length len*i.size)):=by
      rw[Iw hu];exact(br.iff.1 I).take _
     have D9:Nat.min ys.length len*i.size<=len*i.size:=anI _ C;have A:=PV r he g.2 p (F.take _) (off:=off) (by omega) (refs:=b9 ys) (by rw[<-wH];exact aaM);simp only;rw[P3 (a:=D) (a':=⟨G.ba id,off,none⟩) (by
      by_cases h0:len=0
      ·left;have:Nat.min ys.length len=0:=by omega
       rw[this];simp
      ·right;exact d2 (AX r he g.2).1 (by omega))]
     obtain⟨U,w',hr,hle,o,j⟩:=A;rw[hr];exact⟨U,w',_,rfl,hle,o,by simp[an,goInt],j⟩
    ·cases h
   ·cases h
  grind
 grind
def arS(zc:Array Value)(k:Nat): (Builtin.zeroCells zc k).toList=(List.replicate k zc.toList).flatten:=by
 unfold Builtin.zeroCells;rw[Array.toList_map,Array.toList_range];by_cases a:0<zc.size
 ·exact IB zc a k
 simp_all
def arT(l:aV P B av G E w){ty:TypeId}{z:List AV}(u:P.underlying t=some (.slice e))(O:gL P e=some z){x:AV}{p:Value}{J:AS}(j:an G x p)(h:sA E z x=some J):
  mB P B av G E .undef J ((Builtin.clear_ #[t] ty #[p]).run P w):=by
 obtain⟨C,Q,_,lz,k,_⟩:=sI O G w;have key: ∀ (a:Addr) (n c:Nat),p= .slice (some a) n c->(Builtin.clear_ #[t] ty #[p]).run P w=
   ((storeCells a (List.replicate n C.cells.toList).flatten).run P w).andThen λ_ w'=>.ok (.tuple #[]) w':=by
  rintro a n c rfl;cases n with
  |zero=>simp[Builtin.clear_,abg u,storeCells]
  |succ n=>
   have:=arS C.cells (n+1);simp only[Builtin.clear_];simp[abg u,Q,<-this]
 unfold sA at h;split at h
 ·cases h;simp only[an]at j;subst j;exact⟨G,w,.tuple #[],by simp[Builtin.clear_,abg u],G.le_refl,l,⟨_,rfl,by simp[aD]⟩,.refl E⟩
 ·rename_i id aj q off len cH;split at h
  ·rename_i D L K af he;split at h
   ·rename_i s;obtain⟨y,I,H,R,S⟩:=s;subst y I H;cases h;simp only[an]at j;obtain⟨d,F,o,f,e1,d1,d2,d3⟩:=j;obtain⟨f1,f2,f3⟩:=d3 (l.obj id _ he d.2).1;rw[key o len f e1];obtain⟨A,w',hr,hle,g,b⟩:=aaN l he d.2 (D7 lz len) (IC k len) (λel i=>by rw[aum i]) (off:=off) (by simpa using R) (refs:=0) (by
      rw[wH];have: ∀n,aG (List.replicate n z).flatten<=0:=by
       intro n
       induction n with
       |zero=>simp[aG]
       |succ n M=>simp only[auj,aqy,uY];omega
      exact this len) (a:=o) (by
     by_cases v:len=0
     ·left;rw[v];simp
     ·right;rw[f2 (by omega)])
    rw[hr];rw[List.length_replicate]at g b;exact⟨A,w',_,rfl,hle,g,⟨_,rfl,by simp[aD]⟩,b⟩
   ·cases h
  ·cases h
 ·rename_i id sz off len;split at h
  ·rename_i cs he;split at h
   ·rename_i s;obtain⟨y,I,H⟩:=s;subst y;cases h;simp only[an]at j;obtain⟨d,o,f,e1,d1,d2⟩:=j;rw[key o len f e1];have r:=D7 lz len;have N: (List.replicate len z).flatten.length=len*z.length:=by rw[pE (sz:=z.length) λel i=>by rw[aum i]];simp
    have m:=PV l he d.2 (br.iff.1 r) (IC k len) (off:=off) (by omega) (refs:=0) (by
     have: ∀n,aG (List.replicate n z).flatten<=0:=by
      intro n
      induction n with
      |zero=>simp[aG]
      |succ n M=>simp only[auj,aqy,uY];omega
     exact this len)
    rw[P3 (a:=o) (a':=⟨G.ba id,off,none⟩) (by
     by_cases v:len=0
     ·left;rw[v];simp
     ·right;exact d2 (AX l he d.2).1 (by omega))]
    obtain⟨A,w',hr,hle,g,b⟩:=m;rw[hr];exact⟨A,w',_,rfl,hle,g,⟨_,rfl,by simp[aD]⟩,b⟩
   ·cases h
  ·cases h
 grind
def aFK(d:P.cellsOf e=1)(a off n:Nat)(c:off+n<=a):liesAt P P.depth e a off e n=true:=by
 have b:P.depth=(2*(P.types.size+Made.depth)+1)+1:=rfl;rw[b];simp only[liesAt,arJ];rw[b];simp[rowAt,d,c,sameLayout,Nat.mod_one]
theorem arU{w:World}: ∀ (a:List Int) (b o:Nat) (acc:ByteArray),(∀ (j:Nat) (u:Value),(a.map (Value.int .u8))[j]?=some u->w.cell? ⟨b,o+j,none⟩=some u)->
  (loadBytes ⟨b,o,none⟩ acc a.length).run P w= .ok ⟨acc.data++(a.map λn=>UInt8.ofNat n.toNat).toArray⟩ w
 | [],b,o,acc,_=>by rfl
 |n::a,b,o,acc,h=>by
  have c:w.cell? ⟨b,o,none⟩=some (.int .u8 n):=by
   have:=h 0 (.int .u8 n) rfl;omega
  have d:=arU a b (o+1) (acc.push n.toNat.toUInt8) (λj u e=>by
   have:=h (j+1) u (by grind);rw[show o+1+j=o+(j+1) by omega];omega)
  simp only[ajC,loadBytes,Sem.run_bind,run_load,c,Result.andThen_ok,jl];simp_all
def aFL(w:World)(a:Addr)(n:Nat): (w.freeze a n).heap.size=w.heap.size:=by
 unfold World.freeze;grind
def aFM{w:World}{a:Addr}(h:k≠a.block): (w.freeze a n).heap[k]?=w.heap[k]?:=by
 unfold World.freeze
 grind
def aFN(w:World)(a:Addr)(n:Nat): (w.freeze a n).os=w.os/\ (w.freeze a n).tape=w.tape/\ (w.freeze a n).output=w.output:=by
 unfold World.freeze;grind
end
section
variable{P:Program}{X:Ctx}{B:Nat}{av:World}
variable{G:Gh}{E:AS}{w:World}
def fA{s:Sem Value}{v:AV}(hw:aV P B av G E w)(h: ∃v',s.run P w= .ok v' w/\an G v v'):Good P B av G E v E ((do pure (.value (<-s)):Sem Next).run P w):=by
 obtain⟨v',e,r⟩:=h;simp only[Sem.run_bind,e,Result.andThen_ok,Sem.run_pure];exact .same hw r
def sJ{s:Sem Value}{v:AV}{b:AS}(h:mB P B av G E v b (s.run P w)):Good P B av G E v b ((do pure (.value (<-s)):Sem Next).run P w):=by
 obtain⟨i,w',v',e,g,f,d,c⟩:=h;simp only[Sem.run_bind,e,Result.andThen_ok,Sem.run_pure];exact⟨i,w',v',.inl rfl,g,f,d,c⟩
def aaO{s:Sem Unit}{b:AS}(h:A0 P B av G E b (s.run P w)):Good P B av G E .undef b ((do s;pure .skip:Sem Next).run P w):=by
 obtain⟨g,w',e,f,d,c⟩:=h;simp only[Sem.run_bind,e,Result.andThen_ok,Sem.run_pure];exact⟨g,w',undef,.inr ⟨rfl,rfl⟩,f,d,⟨#[],rfl,by rfl⟩,c⟩
def ee{E b:AS}{o:Option AV}{v:AV}(h:fO E o=some (.ok v b)):o=some v/\b=E:=by
 cases o with
 |none=>trivial
 |some a=>simp[fO]at h;grind
def yA{e:Env}(he:cK G nt e a.tmps){x:Option Operand}{y:Option ao}(h:uS x=some y):lY G (y.map (·.get e)) (x.map a.eval):=by
 cases x with
 |none=>simp only[uS,aaQ]at h;subst h;simp[lY]
 |some x=>
  simp only[uS]at h;cases b:bM x with
  |none=>grind
  |some z=>simp[b]at h;subst h;exact⟨_,rfl,cD he b⟩
def aaP{x:Option Operand}{y:Option ao}(h:uS x=some y):y.isNone=x.isNone:=by
 cases x with
 |none=>simp only[uS,aaQ]at h;grind
 |some x=>
  simp only[uS]at h;cases b:bM x with
  |none=>grind
  |some z=>grind
def I.plain:I->Bool
 |.call .. |.panic _=>false
 |_=>true
section
variable(hw:aV P B av G E w)(hg:fz X B av){nt:Nat}{e:Env}{a:Act}(he:cK G nt e a.tmps)(C:bA)
include hw hg he
omit hg in
theorem arV{f:TypeId}{c:Call}{i:I}(h:DX P f c=some i)(T:i.plain=true){v:AV}{Q:AS}(j:exec X C i e E=some (.ok v Q)):
  Good P B av G E v Q ((do let d<-resolve a.eval c f;invoke d.target d.args:Sem Next).run P w):=by
 obtain⟨callee,args,argTypes⟩:=c;unfold DX at h;split at h
 case h_1=>
  split at h
  ·cases h;simp[I.plain]at T
  ·cases h
 case h_2 t x l n o=>
  simp only at l n o;subst l;have q:args= #[x]:=by apply asg;simpa using o
  have p:argTypes= #[t]:=by apply asg;simpa using n
  subst q p;have g: (do let d<-resolve a.eval ⟨.builtin .len,#[x],#[t]⟩ f;invoke d.target d.args:Sem Next)=(do pure (.value (<-Builtin.len_ #[t] f ((#[x]:Array Operand).map a.eval)))):=rfl;rw[g,show(#[x]:Array Operand).map a.eval= #[a.eval x] by simp];split at h
  ·rename_i hu;cases ho:bM x with
   |none=>simp[ho]at h
   |some y=>
    simp only[ho,ah6,aaQ]at h;subst h;obtain⟨m,rfl⟩:=ee j;exact fA hw (PO (k:=.str) hw hu rfl (cD he ho) m)
  ·rename_i hu;cases ho:bM x with
   |none=>simp[ho]at h
   |some y=>
    simp only[ho,ah6,aaQ]at h;subst h;obtain⟨m,rfl⟩:=ee j;exact fA hw (PO (k:=.sl) hw hu ⟨_,rfl⟩ (cD he ho) m)
  ·rename_i hu;cases ho:bM x with
   |none=>simp[ho]at h
   |some y=>
    simp only[ho,ah6,aaQ]at h;subst h;obtain⟨m,rfl⟩:=ee j;exact fA hw (PO (k:=.map) hw hu ⟨_,_,rfl⟩ (cD he ho) m)
  ·cases h
 case h_3 st A s x l n o=>
  simp only at l n o;subst l;have q:args= #[s,x]:=by apply asg;simpa using o
  have p:argTypes= #[st,A]:=by apply asg;simpa using n
  subst q p;have g: (do let d<-resolve a.eval ⟨.builtin .append,#[s,x],#[st,A]⟩ f;invoke d.target d.args:Sem Next)=(do pure (.value (<-Builtin.append_ #[st,A] f ((#[s,x]:Array Operand).map a.eval)))):=rfl;rw[g,show(#[s,x]:Array Operand).map a.eval= #[a.eval s,a.eval x] by simp];split at h
  ·rename_i el hu;split at h
   ·rename_i sz b R W K J H F;split at h
    ·rename_i V D;split at h
     ·rename_i O;cases h;simp only[exec]at j;split at j
      ·rename_i ys S;split at j
       ·rename_i v' u L;cases j;exact sJ (arM hw hu D K J O.2 O.1 (cD he H) (cD he F) S L)
       ·cases j
      ·cases j
     ·cases h
    ·cases h
   ·cases h
  ·cases h
 case h_4 N st d s l n o=>
  simp only at l n o;subst l;have q:args= #[d,s]:=by apply asg;simpa using o
  have p:argTypes= #[N,st]:=by apply asg;simpa using n
  subst q p;have g: (do let d<-resolve a.eval ⟨.builtin .copy,#[d,s],#[N,st]⟩ f;invoke d.target d.args:Sem Next)=(do pure (.value (<-Builtin.copy_ #[N,st] f ((#[d,s]:Array Operand).map a.eval)))):=rfl;rw[g,show(#[d,s]:Array Operand).map a.eval= #[a.eval d,a.eval s] by simp];split at h
  ·rename_i el hu;split at h
   ·rename_i sz Y R m M U;cases h;simp only[exec]at j;split at j
    ·rename_i v' u r;cases j;exact sJ (arR hw hu m (cD he M) (cD he U) r)
    ·cases j
   ·cases h
  ·cases h
 case h_5 t x l n o=>
  simp only at l n o;subst l;have q:args= #[x]:=by apply asg;simpa using o
  have p:argTypes= #[t]:=by apply asg;simpa using n
  subst q p;have g: (do let d<-resolve a.eval ⟨.builtin .clear,#[x],#[t]⟩ f;invoke d.target d.args:Sem Next)=(do pure (.value (<-Builtin.clear_ #[t] f ((#[x]:Array Operand).map a.eval)))):=rfl;rw[g,show(#[x]:Array Operand).map a.eval= #[a.eval x] by simp];split at h
  ·rename_i el hu;split at h
   ·rename_i z y m M;cases h;simp only[exec]at j;split at j
    ·rename_i u r;cases j;exact sJ (arT hw hu m (cD he M) r)
    ·cases j
   ·cases h
  ·cases h
 case h_6 xs l=>
  simp only at l;subst l;have g: (do let d<-resolve a.eval ⟨.builtin .max,args,argTypes⟩ f;invoke d.target d.args:Sem Next)=(do pure (.value (<-Builtin.max_ argTypes f (args.map a.eval)))):=rfl;rw[g];split at h
  ·cases ho:og args.toList with
   |none=>simp[ho]at h
   |some ys=>
    simp only[ho,ah6,aaQ]at h;subst h;obtain⟨m,rfl⟩:=ee j;exact fA hw (arp (by simpa using yw he ho) m w)
  ·cases h
 case h_7 xs l=>
  simp only at l;subst l;have g: (do let d<-resolve a.eval ⟨.builtin .min,args,argTypes⟩ f;invoke d.target d.args:Sem Next)=(do pure (.value (<-Builtin.min_ argTypes f (args.map a.eval)))):=rfl;rw[g];split at h
  ·cases ho:og args.toList with
   |none=>simp[ho]at h
   |some ys=>
    simp only[ho,ah6,aaQ]at h;subst h;obtain⟨m,rfl⟩:=ee j;exact fA hw (arq (by simpa using yw he ho) m w)
  ·cases h
 case h_8 t x l n o=>
  simp only at l n o;subst l;have q:args= #[x]:=by apply asg;simpa using o
  have p:argTypes= #[t]:=by apply asg;simpa using n
  subst q p;have g: (do let d<-resolve a.eval ⟨.builtin .cap,#[x],#[t]⟩ f;invoke d.target d.args:Sem Next)=(do pure (.value (<-Builtin.cap_ #[t] f ((#[x]:Array Operand).map a.eval)))):=rfl;rw[g,show(#[x]:Array Operand).map a.eval= #[a.eval x] by simp];split at h
  ·rename_i hu;cases ho:bM x with
   |none=>simp[ho]at h
   |some y=>
    simp only[ho,ah6,aaQ]at h;subst h;obtain⟨m,rfl⟩:=ee j;exact fA hw (aro hu (cD he ho) m w)
  ·cases h
 case h_9=>cases h
theorem arW{rows:Bool}{o:Oper}{i:I}(h:kZ P rows o=some i)(hp:i.plain=true){v:AV}{E':AS}(A:exec X C i e E=some (.ok v E')):Good P B av G E v E' ((execOp a.eval o).run P w):=by
 unfold kZ at h;split at h
 case h_1 x d|h_2 x d=>
  simp only[d,execOp];cases ho:bM x with
  |none=>simp[ho]at h
  |some y=>
   simp only[ho,ah6,aaQ]at h;subst h;cases A;simp only[Sem.run_pure];exact .same hw (cD he ho)
 case h_3 c x y d=>
  simp only[d,execOp];split at h
  ·rename_i c' x' y' F D L;cases h;simp only[exec]at A;split at A
   ·rename_i t ht;cases A;have hr:=cD he F;rw[ht]at hr;simp only[an]at hr;simp only[Sem.run_bind,hr,asBool,Sem.run_pure,Result.andThen_ok];cases t
    ·exact .same hw (cD he L)
    ·exact .same hw (cD he D)
   ·cases A
  ·cases h
 case h_4 t d=>
  simp only[d,execOp];cases O:gL P t with
  |none=>simp[O]at h
  |some z=>
   simp only[O,ah6,aaQ]at h;subst h;cases A;exact sJ (arx hw O)
 case h_5 t x d=>
  simp only[d,execOp];cases ho:bM x with
  |none=>simp[ho]at h
  |some y=>
   simp only[ho,ah6,aaQ]at h;subst h;simp only[exec]at A;split at A
   ·cases A
   ·rename_i ht;cases A;exact sJ (ary hw (λt' h=>arw h) (cD he ho) (by simpa using ht))
 case h_6 t ps d=>
  simp only[d,execOp];split at h
  ·rename_i fields z hu O;split at h
   ·rename_i uZ;obtain⟨l,K,rfl⟩:=ah3.1 h;simp only[exec]at A;split at A
    ·rename_i cs Q;cases A;exact fA hw (ars hu O uZ he K Q w)
    ·cases A
   ·cases h
  ·rename_i n el z hu O;split at h
   ·rename_i sz hs;cases K:parts (λi=>some (i*sz,sz)) ps.toList with
    |none=>simp[K]at h
    |some l=>
     simp only[K,ah6,aaQ]at h;subst h;simp only[exec]at A;split at A
     ·rename_i cs Q;cases A;exact fA hw (art hu O hs he K Q w)
     ·cases A
   ·cases h
  ·cases h
 case h_7 t len ps d=>
  simp only[d,execOp];split at h
  ·rename_i el hu;split at h
   ·rename_i z O;split at h
    ·rename_i hc;obtain⟨hsm,hz0⟩:=hc;cases K:parts (λi=>some (i*z.length,z.length)) ps.toList with
     |none=>simp[K]at h
     |some l=>
      simp only[K,ah6,aaQ]at h;have R: ∀k,(List.replicate k z).flatten.length=k*z.length:=λk=>by
       rw[pE (sz:=z.length) λel Y=>by rw[aum Y]];simp
      cases rows with
      |true=>
       simp only[ajQ]at h;subst h;simp only[exec]at A;split at A
       ·rename_i cs Q;cases A;exact sJ (arF hw hu O hz0 hsm he K Q (by rw[PX Q,R]))
       ·cases A
      |false=>
       simp only[ah2,ak8]at h;subst h;simp only[exec]at A;split at A
       ·rename_i cs Q;cases A;exact sJ (arE hw hu O hz0 hsm he K Q (by rw[PX Q,R]))
       ·cases A
    ·cases h
   ·cases h
  ·cases h
 case h_8 t x d=>
  simp only[d,execOp];split at h
  ·rename_i b n y F D L;cases h;obtain⟨J,rfl⟩:=ee A;exact fA hw (aac hw hg F D (cD he L) J)
  ·cases h
 case h_9 t x y d=>
  simp only[d,execOp];split at h
  ·rename_i n x' y' F D L;cases h;simp only[exec]at A;split at A
   ·rename_i E'' hs;cases A;exact aaO (arB hw F (cD he D) (cD he L) hs)
   ·cases A
  ·cases h
 case h_10 x d=>
  simp only[d,execOp];cases ho:bM x with
  |none=>simp[ho]at h
  |some y=>
   simp only[ho,ah6,aaQ]at h;subst h;obtain⟨J,rfl⟩:=ee A;have hr:=cD he ho;obtain⟨rfl,hsh⟩:=arn hr J;rcases hsh with⟨b,e1⟩| ⟨f,b,c,e1⟩| ⟨f,b,c,e1⟩<;>rw[e1]at hr⊢ <;>simp only[Sem.run_pure]<;>exact .same hw hr
 case h_11 op t x y g d=>
  simp only[d,execOp];split at h
  ·rename_i x' y' F D;have N:=cD he F;have M:=cD he D;split at h
   case h_1|h_2=>
    cases h;simp only[exec]at A;split at A
    ·rename_i k p k' q e1 e2;obtain⟨J,rfl⟩:=ee A;rw[e1]at N;rw[e2]at M;simp only[an]at N M;rw[N,M];refine fA hw ?_;obtain⟨v',e3,r⟩:=ara (P:=P) (G:=G) (t:=t) (k':=k') J w;exact⟨v',by simp[eqGuard,e3],r⟩
    ·cases A
   case h_3=>
    cases U:yt P t x y with
    |none=>simp[U]at h
    |some k=>
     simp only[U,ah6,aaQ]at h;subst h;simp only[exec]at A;split at A
     ·rename_i b hb;cases A;obtain⟨e1,e2,_,_⟩:=aap U N M hb w;exact fA hw (D4 (by simp[e1,e2]))
     ·cases A
   case h_4=>
    cases U:yt P t x y with
    |none=>simp[U]at h
    |some k=>
     simp only[U,ah6,aaQ]at h;subst h;simp only[exec]at A;split at A
     ·rename_i b hb;cases A;obtain⟨_,_,e1,e2⟩:=aap U N M hb w;exact fA hw (D4 (by simp[e1,e2]))
     ·cases A
   case h_5=>
    cases h;rename_i op _ _ _ n1 n2 n3 Z _;obtain⟨J,rfl⟩:=ee A;obtain⟨v',e3,r⟩:=aaf (P:=P) (t:=t) N M J n3 Z w;have W: (eqGuard op t x y (a.eval x) (a.eval y)).run P w= .ok () w:=by
     cases op<;>first|exact absurd rfl n3|exact absurd rfl Z|simp[eqGuard]
    exact fA hw ⟨v',by simp[W,e3],r⟩
   case h_6=>
    cases h;rename_i op _ _ n3 Z _;obtain⟨J,rfl⟩:=ee A;obtain⟨v',e3,r⟩:=aaf (P:=P) (t:=t) N M J n3 Z w;have W: (eqGuard op t x y (a.eval x) (a.eval y)).run P w= .ok () w:=by
     cases op<;>first|exact absurd rfl n3|exact absurd rfl Z|simp[eqGuard]
    exact fA hw ⟨v',by simp[W,e3],r⟩
   case h_7=>cases h
  ·cases h
 case h_12 op t x d=>
  simp only[d,execOp];cases ho:bM x with
  |none=>simp[ho]at h
  |some y=>
   simp only[ho,ah6,aaQ]at h;subst h;obtain⟨J,rfl⟩:=ee A;exact fA hw (arb (cD he ho) J w)
 case h_13 src dst x d=>
  simp only[d,execOp];split at h
  ·rename_i k kd y hs hd ho;cases h;simp only[exec]at A;split at A
   ·rename_i k' n hn;cases A;have hr:=cD he ho;rw[hn]at hr;simp only[an]at hr;rw[hr];exact fA hw (k7 (arc (by simp[hs]) hd w))
   ·cases A
  ·rename_i el y hs hd ho;split at h
   ·rename_i Y;cases h;simp only[exec]at A;split at A
    ·rename_i s hn;split at A
     ·cases A;have hr:=cD he ho;rw[hn]at hr;simp only[an]at hr;rw[hr];exact sJ (arD hw hs hd Y s)
     ·cases A
    ·cases A
   ·cases h
  ·cases h
 case h_14 t x d=>
  simp only[d,execOp];split at h
  ·cases h
  ·cases h
  ·rename_i u S hu;cases ho:bM x with
   |none=>simp[ho]at h
   |some y=>
    simp only[ho,ah6,aaQ]at h;subst h;cases A;exact fA hw ⟨_,arl hu (λms e=>S ms e) _ w,⟨_,rfl,cD he ho⟩⟩
 case h_15 f first cap d=>
  simp only[d,execOp];split at h
  ·rename_i xs ys F D;split at h
   ·cases h
   ·rename_i hy;cases h;cases A;refine fA hw ⟨_,by simp only[Instr.makeFunc,Sem.run_pure];rfl,⟨f,_,_,rfl,?_,by simpa using yw he F,by simpa using yw he D⟩⟩;cases f<;>simp[Z4]at hy<;>simp[nb]
  ·cases h
 case h_16 t d=>
  simp only[d,execOp];cases h;cases A;exact sJ (arz hw t)
 case h_17 t l c d=>
  simp only[d,execOp];split at h
  ·rename_i el hu;split at h
   ·rename_i z b l' c' F D L J;split at h
    ·rename_i hc;cases h;simp only[exec]at A;split at A
     ·rename_i v' E'' hm;cases A;exact sJ (arC hw hu F D hc.1 (cD he L) (cD he J) hm)
     ·cases A
    ·cases h
   ·cases h
  ·cases h
 case h_18 t x lo hi mx d=>
  simp only[d,execOp];split at h
  ·rename_i x' ak hi' mx' F D L J;split at h
   ·rename_i hu;split at h
    ·rename_i hm;cases h;obtain⟨H,rfl⟩:=ee A;have T:mx=none:=by
      have:=aaP J;rw[hm]at this;simpa using this.symm
     subst T;exact fA hw (aq3 hu (cD he F) (yA he D) (yA he L) H w)
    ·cases h
   ·rename_i el hu;split at h
    ·rename_i hm;cases hs:cy P el with
     |none=>simp[hs]at h
     |some n=>
      simp only[hs,ah6,aaQ]at h;subst h;obtain⟨H,rfl⟩:=ee A;refine fA hw (aq7 hu hs (cD he F) (yA he D) (yA he L) (yA he J) ?_ H w);cases mx' with
      |none=>exact .inl rfl
      |some m=>
       right
       cases hi' with
       |none=>simp at hm
       |some q=>simp
    ·cases h
   ·rename_i n el hu;split at h
    ·rename_i hm;cases hs:cy P el with
     |none=>simp[hs]at h
     |some sz=>
      simp only[hs,ah6,aaQ]at h;subst h;obtain⟨H,rfl⟩:=ee A;have T:mx=none:=by
       have:=aaP J;rw[hm]at this;simpa using this.symm
      subst T;exact fA hw (aq8 hw hg hu hs (cD he F) (yA he D) (yA he L) H)
    ·cases h
   ·cases h
  ·cases h
 case h_19 s x f d=>
  simp only[d,execOp];split at h
  ·rename_i fields y hu ho;split at h
   ·rename_i g V;split at h
    ·rename_i n hn;split at h
     ·rename_i aaE;cases h;obtain⟨H,rfl⟩:=ee A;exact fA hw (aqV hw hg hu V hn aaE (cD he ho) H)
     ·cases h
    ·cases h
   ·cases h
  ·cases h
 case h_20 s x f d=>
  simp only[d,execOp];split at h
  ·rename_i fields y hu ho;split at h
   ·rename_i g V;split at h
    ·rename_i b n F D;cases h;simp only[exec]at A;split at A
     ·rename_i cs IG;obtain⟨H,rfl⟩:=ee A;have hr:=cD he ho;rw[IG]at hr;exact fA hw (aqZ hu V F D hr H w)
     ·cases A
    ·cases h
   ·cases h
  ·cases h
 case h_21 t x ix d=>
  simp only[d,execOp];split at h
  ·rename_i n el y iy hu F D;cases hs:cy P el with
   |none=>simp[hs]at h
   |some sz=>
    simp only[hs,ah6,aaQ]at h;subst h;obtain⟨H,rfl⟩:=ee A;exact fA hw (aqW hw hg hu hs (cD he F) (cD he D) H)
  ·rename_i el y iy hu F D;cases hs:cy P el with
   |none=>simp[hs]at h
   |some sz=>
    simp only[hs,ah6,aaQ]at h;subst h;obtain⟨H,rfl⟩:=ee A;exact fA hw (aqY hu hs (cD he F) (cD he D) H)
  ·cases h
 case h_22 t x ix d=>
  simp only[d,execOp];split at h
  ·rename_i n el y iy hu F D;split at h
   ·rename_i b sz L J;cases h;obtain⟨H,rfl⟩:=ee A;exact fA hw (aq0 hu L J (cD he F) (cD he D) H w)
   ·cases h
  ·rename_i y iy hu F D;cases h;obtain⟨H,rfl⟩:=ee A;exact fA hw (aq1 hu (cD he F) (cD he D) H w)
  ·cases h
 case h_23 t m k ok d=>
  simp only[d,execOp];split at h
  ·rename_i kt et hu;split at h
   ·rename_i kk z m' k' F D L J;cases h;obtain⟨H,rfl⟩:=ee A;exact fA hw (arP hw hg hu F D (cD he L) (cD he J) H)
   ·cases h
  ·cases h
 case h_24 t m k x d|h_25 t m k x d=>
  simp only[d,execOp];split at h
  ·rename_i kt et hu;split at h
   ·rename_i kk m' k' x' F D L J;cases h;simp only[exec]at A;split at A
    ·rename_i E'' hm;cases A;exact aaO (arQ hw hu F (cD he D) (cD he L) (cD he J) hm)
    ·cases A
   ·cases h
  ·cases h
 case h_26 x xt asserted ok d=>
  simp only[d,execOp];split at h
  ·cases h
  ·rename_i u y S hu ho;split at h
   ·rename_i z O;cases h;obtain⟨H,rfl⟩:=ee A;exact fA hw (ark hu (λms e=>S ms e) O (cD he ho) H xt w)
   ·cases h
  ·cases h
 case h_27 x j d=>
  simp only[d,execOp];cases ho:bM x with
  |none=>simp[ho]at h
  |some y=>
   simp only[ho,ah6,aaQ]at h;subst h;simp only[exec]at A;split at A
   ·rename_i vs hvs;obtain⟨H,rfl⟩:=ee A;have hr:=cD he ho;rw[hvs]at hr;exact fA hw (aq2 (x:=.au vs) hr H w)
   ·cases A
 case h_28 c d=>
  simp only[d,execOp];exact arV hw he C h hp A
 case h_29 x d=>
  cases ho:bM x with
  |none=>simp[ho]at h
  |some y=>simp only[ho,ah6,aaQ]at h;subst h;simp[I.plain]at hp
 case h_30=>cases h
end
end
section
variable{P:Program}{X:Ctx}{B:Nat}{av:World}
open Classical in
noncomputable def Gh.cut(G:Gh)(n:Nat)(w:World):Gh:=
 {G with n:=n,bt:=λb o=>if∃id,n<=id/\G.on id/\G.ba id=b then w.cell? ⟨b,o,none⟩else G.bt b o}
def IH{G:Gh}{E:AS}(a:aV P B av G E w){o:Nat}(h:G.bt b o=some v): (G.cut n w).bt b o=some v:=by
 simp only[Gh.cut];split
 ·rename_i d;obtain⟨id,_,c,rfl⟩:=d;rw[a.sep id c]at h;cases h
 omega
def aaT{G:Gh}{E:AS}(a:aV P B av G E w):G.dV n (G.cut n w):=
 ⟨λ_ _ _ h=>IH a h,ahT _,λ_ _=>rfl,λ_ _=>rfl,λ_ _=>rfl,λ_ _=>rfl,λ_ _=>rfl,λ_ _=>rfl⟩
def ar1{G:Gh}{id:Nat}(b:n<=id)(a:G.on id)(o:Nat): (G.cut n w).bt (G.ba id) o=w.cell? ⟨G.ba id,o,none⟩:=by
 simp only[Gh.cut];rw[aaR ⟨id,b,a,rfl⟩]
theorem aV.cut{G:Gh}{E:AS}(a:aV P B av G E w)(d:n<=G.n)(m: ∀j o,j<n->E.heap[j]?=some o->o.le n)(lo:oN):aV P B av (G.cut n w) {heap:=E.heap.take n,lo} w where
 len:=by
  have:=a.len;simp[Gh.cut];omega
 bt b o v h:=by
  simp only[Gh.cut]at h;split at h
  ·exact h
  ·exact a.bt b o v h
 obj id o h l:=by
  simp only[apX]at h;split at h
  ·rename_i f;exact ir.dV (aaT a) f rfl (a.obj id o h l) (m id o f h)
  grind
 inj i j c p e:=a.inj i j ⟨ak7 c.1 d,c.2⟩ ⟨ak7 p.1 d,p.2⟩ e
 sep i c o:=by
  have r:i<n:=c.1;have k:G.on i:=⟨ak7 c.1 d,c.2⟩;simp only[Gh.cut];rw[aaH]
  ·exact a.sep i k o
  ·rintro⟨id,y,t,e⟩;have:=a.inj id i t k e;omega
 low i c:=a.low i ⟨ak7 c.1 d,c.2⟩
 lV:=a.lV
 hB:=a.hB
 lW id o g l:=by
  have q:id<n:=g;obtain⟨x,u⟩:=a.lW id o (ak7 g d) l
  grind
 dL b o v s h:=IH a (a.dL b o v s h)
mutual
theorem aaU{G:Gh}{E:AS}{w:World}(m:aV P B av G E w){n:Nat}: ∀ (k:Nat) (v f:AV) (v':Value),freeze E n k v=some f->an G v v'->an (G.cut n w) f v'/\f.refs<=n
 |0,_,_,_,h,_=>by simp[freeze]at h
 |k+1,v,f,v',h,r=>by
  unfold freeze at h;split at h
  ·rename_i hr;cases h;exact⟨r.dV (aaT m) _ _ hr,hr⟩
  ·rename_i hr;split at h
   ·rename_i id aj sz off len cH;split at h
    ·rename_i S q ty af he;split at h
     ·rename_i W;obtain⟨c1,c2,c3⟩:=W;subst c1 c2;split at h
      ·rename_i g z;cases h;obtain⟨g1,g2,R,c,pre,vs,post,Y,Q,T,L,J,D⟩:=m.obj id _ he r.PB;have M:G.on id:=⟨by rw[m.len];exact(aaG.1 he).1,r.PB⟩;have H:n<=id:=by simp only[AV.refs]at hr;omega
       simp only[an]at r;obtain⟨_,_,a,cap,e,d1,d2,d3⟩:=r;obtain⟨f1,f2,f3⟩:=d3 g1;have K:=J.slice (l:=off) (n:=len) R;obtain⟨y,x,t⟩:=P4 m k _ g _ z K;have d:g.length=len:=by
        have:=t;rw[this.1];simp;omega
       refine⟨⟨a.block,a.off,cap,q,_,?_,by rw[d];exact d1.1,λA=>by rw[d];exact d2 A,?_,?_,(D.drop _).take _,y⟩,x⟩
       ·rw[e,d];congr 2;obtain⟨b,o,s⟩:=a;have:=d1.2;simp only at this;rw[this]
       ·exact t.2 q (λel O=>R el (aqw (ajY O)))
       ·intro j u i;have p:0<cap:=by
         by_cases Z:len=0
         ·subst Z;simp at i
         ·omega
        have F:a.off=G.base id+off*q:=by rw[f2 p]
        have I:a.block=G.ba id:=by rw[f2 p]
        rw[F,I,ar1 H M];refine D1 Y _ u ?_;have U:=J.len R;rw[apX]at i;split at i
        ·rw[anb]at i;have V:=(aaG.1 i).1;rw[Q,ajE (by omega),aaF (by omega),<-i]
         congr 1;omega
        ·cases i
      ·cases h
     ·cases h
    ·cases h
   ·rename_i cs;split at h
    ·rename_i C z;cases h;simp only[an]at r;obtain⟨vs,rfl,l,D⟩:=r;obtain⟨y,x,_⟩:=II m k cs C _ z l;exact⟨⟨vs,rfl,y,D⟩,x⟩
    ·cases h
   ·rename_i cs;split at h
    ·rename_i C z;cases h;simp only[an]at r;obtain⟨vs,rfl,l⟩:=r;obtain⟨y,x,_⟩:=II m k cs C _ z l;exact⟨⟨vs,rfl,y⟩,x⟩
    ·cases h
   ·rename_i af cH;split at h
    ·rename_i g z;cases h;simp only[an]at r;obtain⟨b,o,cap,sz,vs,rfl,d1,d2,d3,N,D,J⟩:=r;obtain⟨y,x,t⟩:=P4 m k af g _ z J;refine⟨⟨b,o,cap,sz,vs,by rw[t.1],by rw[t.1];exact d1,λA=>by rw[t.1];exact d2 A,t.2 sz d3,λj u i=>IH m (N j u i),D,y⟩,x⟩
    ·cases h
   ·cases h
theorem II{G:Gh}{E:AS}{w:World}(d:aV P B av G E w){n:Nat}: ∀ (k:Nat) (cs b:List AV) (vs:List Value),il E n k cs=some b->aD G cs vs->aD (G.cut n w) b vs/\aG b<=n/\b.length=cs.length
 |k,[],b,vs,h,r=>by
  cases k<;>simp only[il,aaQ]at h<;>subst h<;>simp only[aD]at r<;>subst r<;>simp[aD,aG]
 |0,_::_,_,_,h,_=>by simp[il]at h
 |k+1,a::as,b,vs,h,r=>by
  simp only[il]at h;split at h
  ·rename_i a' i;split at h
   ·rename_i c has;cases h;simp only[aD]at r;obtain⟨v,q,rfl,l,j⟩:=r;obtain⟨g,o⟩:=aaU d k a a' v i l;obtain⟨f,m,e⟩:=II d (k+1) as c q has j;exact⟨⟨v,q,rfl,g,f⟩,by simp only[aG];omega,by simp[e]⟩
   ·cases h
  ·cases h
theorem P4{G:Gh}{E:AS}{w:World}(e:aV P B av G E w){n:Nat}: ∀ (k:Nat) (af b:List (List AV)) (vs:List Value),sD E n k af=some b->br G af vs->
  br (G.cut n w) b vs/\b9 b<=n/\ (b.length=af.length/\ ∀sz,(∀el∈af,el.length=sz)-> ∀el∈b,el.length=sz)
 |k,[],b,vs,h,r=>by
  cases k<;>simp only[sD,aaQ]at h<;>subst h<;>simp only[br]at r<;>subst r<;>simp[br,b9]
 |0,_::_,_,_,h,_=>by simp[sD]at h
 |k+1,a::as,b,vs,h,r=>by
  simp only[sD]at h;split at h
  ·rename_i a' o;split at h
   ·rename_i d has;cases h;simp only[br]at r;obtain⟨v,q,rfl,s,p⟩:=r;obtain⟨j,u,l⟩:=II e k a a' v o s;obtain⟨i,t,g,f⟩:=P4 e (k+1) as d q has p;refine⟨⟨v,q,rfl,j,i⟩,by simp only[b9];omega,by simp[g],λsz hu el c=>?_⟩;rcases ajR.1 c with rfl|c
    ·rw[l];exact hu a (by simp)
    ·exact f sz (λx m=>hu x (by simp[m])) el c
   ·cases h
  ·cases h
end
def yB{fT:Gh}{cq:AS}{t:World}(k:aV P B av fT cq t){G:Gh}{E:AS}(f:fT.le G)(x:aV P B av G E w)(d:AS.Ext {heap:=cq.heap,lo:=none} E){v:AV}{v':Value}(D:an G v v'):
  ∃a,fT.le a/\aV P B av a (finish cq.heap.length cq.lo v E).2 w/\an a (finish cq.heap.length cq.lo v E).1 v'/\cq.Ext (finish cq.heap.length cq.lo v E).2:=by
 have oo: ∃a,fT.le a/\aV P B av a {heap:=E.heap,lo:=ga cq.lo E.lo} w/\an a v v'/\cq.Ext {heap:=E.heap,lo:=ga cq.lo E.lo}:=by
  refine⟨G,f,x.lo _,D,d.len,λj h=>?_,λj o h=>?_⟩
  ·cases E.lo with
   |none=>exact h
   |some l=>exact AU (.inl h)
  ·obtain⟨o',s,g⟩:=d.obj j o h;refine⟨o',s,g.imp id λ ⟨l,e,q⟩=>?_⟩;simp only[ga,e];exact AU (.inr q)
 have clear: (∀j,j<cq.heap.length-> ¬AT E.lo j)-> ∀c,freeze E cq.heap.length 12 v=some c->
   ∃a,fT.le a/\aV P B av a {heap:=E.heap.take cq.heap.length,lo:=cq.lo} w/\an a c v'/\cq.Ext {heap:=E.heap.take cq.heap.length,lo:=cq.lo}:=by
  intro z c C;have A:=k.len;have y: ∀j o,j<cq.heap.length->E.heap[j]?=some o->o.le cq.heap.length:=by
   intro j o r ho;have H:cq.heap[j]?=some cq.heap[j]:=abe r;obtain⟨o',s,g⟩:=d.obj j _ H;rw[ho]at s;cases s;rcases g with g|g
   ·have:=g cq.heap.length (by have:=k.aqM H;rwa[A]at this);exact this.mono (by omega)
   ·exact absurd g (z j r)
  have m:cq.heap.length<=G.n:=by rw[x.len];exact d.len
  obtain⟨I,J⟩:=aaU x 12 v c v' C D;refine⟨G.cut cq.heap.length w,?_,x.cut m y _,I,?_,λj h=>h,λj o h=>?_⟩
  ·exact{bt:=λb o u h=>IH x (f.bt b o u h),n:=by simp[Gh.cut,A],on:=λi p=>⟨by have:=p.1;simp only[Gh.cut];omega,(f.on i p).2⟩,aj:=λi p=>f.aj i p,same:=λi p e=>f.same i p e,pz:=λi p=>f.pz i p}
  ·have:=d.len;simp only at this;simp;omega
  ·have r:j<cq.heap.length:=(aaG.1 h).1;obtain⟨o',s,g⟩:=d.obj j o h;refine⟨o',by simp[r,s],.inl ?_⟩;rcases g with g|g
   ·exact g
   ·exact absurd g (z j r)
 unfold finish;cases q:E.lo with
 |none=>
  simp only[ajQ];cases C:freeze E cq.heap.length 12 v with
  |none=>simp only;rw[q]at oo;exact oo
  |some c=>exact clear (by rintro j _ ⟨l,e,_⟩;rw[q]at e;cases e) c C
 |some l=>
  rw[q]at oo;by_cases h:cq.heap.length<=l
  ·simp only[h,decide_true,ajQ];cases C:freeze E cq.heap.length 12 v with
   |none=>exact oo
   |some c=>exact clear (by rintro j r ⟨K,e,F⟩;rw[q]at e;cases e;omega) c C
  ·simp only[h,aDg,ah2,ak8];exact oo
end
section
variable{P:Program}{X:Ctx}{B:Nat}{av:World}{cY:List Deferred}
def W(r:oN):Fence:={fn:=λ_=>True,depth:=none,alive:=false,round:=r}
theorem ar2:W none=Fence.wide:=rfl
def Ea(r:oN)(n:Nat): (W r).room n:=λ_ h=>by simp[W]at h
def P5{r a:oN}{args:Array Value}{R:Ending->World->Prop}(h:CallsIn (W r) n P f args w R):CallsIn (W a) b P f args w R:=
 ⟨trivial,λcs _=>h.2 cs (Ea _ _)⟩
def ar3{r d:oN}{e:Nat}{a:Array Value}{as b:Code}{R:Ending->World->Prop}(h:RoundIn (W r) n P l f a as b w R):RoundIn (W d) e P l f a as b w R:=
 ⟨trivial,λc cs _=>h.2 c cs (Ea _ _)⟩
def Ends(P:Program)(B:Nat)(av:World)(G:Gh)(E:AS):aS->Ending->World->Prop
 |.ret v b,.returned v',w'=> ∃a,G.le a/\aV P B av a b w'/\an a v v'/\E.Ext b
 |.panic v b,.panicked chain,w'=> ∃a v',chain=[{v:=v',recovered:=false}]/\G.le a/\aV P B av a b w'/\an a v v'/\E.Ext b
 |_,_,_=>False
def Eb(P:Program)(K:Ending->World->Prop):Result Next->Prop
 |.ok (.value v) w'=>K (.returned v) w'
 |.ok (.enter f args) w'=>CallsIn (W none) 0 P f args w' K
 |.ok (.round l f tmps as bd) w'=>RoundIn (W none) 0 P l f tmps as bd w' K
 |_=>False
def wI(fv:Value)(args:Array Value):Sem Next:=do let d<-Deferred.ofValue fv args;invoke d.target d.args
def fP(P:Program)(B:Nat)(av:World)(C:bA):Prop:=
 ∀fv args E c,C fv args E=some c-> ∀G w b (a:Array Value),aV P B av G E w->an G fv b->aD G args a.toList->Eb P (Ends P B av G E c) ((wI b a).run P w)
def gi(cY:List Deferred)(G:Gh):lN->List Deferred->Prop
 | [],a=>a=cY
 |m::ms,a=> ∃d r k,a=d::r/\d.target= .collected k/\G.on m/\ (G.aj m=0->k=G.ba m)/\gi cY G ms r
theorem gi.mono{G c:Gh}(h:G.le c): ∀ {ms:lN} {b:List Deferred},gi cY G ms b->gi cY c ms b
 | [],_,r=>r
 |m::ms,_,r=>by
  simp only[gi]at*;obtain⟨d,q,k,e,i,a,g,f⟩:=r;refine⟨d,q,k,e,i,h.on _ a,λl=>?_,f.mono h⟩;have j:=h.aj _ a;rw[(h.same _ a (by omega)).1];exact g (by omega)
theorem gi.dA{G c:Gh}(h:G.sub c): ∀ {ms:lN} {b:List Deferred},gi cY G ms b->gi cY c ms b
 | [],_,r=>r
 |m::ms,_,r=>by
  simp only[gi]at*;obtain⟨d,q,k,e,i,a,g,f⟩:=r;refine⟨d,q,k,e,i,h.on _ a,λl=>?_,f.dA h⟩;have j:=h.aj _ a;rw[(h.same _ a (by omega)).1];exact g (by omega)
def fQ(G:Gh):Ex->Exit->Prop
 |.normal,.normal=>True
 |.exit i,.exit j=>i=j
 |.ret,.ret=>True
 |.panic v,.panic chain=> ∃v',chain=[{v:=v',recovered:=false}]/\an G v v'
 |_,_=>False
def mD(P:Program)(B:Nat)(av:World)(cY:List Deferred)(fT:Gh)(cq:AS)(nt:Nat)(b:Ex×Fr×AS)(e:Exit)(a:Act)(w:World):Prop:=
 ∃G,fT.le G/\aV P B av G b.2.2 w/\cK G nt b.2.1.env a.tmps/\gi cY G b.2.1.marks a.defers/\cq.Ext b.2.2/\fQ G b.1 e
theorem mD.trans{fT b:Gh}{cq c:AS}{d:Ex×Fr×AS}{e:Exit}(h:mD P B av cY b c nt d e a w)(hg:fT.le b)(f:cq.Ext c):mD P B av cY fT cq nt d e a w:=by
 obtain⟨G,m,l,k,j,i,g⟩:=h;exact⟨G,Gh.le_trans hg m,l,k,j,f.trans i,g⟩
theorem cK.set{G:Gh}{e:Env}{a:Array Value}(h:cK G nt e a)(g:d<nt){v:AV}(f:an G v v'):cK G nt (e.set d v) (a.setIfInBounds d v')where
 size:=by simp[h.size]
 get t u b:=by
  rw[ane]at b;simp only[Env.set];split at b
  ·rename_i e;subst e;split at b
   ·cases b;rw[aaR rfl];exact f
   ·cases b
  ·rename_i c;rw[aaH (λe=>c e.symm)];exact h.get t u b
 out t b:=by
  simp only[Env.set];rw[aaH (by omega)];exact h.out t b
def qS{G:Gh}{b:Fr}(h:cK G nt b.env a.tmps){dst:oN}(e: ∀d,dst=some d->d<nt){v:AV}(c:an G v v'):
  cK G nt (b.put dst v).env (a.put dst v').tmps/\ (b.put dst v).marks=b.marks/\ (a.put dst v').defers=a.defers:=by
 cases dst with
 |none=>exact⟨h,rfl,rfl⟩
 |some d=>exact⟨h.set (e d rfl) c,rfl,rfl⟩
theorem yE{G:Gh}:an G .undef undef:=⟨#[],rfl,by simp[aD]⟩
def ar4{G:Gh}{x:AV}{b:Bool}(h:an G x (.bool b)):x= .bool b:=by
 cases x<;>simp[an]at h;rw[h]
def yF{G:Gh}{e:Env}(i:cK G nt e a.tmps){d:Array Oper}{o:Oper}{g:Option (Nat×Bool)}(h:guardOf d o=some g):Region.wanted o (yielded d a.tmps)=fS e g:=by
 unfold guardOf at h;unfold Region.wanted;split at h
 ·rename_i p;cases h;simp[p,fS]
 ·rename_i j want hs;split at h
  ·rename_i t m;cases h;simp only[hs,fS,yielded,m,arL];by_cases c:t<a.tmps.size
   ·have hr:=i.get t a.tmps[t] (by simp[c]);simp only[awy c];cases k:a.tmps[t]with
    |bool b=>
     rw[k]at hr;rw[ar4 hr];simp
    |_=>
     rw[k]at hr;cases l:e t<;>rw[l]at hr<;>simp[an]at hr<;>simp
   ·have f:a.tmps.size<=t:=Nat.le_of_not_lt c;rw[i.out t (by rw[<-i.size];exact f)];have:a.tmps[t]?=none:=Array.getElem?_eq_none f;simp[this]
  ·cases h
section region
variable{C:bA}(hC:fP P B av C)(hg:fz X B av){r:oN}{n nt:Nat}
include hC hg
theorem yG{rows:Bool}{ops:Array Oper}{o:Oper}{x:aP}(h:iq P rows ops o=some x)(hd: ∀d,x.dst=some d->d<nt){G:Gh}{E:AS}{F:Fr}(hw:aV P B av G E w)(J:cK G nt F.env a.tmps)(hm:gi cY G F.marks a.defers)
  {u:Out} (m:exec X C x.i F.env E=some u) {next:Act->World->Prop} {Q:Exit->Act->World->Prop}
  (T: ∀v l,u= .ok v l-> ∀H a' w',G.le H->aV P B av H l w'->E.Ext l->cK H nt (F.put x.dst v).env a'.tmps->gi cY H (F.put x.dst v).marks a'.defers->next a' w')
  (p: ∀v l,u= .panic v l-> ∀e a' w',mD P B av cY G E nt (.panic v,F,l) e a' w'->Q e a' w'):o.wpIn (W r) n P a w next Q:=by
 refine⟨λ_ _=>trivial,?_⟩;unfold iq at h;split at h
 ·rename_i i g b iu;cases h;have R:o.semAt (W r).round a.eval=execOp a.eval o:=by
   apply Oper.semAt_eq;intro c e;simp[kZ,e]at b
  rw[R];have ax: ∀v l,u= .ok v l->Good P B av G E v l ((execOp a.eval o).run P w)->o.uponIn (W r) n P a next Q ((execOp a.eval o).run P w):=by
   intro v l e L;obtain⟨H,w',v',hr,s,N,V,U⟩:=L;obtain⟨p1,p2,p3⟩:=qS (a:=a) (J.mono s) hd V;have hn:=T v l e H (a.put o.dst v') w' s N U p1 (by rw[p2,p3];exact hm.mono s);rcases hr with hr| ⟨hr,Y⟩
   ·rw[hr];exact hn
   ·rw[hr];subst Y;exact hn
  by_cases Z:i.plain=true
  ·cases u with
   |ok v l=>exact ax v l rfl (arW hw hg J C b Z m)
   |panic v l=>
    exfalso;cases i<;>simp[I.plain]at Z<;>simp only[exec,fO]at m<;>(repeat' split at m)<;>(try cases m)
  ·cases A:o.op with
   |call c=>
    simp only[kZ,A]at b;obtain⟨callee,D,cts⟩:=c;have M: ∃f fs as,callee= .value f/\bM f=some fs/\og D.toList=some as/\i= .call fs as:=by
     unfold DX at b;split at b
     case h_1 d1 d2 d3 f hc=>
      simp only at hc;split at b
      ·rename_i f' as s N;cases b;exact⟨_,_,_,hc,s,N,rfl⟩
      ·cases b
     all_goals exfalso
     all_goals(first| (repeat' split at b)|skip)<;>(try cases b)<;>(try(simp only[ah3]at b;obtain⟨_,_,rfl⟩:=b))<;>simp[I.plain]at Z
    obtain⟨f,fs,as,rfl,hf,has,rfl⟩:=M;have z: (execOp a.eval o).run P w=(wI (a.eval f) (D.map a.eval)).run P w:=by
     unfold execOp;simp only[A];rfl
    simp only[exec]at m;have key: ∀O,C (fs.get F.env) (as.map (·.get F.env)) E=some O->Eb P (Ends P B av G E O) ((execOp a.eval o).run P w):=by
     intro O q;rw[z];exact hC _ _ _ _ q G w _ _ hw (cD J hf) (by simpa using yw J has)
    cases q:C (fs.get F.env) (as.map (·.get F.env)) E with
    |none=>simp[q]at m
    |some O=>
     have K:=key O q;have cont: ∀e k,Ends P B av G E O e k->(match e with
       |.returned v=>next (a.put o.dst v) k
       |.panicked chain=>Q (.panic chain) a k
       |.outgrown=>LetsOut Q):=by
      intro e k j;cases O with
      |ret v l=>
       simp only[q,aaQ]at m;cases e with
       |returned v'=>
        obtain⟨H,s,N,V,U⟩:=j;obtain⟨p1,p2,p3⟩:=qS (a:=a) (J.mono s) hd V;exact T v l m.symm H _ k s N U p1 (by rw[p2,p3];exact hm.mono s)
       |panicked _=>exact j.elim
       |outgrown=>exact j.elim
      |panic v l=>
       simp only[q,aaQ]at m;cases e with
       |returned _=>exact j.elim
       |panicked chain=>
        obtain⟨H,v',P6,s,N,V,U⟩:=j;exact p v l m.symm _ _ _ ⟨H,s,N,J.mono s,hm.mono s,U,v',P6,V⟩
       |outgrown=>exact j.elim
     generalize(execOp a.eval o).run P w=res at K;unfold Eb at K;split at K
     ·exact cont _ _ K
     ·exact⟨λh=>by simp[W]at h,P5 (K.mono λe k h=>by have:=cont e k h;cases e<;>exact this)⟩
     ·exact⟨λh=>by simp[W]at h,ar3 (K.mono λe k h=>by have:=cont e k h;cases e<;>exact this)⟩
     ·exact K.elim
   |panic x=>
    simp only[kZ,A]at b;cases ho:bM x with
    |none=>simp[ho]at b
    |some y=>
     simp only[ho,ah6,aaQ]at b;subst b;simp only[exec]at m;split at m
     ·rename_i t v ht;cases m;have hr:=cD J ho;rw[ht]at hr;have S:=hr;simp only[an]at hr;obtain⟨v',Y,_⟩:=hr;have z: (execOp a.eval o).run P w= .halt (.panic (.iface t v')) w:=by
       unfold execOp;simp only[A,Y];simp[Instr.panic,goPanic,Sem.run_bind,Sem.run,Result.andThen]
      rw[z];rw[Y]at S;exact p _ _ rfl _ _ _ ⟨G,G.le_refl,hw,J,hm,.refl E,_,rfl,S⟩
     ·cases m
   |_=>
    exfalso;simp only[kZ,A]at b
    repeat' split at b
    all_goals(try cases b)
    all_goals(try(simp only[ah3]at b;obtain⟨_,_,rfl⟩:=b))
    all_goals first| (simp[I.plain]at Z;done)| (simp_all;done)
 ·cases h
end region
end
section
variable{P:Program}{X:Ctx}{B:Nat}{av:World}{cY:List Deferred}
section
variable{C:bA}(hC:fP P B av C)(hg:fz X B av){r:oN}{n nt:Nat}{rows:Bool}
include hC hg
theorem P7{g:Array Oper}: ∀ (os:List Oper) (is:lN) (l:List aP),is.map (g[·]?)=os.map some->k0 P rows g os=some l->(∀x∈l,∀d,x.dst=some d->d<nt)->
  ∀ (G:Gh) (E:AS) (w:World) (fr:Fr) (a:Act) (res:Ex×Fr×AS) (Q:Exit->Act->World->Prop),aV P B av G E w->cK G nt fr.env a.tmps->gi cY G fr.marks a.defers->eN X C l fr E=some res->
  (∀e a w,mD P B av cY G E nt res e a w->Q e a w)->wpOpsIn (W r) n P g Q is a w
 | [],is,l,j,m,p,G,E,w,fr,a,res,Q,hw,he,hm,hr,t=>by
   have:is=[]:=by simpa using j
   subst this;simp only[k0,aaQ]at m;subst m;simp only[eN,aaQ]at hr;subst hr;exact t _ _ _ ⟨G,G.le_refl,hw,he,hm,.refl E,trivial⟩
 |o::os,is,l,j,m,p,G,E,w,fr,a,res,Q,hw,he,hm,hr,t=>by
  cases is with
  |nil=>simp at j
  |cons i is=>
   simp only[ape,aAL]at j;obtain⟨A,j⟩:=j;simp only[k0]at m;split at m
   ·rename_i x xs f q;cases m;simp only[wpOpsIn,A];have D:guardOf g o=some x.g:=by
     unfold iq at f;split at f
     ·rename_i F;cases f;exact F
     ·cases f
    have s:x.dst=o.dst:=by
     unfold iq at f;split at f
     ·cases f;rfl
     ·cases f
    have z:=yF he D;simp only[eN]at hr;rw[z];split at hr
    ·rename_i k;rw[aaR k];split at hr
     ·rename_i v H hex;refine yG hC hg f (p x (by simp)) hw he hm hex (λb c e R a' w' O F N M L=>?_) (λb c e=>by cases e);cases e;exact P7 os is xs j q (λy u=>p y (by simp[u])) R H w' _ a' res Q F M L hr (λe a w h=>t e a w (h.trans O N))
     ·rename_i v H hex;cases hr;exact yG hC hg f (p x (by simp)) hw he hm hex (λb c e=>by cases e) (λb c e S a' w' h=>by cases e;exact t _ _ _ h)
     ·cases hr
    ·rename_i k;rw[aaH k];refine⟨λ_ _=>trivial,?_⟩;obtain⟨K,J,I⟩:=qS (a:=a) he (p x (by simp)) (v:=.undef) (v':=undef) yE;rw[<-s];exact P7 os is xs j q (λy u=>p y (by simp[u])) G E w _ _ res Q hw K (by rw[J,I];exact hm) hr t
   ·cases m
omit hC hg in
theorem ar5(a:Array Oper): (List.range a.size).map (a[·]?)=a.toList.map some:=by
 apply apn;intro j;by_cases b:j<a.size
 ·simp[b]
 ·simp[b]
end
def yH(L:eu):Prop:= ∀body fr E res,L body fr E=some res-> ∃k,iter k body fr E=some res
def A1(P:Program)(B:Nat)(av:World)(cY:List Deferred)(r:oN)(n nt:Nat)(c:Code)(b:Fr->AS->jk):Prop:=
 ∀ (G:Gh) (E:AS) (w:World) (fr:Fr) (a:Act) (res:Ex×Fr×AS) (Q:Exit->Act->World->Prop),aV P B av G E w->cK G nt fr.env a.tmps->gi cY G fr.marks a.defers->b fr E=some res->
   (∀e a w,mD P B av cY G E nt res e a w->Q e a w)->c.wpIn (W r) n P Q a w
theorem aaV{r:oN}{n nt:Nat}{c:Code}{t:Fr->AS->jk}(h:A1 P B av cY r n nt c t): ∀ (m:Nat) (G:Gh) (E:AS) (w:World) (fr:Fr) (a:Act) (res:Ex×Fr×AS) (Q:Exit->Act->World->Prop),
  aV P B av G E w->cK G nt fr.env a.tmps->gi cY G fr.marks a.defers->iter m t fr E=some res->(∀e a w,mD P B av cY G E nt res e a w->Q e a w)->
  ∀ (b:Frame) (k:List Item) (cs:List Frame),b.roundOf=(W r).round-> ∃e a' w',Q e a' w'/\ArrivesIn (Machine.fenced P (W r)) P (lone (b.atR a (.code c:: .inLoop c::k)) cs w) b k cs e a' w'
 |0,_,_,_,_,_,_,_,_,_,_,hr,_,_,_,_,_=>by simp[iter]at hr
 |m+1,G,E,w,fr,a,res,Q,hw,he,hm,hr,O,b,k,cs,u=>by
  simp only[iter]at hr;split at hr
  ·rename_i q F S;have j:=h G E w fr a (.normal,q,F) (Exit.then (λa' w'=>mD P B av cY G E nt (.normal,q,F) .normal a' w') (λ_ _ _=>False)) hw he hm S (λe a' w' i=>by
    have v:=i;obtain⟨s,M,L,K,J,I,H⟩:=i;cases e<;>simp[fQ]at H;exact v)
   obtain⟨e,g,d,o,f⟩:=j b (.inLoop c::k) cs u trivial (Ea _ _);cases e<;>try exact o.elim
   obtain⟨s,M,L,K,J,I,H⟩:=o;obtain⟨A,D,z,y,p⟩:=aaV h m s F d q g res Q L K J hr (λe a w R=>O e a w (R.trans M I)) b k cs u;exact⟨A,D,z,y,.of_steps (StepsIn.trans f (.one (fenced_calm (n:=n) trivial (Ea _ _) rfl) stepR_inLoop)) p⟩
  ·rename_i N;have j:=h G E w fr a res (Exit.then (λ_ _=>False) Q) hw he hm hr (λe a' w' i=>by
    have o:=O e a' w' i;obtain⟨s,M,L,K,J,I,H⟩:=i;obtain⟨ex,q,F⟩:=res;cases e<;>first|exact o| (exfalso;cases ex<;>simp[fQ]at H;exact N q F hr))
   obtain⟨e,g,d,o,f⟩:=j b (.inLoop c::k) cs u trivial (Ea _ _);cases e with
   |normal=>exact o.elim
   |exit id=>exact⟨_,g,d,o,.pass (x:=.inLoop c) rfl (λ_ _=>.inl (by simp)) f⟩
   |goto l=>exact⟨_,g,d,o,.pass (x:=.inLoop c) rfl (λ_ _=>.inl (by simp)) f⟩
   |ret=>exact⟨_,g,d,o,.pass (x:=.inLoop c) rfl (λ_ _=>.inl (by simp)) f⟩
   |panic T=>exact⟨_,g,d,o,.pass (x:=.inLoop c) rfl (λ_ _=>.inl (by simp)) f⟩
   |outgrown=>exact⟨_,g,d,o,.pass (x:=.inLoop c) rfl (λ_ _=>.inl (by simp)) f⟩
def ar6{r:oN}{c:Code}{d:Fr->AS->jk}(h:A1 P B av cY r n nt c d)(m:Nat):A1 P B av cY r n nt (.loop c) (iter m d):=by
 intro G E w fr a res Q hw he hm hr o b k cs i l f;obtain⟨e,a',w',j,g⟩:=aaV h m G E w fr a res Q hw he hm hr o b k cs i;exact⟨e,a',w',j,.of_steps (.one (fenced_calm l f rfl) stepR_loop) g⟩
end
section
variable{P:Program}{X:Ctx}{B:Nat}{av:World}{cY:List Deferred}
def pG(P:Program)(X:Ctx):Prop:= ∀f pf,X.code f=some pf-> ∃rows fn,P.funcs[f]?=some fn/\DY P rows fn=some pf
def IJ{rows:Bool}{fn:Func}{pf:PF}(h:DY P rows fn=some pf): ∃c,fn.body=some c/\eO P rows fn.ntmps c=some pf.body/\pD P fn.results.toList=some pf.results/\pf.ntmps=fn.ntmps/\ (fn.name== "runtime.NumGoroutine")=false:=by
 unfold DY at h;split at h
 ·rename_i c d;split at h
  ·rename_i b rs f e;split at h
   ·rename_i a;cases h;exact⟨c,d,f,e,rfl,by simpa using a⟩
   ·cases h
  ·cases h
 ·cases h
def aaW{fn:Func}{c:Code}(d:P.funcs[f]?=some fn)(e:fn.body=some c)(b: (fn.name== "runtime.NumGoroutine")=false)(first cap args:Array Value)(w:World):
  (wI (.func (.func f) first cap) args).run P w= .ok (.enter f (first++args++cap)) w:=by
 have a: ¬fn.name= "runtime.NumGoroutine" :=by simpa using b
 simp[wI,Deferred.ofValue,invoke,callFunc,atV,d,a,e]
def ar7{r:oN}{b:PC}{g:Ex}{c:Option Code}(d:yu (some b) c)(f:AO b=some g){Q:Exit->Act->World->Prop}(h: ∀e,(∀G,fQ G g e)->Q e a w): ∃code,c=some code/\code.wpIn (W r) n P Q a w:=by
 cases b<;>simp[AO]at f<;>simp only[yu]at d<;>subst d<;>subst f
 ·exact⟨_,rfl,wpIn_exit (h _ λ_=>rfl)⟩
 ·exact⟨_,rfl,wpIn_ret (h _ λ_=>trivial)⟩
section
variable{C:bA}(hC:fP P B av C)(hg:fz X B av)(hX:pG P X){n nt:Nat}{rows:Bool}
include hC hX
theorem ar8{bS:FuncId}{g:Operand}{g':ao}{M:Array Tmp}{assign body:Code}{as bd:PC}(h1:bM g=some g')(h2:eO P rows nt assign=some as)(h3:eO P rows nt body=some bd)(h4:M.toList.all (· <nt)=true){L:eu}:
  A1 P B av cY none n nt (.rangeFunc g M assign body) (a0 X C L bS false (.ik g' M.toList as bd)):=by
 intro G E w fr a res Q hw he hm hr hQ;simp only[a0,ah2,ak8]at hr;split at hr
 ·rename_i o;have R:=cD he h1;obtain⟨f,first,cap,pf,hgv,aFP,hpf⟩: ∃f first cap pf,g'.get fr.env= .fn (.func f) first cap/\X.bZ f=none/\X.code f=some pf:=by
   unfold sB at o;split at o
   ·rename_i f first cap hv
    simp only[ajI,Option.isNone_iff_eq_none,aul]at o;obtain⟨h1,pf,h2⟩:=o;exact⟨f,first,cap,pf,hv,h1,h2⟩
   ·cases o
  obtain⟨asb,fn,hf,asc⟩:=hX f pf hpf;obtain⟨c,K,_,_,_,F⟩:=IJ asc;have asd:=R;rw[hgv]at R;simp only[an,nb]at R;obtain⟨f',d,t,A2,qT,aFQ,aFR⟩:=R;subst qT;refine wpIn_rangeFunc (λaaX _=>?_);have N:=he.size
  let x:Loop:={state:=.ready,pending:=none,fn:=aaX,tmps:=a.tmps,params:=M,assign,body,defers:=w.heap.size}
  let k:=(w.alloc (.deferred (some []))).alloc (.loop x)
  have hs1: (w.alloc (.deferred (some []))).heap.size=w.heap.size+1:=by simp
  have A3:=hw.push (.deferred (some [])) .bE 0 0 ⟨by simp[Gh.push],by
   have: (G.push w.heap.size 0 0).ba G.n=w.heap.size:=by simp[Gh.push]
   rw[this];exact arZ _ _⟩
  have s:=G.AW w.heap.size 0 0;have p:=(G.push w.heap.size 0 0).AW (w.alloc (.deferred (some []))).heap.size 0 0;have A4:=A3.push (.loop x) (.loop .ready none bS fr.env M.toList as bd) 0 0 ⟨by simp[Gh.push],x,by
   have: ((G.push w.heap.size 0 0).push (w.alloc (.deferred (some []))).heap.size 0 0).ba (G.push w.heap.size 0 0).n=(w.alloc (.deferred (some []))).heap.size:=by simp[Gh.push]
   rw[this];exact arZ _ _,rfl,rfl,trivial,by
    have:=(he.mono s).mono p;show cK _ a.tmps.size fr.env a.tmps;rw[N];exact this,rfl,by show M.toList.all (· <a.tmps.size)=true;rw[N];exact h4,rows,by show eO P rows a.tmps.size assign=_;rw[N];exact h2,by show eO P rows a.tmps.size body=_;rw[N];exact h3⟩
  have i:=hw.len;have ase: ((G.push w.heap.size 0 0).push (w.alloc (.deferred (some []))).heap.size 0 0).on E.heap.length:=p.on _ (Gh.D0 hw);have D: ((G.push w.heap.size 0 0).push (w.alloc (.deferred (some []))).heap.size 0 0).on (E.heap.length+1):=by
   have:=Gh.D0 A3 (b:=(w.alloc (.deferred (some []))).heap.size) (ed:=0) (sz:=0);have e: (E.push .bE).heap.length=E.heap.length+1:=by simp[AS.push]
   rwa[e]at this
  refine⟨w.heap.size+1,[{target:=.collected w.heap.size,args:= #[]}],k,{target:=.fn (.func f) t,args:=d++ #[.func (.yield (w.heap.size+1)) #[] #[]]},k,f,d++ #[.func (.yield (w.heap.size+1)) #[] #[]]++t,k,?_,?_,λ_ _=>trivial,?_,λh=>by simp[W]at h,?_⟩
  ·show(Instr.enterLoop aaX a.tmps M assign body none).run P w=_;simp[Instr.enterLoop,k,x]
  ·have asf:Act.eval a g= .func (.func f) d t:=A2;have hm0: (#[Operand.const (.func (.yield (w.heap.size+1)) #[] #[])]:Array Operand).map a.eval= #[.func (.yield (w.heap.size+1)) #[] #[]]:=by simp[Act.eval]
   simp only[rangeCall,resolve,hm0,asf,Deferred.ofValue,Sem.run_pure]
  ·have IK: ¬fn.name= "runtime.NumGoroutine" :=by simpa using F
   simp[invoke,callFunc,atV,hf,IK,K]
  ·have hy:an ((G.push w.heap.size 0 0).push (w.alloc (.deferred (some []))).heap.size 0 0) (.fn (.yield (E.heap.length+1)) [] []) (.func (.yield (w.heap.size+1)) #[] #[]):=by
     refine⟨_,#[],#[],rfl,⟨D,_,rfl,λ_=>by simp[Gh.push,i]⟩,by simp[aD],by simp[aD]⟩
   have y:=aaW (P:=P) hf K F d t #[.func (.yield (w.heap.size+1)) #[] #[]] k;have Y:E.Ext ((E.push .bE).push (.loop .ready none bS fr.env M.toList as bd)):=(AS.Ext.push _ _).trans (.push _ _);have main: ∀cr,C (g'.get fr.env) [.fn (.yield (E.heap.length+1)) [] []] ((E.push .bE).push (.loop .ready none bS fr.env M.toList as bd))=some cr->
     CallsIn (W none) 0 P f (d++ #[.func (.yield (w.heap.size+1)) #[] #[]]++t) k (Ends P B av ((G.push w.heap.size 0 0).push (w.alloc (.deferred (some []))).heap.size 0 0) ((E.push .bE).push (.loop .ready none bS fr.env M.toList as bd)) cr):=by
    intro cr J;have:=hC _ _ _ _ J _ k (a.eval g) #[.func (.yield (w.heap.size+1)) #[] #[]] A4 ((asd.mono s).mono p) ⟨_,_,rfl,hy,by simp[aD]⟩;rw[A2,y]at this;exact this
   have hmarks: ∀u,((G.push w.heap.size 0 0).push (w.alloc (.deferred (some []))).heap.size 0 0).le u->gi cY u (E.heap.length::fr.marks) ({target:=.collected w.heap.size,args:= #[]}::a.defers):=by
    intro u hG';refine gi.mono hG' ⟨_,_,w.heap.size,rfl,rfl,ase,λ_=>by simp[Gh.push,i],(hm.mono s).mono p⟩
   split at hr
   ·rename_i v E' J;refine P5 ((main _ J).mono λe q m=>?_);cases e with
    |panicked _=>exact m.elim
    |outgrown=>exact m.elim
    |returned v'=>
     obtain⟨u,T,q2,q3,q4⟩:=m;unfold endLoop at hr;split at hr
     ·rename_i st z ff env Ec IM iK V;split at hr
      ·cases hr
      ·rename_i u9;have H:u.on (E.heap.length+1):=T.on _ D;obtain⟨o0,L',ob,os,oj,_,oe,op,P8,asi⟩:=q2.obj _ _ V H.2;have Z:u.ba (E.heap.length+1)=w.heap.size+1:=by
        rw[(T.same (E.heap.length+1) D (by rw[o0];simp[Gh.push,i])).1];simp[Gh.push,i]
       rw[Z]at ob;have U: (Instr.endLoop (w.heap.size+1)).run P q= .ok L'.pending (eJ q (w.heap.size+1) (.loop {L' with state:=.exhausted})):=by
        have P9: ¬L'.state= .busy:=by rw[os];exact u9
        simp[Instr.endLoop,Instr.getLoop,getObj,setObj,Sem.run,ob,P9,eJ]
       have A:aV P B av u (E'.set (E.heap.length+1) (.loop .exhausted z ff env Ec IM iK) 0) (eJ q (w.heap.size+1) (.loop {L' with state:=.exhausted})):=by
        have:=q2.put H (O:=.loop {L' with state:=.exhausted}) (o':=.loop .exhausted z ff env Ec IM iK) 0 ⟨o0,{L' with state:=.exhausted},uV (q2.low _ H).2,rfl,oj,trivial,oe,op,P8,asi⟩;rw[Z]at this;exact this
       have I:E.Ext (E'.set (E.heap.length+1) (.loop .exhausted z ff env Ec IM iK) 0):=(Y.trans q4).trans (.set V λn hn _=>hn);have l:=Gh.le_trans (Gh.le_trans s p) T;generalize eJ q (w.heap.size+1) (.loop {L' with state:=.exhausted})=S at A U;refine⟨L'.pending,S,U,?_⟩;split at hr
       ·cases hr;simp only[yu]at oj;rw[oj];exact hQ _ _ _ ⟨u,l,A,he.mono l,hmarks u T,I,trivial⟩
       ·rename_i j;split at hr
        ·rename_i ex hex;cases hr;obtain⟨code,Ed,hwp⟩:=ar7 (r:=none) (n:=n) (P:=P) (Q:=Q) oj hex (a:={a with defers:=[{target:=.collected w.heap.size,args:= #[]}]++a.defers}) (w:=S)
          (λe asl=>hQ _ _ _ ⟨u,l,A,he.mono l,hmarks u T,I,asl u⟩)
         rw[Ed];exact hwp
        ·cases hr
     ·cases hr
   ·rename_i v E' J;cases hr;refine P5 ((main _ J).mono λe q m=>?_);cases e with
    |returned _=>exact m.elim
    |outgrown=>exact m.elim
    |panicked chain=>
     obtain⟨u,v',P6,T,q2,q3,q4⟩:=m;have l:=Gh.le_trans (Gh.le_trans s p) T;exact hQ _ _ _ ⟨u,l,q2,he.mono l,hmarks u T,Y.trans q4,v',P6,q3⟩
   ·cases hr
 ·cases hr
end
def A5(P:Program)(X:Ctx)(B:Nat)(av:World):Prop:=
 ∀ (cY:List Deferred) (C:bA),fP P B av C-> ∀ (rows:Bool) (r:oN) (n nt id:Nat) (ops:Array Oper) (xs:List aP) (ys:List (aP×lN)),k0 P rows ops ops.toList=some xs->(∀x∈xs,∀d,x.dst=some d->d<nt)->Pz ops xs=some ys->
   A1 P B av cY r n nt (.region id ops true) (λfr E=>gh X C [] (gW E.heap.length ys) fr (E.mA (dy ys)))
def wJ{C:bA}(hC:fP P B av C)(hg:fz X B av)(hX:pG P X)(gv:A5 P X B av){L:eu}(hL:yH L){rows:Bool}{bS:FuncId}{rd:Bool}{r:oN}(S:rd=r.isSome):
  ∀ (c:Code) (j:PC),eO P rows nt c=some j->A1 P B av cY r n nt c (a0 X C L bS rd j):=by
 intro c
 induction c with
 |skip=>
  intro j h G E w fr a res Q hw he hm hr f;simp only[eO,aaQ]at h;subst h;simp only[a0,aaQ]at hr;subst hr;exact wpIn_skip (f _ _ _ ⟨G,G.le_refl,hw,he,hm,.refl E,trivial⟩)
 |label l=>
  intro j h G E w fr a res Q hw he hm hr f;simp only[eO,aaQ]at h;subst h;simp only[a0,aaQ]at hr;subst hr;exact wpIn_label (f _ _ _ ⟨G,G.le_refl,hw,he,hm,.refl E,trivial⟩)
 |seq x y q v=>
  intro j h G E w fr a res Q hw he hm hr f;simp only[eO]at h;split at h
  ·rename_i U V K Y;cases h;simp only[a0]at hr;split at hr
   ·rename_i m N hb;refine aB2 (q U K G E w fr a _ _ hw he hm hb (λe a' w' b=>?_));obtain⟨i,J,I,H,F,D,u⟩:=b;cases e<;>simp[fQ]at u;exact v V Y i N w' m a' res Q I H F hr (λe a w hh=>f e a w (hh.trans J D))
   ·rename_i z;refine aB2 (q U K G E w fr a res _ hw he hm hr (λe a' w' b=>?_));have hq:=f e a' w' b;obtain⟨i,J,I,H,F,D,u⟩:=b;obtain⟨ex,m,N⟩:=res;cases e<;>first|exact hq| (exfalso;cases ex<;>simp[fQ]at u;exact z m N hr)
  ·cases h
 |cond c x y q v=>
  intro j h G E w fr a res Q hw he hm hr f;simp only[eO]at h;split at h
  ·rename_i c' U V M K Y;cases h;simp only[a0]at hr;split at hr
   ·rename_i t ht;have o:=cD he M;rw[ht]at o;simp only[an]at o;refine wpIn_cond o ?_;cases t with
    |true=>simp only[ajQ]at hr⊢;exact q U K G E w fr a res Q hw he hm hr f
    |false=>simp only[ah2,ak8]at hr⊢;exact v V Y G E w fr a res Q hw he hm hr f
   ·cases hr
  ·cases h
 |block id c O=>
  intro j h G E w fr a res Q hw he hm hr f;simp only[eO]at h;obtain⟨p,M,rfl⟩:=ah3.1 h;simp only[a0]at hr;split at hr
  ·rename_i id' m N hb;refine wpIn_block (O p M G E w fr a _ _ hw he hm hb (λe a' w' b=>?_));obtain⟨i,J,I,H,F,D,u⟩:=b;cases e<;>simp[fQ]at u;subst u;simp only[Exit.inBlock];split at hr
   ·rename_i A;cases hr;rw[aaR A];exact f _ _ _ ⟨i,J,I,H,F,D,trivial⟩
   ·rename_i A;cases hr;rw[aaH A];exact f _ _ _ ⟨i,J,I,H,F,D,rfl⟩
  ·rename_i z;refine wpIn_block (O p M G E w fr a res _ hw he hm hr (λe a' w' b=>?_));have hq:=f e a' w' b;obtain⟨i,J,I,H,F,D,u⟩:=b;obtain⟨ex,m,N⟩:=res;cases e<;>first|exact hq| (exfalso;cases ex<;>simp[fQ]at u;exact z _ m N hr)
 |loop c O=>
  intro j h G E w fr a res Q hw he hm hr f;simp only[eO]at h;obtain⟨p,M,rfl⟩:=ah3.1 h;simp only[a0]at hr;obtain⟨k,hk⟩:=hL _ _ _ _ hr;exact ar6 (O p M) k G E w fr a res Q hw he hm hk f
 |exit id=>
  intro j h G E w fr a res Q hw he hm hr f;simp only[eO,aaQ]at h;subst h;simp only[a0,aaQ]at hr;subst hr;exact wpIn_exit (f _ _ _ ⟨G,G.le_refl,hw,he,hm,.refl E,rfl⟩)
 |ret=>
  intro j h G E w fr a res Q hw he hm hr f;simp only[eO,aaQ]at h;subst h;simp only[a0,aaQ]at hr;subst hr;exact wpIn_ret (f _ _ _ ⟨G,G.le_refl,hw,he,hm,.refl E,trivial⟩)
 |region id ops draw=>
  intro j h;simp only[eO]at h;split at h
  ·rename_i xs R;split at h
   ·rename_i T;have hd: ∀x∈xs,∀d,x.dst=some d->d<nt:=by
     intro x K d Z;have:=ajD.1 T x K;rw[Z]at this;simpa using this
    cases draw with
    |false=>
     simp only[ah2,ak8,aaQ]at h;subst h;intro G E w fr a res Q hw he hm hr f;simp only[a0]at hr;exact wpIn_region (P7 hC hg ops.toList _ xs (ar5 ops) R hd G E w fr a res Q hw he hm hr f)
    |true=>
     simp only[ajQ]at h;obtain⟨ys,W,rfl⟩:=ah3.1 h;intro G E w fr a res Q hw he hm hr f;simp only[a0]at hr;exact gv _ C hC rows r n nt id ops xs ys R hd W G E w fr a res Q hw he hm hr f
   ·cases h
  ·cases h
 |rangeFunc g ps assign body iha ihb=>
  intro j h;simp only[eO]at h;split at h
  ·rename_i g' as bd h1 h2 h3;split at h
   ·rename_i h4;cases h;cases r with
    |none=>
     subst S;exact ar8 hC hX h1 h2 h3 h4
    |some l=>
     subst S;intro G E w fr a res Q hw he hm hr f;simp[a0]at hr
   ·cases h
  ·cases h
 |scope c O=>intro j h;simp[eO]at h
 |goto l=>intro j h;simp[eO]at h
 |refuse s=>intro j h;simp[eO]at h
end
section
variable{P:Program}{X:Ctx}{B:Nat}{av:World}{cY:List Deferred}
def asm{x:Value}(h: (Instr.loadAt t x).run P w= .ok v w): (do loadVar t (<-asAddr x):Sem Value).run P w= .ok v w:=by
 cases x with
 |pointer a=>
  cases a with
  |some a=>simpa[Instr.loadAt,Instr.sureAddr,asAddr]using h
  |none=>simp[Instr.loadAt,Instr.sureAddr,Sem.run_bind,stuck,Sem.run,Result.andThen]at h
 |_=>simp[Instr.loadAt,Instr.sureAddr,Sem.run_bind,stuck,Sem.run,Result.andThen]at h
def Ee(b:Array Value):ResultVar->Sem Value
 |.tmp t=>pure (b.getD t undef)
 |.cell a t=>do loadVar t (<-asAddr (b.getD a undef))
def asn(fn:Func)(b:Array Value):results fn b=(do let vs<-fn.results.mapM (Ee b);pure (if h:vs.size=1 then vs[0]else .tuple vs)):=by
 have:Ee b=(λ
  |.tmp t=>pure (b.getD t undef)
  |.cell a t=>do loadVar t (<-asAddr (b.getD a undef))):=by
  funext x
  cases x<;>rfl
 unfold results;rw[this];rfl
theorem Qa(hg:fz X B av){G:Gh}{E:AS}{w:World}(j:aV P B av G E w){nt:Nat}{e:Env}{d:Array Value}(i:cK G nt e d): ∀ (l:List ResultVar) (rs:List RV) (vs:List AV),pD P l=some rs->jE X E e rs=some vs->
  ∃f,(l.mapM (Ee d)).run P w= .ok f w/\aD G vs f
 | [],rs,vs,h,hr=>by
   simp only[pD,aaQ]at h;subst h;simp only[jE,aaQ]at hr;subst hr;exact⟨[],by simp,by simp[aD]⟩
 |.tmp t::l,rs,vs,h,hr=>by
  simp only[pD]at h;obtain⟨g,o,rfl⟩:=ah3.1 h;simp only[jE,od]at hr;split at hr
  ·rename_i c m;cases hr;obtain⟨f,e1,r⟩:=Qa hg j i l g c o m;refine⟨d.getD t undef::f,?_,⟨_,_,rfl,PG i t,r⟩⟩;rw[aBs];simp only[Sem.run_bind,Ee,Sem.run_pure,Result.andThen_ok];rw[e1];simp only[Result.andThen_ok,Sem.run_pure]
  ·cases hr
 |.cell a t::l,rs,vs,h,hr=>by
  simp only[pD]at h;split at h
  ·rename_i b n g s q o;cases h;simp only[jE,od]at hr;split at hr
   ·rename_i v m;split at hr
    ·rename_i c k;cases hr;obtain⟨f,e1,r⟩:=Qa hg j i l g c o k;obtain⟨v',x,p⟩:=aac j hg s q (PG i a) m;have e3:=asm x;refine⟨v'::f,?_,⟨_,_,rfl,p,r⟩⟩;rw[aBs];have u: (Ee d (.cell a t)).run P w= .ok v' w:=e3;simp only[Sem.run_bind];rw[u];simp only[Result.andThen_ok];rw[e1];simp only[Result.andThen_ok,Sem.run_pure]
    ·cases hr
   ·cases hr
  ·cases h
def Ef(hg:fz X B av){G:Gh}{E:AS}(k:aV P B av G E w){e:Env}{b:Array Value}(m:cK G nt e b){fn:Func}{f:List RV}{v:AV}(h:pD P fn.results.toList=some f)(d:fy X E e f=some v):
  ∃v',(results fn b).run P w= .ok v' w/\an G v v':=by
 have key: ∀vs,jE X E e f=some vs-> ∃a:List Value,aD G vs a/\ (results fn b).run P w= .ok (if h:a.toArray.size=1 then a.toArray[0]else .tuple a.toArray) w:=by
  intro vs c;obtain⟨a,e1,r⟩:=Qa hg k m _ f vs h c;refine⟨a,r,?_⟩;rw[asn,Array.mapM_eq_mapM_toList];simp only[Sem.run_bind,Sem.run_map];rw[e1];simp[Result.andThen]
 unfold fy at d;split at d
 ·rename_i i c;cases d;obtain⟨a,r,e1⟩:=key _ c;simp only[aD]at r;obtain⟨v',q,rfl,j,rfl⟩:=r;exact⟨v',by rw[e1];simp,j⟩
 ·rename_i vs g c;cases d;obtain⟨a,r,e1⟩:=key _ c;have l:=r.length;refine⟨.tuple a.toArray,?_,⟨_,rfl,by simpa using r⟩⟩;rw[e1,dif_neg];intro n;have:vs.length=1:=by simpa[l]using n
  obtain⟨x,rfl⟩:=List.length_eq_one_iff.1 this;exact g x rfl
 ·cases d
theorem yI: ∀ (ms:lN) (E a:AS),dJ E ms=some a->E.Ext a
 | [],E,a,h=>by simp only[dJ,aaQ]at h;subst h;exact .refl E
 |m::ms,E,a,h=>by
  simp only[dJ]at h;split at h
  ·rename_i hm;exact(AS.Ext.set (o':=.dead) (refs:=0) hm λ_ _ _=>trivial).trans (yI ms _ a h)
  ·cases h
theorem yL{n:Nat}{fn:Func}{b:Array Value}{R:Ending->World->Prop}{u:FrameMode}(i:u≠ .run){G:Gh}: ∀ (ms:lN) (f:List Deferred) (E a:AS) (w:World),gi cY G ms f->aV P B av G E w->dJ E ms=some a->
  (∀w',aV P B av G a w'->LeavesInM (W none) n P fn b R cY u w')->LeavesInM (W none) n P fn b R f u w
 | [],f,E,a,w,e,hw,c,h=>by
   simp only[gi]at e;subst e;simp only[dJ,aaQ]at c;subst c;exact h w hw
 |m::ms,f,E,a,w,e,hw,c,h=>by
  simp only[gi]at e;obtain⟨d,r,k,rfl,p,j,o,l⟩:=e;simp only[dJ]at c;split at c
  ·rename_i hm;obtain⟨s,q⟩:=hw.obj m _ hm j.2;have g:=o s;subst g;refine⟨i,.inl ⟨_,eJ w (G.ba m) (.deferred none),p,?_,?_⟩⟩
   ·simp[Instr.takeDeferred,getObj,setObj,Sem.run,q,eJ]
   ·exact yL i ms r (E.set m .dead 0) a _ l (hw.put j 0 trivial) c h
  ·cases c
def IN{G:Gh}{args:List AV}{a:Array Value}(e:aD G args a.toList)(i:args.length<=nt):cK G nt (dc args) (a++Array.replicate (nt-a.size) undef):=by
 have f:a.size=args.length:=by rw[<-anc];exact e.length
 refine⟨by simp;omega,λt v b=>?_,λt b=>?_⟩
 ·simp only[dc,aiu];rw[Array.getElem?_append]at b;split at b
  ·rename_i g;have c:t<args.length:=by omega
   obtain⟨u,hu,hr⟩:=e.get t args[t] (abe c);rw[abe c];have:some u=some v:=by rw[<-hu,<-b];simp
   cases this;exact hr
  ·rename_i h;have d:args.length<=t:=by omega
   rw[ana d];rw[axb]at b;split at b
   ·cases b;exact yE
   ·cases b
 ·simp only[dc,aiu];rw[ana (by omega)];rfl
theorem aaY{G:Gh}{nt:Nat}: ∀ (ps:lN) (args:List AV) (e:Env) (tmps:Array Value) (a:List Value),cK G nt e tmps->aD G args a->(∀p∈ps,p<nt)->cK G nt (iJ e ps args) ((ps.zip a).foldl (λtmps (p:Nat×Value)=>tmps.setIfInBounds p.1 p.2) tmps)
 | [],args,e,tmps,a,he,b,c=>by simpa[iJ]using he
 |p::ps,[],e,tmps,a,he,b,c=>by
  simp only[aD]at b;subst b;simpa[iJ]using he
 |p::ps,x::xs,e,tmps,a,he,b,c=>by
  simp only[aD]at b;obtain⟨v,q,rfl,g,f⟩:=b;simp only[iJ,List.zip_cons_cons,aAK];exact aaY ps xs _ _ q (he.set (c p (by simp)) g) f (λy d=>c y (by simp[d]))
def gj(P:Program)(B:Nat)(av:World)(f:FuncId)(p:List AV->AS->Option aS):Prop:=
 ∀args E b,p args E=some b-> ∀G w (a:Array Value),aV P B av G E w->aD G args a.toList->Eb P (Ends P B av G E b) ((callFunc f a).run P w)
section
variable{C:bA}(hC:fP P B av C)(hg:fz X B av)(hX:pG P X)(gv:A5 P X B av){L:eu}(hL:yH L)
include hC hg hX gv hL
theorem aso{pf:PF}(T:X.code f=some pf){args:List AV}{E:AS}{q:aS}(R:args.length<=pf.ntmps)
  (h:leave X E.heap.length E.lo pf (a0 X C L f false pf.body {env:=dc args,marks:=[]} {heap:=E.heap,lo:=none})=some q) {G:Gh} {w:World} {b:Array Value} (z:aV P B av G E w) (S:aD G args b.toList):
  CallsIn (W none) 0 P f b w (Ends P B av G E q):=by
 obtain⟨rows,fn,F,n⟩:=hX f pf T;obtain⟨c,U,l,m,A,D⟩:=IJ n;cases g:a0 X C L f false pf.body {env:=dc args,marks:=[]} {heap:=E.heap,lo:=none}with
 |none=>rw[g]at h;simp[leave]at h
 |some res=>
  rw[g]at h;have he:cK G fn.ntmps (dc args) (b++Array.replicate (fn.ntmps-b.size) undef):=IN S (by rw[<-A];exact R);refine azd F U trivial (wJ hC hg hX gv hL (r:=none) rfl c pf.body l G {heap:=E.heap,lo:=none} w {env:=dc args,marks:=[]} _ res _ (z.lo none) he rfl g (λe a w' hr=>?_)) rfl;obtain⟨V,M,K,O,J,I,p⟩:=hr;obtain⟨ex,fr,H⟩:=res;have k:qQ X E.heap.length E.lo pf fr H=some q->LeavesInM (W none) 0 P fn a.tmps (Ends P B av G E q) a.defers .returning w':=by
   intro h;unfold qQ at h;split at h
   ·rename_i j o;split at h
    ·rename_i v Q;cases h;refine yL (by simp) fr.marks a.defers H j w' J K o (λs d=>?_);obtain⟨v',e1,N⟩:=Ef hg d O m Q;refine⟨v',e1,?_⟩;obtain⟨i,y,x,u,t⟩:=yB z M d (I.trans (yI _ _ _ o)) N;exact⟨i,y,x,u,t⟩
    ·cases h
   ·cases h
  cases ex with
  |normal=>cases e<;>simp[fQ]at p;exact k h
  |ret=>cases e<;>simp[fQ]at p;exact k h
  |exit id=>simp[leave]at h
  |panic v=>
   cases e<;>simp[fQ]at p;rename_i chain;obtain⟨v',rfl,rv⟩:=p;simp only[leave]at h;split at h
   ·rename_i j o;cases h;refine yL (by simp) fr.marks a.defers H j w' J K o (λs d=>?_);obtain⟨i,y,x,u,t⟩:=yB z M d (I.trans (yI _ _ _ o)) rv;exact⟨i,v',rfl,y,x,u,t⟩
   ·cases h
theorem asp{args:List AV}{E:AS}{cr:aS}(h:j7 X C L l args E=some cr){G:Gh}(hw:aV P B av G E w)(T:G.on l)(hl:aD G args c.toList):
  Eb P (Ends P B av G E cr) ((Instr.yield (G.ba l) c).run P w):=by
 unfold j7 at h;split at h
 ·rename_i st aFW f env ps assign body asq;split at h
  ·rename_i U;obtain⟨o0,b,ob,os,oj,_,oe,op,P8,rows,oa,obd⟩:=hw.obj l _ asq T.2;have om:c.size=args.length:=by rw[<-anc];exact hl.length
   have IP:b.params.size=ps.length:=by rw[<-op];simp
   have hy: (Instr.yield (G.ba l) c).run P w= .ok (.round (G.ba l) b.fn ((b.params.zip c).foldl (λtmps (t,a)=>tmps.setIfInBounds t a) b.tmps) b.assign b.body) w:=by
    simp[Instr.yield,Instr.getLoop,getObj,Sem.run,ob,om,IP,U]
   rw[hy];have htm: (b.params.zip c).foldl (λtmps (t,a)=>tmps.setIfInBounds t a) b.tmps=(ps.zip c.toList).foldl (λtmps (p:Nat×Value)=>tmps.setIfInBounds p.1 p.2) b.tmps:=by
    rw[<-Array.foldl_toList,Array.toList_zip,op]
   rw[htm];split at h
   ·rename_i fr Z ha;split at h
    ·rename_i g f' u S V iK I;have he:=aaY ps args env b.tmps c.toList oe hl (λp hp=>by simpa using ajD.1 P8 p hp);refine roundIn_of_wpIn (F:=W none) trivial (wJ hC hg hX gv hL (r:=some (G.ba l)) (rd:=true) (bS:=f) rfl b.assign assign oa G {heap:=E.heap,lo:=none} w {env:=iJ env ps args,marks:=[]} _ _ _ (hw.lo none) he rfl ha (λe a Y hr=>?_));obtain⟨z,q1,q2,q3,q4,q5,q6⟩:=hr;cases e<;>simp[fQ]at q6;obtain⟨p0,y,pb,pst,pj,_,pe,pp,Ec,asu⟩:=q2.obj l _ I (q1.on l T).2;have k:z.on l:=q1.on l T;have hlG:G.on l:=T;have M:z.ba l=G.ba l:=(q1.same l hlG (by rw[p0,o0])).1;refine⟨eJ Y (G.ba l) (.loop {y with state:=.busy}),?_,?_⟩
     ·rw[<-M];simp[Instr.beginRound,Instr.getLoop,getObj,setObj,Sem.run,pb,pst,eJ]
     ·have asw:aV P B av z (Z.set l (.loop .busy g f' u S V iK) 0) (eJ Y (G.ba l) (.loop {y with state:=.busy})):=by
        have:=q2.put k (O:=.loop {y with state:=.busy}) (o':=.loop .busy g f' u S V iK) 0 ⟨p0,{y with state:=.busy},uV (q2.low _ k).2,rfl,pj,trivial,pe,pp,Ec,asu⟩;rw[M]at this;exact this
      cases A6:a0 X C L f true body fr (Z.set l (.loop .busy g f' u S V iK) 0)with
      |none=>rw[A6]at h;simp[endRound]at h
      |some res=>
       rw[A6]at h;refine wJ hC hg hX gv hL (r:=some (G.ba l)) (rd:=true) (bS:=f) rfl b.body body obd z _ _ fr a res _ asw q3 q4 A6 (λe a' D hr=>?_);obtain⟨Q,u1,u2,u3,u4,u5,u6⟩:=hr;obtain⟨ex,IQ,R⟩:=res;simp only[endRound]at h;split at h
       ·rename_i j aFX aFY N d i o m hj H;cases h;obtain⟨v0,x,vb,vst,vj,_,ve,vp,vps,asy⟩:=u2.obj l _ H (u1.on l k).2;have J:Q.on l:=u1.on l k;have K:Q.ba l=G.ba l:=by rw[<-M];exact(u1.same l k (by rw[v0,p0])).1
        have asz:=Gh.le_trans q1 u1;have asA:AS.Ext {heap:=E.heap,lo:=none} (R.set l (.loop (if j.isNone then .ready else .done) j N d i o m) 0):=
         ((q5.trans (AS.Ext.set (o':=.loop .busy g f' u S V iK) (refs:=0) I λn hn _=>hn)).trans u5).trans (AS.Ext.set (o':=.loop (if j.isNone then .ready else .done) j N d i o m) (refs:=0) H λn hn _=>hn)
        have fin: ∀ (q:Option Code),yu j q-> ∃v w',(Instr.endRound (G.ba l) q).run P D= .ok v w'/\Ends P B av G E (.ret (.bool j.isNone) (finish E.heap.length E.lo (.bool j.isNone) (R.set l (.loop (if j.isNone then .ready else .done) j N d i o m) 0)).2) (.returned v) w':=by
         intro q A;have s:q.isNone=j.isNone:=by
          cases j with
          |none=>simp only[yu]at A;subst A;rfl
          |some p=>cases p<;>simp only[yu]at A<;>first|exact A.elim| (subst A;rfl)
         refine⟨.bool q.isNone,eJ D (G.ba l) (.loop {x with state:=if q.isNone then .ready else .done,pending:=q}),?_,?_⟩
         ·rw[<-K];simp[Instr.endRound,Instr.getLoop,getObj,setObj,Sem.run,vb,eJ]
         ·have asB:aV P B av Q (R.set l (.loop (if j.isNone then .ready else .done) j N d i o m) 0) (eJ D (G.ba l) (.loop {x with state:=if q.isNone then .ready else .done,pending:=q})):=by
            have:=u2.put J (O:=.loop {x with state:=if q.isNone then .ready else .done,pending:=q}) (o':=.loop (if j.isNone then .ready else .done) j N d i o m) 0
             ⟨v0,{x with state:=if q.isNone then .ready else .done,pending:=q},uV (u2.low _ J).2,by show(if q.isNone=true then LoopState.ready else LoopState.done)=_;rw[s],A,trivial,ve,vp,vps,asy⟩
            rw[K]at this;exact this
          obtain⟨asC,s1,s2,s3,s4⟩:=yB (v:=.bool j.isNone) (v':=.bool q.isNone) hw asz asB asA (by simp[an,s]);exact⟨asC,s1,s2,by simp[an,s],s4⟩
        cases ex with
        |normal=>
         simp only[sE,aaQ]at hj;subst hj;cases e<;>simp[fQ]at u6;exact fin none rfl
        |ret=>
         simp only[sE,aaQ]at hj;subst hj;cases e<;>simp[fQ]at u6;exact fin (some .ret) rfl
        |exit id=>
         simp only[sE,aaQ]at hj;subst hj;cases e<;>simp[fQ]at u6;subst u6;exact fin (some (.exit id)) rfl
        |panic v=>simp[sE]at hj
       ·cases h
    ·cases h
   ·cases h
  ·cases h
 ·cases h
theorem asD(J: ∀f p,X.bZ f=some p->gj P B av f p):fP P B av (step X C L):=by
 intro fv args E N h G w K b hw g z;unfold step at h;split at h
 ·rename_i f first cap
  simp only[an,nb]at g;obtain⟨M,a,d,rfl,rfl,t,A⟩:=g;have i:wI (.func (.func f) a d) b=callFunc f (a++b++d):=rfl;rw[i];have e:aD G (first++args++cap) (a++b++d).toList:=by
   simp only[Array.toList_append];exact(t.append z).append A
  split at h
  ·rename_i p D;exact J f p D _ _ _ h G w _ hw e
  ·split at h
   ·rename_i pf q;split at h
    ·rename_i F;obtain⟨rows,fn,v,o⟩:=hX f pf q;obtain⟨c,I,_,_,_,m⟩:=IJ o;have j:=aaW (P:=P) v I m a d b w;rw[i]at j;rw[j];exact aso hC hg hX gv hL q F h hw e
    ·cases h
   ·cases h
 ·rename_i l cap;simp only[an,nb]at g;obtain⟨M,a,d,rfl,⟨s,k,rfl,H⟩,t,A⟩:=g;have n:G.aj l=0:=by
   unfold j7 at h;split at h
   ·rename_i st y f env ps assign body r;exact(hw.obj l _ r s.2).1
   ·cases h
  have u:=H n;subst u;have x:a= #[]:=by
   simp only[aD]at t;apply asg;simpa using t
  subst x;have i:wI (.func (.yield (G.ba l)) #[] d) b=Instr.yield (G.ba l) (#[]++b):=rfl;rw[i,Array.empty_append];exact asp hC hg hX gv hL h hw s z
 ·cases h
end
end
section
variable{X:Ctx}
theorem oq{x:ao}{e a:Env}(h: ∀t∈x.tmps,e t=a t):x.get e=x.get a:=by
 cases x with
 |t i=>exact h i (by simp[ao.tmps])
 |c v=>rfl
def Eg{x:Option ao}{e a:Env}(h: ∀y∈x.toList,∀t∈y.tmps,e t=a t):x.map (·.get e)=x.map (·.get a):=by
 cases x with
 |none=>rfl
 |some y=>grind [oq]
def IS{xs:List ao}{e a:Env}(h: ∀t∈gJ xs,e t=a t):xs.map (·.get e)=xs.map (·.get a):=by
 apply auO;intro x b;exact oq λt c=>h t (by simp only[gJ,asa];grind)
def asE{a:List (Nat×Nat×ao)}{e b:Env}(h: ∀t∈gJ (a.map (·.2.2)),e t=b t):a.map (λp=>(p.1,p.2.1,p.2.2.get e))=a.map (λp=>(p.1,p.2.1,p.2.2.get b)):=by
 apply auO;intro p d;rw[oq λt c=>h t (by simp only[gJ,asa,ais];grind)]
def aaZ{a b:ao}{e d:Env}(h: ∀t∈gJ [a,b],e t=d t):a.get e=a.get d/\b.get e=b.get d:=
 ⟨oq λt c=>h t (by simp[gJ,c]),oq λt c=>h t (by simp[gJ,c])⟩
def asF{a b c:ao}{e f:Env}(h: ∀t∈gJ [a,b,c],e t=f t):a.get e=a.get f/\b.get e=b.get f/\c.get e=c.get f:=
 ⟨oq λt d=>h t (by simp[gJ,d]),oq λt d=>h t (by simp[gJ,d]),oq λt d=>h t (by simp[gJ,d])⟩
def IT{C:bA}{i:I}{e m:Env}(h: ∀t∈i.reads,e t=m t)(E:AS):exec X C i e E=exec X C i m E:=by
 cases i with
 |mov x|box x|nilck x|un _ x|conv _ x|s2b x|mki _ x|ta _ x _ _|ext x _|len _ x|clear _ x|panic x|faddr _ x|fld _ _ _ x|load _ _ x=>
  simp only[exec,oq h]
 |alloc _|oc=>rfl
 |pick a b c|pA _ a b c=>obtain⟨l,k,o⟩:=asF h;simp only[exec,l,k,o]
 |build _ ps|bslice _ _ ps|sv _ _ _ ps=>simp only[exec,asE h]
 |store _ a v|bin _ a v|shf _ a v|eq _ a v|ne _ a v|DT _ _ _ a v|iaddra _ _ a v|iaddrs _ a v|idxa _ _ _ a v|idxs a v|lookup _ _ a v _|append _ _ _ a v|copy _ a v=>
  obtain⟨l,k⟩:=aaZ h;simp only[exec,l,k]
 |mkf f a b=>
  simp only[exec];rw[IS (xs:=a) λt d=>h t (by simp only[I.reads,gJ,aqp,aha];exact .inl d),
   IS (xs:=b) λt d=>h t (by simp only[I.reads,gJ,aqp,aha];exact .inr d)]
 |slstr x lo j|slarr _ _ x lo j=>
  simp only[I.reads,gJ,at2,aqp,aha,asa]at h;simp only[exec];rw[oq λt d=>h t (.inl d),Eg λy g t d=>h t (.inr (.inl ⟨y,g,d⟩)),Eg (x:=j) λy g t d=>h t (.inr (.inr ⟨y,g,d⟩))]
 |slsl _ x lo j n=>
  simp only[I.reads,gJ,at2,aqp,aha,asa]at h;simp only[exec];rw[oq λt d=>h t (.inl d),Eg (x:=lo) λy g t d=>h t (.inr (.inl (.inl ⟨y,g,d⟩))),Eg (x:=j) λy g t d=>h t (.inr (.inl (.inr ⟨y,g,d⟩))),Eg (x:=n) λy g t d=>h t (.inr (.inr ⟨y,g,d⟩))]
 |max xs|min xs=>simp only[exec,IS h]
 |call f as=>
  simp only[I.reads,gJ,at2,aha]at h;simp only[exec];rw[oq λt d=>h t (.inl d),IS λt d=>h t (.inr d)]
def IU{i:I}{e b:Env}(h: ∀t∈i.reads,e t=b t)(E c:AS):aW i e E c=aW i b E c:=by
 cases i with
 |load _ _ x=>simp only[aW,oq h]
 |store _ a v=>obtain⟨d,_⟩:=aaZ h;simp only[aW,d]
 |_=>rfl
def asG{C:bA}{i:I}{e:Env}(j:i.cls=0): ∃o,∀E,exec X C i e E=fO E o:=by
 cases i<;>simp only[I.cls,reduceCtorEq]at j
 case mov x=>exact⟨some _,λ_=>rfl⟩
 case mki t x=>exact⟨some _,λ_=>rfl⟩
 case mkf f a b=>exact⟨some _,λ_=>rfl⟩
 case nilck x=>exact⟨_,λ_=>rfl⟩
 case bin op x y=>exact⟨_,λ_=>rfl⟩
 case un op x=>exact⟨_,λ_=>rfl⟩
 case slstr x lo g=>exact⟨_,λ_=>rfl⟩
 case slsl n x lo g l=>exact⟨_,λ_=>rfl⟩
 case slarr n sz x lo g=>exact⟨_,λ_=>rfl⟩
 case faddr o x=>exact⟨_,λ_=>rfl⟩
 case iaddra n sz x i=>exact⟨_,λ_=>rfl⟩
 case iaddrs sz x i=>exact⟨_,λ_=>rfl⟩
 case idxa b n sz x i=>exact⟨_,λ_=>rfl⟩
 case idxs x i=>exact⟨_,λ_=>rfl⟩
 case ta z x t ok=>exact⟨_,λ_=>rfl⟩
 case max xs=>exact⟨_,λ_=>rfl⟩
 case min xs=>exact⟨_,λ_=>rfl⟩
 case pick c a b=>cases h:c.get e<;>first|exact⟨some _,λ_=>by simp only[exec,h];rfl⟩|exact⟨none,λ_=>by simp only[exec,h];rfl⟩
 case build z ps=>cases h:eo z (ps.map λp=>(p.1,p.2.1,p.2.2.get e))<;>first|exact⟨some _,λ_=>by simp only[exec,h];rfl⟩|exact⟨none,λ_=>by simp only[exec,h];rfl⟩
 case bslice z n ps=>cases h:eo (List.replicate n z).flatten (ps.map λp=>(p.1,p.2.1,p.2.2.get e))<;>first|exact⟨some _,λ_=>by simp only[exec,h];rfl⟩|exact⟨none,λ_=>by simp only[exec,h];rfl⟩
 case shf op x y=>
  cases h:x.get e<;>cases d:y.get e<;>first|exact⟨none,λ_=>by simp only[exec,h,d];rfl⟩|exact⟨_,λ_=>by simp only[exec,h,d];rfl⟩
 case eq k x y=>cases h:ep k (x.get e) (y.get e)<;>first|exact⟨some _,λ_=>by simp only[exec,h];rfl⟩|exact⟨none,λ_=>by simp only[exec,h];rfl⟩
 case ne k x y=>cases h:ep k (x.get e) (y.get e)<;>first|exact⟨some _,λ_=>by simp only[exec,h];rfl⟩|exact⟨none,λ_=>by simp only[exec,h];rfl⟩
 case conv k x=>cases h:x.get e<;>first|exact⟨some _,λ_=>by simp only[exec,h];rfl⟩|exact⟨none,λ_=>by simp only[exec,h];rfl⟩
 case s2b x=>
  cases h:x.get e with
  |str s=>
   by_cases d:s.size<=room
   ·exact⟨some _,λ_=>by simp only[exec,h,d,ajQ];rfl⟩
   ·exact⟨none,λ_=>by simp only[exec,h,d,ak8];rfl⟩
  |_=>exact⟨none,λ_=>by simp only[exec,h];rfl⟩
 case fld b n off x=>cases h:x.get e<;>first|exact⟨none,λ_=>by simp only[exec,h];rfl⟩|exact⟨_,λ_=>by simp only[exec,h];rfl⟩
 case ext x i=>cases h:x.get e<;>first|exact⟨none,λ_=>by simp only[exec,h];rfl⟩|exact⟨_,λ_=>by simp only[exec,h];rfl⟩
theorem aa0{i:I}(a:i.cls=0)(e:Env)(E b:AS):aW i e E b= .no:=by
 cases i<;>simp only[I.cls,reduceCtorEq]at a<;>rfl
theorem yM{C:bA}{i:I}{e:Env}{E m:AS}{v:AV}(j:exec X C i e E=some (.ok v m))(g:aW i e E m= .no):m=E/\ ∀d,exec X C i e d=some (.ok v d)/\aW i e d d= .no:=by
 by_cases p:i.cls=0
 ·obtain⟨o,ho⟩:=asG (X:=X) (C:=C) (e:=e) p;rw[ho]at j;obtain⟨rfl,rfl⟩:=ee j;exact⟨rfl,λd=>⟨by rw[ho];rfl,aa0 p e _ _⟩⟩
 ·cases i<;>simp only[I.cls,not_true_eq_false]at p
  case load b n x=>
   simp only[exec]at j;obtain⟨h,rfl⟩:=ee j;refine⟨rfl,λd=>?_⟩;simp only[aW]at g⊢;unfold cb at h;split at g<;>first|cases g|skip
   ·rename_i l;rw[l]at h;simp only at h;simp[exec,fO,cb,l,h]
   ·rename_i l;rw[l]at h;simp only at h;simp[exec,fO,cb,l,h]
  case store n a x=>simp only[aW]at g;split at g<;>cases g
  case len k x=>
   simp only[exec]at j;obtain⟨h,rfl⟩:=ee j;refine⟨rfl,λd=>⟨?_,g⟩⟩;have:ft d k (x.get e)=ft m k (x.get e):=by
    generalize x.get e=y;cases k<;>first|rfl| (cases y<;>first|rfl| (rename_i c;cases c<;>rfl))| (simp only[aW]at g;cases g)
   simp only[exec,this,h,fO]
  case call f as=>simp only[aW]at g;split at g<;>cases g
  all_goals simp[aW]at g
end
section
variable{X:Ctx}
theorem sK{C:bA}{i:I}{e:Env}{E c:AS}{v:AV}(d:exec X C i e E=some (.ok v c))(g:aW i e E c= .q\/ ∃id off n,aW i e E c= .rd id off n):c=E:=by
 cases i with
 |load b n x=>exact(ee d).2
 |lookup j z m k ok=>exact(ee d).2
 |len k x=>exact(ee d).2
 |call f as=>
  simp only[aW]at g
  grind
 |store n a x=>
  simp only[aW]at g
  grind
 |_=>rcases g with h| ⟨_,_,_,h⟩<;>simp[aW]at h
def A7:Option ae->Option (List AV)
 |some (.box cs _)=>some cs
 |_=>none
def wK{E:AS}{b:Bool}{id off:Nat}:cb X E b n (.ptr id off)=(A7 E.heap[id]?).bind λcs=>part b n cs off:=by
 unfold cb;simp only;cases h:E.heap[id]? with
 |none=>rfl
 |some o=>cases o<;>simp[A7]
theorem aa1{cs vs:List AV}{off:Nat}(h:off+vs.length<=cs.length)(a:j<off\/off+vs.length<=j): (aH cs off vs)[j]?=cs[j]?:=by
 unfold aH;rcases a with a|a
 ·grind
 ·rw[ajE (by simp;omega),ajE (by simp;omega),anb]
  congr 1
  simp;omega
def asH{cs vs:List AV}{off a:Nat}{b:Bool}(h:a+vs.length<=cs.length)(c:off+Nat.max n 1<=a\/a+vs.length<=off):part b n (aH cs a vs) off=part b n cs off:=by
 have hm:n<=Nat.max n 1:=atX _ _;unfold part;rw[PT h];cases b with
 |false=>grind [aa1]
 |true=>
  simp only[ajQ];split
  ·congr 2
   apply apn;intro j;simp only[apX,anb];split
   ·exact aa1 h (by omega)
   ·rfl
  ·rfl
def aa2{C:bA}{e:Env}{E r:AS}{v:AV}{a x:ao}{c:Nat}(l:exec X C (.store m a x) e E=some (.ok v r))(j:aW (.store m a x) e E r= .wr d c k)
  {b:Bool} {id off:Nat} (u:id≠d\/off+Nat.max n 1<=c\/c+k<=off):cb X r b n (.ptr id off)=cb X E b n (.ptr id off):=by
 simp only[aW]at j;split at j
 ·rename_i i o s;cases j;simp only[exec,s,j4]at l;split at l
  ·rename_i t hs;cases l;split at hs
   ·rename_i cs g;split at hs
    ·cases hs;rw[wK,wK];by_cases f:id=d
     ·subst f;have p:id<E.heap.length:=(aaG.1 g).1;have q:off+Nat.max n 1<=c\/c+(x.get e).cells.length<=off:=by omega
      simp only[AS.set,ah5 p,A7,g,arL];exact asH (by omega) q
     ·simp[AS.set,aaD (λh=>f h.symm)]
    grind
   grind
  grind
 ·cases j
 grind
theorem asI{E i:AS}{ty:TypeId}{bytes:Nat}{s v:AV}{ys:List (List AV)}(h:dx E ty sz bytes s ys=some (v,i)){b:Bool}{id off:Nat}:cb X i b n (.ptr id off)=cb X E b n (.ptr id off):=by
 have push: ∀ (aj sz:Nat) (ty:TypeId) (af:List (List AV)),cb X (E.push (.row aj sz ty af)) b n (.ptr id off)=cb X E b n (.ptr id off):=by
  intro aj sz ty af;rw[wK,wK];simp only[AS.push,List.getElem?_append];split
  ·rfl
  ·rw[ana (by omega:E.heap.length<=id)];cases l:id-E.heap.length<;>simp[A7]
 unfold dx at h;split at h
 ·split at h
  ·split at h
   ·cases h;rfl
   ·split at h
    ·cases h;exact push _ _ _ _
    ·cases h
  ·split at h
   ·cases h;rfl
   ·split at h
    ·cases h;exact push _ _ _ _
    ·cases h
  ·split at h
   ·cases h;rfl
   ·cases h
  ·rename_i a aj d g len cH;split at h
   ·rename_i f k j af he;split at h
    ·split at h
     ·cases h;rfl
     ·split at h
      ·cases h;exact push _ _ _ _
      ·cases h;rw[wK,wK]
       congr 1
       by_cases c:a=id
       ·subst c;have e:a<E.heap.length:=(aaG.1 he).1;rw[he];simp[AS.set,e,A7]
       ·simp[AS.set,aaD c]
    ·cases h
   ·cases h
  ·cases h
 grind
def asJ{E e:AS}{a o:Nat}{x:AV}(h:j4 E n (.dm a aj i o) x=some e){b:Bool}{id off:Nat}:cb X e b m (.ptr id off)=cb X E b m (.ptr id off):=by
 unfold j4 at h;simp only at h;split at h
 ·rename_i w sz ty af he;split at h
  ·split at h
   ·cases h;rw[wK,wK];by_cases c:id=a
    ·subst c;have d:id<E.heap.length:=(aaG.1 he).1;simp[AS.set,ah5 d,A7,he]
    ·simp[AS.set,aaD (λh=>c h.symm)]
   grind
  grind
 grind
def aa3{C:bA}{i:I}{e:Env}{E f:AS}{v:AV}(d:exec X C i e E=some (.ok v f))(c:aW i e E f= .app){b:Bool}{id off:Nat}:cb X f b n (.ptr id off)=cb X E b n (.ptr id off):=by
 cases i with
 |append ty sz bytes s x=>
  simp only[exec]at d;split at d
  ·grind [asI]
  grind
 |load _ _ _=>simp only[aW]at c;grind
 |store m a x=>
  simp only[aW]at c;split at c<;>first|cases c|skip
  rename_i g;simp only[exec,g]at d;split at d
  ·rename_i hs;cases d;exact asJ hs
  ·cases d
 |len k x=>simp only[aW]at c;split at c<;>cases c
 |call _ _=>simp only[aW]at c;split at c<;>cases c
 |_=>simp[aW]at c
def Qb{i:I}{e:Env}{E d:AS}{id off:Nat}(c:aW i e E d= .rd id off k): ∃b n a,i= .load b n a/\a.get e= .ptr id off/\k=Nat.max n 1:=by
 cases i with
 |load b n a=>
  simp only[aW]at c
  grind
 |store _ _ _=>simp only[aW]at c;grind
 |len k x=>simp only[aW]at c;grind
 |call _ _=>simp only[aW]at c;grind
 |_=>trivial
def IV{i:I}{e:Env}{E d:AS}{id off:Nat}(c:aW i e E d= .wr id off k): ∃n a x,i= .store n a x:=by
 cases i with
 |load b n a=>simp only[aW]at c;grind
 |store n a x=>simp
 |len k x=>simp only[aW]at c;grind
 |call _ _=>simp only[aW]at c;grind
 |_=>trivial
def A8{C:bA}{b:Bool}{a:ao}{e:Env}{E c:AS}{p:AV}{v:AV}{i:AS}(g:a.get e=p)(h:cb X c b n p=cb X E b n p)(d:exec X C (.load b n a) e E=some (.ok v i)):
  exec X C (.load b n a) e c=some (.ok v c):=by
 simp only[exec,g]at d⊢;obtain⟨f,_⟩:=ee d;rw[h,f];rfl
def Eh{i:I}{e:Env}{E d:AS}(c:aW i e E d= .rr): ∃b n a id aj j o,i= .load b n a/\a.get e= .dm id aj j o:=by
 cases i with
 |load b n a=>
  simp only[aW]at c;split at c<;>cases c;rename_i h;exact⟨b,n,a,_,_,_,_,rfl,h⟩
 |store _ _ _=>simp only[aW]at c;split at c<;>cases c
 |len k x=>simp only[aW]at c;split at c<;>cases c
 |call _ _=>simp only[aW]at c;split at c<;>cases c
 |_=>simp[aW]at c
def aa4{C:bA}{e:Env}{E r:AS}{v:AV}{a x:ao}{c:Nat}(p:exec X C (.store m a x) e E=some (.ok v r))(g:aW (.store m a x) e E r= .wr d c k)
  {b:Bool} {id o:Nat}:cb X r b n (.dm id aj j o)=cb X E b n (.dm id aj j o):=by
 simp only[aW]at g;split at g
 ·rename_i i o' s;cases g;simp only[exec,s,j4]at p;split at p
  ·rename_i t hs;cases p;split at hs
   ·rename_i cs l;split at hs
    ·cases hs;unfold cb;by_cases f:id=d
     ·subst f;have q:id<E.heap.length:=(aaG.1 l).1;simp[AS.set,ah5 q,l]
     ·simp[AS.set,aaD (λh=>f h.symm)]
    ·cases hs
   ·cases hs
  ·cases p
 ·cases g
 ·cases g
def asK{C:bA}{x y:I}{B u:Env}{E g c:AS}{v w:AV}(p:exec X C x B E=some (.ok v g))(k:exec X C y u g=some (.ok w c))(f: (aW x B E g).ok (aW y u g c)=true):
  ∃D,exec X C y u E=some (.ok w D)/\exec X C x B D=some (.ok v c)/\aW y u E D=aW y u g c/\aW x B D c=aW x B E g:=by
 cases i:aW x B E g with
 |no=>grind [yM]
 |rd id off n=>
  have e1:=sK p (.inr ⟨_,_,_,i⟩);subst e1;obtain⟨b,m,a,rfl,z,rfl⟩:=Qb i;cases d:aW y u g c with
  |no=>grind [yM]
  |rd t r A=>
   have s:=sK k (.inr ⟨_,_,_,d⟩);grind
  |q=>grind [sK]
  |wr t r A=>
   obtain⟨m',a',F,rfl⟩:=IV d;rw[i,d]at f;refine⟨c,k,A8 z (aa2 k d ?_) p,d,by rw[<-i];rfl⟩;simp only[FP.ok,arJ,bne_iff_ne,alb]at f;rcases f with(h|h)|h
   ·exact .inl h
   ·exact .inr (.inl h)
   ·exact .inr (.inr h)
  |rr=>
   obtain⟨_,_,_,_,_,_,_,rfl,_⟩:=Eh d;have s:=(ee k).2;subst s;exact⟨_,k,p,d,i⟩
  |app=>exact⟨c,k,A8 z (aa3 k d) p,d,by rw[<-i];rfl⟩
  |all=>rw[i,d]at f;simp[FP.ok]at f
 |q=>
  have e1:=sK p (.inl i);subst e1;cases d:aW y u g c with
  |no=>
   obtain⟨rfl,l⟩:=yM k d;exact⟨c,k,p,d,i⟩
  |rd t r A=>
   have s:=sK k (.inr ⟨_,_,_,d⟩);subst s;exact⟨c,k,p,d,i⟩
  |q=>
   have s:=sK k (.inl d);subst s;exact⟨c,k,p,d,i⟩
  |rr=>
   obtain⟨_,_,_,_,_,_,_,rfl,_⟩:=Eh d;have s:=(ee k).2;subst s;exact⟨_,k,p,d,i⟩
  |wr _ _ _=>rw[i,d]at f;simp[FP.ok]at f
  |app=>rw[i,d]at f;simp[FP.ok]at f
  |all=>rw[i,d]at f;simp[FP.ok]at f
 |wr id off n=>
  cases d:aW y u g c with
  |no=>
   obtain⟨rfl,l⟩:=yM k d;exact⟨E,(l E).1,p,(l E).2,i⟩
  |rd t r A=>
   have s:=sK k (.inr ⟨_,_,_,d⟩);subst s;obtain⟨b,m,a,rfl,z,rfl⟩:=Qb d;obtain⟨m',a',F,rfl⟩:=IV i;rw[i,d]at f;refine⟨E,A8 z (aa2 p i ?_).symm k,p,by rw[<-d];rfl,i⟩;simp only[FP.ok,arJ,bne_iff_ne,alb]at f;rcases f with(h|h)|h
   ·exact .inl (λe=>h e.symm)
   ·exact .inr (.inr h)
   ·exact .inr (.inl h)
  |rr=>
   obtain⟨b,m,a,t,aj,j,o,rfl,z⟩:=Eh d;have s:=(ee k).2;subst s;obtain⟨m',a',F,rfl⟩:=IV i;exact⟨E,A8 z (aa4 p i).symm k,p,by rw[<-d];rfl,i⟩
  |_=>rw[i,d]at f;simp[FP.ok]at f
 |app=>
  cases d:aW y u g c with
  |no=>
   obtain⟨rfl,l⟩:=yM k d;exact⟨E,(l E).1,p,(l E).2,i⟩
  |rd t r A=>
   have s:=sK k (.inr ⟨_,_,_,d⟩);subst s;obtain⟨b,m,a,rfl,z,rfl⟩:=Qb d;exact⟨E,A8 z (aa3 p i).symm k,p,by rw[<-d];rfl,i⟩
  |_=>rw[i,d]at f;simp[FP.ok]at f
 |rr=>
  obtain⟨b,m,a,t,aj,j,o,rfl,z⟩:=Eh i;have e1:=(ee p).2;subst e1;cases d:aW y u g c with
  |no=>
   obtain⟨rfl,l⟩:=yM k d;exact⟨c,k,p,d,i⟩
  |rd t r A=>
   have s:=sK k (.inr ⟨_,_,_,d⟩);subst s;exact⟨_,k,p,d,i⟩
  |q=>
   have s:=sK k (.inl d);subst s;exact⟨_,k,p,d,i⟩
  |rr=>
   obtain⟨_,_,_,_,_,_,_,rfl,_⟩:=Eh d;have s:=(ee k).2;subst s;exact⟨_,k,p,d,i⟩
  |wr t r A=>
   obtain⟨m',a',F,rfl⟩:=IV d;exact⟨c,k,A8 z (aa4 k d) p,d,by rw[<-i];rfl⟩
  |_=>rw[i,d]at f;simp[FP.ok]at f
 |all=>
  cases d:aW y u g c with
  |no=>
   obtain⟨rfl,l⟩:=yM k d;exact⟨E,(l E).1,p,(l E).2,i⟩
  |_=>rw[i,d]at f;simp[FP.ok]at f
end
end Go.Den
