/- An evaluator, sound; no condition. -/
import GoSem.Step
import Derived.Below
import Derived.Laws.Rows
import Derived.ChangeKeysEq
import Derived.Laws.Entries
import Derived.Laws.StructEq
import Derived.Great.BuildSlice
import Derived.Laws.BytesString
import Derived.Laws.IdiomStrings
import Derived.Laws.MakeOwn
import Derived.Lib.UnsafeStr
import Derived.RangeFuncLeaves
set_option linter.all false
set_option maxRecDepth 10000
set_option maxHeartbeats 1000000
namespace Go.Den
open Go Go.RowKit
abbrev oN:=Option Nat
abbrev lN:=List Nat
abbrev lB:=List UInt8
variable{i j b nt m ak sz k n d l:Nat}{a:Act}{vs:List Value}{v v':Value}{w w':World}{c:Array Value}{O:Obj}{t e:TypeId}{aj:Option Value}{r:Bool}{f:FuncId}
def adb:=@List.getElem?_set_ne
def adf:=@List.getElem?_append_left
def adg:=@List.getElem?_eq_some_iff
def adT:=@Option.some.injEq
def adU:=@if_neg
def adV:=@List.append_assoc
def adY:=@if_pos
def ad4:=@Go.run_underlying
def aep:=@List.getElem?_eq_getElem
def aer:=@List.length_append
def aes:=@List.take_of_length_le
def aeu:=@Nat.zero_le
def aev:=@List.mem_append
def afA:=@Nat.le_refl
def afB:=@List.length_map
def afD:=@List.getElem?_set_self
def afE:=@Bool.false_eq_true
def afF:=@Option.map_eq_some_iff
def afG:=@Option.map_some
def afH:=@List.mem_map
def afI:=@List.map_append
def afJ:=@List.getElem?_append_right
def afK:=@List.take_length
def afL:=@List.length_cons
def afM:=@Nat.add_zero
def afP:=@List.all_eq_true
def afQ:=@List.getD_eq_getElem?_getD
def afS:=@List.length_take
def afX:=@List.take_add_one
def afY:=@List.mem_filter
def ag6:=@if_true
def ag7:=@List.mem_cons
def ag9:=@Bool.and_eq_true
def ahk:=@Nat.le_trans
def ahl:=@congrArg
def ahm:=@List.nil_append
def ahp:=@List.drop_eq_nil_of_le
def ahq:=@List.cons_append
def ahB:=@Nat.add_sub_cancel_left
def aiy:=@List.mem_of_mem_take
def ai5:=@if_false
def ai6:=@Nat.lt_of_lt_of_le
def ai7:=@List.take_append_drop
def ai8:=@decide_eq_true_eq
def akl:=@Nat.add_assoc
def akn:=@Option.some.inj
def akU:=@List.length_eq_zero_iff
def ak1:=@List.flatMap_append
def ak4:=@Nat.zero_add
def ak9:=@List.map_cons
def alG:=@List.getElem?_eq_none
def alH:=@List.getElem?_drop
def amj:=@Array.length_toList
def amk:=@Array.getElem?_setIfInBounds
def aml:=@Nat.mul_le_mul_right
def amm:=@List.mem_of_getElem?
def amp:=@Array.getElem?_eq_some_iff
def amA:=@List.drop_zero
def anc:=@List.drop_eq_getElem_cons
def anH:=@List.getElem?_take
def anI:=@List.map_congr_left
def anK:=@List.flatten_append
def anZ:=@List.ext_getElem?
def aop:=@Nat.mod_eq_of_lt
def aos:=@Bool.or_eq_true
def aou:=@List.mem_of_mem_drop
def aoW:=@List.flatten_cons
def aoX:=@List.flatMap_cons
def apP:=@Option.bind_some
def apQ:=@Nat.add_mul
def apS:=@List.mem_flatMap
def apU:=@List.drop_drop
def apV:=@Go.heap_alloc_new
def apY:=@List.drop_succ_cons
def apZ:=@Array.ext'
def ap2:=@Nat.succ_mul
def aqe:=@Nat.min_eq_left
def aqf:=@List.take_succ_cons
def aqu:=@List.take_take
def aqv:=@Go.run_program
def aqy:=@Nat.le_max_left
def aqB:=@List.length_singleton
def aqD:=@List.foldl_cons
def aqH:=@List.extract_eq_take_drop
def ar7:=@List.replicate_succ
def asa:=@beq_iff_eq
def asB:=@Option.isSome_iff_exists
def asC:=@List.map_nil
def asR:=@List.eq_of_mem_replicate
def atj:=@Bool.not_true
def awm:=@List.map_map
def aw3:=@List.take_append_of_le_length
def aw4:=@List.drop_append
def axd:=@Array.toList_extract
def axE:=@List.all_cons
def axR:=@List.drop_take
def axT:=@Array.getElem?_eq_getElem
def axV:=@Array.getElem?_replicate
def axZ:=@List.take_append
def ayX:=@Go.callsIn_of_wp_marks
def azs:=@Nat.ne_of_lt
def azC:=@Nat.min_self
def aAx:=@List.cons.injEq
def aAA:=@List.range_eq_range'
def aAC:=@List.mapM_cons
def aAP:=@Go.grownCap_ge
def aAR:=@Go.wpIn_seq
def aBi:=@List.size_toArray
def aBj:=@List.replicate_append_replicate
def aBo:=@Go.size_zeroCells
def aBp:=@Bool.not_eq_true'
def aBQ:=@Array.size_append
def aCd:=@decide_false
def aCo:=@List.drop_append_of_le_length
inductive AV where
 |bool(b:Bool)
 |int(k:IntKind)(n:Int)
 |str(s:ByteArray)
 |agg(cs:List AV)
 |aw(vs:List AV)
 |eB
 |ptr(id off:Nat)
 |dw(id ak i off:Nat)
 |fu(cs:List AV)(off:Nat)
 |dR(g:Nat)
 |aq
 |sl(af:List (List AV))(cD:Bool)
 |ref(id ak sz off len:Nat)(cD:Bool)
 |fA(id sz off len:Nat)
 |mW
 |mp(id:Nat)
 |mb(g:Nat)
 |fn(f:Fn)(first cap:List AV)
 |dx
 |dt(t:TypeId)(v:AV)
 |eX
 |jf
 deriving Inhabited
abbrev AV.undef:AV:=.aw []
def AV.cells:AV->List AV
 |.agg cs=>cs
 |v=>[v]
def AV.ck:AV->Bool
 |.aw _=>true
 |.jf=>true
 |_=>false
def AV.kj:Value->AV
 |.bool b=>.bool b
 |.int k n=>.int k n
 |.string s=>.str s
 |.pointer none=>.eB
 |.slice none n c=>if n=0/\c=0 then .aq else .jf
 |.map none=>.mW
 |.nilFunc=>.dx
 |.nilIface=>.eX
 |.tuple vs=>if vs.size=0 then .aw []else .jf
 |_=>.jf
def AV.ofValue:Value->AV
 |.agg cs=>.agg (cs.toList.map AV.kj)
 |.iface t v=>.dt t (AV.kj v)
 |v=>AV.kj v
mutual
def AV.refs:AV->Nat
 |.ptr id _=>id+1
 |.dw id _ _ _=>id+1
 |.ref id _ _ _ _ _=>id+1
 |.fA id _ _ _=>id+1
 |.mp id=>id+1
 |.agg cs=>aK cs
 |.aw cs=>aK cs
 |.fu cs _=>aK cs
 |.sl af _=>b9 af
 |.fn f a b=>max (match f with|.yield l=>l+1|_=>0) (max (aK a) (aK b))
 |.dt _ v=>v.refs
 |_=>0
def aK:List AV->Nat
 | []=>0
 |a::as=>max a.refs (aK as)
def b9:List (List AV)->Nat
 | []=>0
 |a::as=>max (aK a) (b9 as)
end
abbrev Env:=Nat->AV
def Env.set(e:Env)(d:Nat)(v:AV):Env:=λt=>if t=d then v else e t
inductive ao where
 |t(i:Nat)
 |c(v:AV)
 deriving Inhabited
def ao.get(e:Env):ao->AV
 |.t i=>e i
 |.c v=>v
inductive EK where
 |bool
 |int
 |str
 |ptr
 |sl
 |map
 |cap
 |fn
 |dt
 |AJ(ts:List TypeId)
 |agg(ks:List EK)
 deriving Inhabited
inductive I where
 |mov(x:ao)
 |pick(c a b:ao)
 |alloc(z:List AV)(tg:Option TypeId)
 |box(x:ao)(tg:Option TypeId:=none)
 |build(z:List AV)(parts:List (Nat×Nat×ao))
 |bslice(z:List AV)(len:Nat)(parts:List (Nat×Nat×ao))
 |sv(ty:TypeId)(z:List AV)(len:Nat)(parts:List (Nat×Nat×ao))
 |load(agg:Bool)(n:Nat)(a:ao)
 |store(n:Nat)(a v:ao)
 |nilck(x:ao)
 |bin(op:BinOp)(x y:ao)
 |shf(op:BinOp)(x y:ao)
 |eq(k:EK)(x y:ao)
 |ne(k:EK)(x y:ao)
 |un(op:UnOp)(x:ao)
 |conv(k:IntKind)(x:ao)
 |s2b(x:ao)
 |mki(t:TypeId)(x:ao)
 |mkf(f:Fn)(first cap:List ao)
 |oy
 |C7(ty:TypeId)(z:List AV)(bytes:Nat)(l c:ao)
 |slstr(x:ao)(lo hi:Option ao)
 |slsl(sz:Nat)(x:ao)(lo hi mx:Option ao)
 |slarr(n sz:Nat)(x:ao)(lo hi:Option ao)
 |faddr(off:Nat)(x:ao)
 |fld(agg:Bool)(n off:Nat)(x:ao)
 |iaddra(len sz:Nat)(x i:ao)
 |iaddrs(sz:Nat)(x i:ao)
 |idxa(agg:Bool)(len sz:Nat)(x i:ao)
 |idxs(x i:ao)
 |lookup(kk:EK)(z:AV)(m k:ao)(ok:Bool)
 |pN(kk:EK)(m k v:ao)
 |ta(z:AV)(x:ao)(t:TypeId)(ok:Bool)
 |ext(x:ao)(i:Nat)
 |len(k:EK)(x:ao)
 |append(ty:TypeId)(sz bytes:Nat)(s x:ao)
 |copy(sz:Nat)(d s:ao)
 |clear(z:List AV)(x:ao)
 |max(xs:List ao)
 |min(xs:List ao)
 |call(f:ao)(args:List ao)
 |panic(x:ao)
 deriving Inhabited
structure aR where
 g:Option (Nat×Bool)
 dst:oN
 i:I
 deriving Inhabited
inductive PC where
 |skip
 |aO(ops:List aR)
 |vo(ops:List (aR×lN))
 |seq(a b:PC)
 |cond(c:ao)(a b:PC)
 |block(id:Nat)(b:PC)
 |loop(b:PC)
 |gS(g:ao)(params:lN)(assign body:PC)
 |exit(id:Nat)
 |ret
 deriving Inhabited
inductive RV where
 |t(i:Nat)
 |cell(a:Nat)(agg:Bool)(n:Nat)
 deriving Inhabited
structure PF where
 ntmps:Nat
 results:List RV
 body:PC
 deriving Inhabited
inductive ae where
 |box(cs:List AV)(tg:Option TypeId)
 |row(ak sz:Nat)(ty:TypeId)(af:List (List AV))
 |map(es:List (AV×AV))
 |loop(state:LoopState)(pending:Option PC)(fn:FuncId)(env:Env)(params:lN)(assign body:PC)
 |bt
 |dead
 deriving Inhabited
structure AS where
 heap:List ae
 lo:oN
 deriving Inhabited
inductive aU where
 |ret(v:AV)(E:AS)
 |panic(v:AV)(E:AS)
 deriving Inhabited
abbrev bz:=AV->List AV->AS->Option aU
structure Ctx where
 dR:Nat->Option (List AV)
 code:FuncId->Option PF
 bW:FuncId->Option (List AV->AS->Option aU)
 fZ:Nat->Option (List (AV×AV)):=λ_=>none
def AS.push(E:AS)(o:ae):AS:={E with heap:=E.heap++[o]}
def cJ(a:oN)(i:Nat):oN:=match a with|none=>some i|some j=>some (Nat.min i j)
def gB(a b:oN):oN:=match b with|none=>a|some j=>cJ a j
def AS.set(E:AS)(id:Nat)(o:ae)(refs:Nat):AS:=
 {heap:=E.heap.set id o,lo:=if refs<=id+1 then E.lo else cJ E.lo id}
def part(agg:Bool)(n:Nat)(cs:List AV)(off:Nat):Option AV:=
 if agg then(if off+n<=cs.length then some (.agg ((cs.drop off).take n))else none)else cs[off]?
def aM(cs:List AV)(off:Nat)(vs:List AV):List AV:=cs.take off++(vs++cs.drop (off+vs.length))
def eK(cs:List AV):List (Nat×Nat×AV)->Option (List AV)
 | []=>some cs
 | (off,n,v)::rest=>if v.ck=false/\v.cells.length=n/\off+n<=cs.length then eK (aM cs off v.cells) rest else none
def chunks(sz:Nat):Nat->List AV->List (List AV)
 |0,_=>[]
 |k+1,cs=>cs.take sz::chunks sz k (cs.drop sz)
def AV.AK:AV->Bool
 |.ptr .. |.dw .. |.fu .. |.dR _=>true
 |_=>false
def AV.AL:AV->Bool
 |.sl .. |.ref .. |.fA .. =>true
 |_=>false
def qS:EK->AV->AV->Option Bool
 |.bool,.bool a,.bool b=>some (a==b)
 |.int,.int k a,.int k' b=>if k=k' then some (a==b)else none
 |.str,.str a,.str b=>some (a.toList==b.toList)
 |.ptr,.eB,.eB=>some true
 |.ptr,.eB,b=>if b.AK then some false else none
 |.ptr,a,.eB=>if a.AK then some false else none
 |.sl,.aq,.aq=>some true
 |.sl,.aq,b=>if b.AL then some false else none
 |.sl,a,.aq=>if a.AL then some false else none
 |.map,.mW,.mW=>some true
 |.map,.mW,.mp _=>some false
 |.map,.mp _,.mW=>some false
 |.fn,.dx,.dx=>some true
 |.fn,.dx,.fn .. =>some false
 |.fn,.fn ..,.dx=>some false
 |.dt,.eX,.eX=>some true
 |.dt,.eX,.dt .. =>some false
 |.dt,.dt ..,.eX=>some false
 |.AJ ts,.dt t (.int k a),.dt t' (.int k' b)=>if t=t' then(if ts.contains t/\k=k' then some (a==b)else none)else some false
 |_,_,_=>none
def jy:List EK->List AV->List AV->Option Bool
 | [],[],[]=>some true
 |k::c,a::as,b::bs=>match qS k a b with
  |some true=>jy c as bs
  |some false=>some false
  |none=>none
 |_,_,_=>none
def dy:EK->AV->AV->Option Bool
 |.agg a,.agg xs,.agg ys=>if xs.length=a.length/\ys.length=a.length then jy a xs ys else none
 |.agg _,_,_=>none
 |k,x,y=>qS k x y
def wL(a:BinOp)(k:IntKind)(x y:Int):Option AV:=
 match a with
 |.and=>some (.int k (k.wrap (BitVec.ofInt k.bits x&&&BitVec.ofInt k.bits y).toNat))
 |.or=>some (.int k (k.wrap (BitVec.ofInt k.bits x|||BitVec.ofInt k.bits y).toNat))
 |.xor=>some (.int k (k.wrap (BitVec.ofInt k.bits x^^^BitVec.ofInt k.bits y).toNat))
 |.andNot=>some (.int k (k.wrap (BitVec.ofInt k.bits x&&& ~~~ (BitVec.ofInt k.bits y)).toNat))
 |_=>none
def mX(a:BinOp)(k:IntKind)(x y:Int):Option AV:=
 match a with
 |.add=>some (.int k (k.wrap (x+y)))
 |.sub=>some (.int k (k.wrap (x-y)))
 |.mul=>some (.int k (k.wrap (x*y)))
 |.quo=>if y=0 then none else some (.int k (k.wrap (x.tdiv y)))
 |.rem=>if y=0 then none else some (.int k (x.tmod y))
 |.eql=>some (.bool (x==y))
 |.neq=>some (.bool (x !=y))
 |.lss=>some (.bool (x<y))
 |.leq=>some (.bool (x<=y))
 |.gtr=>some (.bool (x>y))
 |.geq=>some (.bool (x>=y))
 |a=>wL a k x y
def wN(a:BinOp)(k:IntKind)(x y:Int):Option AV:=
 if y<0 then none else
 match a with
 |.shl=>some (.int k (k.wrap (x*2^(min y.toNat k.bits))))
 |.shr=>some (.int k (x.fdiv (2^(min y.toNat k.bits))))
 |_=>none
def VF:Nat:=1152921504606846976
def VG(a:BinOp)(x y:ByteArray):Option AV:=
 match a with
 |.add=>if x.size+y.size<=VF then some (.str (x++y))else none
 |.eql=>some (.bool (x.toList==y.toList))
 |.neq=>some (.bool !(x.toList==y.toList))
 |.lss=>some (.bool (Op.bytesLess x.toList y.toList))
 |.leq=>some (.bool (Op.bytesLess x.toList y.toList||x.toList==y.toList))
 |.gtr=>some (.bool !(Op.bytesLess x.toList y.toList||x.toList==y.toList))
 |.geq=>some (.bool !(Op.bytesLess x.toList y.toList))
 |_=>none
def dA(c:BinOp):AV->AV->Option AV
 |.int k a,.int k' b=>if k=k' then mX c k a b else none
 |.str a,.str b=>VG c a b
 |_,_=>none
def yu(a:UnOp)(x:AV):Option AV:=
 match a,x with
 |.neg,.int k n=>some (.int k (k.wrap (0-n)))
 |.xor,.int k n=>wL .xor k (if k.signed then-1 else k.max) n
 |.not,.bool b=>some (.bool !b)
 |_,_=>none
inductive Out where
 |ok(v:AV)(E:AS)
 |panic(v:AV)(E:AS)
def ga(E:AS):Option AV->Option Out
 |some v=>some (.ok v E)
 |none=>none
variable(X:Ctx)
def cm(E:AS)(agg:Bool)(n:Nat)(a:AV):Option AV:=
 match a with
 |.ptr id off=>match E.heap[id]? with
  |some (.box cs _)=>part agg n cs off
  |_=>none
 |.dw id ak i off=>match E.heap[id]? with
  |some (.row v sz _ af)=>if v=ak then(af[i]?).bind λel=>if el.length=sz then part agg n el off else none else none
  |_=>none
 |.fu cs off=>part agg n cs off
 |.dR g=>(X.dR g).bind λcs=>part agg n cs 0
 |_=>none
def km(E:AS)(n:Nat)(a v:AV):Option AS:=
 match a with
 |.ptr id off=>match E.heap[id]? with
  |some (.box cs tg)=>if v.ck=false/\v.cells.length=n/\off+n<=cs.length then some (E.set id (.box (aM cs off v.cells) tg) v.refs)else none
  |_=>none
 |.dw id ak i off=>match E.heap[id]? with
  |some (.row w sz ty af)=>match af[i]? with
   |some el=>if w=ak/\el.length=sz/\v.ck=false/\v.cells.length=n/\off+n<=el.length then some (E.set id (.row ak sz ty (af.set i (aM el off v.cells))) v.refs)else none
   |none=>none
  |_=>none
 |_=>none
def elems(E:AS)(sz:Nat):AV->Option (List (List AV))
 |.aq=>some []
 |.sl af _=>if af.all (λel=>el.length==sz)then some af else none
 |.ref id ak a off len _=>match E.heap[id]? with
  |some (.row v b _ af)=>if v=ak/\b=sz/\a=sz/\off+len<=af.length then some ((af.drop off).take len)else none
  |_=>none
 |.fA id b off len=>match E.heap[id]? with
  |some (.box cs _)=>if b=sz/\off+len*sz<=cs.length then some (chunks sz len (cs.drop off))else none
  |_=>none
 |_=>none
def sw:AV->Option Int
 |.int _ n=>some n
 |_=>none
def mc(n:Nat):Option AV->Nat->oN
 |none,d=>some d
 |some (.int _ i),_=>if 0<=i/\i<=n then some i.toNat else none
 |some _,_=>none
def gC(len:Nat)(b a:Option AV):Option (Nat×Nat):=
 match mc len a len with
 |some h=>match mc h b 0 with
  |some l=>some (l,h)
  |none=>none
 |none=>none
def vq(x:AV)(b a:Option AV):Option AV:=
 match x with
 |.str s=>match gC s.size b a with
  |some (l,h)=>some (.str (s.extract l h))
  |none=>none
 |_=>none
def me(len h:Nat)(cD:Bool):Option AV->Option Bool
 |none=>some (cD&&h==len)
 |some (.int _ i)=>if(h:Int)<=i/\i<=len then some (i==h)else none
 |some _=>none
def gE(n:Nat)(x:AV)(b a d:Option AV):Option AV:=
 match x with
 |.aq=>match gC 0 b a,me 0 0 true d with
  |some _,some _=>some .aq
  |_,_=>none
 |.sl af cD=>match gC af.length b a with
  |some (l,h)=>match me af.length h cD d with
   |some c=>if af.all (λel=>el.length==n)then some (.sl ((af.drop l).take (h-l)) c)else none
   |none=>none
  |none=>none
 |.ref id ak sz off len cD=>match gC len b a with
  |some (l,h)=>match me len h cD d with
   |some c=>if sz=n then some (.ref id ak sz (off+l) (h-l) c)else none
   |none=>none
  |none=>none
 |.fA id sz off len=>match gC len b a,d with
  |some (l,h),none=>if sz=n then some (.fA id sz (off+l*sz) (h-l))else none
  |_,_=>none
 |_=>none
def qT(n sz:Nat)(x:AV)(b a:Option AV):Option AV:=
 match gC n b a with
 |some (l,h)=>match x with
  |.ptr id off=>some (.fA id sz (off+l*sz) (h-l))
  |.fu cs off=>if off+n*sz<=cs.length then some (.sl (chunks sz (h-l) (cs.drop (off+l*sz))) false)else none
  |.dR g=>match X.dR g with
   |some cs=>if n*sz<=cs.length then some (.sl (chunks sz (h-l) (cs.drop (l*sz))) false)else none
   |none=>none
  |_=>none
 |none=>none
def sx(s:ByteArray):List (List AV):=s.data.toList.map λb=>[.int .u8 b.toNat]
def wO:List (List AV)->Option lB
 | []=>some []
 | [.int .u8 n]::r=>(wO r).map (UInt8.ofNat n.toNat:: ·)
 |_=>none
def room:Nat:=1099511627776
def dJ(E:AS)(ty:TypeId)(sz bytes:Nat)(s:AV)(ys:List (List AV)):Option (AV×AS):=
 if 0<sz/\ys.all (λel=>el.length==sz)then
  match s with
  |.aq=>if ys.length=0 then some (.aq,E)else
   if ys.length*bytes<=room then some (.ref E.heap.length 0 sz 0 ys.length false,E.push (.row 0 sz ty ys))else none
  |.sl af true=>if ys.length=0 then some (s,E)else
   if(af.length+ys.length)*bytes<=room/\af.all (λel=>el.length==sz)then
    some (.ref E.heap.length 0 sz 0 (af.length+ys.length) false,E.push (.row 0 sz ty (af++ys)))else none
  |.sl _ false=>if ys.length=0 then some (s,E)else none
  |.ref id ak a off len cD=>
   match E.heap[id]? with
   |some (.row v c b af)=>
    if v=ak/\c=sz/\a=sz/\b=ty/\off+len<=af.length/\ (len+ys.length)*bytes<=room then
     if ys.length=0 then some (s,E)else
     if cD then some (.ref E.heap.length 0 sz 0 (len+ys.length) false,E.push (.row 0 sz ty ((af.drop off).take len++ys)))else
     some (.ref id (ak+1) sz 0 (len+ys.length) false,E.set id (.row (ak+1) sz ty ((af.drop off).take len++ys)) (b9 ys))
    else none
   |_=>none
  |_=>none
 else none
def pO:AV->AV->Option Bool
 |.int k a,.int k' b=>if k=k' then some (a==b)else none
 |.str a,.str b=>some (a==b)
 |.bool a,.bool b=>some (a==b)
 |_,_=>none
def eC(k:AV):List (AV×AV)->Option (Option AV)
 | []=>some none
 | (k',v)::es=>match pO k k' with
   |some true=>some (some v)
   |some false=>eC k es
   |none=>none
def mf(k v:AV):List (AV×AV)->Option (List (AV×AV))
 | []=>some [(k,v)]
 | (k',v')::es=>match pO k k' with
   |some true=>some ((k,v)::es)
   |some false=>(mf k v es).map ((k',v'):: ·)
   |none=>none
def mapOf(gm:Nat->Option (List (AV×AV)))(E:AS):AV->Option (List (AV×AV))
 |.mW=>some []
 |.mb g=>gm g
 |.mp id=>match E.heap[id]? with
  |some (.map es)=>some es
  |_=>none
 |_=>none
def isKey:AV->Bool
 |.int _ _|.str _|.bool _=>true
 |_=>false
def lj:EK->AV->Bool
 |.int,.int _ _|.str,.str _|.bool,.bool _=>true
 |_,_=>false
def jz(gm:Nat->Option (List (AV×AV)))(E:AS)(b:EK)(z m k:AV)(a:Bool):Option AV:=
 if lj b k then
  match mapOf gm E m with
  |some es=>match eC k es with
   |some (some v)=>some (if a then .aw [v,.bool true]else v)
   |some none=>some (if a then .aw [z,.bool false]else z)
   |none=>none
  |none=>none
 else none
def mY(E:AS)(b:EK)(m k v:AV):Option AS:=
 if lj b k then
  match m with
  |.mp id=>match E.heap[id]? with
   |some (.map es)=>match mf k v es with
    |some a=>some (E.set id (.map a) v.refs)
    |none=>none
   |_=>none
  |_=>none
 else none
def qU:AV->AV->Option AV
 |.int k x,.int _ y=>some (.int k (if y>x then y else x))
 |_,_=>none
def wP:AV->AV->Option AV
 |.int k x,.int _ y=>some (.int k (if y<x then y else x))
 |_,_=>none
def gl(E:AS):EK->AV->Option AV
 |.str,.str s=>some (.int .i64 s.size)
 |.sl,.aq=>some (.int .i64 0)
 |.sl,.sl af _=>some (.int .i64 af.length)
 |.sl,.ref _ _ _ _ n _=>some (.int .i64 n)
 |.sl,.fA _ _ _ n=>some (.int .i64 n)
 |.map,.mW=>some (.int .i64 0)
 |.map,.mp id=>match E.heap[id]? with
  |some (.map es)=>some (.int .i64 es.length)
  |_=>none
 |.cap,.aq=>some (.int .i64 0)
 |.cap,.sl af true=>some (.int .i64 af.length)
 |.cap,.ref _ _ _ _ n true=>some (.int .i64 n)
 |_,_=>none
def C8(E:AS)(sz:Nat)(s:AV):Option (List (List AV)):=
 match s with
 |.str b=>if sz=1 then some (sx b)else none
 |s=>elems E sz s
def sy(E:AS)(sz:Nat)(d s:AV):Option (AV×AS):=
 match C8 E sz s with
 |some ys=>match d with
  |.aq=>some (.int .i64 0,E)
  |.ref id ak a off len _=>match E.heap[id]? with
   |some (.row v b ty af)=>
    if v=ak/\b=sz/\a=sz/\off+len<=af.length then
     some (.int .i64 (Nat.min ys.length len),E.set id (.row ak sz ty (af.take off++(ys.take (Nat.min ys.length len)++af.drop (off+Nat.min ys.length len)))) (b9 ys))
    else none
   |_=>none
  |.fA id b off len=>match E.heap[id]? with
   |some (.box cs tg)=>
    if b=sz/\off+len*sz<=cs.length/\ys.all (λel=>el.length==sz)then
     some (.int .i64 (Nat.min ys.length len),E.set id (.box (aM cs off (ys.take (Nat.min ys.length len)).flatten) tg) (b9 ys))
    else none
   |_=>none
  |_=>none
 |none=>none
def sA(E:AS)(z:List AV)(x:AV):Option AS:=
 match x with
 |.aq=>some E
 |.ref id ak a off len _=>match E.heap[id]? with
  |some (.row v sz ty af)=>
   if v=ak/\a=sz/\sz=z.length/\off+len<=af.length/\aK z=0 then
    some (E.set id (.row ak sz ty (af.take off++(List.replicate len z++af.drop (off+len)))) 0)
   else none
  |_=>none
 |.fA id sz off len=>match E.heap[id]? with
  |some (.box cs tg)=>
   if sz=z.length/\off+len*sz<=cs.length/\aK z=0 then
    some (E.set id (.box (aM cs off (List.replicate len z).flatten) tg) 0)
   else none
  |_=>none
 |_=>none
def wQ(o:Nat)(x:AV):Option AV:=
 match x with
 |.ptr id off=>some (.ptr id (off+o))
 |.dw id ak i off=>some (.dw id ak i (off+o))
 |.fu cs off=>some (.fu cs (off+o))
 |.dR g=>match X.dR g with
  |some cs=>some (.fu cs o)
  |none=>none
 |_=>none
def vt(n sz:Nat)(x a:AV):Option AV:=
 match sw a with
 |some i=>if 0<=i/\i<n then
    match x with
    |.ptr id off=>some (.ptr id (off+i.toNat*sz))
    |.dw id ak j off=>some (.dw id ak j (off+i.toNat*sz))
    |.fu cs off=>some (.fu cs (off+i.toNat*sz))
    |.dR g=>match X.dR g with
     |some cs=>some (.fu cs (i.toNat*sz))
     |none=>none
    |_=>none
  else none
 |none=>none
def kn(sz:Nat)(x b:AV):Option AV:=
 match sw b with
 |some i=>match x with
  |.sl af _=>if 0<=i then match af[i.toNat]? with
     |some el=>if el.length=sz then some (.fu el 0)else none
     |none=>none
   else none
  |.ref id ak a off len _=>if 0<=i/\i<len/\a=sz then some (.dw id ak (off+i.toNat) 0)else none
  |.fA id a off len=>if 0<=i/\i<len/\a=sz then some (.ptr id (off+i.toNat*sz))else none
  |_=>none
 |none=>none
def qV(agg:Bool)(n sz:Nat)(x a:AV):Option AV:=
 match sw a,x with
 |some i,.agg cs=>if 0<=i/\i<n then part agg sz cs (i.toNat*sz)else none
 |_,_=>none
def yv(x a:AV):Option AV:=
 match sw a,x with
 |some i,.str s=>if 0<=i then match s.data.toList[i.toNat]? with
    |some b=>some (.int .u8 b.toNat)
    |none=>none
  else none
 |_,_=>none
def M3(E:AS)(ty:TypeId)(z:List AV)(bytes:Nat)(l c:AV):Option (AV×AS):=
 match l,c with
 |.int _ l,.int _ c=>if 0<=l/\l<=c/\c*bytes<=room/\c<=room then
    some (.ref E.heap.length 0 z.length 0 l.toNat false,E.push (.row 0 z.length ty (List.replicate l.toNat z)))
  else none
 |_,_=>none
def AM(z x:AV)(t:TypeId)(a:Bool):Option AV:=
 match x with
 |.eX=>if a then some (.aw [z,.bool false])else none
 |.dt t' v=>if t'=t then some (if a then .aw [v,.bool true]else v)else if a then some (.aw [z,.bool false])else none
 |_=>none
def aB4(a:List TypeId)(x:AV)(b:Bool):Option AV:=
 match x with
 |.eX=>if b then some (.aw [.eX,.bool false])else none
 |.dt t v=>if a.contains t then some (if b then .aw [.dt t v,.bool true]else .dt t v)else none
 |_=>none
def gF(f:AV->AV->Option AV):List AV->Option AV
 | []=>none
 | [x]=>some x
 |x::y::r=>match f x y with
  |some z=>gF f (z::r)
  |none=>none
termination_by l=>l.length
def wR:AV->Option AV
 |.ptr id off=>some (.ptr id off)
 |.dw id ak i off=>some (.dw id ak i off)
 |.fu cs off=>some (.fu cs off)
 |.dR g=>some (.dR g)
 |.fn (.func f) a b=>some (.fn (.func f) a b)
 |.fn (.yield l) a b=>some (.fn (.yield l) a b)
 |_=>none
def exec(C:bz)(i:I)(e:Env)(E:AS):Option Out:=
 match i with
 |.mov x=>some (.ok (x.get e) E)
 |.pick c a b=>match c.get e with
  |.bool t=>some (.ok (if t then a.get e else b.get e) E)
  |_=>none
 |.alloc z tg=>some (.ok (.ptr E.heap.length 0) (E.push (.box z tg)))
 |.box x tg=>if(x.get e).ck then none else some (.ok (.ptr E.heap.length 0) (E.push (.box (x.get e).cells tg)))
 |.build z parts=>match eK z (parts.map λp=>(p.1,p.2.1,p.2.2.get e))with
  |some cs=>some (.ok (.agg cs) E)
  |none=>none
 |.bslice z len parts=>match eK (List.replicate len z).flatten (parts.map λp=>(p.1,p.2.1,p.2.2.get e))with
  |some cs=>some (.ok (.sl (chunks z.length len cs) true) E)
  |none=>none
 |.sv ty z len parts=>match eK (List.replicate len z).flatten (parts.map λp=>(p.1,p.2.1,p.2.2.get e))with
  |some cs=>some (.ok (.ref E.heap.length 0 z.length 0 len false) (E.push (.row 0 z.length ty (chunks z.length len cs))))
  |none=>none
 |.load agg n a=>ga E (cm X E agg n (a.get e))
 |.store n a v=>match km E n (a.get e) (v.get e)with
  |some g=>some (.ok .undef g)
  |none=>none
 |.nilck x=>ga E (wR (x.get e))
 |.bin op x y=>ga E (dA op (x.get e) (y.get e))
 |.shf op x y=>match x.get e,y.get e with
  |.int k a,.int _ b=>ga E (wN op k a b)
  |_,_=>none
 |.eq k x y=>match dy k (x.get e) (y.get e)with
  |some b=>some (.ok (.bool b) E)
  |none=>none
 |.ne k x y=>match dy k (x.get e) (y.get e)with
  |some b=>some (.ok (.bool !b) E)
  |none=>none
 |.un op x=>ga E (yu op (x.get e))
 |.conv k x=>match x.get e with
  |.int _ n=>some (.ok (.int k (k.wrap n)) E)
  |_=>none
 |.s2b x=>match x.get e with
  |.str s=>if s.size<=room then some (.ok (.sl (sx s) false) E)else none
  |_=>none
 |.mki t x=>some (.ok (.dt t (x.get e)) E)
 |.mkf f first cap=>some (.ok (.fn f (first.map (·.get e)) (cap.map (·.get e))) E)
 |.oy=>some (.ok (.mp E.heap.length) (E.push (.map [])))
 |.C7 ty z bytes l c=>match M3 E ty z bytes (l.get e) (c.get e)with
  |some (v,g)=>some (.ok v g)
  |none=>none
 |.slstr x lo h=>ga E (vq (x.get e) (lo.map (·.get e)) (h.map (·.get e)))
 |.slsl n x lo h q=>ga E (gE n (x.get e) (lo.map (·.get e)) (h.map (·.get e)) (q.map (·.get e)))
 |.slarr n sz x lo h=>ga E (qT X n sz (x.get e) (lo.map (·.get e)) (h.map (·.get e)))
 |.faddr o x=>ga E (wQ X o (x.get e))
 |.fld agg n off x=>match x.get e with
  |.agg cs=>ga E (part agg n cs off)
  |_=>none
 |.iaddra n sz x i=>ga E (vt X n sz (x.get e) (i.get e))
 |.iaddrs sz x i=>ga E (kn sz (x.get e) (i.get e))
 |.idxa agg n sz x i=>ga E (qV agg n sz (x.get e) (i.get e))
 |.idxs x i=>ga E (yv (x.get e) (i.get e))
 |.lookup j z m k ok=>ga E (jz X.fZ E j z (m.get e) (k.get e) ok)
 |.pN j m k v=>match mY E j (m.get e) (k.get e) (v.get e)with
  |some g=>some (.ok .undef g)
  |none=>none
 |.ta z x t ok=>ga E (AM z (x.get e) t ok)
 |.ext x i=>match x.get e with
  |.aw vs=>ga E (vs[i]?)
  |_=>none
 |.len k x=>ga E (gl E k (x.get e))
 |.append ty sz bytes s x=>match elems E sz (x.get e)with
  |some ys=>match dJ E ty sz bytes (s.get e) ys with
   |some (v,g)=>some (.ok v g)
   |none=>none
  |none=>none
 |.copy sz d s=>match sy E sz (d.get e) (s.get e)with
  |some (v,g)=>some (.ok v g)
  |none=>none
 |.clear z x=>match sA E z (x.get e)with
  |some g=>some (.ok .undef g)
  |none=>none
 |.max xs=>ga E (gF qU (xs.map (·.get e)))
 |.min xs=>ga E (gF wP (xs.map (·.get e)))
 |.call f args=>match C (f.get e) (args.map (·.get e)) E with
  |some (.ret v g)=>some (.ok v g)
  |some (.panic v g)=>some (.panic v g)
  |none=>none
 |.panic x=>match x.get e with
  |.dt t v=>some (.panic (.dt t v) E)
  |_=>none
structure Fr where
 env:Env
 marks:lN
 deriving Inhabited
def Fr.put(a:Fr)(dst:oN)(v:AV):Fr:=
 match dst with
 |some d=>{a with env:=a.env.set d v}
 |none=>a
inductive Ex where
 |normal
 |exit(id:Nat)
 |ret
 |panic(v:AV)
abbrev jA:=Option (Ex×Fr×AS)
def gn(e:Env):Option (Nat×Bool)->Bool
 |none=>true
 |some (t,want)=>match e t with
  |.bool b=>b==want
  |_=>false
def fj(C:bz):List aR->Fr->AS->jA
 | [],fr,E=>some (.normal,fr,E)
 |o::os,fr,E=>
  if gn fr.env o.g then
   match exec X C o.i fr.env E with
   |some (.ok v a)=>fj C os (fr.put o.dst v) a
   |some (.panic v a)=>some (.panic v,fr,a)
   |none=>none
  else fj C os (fr.put o.dst .undef) E
inductive FP where
 |no
 |rd(id off n:Nat)
 |q
 |wr(id off n:Nat)
 |app
 |all
 |rr
def FP.ok:FP->FP->Bool
 |.no,_=>true
 |_,.no=>true
 |.rd ..,.rd .. =>true
 |.rd ..,.q=>true
 |.q,.rd .. =>true
 |.q,.q=>true
 |.rd id off n,.wr b a c=>id !=b||off+n<=a||a+c<=off
 |.wr id off n,.rd b a c=>id !=b||off+n<=a||a+c<=off
 |.rd ..,.app=>true
 |.app,.rd .. =>true
 |.rr,.rd .. =>true
 |.rd ..,.rr=>true
 |.rr,.q=>true
 |.q,.rr=>true
 |.rr,.rr=>true
 |.rr,.wr .. =>true
 |.wr ..,.rr=>true
 |_,_=>false
open Classical in
noncomputable def aY(i:I)(e:Env)(E b:AS):FP:=
 match i with
 |.load _ n a=>match a.get e with
  |.ptr id off=>.rd id off (Nat.max n 1)
  |.dw .. =>.rr
  |.fu .. =>.no
  |.dR _=>.no
  |_=>.all
 |.lookup .. =>.q
 |.len k _=>match k with
  |.map=>.q
  |_=>.no
 |.store n a _=>match a.get e with
  |.ptr id off=>.wr id off n
  |.dw .. =>.app
  |_=>.all
 |.append .. =>.app
 |.call .. =>if b=E then .q else .all
 |.alloc _ _|.box .. |.sv .. |.oy|.C7 .. |.pN .. |.copy .. |.clear .. |.panic _=>.all
 |_=>.no
def I.cls:I->Nat
 |.mov _|.pick .. |.build .. |.bslice .. |.nilck _|.bin .. |.shf .. |.eq .. |.ne .. |.un .. |.conv .. |.s2b _|.mki .. |.mkf .. =>0
 |.slstr .. |.slsl .. |.slarr .. |.faddr .. |.fld .. |.iaddra .. |.iaddrs .. |.idxa .. |.idxs .. |.ta .. |.ext .. |.max _|.min _=>0
 |.load .. |.lookup .. |.len .. =>1
 |.call .. =>2
 |_=>3
def ao.tmps:ao->lN
 |.t i=>[i]
 |.c _=>[]
def hO(l:List ao):lN:=l.flatMap ao.tmps
def I.reads:I->lN
 |.mov x|.box x _|.nilck x|.un _ x|.conv _ x|.s2b x|.mki _ x|.ta _ x _ _|.ext x _|.len _ x|.clear _ x|.panic x=>x.tmps
 |.alloc _ _|.oy=>[]
 |.pick a b c|.pN _ a b c=>hO [a,b,c]
 |.build _ ps|.bslice _ _ ps|.sv _ _ _ ps=>hO (ps.map (·.2.2))
 |.load _ _ a=>a.tmps
 |.store _ a v|.bin _ a v|.shf _ a v|.eq _ a v|.ne _ a v|.C7 _ _ _ a v|.iaddra _ _ a v|.iaddrs _ a v|.idxa _ _ _ a v|.idxs a v
 |.lookup _ _ a v _|.append _ _ _ a v|.copy _ a v=>hO [a,v]
 |.mkf _ a b=>hO (a++b)
 |.slstr x lo d|.slarr _ _ x lo d=>hO (x:: (lo.toList++d.toList))
 |.slsl _ x lo d e=>hO (x:: (lo.toList++d.toList++e.toList))
 |.faddr _ x|.fld _ _ _ x=>x.tmps
 |.max xs|.min xs=>hO xs
 |.call f as=>hO (f::as)
def aR.reads(o:aR):lN:=o.i.reads++(match o.g with|some (t,_)=>[t]|none=>[])
def C9(l m:lN):Bool:=l.all λx=>!m.contains x
def ko(x y:aR):Bool:=
 C9 x.dst.toList y.reads&&C9 y.dst.toList x.reads&&C9 x.dst.toList y.dst.toList
def FP.is:FP->Bool
 |.no=>false
 |_=>true
def Da(a:List FP)(o:aR×lN)(os:List (aR×lN)):Bool:=
 o.2.isEmpty&& (o.1.i.cls !=0&& ((o.1.i.cls==2||a.all FP.is)&&os.all λo'=>if o'.1.i.cls=0 then !ko o.1 o'.1 else !o'.2.contains a.length))
noncomputable def gH(C:bz):List FP->List (aR×lN)->Fr->AS->jA
 |_,[],fr,E=>some (.normal,fr,E)
 |a,o::os,fr,E=>
  if gn fr.env o.1.g then
   match exec X C o.1.i fr.env E with
   |some (.ok v b)=>
    if o.2.all (λj=>((a.getD j .all).ok (aY o.1.i fr.env E b)))then
     gH C (a++[aY o.1.i fr.env E b]) os (fr.put o.1.dst v) b
    else none
   |some (.panic v b)=>if Da a o os then some (.panic v,fr,b)else none
   |none=>none
  else gH C (a++[.no]) os (fr.put o.1.dst .undef) E
def aR.fP(x:aR):Option ae:=match x.i with
 |.alloc z tg=>some (.box z tg)
 |_=>none
def mg(m:Nat)(x:aR):aR:=match x.fP with
 |some _=>{x with i:=.mov (.c (.ptr m 0))}
 |none=>x
def il:Nat->List (aR×lN)->List (aR×lN)
 |_,[]=>[]
 |n,o::os=>(mg n o.1,o.2)::il (match o.1.fP with|some _=>n+1|none=>n) os
def dL:List (aR×lN)->List ae
 | []=>[]
 |o::os=>match o.1.fP with
  |some b=>b::dL os
  |none=>dL os
def AS.mZ(E:AS)(os:List ae):AS:={E with heap:=E.heap++os}
def wS:PC->Option Ex
 |.ret=>some .ret
 |.exit id=>some (.exit id)
 |_=>none
abbrev eL:=(Fr->AS->jA)->Fr->AS->jA
def pP:AV->Bool
 |.fn (.func f) _ _=>(X.bW f).isNone&& (X.code f).isSome
 |_=>false
def endLoop(l:Nat)(b:Fr)(E:AS):jA:=
 match E.heap[l]? with
 |some (.loop st a f env ps as bd)=>
  if st= .busy then none else
  match a with
  |none=>some (.normal,b,E.set l (.loop .exhausted a f env ps as bd) 0)
  |some j=>match wS j with
   |some ex=>some (ex,b,E.set l (.loop .exhausted a f env ps as bd) 0)
   |none=>none
 |_=>none
noncomputable def bc(C:bz)(L:eL)(bR:FuncId)(rd:Bool):PC->Fr->AS->jA
 |.skip,fr,E=>some (.normal,fr,E)
 |.seq a b,fr,E=>match bc C L bR rd a fr E with
  |some (.normal,d,e)=>bc C L bR rd b d e
  |r=>r
 |.cond c a b,fr,E=>match c.get fr.env with
  |.bool t=>if t then bc C L bR rd a fr E else bc C L bR rd b fr E
  |_=>none
 |.block id body,fr,E=>match bc C L bR rd body fr E with
  |some (.exit f,d,e)=>if f=id then some (.normal,d,e)else some (.exit f,d,e)
  |r=>r
 |.loop body,fr,E=>L (bc C L bR rd body) fr E
 |.exit id,fr,E=>some (.exit id,fr,E)
 |.ret,fr,E=>some (.ret,fr,E)
 |.aO ops,fr,E=>fj X C ops fr E
 |.vo ops,fr,E=>gH X C [] (il E.heap.length ops) fr (E.mZ (dL ops))
 |.gS g params assign body,fr,E=>
  if rd then none else
  if pP X (g.get fr.env)then
   match C (g.get fr.env) [.fn (.yield (E.heap.length+1)) [] []] ((E.push .bt).push (.loop .ready none bR fr.env params assign body))with
   |some (.ret _ e)=>endLoop (E.heap.length+1) {fr with marks:=E.heap.length::fr.marks} e
   |some (.panic v e)=>some (.panic v,{fr with marks:=E.heap.length::fr.marks},e)
   |none=>none
  else none
mutual
def freeze(E:AS)(n:Nat):Nat->AV->Option AV
 |0,_=>none
 |k+1,v=>if v.refs<=n then some v else
  match v with
  |.ref id ak sz off len cD=>match E.heap[id]? with
   |some (.row v c _ af)=>if v=ak/\c=sz/\off+len<=af.length then
      match sB E n k ((af.drop off).take len)with
      |some a=>some (.sl a cD)
      |none=>none
    else none
   |_=>none
  |.agg cs=>match iL E n k cs with
   |some b=>some (.agg b)
   |none=>none
  |.aw cs=>match iL E n k cs with
   |some b=>some (.aw b)
   |none=>none
  |.sl af cD=>match sB E n k af with
   |some a=>some (.sl a cD)
   |none=>none
  |_=>none
def iL(E:AS)(n:Nat):Nat->List AV->Option (List AV)
 |_,[]=>some []
 |0,_::_=>none
 |k+1,a::as=>match freeze E n k a with
  |some a'=>match iL E n (k+1) as with
   |some b=>some (a'::b)
   |none=>none
  |none=>none
def sB(E:AS)(n:Nat):Nat->List (List AV)->Option (List (List AV))
 |_,[]=>some []
 |0,_::_=>none
 |k+1,a::as=>match iL E n k a with
  |some a'=>match sB E n (k+1) as with
   |some b=>some (a'::b)
   |none=>none
  |none=>none
end
def finish(n:Nat)(dS:oN)(v:AV)(E:AS):AV×AS:=
 if(match E.lo with|none=>true|some j=>n<=j)then
  match freeze E n 12 v with
  |some v'=>(v',{heap:=E.heap.take n,lo:=dS})
  |none=>(v,{heap:=E.heap,lo:=gB dS E.lo})
 else(v,{heap:=E.heap,lo:=gB dS E.lo})
def pQ(E:AS)(e:Env):RV->Option AV
 |.t i=>some (e i)
 |.cell a agg n=>cm X E agg n (e a)
def kp(E:AS)(e:Env):List RV->Option (List AV)
 | []=>some []
 |r::rs=>match pQ X E e r with
  |some v=>match kp E e rs with
   |some vs=>some (v::vs)
   |none=>none
  |none=>none
def fQ(E:AS)(e:Env)(a:List RV):Option AV:=
 match kp X E e a with
 |some [v]=>some v
 |some vs=>some (.aw vs)
 |none=>none
def dU(E:AS):lN->Option AS
 | []=>some E
 |m::ms=>match E.heap[m]? with
  |some .bt=>dU (E.set m .dead 0) ms
  |_=>none
def dq(args:List AV):Env:=λt=>args.getD t .undef
def hU(e:Env):lN->List AV->Env
 |p::ps,a::as=>hU (e.set p a) ps as
 |_,_=>e
def qW(n:Nat)(dS:oN)(pf:PF)(b:Fr)(E:AS):Option aU:=
 match dU E b.marks with
 |some a=>match fQ X a b.env pf.results with
  |some v=>some (.ret (finish n dS v a).1 (finish n dS v a).2)
  |none=>none
 |none=>none
def leave(n:Nat)(dS:oN)(pf:PF):jA->Option aU
 |some (.normal,fr,E)=>qW X n dS pf fr E
 |some (.ret,fr,E)=>qW X n dS pf fr E
 |some (.panic v,fr,E)=>match dU E fr.marks with
  |some a=>some (.panic (finish n dS v a).1 (finish n dS v a).2)
  |none=>none
 |_=>none
def pR:Ex->Option (Option PC)
 |.normal=>some none
 |.ret=>some (some .ret)
 |.exit id=>some (some (.exit id))
 |.panic _=>none
def endRound(l n:Nat)(dS:oN):jA->Option aU
 |some (ex,_,E)=>match pR ex,E.heap[l]? with
  |some j,some (.loop _ _ f env ps as bd)=>
   some (.ret (.bool j.isNone) (finish n dS (.bool j.isNone) (E.set l (.loop (if j.isNone then .ready else .done) j f env ps as bd) 0)).2)
  |_,_=>none
 |none=>none
noncomputable def kq(C:bz)(L:eL)(l:Nat)(args:List AV)(E:AS):Option aU:=
 match E.heap[l]? with
 |some (.loop _ _ f env ps assign body)=>
  if args.length=ps.length then
   match bc X C L f true assign {env:=hU env ps args,marks:=[]} {E with lo:=none}with
   |some (.normal,fr,a)=>
    match a.heap[l]? with
    |some (.loop .ready b g c d e jg)=>
     endRound l E.heap.length E.lo (bc X C L f true body fr (a.set l (.loop .busy b g c d e jg) 0))
    |_=>none
   |_=>none
  else none
 |_=>none
noncomputable def step(C:bz)(L:eL):bz
 |.fn (.func f) first cap,args,E=>
  match X.bW f with
  |some p=>p (first++args++cap) E
  |none=>
   match X.code f with
   |some pf=>
    if(first++args++cap).length<=pf.ntmps then
     leave X E.heap.length E.lo pf (bc X C L f false pf.body {env:=dq (first++args++cap),marks:=[]} {E with lo:=none})
    else none
   |none=>none
 |.fn (.yield l) [] _,args,E=>kq X C L l args E
 |_,_,_=>none
def iter:Nat->eL
 |0,_,_,_=>none
 |n+1,body,fr,E=>match body fr E with
  |some (.normal,a,b)=>iter n body a b
  |r=>r
noncomputable def iM:Nat->bz
 |0=>λ_ _ _=>none
 |n+1=>step X (iM n) (iter n)
section
variable(P:Program)
def cw(t:TypeId):oN:=(P.info? t).map (·.size)
def yw(t:TypeId):oN:=(P.info? t).map (·.bytes)
def nA(t:TypeId):Option Bool:=(P.underlying t).map λ |.struct _|.array _ _=>true|_=>false
def AV.plain:AV->Bool
 |.jf=>false
 |_=>true
def Hc:Value->Bool
 |.agg cs=>cs.toList.all λv=>(AV.kj v).plain&& !(AV.kj v).ck
 |.iface _ v=>(AV.kj v).plain
 |v=>(AV.kj v).plain
def zeroV(t:TypeId):Option Value:=(P.info? t).bind (·.zero)
def yx(t:TypeId):Option AV:=
 match zeroV P t with
 |some z=>if Hc z then some (AV.ofValue z)else none
 |none=>none
def hY(t:TypeId):Option (List AV):=
 match yx P t,cw P t with
 |some z,some n=>if z.ck=false/\z.cells.length=n then some z.cells else none
 |_,_=>none
def sD:List AV->TypeId->Option TypeId
 | [.eB,.aq],t=>some t
 |_,_=>none
def bK:Operand->Option ao
 |.tmp t=>some (.t t)
 |.const v=>if Hc v then some (.c (AV.ofValue v))else none
 |.global g=>some (.c (.dR g))
 |.func f=>some (.c (.fn (.func f) [] []))
def oz:List Operand->Option (List ao)
 | []=>some []
 |x::xs=>match bK x,oz xs with
  |some y,some ys=>some (y::ys)
  |_,_=>none
def vu:Option Operand->Option (Option ao)
 |none=>some none
 |some x=>(bK x).map some
def parts(a:Nat->Option (Nat×Nat)):List (Nat×Operand)->Option (List (Nat×Nat×ao))
 | []=>some []
 | (i,x)::r=>match a i,bK x,parts a r with
   |some (off,n),some y,some b=>some ((off,n,y)::b)
   |_,_,_=>none
def AN(f:TypeId->Option (List EK)):List Field->Nat->Option (List EK)
 | [],_=>some []
 |g::gs,off=>match f g.type with
  |some a=>if g.name≠ "_" /\g.offset=off/\cw P g.type=some a.length then(AN f gs (off+a.length)).map (a++ ·)else none
  |none=>none
def oA:Nat->TypeId->Option (List EK)
 |0,_=>none
 |d+1,t=>match P.underlying t with
  |some .bool=>some [.bool]
  |some (.int _)=>some [.int]
  |some .string=>some [.str]
  |some (.struct fields)=>if P.stoodInHeld t=false then AN P (oA d) fields.toList 0 else none
  |some (.array n e)=>match oA d e with
   |some a=>if cw P e=some a.length/\n*a.length<=1024 then some (List.replicate n a).flatten else none
   |none=>none
  |_=>none
def VH:List TypeId:=
 (List.range P.types.size).filter λt=>match P.info? t,P.underlying t with
   |some i,some (.int _)=>i.comparable
   |_,_=>false
def yy(t:TypeId)(x y:Operand):Option EK:=
 match P.underlying t with
 |some .bool=>some .bool
 |some (.int _)=>some .int
 |some .string=>some .str
 |some (.pointer _)=>some .ptr
 |some (.slice _)=>some .sl
 |some (.map _ _)=>some .map
 |some (.func _ _ _)=>some .fn
 |some (.interface _)=>(match x,y with|.const .nilIface,_=>some .dt|_,.const .nilIface=>some .dt|_,_=>some (.AJ (VH P)))
 |some (.struct _)=>if P.eqGuardType P.depth t=false then(oA P 10 t).map .agg else none
 |some (.array _ _)=>if P.eqGuardType P.depth t=false then(oA P 10 t).map .agg else none
 |_=>none
def AO(t:TypeId):Option EK:=
 match P.underlying t with
 |some .bool=>some .bool
 |some (.int _)=>some .int
 |some .string=>some .str
 |_=>none
def aB5(t:TypeId):Bool:=match zeroV P t with|some .nilIface=>true|_=>false
def VI:Fn->Bool
 |.yield _=>true
 |_=>false
def aB6(a:Array (String×TypeId)):List TypeId:=
 (List.range P.types.size).filter λt=>match P.info? t with
   |some i=>(Instr.missingMethod a i.methods).isNone
   |none=>false
def Db(a:TypeId)(c:Call):Option I:=
 match c.callee,c.argTypes.toList,c.args.toList with
 |.value f,_,args=>match bK f,oz args with
  |some f,some as=>some (.call f as)
  |_,_=>none
 |.builtin .len,[t],[x]=>match P.underlying t with
  |some .string=>(bK x).map (.len .str)
  |some (.slice _)=>(bK x).map (.len .sl)
  |some (.map _ _)=>(bK x).map (.len .map)
  |_=>none
 |.builtin .append,[st,g],[s,x]=>match P.underlying st with
  |some (.slice e)=>match cw P e,yw P e,bK s,bK x with
   |some sz,some b,some s,some x=>match P.underlying g with
    |some (.slice _)=>if 0<b/\ (hY P e).isSome then some (.append e sz b s x)else none
    |_=>none
   |_,_,_,_=>none
  |_=>none
 |.builtin .copy,[h,_],[d,s]=>match P.underlying h with
  |some (.slice e)=>match cw P e,bK d,bK s with
   |some sz,some d,some s=>some (.copy sz d s)
   |_,_,_=>none
  |_=>none
 |.builtin .clear,[t],[x]=>match P.underlying t with
  |some (.slice e)=>match hY P e,bK x with
   |some z,some x=>some (.clear z x)
   |_,_=>none
  |_=>none
 |.builtin .max,_,xs=>match P.underlying a with
  |some (.int _)=>(oz xs).map .max
  |_=>none
 |.builtin .min,_,xs=>match P.underlying a with
  |some (.int _)=>(oz xs).map .min
  |_=>none
 |.builtin .cap,[t],[x]=>match P.underlying t with
  |some (.slice _)=>(bK x).map (.len .cap)
  |_=>none
 |_,_,_=>none
def lk(rows:Bool)(o:Oper):Option I:=
 match o.op with
 |.move x|.assign x=>(bK x).map .mov
 |.pick c a b=>match bK c,bK a,bK b with
  |some c,some a,some b=>some (.pick c a b)
  |_,_,_=>none
 |.alloc t=>(hY P t).map λz=>.alloc z (sD z t)
 |.box t x=>(bK x).map λx=>.box x ((hY P t).bind λz=>sD z t)
 |.build t ps=>match P.underlying t,hY P t with
  |some (.struct fields),some z=>if fields.toList.all (λf=>(cw P f.type).isSome)then(parts (λi=>match fields[i]? with
    |some f=>(cw P f.type).map λn=>(f.offset,n)
    |none=>none) ps.toList).map (.build z)else none
  |some (.array _ e),some z=>match cw P e with
   |some sz=>(parts (λi=>some (i*sz,sz)) ps.toList).map (.build z)
   |none=>none
  |_,_=>none
 |.buildSlice t len ps=>match P.underlying t with
  |some (.slice e)=>match hY P e with
   |some z=>if len*z.length<=65536/\0<z.length then
      (parts (λi=>some (i*z.length,z.length)) ps.toList).map λps=>if rows then .sv e z len ps else .bslice z len ps
    else none
   |none=>none
  |_=>none
 |.load t a=>match nA P t,cw P t,bK a with
  |some b,some n,some a=>some (.load b n a)
  |_,_,_=>none
 |.store t a v=>match cw P t,bK a,bK v with
  |some n,some a,some v=>some (.store n a v)
  |_,_,_=>none
 |.nilCheck x=>(bK x).map .nilck
 |.binOp op t x y _=>match bK x,bK y with
  |some p,some j=>match op,P.underlying t with
   |.shl,some (.int _)|.shr,some (.int _)=>some (.shf op p j)
   |.eql,_=>(yy P t x y).map λk=>.eq k p j
   |.neq,_=>(yy P t x y).map λk=>.ne k p j
   |_,some (.int _)|_,some .string=>some (.bin op p j)
   |_,_=>none
  |_,_=>none
 |.unOp op _ x=>(bK x).map (.un op)
 |.convert src dst x=>match P.underlying src,P.underlying dst,bK x with
  |some (.int _),some (.int k),some x=>some (.conv k x)
  |some .string,some (.slice e),some x=>match P.underlying e with
   |some (.int .u8)=>some (.s2b x)
   |_=>none
  |_,_,_=>none
 |.makeInterface t x=>match P.underlying t with
  |some (.interface _)|none=>none
  |some _=>(bK x).map (.mki t)
 |.makeFunc f first cap=>match oz first.toList,oz cap.toList with
  |some a,some b=>if VI f then none else some (.mkf f a b)
  |_,_=>none
 |.makeMap _ none=>some .oy
 |.makeSlice t l c=>match P.underlying t with
  |some (.slice e)=>match hY P e,yw P e,bK l,bK c with
   |some z,some b,some l,some c=>if 0<z.length/\0<b then some (.C7 e z b l c)else none
   |_,_,_,_=>none
  |_=>none
 |.slice t x lo h d=>match bK x,vu lo,vu h,vu d with
  |some x,some lo,some h,some d=>match P.underlying t with
   |some .string=>if d.isNone then some (.slstr x lo h)else none
   |some (.slice e)=>if d.isNone||h.isSome then(cw P e).map λn=>.slsl n x lo h d else none
   |some (.array n e)=>if d.isNone then(cw P e).map λsz=>.slarr n sz x lo h else none
   |_=>none
  |_,_,_,_=>none
 |.fieldAddr s x f=>match P.underlying s,bK x with
  |some (.struct fields),some x=>match fields[f]? with
   |some g=>match cw P g.type with
    |some n=>if 0<n then some (.faddr g.offset x)else none
    |none=>none
   |none=>none
  |_,_=>none
 |.field s x f=>match P.underlying s,bK x with
  |some (.struct fields),some x=>match fields[f]? with
   |some g=>match nA P g.type,cw P g.type with
    |some b,some n=>some (.fld b n g.offset x)
    |_,_=>none
   |none=>none
  |_,_=>none
 |.indexAddr t x i=>match P.underlying t,bK x,bK i with
  |some (.array n e),some x,some i=>(cw P e).map λsz=>.iaddra n sz x i
  |some (.slice e),some x,some i=>(cw P e).map λsz=>.iaddrs sz x i
  |_,_,_=>none
 |.index t x i=>match P.underlying t,bK x,bK i with
  |some (.array n e),some x,some i=>match nA P e,cw P e with
   |some b,some sz=>some (.idxa b n sz x i)
   |_,_=>none
  |some .string,some x,some i=>some (.idxs x i)
  |_,_,_=>none
 |.lookup t m k ok=>match P.underlying t with
  |some (.map q u)=>match AO P q,yx P u,bK m,bK k with
   |some r,some z,some m,some k=>some (.lookup r z m k ok)
   |_,_,_,_=>none
  |_=>none
 |.mapUpdate t m k v|.insert t m k v=>match P.underlying t with
  |some (.map q _)=>match AO P q,bK m,bK k,bK v with
   |some r,some m,some k,some v=>some (.pN r m k v)
   |_,_,_,_=>none
  |_=>none
 |.typeAssert x _ asserted ok=>match P.underlying asserted,bK x with
  |some (.interface _),some _=>none
  |some _,some x=>match yx P asserted with
   |some z=>some (.ta z x asserted ok)
   |none=>none
  |_,_=>none
 |.extract x i=>(bK x).map λx=>.ext x i
 |.call c=>Db P o.type c
 |.panic x=>(bK x).map .panic
 |_=>none
def guardOf(a:Array Oper)(o:Oper):Option (Option (Nat×Bool)):=
 match o.guard with
 |none=>some none
 |some (j,want)=>match(a[j]?).bind (·.dst)with
  |some t=>some (some (t,want))
  |none=>none
def iN(rows:Bool)(a:Array Oper)(o:Oper):Option aR:=
 match lk P rows o,guardOf a o with
 |some i,some g=>some {g:=g,dst:=o.dst,i:=i}
 |_,_=>none
def ll(rows:Bool)(a:Array Oper):List Oper->Option (List aR)
 | []=>some []
 |o::os=>match iN P rows a o,ll rows a os with
  |some x,some xs=>some (x::xs)
  |_,_=>none
def ln(o:Oper):lN:=(o.after.toList.filter (Region.binds .any)).map (·.on)
def AP(a:lN)(n:Nat):lN->Nat
 | []=>0
 |e::es=>Nat.lor (Nat.lor (Nat.shiftLeft 1 e) (if e<n then a.getD (n-1-e) 0 else 0)) (AP a n es)
def vx(a:Array Oper):Nat->lN
 |0=>[]
 |n+1=>AP (vx a n) n (match a[n]? with|some o=>ln o|none=>[])::vx a n
def hZ(b:Array Oper)(_:Nat)(i:Nat):lN:=(List.range i).filter λa=>Nat.testBit ((vx b (i+1)).headD 0) a
def Hd(b:Region.Mode)(a:Array Oper):lN->lN->Bool
 |_,[]=>true
 |pre,i::rest=>(match a[i]? with|some o=>o.after.toList.all (λe=>!Region.binds b e||pre.contains e.on)|none=>false)&&Hd b a (i::pre) rest
def vy(c:Region.Mode)(b:Array Oper)(a:lN):Bool:=(List.range b.size).all (λi=>a.contains i)&&Hd c b [] a
def sE(ys:List (aR×Nat))(a:List lN)(y:aR)(j:Nat):lN:=
 if y.i.cls=0 then[]else
 match(ys.filter λ (x,i)=>i<j&&x.i.cls>=1&& !(a.getD j []).contains i).map (·.2)with
 | []=>if y.i.cls=2 then((ys.filter λ (x,i)=>i<j&&x.i.cls=0&& !(a.getD j []).contains i).map (·.2)).take 1 else[]
 |l=>l
def M4{ys:List (aR×Nat)}{a:List lN}{y x:aR}(c: (x,i)∈ys)(b:i<j)(f:x.i.cls≠0)(e:y.i.cls≠0)(d: (a.getD j []).contains i=false):i∈sE ys a y j:=by
 unfold sE;have hm:i∈(ys.filter λ (x,i)=>i<j&&x.i.cls>=1&& !(a.getD j []).contains i).map (·.2):=by
  simp only[afH,afY]
  grind
 grind
def amG{ys:List (aR×Nat)}{b:List lN}{y x:aR}(d: (x,i)∈ys)(c:i<j)(k:y.i.cls=2)(f: (b.getD j []).contains i=false):sE ys b y j≠[]:=by
 intro h;by_cases ci:x.i.cls=0
 ·unfold sE at h;rw[adU (by omega)]at h;split at h
  ·have hm:i∈(ys.filter λ (x,i)=>i<j&&x.i.cls=0&& !(b.getD j []).contains i).map (·.2):=by
     simp only[afH,afY]
     grind
   cases e: (ys.filter λ (x,i)=>i<j&&x.i.cls=0&& !(b.getD j []).contains i).map (·.2)with
   |nil=>grind
   |cons a g=>grind
  grind
 ·have:=M4 (y:=y) d c ci (by omega) f
  grind
def M5(a:Array Oper)(xs:List aR):Option (List (aR×lN)):=
 let n:=xs.length
 let before:=(List.range n).map λi=>(hZ a 64 i).eraseDups
 let ordered (i j:Nat):Bool:=(before.getD j []).contains i
 let ys:=xs.zipIdx
 if(vy .any a (List.range a.size)&&vy .text a (List.range a.size)&&vy .gc a (Region.linearise .gc a 0))&& (List.range n).all (λi=>match a[i]? with|some o=>(ln o).all (· <i)|none=>false)&&
   ys.all (λ (x,i)=>ys.all λ (y,j)=>i>=j||ordered i j||ko x y)
 then some (ys.map λ (y,j)=>(y,sE ys before y j))
 else none
def fk(rows:Bool)(nt:Nat):Code->Option PC
 |.skip|.label _=>some .skip
 |.seq a b=>match fk rows nt a,fk rows nt b with
  |some a,some b=>some (.seq a b)
  |_,_=>none
 |.cond c a b=>match bK c,fk rows nt a,fk rows nt b with
  |some c,some a,some b=>some (.cond c a b)
  |_,_,_=>none
 |.block id b=>(fk rows nt b).map (.block id)
 |.loop b=>(fk rows nt b).map .loop
 |.exit id=>some (.exit id)
 |.ret=>some .ret
 |.region _ ops draw=>match ll P rows ops ops.toList with
  |some xs=>
   if xs.all (λx=>match x.dst with|some d=>d<nt|none=>true)then
    if draw then(M5 ops xs).map .vo else some (.aO xs)
   else none
  |none=>none
 |.rangeFunc g ps assign body=>match bK g,fk rows nt assign,fk rows nt body with
  |some g,some a,some b=>if ps.toList.all (· <nt)then some (.gS g ps.toList a b)else none
  |_,_,_=>none
 |.scope _|.goto _|.refuse _=>none
def pT:List ResultVar->Option (List RV)
 | []=>some []
 |.tmp t::r=>(pT r).map (.t t:: ·)
 |.cell a t::r=>match nA P t,cw P t,pT r with
  |some b,some n,some rs=>some (.cell a b n::rs)
  |_,_,_=>none
def Dc(rows:Bool)(fn:Func):Option PF:=
 match fn.body with
 |some c=>match fk P rows fn.ntmps c,pT P fn.results.toList with
  |some b,some rs=>if(fn.name != "runtime.NumGoroutine")then some {ntmps:=fn.ntmps,results:=rs,body:=b}else none
  |_,_=>none
 |none=>none
end
structure Gh where
 bu:Nat->Nat->Option Value
 n:Nat
 bf:Nat->Nat
 base:Nat->Nat
 ak:Nat->Nat
 eD:Nat->Nat
 sz:Nat->Nat
 pz:Nat->Option ae:=λ_=>none
def Gh.on(G:Gh)(i:Nat):Prop:=i<G.n/\G.pz i=none
def leaf:Value->Bool
 |.agg _=>false
 |.tuple _=>false
 |_=>true
def qX(G:Gh)(b o:Nat)(vs:List Value):Prop:= ∀j v,vs[j]?=some v->G.bu b (o+j)=some v
def Leaves(vs:List Value):Prop:= ∀v∈vs,leaf v=true
def nC(G:Gh):Fn->Fn->Prop
 |.yield l,f=>G.on l/\ (∃k,f= .yield k/\ (G.ak l=0->k=G.bf l))
 |g,f=>f=g
mutual
def an(G:Gh):AV->Value->Prop
 |.bool b,v=>v= .bool b
 |.int k n,v=>v= .int k n
 |.str s,v=>v= .string s
 |.agg cs,v=> ∃vs:Array Value,v= .agg vs/\aF G cs vs.toList/\Leaves vs.toList
 |.aw cs,v=> ∃vs:Array Value,v= .tuple vs/\aF G cs vs.toList
 |.eB,v=>v= .pointer none
 |.ptr id off,v=>G.on id/\ ∃a,v= .pointer (some a)/\ (G.ak id=0->a=⟨G.bf id,off,none⟩)
 |.dw id ak i off,v=>G.on id/\ak<=G.ak id/\ ∃a,v= .pointer (some a)/\ (G.ak id=ak->a=⟨G.bf id,G.base id+i*G.sz id+off,none⟩)
 |.fu cs off,v=> ∃b o vs,v= .pointer (some ⟨b,o+off,none⟩)/\qX G b o vs/\Leaves vs/\aF G cs vs
 |.dR g,v=>v= .pointer (some ⟨g,0,none⟩)
 |.aq,v=>v= .slice none 0 0
 |.sl af cD,v=> ∃b o cap sz vs,v= .slice (some ⟨b,o,none⟩) af.length cap/\af.length<=cap/\ (cD=true->cap=af.length)/\ (∀el∈af,el.length=sz)/\qX G b o vs/\Leaves vs/\br G af vs
 |.ref id ak sz off len cD,v=>G.on id/\ak<=G.ak id/\ ∃a cap,v= .slice (some a) len cap/\ (len<=cap/\a.spot=none)/\ (cD=true->cap=len)/\
   (G.ak id=ak->G.sz id=sz/\ (0<cap->a=⟨G.bf id,G.base id+off*sz,none⟩)/\off*sz+cap*sz<=G.eD id)
 |.fA id _ off len,v=>G.on id/\ ∃a cap,v= .slice (some a) len cap/\len<=cap/\ (G.ak id=0->0<cap->a=⟨G.bf id,off,none⟩)
 |.mW,v=>v= .map none
 |.mb g,v=>(∃r,v= .map (some r))/\G.bu g 0=some v
 |.mp id,v=>G.on id/\ ∃r,v= .map (some r)/\ (G.ak id=0->r=G.bf id)
 |.fn f a b,v=> ∃ (c:Fn) (a' d:Array Value),v= .func c a' d/\nC G f c/\aF G a a'.toList/\aF G b d.toList
 |.dx,v=>v= .nilFunc
 |.dt t x,v=> ∃y,v= .iface t y/\an G x y
 |.eX,v=>v= .nilIface
 |.jf,_=>False
def aF(G:Gh):List AV->List Value->Prop
 | [],vs=>vs=[]
 |a::as,vs=> ∃v r,vs=v::r/\an G a v/\aF G as r
def br(G:Gh):List (List AV)->List Value->Prop
 | [],vs=>vs=[]
 |a::as,vs=> ∃v r,vs=v++r/\aF G a v/\br G as r
end
structure Gh.sub(G G':Gh):Prop where
 bu: ∀b o v,G.bu b o=some v->G'.bu b o=some v
 n:G.n<=G'.n
 on: ∀i,G.on i->G'.on i
 ak: ∀i,G.on i->G.ak i<=G'.ak i
 same: ∀i,G.on i->G'.ak i=G.ak i->G'.bf i=G.bf i/\G'.base i=G.base i/\G'.eD i=G.eD i/\G'.sz i=G.sz i
structure Gh.le(G G':Gh):Prop extends toSub:Gh.sub G G' where
 pz: ∀i,i<G.n->G'.pz i=G.pz i
def Gh.le.mk'{G a:Gh}(bu: ∀b o v,G.bu b o=some v->a.bu b o=some v)(n:G.n<=a.n)(pz: ∀i,i<G.n->a.pz i=G.pz i)(ak: ∀i,i<G.n->G.ak i<=a.ak i)
  (same: ∀i,i<G.n->a.ak i=G.ak i->a.bf i=G.bf i/\a.base i=G.base i/\a.eD i=G.eD i/\a.sz i=G.sz i):G.le a:=
 {bu:=bu,n:=n,pz:=pz,on:=λi h=>⟨ai6 h.1 n,by rw[pz i h.1];exact h.2⟩,ak:=λi h=>ak i h.1,same:=λi h=>same i h.1}
def Gh.amH(G:Gh):G.sub G:=⟨λ_ _ _ h=>h,afA _,λ_ h=>h,λ_ _=>afA _,λ_ _ _=>⟨rfl,rfl,rfl,rfl⟩⟩
theorem Gh.le_refl(G:Gh):G.le G:={G.amH with pz:=λ_ _=>rfl}
def Gh.VJ{f c d:Gh}(h:f.sub c)(k:c.sub d):f.sub d where
 bu b o v e:=k.bu b o v (h.bu b o v e)
 n:=ahk h.n k.n
 on i g:=k.on i (h.on i g)
 ak i g:=ahk (h.ak i g) (k.ak i (h.on i g))
 same i g e:=by
  have a:=h.ak i g;have b:=k.ak i (h.on i g);have e1:c.ak i=f.ak i:=by omega
  have j:d.ak i=c.ak i:=by omega
  obtain⟨u,t,s,r⟩:=h.same i g e1;obtain⟨q,p,m,l⟩:=k.same i (h.on i g) j;omega
def Gh.le_trans{c b a:Gh}(h:c.le b)(k:b.le a):c.le a:=
 {Gh.VJ h.toSub k.toSub with pz:=λi d=>(k.pz i (ai6 d h.n)).trans (h.pz i d)}
def qX.dM{G a:Gh}(h:G.sub a){o:Nat}(f:qX G b o vs):qX a b o vs:=λj v e=>h.bu _ _ _ (f j v e)
def nC.dM{G b:Gh}(h:G.sub b){f g:Fn}(r:nC G f g):nC b f g:=by
 cases f<;>simp only[nC]at* <;>try exact r
 obtain⟨a,k,e,c⟩:=r;refine⟨h.on _ a,k,e,λi=>?_⟩;have d:=h.ak _ a;rw[(h.same _ a (by omega)).1];omega
mutual
theorem an.dM{G z:Gh}(h:G.sub z): ∀ (x:AV) (v:Value),an G x v->an z x v
 |.bool _,_,r=>by simpa[an]using r
 |.int _ _,_,r=>by simpa[an]using r
 |.str _,_,r=>by simpa[an]using r
 |.agg cs,_,r=>by
  simp only[an]at*;obtain⟨vs,e,l,d⟩:=r;exact⟨vs,e,aF.dM h cs _ l,d⟩
 |.aw cs,_,r=>by
  simp only[an]at*;obtain⟨vs,e,l⟩:=r;exact⟨vs,e,aF.dM h cs _ l⟩
 |.eB,_,r=>by simpa[an]using r
 |.ptr id off,_,r=>by
  simp only[an]at*;obtain⟨a,x,e,c⟩:=r;refine⟨h.on _ a,x,e,λn=>?_⟩;have m:=h.ak id a;rw[(h.same id a (by omega)).1];exact c (by omega)
 |.dw id ak i off,_,r=>by
  simp only[an]at*;obtain⟨a,b,x,e,c⟩:=r;have m:=h.ak id a;refine⟨h.on _ a,by omega,x,e,λn=>?_⟩;obtain⟨s,q,w,p⟩:=h.same id a (by omega);rw[s,q,p];exact c (by omega)
 |.fu cs off,_,r=>by
  simp only[an]at*;obtain⟨b,o,vs,e,f,d,l⟩:=r;exact⟨b,o,vs,e,f.dM h,d,aF.dM h cs _ l⟩
 |.dR _,_,r=>by simpa[an]using r
 |.aq,_,r=>by simpa[an]using r
 |.sl af cD,_,r=>by
  simp only[an]at*;obtain⟨b,o,cap,sz,vs,e,k,j,u,f,d,l⟩:=r;exact⟨b,o,cap,sz,vs,e,k,j,u,f.dM h,d,br.dM h af _ l⟩
 |.ref id ak sz off len cD,_,r=>by
  simp only[an]at*;obtain⟨a,b,x,cap,e,k,j,u⟩:=r;have m:=h.ak id a;refine⟨h.on _ a,by omega,x,cap,e,k,j,λn=>?_⟩;obtain⟨s,q,w,p⟩:=h.same id a (by omega);rw[s,q,w,p];exact u (by omega)
 |.fA id sz off len,_,r=>by
  simp only[an]at*;obtain⟨a,x,cap,e,k,j⟩:=r;have m:=h.ak id a;refine⟨h.on _ a,x,cap,e,k,λn D=>?_⟩;rw[(h.same id a (by omega)).1];exact j (by omega) D
 |.mW,_,r=>by simpa[an]using r
 |.mb g,_,r=>by
  simp only[an]at*;exact⟨r.1,h.bu _ _ _ r.2⟩
 |.mp id,_,r=>by
  simp only[an]at*;obtain⟨a,x,e,c⟩:=r;have m:=h.ak id a;refine⟨h.on _ a,x,e,λn=>?_⟩;rw[(h.same id a (by omega)).1];exact c (by omega)
 |.fn f a b,_,r=>by
  simp only[an]at*;obtain⟨E,a',F,e,A,C,B⟩:=r;exact⟨E,a',F,e,A.dM h,aF.dM h a _ C,aF.dM h b _ B⟩
 |.dx,_,r=>by simpa[an]using r
 |.dt t x,_,r=>by
  simp only[an]at*;obtain⟨y,e,l⟩:=r;exact⟨y,e,an.dM h x _ l⟩
 |.eX,_,r=>by simpa[an]using r
 |.jf,_,r=>by simp[an]at r
theorem aF.dM{G b:Gh}(h:G.sub b): ∀ (xs:List AV) (vs:List Value),aF G xs vs->aF b xs vs
 | [],_,r=>by simpa[aF]using r
 |a::as,_,r=>by
  simp only[aF]at*;obtain⟨v,q,e,d,c⟩:=r;exact⟨v,q,e,an.dM h a _ d,aF.dM h as _ c⟩
theorem br.dM{G b:Gh}(h:G.sub b): ∀ (xs:List (List AV)) (vs:List Value),br G xs vs->br b xs vs
 | [],_,r=>by simpa[br]using r
 |a::as,_,r=>by
  simp only[br]at*;obtain⟨v,q,e,d,c⟩:=r;exact⟨v,q,e,aF.dM h a _ d,br.dM h as _ c⟩
end
def an.mono{G a:Gh}(h:G.le a)(x:AV)(v:Value)(r:an G x v):an a x v:=an.dM h.toSub x v r
def aF.mono{G a:Gh}(h:G.le a)(xs:List AV)(vs:List Value)(r:aF G xs vs):aF a xs vs:=aF.dM h.toSub xs vs r
def br.mono{G a:Gh}(h:G.le a)(xs:List (List AV))(vs:List Value)(r:br G xs vs):br a xs vs:=br.dM h.toSub xs vs r
theorem aF.length{G:Gh}: ∀ {xs:List AV} {vs:List Value},aF G xs vs->vs.length=xs.length
 | [],_,r=>by simp only[aF]at r;simp[r]
 |_::as,_,r=>by
  obtain⟨v,q,rfl,_,a⟩:=r;simp[aF.length a]
theorem aF.get{G:Gh}: ∀ {xs:List AV} {vs:List Value},aF G xs vs-> ∀ (j:Nat) (x:AV),xs[j]?=some x-> ∃v,vs[j]?=some v/\an G x v
 | [],_,_,_,_,e=>by grind
 |a::as,_,r,j,x,e=>by
  obtain⟨v,q,rfl,d,b⟩:=r;cases j with
  |zero=>grind
  |succ j=>obtain⟨u,hu,c⟩:=aF.get b j x e;grind
theorem aF.M6{G:Gh}: ∀ {xs:List AV} {vs:List Value},vs.length=xs.length->(∀ (j:Nat) (x:AV) (v:Value),xs[j]?=some x->vs[j]?=some v->an G x v)->aF G xs vs
 | [],vs,b,_=>by cases vs<;>simp_all[aF]
 |a::as,vs,b,h=>by
  cases vs with
  |nil=>grind
  |cons v vs=>
   refine⟨v,vs,rfl,h 0 a v (by simp) (by simp),aF.M6 (by grind) λj x u c hu=>h (j+1) x u (by grind) (by grind)⟩
theorem aF.append{G:Gh}: ∀ {xs ys:List AV} {vs us:List Value},aF G xs vs->aF G ys us->aF G (xs++ys) (vs++us)
 | [],_,_,_,r,k=>by simp only[aF]at r;grind
 |a::as,_,_,_,r,k=>by
  obtain⟨v,q,rfl,c,b⟩:=r;exact⟨v,q++_,rfl,c,aF.append b k⟩
theorem aF.split{G:Gh}: ∀ {xs ys:List AV} {vs:List Value},aF G (xs++ys) vs-> ∃v1 v2,vs=v1++v2/\aF G xs v1/\aF G ys v2
 | [],_,vs,r=>⟨[],vs,rfl,by rfl,r⟩
 |a::as,_,_,r=>by
  obtain⟨v,q,rfl,e,d⟩:=r;obtain⟨v1,v2,rfl,c,b⟩:=aF.split d;exact⟨v::v1,v2,rfl,⟨v,v1,rfl,e,c⟩,b⟩
theorem aF.take{G:Gh}{xs:List AV}(r:aF G xs vs)(n:Nat):aF G (xs.take n) (vs.take n):=
 .M6 (by simp[r.length]) λj x v a b=>by
  rw[anH]at a b;split at a
  ·obtain⟨u,hu,c⟩:=r.get j x a
   grind
  grind
theorem aF.drop{G:Gh}{xs:List AV}(r:aF G xs vs)(n:Nat):aF G (xs.drop n) (vs.drop n):=
 .M6 (by simp[r.length]) λj x v a b=>by
  rw[alH]at a b;obtain⟨u,hu,c⟩:=r.get _ x a
  grind
theorem br.iff{G:Gh}: ∀ {af:List (List AV)} {vs:List Value},br G af vs↔aF G af.flatten vs
 | [],_=>by rfl
 |a::as,vs=>by
  constructor
  ·rintro⟨v,r,rfl,e,d⟩;exact e.append (br.iff.1 d)
  ·intro h;obtain⟨v1,v2,rfl,c,b⟩:=aF.split h;exact⟨v1,v2,rfl,c,br.iff.2 b⟩
def aF.single{G:Gh}{x:AV}:aF G [x] [v]↔an G x v:=by simp[aF]
def Leaves.append{a b:List Value}(h:Leaves a)(k:Leaves b):Leaves (a++b):=λv c=>(aev.1 c).elim (h v) (k v)
theorem Leaves.take{a:List Value}(h:Leaves a)(n:Nat):Leaves (a.take n):=λv b=>h v (aiy b)
theorem Leaves.drop{a:List Value}(h:Leaves a)(n:Nat):Leaves (a.drop n):=λv b=>h v (aou b)
theorem an.cells{G:Gh}{x:AV}(r:an G x v)(h:x.ck=false):aF G x.cells v.cells.toList/\Leaves v.cells.toList:=by
 cases x<;>simp[AV.ck]at h<;>simp only[AV.cells]
 case agg cs=>
  obtain⟨vs,rfl,l,b⟩:=r;exact⟨l,b⟩
 all_goals
  have a:=r;simp only[an]at r
  first
   |rfl
   | (obtain⟨_,_,rfl,_⟩:=r;exact⟨aF.single.2 a,by simp[Leaves,Value.cells,leaf]⟩)
   | (obtain⟨_,rfl,_⟩:=r;exact⟨aF.single.2 a,by simp[Leaves,Value.cells,leaf]⟩)
   | (obtain⟨_,_,_,rfl,_⟩:=r;exact⟨aF.single.2 a,by simp[Leaves,Value.cells,leaf]⟩)
   | (obtain⟨_,_,_,_,rfl,_⟩:=r;exact⟨aF.single.2 a,by simp[Leaves,Value.cells,leaf]⟩)
   | (obtain⟨_,_,_,_,_,rfl,_⟩:=r;exact⟨aF.single.2 a,by simp[Leaves,Value.cells,leaf]⟩)
   | (obtain⟨⟨_,rfl⟩,_⟩:=r;exact⟨aF.single.2 a,by simp[Leaves,Value.cells,leaf]⟩)
mutual
theorem an.refs{G:Gh}: ∀ (x:AV) (v:Value),an G x v->x.refs<=G.n
 |.bool _,_,_|.int _ _,_,_|.str _,_,_|.eB,_,_|.dR _,_,_|.aq,_,_|.mW,_,_|.mb _,_,_|.dx,_,_|.eX,_,_|.jf,_,_=>by simp[AV.refs]
 |.agg cs,_,r=>by simp only[an]at r;obtain⟨vs,_,l,_⟩:=r;simp only[AV.refs];exact aF.refs cs _ l
 |.aw cs,_,r=>by simp only[an]at r;obtain⟨vs,_,l⟩:=r;simp only[AV.refs];exact aF.refs cs _ l
 |.ptr id off,_,r=>by simp only[an]at r;have:=r.1.1;simp only[AV.refs];omega
 |.dw id ak i off,_,r=>by simp only[an]at r;have:=r.1.1;simp only[AV.refs];omega
 |.ref id ak sz off len cD,_,r=>by simp only[an]at r;have:=r.1.1;simp only[AV.refs];omega
 |.fA id sz off len,_,r=>by simp only[an]at r;have:=r.1.1;simp only[AV.refs];omega
 |.mp id,_,r=>by simp only[an]at r;have:=r.1.1;simp only[AV.refs];omega
 |.fu cs off,_,r=>by simp only[an]at r;obtain⟨b,o,vs,_,_,_,l⟩:=r;simp only[AV.refs];exact aF.refs cs _ l
 |.sl af cD,_,r=>by simp only[an]at r;obtain⟨b,o,cap,sz,vs,_,_,_,_,_,_,l⟩:=r;simp only[AV.refs];exact br.refs af _ l
 |.fn f a b,_,r=>by
  simp only[an]at r;obtain⟨j,a',k,_,c,e,d⟩:=r;have h:=aF.refs a _ e;have g:=aF.refs b _ d;simp only[AV.refs];cases f<;>simp only[nC]at c<;>simp only<;>first|omega| (have:=c.1.1;omega)
 |.dt t x,_,r=>by simp only[an]at r;obtain⟨y,_,l⟩:=r;simp only[AV.refs];exact an.refs x _ l
theorem aF.refs{G:Gh}: ∀ (xs:List AV) (vs:List Value),aF G xs vs->aK xs<=G.n
 | [],_,_=>by simp[aK]
 |a::as,_,r=>by
  simp only[aF]at r;obtain⟨v,q,_,c,b⟩:=r;have:=an.refs a _ c;have:=aF.refs as _ b;simp only[aK];omega
theorem br.refs{G:Gh}: ∀ (xs:List (List AV)) (vs:List Value),br G xs vs->b9 xs<=G.n
 | [],_,_=>by simp[b9]
 |a::as,_,r=>by
  simp only[br]at r;obtain⟨v,q,_,c,b⟩:=r;have:=aF.refs a _ c;have:=br.refs as _ b;simp only[b9];omega
end
structure Gh.en(m:Nat)(G G':Gh):Prop where
 bu: ∀b o v,G.bu b o=some v->G'.bu b o=some v
 n:m<=G'.n
 pz: ∀i,i<m->G'.pz i=G.pz i
 ak: ∀i,i<m->G'.ak i=G.ak i
 bf: ∀i,i<m->G'.bf i=G.bf i
 base: ∀i,i<m->G'.base i=G.base i
 eD: ∀i,i<m->G'.eD i=G.eD i
 sz: ∀i,i<m->G'.sz i=G.sz i
mutual
theorem an.en{m:Nat}{G n:Gh}(h:G.en m n): ∀ (x:AV) (v:Value),an G x v->x.refs<=m->an n x v
 |.bool _,_,r,_|.int _ _,_,r,_|.str _,_,r,_|.eB,_,r,_|.dR _,_,r,_|.aq,_,r,_|.mW,_,r,_|.dx,_,r,_|.eX,_,r,_=>by simpa[an]using r
 |.jf,_,r,_=>by simp[an]at r
 |.mb g,_,r,_=>by
  simp only[an]at*;exact⟨r.1,h.bu _ _ _ r.2⟩
 |.agg cs,_,r,hm=>by
  simp only[an,AV.refs]at*;obtain⟨vs,e,l,c⟩:=r;exact⟨vs,e,aF.en h cs _ l hm,c⟩
 |.aw cs,_,r,hm=>by
  simp only[an,AV.refs]at*;obtain⟨vs,e,l⟩:=r;exact⟨vs,e,aF.en h cs _ l hm⟩
 |.ptr id off,_,r,hm=>by
  simp only[an,AV.refs]at*;rw[h.ak id (by omega),h.bf id (by omega)];exact⟨⟨ai6 (by omega) h.n,by rw[h.pz id (by omega)];exact r.1.2⟩,r.2⟩
 |.dw id ak i off,_,r,hm=>by
  simp only[an,AV.refs]at*;rw[h.ak id (by omega),h.bf id (by omega),h.base id (by omega),h.sz id (by omega)];exact⟨⟨ai6 (by omega) h.n,by rw[h.pz id (by omega)];exact r.1.2⟩,r.2⟩
 |.fu cs off,_,r,hm=>by
  simp only[an,AV.refs]at*;obtain⟨b,o,vs,e,f,c,l⟩:=r;exact⟨b,o,vs,e,λj v d=>h.bu _ _ _ (f j v d),c,aF.en h cs _ l hm⟩
 |.sl af cD,_,r,hm=>by
  simp only[an,AV.refs]at*;obtain⟨b,o,cap,sz,vs,e,z,w,u,f,c,l⟩:=r;exact⟨b,o,cap,sz,vs,e,z,w,u,λj v d=>h.bu _ _ _ (f j v d),c,br.en h af _ l hm⟩
 |.ref id ak sz off len cD,_,r,hm=>by
  simp only[an,AV.refs]at*;rw[h.ak id (by omega),h.bf id (by omega),h.base id (by omega),h.sz id (by omega),h.eD id (by omega)];exact⟨⟨ai6 (by omega) h.n,by rw[h.pz id (by omega)];exact r.1.2⟩,r.2⟩
 |.fA id sz off len,_,r,hm=>by
  simp only[an,AV.refs]at*;rw[h.ak id (by omega),h.bf id (by omega)];exact⟨⟨ai6 (by omega) h.n,by rw[h.pz id (by omega)];exact r.1.2⟩,r.2⟩
 |.mp id,_,r,hm=>by
  simp only[an,AV.refs]at*;rw[h.ak id (by omega),h.bf id (by omega)];exact⟨⟨ai6 (by omega) h.n,by rw[h.pz id (by omega)];exact r.1.2⟩,r.2⟩
 |.fn f a b,_,r,hm=>by
  simp only[an,AV.refs]at*;obtain⟨s,a',A,e,k,q,p⟩:=r;refine⟨s,a',A,e,?_,aF.en h a _ q (by omega),aF.en h b _ p (by omega)⟩;cases f<;>simp only[nC]at* <;>try exact k
  rename_i l;rw[h.ak l (by omega),h.bf l (by omega)];exact⟨⟨ai6 (by omega) h.n,by rw[h.pz l (by omega)];exact k.1.2⟩,k.2⟩
 |.dt t x,_,r,hm=>by
  simp only[an,AV.refs]at*;obtain⟨y,e,l⟩:=r;exact⟨y,e,an.en h x _ l hm⟩
theorem aF.en{m:Nat}{G b:Gh}(h:G.en m b): ∀ (xs:List AV) (vs:List Value),aF G xs vs->aK xs<=m->aF b xs vs
 | [],_,r,_=>by simpa[aF]using r
 |a::as,_,r,hm=>by
  simp only[aF,aK]at*;obtain⟨v,q,e,d,c⟩:=r;exact⟨v,q,e,an.en h a _ d (by omega),aF.en h as _ c (by omega)⟩
theorem br.en{m:Nat}{G b:Gh}(h:G.en m b): ∀ (xs:List (List AV)) (vs:List Value),br G xs vs->b9 xs<=m->br b xs vs
 | [],_,r,_=>by simpa[br]using r
 |a::as,_,r,hm=>by
  simp only[br,b9]at*;obtain⟨v,q,e,d,c⟩:=r;exact⟨v,q,e,aF.en h a _ d (by omega),br.en h as _ c (by omega)⟩
end
def ae.le(n:Nat):ae->Prop
 |.box cs _=>aK cs<=n
 |.row _ _ _ af=>b9 af<=n
 |.map es=> ∀p∈es,p.2.refs<=n
 |.loop _ _ _ env _ _ _=> ∀t,(env t).refs<=n
 |_=>True
theorem ae.le.mono{n a:Nat}(h:n<=a): ∀ {o:ae},o.le n->o.le a
 |.box _ _,r=>ahk r h
 |.row _ _ _ _,r=>ahk r h
 |.map _,r=>λp b=>ahk (r p b) h
 |.loop _ _ _ _ _ _ _,r=>λt=>ahk (r t) h
 |.bt,_|.dead,_=>trivial
def yz:Option PC->Option Code->Prop
 |none,c=>c=none
 |some .ret,c=>c=some .ret
 |some (.exit id),c=>c=some (.exit id)
 |_,_=>False
structure cK(G:Gh)(nt:Nat)(e:Env)(tmps:Array Value):Prop where
 size:tmps.size=nt
 get: ∀t v,tmps[t]?=some v->an G (e t) v
 out: ∀t,nt<=t->e t= .undef
theorem cK.refs{G:Gh}{e:Env}{a:Array Value}(h:cK G nt e a)(t:Nat): (e t).refs<=G.n:=by
 by_cases b:t<nt
 ·have:t<a.size:=by rw[h.size];exact b
  exact an.refs _ _ (h.get t a[t] (by simp))
 ·rw[h.out t (by omega)];simp[AV.refs,aK]
theorem cK.dM{G b:Gh}(h:G.sub b){e:Env}{a:Array Value}(r:cK G nt e a):cK b nt e a:=
 ⟨r.size,λt v c=>(r.get t v c).dM h,r.out⟩
def cK.mono{G b:Gh}(h:G.le b){e:Env}{a:Array Value}(r:cK G nt e a):cK b nt e a:=r.dM h.toSub
theorem cK.en{G b:Gh}(h:G.en m b){e:Env}{a:Array Value}(r:cK G nt e a)(d: ∀t,(e t).refs<=m):cK b nt e a:=
 ⟨r.size,λt v c=>(r.get t v c).en h _ _ (d t),r.out⟩
def fR(G:Gh):List (AV×AV)->List MapEntry->Prop
 | [],ms=>ms=[]
 | (k,v)::es,ms=> ∃m r,ms=m::r/\isKey k=true/\an G k m.key/\an G v m.val/\fR G es r
theorem fR.dM{G a:Gh}(h:G.sub a): ∀ {es:List (AV×AV)} {ms:List MapEntry},fR G es ms->fR a es ms
 | [],_,r=>by trivial
 | (k,v)::es,_,r=>by
   obtain⟨m,q,e,f,d,c,b⟩:=r;exact⟨m,q,e,f,d.dM h,c.dM h,b.dM h⟩
def amI{k:AV}(h:isKey k=true):k.refs=0:=by cases k<;>simp[isKey]at h<;>simp[AV.refs]
theorem fR.en{m:Nat}{G b:Gh}(h:G.en m b): ∀ {es:List (AV×AV)} {ms:List MapEntry},fR G es ms->(∀p∈es,p.2.refs<=m)->fR b es ms
 | [],_,r,_=>by trivial
 | (k,v)::es,_,r,hm=>by
   obtain⟨e,q,he,a,f,d,c⟩:=r;exact⟨e,q,he,a,f.en h _ _ (by simp[amI a]),d.en h _ _ (hm (k,v) (by simp)),c.en h λp g=>hm p (by grind)⟩
def an.aB7{G:Gh}{id off:Nat}(r:an G (.ptr id off) v):G.pz id=none:=by exact r.1.2
def an.aB8{G:Gh}{id off:Nat}(r:an G (.dw id ak i off) v):G.pz id=none:=by exact r.1.2
def an.M7{G:Gh}{id off len:Nat}{c:Bool}(r:an G (.ref id ak sz off len c) v):G.pz id=none:=by exact r.1.2
def an.amJ{G:Gh}{id off len:Nat}(r:an G (.fA id sz off len) v):G.pz id=none:=by exact r.1.2
def an.He{G:Gh}{id:Nat}(r:an G (.mp id) v):G.pz id=none:=by exact r.1.2
variable(P:Program)
def iO(G:Gh)(id:Nat)(w:World):ae->Prop
 |.box cs tg=>G.ak id=0/\ ∃ (c:Array Value) (ty:TypeId),w.heap[G.bf id]?=some (.cells c ty (0,0))/\aF G cs c.toList/\Leaves c.toList/\ ∀t,tg=some t->ty=t
 |.row ak sz ty af=>G.ak id=ak/\G.sz id=sz/\ (∀el∈af,el.length=sz)/\ ∃ (c:Array Value) (pre vs post:List Value),w.heap[G.bf id]?=some (.cells c ty (0,0))/\
   c.toList=pre++(vs++post)/\pre.length=G.base id/\c.size=G.base id+G.eD id/\br G af vs/\Leaves vs
 |.map es=>G.ak id=0/\ ∃ms clock,w.heap[G.bf id]?=some (.map ms clock)/\fR G es ms.toList
 |.loop st a fn env ps as bd=>G.ak id=0/\ ∃L:Loop,w.heap[G.bf id]?=some (.loop L)/\L.state=st/\yz a L.pending/\True/\cK G L.tmps.size env L.tmps/\L.params.toList=ps/\
   ps.all (· <L.tmps.size)=true/\ ∃rows,fk P rows L.tmps.size L.assign=some as/\fk P rows L.tmps.size L.body=some bd
 |.bt=>G.ak id=0/\w.heap[G.bf id]?=some (.deferred (some []))
 |.dead=>True
structure aX(B:Nat)(ay:World)(G:Gh)(E:AS)(w:World):Prop where
 len:G.n=E.heap.length
 bu: ∀b o v,G.bu b o=some v->w.cell? ⟨b,o,none⟩=some v
 obj: ∀ (id:Nat) (o:ae),E.heap[id]?=some o->G.pz id=none->iO P G id w o
 inj: ∀i j,G.on i->G.on j->G.bf i=G.bf j->i=j
 sep: ∀i,G.on i-> ∀o,G.bu (G.bf i) o=none
 low: ∀i,G.on i->B<=G.bf i/\G.bf i<w.heap.size
 mh:Below B ay w
 hB:B<=w.heap.size
 mi: ∀id o,id<G.n->G.pz id=some o->E.heap[id]?=some o/\ ∃z tg,o= .box z tg/\aK z=0
 dV: ∀b o v,b<B->ay.cell? ⟨b,o,none⟩=some v->G.bu b o=some v
def aX.yA{B:Nat}{a:World}{G:Gh}{E:AS}(h:aX P B a G E w){o:Nat}(e:G.bu b o=some v):b<w.heap.size:=by
 have:=h.bu b o v e;simp only[World.cell?]at this
 grind
variable{P}
theorem fR.refs{G:Gh}: ∀ {es:List (AV×AV)} {ms:List MapEntry},fR G es ms-> ∀p∈es,p.2.refs<=G.n
 | [],_,_,_,a=>by grind
 | (k,v)::es,_,r,p,a=>by
   obtain⟨m,q,_,_,_,c,b⟩:=r;rcases ag7.1 a with rfl|a
   ·exact an.refs _ _ c
   ·exact fR.refs b p a
theorem iO.le{G:Gh}{id:Nat}{w:World}: ∀ {o:ae},iO P G id w o->o.le G.n
 |.box _ _,r=>by obtain⟨_,c,ty,_,l,_⟩:=r;exact aF.refs _ _ l
 |.row _ _ _ _,r=>by obtain⟨_,_,_,c,pre,vs,post,_,_,_,_,l,_⟩:=r;exact br.refs _ _ l
 |.map es,r=>by obtain⟨_,ms,clock,_,l⟩:=r;exact l.refs
 |.loop _ _ _ _ _ _ _,r=>by obtain⟨_,L,_,_,_,_,he,_⟩:=r;exactλt=>he.refs t
 |.bt,_|.dead,_=>trivial
def aX.amK{B:Nat}{a:World}{G:Gh}{E:AS}(h:aX P B a G E w){id:Nat}{o:ae}(e:E.heap[id]?=some o):o.le G.n:=by
 cases c:G.pz id with
 |none=>exact(h.obj id o e c).le
 |some o'=>
  obtain⟨b,z,tg,rfl,d⟩:=h.mi id o' (by rw[h.len];grind) c;rw[e]at b;cases b;simp only[ae.le,d];omega
theorem iO.dM{G d:Gh}(h:G.sub d){id:Nat}(j:G.on id)(g:d.ak id=G.ak id)(i:w'.heap[G.bf id]?=w.heap[G.bf id]?): ∀ {o:ae},iO P G id w o->iO P d id w' o:=by
 obtain⟨k,x,v,u⟩:=h.same id j g;intro o r;cases o with
 |box cs tg=>
  obtain⟨b,c,ty,e,l,a⟩:=r;exact⟨by omega,c,ty,by grind,l.dM h,a⟩
 |row ak sz ty af=>
  obtain⟨b,e1,hu,c,pre,vs,post,e,m,e3,y,l,a⟩:=r;exact⟨by omega,by omega,hu,c,pre,vs,post,by grind,m,by omega,by omega,l.dM h,a⟩
 |map es=>
  obtain⟨b,ms,clock,e,l⟩:=r;exact⟨by omega,ms,clock,by grind,l.dM h⟩
 |loop st f fn env ps as bd=>
  obtain⟨b,L,e,t,s,q,p,n⟩:=r;exact⟨by omega,L,by grind,t,s,q,p.dM h,n⟩
 |bt=>exact⟨by rw[g];exact r.1,by rw[k,i];exact r.2⟩
 |dead=>trivial
def iO.mono{G a:Gh}(h:G.le a){id:Nat}(d:G.on id)(c:a.ak id=G.ak id)(b:w'.heap[G.bf id]?=w.heap[G.bf id]?){o:ae}(r:iO P G id w o):iO P a id w' o:=r.dM h.toSub d c b
theorem iO.en{G g:Gh}(h:G.en m g){id:Nat}(a:id<m)(i:w'.heap[G.bf id]?=w.heap[G.bf id]?): ∀ {o:ae},iO P G id w o->o.le m->iO P g id w' o:=by
 have k:=h.bf id a;have y:=h.base id a;have x:=h.eD id a;have v:=h.sz id a;have j:=h.ak id a;intro o r hm;cases o with
 |box cs tg=>
  obtain⟨d,c,ty,e,l,b⟩:=r;exact⟨by omega,c,ty,by grind,aF.en h _ _ l hm,b⟩
 |row ak sz ty af=>
  obtain⟨d,e1,hu,c,pre,vs,post,e,n,e3,z,l,b⟩:=r;exact⟨by omega,by omega,hu,c,pre,vs,post,by grind,n,by omega,by omega,br.en h _ _ l hm,b⟩
 |map es=>
  obtain⟨d,ms,clock,e,l⟩:=r;exact⟨by omega,ms,clock,by grind,l.en h hm⟩
 |loop st f fn env ps as bd=>
  obtain⟨d,L,e,u,t,s,q,p⟩:=r;exact⟨by omega,L,by grind,u,t,s,q.en h hm,p⟩
 |bt=>exact⟨by rw[j];exact r.1,by rw[k,i];exact r.2⟩
 |dead=>trivial
section
def AQ(lo:oN)(j:Nat):Prop:= ∃l,lo=some l/\l<=j
structure AS.Ext(E E':AS):Prop where
 len:E.heap.length<=E'.heap.length
 lo: ∀j,AQ E.lo j->AQ E'.lo j
 obj: ∀ (j:Nat) (o:ae),E.heap[j]?=some o-> ∃o',E'.heap[j]?=some o'/\ ((∀n,o.le n->o'.le (max n (j+1)))\/AQ E'.lo j)
def AS.Ext.refl(E:AS):E.Ext E:=⟨afA _,λ_ h=>h,λ_ o h=>⟨o,h,.inl λ_ k=>k.mono (by omega)⟩⟩
def AS.Ext.trans{a b c:AS}(h:a.Ext b)(k:b.Ext c):a.Ext c where
 len:=ahk h.len k.len
 lo j x:=k.lo j (h.lo j x)
 obj j o e:=by
  obtain⟨i,m,d⟩:=h.obj j o e;obtain⟨g,l,f⟩:=k.obj j i m;refine⟨g,l,?_⟩;rcases f with f|f
  ·rcases d with d|d
   ·grind
   ·exact .inr (k.lo j d)
  grind
theorem AS.Ext.push(E:AS)(o:ae):E.Ext (E.push o)where
 len:=by simp[AS.push]
 lo _ h:=h
 obj j x e:=⟨x,by
  have:j<E.heap.length:=(adg.1 e).1;simp[AS.push,adf this,e],.inl λ_ k=>k.mono (by omega)⟩
def AR{lo:oN}{id:Nat}(h:AQ lo j\/id<=j):AQ (cJ lo id) j:=by
 cases lo with
 |none=>
  rcases h with⟨l,e,_⟩|h
  ·cases e
  ·exact⟨id,rfl,h⟩
 |some a=>
  refine⟨Nat.min a id,by simp[cJ,Nat.min_comm],?_⟩;rcases h with⟨l,e,b⟩|h
  ·grind
  grind
theorem AS.Ext.set{E:AS}{id:Nat}{o o':ae}{refs:Nat}(d:E.heap[id]?=some o)(h: ∀n,o.le n->refs<=n->o'.le n):E.Ext (E.set id o' refs)where
 len:=by simp[AS.set]
 lo j x:=by
  simp only[AS.set];split
  ·exact x
  ·exact AR (.inl x)
 obj j x e:=by
  by_cases b:j=id
  ·subst b;obtain rfl:o=x:=by grind
   have a:j<E.heap.length:=(adg.1 e).1;refine⟨o',by simp[AS.set,a],?_⟩;simp only[AS.set];split
   ·exact .inl λn c=>h _ (c.mono (by omega)) (by omega)
   ·simp_all[AR,afA]
  ·exact⟨x,by simp[AS.set,adb (λh=>b h.symm),e],.inl λ_ k=>k.mono (by omega)⟩
def Below.amL{B:Nat}{ay:World}(h:Below B ay w)(ho:w'.os=w.os)(b:w'.tape=w.tape)(a:w'.output=w.output)(c:w.heap.size<=w'.heap.size)
 (d: ∀k,k<B->w'.heap[k]?=w.heap[k]?):Below B ay w':=h.trans ⟨ho,b,a,c,d⟩
variable{P:Program}{B:Nat}{ay:World}
def Gh.push(G:Gh)(b:Nat)(eD sz:Nat):Gh:=
 {G with n:=G.n+1,bf:=λi=>if i=G.n then b else G.bf i,base:=λi=>if i=G.n then 0 else G.base i,
         ak:=λi=>if i=G.n then 0 else G.ak i,eD:=λi=>if i=G.n then eD else G.eD i,sz:=λi=>if i=G.n then sz else G.sz i,pz:=λi=>if i=G.n then none else G.pz i}
def Gh.AT(G:Gh)(b eD sz:Nat):G.le (G.push b eD sz):=
 .mk' (λ_ _ _ h=>h) (by simp[Gh.push]) (λi a=>by simp[Gh.push,azs a]) (λi a=>by simp[Gh.push,azs a]) (λi a _=>by simp[Gh.push,azs a])
def Gh.Hf{G:Gh}{eD:Nat}(h: (G.push b eD sz).on i):i=G.n\/ (i≠G.n/\G.on i):=by
 obtain⟨c,a⟩:=h;simp only[Gh.push]at c a;by_cases e:i=G.n
 ·omega
 ·rw[adU e]at a;exact .inr ⟨e,by omega,a⟩
def cell?_alloc_old{o:Obj}(h:b<w.heap.size): (w.alloc o).cell? ⟨b,k,none⟩=w.cell? ⟨b,k,none⟩:=World.cell?_alloc_lt w o ⟨b,k,none⟩ h
theorem aX.push{G:Gh}{E:AS}(h:aX P B ay G E w)(O:Obj)(o:ae)(eD sz:Nat)
  (ho:iO P (G.push w.heap.size eD sz) G.n (w.alloc O) o):aX P B ay (G.push w.heap.size eD sz) (E.push o) (w.alloc O)where
 len:=by simp[Gh.push,AS.push,h.len]
 bu b k v e:=by
  have q:G.bu b k=some v:=e;rw[cell?_alloc_old (h.yA P q)];exact h.bu b k v q
 obj id x e d:=by
  simp only[AS.push,List.getElem?_append]at e;split at e
  ·rename_i m;have c:id<G.n:=by rw[h.len];exact m
   simp only[Gh.push,adU (azs c)]at d;exact iO.mono (G.AT _ _ _) ⟨c,d⟩ (by simp[Gh.push,azs c]) (Below.heap_alloc _ _ _ (h.low id ⟨c,d⟩).2) (h.obj id x e d)
  ·rename_i u;have:id=E.heap.length:=by
    cases s:id-E.heap.length with
    |zero=>omega
    |succ k=>rw[s]at e;simp at e
   subst this;simp at e;subst e;rw[<-h.len];exact ho
 inj i j g t e:=by
  rcases Gh.Hf g with a| ⟨f,a⟩<;>rcases Gh.Hf t with l| ⟨p,l⟩
  ·rw[a,l]
  ·simp only[Gh.push,a,ag6,adU p]at e;have:=(h.low j l).2;omega
  ·simp only[Gh.push,l,ag6,adU f]at e;have:=(h.low i a).2;omega
  ·simp only[Gh.push,adU f,adU p]at e;exact h.inj i j a l e
 sep i g k:=by
  rcases Gh.Hf g with a| ⟨f,a⟩
  ·simp only[Gh.push,a,ag6];cases y:G.bu w.heap.size k with
   |none=>rfl
   |some v=>have:=h.yA P y;omega
  ·simp only[Gh.push,adU f];exact h.sep i a k
 low i g:=by
  rcases Gh.Hf g with a| ⟨f,a⟩
  ·simp only[Gh.push,a,ag6];exact⟨h.hB,by simp⟩
  ·simp only[Gh.push,adU f];have:=h.low i a;exact⟨this.1,by simp;omega⟩
 mi id x c d:=by
  simp only[Gh.push]at c d;by_cases a:id=G.n
  ·rw[adY a]at d;cases d
  ·rw[adU a]at d;obtain⟨n,r⟩:=h.mi id x (by omega) d;exact⟨by simp only[AS.push];rw[adf (adg.1 n).1];exact n,r⟩
 mh:=h.mh.alloc h.hB O
 hB:=by have:=h.hB;simp;omega
 dV:=h.dV
def Gh.Dd{G:Gh}{E:AS}(h:aX P B ay G E w){eD:Nat}: (G.push b eD sz).on E.heap.length:=⟨by simp[Gh.push,h.len],by simp[Gh.push,h.len]⟩
def Gh.freeze(G:Gh)(b:Nat)(vs:List Value):Gh:={G with bu:=λa o=>if a=b then vs[o]? else G.bu a o}
def aX.VK{G:Gh}{E:AS}(h:aX P B ay G E w)(c:Array Value)(ty:TypeId)(g:Nat×Nat)(vs:List Value)(n: ∀ (j:Nat) (v:Value),vs[j]?=some v->c[j]?=some v):
  G.le (G.freeze w.heap.size vs)/\aX P B ay (G.freeze w.heap.size vs) E (w.alloc (.cells c ty g)):=by
 have hle:G.le (G.freeze w.heap.size vs):=by
  refine .mk' (λb o v e=>?_) (afA _) (λ_ _=>rfl) (λ_ _=>afA _) (λ_ _ _=>⟨rfl,rfl,rfl,rfl⟩);have:=h.yA P e;simp only[Gh.freeze]
  grind
 refine⟨hle,h.len,λb o v e=>?_,λid x e f=>?_,h.inj,λi d k=>?_,λi d=>?_,h.mh.alloc h.hB _,?_,h.mi,λb o v l e=>hle.bu _ _ _ (h.dV b o v l e)⟩
 ·simp only[Gh.freeze]at e;split at e
  ·have p: (w.alloc (.cells c ty g)).heap[w.heap.size]?=some (.cells c ty g):=apV w _;unfold World.cell?
   grind
  ·rw[cell?_alloc_old (h.yA P e)];exact h.bu b o v e
 ·have a:id<G.n:=by rw[h.len];exact(adg.1 e).1
  exact iO.mono hle ⟨a,f⟩ rfl (Below.heap_alloc _ _ _ (h.low id ⟨a,f⟩).2) (h.obj id x e f)
 ·have:=(h.low i d).2;simp only[Gh.freeze];rw[adU (by omega)];exact h.sep i d k
 ·obtain⟨m,q⟩:=h.low i d
  exact⟨m,by have e: (G.freeze w.heap.size vs).bf i=G.bf i:=rfl
             rw[e];simp;omega⟩
 ·have:=h.hB;simp;omega
theorem aX.set{G p:Gh}{E:AS}(h:aX P B ay G E w){id:Nat}(d:G.on id)(o':ae)(refs:Nat)
  (c:G.le p) (q:p.n=G.n) (C:p.bu=G.bu)
  (l: ∀i,i<G.n->i≠id->p.ak i=G.ak i)
  (m:p.bf id=G.bf id\/w.heap.size<=p.bf id) (z:p.bf id<w'.heap.size)
  (D: ∀k,k≠G.bf id->k<w.heap.size->w'.heap[k]?=w.heap[k]?) (I:w.heap.size<=w'.heap.size)
  (n:w'.os=w.os) (y:w'.tape=w.tape) (J:w'.output=w.output)
  (ho:iO P p id w' o'):aX P B ay p (E.set id o' refs) w' where
 len:=by simp[AS.set,q,h.len]
 bu b k v e:=by
  rw[C]at e;have g:b≠G.bf id:=λg=>by rw[g,h.sep id d k]at e;cases e
  have:=h.bu b k v e;simp only[World.cell?]at*
  grind
 obj j x e r:=by
  by_cases f:j=id
  ·subst f;have:E.heap.length=G.n:=h.len.symm;simp[AS.set,this,d.1]at e;subst e;exact ho
  ·simp only[AS.set,adb (λh=>f h.symm)]at e;have t:j<G.n:=by rw[h.len];exact(adg.1 e).1
   rw[c.pz j t]at r;have u:G.on j:=⟨t,r⟩;refine iO.mono c u (l j t f) (D _ (λhe=>f (h.inj j id u d he)) (h.low j u).2) (h.obj j x e r)
 inj i j a f e:=by
  have a:G.on i:=⟨by rw[<-q];exact a.1,by rw[<-c.pz i (by rw[<-q];exact a.1)];exact a.2⟩;have f:G.on j:=⟨by rw[<-q];exact f.1,by rw[<-c.pz j (by rw[<-q];exact f.1)];exact f.2⟩;have key: ∀i,G.on i->i≠id->p.bf i=G.bf i:=λi a s=>(c.same i a (l i a.1 s)).1
  by_cases n:i=id<;>by_cases y:j=id
  ·omega
  ·rw[n,key j f y]at e;rcases m with g|g
   ·rw[g]at e;rw[n];exact h.inj id j d f e
   ·have:=(h.low j f).2;omega
  ·rw[y,key i a n]at e;rcases m with g|g
   ·rw[g]at e;rw[y];exact h.inj i id a d e
   ·have:=(h.low i a).2;omega
  ·rw[key i a n,key j f y]at e;exact h.inj i j a f e
 sep i a k:=by
  have a:G.on i:=⟨by rw[<-q];exact a.1,by rw[<-c.pz i (by rw[<-q];exact a.1)];exact a.2⟩;rw[C];by_cases n:i=id
  ·subst n;rcases m with g|g
   ·rw[g];exact h.sep i d k
   ·cases A:G.bu (p.bf i) k with
    |none=>rfl
    |some v=>have:=h.yA P A;omega
  ·rw[(c.same i a (l i a.1 n)).1];exact h.sep i a k
 low i a:=by
  have a:G.on i:=⟨by rw[<-q];exact a.1,by rw[<-c.pz i (by rw[<-q];exact a.1)];exact a.2⟩;by_cases n:i=id
  ·subst n;rcases m with g|g
   ·exact⟨by rw[g];exact(h.low i d).1,z⟩
   ·have:=h.hB;exact⟨by omega,z⟩
  ·rw[(c.same i a (l i a.1 n)).1];have:=h.low i a;exact⟨this.1,by omega⟩
 mh:=Below.amL h.mh n y J I λk K=>D k (by have:=(h.low id d).1;omega) (by have:=h.hB;omega)
 hB:=by have:=h.hB;omega
 mi j x f r:=by
  rw[q]at f;rw[c.pz j f]at r;obtain⟨H,F⟩:=h.mi j x f r;have s:id≠j:=λe=>by rw[<-e,d.2]at r;cases r
  exact⟨by simp only[AS.set];rw[adb s];exact H,F⟩
 dV b o v g e:=by rw[C];exact h.dV b o v g e
def aX.drew{G:Gh}{E:AS}(h:aX P B ay G E w):aX P B ay G E w.drew:=
 ⟨h.len,h.bu,λid x e a=>iO.mono G.le_refl ⟨by rw[h.len];grind,a⟩ rfl rfl (h.obj id x e a),h.inj,h.sep,h.low,h.mh.drew,h.hB,h.mi,h.dV⟩
def aX.lo{G:Gh}{E:AS}(h:aX P B ay G E w)(lo:oN):aX P B ay G {E with lo:=lo} w:=
 ⟨h.len,h.bu,h.obj,h.inj,h.sep,h.low,h.mh,h.hB,h.mi,h.dV⟩
end
section
variable{P:Program}
def eY(w:World)(b:Nat)(O:Obj):World:={w with heap:=w.heap.setIfInBounds b O}
def amM(w:World)(b:Nat)(O a:Obj):eY (eY w b O) b a=eY w b a:=by simp[eY]
def vz(h:b<w.heap.size): (eY w b O).heap[b]?=some O:=by simp[eY,h]
def VL(h:k≠b): (eY w b O).heap[k]?=w.heap[k]?:=by
 simp only[eY]
 grind
def amN(h:w.heap[b]?=some O):eY w b O=w:=by
 have:w.heap.setIfInBounds b O=w.heap:=by grind
 unfold eY;rw[this]
@[simp]theorem amO (w:World) (b:Nat) (O:Obj): (eY w b O).heap.size=w.heap.size:=by simp[eY]
def amP{o:Nat}{ty:TypeId}{a:Nat×Nat}(h:w.heap[b]?=some (.cells c ty a))(v:Value):
  w.setCell ⟨b,o,none⟩ v=eY w b (.cells (c.setIfInBounds o v) ty a):=by
 simp only[World.setCell,eY]
 congr 1
 grind
def lp(c:Array Value)(o:Nat):List Value->Array Value
 | []=>c
 |v::vs=>lp (c.setIfInBounds o v) (o+1) vs
@[simp]theorem aB9 (c:Array Value) (o:Nat) (vs:List Value): (lp c o vs).size=c.size:=by
  induction vs generalizing c o with
  |nil=>rfl
  |cons v vs ih=>simp[lp,ih]
def Hg(c:Array Value)(o:Nat)(vs:List Value)(h:o+vs.length<=c.size):
  (lp c o vs).toList=c.toList.take o++(vs++c.toList.drop (o+vs.length)):=by
 induction vs generalizing c o with
 |nil=>simp[lp]
 |cons v vs a=>
  rw[lp,a _ _ (by grind)];have ho:o<c.toList.length:=by grind
  simp only[Array.toList_setIfInBounds,afL];rw[List.take_set,List.drop_set];simp only[show(o<o+1+vs.length) by omega,ag6,afX,aep ho];have hm:min o c.size=o:=aqe (by omega);simp[show o+1+vs.length=o+(vs.length+1) by omega,hm]
theorem jB(b o i:Nat): (⟨b,o,none⟩:Addr).add i=⟨b,o+i,none⟩:=by
 unfold Addr.add
 grind
def amQ(h:leaf v=true):v.oneCell'=true:=by trivial
def M8{ty:TypeId}(vs:List Value): ∀ (c:Array Value) (w:World) (o i:Nat),w.heap[b]?=some (.cells c ty (0,0))->o+i+vs.length<=c.size->Leaves vs->
  (storeCells ⟨b,o,none⟩ vs i).run P w= .ok () (eY w b (.cells (lp c (o+i) vs) ty (0,0))):=by
 induction vs with
 |nil=>intro c w o i h _ _;simp[storeCells,lp,amN h]
 |cons v vs e=>
  intro c w o i h g d;simp only[afL]at g;have j:w.cell? (Addr.add ⟨b,o,none⟩ i)=some (c[o+i]'(by omega)):=by
   rw[jB,cell_of_row w b (o+i) c ty (0,0) h];grind
  have f:w.frozen? (Addr.add ⟨b,o,none⟩ i)=false:=by grind [jB,frozen_of_row]
  simp only[storeCells,Sem.run_bind];rw[run_store P w _ v .plain (amQ (d v (by simp)))];simp only[j,f];rw[jB,amP h];have a:b<w.heap.size:=(amp.1 h).1;simp only[afE,ai5,Result.andThen_ok];rw[e (c.setIfInBounds (o+i) v) _ o (i+1) (vz a) (by grind) (λu hu=>d u (by grind)),amM];rfl
def run_loadCellsFrom{o:Nat}(n:Nat): ∀ (i:Nat) (acc:Array Value) (vs:List Value),vs.length=n->(∀j v,vs[j]?=some v->w.cell? ⟨b,o+i+j,none⟩=some v)->
  (loadCellsFrom ⟨b,o,none⟩ i n acc).run P w= .ok (acc++vs.toArray) w:=by
 induction n with
 |zero=>intro i acc vs c _;have:vs=[]:=akU.1 c;subst this;simp[loadCellsFrom]
 |succ n e=>
  intro i acc vs c a;cases vs with
  |nil=>grind
  |cons v vs=>
   have d:=a 0 v (by simp);simp only[loadCellsFrom,Sem.run_bind];rw[jB,run_load];simp only[afM]at d;simp only[d];simp only[Result.andThen_ok];rw[e (i+1) (acc.push v) vs (by grind) (λj u f=>by
    have:=a (j+1) u (by grind)
    grind)]
   simp_all
def run_loadCells{o:Nat}(vs:List Value)(a:vs.length=n)(c: ∀j v,vs[j]?=some v->w.cell? ⟨b,o+j,none⟩=some v):
  (loadCells ⟨b,o,none⟩ n).run P w= .ok vs.toArray w:=by
 unfold loadCells;rw[run_loadCellsFrom n 0 #[] vs a (by omega)];simp
end
section
section
variable{P:Program}
def oB(h:cw P t=some n)(w:World): (sizeOf t).run P w= .ok n w:=by
 unfold cw at h;cases b:P.info? t with
 |none=>grind
 |some i=>
  simp[b]at h;simp only[sizeOf,Sem.run_bind,run_typeInfo _ b,Result.andThen_ok,Sem.run_pure];rw[h]
def sF{b:Bool}(h:nA P t=some b)(w:World): (isAgg t).run P w= .ok b w:=by
 unfold nA at h;cases hu:P.underlying t with
 |none=>grind
 |some d=>
  simp only[hu,afG,adT]at h;subst h;simp only[isAgg,Sem.run_bind,ad4 hu,Result.andThen_ok];cases d<;>simp[Sem.run_pure]
end
def G0(B:Nat)(ay:World):Gh:={bu:=λb o=>if b<B then ay.cell? ⟨b,o,none⟩else none,n:=0,bf:=id,base:=id,ak:=id,eD:=id,sz:=id}
def fH(X:Ctx)(B:Nat)(ay:World):Prop:=
 (∀g cs,X.dR g=some cs->g<B/\ ∃vs,(∀ (j:Nat) v,vs[j]?=some v->ay.cell? ⟨g,j,none⟩=some v)/\Leaves vs/\
   aF (G0 B ay) cs vs)/\
 (∀g es,X.fZ g=some es->g<B/\ ∃b r ms clock,r<B/\ay.cell? ⟨g,0,none⟩=some (.map (some r))/\ay.heap[r]?=some (.map ms clock)/\fR (G0 B ay) b ms.toList/\ ∀k v,eC k es=some v->eC k b=some v)
variable{P:Program}{X:Ctx}{B:Nat}{ay:World}
def VM{G:Gh}{E:AS}(h:aX P B ay G E w): (G0 B ay).en 0 G:=by
 refine⟨λb o v c=>?_,aeu _,?_,?_,?_,?_,?_,?_⟩
 ·simp only[G0]at c;split at c
  ·exact h.dV b o v ‹_› c
  grind
 all_goals simp
def fH.rel(d:fH X B ay){G:Gh}{E:AS}(h:aX P B ay G E w){g:Nat}{cs:List AV}(e:X.dR g=some cs):
  ∃vs,qX G g 0 vs/\Leaves vs/\aF G cs vs:=by
 obtain⟨f,vs,k,i,b⟩:=d.1 g cs e;refine⟨vs,λj v c=>?_,i,aF.en (VM h) _ _ b (by have:=aF.refs _ _ b;simpa[G0]using this)⟩;rw[ak4];exact h.dV g j v f (k j v c)
def fH.amR(i:fH X B ay){G:Gh}{E:AS}(h:aX P B ay G E w){g:Nat}{es:List (AV×AV)}(e:X.fZ g=some es)(d:an G (.mb g) v):
  ∃b r ms clock,v= .map (some r)/\w.heap[r]?=some (.map ms clock)/\fR G b ms.toList/\ ∀k v,eC k es=some v->eC k b=some v:=by
 obtain⟨j,b,r,ms,clock,o,n,m,c,l⟩:=i.2 g es e;have:=h.dV g 0 _ j n;rw[d.2]at this;cases this;exact⟨b,r,ms,clock,rfl,by rw[h.mh.block r o];exact m,fR.en (VM h) c (λp f=>by have:=fR.refs c p f;simpa[G0]using this),l⟩
def Good(P:Program)(B:Nat)(ay:World)(G:Gh)(E:AS)(v:AV)(c:AS)(r:Result Next):Prop:=
 ∃b w' v',(r= .ok (.value v') w'\/ (r= .ok .skip w'/\v'=undef))/\G.le b/\aX P B ay b c w'/\an b v v'/\E.Ext c
def Good.same{G:Gh}{E:AS}(h:aX P B ay G E w){v:AV}(b:an G v v'):Good P B ay G E v E (.ok (.value v') w):=
 ⟨G,w,v',.inl rfl,G.le_refl,h,b,.refl E⟩
def M9{G:Gh}: ∀ (v:Value),(AV.kj v).plain=true->an G (AV.kj v) v:=by
 intro v h;cases v with
 |pointer a=>cases a<;>simp_all[AV.kj,an,AV.plain]
 |slice a n c=>
  cases a with
  |none=>
   simp only[AV.kj]at*;split at h
   ·rename_i e;simp[e,an]
   ·trivial
  |some a=>trivial
 |map r=>cases r<;>simp_all[AV.kj,an,AV.plain]
 |tuple vs=>
  simp only[AV.kj]at*;split at h
  ·rename_i e;have:vs= #[]:=Array.eq_empty_of_size_eq_zero e;subst this;simp[an,aF]
  ·trivial
 |_=>trivial
theorem VN{G:Gh}: ∀ (vs:List Value),(∀v∈vs,(AV.kj v).plain=true)->aF G (vs.map AV.kj) vs
 | [],_=>by rfl
 |v::vs,h=>⟨v,vs.map id,by simp,M9 v (h v (by simp)),by simpa using VN vs λu hu=>h u (by grind)⟩
def amS(h: (AV.kj v).plain=true)(k: (AV.kj v).ck=false):leaf v=true:=by
 cases v with
 |agg cs=>trivial
 |tuple vs=>simp only[AV.kj]at k;split at k<;>simp[AV.ck]at k
 |_=>rfl
def VO{G:Gh}(v:Value)(h:Hc v=true):an G (AV.ofValue v) v:=by
 cases v with
 |agg cs=>
  simp only[Hc,afP,ag9,aBp]at h;exact⟨cs,rfl,VN _ λv b=>(h v b).1,λv b=>amS (h v b).1 (h v b).2⟩
 |iface t v=>exact⟨v,rfl,M9 v h⟩
 |_=>simp only[AV.ofValue];apply M9;exact h
def Na{G:Gh}{e:Env}{b:Array Value}(h:cK G nt e b)(t:Nat):an G (e t) (b.getD t undef):=by
 by_cases c:t<b.size
 ·have:=h.get t b[t] (by simp);simp_all
 ·rw[h.out t (by have:=h.size;omega)];simp[Array.getD,c,an,aF,undef]
def cz{G:Gh}{e:Env}(h:cK G nt e a.tmps){x:Operand}{y:ao}(b:bK x=some y):an G (y.get e) (a.eval x):=by
 cases x with
 |tmp t=>simp only[bK,adT]at b;subst b;exact Na h t
 |const v=>
  simp only[bK]at b;split at b
  ·rename_i c;cases b;exact VO v c
  grind
 |global g=>simp only[bK,adT]at b;subst b;simp[ao.get,an,Act.eval]
 |func f=>simp only[bK,adT]at b;subst b;exact⟨.func f,#[],#[],rfl,rfl,by rfl,by rfl⟩
theorem yB{G:Gh}{nt:Nat}{e:Env}{a:Act}(h:cK G nt e a.tmps): ∀ {xs:List Operand} {ys:List ao},oz xs=some ys->aF G (ys.map (·.get e)) (xs.map a.eval)
 | [],_,b=>by simp only[oz,adT]at b;subst b;simp[aF]
 |x::xs,ys,b=>by
  simp only[oz]at b;split at b
  ·rename_i y c f d;cases b;exact⟨_,_,rfl,cz h f,yB h d⟩
  grind
section ops
variable{G:Gh}{E:AS}{w:World}(hw:aX P B ay G E w){nt:Nat}{e:Env}{a:Act}(he:cK G nt e a.tmps)
include hw
omit hw in
theorem VP{b:Bool}{off:Nat}{cs:List AV}{v:AV}(c:aF G cs vs)(d:Leaves vs)(h:part b n cs off=some v):
  (b=true/\off+n<=vs.length/\an G v (.agg ((vs.drop off).take n).toArray))\/ (b=false/\ ∃u,vs[off]?=some u/\an G v u):=by
 unfold part at h;cases b with
 |true=>
  simp only[ag6]at h;split at h
  ·rename_i hle;cases h;refine .inl ⟨rfl,by rw[c.length];exact hle,⟨_,rfl,by simpa using(c.drop off).take n,by simpa using(d.drop off).take n⟩⟩
  ·cases h
 |false=>
  simp only[afE,ai5]at h;obtain⟨u,hu,f⟩:=c.get off v h;exact .inr ⟨rfl,u,hu,f⟩
omit hw in
theorem Hh{h:Bool}{o:Nat}{v:AV}{cs:List AV}{off:Nat}(g:nA P t=some h)(m:cw P t=some n)
  (l:aF G cs vs) (i:Leaves vs) (k:part h n cs off=some v) (f: ∀j u,vs[j]?=some u->w.cell? ⟨b,o+j,none⟩=some u):
  ∃v',(loadVar t ⟨b,o+off,none⟩).run P w= .ok v' w/\an G v v':=by
 rcases VP l i k with⟨rfl,hle,d⟩| ⟨rfl,u,hu,d⟩
 ·refine⟨_,?_,d⟩;simp only[loadVar,Sem.run_bind,sF g,Result.andThen_ok,ag6,oB m];rw[run_loadCells ((vs.drop off).take n) (by simp;omega) (λj u c=>by
   rw[anH]at c;split at c
   ·rw[alH]at c;rw[akl];exact f _ _ c
   ·cases c)]
  simp
 ·refine⟨u,?_,d⟩;simp only[loadVar,Sem.run_bind,sF g,Result.andThen_ok,afE,ai5,run_load];rw[f off u hu]
theorem AU{id:Nat}{cs:List AV}{tg:Option TypeId}(h:E.heap[id]?=some (.box cs tg))(b:G.pz id=none):G.ak id=0/\G.on id/\ ∃c ty,w.heap[G.bf id]?=some (.cells c ty (0,0))/\aF G cs c.toList/\Leaves c.toList/\ ∀t,tg=some t->ty=t:=by
 obtain⟨i,c,ty,g,f,d⟩:=hw.obj id _ h b;exact⟨i,⟨by rw[hw.len];grind,b⟩,c,ty,g,f,d⟩
omit hw in
theorem De{ty:TypeId}(h:w.heap[b]?=some (.cells c ty (0,0)))(j:Nat)(u:Value)(d:c.toList[j]?=some u):w.cell? ⟨b,j,none⟩=some u:=by
 rw[cell_of_row w b j c ty (0,0) h];simpa using d
theorem VQ(hg:fH X B ay){W:Bool}(H:nA P t=some W)(F:cw P t=some n){x v:AV}{C:Value}(d:an G x C)(h:cm X E W n x=some v):
  ∃v',(Instr.loadAt t C).run P w= .ok v' w/\an G v v':=by
 have key: ∀ (A:Addr),C= .pointer (some A)->(∃v',(loadVar t A).run P w= .ok v' w/\an G v v')-> ∃v',(Instr.loadAt t C).run P w= .ok v' w/\an G v v':=by
  rintro A rfl ⟨v',K,hr⟩;refine⟨v',?_,hr⟩;exact K
 unfold cm at h;split at h
 ·rename_i id off;simp only[an]at d;obtain⟨r,A,rfl,z⟩:=d;split at h
  ·rename_i cs N;obtain⟨S,_,c,ty,R,f,m,_⟩:=AU hw N r.2;refine key A rfl ?_;rw[z S];have:=Hh (b:=G.bf id) (o:=0) H F f m h (λj u hu=>by rw[ak4];exact De R j u hu);rwa[ak4]at this
  ·cases h
 ·rename_i id ak i off;simp only[an]at d;obtain⟨r,_,A,rfl,z⟩:=d;split at h
  ·rename_i T sz ty af N;split at h
   ·rename_i K;obtain⟨S,q,hu,c,pre,vs,post,R,hc,hp,hs,f,m⟩:=hw.obj id _ N r.2;subst K;cases k:af[i]? with
    |none=>simp[k]at h
    |some el=>
     simp only[k,apP]at h;split at h
     ·rename_i D;refine key A rfl ?_;rw[z S];have M:i<af.length:=(adg.1 k).1;have O:af.flatten=(af.take i).flatten++(el++(af.drop (i+1)).flatten):=by
       conv=>lhs;rw[<-ai7 i af]
       rw[anK,anc M];have:af[i]=el:=by simpa[aep M]using k
       simp[this]
      have L: (af.take i).flatten.length=i*sz:=by
       have: ∀ (l:List (List AV)),(∀x∈l,x.length=sz)->l.flatten.length=l.length*sz:=by
        intro l f
        induction l with
        |nil=>simp
        |cons x xs ih=>simp[ih λy J=>f y (by simp[J]),f x (by simp)];rw[ap2];omega
       rw[this _ λx d=>hu x (aiy d),afS,aqe (Nat.le_of_lt M)]
      have V:=br.iff.1 f;rw[O]at V;obtain⟨v1,v2,rfl,k1,Z⟩:=V.split;obtain⟨U,v4,rfl,Y,k4⟩:=Z.split;have p:v1.length=i*sz:=by rw[k1.length,L]
      have I:Leaves U:=λy J=>m y (by simp[J])
      have:=Hh (b:=G.bf id) (o:=G.base id+i*G.sz id) H F Y I h (λj u hu=>by
       refine De R _ u ?_;rw[hc];have hj:j<U.length:=(adg.1 hu).1;rw[afJ (by omega),adV,afJ (by rw[p,q];omega),adV,adf (by rw[p,q];omega)];rw[<-hu];congr 1;rw[p,q];omega)
      exact this
     ·cases h
   ·cases h
  ·cases h
 ·rename_i cs off;simp only[an]at d;obtain⟨b,o,vs,rfl,Q,m,f⟩:=d;exact key _ rfl (Hh H F f m h λj u hu=>hw.bu _ _ _ (Q j u hu))
 ·rename_i g;simp only[an]at d;subst d;cases s:X.dR g with
  |none=>simp[s]at h
  |some cs=>
   simp only[s,apP]at h;obtain⟨vs,Q,m,f⟩:=hg.rel hw s;have:=Hh (b:=g) (o:=0) H F f m h λj u hu=>hw.bu _ _ _ (Q j u hu)
   exact key _ rfl (by simpa using this)
 grind
end ops
end
section
variable{P:Program}{X:Ctx}{B:Nat}{ay:World}
variable{G:Gh}{E:AS}{w:World}
def amT(t:aX P B ay G E w)(y:fH X B ay){s:TypeId}{a:Array Field}{f:Nat}{g:Field}(D:P.underlying s=some (.struct a))(C:a[f]?=some g)
  (A:cw P g.type=some n) (F:0<n) {x v:AV} {j:Value} (i:an G x j) (h:wQ X g.offset x=some v):
  ∃v',(Instr.fieldAt s j f).run P w= .ok v' w/\an G v v':=by
 have key: ∀d,j= .pointer (some d)->(Instr.fieldAt s j f).run P w= .ok (.pointer (some (d.add g.offset))) w:=by
  rintro d rfl;simp only[Instr.fieldAt,Sem.run_bind,ad4 D,Result.andThen_ok,C,Instr.sureAddr,Sem.run_pure,fieldPlace,oB A,Sem.run_ite];rw[adU (by omega)];simp
 unfold wQ at h;split at h
 ·obtain⟨p,d,e,c⟩:=i;cases h;refine⟨_,key d e,p,_,rfl,λk=>?_⟩;rw[c k,jB]
 ·obtain⟨p,m,d,e,c⟩:=i;cases h;refine⟨_,key d e,p,m,_,rfl,λk=>?_⟩;rw[c k,jB];grind
 ·obtain⟨b,o,vs,e,r⟩:=i;cases h;refine⟨_,key _ e,b,o,vs,?_,r⟩;rw[jB,akl]
 ·simp only[an]at i;split at h
  ·rename_i cs l;cases h;obtain⟨vs,z,q,u⟩:=y.rel t l;refine⟨_,key _ i,_,0,vs,?_,z,q,u⟩;rw[jB]
  ·cases h
 grind
def Hi{x:AV}{a:Value}{i:Int}(b:an G x a)(h:sw x=some i): ∃k,x= .int k i/\a= .int k i:=by
 cases x<;>simp[sw]at h;simp only[an]at b
 grind
def amU(y:aX P B ay G E w)(C:fH X B ay){a:TypeId}(I:P.underlying t=some (.array n a))(H:cw P a=some sz)
  {x s v:AV} {j g:Value} (d:an G x j) (A:an G s g) (h:vt X n sz x s=some v):
  ∃v',(Instr.indexAt t j g).run P w= .ok v' w/\an G v v':=by
 unfold vt at h;split at h
 ·rename_i i hint;obtain⟨k,_,rfl⟩:=Hi A hint;split at h
  ·rename_i F;have key: ∀f,j= .pointer (some f)->(Instr.indexAt t j (.int k i)).run P w= .ok (.pointer (some (f.add (i.toNat*sz)))) w:=by
    rintro f rfl;simp only[Instr.indexAt,Sem.run_bind,asIntOf,Sem.run_pure,Result.andThen_ok,ad4 I,Instr.sureAddr];by_cases J:n<=1<;>simp[F,oB H]
   split at h
   ·obtain⟨q,f,e,c⟩:=d;cases h;refine⟨_,key f e,q,_,rfl,λl=>?_⟩;rw[c l,jB]
   ·simp only[an]at d;obtain⟨q,p,f,e,c⟩:=d;cases h;refine⟨_,key f e,q,p,_,rfl,λl=>?_⟩;rw[c l,jB];congr 1;omega
   ·simp only[an]at d;obtain⟨b,o,vs,e,r⟩:=d;cases h;refine⟨_,key _ e,b,o,vs,?_,r⟩;rw[jB,akl]
   ·simp only[an]at d;split at h
    ·rename_i cs m;cases h;obtain⟨vs,D,u,z⟩:=C.rel y m;refine⟨_,key _ d,_,0,vs,?_,D,u,z⟩;rw[jB]
    ·cases h
   grind
  grind
 grind
theorem amV{af:List (List AV)}(h: ∀el∈af,el.length=sz):af.flatten.length=af.length*sz:=by
 induction af with
 |nil=>simp
 |cons x xs a=>grind
def br.at{af:List (List AV)}{el:List AV}(k:br G af vs)(n: ∀x∈af,x.length=sz)(l:af[i]?=some el):
  aF G el ((vs.drop (i*sz)).take sz):=by
 have b:af.flatten=(af.take i).flatten++(el++(af.drop (i+1)).flatten):=by grind [List.take_append_drop,List.flatten_append,List.drop_eq_getElem_cons]
 have a: (af.take i).flatten.length=i*sz:=by grind [amV,List.mem_of_mem_take,List.length_take,Nat.min_eq_left,Nat.le_of_lt]
 have c:=br.iff.1 k;rw[b]at c;obtain⟨v1,v2,rfl,g,f⟩:=c.split;obtain⟨d,v4,rfl,e,m⟩:=f.split;have j:v1.length=i*sz:=by rw[g.length,a]
 have h:d.length=sz:=by rw[e.length];grind
 grind
def amW{d:TypeId}(O:P.underlying t=some (.slice d))(N:cw P d=some sz)
  {x H v:AV} {s m:Value} (g:an G x s) (I:an G H m) (h:kn sz x H=some v):
  ∃v',(Instr.indexAt t s m).run P w= .ok v' w/\an G v v':=by
 unfold kn at h;split at h
 ·rename_i i hint;obtain⟨k,_,rfl⟩:=Hi I hint;have key: ∀ (r:Addr) (len cap:Nat),s= .slice (some r) len cap->0<=i/\i<len->(Instr.indexAt t s (.int k i)).run P w= .ok (.pointer (some (r.add (i.toNat*sz)))) w:=by
   rintro r len cap rfl l;simp only[Instr.indexAt,Sem.run_bind,asIntOf,Sem.run_pure,Result.andThen_ok,ad4 O];by_cases Q:len<=1<;>simp[l,oB N]
  split at h
  ·rename_i af cD;split at h
   ·rename_i p;split at h
    ·rename_i el f;split at h
     ·rename_i c;cases h;simp only[an]at g;obtain⟨b,o,cap,a,vs,e,J,F,q,M,K,L⟩:=g;have I:i.toNat<af.length:=(adg.1 f).1;have z:a=sz:=by rw[<-c];exact(q el (amm f)).symm
      subst z;refine⟨_,key _ _ _ e ⟨p,by omega⟩,b,o+i.toNat*a,(vs.drop (i.toNat*a)).take a,?_,?_,(K.drop _).take _,L.at q f⟩
      ·rw[jB];rfl
      ·intro j u n;rw[anH]at n;split at n
       ·rw[alH]at n;rw[akl];exact M _ _ n
       ·cases n
     ·cases h
    ·cases h
   grind
  ·rename_i id ak a off len cD;split at h
   ·rename_i l;obtain⟨C,A,rfl⟩:=l;cases h;simp only[an]at g;obtain⟨p,D,r,cap,e,J,F,q⟩:=g;refine⟨_,key _ _ _ e ⟨C,A⟩,p,D,_,rfl,λy=>?_⟩;rw[(q y).2.1 (by omega),jB,(q y).1,apQ];congr 1;omega
   ·cases h
  ·rename_i id a off len;split at h
   ·rename_i l;cases h;simp only[an]at g;obtain⟨p,r,cap,e,J,F⟩:=g;refine⟨_,key _ _ _ e ⟨l.1,l.2.1⟩,p,_,rfl,λy=>?_⟩;rw[F y (by omega),jB]
   ·cases h
  grind
 grind
end
section
variable{P:Program}{X:Ctx}{B:Nat}{ay:World}
variable{G:Gh}{E:AS}{w:World}
def VS{e:Bool}{off:Nat}{cs:List AV}{v:AV}(d:nA P t=some e)(i:cw P t=some n)
  (h:aF G cs c.toList) (f:Leaves c.toList) (g:Den.part e n cs off=some v) (w:World): ∃v',(Go.part t c off).run P w= .ok v' w/\an G v v':=by
 rcases VP h f g with⟨rfl,hle,b⟩| ⟨rfl,u,hu,b⟩
 ·refine⟨_,?_,b⟩;simp only[Go.part,Sem.run_bind,sF d,Result.andThen_ok,ag6,oB i,Sem.run_pure]
  congr 2
  grind
 ·refine⟨u,?_,b⟩;have a:c[off]?=some u:=by grind
  simp only[Go.part,Sem.run_bind,sF d,Result.andThen_ok,afE,ai5,a,Sem.run_pure]
def amX{s:TypeId}{a:Array Field}{f:Nat}{g:Field}{d:Bool}(q:P.underlying s=some (.struct a))(p:a[f]?=some g)
  (o:nA P g.type=some d) (m:cw P g.type=some n) {cs:List AV} {v:AV} {b:Value} (i:an G (.agg cs) b) (h:Den.part d n cs g.offset=some v) (w:World):
  ∃v',(Instr.field s b f).run P w= .ok v' w/\an G v v':=by
 obtain⟨c,rfl,l,e⟩:=i;obtain⟨v',j,k⟩:=VS o m l e h w;refine⟨v',?_,k⟩;simp only[Instr.field,Sem.run_bind,ad4 q,Result.andThen_ok,p,asAgg,Sem.run_pure];exact j
def amY{a:TypeId}{g:Bool}(u:P.underlying t=some (.array n a))(s:nA P a=some g)(f:cw P a=some sz)
  {x e v:AV} {d b:Value} (l:an G x d) (q:an G e b) (h:qV g n sz x e=some v) (w:World):
  ∃v',(Instr.index t d b).run P w= .ok v' w/\an G v v':=by
 unfold qV at h;split at h
 ·rename_i i cs hint;obtain⟨k,_,rfl⟩:=Hi q hint;split at h
  ·rename_i r;obtain⟨c,rfl,p,j⟩:=l;obtain⟨v',m,o⟩:=VS s f p j h w;refine⟨v',?_,o⟩;simp only[Instr.index,Sem.run_bind,asIntOf,Sem.run_pure,Result.andThen_ok,ad4 u];rw[adY r];simp only[Sem.run_bind,oB f,Result.andThen_ok];exact m
  grind
 grind
def amZ(n:P.underlying t=some .string){x j v:AV}{g a:Value}(l:an G x g)(m:an G j a)(h:yv x j=some v)(w:World):
  ∃v',(Instr.index t g a).run P w= .ok v' w/\an G v v':=by
 unfold yv at h;split at h
 ·rename_i i s hint;obtain⟨k,_,rfl⟩:=Hi m hint;subst l;split at h
  ·rename_i o;split at h
   ·rename_i b p;cases h;refine⟨.int .u8 b.toNat,?_,by rfl⟩;have f:s[i.toNat]?=some b:=by
     have:s.data[i.toNat]?=some b:=by grind
     obtain⟨d,e⟩:=amp.1 this;have c:i.toNat<s.size:=d;rw[getElem?_pos s i.toNat c];exact ahl some e
    simp only[Instr.index,Sem.run_bind,asIntOf,Sem.run_pure,Result.andThen_ok,ad4 n,adY o,f]
   grind
  grind
 grind
def am0{x:AV}{a:Value}{vs:List AV}{v:AV}(b:an G (.aw vs) a)(h:vs[i]?=some v)(w:World):
  ∃v',(Instr.extract a i).run P w= .ok v' w/\an G v v':=by
 obtain⟨c,rfl,e⟩:=b;obtain⟨v',f,d⟩:=e.get i v h;refine⟨v',?_,d⟩;have:c[i]?=some v':=by grind
 simp[Instr.extract,this]
def AW{r:Nat}{o:Option AV}(h:mc n o d=some r):
  (o=none/\r=d)\/ ∃k i,o=some (.int k i)/\0<=i/\i<=n/\r=i.toNat:=by
 unfold mc at h
 grind
def vA{k:IntKind}{i:Int}{y:Nat}(h:0<=i/\i<=y)(a:BoundsCode)(w:World): (Instr.sliceBound (.int k i) y a).run P w= .ok i.toNat w:=by
 simp[Instr.sliceBound,asIntOf,h]
def mj(G:Gh):Option AV->Option Value->Prop
 |none,o=>o=none
 |some x,o=> ∃v,o=some v/\an G x v
def Hj{Df:Bool}{len cap:Nat}(t:len<=cap){lo n:Option AV}{d:Option Value}(a:mj G lo aj)(e:mj G n d){h:Nat}(f:gC len lo n=some (l,h))(w:World):
  (Instr.sliceBounds Df len cap aj d none).run P w= .ok (l,h,cap) w/\l<=h/\h<=len:=by
 unfold gC at f;split at f
 ·rename_i u p;split at f
  ·rename_i s m;cases f;rcases AW p with⟨rfl,rfl⟩| ⟨k,i,rfl,g,o,rfl⟩
   ·subst e;rcases AW m with⟨rfl,rfl⟩| ⟨k,i,rfl,g,o,rfl⟩
    ·subst a;exact⟨by rfl,by omega,by omega⟩
    ·obtain⟨v,rfl,c⟩:=a;subst c;exact⟨by simp[Instr.sliceBounds,vA ⟨g,o⟩],by omega,by omega⟩
   ·obtain⟨v,rfl,c⟩:=e;simp only[an]at c;subst c;have b: (0:Int)<=i/\i<=cap:=⟨g,by omega⟩;rcases AW m with⟨rfl,rfl⟩| ⟨k,j,rfl,r,q,rfl⟩
    ·simp only[mj]at a;subst a;exact⟨by simp[Instr.sliceBounds,vA b],by omega,by omega⟩
    ·obtain⟨v,rfl,c⟩:=a;simp only[an]at c;subst c;exact⟨by simp[Instr.sliceBounds,vA b,vA ⟨r,q⟩],by omega,by omega⟩
  grind
 grind
def am1(j:P.underlying t=some .string){x v:AV}{d:Value}{lo e:Option AV}{a:Option Value}(f:an G x d)(b:mj G lo aj)(c:mj G e a)
  (h:vq x lo e=some v) (w:World): ∃v',(Instr.sliceAt t d aj a none).run P w= .ok v' w/\an G v v':=by
 unfold vq at h;split at h
 ·rename_i s;split at h
  ·rename_i l k i;cases h;subst f;obtain⟨g,_,_⟩:=Hj (P:=P) (Df:=false) (afA _) b c i w;refine⟨.string (s.extract l k),?_,by rfl⟩;simp[Instr.sliceAt,Instr.slice,ad4 j,g]
  grind
 grind
def am2{len h:Nat}{cD c:Bool}{a:Option AV}(b:me len h cD a=some c):
  (a=none/\c=(cD&&h==len))\/ ∃k i,a=some (.int k i)/\ (h:Int)<=i/\i<=len/\c=(i==h):=by
 unfold me at b
 grind
def am3{len cap:Nat}{cD:Bool}(r:len<=cap)(p:cD=true->cap=len){lo t u:Option AV}{n f:Option Value}(a:mj G lo aj)(o:mj G t n)(g:mj G u f)
  (d:u=none\/t≠none) {h:Nat} {c:Bool} (s:gC len lo t=some (l,h)) (D:me len h cD u=some c) (w:World):
  ∃m,(Instr.sliceBounds true len cap aj n f).run P w= .ok (l,h,m) w/\l<=h/\h<=len/\h<=m/\m<=cap/\ (c=true->m=h):=by
 rcases am2 D with⟨rfl,rfl⟩| ⟨k,i,rfl,K,J,rfl⟩
 ·subst g;obtain⟨I,N,M⟩:=Hj (P:=P) (Df:=true) r a o s w
  grind
 ·obtain⟨v,rfl,b⟩:=g;simp only[an]at b;subst b;have d:t≠none:=d.resolve_left (by simp);have hm: (0:Int)<=i/\i<=cap:=⟨by omega,by omega⟩;unfold gC at s;split at s
  ·rename_i L C;split at s
   ·rename_i H z;cases s;rcases AW C with⟨rfl,rfl⟩| ⟨k',j,rfl,F,g1,rfl⟩
    ·grind
    ·obtain⟨v,rfl,b⟩:=o;simp only[an]at b;subst b;have A: (0:Int)<=j/\j<=i.toNat:=⟨F,by omega⟩;refine⟨i.toNat,?_,?_,by omega,by omega,by omega,λe=>by simp only[asa]at e;omega⟩
     ·rcases AW z with⟨rfl,rfl⟩| ⟨k',q,rfl,y,x,rfl⟩
      ·simp only[mj]at a;subst a;simp[Instr.sliceBounds,vA hm,vA A]
      ·obtain⟨v,rfl,b⟩:=a;simp only[an]at b;subst b;simp[Instr.sliceBounds,vA hm,vA A,vA ⟨y,x⟩]
     ·rcases AW z with⟨rfl,rfl⟩| ⟨k',q,rfl,y,x,rfl⟩<;>omega
   grind
  grind
theorem Nb{sz:Nat}: ∀ {l:Nat} {af:List (List AV)},(∀el∈af,el.length=sz)->(af.drop l).flatten=af.flatten.drop (l*sz)
 |0,_,_=>by simp
 |l+1,[],_=>by simp
 |l+1,x::xs,hu=>by
  have a:=Nb (l:=l) (af:=xs) λel h=>hu el (by grind)
  simp only[apY,aoW,a];have e: (l+1)*sz=x.length+l*sz:=by grind
  rw[e,aw4];simp_all
theorem Hk{sz:Nat}: ∀ {n:Nat} {af:List (List AV)},(∀el∈af,el.length=sz)->(af.take n).flatten=af.flatten.take (n*sz)
 |0,_,_=>by simp
 |n+1,[],_=>by simp
 |n+1,x::xs,hu=>by
  have a:=Hk (n:=n) (af:=xs) λel h=>hu el (by grind)
  have e: (n+1)*sz=x.length+n*sz:=by grind
  grind
def VT{af:List (List AV)}(a: ∀el∈af,el.length=sz): ((af.drop l).take n).flatten=(af.flatten.drop (l*sz)).take (n*sz):=by grind [Hk,List.mem_of_mem_drop,Nb]
def br.slice{af:List (List AV)}(b:br G af vs)(a: ∀x∈af,x.length=sz):br G ((af.drop l).take n) ((vs.drop (l*sz)).take (n*sz)):=by
 rw[br.iff,VT a];exact((br.iff.1 b).drop _).take _
def qX.slice{o:Nat}(c:qX G b o vs)(l n:Nat):qX G b (o+l) ((vs.drop l).take n):=by
 intro j u a;rw[anH]at a;split at a
 ·rw[alH]at a;rw[akl];exact c _ _ a
 grind
def am4{a:Addr}(h:a.spot=none)(k:Nat): (a.add k).spot=none:=by
 unfold Addr.add
 grind
def Nc(a:Addr)(b o k:Nat)(h:a=⟨b,o,none⟩):a.add k=⟨b,o+k,none⟩:=by rw[h,jB]
def am5{z:TypeId}(h1:P.underlying t=some (.slice z))(h2:cw P z=some n){x v:AV}{O:Value}{lo R Q:Option AV}{D A:Option Value}
  (y:an G x O) (J:mj G lo aj) (L:mj G R D) (T:mj G Q A) (K:Q=none\/R≠none)
  (h:gE n x lo R Q=some v) (w:World): ∃v',(Instr.sliceAt t O aj D A).run P w= .ok v' w/\an G v v':=by
 have key: ∀ {a:Option Addr} {len cap:Nat} {cD:Bool} {l h:Nat} {c:Bool},O= .slice a len cap->len<=cap->(cD=true->cap=len)->gC len lo R=some (l,h)->me len h cD Q=some c->
   ∃m,(Instr.sliceAt t O aj D A).run P w= .ok (.slice (if m=l then a else a.map (·.add (l*n))) (h-l) (m-l)) w/\l<=h/\h<=len/\h<=m/\m<=cap/\ (c=true->m=h):=by
  intro a len cap cD l h c e hle f g H;obtain⟨m,i,r⟩:=am3 (P:=P) hle f J L T K g H w;refine⟨m,?_,r⟩;subst e;simp[Instr.sliceAt,Instr.slice,ad4 h1,i,oB h2]
 unfold gE at h;split at h
 ·simp only[an]at y;split at h
  ·rename_i p q g H;cases h;obtain⟨l,s⟩:=p;obtain⟨-,k1,k2⟩:=Hj (P:=P) (Df:=false) (afA 0) J L g w;have U:s=0:=by omega
   subst U;obtain⟨m,i,c1,Z,Y,W,M⟩:=key (cD:=true) y (afA _) (λ_=>rfl) g H;refine⟨_,i,?_⟩;have e1:l=0:=by omega
   have e3:m=0:=by omega
   subst e1 e3;simp[an]
  ·cases h
 ·rename_i af cD;split at h
  ·rename_i l s g;split at h
   ·rename_i c H;split at h
    ·rename_i hu;cases h;have hu: ∀el∈af,el.length=n:=λel F=>by simpa using afP.1 hu el F
     simp only[an]at y;obtain⟨b,o,cap,sz,vs,e,d1,d2,d3,hf,lf,hl⟩:=y;obtain⟨m,i,c1,Z,Y,W,M⟩:=key e d1 d2 g H;refine⟨_,i,?_⟩;have d: ((af.drop l).take (s-l)).length=s-l:=by simp;omega
     by_cases hm:m=l
     ·have:s=l:=by omega
      subst this;rw[adY hm];refine⟨b,o,m-s,n,[],by simp,by simp,λk=>by simp;omega,by simp,λj u hj=>by simp at hj,λu hu=>by simp at hu,by simp[br]⟩
     ·rw[adU hm];refine⟨b,o+l*n,m-l,n,(vs.drop (l*n)).take ((s-l)*n),?_,?_,λk=>?_,λel F=>hu el (aou (aiy F)),hf.slice _ _,(lf.drop _).take _,hl.slice hu⟩
      ·simp[d,jB]
      ·rw[d];omega
      ·rw[d];have:=M k;omega
    ·cases h
   ·cases h
  ·cases h
 ·rename_i id ak sz off len cD;split at h
  ·rename_i l s g;split at h
   ·rename_i c H;split at h
    ·rename_i C;subst C;cases h;simp only[an]at y;obtain⟨V,e1,N,cap,e,d1,d2,d3⟩:=y;obtain⟨m,i,c1,Z,Y,W,M⟩:=key e d1.1 d2 g H;refine⟨_,i,V,e1,if m=l then N else N.add (l*sz),m-l,by split<;>simp_all,⟨by omega,by split<;>first|exact d1.2|exact am4 d1.2 _⟩,λk=>by have:=M k;omega,λS=>?_⟩;obtain⟨f1,f2,f3⟩:=d3 S;refine⟨f1,λI=>?_,?_⟩
     ·rw[adU (by omega),Nc _ _ _ _ (f2 (by omega)),apQ,akl]
     ·have: (off+l)*sz+(m-l)*sz<=off*sz+cap*sz:=by
        rw[<-apQ,<-apQ];exact aml _ (by omega)
      omega
    ·cases h
   ·cases h
  ·cases h
 ·rename_i id sz off len;split at h
  ·rename_i l s g;split at h
   ·rename_i C;subst C;cases h;simp only[an]at y;obtain⟨V,N,cap,e,d1,d2⟩:=y;obtain⟨m,i,c1,Z,Y,W,M⟩:=key (cD:=false) (c:=false) e d1 (λhh=>by cases hh) g (by simp[me]);refine⟨_,i,V,if m=l then N else N.add (l*sz),m-l,by split<;>simp_all,by omega,λS I=>?_⟩;rw[adU (by omega),Nc _ _ _ _ (d2 S (by omega))]
   ·cases h
  ·cases h
 ·cases h
theorem chunks_flatten{sz:Nat}: ∀ {k:Nat} {cs:List AV},k*sz<=cs.length->(chunks sz k cs).flatten=cs.take (k*sz)
 |0,_,_=>by simp[chunks]
 |k+1,cs,h=>by
  have e: (k+1)*sz=sz+k*sz:=by grind
  simp only[chunks,aoW];rw[chunks_flatten (k:=k) (cs:=cs.drop sz) (by grind),e,List.take_add]
theorem Dg{sz:Nat}: ∀ {k:Nat} {cs:List AV},k*sz<=cs.length-> ∀el∈chunks sz k cs,el.length=sz
 |0,_,_=>by simp[chunks]
 |k+1,cs,h=>by
  intro el a;simp only[chunks,ag7]at a;rcases a with rfl|a
  ·grind
  ·exact Dg (k:=k) (cs:=cs.drop sz) (by grind) el a
@[simp]theorem Nd {sz:Nat}: ∀ {k:Nat} {cs:List AV},(chunks sz k cs).length=k
  |0,_=>rfl
  |k+1,_=>by simp[chunks,Nd]
def am6(I:aX P B ay G E w)(N:fH X B ay){f:TypeId}(R:P.underlying t=some (.array n f))(Q:cw P f=some sz){x v:AV}{k:Value}{lo H:Option AV}{a:Option Value}
  (m:an G x k) (y:mj G lo aj) (z:mj G H a) (h:qT X n sz x lo H=some v): ∃v',(Instr.sliceAt t k aj a none).run P w= .ok v' w/\an G v v':=by
 unfold qT at h;split at h
 ·rename_i l i O;obtain⟨K,U,T⟩:=Hj (P:=P) (Df:=false) (afA n) y z O w;have key: ∀p,k= .pointer (some p)->(Instr.sliceAt t k aj a none).run P w= .ok (.slice (some (if n=l then p else p.add (l*sz))) (i-l) (n-l)) w:=by
   rintro p rfl;simp[Instr.sliceAt,ad4 R,Instr.sureAddr,K,oB Q]
  have frozen: ∀ (b o:Nat) (cs:List AV) (vs:List Value) (off:Nat),k= .pointer (some ⟨b,o+off,none⟩)->qX G b o vs->Leaves vs->aF G cs vs->off+n*sz<=cs.length->
    ∃v',(Instr.sliceAt t k aj a none).run P w= .ok v' w/\an G (.sl (chunks sz (i-l) (cs.drop (off+l*sz))) false) v':=by
   intro b o cs vs off e s q r hle;refine⟨_,key _ e,?_⟩;have L:l*sz+(i-l)*sz<=n*sz:=by rw[<-apQ];exact aml _ (by omega)
   have d: (i-l)*sz<=(cs.drop (off+l*sz)).length:=by simp;omega
   by_cases F:n=l
   ·rw[adY F];have:i=l:=by omega
    subst this;refine⟨b,o+off,n-i,sz,[],by simp,by simp,(λC=>by cases C),by simp[chunks],(λj u M=>by simp at M),(λu hu=>by simp at hu),by simp[chunks,br]⟩
   ·rw[adU F];refine⟨b,o+(off+l*sz),n-l,sz,(vs.drop (off+l*sz)).take ((i-l)*sz),?_,(by rw[Nd];omega),(λC=>by cases C),Dg d,s.slice _ _,(q.drop _).take _,?_⟩
    ·simp[jB,akl]
    ·rw[br.iff,chunks_flatten d];exact(r.drop _).take _
  split at h
  ·rename_i id off;cases h;simp only[an]at m;obtain⟨S,p,e,c⟩:=m;refine⟨_,key p e,S,_,n-l,rfl,by omega,λJ D=>?_⟩;rw[adU (by omega),Nc _ _ _ _ (c J)]
  ·rename_i cs off;split at h
   ·rename_i hle;cases h;simp only[an]at m;obtain⟨b,o,vs,e,s,q,r⟩:=m;exact frozen b o cs vs off e s q r hle
   ·cases h
  ·rename_i g;split at h
   ·rename_i cs A;split at h
    ·rename_i hle;cases h;simp only[an]at m;obtain⟨vs,s,q,r⟩:=N.rel I A;have:=frozen g 0 cs vs 0 (by simpa using m) s q r (by omega);simpa using this
    ·cases h
   ·cases h
  grind
 grind
end
section
variable{P:Program}{X:Ctx}{B:Nat}{ay:World}
variable{G:Gh}{E:AS}{w:World}
def Nf{z:AV}(h:yx P t=some z)(G:Gh)(w:World): ∃b,(zeroValue t).run P w= .ok b w/\zeroV P t=some b/\an G z b:=by
 unfold yx at h;split at h
 ·rename_i v a;split at h
  ·rename_i d;cases h;refine⟨v,?_,a,VO v d⟩;unfold zeroV at a;cases c:P.info? t with
   |none=>grind
   |some i=>
    simp only[c,apP]at a;simp only[zeroValue,Sem.run_bind,run_typeInfo _ c,Result.andThen_ok,a,Sem.run_pure]
  grind
 grind
def sG{z:List AV}(h:hY P t=some z)(G:Gh)(w:World):
  ∃a,(zeroValue t).run P w= .ok a w/\zeroV P t=some a/\aF G z a.cells.toList/\Leaves a.cells.toList/\cw P t=some z.length:=by
 unfold hY at h;split at h
 ·rename_i y n c f;split at h
  ·rename_i b;obtain⟨a,e,g,r⟩:=Nf c G w;obtain⟨l,d⟩:=r.cells b.1
   grind
  grind
 grind
theorem am7:IntKind.i64.max=9223372036854775807:=by rfl
theorem lq{s:Sem Value}{k:IntKind}{n:Int}{w:World}(h:s.run P w= .ok (.int k n) w): ∃v',s.run P w= .ok v' w/\an G (.int k n) v':=⟨_,h,by rfl⟩
theorem Dh{s:Sem Value}{b:Bool}{w:World}(h:s.run P w= .ok (.bool b) w): ∃v',s.run P w= .ok v' w/\an G (.bool b) v':=⟨_,h,by rfl⟩
theorem aCa{s:Sem Value}{b:ByteArray}{w:World}(h:s.run P w= .ok (.string b) w): ∃v',s.run P w= .ok v' w/\an G (.str b) v':=⟨_,h,by rfl⟩
def VU{c:BinOp}{x y v:AV}{j i:Value}(e:an G x j)(d:an G y i)(h:dA c x y=some v)(ho:c≠ .eql)(f:c≠ .neq)(w:World):
  ∃v',(binOp c t j i).run P w= .ok v' w/\an G v v':=by
 unfold dA at h;split at h
 ·rename_i k a k' b;split at h
  ·rename_i l;subst l;simp only[an]at e d;subst e d;cases c<;>simp[mX,wL]at h<;>(simp_all)<;>(try rfl)
   all_goals
    first
     | (subst h;exact lq (by simp[binOp,Op.intArith,Op.intBits]))
     | (subst h;exact Dh (by simp[binOp,Op.intCmp]))
     | (obtain⟨g,rfl⟩:=h;exact lq (by simp[binOp,Op.intDiv,g]))
  grind
 ·rename_i a b;simp only[an]at e d;subst e d;cases c<;>simp[VG]at h<;>(try exact absurd rfl ho)<;>(try exact absurd rfl f)
  all_goals
   first
    | (subst h;exact Dh (by simp[binOp,Op.stringOp]))
    | (obtain⟨g,rfl⟩:=h
       refine⟨.string (a++b),?_,by simp[an]⟩;simp only[binOp,Op.stringOp,Sem.run_ite];rw[adU (by rw[am7];simp only[VF]at g;omega)];simp)
 grind
def am8{c:BinOp}{k k':IntKind}{a b:Int}{v:AV}(h:wN c k a b=some v)(w:World):
  ∃v',(binOp c t (.int k a) (.int k' b)).run P w= .ok v' w/\an G v v':=by
 unfold wN at h;split at h
 ·cases h
 ·rename_i d;split at h
  ·cases h;exact lq (by simp[binOp,Op.shift,d])
  ·cases h;exact lq (by simp[binOp,Op.shift,d])
  grind
def am9{c:UnOp}{x v:AV}{b:Value}(a:an G x b)(h:yu c x=some v)(w:World): ∃v',(Op.unary c b).run P w= .ok v' w/\an G v v':=by
 unfold yu at h;split at h
 ·cases h;subst a;exact lq (by rfl)
 ·simp only[wL,adT]at h;subst h;subst a;exact lq (by rfl)
 ·cases h;subst a;exact Dh (by rfl)
 grind
def ana{s d:TypeId}{k q:IntKind}{n:Int}(b: (P.underlying s).isSome=true)(a:P.underlying d=some (.int k))(w:World):
  (convert s d (.int q n)).run P w= .ok (.int k (k.wrap n)) w:=by
 cases hu:P.underlying s with
 |none=>grind
 |some u=>simp[convert,ad4 hu,ad4 a,Conv.intToInt]
def VV{b:AV}{c:Value}(h:b.AK=true)(r:an G b c): ∃a,c= .pointer (some a):=by
 cases b<;>simp[AV.AK]at h<;>simp only[an]at r
 ·grind
 ·grind
 ·grind
 grind
def VW{b:AV}{d:Value}(h:b.AL=true)(r:an G b d): ∃a n c,d= .slice (some a) n c:=by
 cases b<;>simp[AV.AL]at h<;>simp only[an]at r
 ·grind
 ·grind
 grind
def kindOk:EK->TypeDesc->Prop
 |.bool,d=>d= .bool
 |.int,d=> ∃k,d= .int k
 |.str,d=>d= .string
 |.ptr,d=> ∃e,d= .pointer e
 |.sl,d=> ∃e,d= .slice e
 |.map,d=> ∃k e,d= .map k e
 |.cap,_=>False
 |.fn,d=> ∃a b c,d= .func a b c
 |.dt,d=> ∃ms,d= .interface ms
 |.AJ _,d=> ∃ms,d= .interface ms
 |.agg _,_=>False
def VX(P:Program)(t:TypeId):Prop:= ∃i q,P.info? t=some i/\i.comparable=true/\P.underlying t=some (.int q)
def VY{a ty:TypeId}{e:Array (String×TypeId)}(f:P.underlying t=some (.interface e))(d:Nat)(c b:Value)(w:World)
  (h:a≠ty->r=false) (m:a=ty-> ∃i,P.info? a=some i/\i.comparable=true/\ (Op.equalIn d a c b).run P w= .ok r w): (Op.equalIn (d+1) t (.iface a c) (.iface ty b)).run P w= .ok r w:=by
 rw[Op.equalIn];simp only[Sem.run_bind,ad4 f,Result.andThen_ok];by_cases g:a=ty
 ·subst g;obtain⟨i,l,k,j⟩:=m rfl;simp[typeInfo,l,k,j]
 simp_all
def VZ{k:EK}{u:TypeDesc}{x y:AV}{F D:Value}(l:P.underlying t=some u)(j:kindOk k u)(g:an G x F)(f:an G y D)(h:qS k x y=some r)(d:Nat)(w:World)(I: ∀ts,k= .AJ ts->1<=d/\ ∀t∈ts,VX P t):
  (Op.equalIn (d+1) t F D).run P w= .ok r w:=by
 unfold qS at h;split at h
 case h_1=>
  cases h;simp only[an]at g f;subst g f;simp only[kindOk]at j;subst j;exact run_equalIn_bool w d t _ _ l
 case h_2=>
  split at h
  ·rename_i e;subst e;cases h;simp only[an]at g f;subst g f;obtain⟨k',rfl⟩:=j;exact run_equalIn_int w d t _ _ _ _ l
  ·cases h
 case h_3=>
  cases h;simp only[an]at g f;subst g f;simp only[kindOk]at j;subst j;exact run_equalIn_string w d t _ _ l
 case h_4=>
  cases h;simp only[an]at g f;subst g f;obtain⟨e,rfl⟩:=j;simp[Op.equalIn,ad4 l]
 case h_5=>
  split at h
  ·rename_i m;cases h;simp only[an]at g;subst g;obtain⟨e,rfl⟩:=j;obtain⟨a,rfl⟩:=VV m f;simp[Op.equalIn,ad4 l]
  ·cases h
 case h_6=>
  split at h
  ·rename_i m;cases h;simp only[an]at f;subst f;obtain⟨e,rfl⟩:=j;obtain⟨a,rfl⟩:=VV m g;simp[Op.equalIn,ad4 l]
  ·cases h
 case h_7=>
  cases h;simp only[an]at g f;subst g f;obtain⟨e,rfl⟩:=j;simp[Op.equalIn,ad4 l]
 case h_8=>
  split at h
  ·rename_i m;cases h;simp only[an]at g;subst g;obtain⟨e,rfl⟩:=j;obtain⟨a,n,c,rfl⟩:=VW m f;simp[Op.equalIn,ad4 l]
  ·cases h
 case h_9=>
  split at h
  ·rename_i m;cases h;simp only[an]at f;subst f;obtain⟨e,rfl⟩:=j;obtain⟨a,n,c,rfl⟩:=VW m g;simp[Op.equalIn,ad4 l]
  ·cases h
 case h_10=>
  cases h;simp only[an]at g f;subst g f;obtain⟨_,_,rfl⟩:=j;simp[Op.equalIn,ad4 l]
 case h_11=>
  cases h;simp only[an]at g f;subst g;obtain⟨_,_,rfl,_⟩:=f;obtain⟨_,_,rfl⟩:=j;simp[Op.equalIn,ad4 l]
 case h_12=>
  cases h;simp only[an]at g f;subst f;obtain⟨_,_,rfl,_⟩:=g;obtain⟨_,_,rfl⟩:=j;simp[Op.equalIn,ad4 l]
 case h_13=>
  cases h;simp only[an]at g f;subst g f;obtain⟨_,_,_,rfl⟩:=j;simp[Op.equalIn,ad4 l]
 case h_14=>
  cases h;simp only[an]at g f;subst g;obtain⟨_,_,_,rfl,_⟩:=f;obtain⟨_,_,_,rfl⟩:=j;simp[Op.equalIn,ad4 l]
 case h_15=>
  cases h;simp only[an]at g f;subst f;obtain⟨_,_,_,rfl,_⟩:=g;obtain⟨_,_,_,rfl⟩:=j;simp[Op.equalIn,ad4 l]
 case h_16=>
  cases h;simp only[an]at g f;subst g f;obtain⟨_,rfl⟩:=j;simp[Op.equalIn,ad4 l]
 case h_17=>
  cases h;simp only[an]at g f;subst g;obtain⟨_,rfl,_⟩:=f;obtain⟨_,rfl⟩:=j;simp[Op.equalIn,ad4 l]
 case h_18=>
  cases h;simp only[an]at g f;subst f;obtain⟨_,rfl,_⟩:=g;obtain⟨_,rfl⟩:=j;simp[Op.equalIn,ad4 l]
 case h_19=>
  rename_i ts tx q a ty H b;simp only[an]at g f;obtain⟨_,rfl,rfl⟩:=g;obtain⟨_,rfl,rfl⟩:=f;obtain⟨ms,rfl⟩:=j;obtain⟨J,o⟩:=I ts rfl;split at h
  ·rename_i p;subst p;split at h
   ·rename_i A;obtain⟨A,rfl⟩:=A;cases h;obtain⟨i,H,z,v,s⟩:=o tx (by simpa using A);obtain⟨C,rfl⟩: ∃C,d=C+1:=⟨d-1,by omega⟩;exact VY l _ _ _ w (λe=>absurd rfl e) λ_=>⟨i,z,v,run_equalIn_int w C tx q H a b s⟩
   ·cases h
  ·rename_i p;cases h;exact VY l _ _ _ w (λ_=>rfl) λe=>absurd e p
 case h_20=>cases h
def V0{c d:List EK}{a b:List AV}(j:a.length=(c++d).length)(i:b.length=(c++d).length)(h:jy (c++d) a b=some r):
  ∃e,jy c (a.take c.length) (b.take c.length)=some e/\ (e=false->r=false)/\ (e=true->jy d (a.drop c.length) (b.drop c.length)=some r):=by
 induction c generalizing a b with
 |nil=>exact⟨true,by rfl,by simp,λ_=>by grind⟩
 |cons k f g=>
  cases a with
  |nil=>grind
  |cons x xs=>
   cases b with
   |nil=>grind
   |cons y ys=>
    simp only[ahq,jy]at h;simp only[afL,aqf,apY,jy]
    grind
def yE:TypeDesc->Bool
 |.struct _|.array _ _=>true
 |_=>false
def yF{u:TypeDesc}(h:P.underlying t=some u):nA P t=some (yE u):=by
 unfold nA;rw[h];cases u<;>rfl
def Hl(P:Program)(d:Nat)(t:TypeId)(a:List EK):Prop:=
 ∀ (D:Nat),d<=D-> ∀ (G:Gh) (w:World) (xs ys:Array Value) (as bs:List AV) (off:Nat) (r:Bool),cw P t=some a.length->aF G as xs.toList->aF G bs ys.toList->Leaves xs.toList->Leaves ys.toList->
   off+a.length<=as.length->off+a.length<=bs.length->jy a ((as.drop off).take a.length) ((bs.drop off).take a.length)=some r->
   ∃x y,(Go.part t xs off).run P w= .ok x w/\ (Go.part t ys off).run P w= .ok y w/\ (Op.equalIn D t x y).run P w= .ok r w
def V4(F: ∀t a,oA P d t=some a->Hl P d t a): ∀ (fs:List Field) (off:Nat) (a:List EK),AN P (oA P d) fs off=some a->
  ∀ (D:Nat),d<=D-> ∀ (G:Gh) (w:World) (xs ys:Array Value) (as bs:List AV) (r:Bool),aF G as xs.toList->aF G bs ys.toList->Leaves xs.toList->Leaves ys.toList->
  off+a.length<=as.length->off+a.length<=bs.length->jy a ((as.drop off).take a.length) ((bs.drop off).take a.length)=some r->
  (Op.eqFields D xs ys fs).run P w= .ok r w:=by
 intro fs
 induction fs with
 |nil=>
  intro off a h D g G w xs ys as bs r _ _ _ _ _ _ he;simp only[AN,adT]at h;subst h;simp[jy]at he;subst he;simp[Op.eqFields]
 |cons f fs q=>
  intro off a h D g G w xs ys as bs r k j f1 f2 A z he;simp only[AN]at h;split at h
  ·rename_i c e;split at h
   ·rename_i v;obtain⟨u,ho,s⟩:=v;cases b:AN P (oA P d) fs (off+c.length)with
    |none=>simp[b]at h
    |some p=>
     simp only[b,afG,adT]at h;subst h;simp only[aer]at A z;obtain⟨i,e1,C,e3⟩:=V0 (by simp;omega) (by simp;omega) he;rw[aqu,aqu,aer,aqe (Nat.le_add_right _ _)]at e1;obtain⟨x,y,o,n,m⟩:=F f.type c e D g G w xs ys as bs off i s k j f1 f2 (by omega) (by omega) e1;simp only[Op.eqFields,ho];rw[adY u];simp only[Sem.run_bind,o,n,m,Result.andThen_ok];cases i with
     |false=>simp[C rfl]
     |true=>
      simp only[atj,afE,ai5];have l:=e3 rfl;rw[axR,axR,apU,apU,aer,ahB]at l;exact q (off+c.length) p b D g G w xs ys as bs r k j f1 f2 (by omega) (by omega) l
   grind
  grind
def Ng{u:TypeDesc}{k:EK}(o:P.underlying t=some u)(q:kindOk k u)(g:nA P t=some false)(p: ∀ts,k≠ .AJ ts):Hl P (d+1) t [k]:=by
 intro D H G w xs ys as bs off r F l j f1 f2 v s he;simp only[aqB]at v s he;have C:as[off]?=some (as[off]'(by omega)):=aep _;have A:bs[off]?=some (bs[off]'(by omega)):=aep _;obtain⟨x,n,rx⟩:=l.get off _ C;obtain⟨y,m,i⟩:=j.get off _ A;have e1: (as.drop off).take 1=[as[off]'(by omega)]:=by rw[anc (by omega)];rfl
 have z: (bs.drop off).take 1=[bs[off]'(by omega)]:=by rw[anc (by omega)];rfl
 rw[e1,z]at he;have c:qS k as[off] bs[off]=some r:=by
  simp only[jy]at he;split at he
  ·rename_i h;rw[h];exact he
  ·rename_i h;rw[h];exact he
  ·cases he
 have b:xs[off]?=some x:=by simpa using n
 have a:ys[off]?=some y:=by simpa using m
 refine⟨x,y,by simp[Go.part,sF g,b],by simp[Go.part,sF g,a],?_⟩;obtain⟨f,rfl⟩: ∃f,D=f+1:=⟨D-1,by omega⟩;exact VZ o q rx i c f w (λts e=>absurd e (p ts))
theorem Nh{D:Nat}{e:TypeId}{a:List EK}(l:Hl P D e a)(g:cw P e=some a.length){G:Gh}{w:World}{xs ys:Array Value}{as bs:List AV}(f:aF G as xs.toList)(d:aF G bs ys.toList)(i:Leaves xs.toList)(h:Leaves ys.toList):
  ∀ (m j:Nat) (r:Bool),(j+m)*a.length<=as.length->(j+m)*a.length<=bs.length->jy (List.replicate m a).flatten ((as.drop (j*a.length)).take (m*a.length)) ((bs.drop (j*a.length)).take (m*a.length))=some r->
  (Op.eqItems D e a.length xs ys (List.range' j m)).run P w= .ok r w
 |0,j,r,_,_,he=>by
  simp[jy]at he;subst he;simp[Op.eqItems]
 |m+1,j,r,t,s,he=>by
  have hm: (m+1)*a.length=a.length+m*a.length:=by rw[ap2];omega
  have q: (j+(m+1))*a.length=j*a.length+(a.length+m*a.length):=by rw[apQ,hm]
  rw[q]at t s;rw[ar7,aoW,hm]at he;obtain⟨c,e1,u,e3⟩:=V0 (by simp;omega) (by simp;omega) he;rw[aqu,aqu,aqe (Nat.le_add_right _ _)]at e1;obtain⟨x,y,p,o,n⟩:=l D (afA _) G w xs ys as bs (j*a.length) c g f d i h (by omega) (by omega) e1;rw[List.range'_succ];simp only[Op.eqItems,Sem.run_bind,p,o,n,Result.andThen_ok];cases c with
  |false=>simp[u rfl]
  |true=>
   simp only[atj,afE,ai5];have k:=e3 rfl;rw[axR,axR,apU,apU,ahB]at k;have b: (j+1)*a.length=j*a.length+a.length:=ap2 _ _;refine Nh l g f d i h m (j+1) r ?_ ?_ ?_
   ·have: (j+1+m)*a.length=j*a.length+(a.length+m*a.length):=by rw[apQ,b];omega
    omega
   ·have: (j+1+m)*a.length=j*a.length+(a.length+m*a.length):=by rw[apQ,b];omega
    omega
   ·rw[b];exact k
theorem Hm: ∀ (d:Nat) (t:TypeId) (b:List EK),oA P d t=some b->Hl P d t b
 |0,_,_,h=>by trivial
 |d+1,t,b,h=>by
  simp only[oA]at h;split at h
  ·rename_i hu;cases h;exact Ng (k:=.bool) hu rfl (yF hu) (by simp)
  ·rename_i hu;cases h;exact Ng (k:=.int) hu ⟨_,rfl⟩ (yF hu) (by simp)
  ·rename_i hu;cases h;exact Ng (k:=.str) hu rfl (yF hu) (by simp)
  ·rename_i fields hu;split at h
   ·rename_i F;intro D K G w xs ys as bs off r j p o f1 f2 A z he;have s: (Go.part t xs off).run P w= .ok (.agg (xs.extract off (off+b.length))) w:=by simp[Go.part,sF (yF hu),oB j,yE]
    have q: (Go.part t ys off).run P w= .ok (.agg (ys.extract off (off+b.length))) w:=by simp[Go.part,sF (yF hu),oB j,yE]
    refine⟨_,_,s,q,?_⟩;obtain⟨f,rfl⟩: ∃f,D=f+1:=⟨D-1,by omega⟩;have x:P.fieldsOf t=fields:=by simp[Program.fieldsOf,hu]
    rw[run_equalIn_struct w f t _ _ (by rw[x];exact hu) F,x];have ex: (xs.extract off (off+b.length)).toList=(xs.toList.drop off).take b.length:=by rw[axd,aqH];simp
    have m: (ys.extract off (off+b.length)).toList=(ys.toList.drop off).take b.length:=by rw[axd,aqH];simp
    refine V4 (λt b h=>Hm d t b h) fields.toList 0 b h f (by omega) G w _ _ ((as.drop off).take b.length) ((bs.drop off).take b.length) r (by rw[ex];exact(p.drop _).take _) (by rw[m];exact(o.drop _).take _)
     (by rw[ex];exact(f1.drop _).take _) (by rw[m];exact(f2.drop _).take _) (by simp;omega) (by simp;omega) ?_
    rw[amA,amA,aqu,aqu,azC];exact he
   ·cases h
  ·rename_i n e hu;split at h
   ·rename_i a H;split at h
    ·rename_i J;obtain⟨l,_⟩:=J;cases h;intro D K G w xs ys as bs off r j p o f1 f2 A z he;have u: (List.replicate n a).flatten.length=n*a.length:=by simp
     rw[u]at A z he j;have s: (Go.part t xs off).run P w= .ok (.agg (xs.extract off (off+n*a.length))) w:=by simp[Go.part,sF (yF hu),oB j,yE]
     have q: (Go.part t ys off).run P w= .ok (.agg (ys.extract off (off+n*a.length))) w:=by simp[Go.part,sF (yF hu),oB j,yE]
     refine⟨_,_,s,q,?_⟩;obtain⟨f,rfl⟩: ∃f,D=f+1:=⟨D-1,by omega⟩;have c:=l;unfold cw at c;obtain⟨i,I,C⟩:=afF.1 c;rw[run_equalIn_array w f _ _ hu I];have g:P.cellsOf e=a.length:=by
      unfold Program.cellsOf;rw[c];rfl
     rw[g,aAA];have ex: (xs.extract off (off+n*a.length)).toList=(xs.toList.drop off).take (n*a.length):=by rw[axd,aqH];simp
     have m: (ys.extract off (off+n*a.length)).toList=(ys.toList.drop off).take (n*a.length):=by rw[axd,aqH];simp
     refine Nh (as:=(as.drop off).take (n*a.length)) (bs:=(bs.drop off).take (n*a.length)) (λv y=>Hm d e a H v (by omega)) l (by rw[ex];exact(p.drop _).take _) (by rw[m];exact(o.drop _).take _)
      (by rw[ex];exact(f1.drop _).take _) (by rw[m];exact(f2.drop _).take _) n 0 r (by simp;omega) (by simp;omega) ?_
     rw[Nat.zero_mul,amA,amA,aqu,aqu,azC];exact he
    ·cases h
   ·cases h
  grind
end
section
variable{P:Program}{X:Ctx}{B:Nat}{ay:World}
variable{G:Gh}{E:AS}{w:World}
def yG:Operand->Bool
 |.const _=>true
 |_=>false
def AX(c:BinOp)(t:TypeId)(x y:Operand)(a b:Value)(e:a= .nilIface->b= .nilIface->(yG x||yG y)=true)(d: ∀xs ys,a= .agg xs->b= .agg ys->P.eqGuardType P.depth t=false)(w:World):
  (eqGuard c t x y a b).run P w= .ok () w:=by
 cases c<;>(simp_all)<;>cases a<;>(try(simp[eqGuard];done))<;>cases b<;>(try(simp[eqGuard];done))
 all_goals first
  | (have h:=d _ _ rfl rfl;simp[eqGuard,aqv,h];done)
  | (have h:=e rfl rfl;cases x<;>cases y<;>simp[yG]at h<;>simp[eqGuard])
def Di:Value->Bool
 |.int _ _|.float _ _|.complex _ _ _|.string _=>false
 |_=>true
def binOp_eql{x y:Value}(a:Di x=true)(t:TypeId):binOp .eql t x y=(do pure (.bool (<-Op.equal t x y))):=by
 cases x<;>simp[Di]at a<;>first|rfl|rfl
def binOp_neq{x y:Value}(a:Di x=true)(t:TypeId):binOp .neq t x y=(do pure (.bool (!(<-Op.equal t x y)))):=by
 cases x<;>simp[Di]at a<;>first|rfl|rfl
def vB:AV->Bool
 |.int _ _|.str _|.aw _|.jf=>false
 |_=>true
def anb{x:AV}{a:Value}(h:vB x=true)(r:an G x a):Di a=true:=by
 cases x<;>simp[vB]at h<;>simp only[an]at r
 all_goals first
  |rfl
  | (obtain⟨_,rfl,_⟩:=r;rfl)
  | (obtain⟨_,_,rfl,_⟩:=r;rfl)
  | (obtain⟨_,_,_,rfl,_⟩:=r;rfl)
  | (obtain⟨_,_,_,_,rfl,_⟩:=r;rfl)
  | (obtain⟨_,_,_,_,_,rfl,_⟩:=r;rfl)
  | (obtain⟨⟨_,rfl⟩,_⟩:=r;rfl)
def ane{x:AV}{xs:Array Value}(h:x.ck=false)(r:an G x (.agg xs)): ∃cs,x= .agg cs:=by
 cases x<;>simp[AV.ck]at h<;>simp[an]at r
 grind
def anf{x y:Operand}{k:EK}(h:yy P t x y=some k):
  (∃u,P.underlying t=some u/\kindOk k u/\ (k= .dt->(yG x||yG y)=true)/\ ∀ts,k= .AJ ts-> ∀t∈ts,VX P t)\/
  (∃a u,P.underlying t=some u/\yE u=true/\k= .agg a/\oA P 10 t=some a/\P.eqGuardType P.depth t=false):=by
 unfold yy at h;split at h
 ·rename_i hu;cases h;exact .inl ⟨_,hu,rfl,by simp,by simp⟩
 ·rename_i hu;cases h;exact .inl ⟨_,hu,⟨_,rfl⟩,by simp,by simp⟩
 ·rename_i hu;cases h;exact .inl ⟨_,hu,rfl,by simp,by simp⟩
 ·rename_i hu;cases h;exact .inl ⟨_,hu,⟨_,rfl⟩,by simp,by simp⟩
 ·rename_i hu;cases h;exact .inl ⟨_,hu,⟨_,rfl⟩,by simp,by simp⟩
 ·rename_i hu;cases h;exact .inl ⟨_,hu,⟨_,_,rfl⟩,by simp,by simp⟩
 ·rename_i hu;cases h;exact .inl ⟨_,hu,⟨_,_,_,rfl⟩,by simp,by simp⟩
 ·rename_i hu;split at h
  ·cases h;exact .inl ⟨_,hu,⟨_,rfl⟩,by simp[yG],by simp⟩
  ·cases h;exact .inl ⟨_,hu,⟨_,rfl⟩,by simp[yG],by simp⟩
  ·cases h;refine .inl ⟨_,hu,⟨_,rfl⟩,by simp,λts d t b=>?_⟩;cases d;simp only[VH,afY]at b;obtain⟨_,b⟩:=b;split at b
   ·rename_i i q g f;exact⟨i,q,g,b,f⟩
   ·cases b
 ·rename_i hu;split at h
  ·rename_i e;cases c:oA P 10 t with
   |none=>simp[c]at h
   |some a=>simp[c]at h;exact .inr ⟨a,_,hu,rfl,h.symm,rfl,e⟩
  ·cases h
 ·rename_i hu;split at h
  ·rename_i e;cases c:oA P 10 t with
   |none=>simp[c]at h
   |some a=>simp[c]at h;exact .inr ⟨a,_,hu,rfl,h.symm,rfl,e⟩
  ·cases h
 grind
def ang{k:EK}{x y:AV}{u:TypeDesc}(b:kindOk k u):dy k x y=qS k x y:=by
 cases k with
 |agg a=>trivial
 |_=>rfl
def V5{b:AV}(h:b.AK=true):vB b=true/\ (∀cs,b≠ .agg cs)/\b≠ .eX/\b.ck=false:=by
 cases b<;>simp[AV.AK]at h<;>simp[vB,AV.ck]
def V6{b:AV}(h:b.AL=true):vB b=true/\ (∀cs,b≠ .agg cs)/\b≠ .eX/\b.ck=false:=by
 cases b<;>simp[AV.AL]at h<;>simp[vB,AV.ck]
def anh{k:EK}{x y:AV}(h:qS k x y=some r):
  (k= .int/\ ∃q a b,x= .int q a/\y= .int q b/\r=(a==b))\/ (k= .str/\ ∃a b,x= .str a/\y= .str b/\r=(a.toList==b.toList))\/ (vB x=true/\ (∀cs,x≠ .agg cs)/\ (∀cs,y≠ .agg cs)/\ (x= .eX->k= .dt)/\x.ck=false/\y.ck=false):=by
 unfold qS at h;split at h
 case h_1=>exact .inr (.inr (by simp[vB,AV.ck]))
 case h_2=>grind
 case h_3=>grind
 case h_5=>
  split at h
  ·rename_i f;obtain⟨_,d,g,c⟩:=V5 f;exact .inr (.inr ⟨rfl,by simp,d,by simp,rfl,c⟩)
  ·cases h
 case h_6=>
  split at h
  ·rename_i f;obtain⟨i,d,g,c⟩:=V5 f;exact .inr (.inr ⟨i,d,by simp,λe=>absurd e g,c,rfl⟩)
  ·cases h
 case h_8=>
  split at h
  ·rename_i f;obtain⟨_,d,g,c⟩:=V6 f;exact .inr (.inr ⟨rfl,by simp,d,by simp,rfl,c⟩)
  ·cases h
 case h_9=>
  split at h
  ·rename_i f;obtain⟨i,d,g,c⟩:=V6 f;exact .inr (.inr ⟨i,d,by simp,λe=>absurd e g,c,rfl⟩)
  ·cases h
 case h_20=>cases h
 all_goals exact .inr (.inr (by simp[vB,AV.ck]))
def ani{x:AV}(h:x.ck=false)(r:an G x .nilIface):x= .eX:=by
 cases x<;>simp[AV.ck]at h<;>simp[an]at r;rfl
def V7{A z:Operand}{k:EK}(hk:yy P t A z=some k){x y:AV}{m l:Value}(j:an G x m)(v:an G y l)(h:dy k x y=some r)(w:World):
  (eqGuard .eql t A z m l).run P w= .ok () w/\ (binOp .eql t m l).run P w= .ok (.bool r) w/\ (eqGuard .neq t A z m l).run P w= .ok () w/\ (binOp .neq t m l).run P w= .ok (.bool !r) w:=by
 rcases anf hk with⟨u,hu,C,F,D⟩| ⟨K,u,hu,I,rfl,f,hg⟩
 ·rw[ang C]at h;rcases anh h with⟨rfl,q,a,b,rfl,rfl,rfl⟩| ⟨rfl,a,b,rfl,rfl,rfl⟩| ⟨h1,h2,h3,h4,V,h6⟩
  ·subst j v;exact⟨AX _ _ _ _ _ _ (by simp) (by simp) w,by simp[binOp,Op.intCmp],AX _ _ _ _ _ _ (by simp) (by simp) w,by simp[binOp,Op.intCmp,bne]⟩
  ·simp only[an]at j v;subst j v;exact⟨AX _ _ _ _ _ _ (by simp) (by simp) w,by simp[binOp,Op.stringOp],AX _ _ _ _ _ _ (by simp) (by simp) w,by simp[binOp,Op.stringOp]⟩
  ·have S:=anb h1 j;have e: (Op.equal t m l).run P w= .ok r w:=VZ hu C j v h 9999 w (λts L=>⟨by decide,D ts L⟩);have g: ∀op,(eqGuard op t A z m l).run P w= .ok () w:=λop=>by
    refine AX _ _ _ _ _ _ (λQ _=>?_) (λxs ys Q _=>?_) w
    ·subst Q;exact F (h4 (ani V j))
    ·subst Q;obtain⟨cs,rfl⟩:=ane V j;exact absurd rfl (h2 cs)
   exact⟨g _,by simp[binOp_eql S,e],g _,by simp[binOp_neq S,e]⟩
 ·unfold dy at h;split at h
  ·rename_i c xs ys he;cases he;split at h
   ·rename_i o;simp only[an]at j v;obtain⟨s,rfl,lx,Y⟩:=j;obtain⟨J,rfl,ly,W⟩:=v;have g: ∀op,(eqGuard op t A z (.agg s) (.agg J)).run P w= .ok () w:=λop=>AX _ _ _ _ _ _ (by simp) (λ_ _ _ _=>hg) w
    have e: (Op.equal t (.agg s) (.agg J)).run P w= .ok r w:=by
     rw[show(10:Nat)=9+1 from rfl,oA,hu]at f;cases u<;>simp only[yE,afE]at I
     ·rename_i n e;simp only at f;split at f
      ·rename_i c M;split at f
       ·rename_i O;obtain⟨H,_⟩:=O;cases f;have d:=H;unfold cw at d;obtain⟨i,hi,sH⟩:=afF.1 d;show(Op.equalIn (9999+1) t (.agg s) (.agg J)).run P w=_;rw[run_equalIn_array w 9999 _ _ hu hi];have p:P.cellsOf e=c.length:=by
         unfold Program.cellsOf;rw[d];rfl
        rw[p,aAA];have N: (List.replicate n c).flatten.length=n*c.length:=by simp
        rw[N]at o;refine Nh (as:=xs) (bs:=ys) (λR U=>Hm 9 e c M R (by omega)) H lx ly Y W n 0 r (by rw[ak4];omega) (by rw[ak4];omega) ?_;rw[Nat.zero_mul,amA,amA,<-o.1,afK,o.1,<-o.2,afK];exact h
       ·cases f
      ·cases f
     ·rename_i fs;simp only at f;split at f
      ·rename_i hp;have T:P.fieldsOf t=fs:=by simp[Program.fieldsOf,hu]
       show(Op.equalIn (9999+1) t (.agg s) (.agg J)).run P w=_;rw[run_equalIn_struct w 9999 t _ _ (by rw[T];exact hu) hp,T];refine V4 (λt K h=>Hm 9 t K h) fs.toList 0 K f 9999 (by omega) G w _ _ xs ys r lx ly Y W (by omega) (by omega) ?_;rw[amA,amA,<-o.1,afK,o.1,<-o.2,afK];exact h
      ·cases f
    exact⟨g _,by simp[binOp_eql (x:=.agg s) rfl,e],g _,by simp[binOp_neq (x:=.agg s) rfl,e]⟩
   ·cases h
  ·cases h
  ·rename_i n1 Z;first|exact(n1 _ rfl).elim|exact(Z _ rfl).elim
def anj{a:TypeId}{u:TypeDesc}(g:P.underlying a=some u)(b: ∀ms,u≠ .interface ms){z:AV}(o:yx P a=some z){x v:AV}{l:Value}{j:Bool}(f:an G x l)(h:AM z x a j=some v)(n:TypeId)(w:World):
  ∃v',(Instr.typeAssert l n a j).run P w= .ok v' w/\an G v v':=by
 obtain⟨d,e,_,rz⟩:=Nf o G w;unfold AM at h;split at h
 ·simp only[an]at f;subst f;split at h
  ·rename_i c;subst c;cases h;refine⟨.tuple #[d,.bool false],?_,⟨_,rfl,⟨d,_,rfl,rz,⟨_,_,rfl,by simp[an],by simp[aF]⟩⟩⟩⟩;cases u<;>first|exact absurd rfl (b _)|simp[Instr.typeAssert,ad4 g,e]
  ·cases h
 ·rename_i t' y;simp only[an]at f;obtain⟨i,rfl,m⟩:=f;split at h
  ·rename_i k;subst k;cases h;cases j with
   |true=>
    refine⟨.tuple #[i,.bool true],?_,⟨_,rfl,⟨i,_,rfl,m,⟨_,_,rfl,by simp[an],by simp[aF]⟩⟩⟩⟩;cases u<;>first|exact absurd rfl (b _)|simp[Instr.typeAssert,ad4 g]
   |false=>
    refine⟨i,?_,m⟩;cases u<;>first|exact absurd rfl (b _)|simp[Instr.typeAssert,ad4 g]
  ·rename_i k;split at h
   ·rename_i c;subst c;cases h;refine⟨.tuple #[d,.bool false],?_,⟨_,rfl,⟨d,_,rfl,rz,⟨_,_,rfl,by simp[an],by simp[aF]⟩⟩⟩⟩;cases u<;>first|exact absurd rfl (b _)|simp[Instr.typeAssert,ad4 g,e,k]
   ·cases h
 ·cases h
def ank{u:TypeDesc}(a:P.underlying t=some u)(b: ∀ms,u≠ .interface ms)(x:Value)(w:World): (Instr.makeInterface t x).run P w= .ok (.iface t x) w:=by
 cases u<;>first|grind|simp[Instr.makeInterface,run_underlying a]
def anl{x v:AV}{d:Value}(c:an G x d)(h:wR x=some v):v=x/\ ((∃a,d= .pointer (some a))\/ (∃f a b,d= .func (.func f) a b)\/ ∃f a b,d= .func (.yield f) a b):=by
 unfold wR at h;split at h
 all_goals(try cases h)
 ·simp only[an]at c;grind
 ·simp only[an]at c;grind
 ·simp only[an]at c;grind
 ·simp only[an]at c;grind
 ·simp only[an,nC]at c;grind
 ·simp only[an,nC]at c;grind
theorem fR.length: ∀ {es:List (AV×AV)} {ms:List MapEntry},fR G es ms->ms.length=es.length
 | [],ms,r=>by simp only[fR]at r;grind
 | (k,v)::es,ms,r=>by
   obtain⟨m,q,rfl,_,_,_,h⟩:=r;simp[fR.length h]
def Ni(f:aX P B ay G E w){ty:TypeId}{u:TypeDesc}{k:EK}(c:P.underlying t=some u)(b:kindOk k u){x v:AV}{d:Value}(a:an G x d)(h:gl E k x=some v):
  ∃v',(Builtin.len_ #[t] ty #[d]).run P w= .ok v' w/\an G v v':=by
 unfold gl at h;split at h
 ·cases h;simp only[an]at a;subst a;simp only[kindOk]at b;subst b;exact lq (by simp[Builtin.len_,ad4 c,goInt])
 ·cases h;simp only[an]at a;subst a;obtain⟨e,rfl⟩:=b;exact lq (by simp[Builtin.len_,ad4 c,goInt])
 ·cases h;simp only[an]at a;obtain⟨_,_,_,_,_,rfl,_⟩:=a;obtain⟨e,rfl⟩:=b;exact lq (by simp[Builtin.len_,ad4 c,goInt])
 ·cases h;simp only[an]at a;obtain⟨_,_,_,_,rfl,_⟩:=a;obtain⟨e,rfl⟩:=b;exact lq (by simp[Builtin.len_,ad4 c,goInt])
 ·cases h;simp only[an]at a;obtain⟨_,_,_,rfl,_⟩:=a;obtain⟨e,rfl⟩:=b;exact lq (by simp[Builtin.len_,ad4 c,goInt])
 ·cases h;simp only[an]at a;subst a;obtain⟨_,e,rfl⟩:=b;exact lq (by simp[Builtin.len_,ad4 c,goInt])
 ·rename_i id;split at h
  ·rename_i es he;cases h;obtain⟨l,ms,clock,j,hm⟩:=f.obj id _ he a.He;simp only[an]at a;obtain⟨_,r,rfl,g⟩:=a;obtain⟨_,e,rfl⟩:=b;rw[g l];have i:ms.size=es.length:=by rw[<-amj];exact hm.length
   exact lq (by simp[Builtin.len_,ad4 c,goInt,getObj,Sem.run,j,i])
  ·cases h
 ·exact b.elim
 ·exact b.elim
 ·exact b.elim
 ·cases h
def anm{ty:TypeId}(b:P.underlying t=some (.slice e)){x v:AV}{d:Value}(a:an G x d)(h:gl E .cap x=some v)(w:World):
  ∃v',(Builtin.cap_ #[t] ty #[d]).run P w= .ok v' w/\an G v v':=by
 unfold gl at h;split at h<;>first|grind|skip
 all_goals simp_all
 ·cases h;subst a;exact lq (by simp[Builtin.cap_,ad4 b,goInt])
 ·cases h;simp only[an]at a;obtain⟨_,_,cap,_,_,rfl,_,c,_⟩:=a;rw[<-c trivial];exact lq (by simp[Builtin.cap_,ad4 b,goInt])
 ·cases h;simp only[an]at a;obtain⟨_,_,_,cap,rfl,_,c,_⟩:=a;rw[<-c trivial];exact lq (by simp[Builtin.cap_,ad4 b,goInt])
theorem Nj{f:AV->AV->Option AV}{g:Value->Value->Sem Value}(m: ∀a b c a' o,f a b=some c->an G a a'->an G b o-> ∃n,(∀w,(g a' o).run P w= .ok n w)/\an G c n):
  ∀ (xs:List AV) (x:AV) (v:AV) (j:Value) (d:List Value),gF f (x::xs)=some v->an G x j->aF G xs d-> ∀w,∃v',(d.foldlM g j).run P w= .ok v' w/\an G v v'
 | [],x,v,j,d,h,l,i,w=>by
   subst i;unfold gF at h;simp_all
 |y::ys,x,v,j,d,h,l,i,w=>by
  obtain⟨s,k,rfl,r,i⟩:=i;unfold gF at h;split at h
  ·rename_i z q;obtain⟨p,e,rz⟩:=m _ _ _ _ _ q l r;obtain⟨v',t,rv⟩:=Nj m ys z v p k h rz i w;simp_all
  grind
def ann{j:Array TypeId}{xs:List AV}{v:AV}{d:Array Value}(g:aF G xs d.toList)(h:gF qU xs=some v)(w:World):
  ∃v',(Builtin.max_ j t d).run P w= .ok v' w/\an G v v':=by
 cases xs with
 |nil=>simp[gF]at h
 |cons x xs=>
  obtain⟨i,r,e,k,g⟩:=g;simp only[Builtin.max_,e];refine Nj (λa b c a' n f m l=>?_) xs x v i r h k g w;unfold qU at f;split at f
  ·cases f;subst m l;exact⟨_,λw=>by rfl,by rfl⟩
  grind
def ano{j:Array TypeId}{xs:List AV}{v:AV}{d:Array Value}(g:aF G xs d.toList)(h:gF wP xs=some v)(w:World):
  ∃v',(Builtin.min_ j t d).run P w= .ok v' w/\an G v v':=by
 cases xs with
 |nil=>simp[gF]at h
 |cons x xs=>
  obtain⟨i,r,e,k,g⟩:=g;simp only[Builtin.min_,e];refine Nj (λa b c a' n f m l=>?_) xs x v i r h k g w;unfold wP at f;split at f
  ·cases f;subst m l;exact⟨_,λw=>by rfl,by rfl⟩
  grind
end
section
variable{P:Program}{X:Ctx}{B:Nat}{ay:World}
variable{G:Gh}{E:AS}{w:World}
def aF.aM{cs vs:List AV}{b:List Value}{off:Nat}(a:aF G cs c.toList)(d:aF G vs b)(h:off+vs.length<=cs.length):
  aF G (aM cs off vs) (lp c off b).toList:=by
 have e:=d.length;have f:=a.length;rw[amj]at f;rw[Hg _ _ _ (by omega)];rw[e];exact(a.take off).append (d.append (a.drop _))
def Leaves.aM{a:List Value}{off:Nat}(b:Leaves c.toList)(d:Leaves a)(h:off+a.length<=c.size):Leaves (lp c off a).toList:=by
 rw[Hg _ _ _ h];exact(b.take off).append (d.append (b.drop _))
theorem V8(off:Nat): ∀ (l:List Value) (k:Nat) (c:Array Value),(l.zipIdx k).foldl (λcs (p:Value×Nat)=>cs.setIfInBounds (off+p.2) p.1) c=lp c (off+k) l
 | [],_,_=>rfl
 |v::l,k,c=>by
  simp only[List.zipIdx_cons,aqD,lp];rw[V8 off l (k+1)];rfl
theorem Hn{nt:Nat}{e:Env}{a:Act}(v:cK G nt e a.tmps){b Dj:Nat->Option (Nat×Nat)}(u: ∀i p,b i=some p->Dj i=some p):
  ∀ (ps:List (Nat×Operand)) (l:List (Nat×Nat×ao)) (cs d:List AV) (c:Array Value),parts b ps=some l->eK cs (l.map λp=>(p.1,p.2.1,p.2.2.get e))=some d->aF G cs c.toList->Leaves c.toList->
  ∃j,Instr.fill Dj c (ps.map λp=>(p.1,a.eval p.2))=some j/\aF G d j.toList/\Leaves j.toList
 | [],l,cs,d,c,h,g,k,q=>by
   simp only[parts,adT]at h;subst h;simp only[asC,eK,adT]at g;subst g;exact⟨c,by rfl,k,q⟩
 | (i,x)::ps,l,cs,d,c,h,g,k,q=>by
   simp only[parts]at h;split at h
   ·rename_i off n y z H F D;cases h;simp only[ak9,eK]at g;split at g
    ·rename_i C;obtain⟨t1,t2,t3⟩:=C;have A:=cz v F;obtain⟨t,m⟩:=A.cells t1;have f:=t.length;rw[amj]at f;have s:=k.length;rw[amj]at s;obtain⟨j,I,r,o⟩:=Hn v u ps z _ d (lp c off (a.eval x).cells.toList) D g (k.aM t (by omega)) (q.aM m (by rw[amj];omega));refine⟨j,?_,r,o⟩;simp only[ak9,Instr.fill,u i _ H];rw[adU (by simp only[ne_eq,aos,ai8];omega)];rw[<-I]
     congr 1
     rw[<-Array.foldl_toList,Array.toList_zipIdx];exact V8 off _ 0 c
    grind
   grind
def anp{b:Array Field}{z:List AV}(O:P.underlying t=some (.struct b))(M:hY P t=some z)(L:b.toList.all (λf=>(cw P f.type).isSome)=true)
   {e:Env}  (K:cK G nt e a.tmps) {o:Array (Nat×Operand)} {l:List (Nat×Nat×ao)}
  (H:parts (λi=>match b[i]? with|some f=>(cw P f.type).map λn=>(f.offset,n)|none=>none) o.toList=some l) {cs:List AV} (J:eK z (l.map λp=>(p.1,p.2.1,p.2.2.get e))=some cs) (w:World):
  ∃v',(Instr.build t (o.map λ (i,x)=>(i,a.eval x))).run P w= .ok v' w/\an G (.agg cs) v':=by
 obtain⟨m,_,D,lz,q,_⟩:=sG M G w;obtain⟨it,I,C⟩: ∃it,P.info? t=some it/\it.zero=some m:=by
  unfold zeroV at D;cases d:P.info? t with
  |none=>grind
  |some i=>grind
 have hm: ∀ (fs:List Field),fs.all (λf=>(cw P f.type).isSome)=true-> ∃places,fs.mapM (λf=>(P.info? f.type).map λi=>(f.offset,i.size))=some places/\ ∀ (i:Nat) (f:Field),fs[i]?=some f-> ∃n,cw P f.type=some n/\places[i]?=some (f.offset,n):=by
  intro fs
  induction fs with
  |nil=>simp
  |cons f fs y=>
   intro c;simp only[axE,ag9]at c;obtain⟨places,e1,N⟩:=y c.2;cases d:P.info? f.type with
   |none=>simp[cw,d]at c
   |some i=>
    refine⟨(f.offset,i.size)::places,by simp[aAC,d,e1],λj g s=>?_⟩;cases j with
    |zero=>simp at s;subst s;exact⟨i.size,by simp[cw,d],by simp⟩
    |succ j=>simpa using N j g (by simpa using s)
 obtain⟨places,F,k⟩:=hm _ L;have A:m.cells.toList=m.cells.toList:=rfl;obtain⟨u,Q,r,v⟩:=Hn (Dj:=(places.toArray[·]?)) K (λi p d=>by
  cases h:b[i]? with
  |none=>simp[h]at d
  |some f=>
   obtain⟨n,s1,s2⟩:=k i f (by simpa using h);simp[h,s1]at d;subst d;simpa using s2) o.toList l z cs m.cells H J lz q
 refine⟨.agg u,?_,⟨u,rfl,r,v⟩⟩;refine run_build w t _ u ?_;unfold Program.built;simp_all
def anq{b:TypeId}{z:List AV}(F:P.underlying t=some (.array n b))(D:hY P t=some z)(C:cw P b=some sz)
   {e:Env}  (A:cK G nt e a.tmps) {c:Array (Nat×Operand)} {l:List (Nat×Nat×ao)}
  (s:parts (λi=>some (i*sz,sz)) c.toList=some l) {cs:List AV} (y:eK z (l.map λp=>(p.1,p.2.1,p.2.2.get e))=some cs) (w:World):
  ∃v',(Instr.build t (c.map λ (i,x)=>(i,a.eval x))).run P w= .ok v' w/\an G (.agg cs) v':=by
 obtain⟨h,_,o,lz,d,_⟩:=sG D G w;obtain⟨it,u,m⟩: ∃it,P.info? t=some it/\it.zero=some h:=by
  unfold zeroV at o;cases j:P.info? t with
  |none=>grind
  |some i=>grind
 obtain⟨f,v,q⟩: ∃f,P.info? b=some f/\f.size=sz:=by
  unfold cw at C;simp_all
 obtain⟨g,H,r,k⟩:=Hn (Dj:=λi=>some (i*sz,sz)) A (λi p j=>j) c.toList l z cs h.cells s y lz d;refine⟨.agg g,?_,⟨g,rfl,r,k⟩⟩;refine run_build w t _ g ?_;unfold Program.built;simp_all
def Nk{af:List (List AV)}(h:af.all (λel=>el.length==sz)=true): ∀el∈af,el.length=sz:=by grind
def anr(r:aX P B ay G E w){x:AV}{q:Value}{af:List (List AV)}(g:an G x q)(h:elems E sz x=some af):
  (af=[]/\q= .slice none 0 0)\/
  ∃a cap vs,q= .slice (some a) af.length cap/\ (∀el∈af,el.length=sz)/\br G af vs/\Leaves vs/\ (vs=[]\/ ∃b o,a=⟨b,o,none⟩/\ ∀j u,vs[j]?=some u->w.cell? ⟨b,o+j,none⟩=some u):=by
 unfold elems at h;split at h
 ·simp only[an]at g;grind
 ·rename_i k cD;split at h
  ·rename_i hu;cases h;simp only[an]at g;obtain⟨b,o,cap,s,vs,e,_,_,_,L,m,n⟩:=g;exact .inr ⟨_,cap,vs,e,Nk hu,n,m,.inr ⟨b,o,rfl,λj u d=>r.bu _ _ _ (L j u d)⟩⟩
  grind
 ·rename_i id ak f off len cD;split at h
  ·rename_i v l ty k he;split at h
   ·rename_i z;obtain⟨F,J,M,N⟩:=z;subst F J M;cases h;obtain⟨g1,g2,I,c,pre,vs,post,A,y,H,_,n,m⟩:=r.obj id _ he g.M7;simp only[an]at g;obtain⟨_,_,a,cap,e,p,_,K⟩:=g;obtain⟨_,C,_⟩:=K g1;have i: ((k.drop off).take len).length=len:=by simp;omega
    refine .inr ⟨a,cap,(vs.drop (off*f)).take (len*f),by rw[i];exact e,λel t=>I el (aou (aiy t)),n.slice I,(m.drop _).take _,?_⟩;by_cases D:len=0
    ·left;simp[D]
    ·right
     refine⟨_,_,C (by omega),λj u d=>?_⟩;refine De A _ u ?_;rw[anH]at d;split at d
     ·rw[alH]at d;rw[y,afJ (by omega),adf (by have:=(adg.1 d).1;omega)];rw[<-d];congr 1;omega
     ·cases d
   ·cases h
  ·cases h
 ·rename_i id l off len;split at h
  ·rename_i cs tg he;split at h
   ·rename_i z;obtain⟨F,J⟩:=z;subst F;cases h;obtain⟨g1,_,c,ty,A,n,m,_⟩:=AU r he g.amJ;simp only[an]at g;obtain⟨_,a,cap,e,p,C⟩:=g;have hle:len*l<=(cs.drop off).length:=by simp;omega
    refine .inr ⟨a,cap,(c.toList.drop off).take (len*l),by rw[Nd];exact e,Dg hle,?_,(m.drop _).take _,?_⟩
    ·rw[br.iff,chunks_flatten hle];exact(n.drop _).take _
    ·by_cases D:len=0
     ·left;simp[D]
     ·right
      refine⟨_,_,C g1 (by omega),λj u d=>?_⟩;refine De A _ u ?_;rw[anH]at d;split at d
      ·rwa[alH]at d
      ·cases d
   ·cases h
  ·cases h
 grind
theorem pU{sz:Nat}: ∀ {af:List (List AV)},(∀el∈af,el.length=sz)->af.flatten.length=af.length*sz
 | [],_=>by simp
 |x::xs,h=>by
  have a:=pU (af:=xs) λy b=>h y (by grind)
  grind
def br.len{af:List (List AV)}(h:br G af vs)(a: ∀el∈af,el.length=sz):vs.length=af.length*sz:=by
 rw[(br.iff.1 h).length,pU a]
def V9(p:aX P B ay G E w){x:AV}{e:Value}{af:List (List AV)}(m:an G x e)(h:elems E sz x=some af):
  ∃vs,br G af vs/\Leaves vs/\ (∀el∈af,el.length=sz)/\vs.length=af.length*sz/\ (∃a cap,e= .slice a af.length cap/\ (a=none->af=[]))/\
   ∀w',w'.heap=w.heap-> ∀n,n<=af.length->(Builtin.firstCells sz n e).run P w'= .ok (vs.take (n*sz)).toArray w':=by
 rcases anr p m h with⟨rfl,rfl⟩| ⟨a,cap,vs,rfl,hu,g,l,k⟩
 ·refine⟨[],by rfl,λu hu=>by grind,by simp,by simp,⟨none,0,rfl,λ_=>rfl⟩,λw' c n f=>?_⟩;simp[Builtin.firstCells]
 ·refine⟨vs,g,l,hu,g.len hu,⟨some a,cap,rfl,λh=>by cases h⟩,λw' c n f=>?_⟩;have d:=g.len hu;rcases k with rfl| ⟨b,o,rfl,k⟩
  ·simp only[Builtin.firstCells];have:n*sz=0:=by
    have q:af.length*sz=0:=by grind
    have:=aml sz f;omega
   rw[this];simp[loadCells,loadCellsFrom]
  ·simp only[Builtin.firstCells];have hle:n*sz<=af.length*sz:=aml _ f;exact run_loadCells (vs.take (n*sz)) (by grind) (λj u i=>by
    rw[anH]at i;split at i
    ·have:=k _ _ i;simp only[World.cell?,c]at this⊢;exact this
    grind)
theorem ans: ∀ {af:List (List AV)} {vs:List Value} {l:lB},br G af vs->wO af=some l-> ∃a:List Int,vs=a.map (Value.int .u8)/\l=a.map λn=>UInt8.ofNat n.toNat
 | [],vs,l,h,e=>by
   subst h;simp only[wO,adT]at e;simp_all
 |x::xs,vs,l,h,e=>by
  obtain⟨v,r,rfl,d,c⟩:=h;unfold wO at e;split at e
  ·grind
  ·rename_i n f heq;cases heq;cases b:wO xs with
   |none=>grind
   |some g=>
    simp[b]at e;subst e;obtain⟨a,rfl,rfl⟩:=ans c b;obtain⟨v',q,rfl,rfl,rfl⟩:=d;exact⟨n::a,rfl,rfl⟩
  grind
theorem foldl_push: ∀ (a:List Int) (s:ByteArray),a.foldl (λr n=>r.push (UInt8.ofNat n.toNat)) s=⟨s.data++(a.map λn=>UInt8.ofNat n.toNat).toArray⟩
 | [],s=>by simp
 |n::a,s=>by
  rw[aqD,foldl_push a];simp_all
end
section
variable{P:Program}{X:Ctx}{B:Nat}{ay:World}
variable{G:Gh}{E:AS}{w:World}
def m0(P:Program)(B:Nat)(ay:World)(G:Gh)(E:AS)(v:AV)(b:AS)(r:Result Value):Prop:=
 ∃a w' v',r= .ok v' w'/\G.le a/\aX P B ay a b w'/\an a v v'/\E.Ext b
def AY(P:Program)(B:Nat)(ay:World)(G:Gh)(E:AS)(b:AS)(r:Result Unit):Prop:=
 ∃a w',r= .ok () w'/\G.le a/\aX P B ay a b w'/\E.Ext b
theorem vC: ∀ {a b:List AV},aK (a++b)=max (aK a) (aK b)
 | [],b=>by rfl
 |x::a,b=>by simp only[ahq,aK,vC (a:=a)];omega
theorem wT: ∀ {af:List (List AV)},b9 af=aK af.flatten
 | []=>by rfl
 |x::xs=>by simp only[b9,aoW,vC,wT (af:=xs)]
def Wa{a:List AV}:aK (a.take n)<=aK a:=by grind [vC,List.take_append_drop]
def Wb{a:List AV}:aK (a.drop n)<=aK a:=by
 have h:=vC (a:=a.take n) (b:=a.drop n);rw[ai7]at h;omega
def Wc{cs vs:List AV}{off:Nat}:aK (aM cs off vs)<=max (aK cs) (aK vs):=by
 unfold aM;have c:=Wa (a:=cs) (n:=off);have b:=Wb (a:=cs) (n:=off+vs.length);rw[vC,vC];omega
def Wd{v:AV}:aK v.cells=v.refs:=by
 cases v<;>simp[AV.cells,aK,AV.refs]
def Nl{cs vs:List AV}{off:Nat}(h:off+vs.length<=cs.length): (aM cs off vs).length=cs.length:=by
 unfold aM;grind
def We(a:aX P B ay G E w){cs:List AV}(ty:TypeId)(e:aF G cs c.toList)(d:Leaves c.toList)(tg:Option TypeId)(b: ∀t,tg=some t->ty=t):
  m0 P B ay G E (.ptr E.heap.length 0) (E.push (.box cs tg)) (.ok (.pointer (some ⟨w.heap.size,0,none⟩)) (w.alloc (.cells c ty))):=by
 have hle:=G.AT w.heap.size 0 0;refine⟨G.push w.heap.size 0 0,_,_,rfl,hle,a.push _ _ 0 0 ?_,?_,.push E _⟩
 ·refine⟨by simp[Gh.push],c,ty,?_,e.mono hle,d,b⟩;have: (G.push w.heap.size 0 0).bf G.n=w.heap.size:=by simp[Gh.push]
  rw[this];exact apV _ _
 ·refine⟨Gh.Dd a,_,rfl,λ_=>?_⟩;simp[Gh.push,a.len]
def Nm{z:List AV}{t':TypeId}(h:sD z t=some t'):t=t':=by
 unfold sD at h
 grind
def ant{z:Option (List AV)}{t':TypeId}(h: (z.bind λz=>sD z t)=some t'):t=t':=by
 cases z with
 |none=>cases h
 |some z=>exact Nm h
def anu(d:aX P B ay G E w){z:List AV}(c:hY P t=some z):
  m0 P B ay G E (.ptr E.heap.length 0) (E.push (.box z (sD z t))) ((Instr.alloc t true (.tuple #[])).run P w):=by
 obtain⟨a,e,_,l,b,_⟩:=sG c G w;have: (Instr.alloc t true (.tuple #[])).run P w= .ok (.pointer (some ⟨w.heap.size,0,none⟩)) (w.alloc (.cells a.cells t)):=by
  simp[Instr.alloc,e,newVar,newRow]
 rw[this];exact We d t l b _ (λt' h=>Nm h)
def anv(e:aX P B ay G E w){x:AV}{b:Value}{tg:Option TypeId}(a: ∀t',tg=some t'->t=t')(d:an G x b)(f:x.ck=false):
  m0 P B ay G E (.ptr E.heap.length 0) (E.push (.box x.cells tg)) ((Instr.box t b).run P w):=by
 obtain⟨l,c⟩:=d.cells f;exact We e t l c tg a
def Ho(g:aX P B ay G E w){af:List (List AV)}{post:List Value}{cap:Nat}(ty:TypeId)(l:c.toList=vs++post)(j: ∀el∈af,el.length=sz)(k:br G af vs)(i:Leaves vs)
  (e:c.size=cap*sz) (h:af.length<=cap) (len:Nat) (a:len=af.length)  (f:w'.heap=w.heap) (d:aX P B ay G E w'):
  m0 P B ay G E (.ref E.heap.length 0 sz 0 len false) (E.push (.row 0 sz ty af)) (.ok (.slice (some ⟨w.heap.size,0,none⟩) len cap) (w'.alloc (.cells c ty))):=by
 subst a;rw[<-f];have b:=G.AT w'.heap.size (cap*sz) sz;refine⟨G.push w'.heap.size (cap*sz) sz,_,_,rfl,b,d.push _ _ _ _ ?_,?_,.push E _⟩
 ·have e1: (G.push w'.heap.size (cap*sz) sz).bf G.n=w'.heap.size:=by simp[Gh.push]
  refine⟨by simp[Gh.push],by simp[Gh.push],j,c,[],vs,post,?_,by grind,by simp[Gh.push],?_,k.mono b,i⟩
  ·rw[e1];exact apV _ _
  ·simp[Gh.push,e]
 ·refine⟨Gh.Dd d,by simp,_,cap,rfl,⟨h,rfl⟩,by simp,λ_=>⟨by simp[Gh.push,g.len],λ_=>by simp[Gh.push,g.len],by simp[Gh.push,g.len]⟩⟩
def anw(a:aX P B ay G E w)(t:TypeId):m0 P B ay G E (.mp E.heap.length) (E.push (.map [])) ((Instr.makeMap t none).run P w):=by
 have hle:=G.AT w.heap.size 0 0;refine⟨G.push w.heap.size 0 0,_,_,rfl,hle,a.push _ _ 0 0 ?_,?_,.push E _⟩
 ·refine⟨by simp[Gh.push],#[],0,?_,by rfl⟩;have: (G.push w.heap.size 0 0).bf G.n=w.heap.size:=by simp[Gh.push]
  rw[this];exact apV _ _
 ·exact⟨Gh.Dd a,_,rfl,λ_=>by simp[Gh.push,a.len]⟩
def aX.put(b:aX P B ay G E w){id:Nat}(a:G.on id){o':ae}(refs:Nat)(ho:iO P G id (eY w (G.bf id) O) o'):aX P B ay G (E.set id o' refs) (eY w (G.bf id) O):=
 b.set a o' refs G.le_refl rfl rfl (λ_ _ _=>rfl) (.inl rfl) (by rw[amO];exact(b.low id a).2) (λk c _=>VL c) (by simp) rfl rfl rfl ho
def Nn(f:aX P B ay G E w){id:Nat}{cs as:List AV}{tg:Option TypeId}(k:E.heap[id]?=some (.box cs tg))(l:G.pz id=none){a:List Value}{off:Nat}(j:aF G as a)(i:Leaves a)(h:off+as.length<=cs.length){refs:Nat}(s:aK as<=refs):
  AY P B ay G E (E.set id (.box (aM cs off as) tg) refs) ((storeCells ⟨G.bf id,off,none⟩ a).run P w):=by
 obtain⟨r,d,c,ty,q,b,e,g⟩:=AU f k l;have p:=b.length;rw[amj]at p;have hu:=j.length;refine⟨G,_,?_,G.le_refl,f.put d refs (O:=.cells (lp c off a) ty (0,0)) ?_,.set k λn o m=>?_⟩
 ·have:=M8 (P:=P) a c w off 0 q (by omega) i;omega
 ·exact⟨r,_,ty,vz (f.low id d).2,b.aM j h,e.aM i (by omega),g⟩
 ·simp only[ae.le]at o⊢;have:=Wc (cs:=cs) (vs:=as) (off:=off);omega
def Wg(f:aX P B ay G E w){id:Nat}{ty:TypeId}{af a:List (List AV)}{as:List AV}(s:E.heap[id]?=some (.row ak sz ty af))(m:G.pz id=none){b:List Value}{p:Nat}(q:aF G as b)(l:Leaves b)(h:p+as.length<=af.flatten.length)
  (v: ∀el∈a,el.length=sz) (r:a.flatten=aM af.flatten p as) {refs:Nat} (H:aK as<=refs):
  AY P B ay G E (E.set id (.row ak sz ty a) refs) ((storeCells ⟨G.bf id,G.base id+p,none⟩ b).run P w):=by
 obtain⟨D,i,u,c,pre,vs,post,C,A,o,F,j,d⟩:=f.obj id _ s m;have e:G.on id:=⟨by rw[f.len];grind,m⟩;have k:=br.iff.1 j;have t:=k.length;have g:=q.length;have z:c.size=pre.length+(vs.length+post.length):=by grind [Array.length_toList]
 refine⟨G,_,?_,G.le_refl,f.put e refs (O:=.cells (lp c (G.base id+p) b) ty (0,0)) ?_,.set s λn y x=>?_⟩
 ·have:=M8 (P:=P) b c w (G.base id+p) 0 C (by omega) l;omega
 ·refine⟨D,i,v,_,pre,vs.take p++(b++vs.drop (p+b.length)),post,vz (f.low id e).2,?_,o,by simp_all,?_,(d.take p).append (l.append (d.drop _))⟩
  ·rw[Hg _ _ _ (by omega),A,<-o];rw[axZ,aes (by omega:pre.length<=pre.length+p),ahB,aw3 (by omega)];rw[akl,aw4,ahp (by omega:pre.length<=pre.length+(p+b.length)),ahB,ahm,aCo (by omega)];simp
  ·rw[br.iff,r];unfold aM;rw[<-g];exact(k.take p).append (q.append (k.drop _))
 ·simp only[ae.le,wT]at y⊢;rw[r];have:=Wc (cs:=af.flatten) (vs:=as) (off:=p);omega
def anx{af:List (List AV)}{el b:List AV}(g: ∀x∈af,x.length=sz)(e:af[i]?=some el)(off:Nat)(vs:List AV)(h:off+vs.length<=el.length)(f:b=aM el off vs):
  (af.set i b).flatten=aM af.flatten (i*sz+off) vs:=by
 subst f;have c:i<af.length:=(adg.1 e).1;have d:af.flatten=(af.take i).flatten++(el++(af.drop (i+1)).flatten):=by grind [List.take_append_drop,List.flatten_append,List.drop_eq_getElem_cons]
 have a: (af.take i).flatten.length=i*sz:=by grind [pU,List.mem_of_mem_take,List.length_take,Nat.min_eq_left,Nat.le_of_lt]
 rw[List.set_eq_take_append_cons_drop,adY c,anK,aoW];rw[d];unfold aM;rw[axZ,aes (by omega: (af.take i).flatten.length<=i*sz+off),a,ahB,aw3 (by omega)];rw[akl,aw4,ahp (by omega: (af.take i).flatten.length<=i*sz+(off+vs.length)),a,ahB,ahm,aCo (by omega)];simp
def anz(j:aX P B ay G E w)(J:cw P t=some n){x v:AV}{f:Value}{C:AS}(g:an G x f)(D:an G v v')(h:km E n x v=some C):
  AY P B ay G E C ((Instr.storeAt t f v').run P w):=by
 have key: ∀ (b:Addr),f= .pointer (some b)->v.ck=false->v.cells.length=n->(Instr.storeAt t f v').run P w=(storeCells b v'.cells.toList).run P w/\aF G v.cells v'.cells.toList/\Leaves v'.cells.toList:=by
  rintro b rfl F M;obtain⟨l,L⟩:=D.cells F;have N:=l.length;simp only[Instr.storeAt,Sem.run_bind,Instr.sureAddr,Sem.run_pure,Result.andThen_ok,storeVar,oB J]
  grind
 unfold km at h;split at h
 ·rename_i id off;split at h
  ·rename_i cs he;split at h
   ·rename_i p;obtain⟨u,s,K⟩:=p;cases h;simp only[an]at g;obtain⟨a,b,e,q⟩:=g;obtain⟨o,m,k⟩:=key b e u s;rw[o,q (AU j he a.2).1];exact Nn j he a.2 m k (by omega) (by rw[Wd];exact afA _)
   grind
  grind
 ·rename_i id ak i off;split at h
  ·rename_i A sz ty af he;split at h
   ·rename_i el d;split at h
    ·rename_i p;obtain⟨c0,z,u,s,K⟩:=p;subst c0;cases h;simp only[an]at g;obtain⟨a,_,b,e,q⟩:=g;obtain⟨o,m,k⟩:=key b e u s;obtain⟨g1,g2,r,_⟩:=j.obj id _ he a.2;rw[o,q g1,g2,akl];have I:i<af.length:=(adg.1 d).1;have H:=anx r d off v.cells (by omega) rfl;have hle:i*sz+sz<=af.flatten.length:=by
      rw[pU r,<-ap2];exact aml _ I
     exact Wg j he a.2 m k (by omega) (λy c=>by
      rcases List.mem_or_eq_of_mem_set c with c|c
      ·exact r y c
      ·rw[c,Nl (by omega)];exact z) H (by rw[Wd];exact afA _)
    ·cases h
   ·cases h
  ·cases h
 grind
end
section
variable{P:Program}{X:Ctx}{B:Nat}{ay:World}
variable{G:Gh}{E:AS}{w:World}
theorem Hp(zc:Array Value)(b:0<zc.size): ∀ (k:Nat),(List.range (k*zc.size)).map (λi=>zc[i % zc.size]!)=(List.replicate k zc.toList).flatten
 |0=>by simp
 |k+1=>by
  have e: (k+1)*zc.size=zc.size+k*zc.size:=by grind
  rw[e,List.range_add,afI,awm,ar7,aoW,<-Hp zc b k]
  congr 1
  ·apply anZ;intro j;by_cases a:j<zc.size
   ·simp[a,aop a]
   grind
  simp_all
theorem Dk{z:List AV}{vs:List Value}(a:aF G z vs): ∀ (k:Nat),br G (List.replicate k z) (List.replicate k vs).flatten
 |0=>by rfl
 |k+1=>by
  exact⟨_,_,rfl,a,Dk a k⟩
theorem Hq(h:Leaves vs)(k:Nat):Leaves (List.replicate k vs).flatten:=by
 intro v a;simp only[List.mem_flatten,List.mem_replicate]at a;obtain⟨l,⟨_,rfl⟩,a⟩:=a;exact h v a
def Wh(h:yw P t=some n): ∃i,P.info? t=some i/\i.bytes=n:=by
 unfold yw at h;simp_all
def Wi(h:cw P t=some n): ∃i,P.info? t=some i/\i.size=n:=by
 unfold cw at h;simp_all
def No{i:TypeInfo}{z:Value}(a:P.info? t=some i)(h:zeroV P t=some z):i.zero=some z:=by
 unfold zeroV at h;grind
def anA(m:aX P B ay G E w){z:List AV}{bytes:Nat}(F:P.underlying t=some (.slice e))(D:hY P e=some z)(C:yw P e=some bytes)(x:0<z.length)
  {l c:AV} {k q:Value} {v:AV} {r:AS} (n:an G l k) (p:an G c q) (h:M3 E e z bytes l c=some (v,r)):m0 P B ay G E v r ((Instr.makeSlice t k q).run P w):=by
 unfold M3 at h;split at h
 ·rename_i s l u c;split at h
  ·rename_i A;obtain⟨K,J,I,H⟩:=A;cases h;simp only[an]at n p;subst n p;obtain⟨i,o,rfl⟩:=Wh C;obtain⟨b,_,f,lz,d,j⟩:=sG D G w;have a:i.size=z.length:=by unfold cw at j;grind
   have g:b.cells.size=z.length:=by exact lz.length
   rw[run_make w t e i b F o (No o f) s u l c K J (by rw[Int.mul_comm];simp only[room]at I;omega) (by simp only[room]at H;omega)];have hm: (madeCells b.cells (c.toNat*i.size)).toList=(List.replicate l.toNat b.cells.toList).flatten++(List.replicate (c.toNat-l.toNat) b.cells.toList).flatten:=by
    unfold madeCells;rw[a,<-g,Array.toList_map,Array.toList_range,Hp _ (by omega)];rw[<-anK,aBj]
    grind
   refine Ho m e hm (λel y=>by grind) (Dk lz _) (Hq d _) (cap:=c.toNat) ?_ (by rw[List.length_replicate];omega) l.toNat (by simp) rfl m;simp[madeCells,a]
  grind
 grind
def anB(k:aX P B ay G E w){s d:TypeId}(p:P.underlying s=some .string)(o:P.underlying d=some (.slice e))(n:P.underlying e=some (.int .u8))(b:ByteArray):
  m0 P B ay G E (.sl (sx b) false) E ((convert s d (.string b)).run P w):=by
 rw[run_bytes_of_string w s d e b p o n];have a:b.data.toList.length=b.size:=by simp
 obtain⟨hle,c⟩:=k.drew.VK (bytesRow b (grownCap w b.size 0 e)) e ((bytesRow b (grownCap w b.size 0 e)).size,(bytesRow b (grownCap w b.size 0 e)).size+1) (b.data.toList.map λx=>Value.int .u8 x.toNat) (λj v h=>by
  unfold bytesRow
  grind)
 refine⟨_,_,_,rfl,hle,c,?_,.refl E⟩;have m: ∀ (G:Gh) (l:lB),br G (l.map λx=>[AV.int .u8 x.toNat]) (l.map λx=>Value.int .u8 x.toNat):=by
  intro G l
  induction l with
  |nil=>rfl
  |cons x xs i=>exact⟨[_],_,rfl,by simp[aF,an],i⟩
 refine⟨w.heap.size,0,grownCap w b.size 0 e,1,_,?_,?_,by simp,?_,?_,?_,m _ _⟩
 ·simp[sx,a]
 ·simp only[sx,afB,a];exact aAP w b.size 0 e
 ·intro el f;simp only[sx,afH]at f
  grind
 ·intro j v h;simp only[Gh.freeze,ak4];rw[adY (show w.heap.size=w.drew.heap.size from rfl)];exact h
 ·intro v g;simp only[afH]at g;obtain⟨x,_,rfl⟩:=g;rfl
def Wj{z:List AV}{len:Nat}(q:P.underlying t=some (.slice e))(J:hY P e=some z)(A:0<z.length)(C:len*z.length<=65536)
   {f:Env}  (I:cK G nt f a.tmps) {j:Array (Nat×Operand)} {l:List (Nat×Nat×ao)}
  (F:parts (λi=>some (i*z.length,z.length)) j.toList=some l) {cs:List AV} (H:eK (List.replicate len z).flatten (l.map λp=>(p.1,p.2.1,p.2.2.get f))=some cs) (w:World):
  ∃c:Array Value,(Instr.buildSlice t len (j.map λ (i,x)=>(i,a.eval x))).run P w= .ok (.slice (some ⟨w.heap.size,0,none⟩) len len) (w.alloc (.cells c e))/\aF G cs c.toList/\Leaves c.toList:=by
 obtain⟨b,D,k,lz,u,m⟩:=sG J G w;obtain⟨i,o,d⟩:=Wi m;have y:b.cells.size=z.length:=by exact lz.length
 have hm: ((Array.range (len*i.size)).map (b.cells[· % b.cells.size]!)).toList=(List.replicate len b.cells.toList).flatten:=by grind [Array.toList_map,Array.toList_range,Hp]
 obtain⟨c,K,r,v⟩:=Hn (Dj:=λi=>some (i*z.length,z.length)) I (λi p h=>h) j.toList l _ cs ((Array.range (len*i.size)).map (b.cells[· % b.cells.size]!)) F H
  (by rw[hm];exact br.iff.1 (Dk lz len)) (by grind [Hq])
 refine⟨c,?_,r,v⟩;have g:Instr.fill (λx=>some (x*i.size,i.size)) ((Array.range (len*i.size)).map (b.cells[· % b.cells.size]!)) (j.map λ (i,x)=>(i,a.eval x)).toList=some c:=by simp_all
 by_cases s:len*i.size=0
 ·have n:len=0:=by
    rcases Nat.mul_eq_zero.1 s with h|h
    ·exact h
    ·omega
  subst n;simp[Instr.buildSlice,ad4 q,sizeOf,typeInfo,o,newRow,Array.range_zero'];simp[Array.range_zero']at g;simp_all
 ·exact run_buildSlice w t e len _ c i b q o (No o k) (by rw[d];omega) s g
def anC(n:aX P B ay G E w){z:List AV}{len:Nat}(A:P.underlying t=some (.slice e))(y:hY P e=some z)(d:0<z.length)(g:len*z.length<=65536)
   {b:Env}  (s:cK G nt b a.tmps) {h:Array (Nat×Operand)} {l:List (Nat×Nat×ao)}
  (o:parts (λi=>some (i*z.length,z.length)) h.toList=some l) {cs:List AV} (q:eK (List.replicate len z).flatten (l.map λp=>(p.1,p.2.1,p.2.2.get b))=some cs) (u:cs.length=len*z.length):
  m0 P B ay G E (.sl (chunks z.length len cs) true) E ((Instr.buildSlice t len (h.map λ (i,x)=>(i,a.eval x))).run P w):=by
 obtain⟨c,C,r,m⟩:=Wj A y d g s o q w;rw[C];obtain⟨hle,f⟩:=n.VK c e (0,0) c.toList (λj v k=>by grind);refine⟨_,_,_,rfl,hle,f,?_,.refl E⟩;refine⟨w.heap.size,0,len,z.length,c.toList,by simp,by simp,λ_=>by simp,Dg (by omega),?_,m,?_⟩
 ·intro j v k;simp only[Gh.freeze,ak4,ag6];exact k
 ·rw[br.iff,chunks_flatten (by omega),aes (by omega)];exact r.mono hle
def anD(h:aX P B ay G E w){z:List AV}{len:Nat}(u:P.underlying t=some (.slice e))(s:hY P e=some z)(d:0<z.length)(f:len*z.length<=65536)
   {b:Env}  (o:cK G nt b a.tmps) {g:Array (Nat×Operand)} {l:List (Nat×Nat×ao)}
  (m:parts (λi=>some (i*z.length,z.length)) g.toList=some l) {cs:List AV} (n:eK (List.replicate len z).flatten (l.map λp=>(p.1,p.2.1,p.2.2.get b))=some cs) (q:cs.length=len*z.length):
  m0 P B ay G E (.ref E.heap.length 0 z.length 0 len false) (E.push (.row 0 z.length e (chunks z.length len cs))) ((Instr.buildSlice t len (g.map λ (i,x)=>(i,a.eval x))).run P w):=by
 obtain⟨c,v,r,j⟩:=Wj u s d f o m n w;rw[v];have k:=r.length;refine Ho h e (vs:=c.toList) (post:=[]) (by simp) (Dg (by omega)) ?_ j (cap:=len) (by grind) (by simp) len (by simp) rfl h;rw[br.iff,chunks_flatten (by omega),aes (by omega)];exact r
theorem Np: ∀ {ps:List (Nat×Nat×AV)} {cs a:List AV},eK cs ps=some a->a.length=cs.length
 | [],cs,a,h=>by simp only[eK,adT]at h;grind
 | (off,n,v)::ps,cs,a,h=>by
   simp only[eK]at h;split at h
   ·rw[Np h,Nl (by omega)]
   grind
end
section
variable{P:Program}{X:Ctx}{B:Nat}{ay:World}
variable{G:Gh}{E:AS}{w:World}
def Gh.eN(G:Gh)(id b base eD:Nat):Gh:=
 {G with bf:=λi=>if i=id then b else G.bf i,base:=λi=>if i=id then base else G.base i,ak:=λi=>if i=id then G.ak i+1 else G.ak i,eD:=λi=>if i=id then eD else G.eD i}
def Gh.Wk(G:Gh)(id b base eD:Nat):G.le (G.eN id b base eD):=by
 refine .mk' (λ_ _ _ h=>h) (afA _) (λ_ _=>rfl) (λi _=>?_) (λi _ h=>?_)
 ·simp only[Gh.eN];grind
 ·simp only[Gh.eN]at h;split at h
  ·omega
  ·rename_i a;simp[Gh.eN,a]
structure Nq(P:Program)(w:World)(sz:Nat)(xt:TypeId)(x':Value)(n:Nat)(new:List Value):Prop where
 len: (Builtin.lenOf x').run P w= .ok n w
 cells: ∀w',w'.heap=w.heap->(Builtin.firstCells sz n x').run P w'= .ok new.toArray w'
 type: (∃e,P.underlying xt=some (.slice e))\/P.underlying xt=some .string
def Dl{j ty:TypeId}{i:TypeInfo}(d:P.underlying t=some (.slice e))(f:P.info? e=some i){k:Value}{c:List Value}(b:Nq P w i.size j k n c)
  {base:Option Addr} {jC m2:Nat} (h:jC+n<=m2)  (l: ∀a,base=some a->(storeCells (a.add (jC*i.size)) c).run P w= .ok () w') (m:base=none->w'=w):
  (Builtin.append_ #[t,j] ty #[.slice base jC m2,k]).run P w= .ok (.slice base (jC+n) m2) w':=by
 have g:=b.cells w rfl;cases base with
 |none=>
  have:=m rfl;subst this;rcases b.type with⟨o,hu⟩|hu
  ·simp[Builtin.append_,ad4 d,ad4 hu,sizeOf,typeInfo,f,b.len,g,h]
  ·simp[Builtin.append_,ad4 d,ad4 hu,sizeOf,typeInfo,f,b.len,g,h]
 |some a=>
  have:=l a rfl;rcases b.type with⟨o,hu⟩|hu
  ·simp[Builtin.append_,ad4 d,ad4 hu,sizeOf,typeInfo,f,b.len,g,h,this]
  ·simp[Builtin.append_,ad4 d,ad4 hu,sizeOf,typeInfo,f,b.len,g,h,this]
def Hr{j ty:TypeId}{i:TypeInfo}{z:Value}(m:P.underlying t=some (.slice e))(p:P.info? e=some i)(l:i.zero=some z){k:Value}{c:List Value}(g:Nq P w i.size j k n c)
  {base:Option Addr} {jC m2:Nat} (h:m2<jC+n) {dV:List Value} (hold: ∀w',w'.heap=w.heap->(Builtin.firstCells i.size jC (.slice base jC m2)).run P w'= .ok dV.toArray w') (s:0<i.bytes) (b: (jC+n)*i.bytes<=room):
  (Builtin.append_ #[t,j] ty #[.slice base jC m2,k]).run P w= .ok (.slice (some ⟨w.heap.size,0,none⟩) (jC+n) (grownCap w (jC+n) m2 e))
    (w.drew.alloc (.cells (dV.toArray++c.toArray++Builtin.zeroCells z.cells (grownCap w (jC+n) m2 e- (jC+n))) e)):=by
 have o: ¬(jC+n<=m2):=by omega
 have q:=growslice_fits (bytes:=i.bytes) h (by simp only[room]at b;omega);have a: ¬(281474976710656<Builtin.nextslicecap (jC+n) m2*i.bytes):=by omega
 have f:i.bytes≠0:=by omega
 have r:=g.cells w.drew rfl;have d:=hold w.drew rfl;rcases g.type with⟨u,hu⟩|hu
 ·simp[Builtin.append_,ad4 m,ad4 hu,sizeOf,typeInfo,zeroValue,p,l,g.len,o,a,f,Question.forced,r,d,newRow,grownCap]
  congr 2;apply apZ;simp[adV]
 ·simp[Builtin.append_,ad4 m,ad4 hu,sizeOf,typeInfo,zeroValue,p,l,g.len,o,a,f,Question.forced,r,d,newRow,grownCap]
  congr 2;apply apZ;simp[adV]
def Nr(c:aX P B ay G E w){af:List (List AV)}{z:Value}{zc:Nat}(e:TypeId)(b:z.cells.size=sz)(d: ∀el∈af,el.length=sz)(g:br G af vs)(h:Leaves vs)(a dV:Nat)(f:a=af.length):
  m0 P B ay G E (.ref E.heap.length 0 sz 0 a false) (E.push (.row 0 sz e af)) (.ok (.slice (some ⟨w.heap.size,0,none⟩) a (grownCap w a dV e))
   (w.drew.alloc (.cells (vs.toArray++Builtin.zeroCells z.cells (grownCap w a dV e-a)) e))):=by
 have i:=aAP w a dV e;refine Ho c e (post:=(Builtin.zeroCells z.cells (grownCap w a dV e-a)).toList) (by simp) d g h (cap:=grownCap w a dV e) ?_ (by omega) a f rfl c.drew;have:=g.len d;simp only[aBQ,aBi,aBo,b,this,<-f];rw[<-apQ];grind
def Wl{a b:List (List AV)}{u v:List Value}(h:br G a u)(k:br G b v):br G (a++b) (u++v):=by
 rw[br.iff,anK];exact(br.iff.1 h).append (br.iff.1 k)
def AS.Ext.eN{E:AS}{id:Nat}{ty c:TypeId}{af a:List (List AV)}{refs:Nat}(f:E.heap[id]?=some (.row ak sz ty af))(h:b9 a<=max (b9 af) refs):E.Ext (E.set id (.row b d c a) refs):=
 .set f λn e g=>by simp only[ae.le]at e⊢;omega
def anE(l:aX P B ay G E w){xt ty:TypeId}{bytes:Nat}(C:P.underlying t=some (.slice e))(h2:cw P e=some sz)(h3:yw P e=some bytes)(hz: (hY P e).isSome=true)(hb:0<bytes)
  {s v:AV} {s' x':Value} {ys:List (List AV)} {d:List Value} {E':AS} (x:an G s s') (Q:br G ys d) (lf:Leaves d) (p:Nq P w sz xt x' ys.length d)
  (h:dJ E e sz bytes s ys=some (v,E')):m0 P B ay G E v E' ((Builtin.append_ #[t,xt] ty #[s',x']).run P w):=by
 obtain⟨i,z,rfl⟩:=Wh h3;have sH:i.size=sz:=by unfold cw at h2;simpa[z]using h2
 subst sH;obtain⟨zz,hzz⟩:=asB.1 hz;obtain⟨z',_,hzv,lz,_,V⟩:=sG hzz G w;have H:=No z hzv;have F:z'.cells.size=i.size:=by
  have:cw P e=some i.size:=h2;rw[this]at V;rw[<-amj,lz.length];exact(akn V).symm
 unfold dJ at h;split at h
 ·rename_i hc;obtain⟨Wm,vD⟩:=hc;have hu:=Nk vD;split at h
  ·simp only[an]at x;subst x;split at h
   ·rename_i g;cases h;have U:d=[]:=by
     have:=Q.len hu;rw[g]at this;exact akU.1 (by simpa using this)
    rw[g]at p;have:=Dl (ty:=ty) C z p (base:=none) (jC:=0) (m2:=0) (by simp) (w':=w) (by simp) (λ_=>rfl);rw[this];exact⟨G,w,_,rfl,G.le_refl,l,by simp[an],.refl E⟩
   ·rename_i g;split at h
    ·rename_i Z;cases h;rw[Hr C z H p (by omega) (dV:=[]) (λw' _=>by simp[Builtin.firstCells]) hb (by simpa using Z)];have:=Nr (zc:=0) l e F hu Q lf ys.length 0 rfl;simpa using this
    ·cases h
  ·rename_i af;have r:=x;simp only[an]at x;obtain⟨b,o,cap,sz,vs,rfl,d1,d2,d3,hf,D,m⟩:=x;have K:=d2 trivial;subst K;split at h
   ·rename_i g;cases h;have U:d=[]:=by
     have:=Q.len hu;rw[g]at this;exact akU.1 (by simpa using this)
    rw[g]at p;have:=Dl (ty:=ty) C z p (base:=some ⟨b,o,none⟩) (jC:=af.length) (m2:=af.length) (by omega) (w':=w) (λa _=>by rw[U];simp[storeCells]) (by simp);rw[this];exact⟨G,w,_,rfl,G.le_refl,l,r,.refl E⟩
   ·rename_i g;split at h
    ·rename_i Z;obtain⟨Z,T⟩:=Z;have Y:=Nk T;cases h;have W:=m.len Y;rw[Hr C z H p (by omega) (dV:=vs) (λw' hh=>by
      simp only[Builtin.firstCells];exact run_loadCells vs W (λj u q=>by
       have:=l.bu _ _ _ (hf j u q);simp only[World.cell?,hh]at this⊢;exact this)) hb Z]
     have:=Nr (zc:=0) (af:=af++ys) l e F (λel R=>(aev.1 R).elim (Y el) (hu el)) (Wl m Q) (D.append lf) (af.length+ys.length) af.length (by simp);simpa using this
    ·cases h
  ·rename_i af;have r:=x;simp only[an]at x;obtain⟨b,o,cap,sz,vs,rfl,d1,d2,d3,hf,D,m⟩:=x;split at h
   ·rename_i g;cases h;have U:d=[]:=by
     have:=Q.len hu;rw[g]at this;exact akU.1 (by simpa using this)
    rw[g]at p;have:=Dl (ty:=ty) C z p (base:=some ⟨b,o,none⟩) (jC:=af.length) (m2:=cap) (by omega) (w':=w) (λa _=>by rw[U];simp[storeCells]) (by simp);rw[this];exact⟨G,w,_,rfl,G.le_refl,l,r,.refl E⟩
   ·cases h
  ·rename_i id ak aCb off len cD;have r:=x;simp only[an]at x;obtain⟨f,aCc,ad,cap,rfl,d1,d2,d3⟩:=x;split at h
   ·rename_i Hs sz' ty' af he;split at h
    ·rename_i hc;obtain⟨c1,c2,c3,c4,c5,c6⟩:=hc;subst c1 c2 c3;have c4:=c4.symm;subst c4;obtain⟨g1,g2,g3,c,pre,vs,post,Wn,ml,J,N,m,D⟩:=l.obj id _ he f.2;obtain⟨f1,f2,f3⟩:=d3 g1;have W:=m.len g3;have hmul:off*i.size+len*i.size<=af.length*i.size:=by rw[<-apQ];exact aml _ c5
     have I:=Q.len hu;have hold: ∀w',w'.heap=w.heap->(Builtin.firstCells i.size len (.slice (some ad) len cap)).run P w'= .ok ((vs.drop (off*i.size)).take (len*i.size)).toArray w':=by
      intro w' hh;simp only[Builtin.firstCells];by_cases h0:len=0
      ·subst h0;simp[loadCells,loadCellsFrom]
      ·rw[f2 (by omega)];refine run_loadCells _ (by simp;omega) (λj u q=>?_);have S:w'.cell? ⟨G.bf id,G.base id+off*i.size+j,none⟩=c[G.base id+off*i.size+j]?:=cell_of_row w' _ _ c e (0,0) (by rw[hh];exact Wn);rw[S];rw[anH]at q;split at q
       ·rw[alH]at q;have yH:=(adg.1 q).1;have:c.toList[G.base id+off*i.size+j]?=some u:=by
         rw[ml,afJ (by omega),adf (by omega),<-q]
         congr 1;omega
        simpa using this
       ·cases q
     have M: ∀el∈(af.drop off).take len++ys,el.length=i.size:=λel R=>(aev.1 R).elim (λh=>g3 el (aou (aiy h))) (hu el)
     have y:br G ((af.drop off).take len++ys) ((vs.drop (off*i.size)).take (len*i.size)++d):=Wl (m.slice g3) Q;have L:Leaves ((vs.drop (off*i.size)).take (len*i.size)++d):=((D.drop _).take _).append lf;have O: ((af.drop off).take len++ys).length=len+ys.length:=by simp;omega
     split at h
     ·rename_i g;cases h;have U:d=[]:=by
       rw[g]at I;exact akU.1 (by simpa using I)
      rw[g]at p;have:=Dl (ty:=ty) C z p (base:=some ad) (jC:=len) (m2:=cap) (by omega) (w':=w) (λa _=>by rw[U];simp[storeCells]) (by simp);rw[this];exact⟨G,w,_,rfl,G.le_refl,l,r,.refl E⟩
     ·rename_i g;split at h
      ·rename_i hcp;cases h;have K:=d2 hcp;rw[Hr C z H p (by omega) hold hb c6];have:=Nr (zc:=0) l e F M y L (len+ys.length) cap O.symm;simpa using this
      ·cases h;have hrefs:b9 ((af.drop off).take len++ys)<=max (b9 af) (b9 ys):=by
        rw[wT,wT (af:=af),wT (af:=ys),anK,vC,VT g3];have C:=Wa (a:=af.flatten.drop (off*i.size)) (n:=len*i.size);have h2:=Wb (a:=af.flatten) (n:=off*i.size);omega
       by_cases A:len+ys.length<=cap
       ·have Wo:=f2 (by omega);have Wp:len*i.size+d.length<=cap*i.size:=by rw[I,<-apQ];exact aml _ A
        have vE:=M8 (P:=P) d c w (G.base id+off*i.size+len*i.size) 0 Wn (by omega) lf;rw[Dl (ty:=ty) C z p (base:=some ad) A (w':=eY w (G.bf id) (.cells (lp c (G.base id+off*i.size+len*i.size) d) e (0,0))) (λa hae=>by
         cases hae;rw[Wo,jB];simpa using vE) (by simp)]
        have hle:=G.Wk id (G.bf id) (G.base id+off*i.size) (G.eD id-off*i.size);refine⟨G.eN id (G.bf id) (G.base id+off*i.size) (G.eD id-off*i.size),_,_,rfl,hle,?_,?_,.eN he hrefs⟩
        ·refine l.set f _ _ hle rfl rfl (λj _ q=>by simp[Gh.eN,q]) (.inl (by simp[Gh.eN])) (by simp[Gh.eN];exact(l.low id f).2) (λk hk _=>VL hk) (by simp) rfl rfl rfl ?_;refine⟨by simp[Gh.eN,g1],by simp[Gh.eN,g2],M,lp c (G.base id+off*i.size+len*i.size) d,pre++vs.take (off*i.size),(vs.drop (off*i.size)).take (len*i.size)++d,
          (vs++post).drop (off*i.size+(len*i.size+d.length)),?_,?_,?_,?_,y.mono hle,L⟩
         ·have: (G.eN id (G.bf id) (G.base id+off*i.size) (G.eD id-off*i.size)).bf id=G.bf id:=by simp[Gh.eN]
          rw[this];exact vz (l.low id f).2
         ·rw[Hg _ _ _ (by omega),ml,<-J,akl];rw[axZ,aes (by omega:pre.length<=pre.length+(off*i.size+len*i.size)),ahB,aw3 (by omega)];rw[akl pre.length,aw4,ahp (by omega:pre.length<=pre.length+(off*i.size+len*i.size+d.length)),ahB,ahm];rw[List.take_add];simp[akl]
         ·simp[Gh.eN,J];omega
         ·simp[Gh.eN,N];omega
        ·refine⟨f,by simp[Gh.eN,g1],ad,cap,rfl,⟨A,d1.2⟩,by simp,λ_=>⟨by simp[Gh.eN,g2],λ_=>by simp[Gh.eN,Wo],by simp[Gh.eN];omega⟩⟩
       ·rw[Hr C z H p (by omega) hold hb c6];have hg:=aAP w (len+ys.length) cap e;have hle:=G.Wk id w.heap.size 0 (grownCap w (len+ys.length) cap e*i.size);have Wq:=(l.low id f).2;refine⟨G.eN id w.heap.size 0 (grownCap w (len+ys.length) cap e*i.size),_,_,rfl,hle,?_,?_,.eN he hrefs⟩
        ·refine l.set f _ _ hle rfl rfl (λj _ q=>by simp[Gh.eN,q]) (.inr (by simp[Gh.eN])) (by simp[Gh.eN]) (λk hk yH=>heap_alloc_old w.drew _ k yH) (by simp) rfl rfl rfl ?_;refine⟨by simp[Gh.eN,g1],by simp[Gh.eN,g2],M,((vs.drop (off*i.size)).take (len*i.size)).toArray++d.toArray++Builtin.zeroCells z'.cells (grownCap w (len+ys.length) cap e- (len+ys.length)),[],(vs.drop (off*i.size)).take (len*i.size)++d,(Builtin.zeroCells z'.cells (grownCap w (len+ys.length) cap e- (len+ys.length))).toList,?_,?_,by simp[Gh.eN],?_,y.mono hle,L⟩
         ·have: (G.eN id w.heap.size 0 (grownCap w (len+ys.length) cap e*i.size)).bf id=w.heap.size:=by simp[Gh.eN]
          rw[this];exact apV w.drew _
         ·simp
         ·have hvn: ((vs.drop (off*i.size)).take (len*i.size)).length=len*i.size:=by simp;omega
          simp only[aBQ,aBi,aBo,F,hvn,I,Gh.eN,ag6];rw[<-apQ,<-apQ,ak4];congr 1;omega
        ·refine⟨f,by simp[Gh.eN,g1],_,_,rfl,⟨hg,rfl⟩,by simp,λ_=>⟨by simp[Gh.eN,g2],λ_=>by simp[Gh.eN],by simp[Gh.eN]⟩⟩
    ·cases h
   ·cases h
  ·cases h
 grind
end
section
variable{P:Program}{X:Ctx}{B:Nat}{ay:World}
variable{G:Gh}{E:AS}{w:World}
def anL(i:aX P B ay G E w){d ty j:TypeId}{bytes:Nat}(z:P.underlying t=some (.slice e))(c:P.underlying d=some (.slice j))(y:cw P e=some sz)(u:yw P e=some bytes)(m: (hY P e).isSome=true)(r:0<bytes)
  {s v x:AV} {g f:Value} {ys:List (List AV)} {k:AS} (p:an G s g) (o:an G x f) (n:elems E sz x=some ys) (h:dJ E e sz bytes s ys=some (v,k)):
  m0 P B ay G E v k ((Builtin.append_ #[t,d] ty #[g,f]).run P w):=by
 obtain⟨vs,q,l,hu,b,⟨a,cap,rfl,_⟩,C⟩:=V9 i o n;refine anE i z y u m r p q l ⟨by rfl,λw' A=>?_,.inl ⟨j,c⟩⟩ h
 grind
def anM(l:lB):br G (l.map λx=>[AV.int .u8 x.toNat]) (l.map λx=>Value.int .u8 x.toNat):=by
 induction l with
 |nil=>rfl
 |cons x xs a=>exact⟨[_],_,rfl,by simp[aF,an],a⟩
def Wr{a:EK}(h:AO P t=some a): ∃u,P.underlying t=some u/\kindOk a u/\ (a= .bool\/a= .int\/a= .str):=by
 unfold AO at h;split at h
 ·rename_i hu;cases h;exact⟨_,hu,rfl,.inl rfl⟩
 ·rename_i hu;cases h;exact⟨_,hu,⟨_,rfl⟩,.inr (.inl rfl)⟩
 ·rename_i hu;cases h;exact⟨_,hu,rfl,.inr (.inr rfl)⟩
 grind
def Ws{a:EK}{k:AV}(h:lj a k=true):isKey k=true:=by
 cases a<;>cases k<;>simp[lj]at h<;>rfl
def Ht{g:EK}{u:TypeDesc}{k d:AV}{k' a:Value}{b:Bool}(j:lj g k=true)(i:kindOk g u)(m:an G k k')(l:an G d a)(h:pO k d=some b):
  Instr.sameNow u k' a=some b/\ (b=true->Instr.sameBits 10000 a k'=true):=by
 unfold pO at h;split at h
 ·split at h
  ·rename_i e;subst e;cases h;subst m l;cases g<;>simp[lj]at j;obtain⟨q,rfl⟩:=i;refine⟨by simp[Instr.sameNow],λf=>?_⟩;have c:=eq_of_beq f;subst c;simp[Instr.sameBits]
  grind
 ·cases h;subst m l;cases g<;>simp[lj]at j;subst i;refine⟨by rfl,λf=>?_⟩;rw[beq_toListBytes]at f;have c:=eq_of_beq f;simp only[Instr.sameBits];rw[beq_toListBytes,c];simp
 ·cases h;subst m l;cases g<;>simp[lj]at j;simp only[kindOk]at i;subst i;refine⟨by rfl,λf=>?_⟩;have c:=eq_of_beq f;subst c;simp[Instr.sameBits]
 grind
theorem Ns{g:EK}{u:TypeDesc}{k:AV}{k':Value}(d:lj g k=true)(c:kindOk g u)(e:an G k k'): ∀ (es:List (AV×AV)) (ms:List MapEntry) (i:Nat) (r:Option AV),fR G es ms->eC k es=some r->
  match r with
  |none=>Instr.findNow u k' ms i=some none
  |some v=> ∃j v',Instr.findNow u k' ms i=some (some (j,v'))/\an G v v'
 | [],ms,i,r,hm,h=>by
   subst hm;simp only[eC,adT]at h;subst h;simp[Instr.findNow]
 | (k₂,f)::es,ms,i,r,hm,h=>by
   obtain⟨m,q,rfl,_,a,b,hm⟩:=hm;simp only[eC]at h;split at h
   ·rename_i he;cases h;have:=(Ht d c e a he).1;exact⟨i,m.val,by simp[Instr.findNow,this],b⟩
   ·rename_i he;have n:=(Ht d c e a he).1;have l:=Ns d c e es q (i+1) r hm h;cases r with
    |none=>simpa[Instr.findNow,n]using l
    |some v=>simpa[Instr.findNow,n]using l
   grind
def anN{u:TypeDesc}(h:P.underlying t=some u)(a:u= .bool\/ (∃k,u= .int k)\/u= .string)(b:Bool)(n:Nat)(v:Value)(w:World): (Instr.checkKey b (n+1) t v).run P w= .ok () w:=by
 rcases a with rfl| ⟨q,rfl⟩|rfl<;>simp[Instr.checkKey,ad4 h]
def Nt{a:EK}{u:TypeDesc}(h:P.underlying t=some u)(d:kindOk a u)(c:a= .bool\/a= .int\/a= .str)(b:Bool)(v:Value)(w:World): (Instr.checkKey b 10000 t v).run P w= .ok () w:=by
 refine anN h ?_ b 9999 v w;rcases c with rfl|rfl|rfl
 ·exact .inl d
 ·exact .inr (.inl d)
 ·exact .inr (.inr d)
def anO(O:aX P B ay G E w){X:Ctx}(R:fH X B ay){M J:TypeId}{N:EK}{z:AV}(I:P.underlying t=some (.map M J))(T:AO P M=some N)(S:yx P J=some z){m k v:AV}{m' k':Value}{d:Bool}(y:an G m m')(Q:an G k k')
  (h:jz X.fZ E N z m k d=some v): ∃v',(Instr.lookup t m' k' d).run P w= .ok v' w/\an G v v':=by
 obtain⟨u,hu,o,H⟩:=Wr T;obtain⟨K,V,_,rz⟩:=Nf S G w;unfold jz at h;split at h
 ·rename_i n;split at h
  ·rename_i es a;obtain⟨c,ms,F,A,f⟩: ∃ (c:List (AV×AV)) (ms:Array MapEntry),(m'= .map none/\ms= #[]\/ ∃r clock,m'= .map (some r)/\w.heap[r]?=some (.map ms clock))/\fR G c ms.toList/\ ∀k v,eC k es=some v->eC k c=some v:=by
    unfold mapOf at a;split at a
    ·cases a;simp only[an]at y;subst y;exact⟨[],#[],.inl ⟨rfl,rfl⟩,by simp[fR],λ_ _ h=>h⟩
    ·rename_i g;obtain⟨c,r,ms,clock,e1,Z,e3,Y⟩:=R.amR O a y;exact⟨c,ms,.inr ⟨r,clock,e1,Z⟩,e3,Y⟩
    ·rename_i id;split at a
     ·rename_i c he;cases a;obtain⟨U,ms,clock,C,i⟩:=O.obj id _ he y.He;simp only[an]at y;obtain⟨_,r,rfl,D⟩:=y;have W:=D U;subst W;exact⟨_,ms,.inr ⟨_,clock,rfl,C⟩,i,λ_ _ h=>h⟩
     ·cases a
    ·cases a
   have ai: ∀ (r:Option (Nat×Value)) (v:Value),Instr.findNow u k' ms.toList 0=some r->(match r with|some (_,x)=>v=x|none=>(zeroValue J).run P w= .ok v w)->
     (Instr.lookup t m' k' d).run P w= .ok (if d then .tuple #[v,.bool r.isSome]else v) w:=by
    intro r v l i;have s:=λb=>Nt hu o H b k' w
    rcases F with⟨rfl,rfl⟩| ⟨q,clock,rfl,C⟩
    ·cases r with
     |none=>simp only at i;cases d<;>simp[Instr.lookup,ad4 I,s,Instr.findKey,ad4 hu]<;>(simp at l;simp[l,i])
     |some p=>obtain⟨j,x⟩:=p;simp only at i;subst i;simp[Instr.findNow]at l
    ·cases r with
     |none=>simp only at i;cases d<;>simp[Instr.lookup,ad4 I,s,Instr.findKey,ad4 hu,i,getObj,Sem.run,C,l]
     |some p=>obtain⟨j,x⟩:=p;simp only at i;subst i;cases d<;>simp[Instr.lookup,ad4 I,s,Instr.findKey,ad4 hu,getObj,Sem.run,C,l]
   split at h
   ·rename_i L l;cases h;obtain⟨j,v',e,rv⟩:=Ns n o Q c ms.toList 0 _ A (f _ _ l);refine⟨if d then .tuple #[v',.bool true]else v',?_,?_⟩
    ·exact ai _ _ e rfl
    ·cases d
     ·exact rv
     ·exact⟨_,rfl,⟨_,_,rfl,rv,⟨_,_,rfl,by simp[an],by simp[aF]⟩⟩⟩
   ·rename_i l;cases h;have e:=Ns n o Q c ms.toList 0 _ A (f _ _ l);refine⟨if d then .tuple #[K,.bool false]else K,?_,?_⟩
    ·exact ai _ _ e V
    ·cases d
     ·exact rz
     ·exact⟨_,rfl,⟨_,_,rfl,rz,⟨_,_,rfl,by simp[an],by simp[aF]⟩⟩⟩
   grind
  grind
 grind
theorem Wt{x:EK}{u:TypeDesc}{k v:AV}{k' v':Value}(g:lj x k=true)(r:kindOk x u)(n:an G k k')(p:an G v v'): ∀ (es b:List (AV×AV)) (ms:List MapEntry) (i:Nat),fR G es ms->mf k v es=some b->
  (Instr.findNow u k' ms i=some none/\ ∀born,fR G b (ms++[{key:=k',val:=v',born}]))\/
  ∃j a m,Instr.findNow u k' ms i=some (some (i+j,a))/\ms[j]?=some m/\Instr.sameBits 10000 m.key k'=true/\fR G b (ms.modify j λe=>{e with key:=k',val:=v'})
 | [],b,ms,i,hm,h=>by
   subst hm;simp only[mf,adT]at h;subst h;exact .inl ⟨by rfl,λborn=>⟨_,_,rfl,Ws g,n,p,by rfl⟩⟩
 | (k₂,t)::es,b,ms,i,hm,h=>by
   simp only[fR]at hm;obtain⟨m,q,rfl,l,c,f,hm⟩:=hm;simp only[mf]at h;split at h
   ·rename_i he;cases h;obtain⟨o,z⟩:=Ht g r n c he;refine .inr ⟨0,m.val,m,by simp[Instr.findNow,o],rfl,z rfl,?_⟩;exact⟨_,_,rfl,Ws g,n,p,hm⟩
   ·rename_i he;obtain⟨o,_⟩:=Ht g r n c he;cases y:mf k v es with
    |none=>grind
    |some d=>
     simp only[y,afG,adT]at h;subst h;rcases Wt g r n p es d q (i+1) hm y with⟨e1,s⟩| ⟨j,a,m',e1,s,e3,A⟩
     ·refine .inl ⟨by simpa[Instr.findNow,o]using e1,λborn=>⟨_,_,rfl,l,c,f,s born⟩⟩
     ·refine .inr ⟨j+1,a,m',?_,by simpa using s,e3,?_⟩
      ·simp only[Instr.findNow,o];rw[e1];congr 3;omega
      ·simp only[List.modify_succ_cons];exact⟨_,_,rfl,l,c,f,A⟩
   grind
theorem Wu{k v:AV}{n:Nat}: ∀ {es a:List (AV×AV)},mf k v es=some a->(∀p∈es,p.2.refs<=n)->v.refs<=n-> ∀p∈a,p.2.refs<=n
 | [],a,h,_,f=>by
   simp only[mf,adT]at h;grind
 | (k₂,e)::es,a,h,c,f=>by
   simp only[mf]at h;split at h
   ·grind
   ·cases g:mf k v es with
    |none=>grind
    |some d=>
     simp only[g,afG,adT]at h;subst h;intro p b;rcases ag7.1 b with rfl|b
     ·simp_all
     ·exact Wu g (λp h=>c p (by grind)) f p b
   grind
def anP(d:aX P B ay G E w){A O:TypeId}{C:EK}(H:P.underlying t=some (.map A O))(N:AO P A=some C){m k v:AV}{m' k':Value}{I:AS}(o:an G m m')(M:an G k k')(J:an G v v')
  (h:mY E C m k v=some I):AY P B ay G E I ((Instr.mapUpdate t m' k' v').run P w):=by
 obtain⟨u,hu,b,g⟩:=Wr N;unfold mY at h;split at h
 ·rename_i i;split at h
  ·rename_i id;split at h
   ·rename_i es he;split at h
    ·rename_i l D;cases h;obtain⟨s,ms,clock,F,K⟩:=d.obj id _ he o.He;have c:G.on id:=⟨by rw[d.len];grind,o.He⟩;simp only[an]at o;obtain⟨_,r,rfl,q⟩:=o;rw[q s];have a:E.Ext (E.set id (.map l) v.refs):=.set he λn L p=>Wu D L p
     have f:=(d.low id c).2;rcases Wt i b M J es l ms.toList 0 K D with⟨e1,y⟩| ⟨j,z,m',e1,y,e3,Q⟩
     ·refine⟨G,eY w (G.bf id) (.map (ms.push {key:=k',val:=v',born:=clock}) (clock+1)),?_,G.le_refl,d.put c _ ⟨s,_,_,vz f,by simpa using y clock⟩,a⟩;simp[Instr.mapUpdate,ad4 H,getObj,setObj,Sem.run,F,Nt hu b g,Instr.findKey,ad4 hu,e1,eY]
     ·rw[ak4]at e1;have x:ms[j]?=some m':=by simpa using y
      refine⟨G,eY w (G.bf id) (.map (ms.modify j λe=>{e with key:=k',val:=v'}) clock),?_,G.le_refl,d.put c _ ⟨s,_,_,vz f,by simpa using Q⟩,a⟩;simp[Instr.mapUpdate,ad4 H,getObj,setObj,Sem.run,F,Nt hu b g,Instr.findKey,ad4 hu,e1,eY,Instr.keyThatStays,x,e3]
    grind
   grind
  grind
 grind
end
section
variable{P:Program}{X:Ctx}{B:Nat}{ay:World}
variable{G:Gh}{E:AS}{w:World}
def Nu{a a':Addr}{b:List Value}(h:b=[]\/a=a'):storeCells a b=storeCells a' b:=by
 rcases h with rfl|rfl
 ·rfl
 ·rfl
def Wv{af:List (List AV)}:b9 (af.take n)<=b9 af:=by
 induction af generalizing n with
 |nil=>simp
 |cons x xs a=>
  cases n with
  |zero=>simp[b9]
  |succ n=>simp only[aqf,b9];grind
def Ww(f:aX P B ay G E w){id:Nat}{ty:TypeId}{af b:List (List AV)}(g:E.heap[id]?=some (.row ak sz ty af))(e:G.pz id=none){d:List Value}{off:Nat}(m:br G b d)(i:Leaves d)(k: ∀el∈b,el.length=sz)(h:off+b.length<=af.length)
  {refs:Nat} (l:b9 b<=refs) {a:Addr} (p:d=[]\/a=⟨G.bf id,G.base id+off*sz,none⟩):
  AY P B ay G E (E.set id (.row ak sz ty (af.take off++(b++af.drop (off+b.length)))) refs) ((storeCells a d).run P w):=by
 rw[Nu p];obtain⟨_,_,c,_⟩:=f.obj id _ g e;have n:=pU c;have j:=pU k;have hm:off*sz+b.length*sz<=af.length*sz:=by rw[<-apQ];exact aml _ h
 refine Wg f g e (br.iff.1 m) i (by omega) (λel o=>?_) ?_ (by rw[<-wT];exact l)
 ·grind
 ·rw[anK,anK,Hk c,Nb c];unfold aM
  grind
def anQ(r:aX P B ay G E w){st ty:TypeId}(J:P.underlying t=some (.slice e))(h2:cw P e=some sz){d s v:AV}{K y:Value}{E':AS}(u:an G d K)(N:an G s y)(h:sy E sz d s=some (v,E')):
  m0 P B ay G E v E' ((Builtin.copy_ #[t,st] ty #[K,y]).run P w):=by
 obtain⟨i,hi,rfl⟩:=Wi h2;unfold sy at h;split at h
 ·rename_i ys q;have src: ∃vs,br G ys vs/\Leaves vs/\ (∀el∈ys,el.length=i.size)/\ (Builtin.lenOf y).run P w= .ok ys.length w/\ ∀n,n<=ys.length->(Builtin.firstCells i.size n y).run P w= .ok (vs.take (n*i.size)).toArray w:=by
   unfold C8 at q;split at q
   ·rename_i b;split at q
    ·rename_i J;cases q;simp only[an]at N;subst N;refine⟨b.data.toList.map λx=>Value.int .u8 x.toNat,anM _,?_,?_,by simp[Builtin.lenOf,sx],λn hn=>?_⟩
     ·intro v Z;simp only[afH]at Z;obtain⟨x,_,rfl⟩:=Z;rfl
     ·intro el f;simp only[sx,afH]at f;obtain⟨x,_,rfl⟩:=f;rw[J];rfl
     ·rw[J];simp only[Builtin.firstCells,Sem.run_pure]
      congr 1
      apply apZ;simp[]
    ·cases q
   ·obtain⟨vs,I,F,hu,H,⟨a,cap,rfl,_⟩,S⟩:=V9 r N q;exact⟨vs,I,F,hu,by simp[Builtin.lenOf],λn hn=>S w rfl n hn⟩
  obtain⟨vs,I,F,hu,R,S⟩:=src;have key: ∀ (base:Option Addr) (c m:Nat),K= .slice base c m->(Builtin.copy_ #[t,st] ty #[K,y]).run P w=
    ((match base with|some b=>storeCells b (vs.take (Nat.min ys.length c*i.size))|none=>pure ():Sem Unit).run P w).andThen λ_ w'=>.ok (goInt (Nat.min ys.length c)) w':=by
   rintro base c m rfl;have:=S (Nat.min ys.length c) (Nat.min_le_left _ _);cases base<;>simp[Builtin.copy_,ad4 J,R,sizeOf,typeInfo,hi,this]
  split at h
  ·cases h;simp only[an]at u;rw[key none 0 0 u];exact⟨G,w,_,rfl,G.le_refl,r,by simp[an,goInt],.refl E⟩
  ·rename_i id ak L off len cD;split at h
   ·rename_i W M ty' af he;split at h
    ·rename_i T;obtain⟨U,c2,c3,c4⟩:=T;subst U c2 c3;cases h;simp only[an]at u;obtain⟨g,Y,D,k,e1,d1,d2,d3⟩:=u;obtain⟨f1,f2,f3⟩:=d3 (r.obj id _ he g.2).1;rw[key (some D) len k e1];have Q:Nat.min ys.length len<=ys.length:=Nat.min_le_left ys.length len;have C:Nat.min ys.length len<=len:=Nat.min_le_right ys.length len;have z: (ys.take (Nat.min ys.length len)).length=Nat.min ys.length len:=by rw[afS];omega
     have p:br G (ys.take (Nat.min ys.length len)) (vs.take (Nat.min ys.length len*i.size)):=by
      have:=I.slice (l:=0) (n:=Nat.min ys.length len) hu;simpa using this
     obtain⟨V,w',O,hle,o,j⟩:=Ww r he g.2 p (F.take _) (λel f=>hu el (aiy f)) (off:=off) (by omega) (refs:=b9 ys) Wv (a:=D) (by
      by_cases h0:len=0
      ·left;have:Nat.min ys.length len=0:=by omega
       rw[this];simp
      ·right;rw[f2 (by omega)])
     rw[O,z]at*;exact⟨V,w',_,rfl,hle,o,by simp[an,goInt],j⟩
    ·cases h
   ·cases h
  ·rename_i id M off len;split at h
   ·rename_i cs he;split at h
    ·rename_i T;obtain⟨U,c2,c3⟩:=T;subst U;cases h;simp only[an]at u;obtain⟨g,D,k,e1,d1,d2⟩:=u;rw[key (some D) len k e1];have Q:Nat.min ys.length len<=ys.length:=Nat.min_le_left ys.length len;have C:Nat.min ys.length len<=len:=Nat.min_le_right ys.length len;have z: (ys.take (Nat.min ys.length len)).flatten.length=Nat.min ys.length len*i.size:=by rw[pU λel f=>hu el (aiy f),afS];congr 1;omega
     have p:aF G (ys.take (Nat.min ys.length len)).flatten (vs.take (Nat.min ys.length len*i.size)):=by
      rw[Hk hu];exact(br.iff.1 I).take _
     have hmm:Nat.min ys.length len*i.size<=len*i.size:=aml _ C;have A:=Nn r he g.2 p (F.take _) (off:=off) (by omega) (refs:=b9 ys) (by rw[<-wT];exact Wv);simp only;rw[Nu (a:=D) (a':=⟨G.bf id,off,none⟩) (by
      by_cases h0:len=0
      ·left;have:Nat.min ys.length len=0:=by omega
       rw[this];simp
      ·right;exact d2 (AU r he g.2).1 (by omega))]
     obtain⟨V,w',O,hle,o,j⟩:=A;rw[O];exact⟨V,w',_,rfl,hle,o,by simp[an,goInt],j⟩
    ·cases h
   ·cases h
  grind
 grind
def anR(zc:Array Value)(k:Nat): (Builtin.zeroCells zc k).toList=(List.replicate k zc.toList).flatten:=by
 unfold Builtin.zeroCells;rw[Array.toList_map,Array.toList_range];by_cases a:0<zc.size
 ·exact Hp zc a k
 simp_all
def anS(l:aX P B ay G E w){ty:TypeId}{z:List AV}(v:P.underlying t=some (.slice e))(Q:hY P e=some z){x:AV}{p:Value}{K:AS}(j:an G x p)(h:sA E z x=some K):
  m0 P B ay G E .undef K ((Builtin.clear_ #[t] ty #[p]).run P w):=by
 obtain⟨D,R,_,lz,k,_⟩:=sG Q G w;have key: ∀ (a:Addr) (n c:Nat),p= .slice (some a) n c->(Builtin.clear_ #[t] ty #[p]).run P w=
   ((storeCells a (List.replicate n D.cells.toList).flatten).run P w).andThen λ_ w'=>.ok (.tuple #[]) w':=by
  rintro a n c rfl;cases n with
  |zero=>simp[Builtin.clear_,ad4 v,storeCells]
  |succ n=>
   have:=anR D.cells (n+1);simp only[Builtin.clear_];simp[ad4 v,R,<-this]
 unfold sA at h;split at h
 ·cases h;simp only[an]at j;subst j;exact⟨G,w,.tuple #[],by simp[Builtin.clear_,ad4 v],G.le_refl,l,⟨_,rfl,by simp[aF]⟩,.refl E⟩
 ·rename_i id ak q off len cD;split at h
  ·rename_i F M L af he;split at h
   ·rename_i u;obtain⟨A,J,I,S,T⟩:=u;subst A J I;cases h;simp only[an]at j;obtain⟨d,H,o,f,e1,d1,d2,d3⟩:=j;obtain⟨f1,f2,f3⟩:=d3 (l.obj id _ he d.2).1;rw[key o len f e1];obtain⟨C,w',s,hle,g,b⟩:=Ww l he d.2 (Dk lz len) (Hq k len) (λel i=>by rw[asR i]) (off:=off) (by simpa using S) (refs:=0) (by
      rw[wT];have: ∀n,aK (List.replicate n z).flatten<=0:=by
       intro n
       induction n with
       |zero=>simp[aK]
       |succ n N=>simp only[ar7,aoW,vC];omega
      exact this len) (a:=o) (by
     by_cases y:len=0
     ·left;rw[y];simp
     ·right;rw[f2 (by omega)])
    rw[s];rw[List.length_replicate]at g b;exact⟨C,w',_,rfl,hle,g,⟨_,rfl,by simp[aF]⟩,b⟩
   ·cases h
  ·cases h
 ·rename_i id sz off len;split at h
  ·rename_i cs he;split at h
   ·rename_i u;obtain⟨A,J,I⟩:=u;subst A;cases h;simp only[an]at j;obtain⟨d,o,f,e1,d1,d2⟩:=j;rw[key o len f e1];have r:=Dk lz len;have O: (List.replicate len z).flatten.length=len*z.length:=by rw[pU (sz:=z.length) λel i=>by rw[asR i]];simp
    have m:=Nn l he d.2 (br.iff.1 r) (Hq k len) (off:=off) (by omega) (refs:=0) (by
     have: ∀n,aK (List.replicate n z).flatten<=0:=by
      intro n
      induction n with
      |zero=>simp[aK]
      |succ n N=>simp only[ar7,aoW,vC];omega
     exact this len)
    rw[Nu (a:=o) (a':=⟨G.bf id,off,none⟩) (by
     by_cases y:len=0
     ·left;rw[y];simp
     ·right;exact d2 (AU l he d.2).1 (by omega))]
    obtain⟨C,w',s,hle,g,b⟩:=m;rw[s];exact⟨C,w',_,rfl,hle,g,⟨_,rfl,by simp[aF]⟩,b⟩
   ·cases h
  ·cases h
 grind
def aCf(d:P.cellsOf e=1)(a off n:Nat)(c:off+n<=a):liesAt P P.depth e a off e n=true:=by
 have b:P.depth=(2*(P.types.size+Made.depth)+1)+1:=rfl;rw[b];simp only[liesAt,aos];rw[b];simp[rowAt,d,c,sameLayout,Nat.mod_one]
theorem anT{w:World}: ∀ (a:List Int) (b o:Nat) (acc:ByteArray),(∀ (j:Nat) (u:Value),(a.map (Value.int .u8))[j]?=some u->w.cell? ⟨b,o+j,none⟩=some u)->
  (loadBytes ⟨b,o,none⟩ acc a.length).run P w= .ok ⟨acc.data++(a.map λn=>UInt8.ofNat n.toNat).toArray⟩ w
 | [],b,o,acc,_=>by rfl
 |n::a,b,o,acc,h=>by
  have c:w.cell? ⟨b,o,none⟩=some (.int .u8 n):=by
   have:=h 0 (.int .u8 n) rfl;omega
  have d:=anT a b (o+1) (acc.push n.toNat.toUInt8) (λj u e=>by
   have:=h (j+1) u (by grind);rw[show o+1+j=o+(j+1) by omega];omega)
  simp only[afL,loadBytes,Sem.run_bind,run_load,c,Result.andThen_ok,jB];simp_all
def aCg(w:World)(a:Addr)(n:Nat): (w.freeze a n).heap.size=w.heap.size:=by
 unfold World.freeze;grind
def aCh{w:World}{a:Addr}(h:k≠a.block): (w.freeze a n).heap[k]?=w.heap[k]?:=by
 unfold World.freeze
 grind
def aCi(w:World)(a:Addr)(n:Nat): (w.freeze a n).os=w.os/\ (w.freeze a n).tape=w.tape/\ (w.freeze a n).output=w.output:=by
 unfold World.freeze;grind
end
section
variable{P:Program}{X:Ctx}{B:Nat}{ay:World}
variable{G:Gh}{E:AS}{w:World}
def fI{s:Sem Value}{v:AV}(hw:aX P B ay G E w)(h: ∃v',s.run P w= .ok v' w/\an G v v'):Good P B ay G E v E ((do pure (.value (<-s)):Sem Next).run P w):=by
 obtain⟨v',e,r⟩:=h;simp only[Sem.run_bind,e,Result.andThen_ok,Sem.run_pure];exact .same hw r
def sJ{s:Sem Value}{v:AV}{b:AS}(h:m0 P B ay G E v b (s.run P w)):Good P B ay G E v b ((do pure (.value (<-s)):Sem Next).run P w):=by
 obtain⟨i,w',v',e,g,f,d,c⟩:=h;simp only[Sem.run_bind,e,Result.andThen_ok,Sem.run_pure];exact⟨i,w',v',.inl rfl,g,f,d,c⟩
def Wx{s:Sem Unit}{b:AS}(h:AY P B ay G E b (s.run P w)):Good P B ay G E .undef b ((do s;pure .skip:Sem Next).run P w):=by
 obtain⟨g,w',e,f,d,c⟩:=h;simp only[Sem.run_bind,e,Result.andThen_ok,Sem.run_pure];exact⟨g,w',undef,.inr ⟨rfl,rfl⟩,f,d,⟨#[],rfl,by rfl⟩,c⟩
def eF{E b:AS}{o:Option AV}{v:AV}(h:ga E o=some (.ok v b)):o=some v/\b=E:=by
 cases o with
 |none=>trivial
 |some a=>simp[ga]at h;grind
def yI{e:Env}(he:cK G nt e a.tmps){x:Option Operand}{y:Option ao}(h:vu x=some y):mj G (y.map (·.get e)) (x.map a.eval):=by
 cases x with
 |none=>simp only[vu,adT]at h;subst h;simp[mj]
 |some x=>
  simp only[vu]at h;cases b:bK x with
  |none=>grind
  |some z=>simp[b]at h;subst h;exact⟨_,rfl,cz he b⟩
def Wy{x:Option Operand}{y:Option ao}(h:vu x=some y):y.isNone=x.isNone:=by
 cases x with
 |none=>simp only[vu,adT]at h;grind
 |some x=>
  simp only[vu]at h;cases b:bK x with
  |none=>grind
  |some z=>grind
def I.plain:I->Bool
 |.call .. |.panic _=>false
 |_=>true
section
variable(hw:aX P B ay G E w)(hg:fH X B ay){nt:Nat}{e:Env}{a:Act}(he:cK G nt e a.tmps)(C:bz)
include hw hg he
omit hg in
theorem anU{f:TypeId}{c:Call}{i:I}(h:Db P f c=some i)(T:i.plain=true){v:AV}{Q:AS}(j:exec X C i e E=some (.ok v Q)):
  Good P B ay G E v Q ((do let d<-resolve a.eval c f;invoke d.target d.args:Sem Next).run P w):=by
 obtain⟨callee,args,argTypes⟩:=c;unfold Db at h;split at h
 case h_1=>
  split at h
  ·cases h;simp[I.plain]at T
  ·cases h
 case h_2 t x l n o=>
  simp only at l n o;subst l;have q:args= #[x]:=by apply apZ;simpa using o
  have p:argTypes= #[t]:=by apply apZ;simpa using n
  subst q p;have g: (do let d<-resolve a.eval ⟨.builtin .len,#[x],#[t]⟩ f;invoke d.target d.args:Sem Next)=(do pure (.value (<-Builtin.len_ #[t] f ((#[x]:Array Operand).map a.eval)))):=rfl;rw[g,show(#[x]:Array Operand).map a.eval= #[a.eval x] by simp];split at h
  ·rename_i hu;cases ho:bK x with
   |none=>simp[ho]at h
   |some y=>
    simp only[ho,afG,adT]at h;subst h;obtain⟨m,rfl⟩:=eF j;exact fI hw (Ni (k:=.str) hw hu rfl (cz he ho) m)
  ·rename_i hu;cases ho:bK x with
   |none=>simp[ho]at h
   |some y=>
    simp only[ho,afG,adT]at h;subst h;obtain⟨m,rfl⟩:=eF j;exact fI hw (Ni (k:=.sl) hw hu ⟨_,rfl⟩ (cz he ho) m)
  ·rename_i hu;cases ho:bK x with
   |none=>simp[ho]at h
   |some y=>
    simp only[ho,afG,adT]at h;subst h;obtain⟨m,rfl⟩:=eF j;exact fI hw (Ni (k:=.map) hw hu ⟨_,_,rfl⟩ (cz he ho) m)
  ·cases h
 case h_3 st A s x l n o=>
  simp only at l n o;subst l;have q:args= #[s,x]:=by apply apZ;simpa using o
  have p:argTypes= #[st,A]:=by apply apZ;simpa using n
  subst q p;have g: (do let d<-resolve a.eval ⟨.builtin .append,#[s,x],#[st,A]⟩ f;invoke d.target d.args:Sem Next)=(do pure (.value (<-Builtin.append_ #[st,A] f ((#[s,x]:Array Operand).map a.eval)))):=rfl;rw[g,show(#[s,x]:Array Operand).map a.eval= #[a.eval s,a.eval x] by simp];split at h
  ·rename_i el hu;split at h
   ·rename_i sz b R W K J H F;split at h
    ·rename_i V D;split at h
     ·rename_i O;cases h;simp only[exec]at j;split at j
      ·rename_i ys S;split at j
       ·rename_i v' u L;cases j;exact sJ (anL hw hu D K J O.2 O.1 (cz he H) (cz he F) S L)
       ·cases j
      ·cases j
     ·cases h
    ·cases h
   ·cases h
  ·cases h
 case h_4 N st d s l n o=>
  simp only at l n o;subst l;have q:args= #[d,s]:=by apply apZ;simpa using o
  have p:argTypes= #[N,st]:=by apply apZ;simpa using n
  subst q p;have g: (do let d<-resolve a.eval ⟨.builtin .copy,#[d,s],#[N,st]⟩ f;invoke d.target d.args:Sem Next)=(do pure (.value (<-Builtin.copy_ #[N,st] f ((#[d,s]:Array Operand).map a.eval)))):=rfl;rw[g,show(#[d,s]:Array Operand).map a.eval= #[a.eval d,a.eval s] by simp];split at h
  ·rename_i el hu;split at h
   ·rename_i sz Y R m M U;cases h;simp only[exec]at j;split at j
    ·rename_i v' u r;cases j;exact sJ (anQ hw hu m (cz he M) (cz he U) r)
    ·cases j
   ·cases h
  ·cases h
 case h_5 t x l n o=>
  simp only at l n o;subst l;have q:args= #[x]:=by apply apZ;simpa using o
  have p:argTypes= #[t]:=by apply apZ;simpa using n
  subst q p;have g: (do let d<-resolve a.eval ⟨.builtin .clear,#[x],#[t]⟩ f;invoke d.target d.args:Sem Next)=(do pure (.value (<-Builtin.clear_ #[t] f ((#[x]:Array Operand).map a.eval)))):=rfl;rw[g,show(#[x]:Array Operand).map a.eval= #[a.eval x] by simp];split at h
  ·rename_i el hu;split at h
   ·rename_i z y m M;cases h;simp only[exec]at j;split at j
    ·rename_i u r;cases j;exact sJ (anS hw hu m (cz he M) r)
    ·cases j
   ·cases h
  ·cases h
 case h_6 xs l=>
  simp only at l;subst l;have g: (do let d<-resolve a.eval ⟨.builtin .max,args,argTypes⟩ f;invoke d.target d.args:Sem Next)=(do pure (.value (<-Builtin.max_ argTypes f (args.map a.eval)))):=rfl;rw[g];split at h
  ·cases ho:oz args.toList with
   |none=>simp[ho]at h
   |some ys=>
    simp only[ho,afG,adT]at h;subst h;obtain⟨m,rfl⟩:=eF j;exact fI hw (ann (by simpa using yB he ho) m w)
  ·cases h
 case h_7 xs l=>
  simp only at l;subst l;have g: (do let d<-resolve a.eval ⟨.builtin .min,args,argTypes⟩ f;invoke d.target d.args:Sem Next)=(do pure (.value (<-Builtin.min_ argTypes f (args.map a.eval)))):=rfl;rw[g];split at h
  ·cases ho:oz args.toList with
   |none=>simp[ho]at h
   |some ys=>
    simp only[ho,afG,adT]at h;subst h;obtain⟨m,rfl⟩:=eF j;exact fI hw (ano (by simpa using yB he ho) m w)
  ·cases h
 case h_8 t x l n o=>
  simp only at l n o;subst l;have q:args= #[x]:=by apply apZ;simpa using o
  have p:argTypes= #[t]:=by apply apZ;simpa using n
  subst q p;have g: (do let d<-resolve a.eval ⟨.builtin .cap,#[x],#[t]⟩ f;invoke d.target d.args:Sem Next)=(do pure (.value (<-Builtin.cap_ #[t] f ((#[x]:Array Operand).map a.eval)))):=rfl;rw[g,show(#[x]:Array Operand).map a.eval= #[a.eval x] by simp];split at h
  ·rename_i hu;cases ho:bK x with
   |none=>simp[ho]at h
   |some y=>
    simp only[ho,afG,adT]at h;subst h;obtain⟨m,rfl⟩:=eF j;exact fI hw (anm hu (cz he ho) m w)
  ·cases h
 case h_9=>cases h
theorem anV{rows:Bool}{o:Oper}{i:I}(h:lk P rows o=some i)(hp:i.plain=true){v:AV}{E':AS}(A:exec X C i e E=some (.ok v E')):Good P B ay G E v E' ((execOp a.eval o).run P w):=by
 unfold lk at h;split at h
 case h_1 x d|h_2 x d=>
  simp only[d,execOp];cases ho:bK x with
  |none=>simp[ho]at h
  |some y=>
   simp only[ho,afG,adT]at h;subst h;cases A;simp only[Sem.run_pure];exact .same hw (cz he ho)
 case h_3 c x y d=>
  simp only[d,execOp];split at h
  ·rename_i c' x' y' F D N;cases h;simp only[exec]at A;split at A
   ·rename_i t ht;cases A;have L:=cz he F;rw[ht]at L;simp only[an]at L;simp only[Sem.run_bind,L,asBool,Sem.run_pure,Result.andThen_ok];cases t
    ·exact .same hw (cz he N)
    ·exact .same hw (cz he D)
   ·cases A
  ·cases h
 case h_4 t d=>
  simp only[d,execOp];cases R:hY P t with
  |none=>simp[R]at h
  |some z=>
   simp only[R,afG,adT]at h;subst h;cases A;exact sJ (anu hw R)
 case h_5 t x d=>
  simp only[d,execOp];cases ho:bK x with
  |none=>simp[ho]at h
  |some y=>
   simp only[ho,afG,adT]at h;subst h;simp only[exec]at A;split at A
   ·cases A
   ·rename_i ht;cases A;exact sJ (anv hw (λt' h=>ant h) (cz he ho) (by simpa using ht))
 case h_6 t ps d=>
  simp only[d,execOp];split at h
  ·rename_i fields z hu R;split at h
   ·rename_i vD;obtain⟨l,M,rfl⟩:=afF.1 h;simp only[exec]at A;split at A
    ·rename_i cs S;cases A;exact fI hw (anp hu R vD he M S w)
    ·cases A
   ·cases h
  ·rename_i n el z hu R;split at h
   ·rename_i sz H;cases M:parts (λi=>some (i*sz,sz)) ps.toList with
    |none=>simp[M]at h
    |some l=>
     simp only[M,afG,adT]at h;subst h;simp only[exec]at A;split at A
     ·rename_i cs S;cases A;exact fI hw (anq hu R H he M S w)
     ·cases A
   ·cases h
  ·cases h
 case h_7 t len ps d=>
  simp only[d,execOp];split at h
  ·rename_i el hu;split at h
   ·rename_i z R;split at h
    ·rename_i hc;obtain⟨AZ,Wz⟩:=hc;cases M:parts (λi=>some (i*z.length,z.length)) ps.toList with
     |none=>simp[M]at h
     |some l=>
      simp only[M,afG,adT]at h;have T: ∀k,(List.replicate k z).flatten.length=k*z.length:=λk=>by
       rw[pU (sz:=z.length) λel qY=>by rw[asR qY]];simp
      cases rows with
      |true=>
       simp only[ag6]at h;subst h;simp only[exec]at A;split at A
       ·rename_i cs S;cases A;exact sJ (anD hw hu R Wz AZ he M S (by rw[Np S,T]))
       ·cases A
      |false=>
       simp only[afE,ai5]at h;subst h;simp only[exec]at A;split at A
       ·rename_i cs S;cases A;exact sJ (anC hw hu R Wz AZ he M S (by rw[Np S,T]))
       ·cases A
    ·cases h
   ·cases h
  ·cases h
 case h_8 t x d=>
  simp only[d,execOp];split at h
  ·rename_i b n y F D N;cases h;obtain⟨K,rfl⟩:=eF A;exact fI hw (VQ hw hg F D (cz he N) K)
  ·cases h
 case h_9 t x y d=>
  simp only[d,execOp];split at h
  ·rename_i n x' y' F D N;cases h;simp only[exec]at A;split at A
   ·rename_i WA H;cases A;exact Wx (anz hw F (cz he D) (cz he N) H)
   ·cases A
  ·cases h
 case h_10 x d=>
  simp only[d,execOp];cases ho:bK x with
  |none=>simp[ho]at h
  |some y=>
   simp only[ho,afG,adT]at h;subst h;obtain⟨K,rfl⟩:=eF A;have L:=cz he ho;obtain⟨rfl,hsh⟩:=anl L K;rcases hsh with⟨b,e1⟩| ⟨f,b,c,e1⟩| ⟨f,b,c,e1⟩<;>rw[e1]at L⊢ <;>simp only[Sem.run_pure]<;>exact .same hw L
 case h_11 op t x y g d=>
  simp only[d,execOp];split at h
  ·rename_i x' y' F D;have Q:=cz he F;have O:=cz he D;split at h
   case h_1|h_2=>
    cases h;simp only[exec]at A;split at A
    ·rename_i k p k' q e1 e2;obtain⟨K,rfl⟩:=eF A;rw[e1]at Q;rw[e2]at O;simp only[an]at Q O;rw[Q,O];refine fI hw ?_;obtain⟨v',e3,r⟩:=am8 (P:=P) (G:=G) (t:=t) (k':=k') K w;exact⟨v',by simp[eqGuard,e3],r⟩
    ·cases A
   case h_3=>
    cases W:yy P t x y with
    |none=>simp[W]at h
    |some k=>
     simp only[W,afG,adT]at h;subst h;simp only[exec]at A;split at A
     ·rename_i b hb;cases A;obtain⟨e1,e2,_,_⟩:=V7 W Q O hb w;exact fI hw (Dh (by simp[e1,e2]))
     ·cases A
   case h_4=>
    cases W:yy P t x y with
    |none=>simp[W]at h
    |some k=>
     simp only[W,afG,adT]at h;subst h;simp only[exec]at A;split at A
     ·rename_i b hb;cases A;obtain⟨_,_,e1,e2⟩:=V7 W Q O hb w;exact fI hw (Dh (by simp[e1,e2]))
     ·cases A
   case h_5=>
    cases h;rename_i op _ _ _ n1 n2 n3 n4 _;obtain⟨K,rfl⟩:=eF A;obtain⟨v',e3,r⟩:=VU (P:=P) (t:=t) Q O K n3 n4 w;have Z: (eqGuard op t x y (a.eval x) (a.eval y)).run P w= .ok () w:=by
     cases op<;>first|exact absurd rfl n3|exact absurd rfl n4|simp[eqGuard]
    exact fI hw ⟨v',by simp[Z,e3],r⟩
   case h_6=>
    cases h;rename_i op _ _ n3 n4 _;obtain⟨K,rfl⟩:=eF A;obtain⟨v',e3,r⟩:=VU (P:=P) (t:=t) Q O K n3 n4 w;have Z: (eqGuard op t x y (a.eval x) (a.eval y)).run P w= .ok () w:=by
     cases op<;>first|exact absurd rfl n3|exact absurd rfl n4|simp[eqGuard]
    exact fI hw ⟨v',by simp[Z,e3],r⟩
   case h_7=>cases h
  ·cases h
 case h_12 op t x d=>
  simp only[d,execOp];cases ho:bK x with
  |none=>simp[ho]at h
  |some y=>
   simp only[ho,afG,adT]at h;subst h;obtain⟨K,rfl⟩:=eF A;exact fI hw (am9 (cz he ho) K w)
 case h_13 src dst x d=>
  simp only[d,execOp];split at h
  ·rename_i k kd y H hd ho;cases h;simp only[exec]at A;split at A
   ·rename_i k' n hn;cases A;have L:=cz he ho;rw[hn]at L;simp only[an]at L;rw[L];exact fI hw (lq (ana (by simp[H]) hd w))
   ·cases A
  ·rename_i el y H hd ho;split at h
   ·rename_i qY;cases h;simp only[exec]at A;split at A
    ·rename_i s hn;split at A
     ·cases A;have L:=cz he ho;rw[hn]at L;simp only[an]at L;rw[L];exact sJ (anB hw H hd qY s)
     ·cases A
    ·cases A
   ·cases h
  ·cases h
 case h_14 t x d=>
  simp only[d,execOp];split at h
  ·cases h
  ·cases h
  ·rename_i u U hu;cases ho:bK x with
   |none=>simp[ho]at h
   |some y=>
    simp only[ho,afG,adT]at h;subst h;cases A;exact fI hw ⟨_,ank hu (λms e=>U ms e) _ w,⟨_,rfl,cz he ho⟩⟩
 case h_15 f first cap d=>
  simp only[d,execOp];split at h
  ·rename_i xs ys F D;split at h
   ·cases h
   ·rename_i hy;cases h;cases A;refine fI hw ⟨_,by simp only[Instr.makeFunc,Sem.run_pure];rfl,⟨f,_,_,rfl,?_,by simpa using yB he F,by simpa using yB he D⟩⟩;cases f<;>simp[VI]at hy<;>simp[nC]
  ·cases h
 case h_16 t d=>
  simp only[d,execOp];cases h;cases A;exact sJ (anw hw t)
 case h_17 t l c d=>
  simp only[d,execOp];split at h
  ·rename_i el hu;split at h
   ·rename_i z b l' c' F D N K;split at h
    ·rename_i hc;cases h;simp only[exec]at A;split at A
     ·rename_i v' WA hm;cases A;exact sJ (anA hw hu F D hc.1 (cz he N) (cz he K) hm)
     ·cases A
    ·cases h
   ·cases h
  ·cases h
 case h_18 t x lo hi mx d=>
  simp only[d,execOp];split at h
  ·rename_i x' aj hi' mx' F D N K;split at h
   ·rename_i hu;split at h
    ·rename_i hm;cases h;obtain⟨J,rfl⟩:=eF A;have V:mx=none:=by
      have:=Wy K;rw[hm]at this;simpa using this.symm
     subst V;exact fI hw (am1 hu (cz he F) (yI he D) (yI he N) J w)
    ·cases h
   ·rename_i el hu;split at h
    ·rename_i hm;cases H:cw P el with
     |none=>simp[H]at h
     |some n=>
      simp only[H,afG,adT]at h;subst h;obtain⟨J,rfl⟩:=eF A;refine fI hw (am5 hu H (cz he F) (yI he D) (yI he N) (yI he K) ?_ J w);cases mx' with
      |none=>exact .inl rfl
      |some m=>
       right
       cases hi' with
       |none=>simp at hm
       |some q=>simp
    ·cases h
   ·rename_i n el hu;split at h
    ·rename_i hm;cases H:cw P el with
     |none=>simp[H]at h
     |some sz=>
      simp only[H,afG,adT]at h;subst h;obtain⟨J,rfl⟩:=eF A;have V:mx=none:=by
       have:=Wy K;rw[hm]at this;simpa using this.symm
      subst V;exact fI hw (am6 hw hg hu H (cz he F) (yI he D) (yI he N) J)
    ·cases h
   ·cases h
  ·cases h
 case h_19 s x f d=>
  simp only[d,execOp];split at h
  ·rename_i fields y hu ho;split at h
   ·rename_i g Y;split at h
    ·rename_i n hn;split at h
     ·rename_i Wm;cases h;obtain⟨J,rfl⟩:=eF A;exact fI hw (amT hw hg hu Y hn Wm (cz he ho) J)
     ·cases h
    ·cases h
   ·cases h
  ·cases h
 case h_20 s x f d=>
  simp only[d,execOp];split at h
  ·rename_i fields y hu ho;split at h
   ·rename_i g Y;split at h
    ·rename_i b n F D;cases h;simp only[exec]at A;split at A
     ·rename_i cs yL;obtain⟨J,rfl⟩:=eF A;have L:=cz he ho;rw[yL]at L;exact fI hw (amX hu Y F D L J w)
     ·cases A
    ·cases h
   ·cases h
  ·cases h
 case h_21 t x ix d=>
  simp only[d,execOp];split at h
  ·rename_i n el y iy hu F D;cases H:cw P el with
   |none=>simp[H]at h
   |some sz=>
    simp only[H,afG,adT]at h;subst h;obtain⟨J,rfl⟩:=eF A;exact fI hw (amU hw hg hu H (cz he F) (cz he D) J)
  ·rename_i el y iy hu F D;cases H:cw P el with
   |none=>simp[H]at h
   |some sz=>
    simp only[H,afG,adT]at h;subst h;obtain⟨J,rfl⟩:=eF A;exact fI hw (amW hu H (cz he F) (cz he D) J)
  ·cases h
 case h_22 t x ix d=>
  simp only[d,execOp];split at h
  ·rename_i n el y iy hu F D;split at h
   ·rename_i b sz N K;cases h;obtain⟨J,rfl⟩:=eF A;exact fI hw (amY hu N K (cz he F) (cz he D) J w)
   ·cases h
  ·rename_i y iy hu F D;cases h;obtain⟨J,rfl⟩:=eF A;exact fI hw (amZ hu (cz he F) (cz he D) J w)
  ·cases h
 case h_23 t m k ok d=>
  simp only[d,execOp];split at h
  ·rename_i kt et hu;split at h
   ·rename_i kk z m' k' F D N K;cases h;obtain⟨J,rfl⟩:=eF A;exact fI hw (anO hw hg hu F D (cz he N) (cz he K) J)
   ·cases h
  ·cases h
 case h_24 t m k x d|h_25 t m k x d=>
  simp only[d,execOp];split at h
  ·rename_i kt et hu;split at h
   ·rename_i kk m' k' x' F D N K;cases h;simp only[exec]at A;split at A
    ·rename_i WA hm;cases A;exact Wx (anP hw hu F (cz he D) (cz he N) (cz he K) hm)
    ·cases A
   ·cases h
  ·cases h
 case h_26 x xt asserted ok d=>
  simp only[d,execOp];split at h
  ·cases h
  ·rename_i u y U hu ho;split at h
   ·rename_i z R;cases h;obtain⟨J,rfl⟩:=eF A;exact fI hw (anj hu (λms e=>U ms e) R (cz he ho) J xt w)
   ·cases h
  ·cases h
 case h_27 x j d=>
  simp only[d,execOp];cases ho:bK x with
  |none=>simp[ho]at h
  |some y=>
   simp only[ho,afG,adT]at h;subst h;simp only[exec]at A;split at A
   ·rename_i vs hvs;obtain⟨J,rfl⟩:=eF A;have L:=cz he ho;rw[hvs]at L;exact fI hw (am0 (x:=.aw vs) L J w)
   ·cases A
 case h_28 c d=>
  simp only[d,execOp];exact anU hw he C h hp A
 case h_29 x d=>
  cases ho:bK x with
  |none=>simp[ho]at h
  |some y=>simp only[ho,afG,adT]at h;subst h;simp[I.plain]at hp
 case h_30=>cases h
end
end
section
variable{P:Program}{X:Ctx}{B:Nat}{ay:World}
open Classical in
noncomputable def Gh.cut(G:Gh)(n:Nat)(w:World):Gh:=
 {G with n:=n,bu:=λb o=>if∃id,n<=id/\G.on id/\G.bf id=b then w.cell? ⟨b,o,none⟩else G.bu b o}
def Hu{G:Gh}{E:AS}(a:aX P B ay G E w){o:Nat}(h:G.bu b o=some v): (G.cut n w).bu b o=some v:=by
 simp only[Gh.cut];split
 ·rename_i d;obtain⟨id,_,c,rfl⟩:=d;rw[a.sep id c]at h;cases h
 omega
def WB{G:Gh}{E:AS}(a:aX P B ay G E w):G.en n (G.cut n w):=
 ⟨λ_ _ _ h=>Hu a h,afA _,λ_ _=>rfl,λ_ _=>rfl,λ_ _=>rfl,λ_ _=>rfl,λ_ _=>rfl,λ_ _=>rfl⟩
def an0{G:Gh}{id:Nat}(b:n<=id)(a:G.on id)(o:Nat): (G.cut n w).bu (G.bf id) o=w.cell? ⟨G.bf id,o,none⟩:=by
 simp only[Gh.cut];rw[adY ⟨id,b,a,rfl⟩]
theorem aX.cut{G:Gh}{E:AS}(a:aX P B ay G E w)(d:n<=G.n)(m: ∀j o,j<n->E.heap[j]?=some o->o.le n)(lo:oN):aX P B ay (G.cut n w) {heap:=E.heap.take n,lo} w where
 len:=by
  have:=a.len;simp[Gh.cut];omega
 bu b o v h:=by
  simp only[Gh.cut]at h;split at h
  ·exact h
  ·exact a.bu b o v h
 obj id o h l:=by
  simp only[anH]at h;split at h
  ·rename_i f;exact iO.en (WB a) f rfl (a.obj id o h l) (m id o f h)
  grind
 inj i j c p e:=a.inj i j ⟨ai6 c.1 d,c.2⟩ ⟨ai6 p.1 d,p.2⟩ e
 sep i c o:=by
  have r:i<n:=c.1;have k:G.on i:=⟨ai6 c.1 d,c.2⟩;simp only[Gh.cut];rw[adU]
  ·exact a.sep i k o
  ·rintro⟨id,y,t,e⟩;have:=a.inj id i t k e;omega
 low i c:=a.low i ⟨ai6 c.1 d,c.2⟩
 mh:=a.mh
 hB:=a.hB
 mi id o g l:=by
  have q:id<n:=g;obtain⟨x,u⟩:=a.mi id o (ai6 g d) l
  grind
 dV b o v s h:=Hu a (a.dV b o v s h)
mutual
theorem WC{G:Gh}{E:AS}{w:World}(m:aX P B ay G E w){n:Nat}: ∀ (k:Nat) (v f:AV) (v':Value),freeze E n k v=some f->an G v v'->an (G.cut n w) f v'/\f.refs<=n
 |0,_,_,_,h,_=>by simp[freeze]at h
 |k+1,v,f,v',h,r=>by
  unfold freeze at h;split at h
  ·rename_i J;cases h;exact⟨r.en (WB m) _ _ J,J⟩
  ·rename_i J;split at h
   ·rename_i id ak sz off len cD;split at h
    ·rename_i T q ty af he;split at h
     ·rename_i Y;obtain⟨c1,c2,c3⟩:=Y;subst c1 c2;split at h
      ·rename_i g z;cases h;obtain⟨g1,g2,S,c,pre,vs,post,Z,R,U,M,K,D⟩:=m.obj id _ he r.M7;have N:G.on id:=⟨by rw[m.len];exact(adg.1 he).1,r.M7⟩;have H:n<=id:=by simp only[AV.refs]at J;omega
       simp only[an]at r;obtain⟨_,_,a,cap,e,d1,d2,d3⟩:=r;obtain⟨f1,f2,f3⟩:=d3 g1;have L:=K.slice (l:=off) (n:=len) S;obtain⟨y,x,t⟩:=Nv m k _ g _ z L;have d:g.length=len:=by
        have:=t;rw[this.1];simp;omega
       refine⟨⟨a.block,a.off,cap,q,_,?_,by rw[d];exact d1.1,λA=>by rw[d];exact d2 A,?_,?_,(D.drop _).take _,y⟩,x⟩
       ·rw[e,d];congr 2;obtain⟨b,o,s⟩:=a;have:=d1.2;simp only at this;rw[this]
       ·exact t.2 q (λel Q=>S el (aou (aiy Q)))
       ·intro j u i;have p:0<cap:=by
         by_cases h0:len=0
         ·subst h0;simp at i
         ·omega
        have F:a.off=G.base id+off*q:=by rw[f2 p]
        have I:a.block=G.bf id:=by rw[f2 p]
        rw[F,I,an0 H N];refine De Z _ u ?_;have V:=K.len S;rw[anH]at i;split at i
        ·rw[alH]at i;have W:=(adg.1 i).1;rw[R,afJ (by omega),adf (by omega),<-i]
         congr 1;omega
        ·cases i
      ·cases h
     ·cases h
    ·cases h
   ·rename_i cs;split at h
    ·rename_i C z;cases h;simp only[an]at r;obtain⟨vs,rfl,l,D⟩:=r;obtain⟨y,x,_⟩:=Hv m k cs C _ z l;exact⟨⟨vs,rfl,y,D⟩,x⟩
    ·cases h
   ·rename_i cs;split at h
    ·rename_i C z;cases h;simp only[an]at r;obtain⟨vs,rfl,l⟩:=r;obtain⟨y,x,_⟩:=Hv m k cs C _ z l;exact⟨⟨vs,rfl,y⟩,x⟩
    ·cases h
   ·rename_i af cD;split at h
    ·rename_i g z;cases h;simp only[an]at r;obtain⟨b,o,cap,sz,vs,rfl,d1,d2,d3,O,D,K⟩:=r;obtain⟨y,x,t⟩:=Nv m k af g _ z K;refine⟨⟨b,o,cap,sz,vs,by rw[t.1],by rw[t.1];exact d1,λA=>by rw[t.1];exact d2 A,t.2 sz d3,λj u i=>Hu m (O j u i),D,y⟩,x⟩
    ·cases h
   ·cases h
theorem Hv{G:Gh}{E:AS}{w:World}(d:aX P B ay G E w){n:Nat}: ∀ (k:Nat) (cs b:List AV) (vs:List Value),iL E n k cs=some b->aF G cs vs->aF (G.cut n w) b vs/\aK b<=n/\b.length=cs.length
 |k,[],b,vs,h,r=>by
  cases k<;>simp only[iL,adT]at h<;>subst h<;>simp only[aF]at r<;>subst r<;>simp[aF,aK]
 |0,_::_,_,_,h,_=>by simp[iL]at h
 |k+1,a::as,b,vs,h,r=>by
  simp only[iL]at h;split at h
  ·rename_i a' i;split at h
   ·rename_i c has;cases h;simp only[aF]at r;obtain⟨v,q,rfl,l,j⟩:=r;obtain⟨g,o⟩:=WC d k a a' v i l;obtain⟨f,m,e⟩:=Hv d (k+1) as c q has j;exact⟨⟨v,q,rfl,g,f⟩,by simp only[aK];omega,by simp[e]⟩
   ·cases h
  ·cases h
theorem Nv{G:Gh}{E:AS}{w:World}(e:aX P B ay G E w){n:Nat}: ∀ (k:Nat) (af b:List (List AV)) (vs:List Value),sB E n k af=some b->br G af vs->
  br (G.cut n w) b vs/\b9 b<=n/\ (b.length=af.length/\ ∀sz,(∀el∈af,el.length=sz)-> ∀el∈b,el.length=sz)
 |k,[],b,vs,h,r=>by
  cases k<;>simp only[sB,adT]at h<;>subst h<;>simp only[br]at r<;>subst r<;>simp[br,b9]
 |0,_::_,_,_,h,_=>by simp[sB]at h
 |k+1,a::as,b,vs,h,r=>by
  simp only[sB]at h;split at h
  ·rename_i a' o;split at h
   ·rename_i d has;cases h;simp only[br]at r;obtain⟨v,q,rfl,s,p⟩:=r;obtain⟨j,u,l⟩:=Hv e k a a' v o s;obtain⟨i,t,g,f⟩:=Nv e (k+1) as d q has p;refine⟨⟨v,q,rfl,j,i⟩,by simp only[b9];omega,by simp[g],λsz hu el c=>?_⟩;rcases ag7.1 c with rfl|c
    ·rw[l];exact hu a (by simp)
    ·exact f sz (λx m=>hu x (by simp[m])) el c
   ·cases h
  ·cases h
end
def yM{gp:Gh}{cn:AS}{t:World}(k:aX P B ay gp cn t){G:Gh}{E:AS}(f:gp.le G)(x:aX P B ay G E w)(d:AS.Ext {heap:=cn.heap,lo:=none} E){v:AV}{v':Value}(D:an G v v'):
  ∃a,gp.le a/\aX P B ay a (finish cn.heap.length cn.lo v E).2 w/\an a (finish cn.heap.length cn.lo v E).1 v'/\cn.Ext (finish cn.heap.length cn.lo v E).2:=by
 have oC: ∃a,gp.le a/\aX P B ay a {heap:=E.heap,lo:=gB cn.lo E.lo} w/\an a v v'/\cn.Ext {heap:=E.heap,lo:=gB cn.lo E.lo}:=by
  refine⟨G,f,x.lo _,D,d.len,λj h=>?_,λj o h=>?_⟩
  ·cases E.lo with
   |none=>exact h
   |some l=>exact AR (.inl h)
  ·obtain⟨o',s,g⟩:=d.obj j o h;refine⟨o',s,g.imp id λ ⟨l,e,q⟩=>?_⟩;simp only[gB,e];exact AR (.inr q)
 have clear: (∀j,j<cn.heap.length-> ¬AQ E.lo j)-> ∀c,freeze E cn.heap.length 12 v=some c->
   ∃a,gp.le a/\aX P B ay a {heap:=E.heap.take cn.heap.length,lo:=cn.lo} w/\an a c v'/\cn.Ext {heap:=E.heap.take cn.heap.length,lo:=cn.lo}:=by
  intro z c C;have A:=k.len;have y: ∀j o,j<cn.heap.length->E.heap[j]?=some o->o.le cn.heap.length:=by
   intro j o r ho;have H:cn.heap[j]?=some cn.heap[j]:=aep r;obtain⟨o',s,g⟩:=d.obj j _ H;rw[ho]at s;cases s;rcases g with g|g
   ·have:=g cn.heap.length (by have:=k.amK H;rwa[A]at this);exact this.mono (by omega)
   ·exact absurd g (z j r)
  have m:cn.heap.length<=G.n:=by rw[x.len];exact d.len
  obtain⟨I,J⟩:=WC x 12 v c v' C D;refine⟨G.cut cn.heap.length w,?_,x.cut m y _,I,?_,λj h=>h,λj o h=>?_⟩
  ·exact{bu:=λb o u h=>Hu x (f.bu b o u h),n:=by simp[Gh.cut,A],on:=λi p=>⟨by have:=p.1;simp only[Gh.cut];omega,(f.on i p).2⟩,ak:=λi p=>f.ak i p,same:=λi p e=>f.same i p e,pz:=λi p=>f.pz i p}
  ·have:=d.len;simp only at this;simp;omega
  ·have r:j<cn.heap.length:=(adg.1 h).1;obtain⟨o',s,g⟩:=d.obj j o h;refine⟨o',by simp[r,s],.inl ?_⟩;rcases g with g|g
   ·exact g
   ·exact absurd g (z j r)
 unfold finish;cases q:E.lo with
 |none=>
  simp only[ag6];cases C:freeze E cn.heap.length 12 v with
  |none=>simp only;rw[q]at oC;exact oC
  |some c=>exact clear (by rintro j _ ⟨l,e,_⟩;rw[q]at e;cases e) c C
 |some l=>
  rw[q]at oC;by_cases h:cn.heap.length<=l
  ·simp only[h,decide_true,ag6];cases C:freeze E cn.heap.length 12 v with
   |none=>exact oC
   |some c=>exact clear (by rintro j r ⟨K,e,F⟩;rw[q]at e;cases e;omega) c C
  ·simp only[h,aCd,afE,ai5];exact oC
end
section
variable{P:Program}{X:Ctx}{B:Nat}{ay:World}{dg:List Deferred}
def W(r:oN):Fence:={fn:=λ_=>True,depth:=none,alive:=false,round:=r}
theorem an1:W none=Fence.wide:=rfl
def Dm(r:oN)(n:Nat): (W r).room n:=λ_ h=>by simp[W]at h
def Nw{r a:oN}{args:Array Value}{R:Ending->World->Prop}(h:CallsIn (W r) n P f args w R):CallsIn (W a) b P f args w R:=
 ⟨trivial,λcs _=>h.2 cs (Dm _ _)⟩
def an2{r d:oN}{e:Nat}{a:Array Value}{as b:Code}{R:Ending->World->Prop}(h:RoundIn (W r) n P l f a as b w R):RoundIn (W d) e P l f a as b w R:=
 ⟨trivial,λc cs _=>h.2 c cs (Dm _ _)⟩
def Ends(P:Program)(B:Nat)(ay:World)(G:Gh)(E:AS):aU->Ending->World->Prop
 |.ret v b,.returned v',w'=> ∃a,G.le a/\aX P B ay a b w'/\an a v v'/\E.Ext b
 |.panic v b,.panicked chain,w'=> ∃a v',chain=[{v:=v',recovered:=false}]/\G.le a/\aX P B ay a b w'/\an a v v'/\E.Ext b
 |_,_,_=>False
def Dn(P:Program)(K:Ending->World->Prop):Result Next->Prop
 |.ok (.value v) w'=>K (.returned v) w'
 |.ok (.enter f args) w'=>CallsIn (W none) 0 P f args w' K
 |.ok (.round l f tmps as bd) w'=>RoundIn (W none) 0 P l f tmps as bd w' K
 |_=>False
def wU(fv:Value)(args:Array Value):Sem Next:=do let d<-Deferred.ofValue fv args;invoke d.target d.args
def fS(P:Program)(B:Nat)(ay:World)(C:bz):Prop:=
 ∀fv args E c,C fv args E=some c-> ∀G w b (a:Array Value),aX P B ay G E w->an G fv b->aF G args a.toList->Dn P (Ends P B ay G E c) ((wU b a).run P w)
def gI(dg:List Deferred)(G:Gh):lN->List Deferred->Prop
 | [],a=>a=dg
 |m::ms,a=> ∃d r k,a=d::r/\d.target= .collected k/\G.on m/\ (G.ak m=0->k=G.bf m)/\gI dg G ms r
theorem gI.mono{G c:Gh}(h:G.le c): ∀ {ms:lN} {b:List Deferred},gI dg G ms b->gI dg c ms b
 | [],_,r=>r
 |m::ms,_,r=>by
  simp only[gI]at*;obtain⟨d,q,k,e,i,a,g,f⟩:=r;refine⟨d,q,k,e,i,h.on _ a,λl=>?_,f.mono h⟩;have j:=h.ak _ a;rw[(h.same _ a (by omega)).1];exact g (by omega)
theorem gI.dM{G c:Gh}(h:G.sub c): ∀ {ms:lN} {b:List Deferred},gI dg G ms b->gI dg c ms b
 | [],_,r=>r
 |m::ms,_,r=>by
  simp only[gI]at*;obtain⟨d,q,k,e,i,a,g,f⟩:=r;refine⟨d,q,k,e,i,h.on _ a,λl=>?_,f.dM h⟩;have j:=h.ak _ a;rw[(h.same _ a (by omega)).1];exact g (by omega)
def gb(G:Gh):Ex->Exit->Prop
 |.normal,.normal=>True
 |.exit i,.exit j=>i=j
 |.ret,.ret=>True
 |.panic v,.panic chain=> ∃v',chain=[{v:=v',recovered:=false}]/\an G v v'
 |_,_=>False
def m4(P:Program)(B:Nat)(ay:World)(dg:List Deferred)(gp:Gh)(cn:AS)(nt:Nat)(b:Ex×Fr×AS)(e:Exit)(a:Act)(w:World):Prop:=
 ∃G,gp.le G/\aX P B ay G b.2.2 w/\cK G nt b.2.1.env a.tmps/\gI dg G b.2.1.marks a.defers/\cn.Ext b.2.2/\gb G b.1 e
theorem m4.trans{gp b:Gh}{cn c:AS}{d:Ex×Fr×AS}{e:Exit}(h:m4 P B ay dg b c nt d e a w)(hg:gp.le b)(f:cn.Ext c):m4 P B ay dg gp cn nt d e a w:=by
 obtain⟨G,m,l,k,j,i,g⟩:=h;exact⟨G,Gh.le_trans hg m,l,k,j,f.trans i,g⟩
theorem cK.set{G:Gh}{e:Env}{a:Array Value}(h:cK G nt e a)(g:d<nt){v:AV}(f:an G v v'):cK G nt (e.set d v) (a.setIfInBounds d v')where
 size:=by simp[h.size]
 get t u b:=by
  rw[amk]at b;simp only[Env.set];split at b
  ·rename_i e;subst e;split at b
   ·cases b;rw[adY rfl];exact f
   ·cases b
  ·rename_i c;rw[adU (λe=>c e.symm)];exact h.get t u b
 out t b:=by
  simp only[Env.set];rw[adU (by omega)];exact h.out t b
def qZ{G:Gh}{b:Fr}(h:cK G nt b.env a.tmps){dst:oN}(e: ∀d,dst=some d->d<nt){v:AV}(c:an G v v'):
  cK G nt (b.put dst v).env (a.put dst v').tmps/\ (b.put dst v).marks=b.marks/\ (a.put dst v').defers=a.defers:=by
 cases dst with
 |none=>exact⟨h,rfl,rfl⟩
 |some d=>exact⟨h.set (e d rfl) c,rfl,rfl⟩
theorem yN{G:Gh}:an G .undef undef:=⟨#[],rfl,by simp[aF]⟩
def an3{G:Gh}{x:AV}{b:Bool}(h:an G x (.bool b)):x= .bool b:=by
 cases x<;>simp[an]at h;rw[h]
def yO{G:Gh}{e:Env}(k:cK G nt e a.tmps){d:Array Oper}{o:Oper}{g:Option (Nat×Bool)}(h:guardOf d o=some g):Region.wanted o (yielded d a.tmps)=gn e g:=by
 unfold guardOf at h;unfold Region.wanted;split at h
 ·rename_i s;cases h;simp[s,gn]
 ·rename_i j want q;split at h
  ·rename_i t p;cases h;simp only[q,gn,yielded,p,apP];by_cases c:t<a.tmps.size
   ·have f:=k.get t a.tmps[t] (by simp[c]);simp only[axT c];cases l:a.tmps[t]with
    |bool b=>
     rw[l]at f;rw[an3 f];simp
    |_=>
     rw[l]at f;cases m:e t<;>rw[m]at f<;>simp[an]at f<;>simp
   ·have i:a.tmps.size<=t:=Nat.le_of_not_lt c;rw[k.out t (by rw[<-k.size];exact i)];have:a.tmps[t]?=none:=Array.getElem?_eq_none i;simp[this]
  ·cases h
section region
variable{C:bz}(hC:fS P B ay C)(hg:fH X B ay){r:oN}{n nt:Nat}
include hC hg
theorem yP{rows:Bool}{ops:Array Oper}{o:Oper}{x:aR}(h:iN P rows ops o=some x)(hd: ∀d,x.dst=some d->d<nt){G:Gh}{E:AS}{H:Fr}(hw:aX P B ay G E w)(K:cK G nt H.env a.tmps)(hm:gI dg G H.marks a.defers)
  {u:Out} (m:exec X C x.i H.env E=some u) {next:Act->World->Prop} {Q:Exit->Act->World->Prop}
  (U: ∀v l,u= .ok v l-> ∀J a' w',G.le J->aX P B ay J l w'->E.Ext l->cK J nt (H.put x.dst v).env a'.tmps->gI dg J (H.put x.dst v).marks a'.defers->next a' w')
  (p: ∀v l,u= .panic v l-> ∀e a' w',m4 P B ay dg G E nt (.panic v,H,l) e a' w'->Q e a' w'):o.wpIn (W r) n P a w next Q:=by
 refine⟨λ_ _=>trivial,?_⟩;unfold iN at h;split at h
 ·rename_i i g b gd;cases h;have S:o.semAt (W r).round a.eval=execOp a.eval o:=by
   apply Oper.semAt_eq;intro c e;simp[lk,e]at b
  rw[S];have az: ∀v l,u= .ok v l->Good P B ay G E v l ((execOp a.eval o).run P w)->o.uponIn (W r) n P a next Q ((execOp a.eval o).run P w):=by
   intro v l e M;obtain⟨J,w',v',F,s,O,Y,V⟩:=M;obtain⟨p1,p2,p3⟩:=qZ (a:=a) (K.mono s) hd Y;have hn:=U v l e J (a.put o.dst v') w' s O V p1 (by rw[p2,p3];exact hm.mono s);rcases F with F| ⟨F,Z⟩
   ·rw[F];exact hn
   ·rw[F];subst Z;exact hn
  by_cases hp:i.plain=true
  ·cases u with
   |ok v l=>exact az v l rfl (anV hw hg K C b hp m)
   |panic v l=>
    exfalso;cases i<;>simp[I.plain]at hp<;>simp only[exec,ga]at m<;>(repeat' split at m)<;>(try cases m)
  ·cases A:o.op with
   |call c=>
    simp only[lk,A]at b;obtain⟨callee,D,cts⟩:=c;have N: ∃f fs as,callee= .value f/\bK f=some fs/\oz D.toList=some as/\i= .call fs as:=by
     unfold Db at b;split at b
     case h_1 d1 d2 d3 f hc=>
      simp only at hc;split at b
      ·rename_i f' as s O;cases b;exact⟨_,_,_,hc,s,O,rfl⟩
      ·cases b
     all_goals exfalso
     all_goals(first| (repeat' split at b)|skip)<;>(try cases b)<;>(try(simp only[afF]at b;obtain⟨_,_,rfl⟩:=b))<;>simp[I.plain]at hp
    obtain⟨f,fs,as,rfl,hf,has,rfl⟩:=N;have z: (execOp a.eval o).run P w=(wU (a.eval f) (D.map a.eval)).run P w:=by
     unfold execOp;simp only[A];rfl
    simp only[exec]at m;have key: ∀R,C (fs.get H.env) (as.map (·.get H.env)) E=some R->Dn P (Ends P B ay G E R) ((execOp a.eval o).run P w):=by
     intro R q;rw[z];exact hC _ _ _ _ q G w _ _ hw (cz K hf) (by simpa using yB K has)
    cases q:C (fs.get H.env) (as.map (·.get H.env)) E with
    |none=>simp[q]at m
    |some R=>
     have L:=key R q;have cont: ∀e k,Ends P B ay G E R e k->(match e with
       |.returned v=>next (a.put o.dst v) k
       |.panicked chain=>Q (.panic chain) a k
       |.outgrown=>LetsOut Q):=by
      intro e k j;cases R with
      |ret v l=>
       simp only[q,adT]at m;cases e with
       |returned v'=>
        obtain⟨J,s,O,Y,V⟩:=j;obtain⟨p1,p2,p3⟩:=qZ (a:=a) (K.mono s) hd Y;exact U v l m.symm J _ k s O V p1 (by rw[p2,p3];exact hm.mono s)
       |panicked _=>exact j.elim
       |outgrown=>exact j.elim
      |panic v l=>
       simp only[q,adT]at m;cases e with
       |returned _=>exact j.elim
       |panicked chain=>
        obtain⟨J,v',Nx,s,O,Y,V⟩:=j;exact p v l m.symm _ _ _ ⟨J,s,O,K.mono s,hm.mono s,V,v',Nx,Y⟩
       |outgrown=>exact j.elim
     generalize(execOp a.eval o).run P w=res at L;unfold Dn at L;split at L
     ·exact cont _ _ L
     ·exact⟨λh=>by simp[W]at h,Nw (L.mono λe k h=>by have:=cont e k h;cases e<;>exact this)⟩
     ·exact⟨λh=>by simp[W]at h,an2 (L.mono λe k h=>by have:=cont e k h;cases e<;>exact this)⟩
     ·exact L.elim
   |panic x=>
    simp only[lk,A]at b;cases ho:bK x with
    |none=>simp[ho]at b
    |some y=>
     simp only[ho,afG,adT]at b;subst b;simp only[exec]at m;split at m
     ·rename_i t v ht;cases m;have F:=cz K ho;rw[ht]at F;have T:=F;simp only[an]at F;obtain⟨v',Z,_⟩:=F;have z: (execOp a.eval o).run P w= .halt (.panic (.iface t v')) w:=by
       unfold execOp;simp only[A,Z];simp[Instr.panic,goPanic,Sem.run_bind,Sem.run,Result.andThen]
      rw[z];rw[Z]at T;exact p _ _ rfl _ _ _ ⟨G,G.le_refl,hw,K,hm,.refl E,_,rfl,T⟩
     ·cases m
   |_=>
    exfalso;simp only[lk,A]at b
    repeat' split at b
    all_goals(try cases b)
    all_goals(try(simp only[afF]at b;obtain⟨_,_,rfl⟩:=b))
    all_goals first| (simp[I.plain]at hp;done)| (simp_all;done)
 ·cases h
end region
end
section
variable{P:Program}{X:Ctx}{B:Nat}{ay:World}{dg:List Deferred}
section
variable{C:bz}(hC:fS P B ay C)(hg:fH X B ay){r:oN}{n nt:Nat}{rows:Bool}
include hC hg
theorem Ny{j:Array Oper}: ∀ (os:List Oper) (is:lN) (l:List aR),is.map (j[·]?)=os.map some->ll P rows j os=some l->(∀x∈l,∀d,x.dst=some d->d<nt)->
  ∀ (G:Gh) (E:AS) (w:World) (fr:Fr) (a:Act) (res:Ex×Fr×AS) (Q:Exit->Act->World->Prop),aX P B ay G E w->cK G nt fr.env a.tmps->gI dg G fr.marks a.defers->fj X C l fr E=some res->
  (∀e a w,m4 P B ay dg G E nt res e a w->Q e a w)->wpOpsIn (W r) n P j Q is a w
 | [],is,l,k,p,q,G,E,w,fr,a,res,Q,hw,he,hm,g,u=>by
   have:is=[]:=by simpa using k
   subst this;simp only[ll,adT]at p;subst p;simp only[fj,adT]at g;subst g;exact u _ _ _ ⟨G,G.le_refl,hw,he,hm,.refl E,trivial⟩
 |o::os,is,l,k,p,q,G,E,w,fr,a,res,Q,hw,he,hm,g,u=>by
  cases is with
  |nil=>simp at k
  |cons i is=>
   simp only[ak9,aAx]at k;obtain⟨D,k⟩:=k;simp only[ll]at p;split at p
   ·rename_i x xs f s;cases p;simp only[wpOpsIn,D];have F:guardOf j o=some x.g:=by
     unfold iN at f;split at f
     ·rename_i H;cases f;exact H
     ·cases f
    have t:x.dst=o.dst:=by
     unfold iN at f;split at f
     ·cases f;rfl
     ·cases f
    have A:=yO he F;simp only[fj]at g;rw[A];split at g
    ·rename_i m;rw[adY m];split at g
     ·rename_i v I hex;refine yP hC hg f (q x (by simp)) hw he hm hex (λb c e S a' w' R H O N M=>?_) (λb c e=>by cases e);cases e;exact Ny os is xs k s (λy z=>q y (by simp[z])) S I w' _ a' res Q H N M g (λe a w h=>u e a w (h.trans R O))
     ·rename_i v I hex;cases g;exact yP hC hg f (q x (by simp)) hw he hm hex (λb c e=>by cases e) (λb c e T a' w' h=>by cases e;exact u _ _ _ h)
     ·cases g
    ·rename_i m;rw[adU m];refine⟨λ_ _=>trivial,?_⟩;obtain⟨L,K,J⟩:=qZ (a:=a) he (q x (by simp)) (v:=.undef) (v':=undef) yN;rw[<-t];exact Ny os is xs k s (λy z=>q y (by simp[z])) G E w _ _ res Q hw L (by rw[K,J];exact hm) g u
   ·cases p
omit hC hg in
theorem an4(a:Array Oper): (List.range a.size).map (a[·]?)=a.toList.map some:=by
 apply anZ;intro j;by_cases b:j<a.size
 ·simp[b]
 ·simp[b]
end
def yS(L:eL):Prop:= ∀body fr E res,L body fr E=some res-> ∃k,iter k body fr E=some res
def A0(P:Program)(B:Nat)(ay:World)(dg:List Deferred)(r:oN)(n nt:Nat)(c:Code)(b:Fr->AS->jA):Prop:=
 ∀ (G:Gh) (E:AS) (w:World) (fr:Fr) (a:Act) (res:Ex×Fr×AS) (Q:Exit->Act->World->Prop),aX P B ay G E w->cK G nt fr.env a.tmps->gI dg G fr.marks a.defers->b fr E=some res->
   (∀e a w,m4 P B ay dg G E nt res e a w->Q e a w)->c.wpIn (W r) n P Q a w
theorem WD{r:oN}{n nt:Nat}{c:Code}{t:Fr->AS->jA}(h:A0 P B ay dg r n nt c t): ∀ (m:Nat) (G:Gh) (E:AS) (w:World) (fr:Fr) (a:Act) (res:Ex×Fr×AS) (Q:Exit->Act->World->Prop),
  aX P B ay G E w->cK G nt fr.env a.tmps->gI dg G fr.marks a.defers->iter m t fr E=some res->(∀e a w,m4 P B ay dg G E nt res e a w->Q e a w)->
  ∀ (b:Frame) (k:List Item) (cs:List Frame),b.roundOf=(W r).round-> ∃e a' w',Q e a' w'/\ArrivesIn (Machine.fenced P (W r)) P (lone (b.atR a (.code c:: .inLoop c::k)) cs w) b k cs e a' w'
 |0,_,_,_,_,_,_,_,_,_,_,y,_,_,_,_,_=>by simp[iter]at y
 |m+1,G,E,w,fr,a,res,Q,hw,he,hm,y,R,b,k,cs,u=>by
  simp only[iter]at y;split at y
  ·rename_i q H T;have j:=h G E w fr a (.normal,q,H) (Exit.then (λa' w'=>m4 P B ay dg G E nt (.normal,q,H) .normal a' w') (λ_ _ _=>False)) hw he hm T (λe a' w' i=>by
    have v:=i;obtain⟨s,N,M,L,K,J,I⟩:=i;cases e<;>simp[gb]at I;exact v)
   obtain⟨e,g,d,o,f⟩:=j b (.inLoop c::k) cs u trivial (Dm _ _);cases e<;>try exact o.elim
   obtain⟨s,N,M,L,K,J,I⟩:=o;obtain⟨D,F,A,z,p⟩:=WD h m s H d q g res Q M L K y (λe a w S=>R e a w (S.trans N J)) b k cs u;exact⟨D,F,A,z,.of_steps (StepsIn.trans f (.one (fenced_calm (n:=n) trivial (Dm _ _) rfl) stepR_inLoop)) p⟩
  ·rename_i O;have j:=h G E w fr a res (Exit.then (λ_ _=>False) Q) hw he hm y (λe a' w' i=>by
    have o:=R e a' w' i;obtain⟨s,N,M,L,K,J,I⟩:=i;obtain⟨ex,q,H⟩:=res;cases e<;>first|exact o| (exfalso;cases ex<;>simp[gb]at I;exact O q H y))
   obtain⟨e,g,d,o,f⟩:=j b (.inLoop c::k) cs u trivial (Dm _ _);cases e with
   |normal=>exact o.elim
   |exit id=>exact⟨_,g,d,o,.pass (x:=.inLoop c) rfl (λ_ _=>.inl (by simp)) f⟩
   |goto l=>exact⟨_,g,d,o,.pass (x:=.inLoop c) rfl (λ_ _=>.inl (by simp)) f⟩
   |ret=>exact⟨_,g,d,o,.pass (x:=.inLoop c) rfl (λ_ _=>.inl (by simp)) f⟩
   |panic U=>exact⟨_,g,d,o,.pass (x:=.inLoop c) rfl (λ_ _=>.inl (by simp)) f⟩
   |outgrown=>exact⟨_,g,d,o,.pass (x:=.inLoop c) rfl (λ_ _=>.inl (by simp)) f⟩
def an5{r:oN}{c:Code}{d:Fr->AS->jA}(h:A0 P B ay dg r n nt c d)(m:Nat):A0 P B ay dg r n nt (.loop c) (iter m d):=by
 intro G E w fr a res Q hw he hm j p b k cs i o f;obtain⟨e,a',w',l,g⟩:=WD h m G E w fr a res Q hw he hm j p b k cs i;exact⟨e,a',w',l,.of_steps (.one (fenced_calm o f rfl) stepR_loop) g⟩
end
section
variable{P:Program}{X:Ctx}{B:Nat}{ay:World}{dg:List Deferred}
def pV(P:Program)(X:Ctx):Prop:= ∀f pf,X.code f=some pf-> ∃rows fn,P.funcs[f]?=some fn/\Dc P rows fn=some pf
def Hw{rows:Bool}{fn:Func}{pf:PF}(h:Dc P rows fn=some pf): ∃c,fn.body=some c/\fk P rows fn.ntmps c=some pf.body/\pT P fn.results.toList=some pf.results/\pf.ntmps=fn.ntmps/\ (fn.name== "runtime.NumGoroutine")=false:=by
 unfold Dc at h;split at h
 ·rename_i c d;split at h
  ·rename_i b rs f e;split at h
   ·rename_i a;cases h;exact⟨c,d,f,e,rfl,by simpa using a⟩
   ·cases h
  ·cases h
 ·cases h
def WE{fn:Func}{c:Code}(d:P.funcs[f]?=some fn)(e:fn.body=some c)(b: (fn.name== "runtime.NumGoroutine")=false)(first cap args:Array Value)(w:World):
  (wU (.func (.func f) first cap) args).run P w= .ok (.enter f (first++args++cap)) w:=by
 have a: ¬fn.name= "runtime.NumGoroutine" :=by simpa using b
 simp[wU,Deferred.ofValue,invoke,callFunc,aqv,d,a,e]
def an6{r:oN}{b:PC}{g:Ex}{c:Option Code}(d:yz (some b) c)(f:wS b=some g){Q:Exit->Act->World->Prop}(h: ∀e,(∀G,gb G g e)->Q e a w): ∃code,c=some code/\code.wpIn (W r) n P Q a w:=by
 cases b<;>simp[wS]at f<;>simp only[yz]at d<;>subst d<;>subst f
 ·exact⟨_,rfl,wpIn_exit (h _ λ_=>rfl)⟩
 ·exact⟨_,rfl,wpIn_ret (h _ λ_=>trivial)⟩
section
variable{C:bz}(hC:fS P B ay C)(hg:fH X B ay)(hX:pV P X){n nt:Nat}{rows:Bool}
include hC hX
theorem an7{bR:FuncId}{g:Operand}{g':ao}{N:Array Tmp}{assign body:Code}{as bd:PC}(h1:bK g=some g')(h2:fk P rows nt assign=some as)(h3:fk P rows nt body=some bd)(h4:N.toList.all (· <nt)=true){L:eL}:
  A0 P B ay dg none n nt (.rangeFunc g N assign body) (bc X C L bR false (.gS g' N.toList as bd)):=by
 intro G E w fr a res Q hw he hm u hQ;simp only[bc,afE,ai5]at u;split at u
 ·rename_i o;have S:=cz he h1;obtain⟨f,first,cap,pf,hgv,aCk,Dp⟩: ∃f first cap pf,g'.get fr.env= .fn (.func f) first cap/\X.bW f=none/\X.code f=some pf:=by
   unfold pP at o;split at o
   ·rename_i f first cap hv
    simp only[ag9,Option.isNone_iff_eq_none,asB]at o;obtain⟨h1,pf,h2⟩:=o;exact⟨f,first,cap,pf,hv,h1,h2⟩
   ·cases o
  obtain⟨an9,fn,hf,aoa⟩:=hX f pf Dp;obtain⟨c,M,_,_,_,H⟩:=Hw aoa;have aob:=S;rw[hgv]at S;simp only[an,nC]at S;obtain⟨f',d,t,A1,ra,aCl,aCm⟩:=S;subst ra;refine wpIn_rangeFunc (λWG _=>?_);have R:=he.size
  let y:Loop:={state:=.ready,pending:=none,fn:=WG,tmps:=a.tmps,params:=N,assign,body,defers:=w.heap.size}
  let k:=(w.alloc (.deferred (some []))).alloc (.loop y)
  have WH: (w.alloc (.deferred (some []))).heap.size=w.heap.size+1:=by simp
  have WI:=hw.push (.deferred (some [])) .bt 0 0 ⟨by simp[Gh.push],by
   have: (G.push w.heap.size 0 0).bf G.n=w.heap.size:=by simp[Gh.push]
   rw[this];exact apV _ _⟩
  have s:=G.AT w.heap.size 0 0;have p:=(G.push w.heap.size 0 0).AT (w.alloc (.deferred (some []))).heap.size 0 0;have hw2:=WI.push (.loop y) (.loop .ready none bR fr.env N.toList as bd) 0 0 ⟨by simp[Gh.push],y,by
   have: ((G.push w.heap.size 0 0).push (w.alloc (.deferred (some []))).heap.size 0 0).bf (G.push w.heap.size 0 0).n=(w.alloc (.deferred (some []))).heap.size:=by simp[Gh.push]
   rw[this];exact apV _ _,rfl,rfl,trivial,by
    have:=(he.mono s).mono p;show cK _ a.tmps.size fr.env a.tmps;rw[R];exact this,rfl,by show N.toList.all (· <a.tmps.size)=true;rw[R];exact h4,rows,by show fk P rows a.tmps.size assign=_;rw[R];exact h2,by show fk P rows a.tmps.size body=_;rw[R];exact h3⟩
  have i:=hw.len;have aod: ((G.push w.heap.size 0 0).push (w.alloc (.deferred (some []))).heap.size 0 0).on E.heap.length:=p.on _ (Gh.Dd hw);have F: ((G.push w.heap.size 0 0).push (w.alloc (.deferred (some []))).heap.size 0 0).on (E.heap.length+1):=by
   have:=Gh.Dd WI (b:=(w.alloc (.deferred (some []))).heap.size) (eD:=0) (sz:=0);have e: (E.push .bt).heap.length=E.heap.length+1:=by simp[AS.push]
   rwa[e]at this
  refine⟨w.heap.size+1,[{target:=.collected w.heap.size,args:= #[]}],k,{target:=.fn (.func f) t,args:=d++ #[.func (.yield (w.heap.size+1)) #[] #[]]},k,f,d++ #[.func (.yield (w.heap.size+1)) #[] #[]]++t,k,?_,?_,λ_ _=>trivial,?_,λh=>by simp[W]at h,?_⟩
  ·show(Instr.enterLoop WG a.tmps N assign body none).run P w=_;simp[Instr.enterLoop,k,y]
  ·have aoe:Act.eval a g= .func (.func f) d t:=A1;have hm0: (#[Operand.const (.func (.yield (w.heap.size+1)) #[] #[])]:Array Operand).map a.eval= #[.func (.yield (w.heap.size+1)) #[] #[]]:=by simp[Act.eval]
   simp only[rangeCall,resolve,hm0,aoe,Deferred.ofValue,Sem.run_pure]
  ·have Hx: ¬fn.name= "runtime.NumGoroutine" :=by simpa using H
   simp[invoke,callFunc,aqv,hf,Hx,M]
  ·have hy:an ((G.push w.heap.size 0 0).push (w.alloc (.deferred (some []))).heap.size 0 0) (.fn (.yield (E.heap.length+1)) [] []) (.func (.yield (w.heap.size+1)) #[] #[]):=by
     refine⟨_,#[],#[],rfl,⟨F,_,rfl,λ_=>by simp[Gh.push,i]⟩,by simp[aF],by simp[aF]⟩
   have z:=WE (P:=P) hf M H d t #[.func (.yield (w.heap.size+1)) #[] #[]] k;have Z:E.Ext ((E.push .bt).push (.loop .ready none bR fr.env N.toList as bd)):=(AS.Ext.push _ _).trans (.push _ _);have main: ∀cr,C (g'.get fr.env) [.fn (.yield (E.heap.length+1)) [] []] ((E.push .bt).push (.loop .ready none bR fr.env N.toList as bd))=some cr->
     CallsIn (W none) 0 P f (d++ #[.func (.yield (w.heap.size+1)) #[] #[]]++t) k (Ends P B ay ((G.push w.heap.size 0 0).push (w.alloc (.deferred (some []))).heap.size 0 0) ((E.push .bt).push (.loop .ready none bR fr.env N.toList as bd)) cr):=by
    intro cr K;have:=hC _ _ _ _ K _ k (a.eval g) #[.func (.yield (w.heap.size+1)) #[] #[]] hw2 ((aob.mono s).mono p) ⟨_,_,rfl,hy,by simp[aF]⟩;rw[A1,z]at this;exact this
   have hmarks: ∀x,((G.push w.heap.size 0 0).push (w.alloc (.deferred (some []))).heap.size 0 0).le x->gI dg x (E.heap.length::fr.marks) ({target:=.collected w.heap.size,args:= #[]}::a.defers):=by
    intro x hG';refine gI.mono hG' ⟨_,_,w.heap.size,rfl,rfl,aod,λ_=>by simp[Gh.push,i],(hm.mono s).mono p⟩
   split at u
   ·rename_i v E' K;refine Nw ((main _ K).mono λe q m=>?_);cases e with
    |panicked _=>exact m.elim
    |outgrown=>exact m.elim
    |returned v'=>
     obtain⟨x,U,q2,q3,q4⟩:=m;unfold endLoop at u;split at u
     ·rename_i st A ff env Dq Hy jg Y;split at u
      ·cases u
      ·rename_i vE;have I:x.on (E.heap.length+1):=U.on _ F;obtain⟨o0,L',ob,os,oj,_,oe,op,Nz,aoh⟩:=q2.obj _ _ Y I.2;have WJ:x.bf (E.heap.length+1)=w.heap.size+1:=by
        rw[(U.same (E.heap.length+1) F (by rw[o0];simp[Gh.push,i])).1];simp[Gh.push,i]
       rw[WJ]at ob;have V: (Instr.endLoop (w.heap.size+1)).run P q= .ok L'.pending (eY q (w.heap.size+1) (.loop {L' with state:=.exhausted})):=by
        have NA: ¬L'.state= .busy:=by rw[os];exact vE
        simp[Instr.endLoop,Instr.getLoop,getObj,setObj,Sem.run,ob,NA,eY]
       have D:aX P B ay x (E'.set (E.heap.length+1) (.loop .exhausted A ff env Dq Hy jg) 0) (eY q (w.heap.size+1) (.loop {L' with state:=.exhausted})):=by
        have:=q2.put I (O:=.loop {L' with state:=.exhausted}) (o':=.loop .exhausted A ff env Dq Hy jg) 0 ⟨o0,{L' with state:=.exhausted},vz (q2.low _ I).2,rfl,oj,trivial,oe,op,Nz,aoh⟩;rw[WJ]at this;exact this
       have J:E.Ext (E'.set (E.heap.length+1) (.loop .exhausted A ff env Dq Hy jg) 0):=(Z.trans q4).trans (.set Y λn hn _=>hn);have l:=Gh.le_trans (Gh.le_trans s p) U;generalize eY q (w.heap.size+1) (.loop {L' with state:=.exhausted})=T at D V;refine⟨L'.pending,T,V,?_⟩;split at u
       ·cases u;simp only[yz]at oj;rw[oj];exact hQ _ _ _ ⟨x,l,D,he.mono l,hmarks x U,J,trivial⟩
       ·rename_i j;split at u
        ·rename_i ex hex;cases u;obtain⟨code,Dr,NB⟩:=an6 (r:=none) (n:=n) (P:=P) (Q:=Q) oj hex (a:={a with defers:=[{target:=.collected w.heap.size,args:= #[]}]++a.defers}) (w:=T)
          (λe aoi=>hQ _ _ _ ⟨x,l,D,he.mono l,hmarks x U,J,aoi x⟩)
         rw[Dr];exact NB
        ·cases u
     ·cases u
   ·rename_i v E' K;cases u;refine Nw ((main _ K).mono λe q m=>?_);cases e with
    |returned _=>exact m.elim
    |outgrown=>exact m.elim
    |panicked chain=>
     obtain⟨x,v',Nx,U,q2,q3,q4⟩:=m;have l:=Gh.le_trans (Gh.le_trans s p) U;exact hQ _ _ _ ⟨x,l,q2,he.mono l,hmarks x U,Z.trans q4,v',Nx,q3⟩
   ·cases u
 ·cases u
end
def A2(P:Program)(X:Ctx)(B:Nat)(ay:World):Prop:=
 ∀ (dg:List Deferred) (C:bz),fS P B ay C-> ∀ (rows:Bool) (r:oN) (n nt id:Nat) (ops:Array Oper) (xs:List aR) (ys:List (aR×lN)),ll P rows ops ops.toList=some xs->(∀x∈xs,∀d,x.dst=some d->d<nt)->M5 ops xs=some ys->
   A0 P B ay dg r n nt (.region id ops true) (λfr E=>gH X C [] (il E.heap.length ys) fr (E.mZ (dL ys)))
def wV{C:bz}(hC:fS P B ay C)(hg:fH X B ay)(hX:pV P X)(gT:A2 P X B ay){L:eL}(hL:yS L){rows:Bool}{bR:FuncId}{rd:Bool}{r:oN}(S:rd=r.isSome):
  ∀ (c:Code) (pc:PC),fk P rows nt c=some pc->A0 P B ay dg r n nt c (bc X C L bR rd pc):=by
 intro c
 induction c with
 |skip=>
  intro pc h G E w fr a res Q hw he hm b i;simp only[fk,adT]at h;subst h;simp only[bc,adT]at b;subst b;exact wpIn_skip (i _ _ _ ⟨G,G.le_refl,hw,he,hm,.refl E,trivial⟩)
 |label l=>
  intro pc h G E w fr a res Q hw he hm b i;simp only[fk,adT]at h;subst h;simp only[bc,adT]at b;subst b;exact wpIn_label (i _ _ _ ⟨G,G.le_refl,hw,he,hm,.refl E,trivial⟩)
 |seq x y q v=>
  intro pc h G E w fr a res Q hw he hm b i;simp only[fk]at h;split at h
  ·rename_i U V K Y;cases h;simp only[bc]at b;split at b
   ·rename_i m N hb;refine aAR (q U K G E w fr a _ _ hw he hm hb (λe a' w' f=>?_));obtain⟨j,J,I,H,F,D,u⟩:=f;cases e<;>simp[gb]at u;exact v V Y j N w' m a' res Q I H F b (λe a w hh=>i e a w (hh.trans J D))
   ·rename_i z;refine aAR (q U K G E w fr a res _ hw he hm b (λe a' w' f=>?_));have hq:=i e a' w' f;obtain⟨j,J,I,H,F,D,u⟩:=f;obtain⟨ex,m,N⟩:=res;cases e<;>first|exact hq| (exfalso;cases ex<;>simp[gb]at u;exact z m N b)
  ·cases h
 |cond c x y q v=>
  intro pc h G E w fr a res Q hw he hm b i;simp only[fk]at h;split at h
  ·rename_i c' U V M K Y;cases h;simp only[bc]at b;split at b
   ·rename_i t ht;have o:=cz he M;rw[ht]at o;simp only[an]at o;refine wpIn_cond o ?_;cases t with
    |true=>simp only[ag6]at b⊢;exact q U K G E w fr a res Q hw he hm b i
    |false=>simp only[afE,ai5]at b⊢;exact v V Y G E w fr a res Q hw he hm b i
   ·cases b
  ·cases h
 |block id c O=>
  intro pc h G E w fr a res Q hw he hm b i;simp only[fk]at h;obtain⟨p,M,rfl⟩:=afF.1 h;simp only[bc]at b;split at b
  ·rename_i id' m N hb;refine wpIn_block (O p M G E w fr a _ _ hw he hm hb (λe a' w' f=>?_));obtain⟨j,J,I,H,F,D,u⟩:=f;cases e<;>simp[gb]at u;subst u;simp only[Exit.inBlock];split at b
   ·rename_i A;cases b;rw[adY A];exact i _ _ _ ⟨j,J,I,H,F,D,trivial⟩
   ·rename_i A;cases b;rw[adU A];exact i _ _ _ ⟨j,J,I,H,F,D,rfl⟩
  ·rename_i z;refine wpIn_block (O p M G E w fr a res _ hw he hm b (λe a' w' f=>?_));have hq:=i e a' w' f;obtain⟨j,J,I,H,F,D,u⟩:=f;obtain⟨ex,m,N⟩:=res;cases e<;>first|exact hq| (exfalso;cases ex<;>simp[gb]at u;exact z _ m N b)
 |loop c O=>
  intro pc h G E w fr a res Q hw he hm b i;simp only[fk]at h;obtain⟨p,M,rfl⟩:=afF.1 h;simp only[bc]at b;obtain⟨k,hk⟩:=hL _ _ _ _ b;exact an5 (O p M) k G E w fr a res Q hw he hm hk i
 |exit id=>
  intro pc h G E w fr a res Q hw he hm b i;simp only[fk,adT]at h;subst h;simp only[bc,adT]at b;subst b;exact wpIn_exit (i _ _ _ ⟨G,G.le_refl,hw,he,hm,.refl E,rfl⟩)
 |ret=>
  intro pc h G E w fr a res Q hw he hm b i;simp only[fk,adT]at h;subst h;simp only[bc,adT]at b;subst b;exact wpIn_ret (i _ _ _ ⟨G,G.le_refl,hw,he,hm,.refl E,trivial⟩)
 |region id ops draw=>
  intro pc h;simp only[fk]at h;split at h
  ·rename_i xs R;split at h
   ·rename_i T;have hd: ∀x∈xs,∀d,x.dst=some d->d<nt:=by
     intro x K d Z;have:=afP.1 T x K;rw[Z]at this;simpa using this
    cases draw with
    |false=>
     simp only[afE,ai5,adT]at h;subst h;intro G E w fr a res Q hw he hm b i;simp only[bc]at b;exact wpIn_region (Ny hC hg ops.toList _ xs (an4 ops) R hd G E w fr a res Q hw he hm b i)
    |true=>
     simp only[ag6]at h;obtain⟨ys,W,rfl⟩:=afF.1 h;intro G E w fr a res Q hw he hm b i;simp only[bc]at b;exact gT _ C hC rows r n nt id ops xs ys R hd W G E w fr a res Q hw he hm b i
   ·cases h
  ·cases h
 |rangeFunc g ps assign body iha ihb=>
  intro pc h;simp only[fk]at h;split at h
  ·rename_i g' as bd h1 h2 h3;split at h
   ·rename_i h4;cases h;cases r with
    |none=>
     subst S;exact an7 hC hX h1 h2 h3 h4
    |some l=>
     subst S;intro G E w fr a res Q hw he hm b i;simp[bc]at b
   ·cases h
  ·cases h
 |scope c O=>intro pc h;simp[fk]at h
 |goto l=>intro pc h;simp[fk]at h
 |refuse s=>intro pc h;simp[fk]at h
end
section
variable{P:Program}{X:Ctx}{B:Nat}{ay:World}{dg:List Deferred}
def aoj{x:Value}(h: (Instr.loadAt t x).run P w= .ok v w): (do loadVar t (<-asAddr x):Sem Value).run P w= .ok v w:=by
 cases x with
 |pointer a=>
  cases a with
  |some a=>simpa[Instr.loadAt,Instr.sureAddr,asAddr]using h
  |none=>simp[Instr.loadAt,Instr.sureAddr,Sem.run_bind,stuck,Sem.run,Result.andThen]at h
 |_=>simp[Instr.loadAt,Instr.sureAddr,Sem.run_bind,stuck,Sem.run,Result.andThen]at h
def Ds(b:Array Value):ResultVar->Sem Value
 |.tmp t=>pure (b.getD t undef)
 |.cell a t=>do loadVar t (<-asAddr (b.getD a undef))
def aok(fn:Func)(b:Array Value):results fn b=(do let vs<-fn.results.mapM (Ds b);pure (if h:vs.size=1 then vs[0]else .tuple vs)):=by
 have:Ds b=(λ
  |.tmp t=>pure (b.getD t undef)
  |.cell a t=>do loadVar t (<-asAddr (b.getD a undef))):=by
  funext x
  cases x<;>rfl
 unfold results;rw[this];rfl
theorem NC(hg:fH X B ay){G:Gh}{E:AS}{w:World}(k:aX P B ay G E w){nt:Nat}{e:Env}{d:Array Value}(j:cK G nt e d): ∀ (l:List ResultVar) (rs:List RV) (vs:List AV),pT P l=some rs->kp X E e rs=some vs->
  ∃g,(l.mapM (Ds d)).run P w= .ok g w/\aF G vs g
 | [],rs,vs,h,f=>by
   simp only[pT,adT]at h;subst h;simp only[kp,adT]at f;subst f;exact⟨[],by simp,by simp[aF]⟩
 |.tmp t::l,rs,vs,h,f=>by
  simp only[pT]at h;obtain⟨i,p,rfl⟩:=afF.1 h;simp only[kp,pQ]at f;split at f
  ·rename_i c o;cases f;obtain⟨g,e1,r⟩:=NC hg k j l i c p o;refine⟨d.getD t undef::g,?_,⟨_,_,rfl,Na j t,r⟩⟩;rw[aAC];simp only[Sem.run_bind,Ds,Sem.run_pure,Result.andThen_ok];rw[e1];simp only[Result.andThen_ok,Sem.run_pure]
  ·cases f
 |.cell a t::l,rs,vs,h,f=>by
  simp only[pT]at h;split at h
  ·rename_i b n i u s p;cases h;simp only[kp,pQ]at f;split at f
   ·rename_i v o;split at f
    ·rename_i c m;cases f;obtain⟨g,e1,r⟩:=NC hg k j l i c p m;obtain⟨v',y,q⟩:=VQ k hg u s (Na j a) o;have e3:=aoj y;refine⟨v'::g,?_,⟨_,_,rfl,q,r⟩⟩;rw[aAC];have x: (Ds d (.cell a t)).run P w= .ok v' w:=e3;simp only[Sem.run_bind];rw[x];simp only[Result.andThen_ok];rw[e1];simp only[Result.andThen_ok,Sem.run_pure]
    ·cases f
   ·cases f
  ·cases h
def Dt(hg:fH X B ay){G:Gh}{E:AS}(k:aX P B ay G E w){e:Env}{b:Array Value}(m:cK G nt e b){fn:Func}{f:List RV}{v:AV}(h:pT P fn.results.toList=some f)(d:fQ X E e f=some v):
  ∃v',(results fn b).run P w= .ok v' w/\an G v v':=by
 have key: ∀vs,kp X E e f=some vs-> ∃a:List Value,aF G vs a/\ (results fn b).run P w= .ok (if h:a.toArray.size=1 then a.toArray[0]else .tuple a.toArray) w:=by
  intro vs c;obtain⟨a,e1,r⟩:=NC hg k m _ f vs h c;refine⟨a,r,?_⟩;rw[aok,Array.mapM_eq_mapM_toList];simp only[Sem.run_bind,Sem.run_map];rw[e1];simp[Result.andThen]
 unfold fQ at d;split at d
 ·rename_i i c;cases d;obtain⟨a,r,e1⟩:=key _ c;simp only[aF]at r;obtain⟨v',q,rfl,j,rfl⟩:=r;exact⟨v',by rw[e1];simp,j⟩
 ·rename_i vs g c;cases d;obtain⟨a,r,e1⟩:=key _ c;have l:=r.length;refine⟨.tuple a.toArray,?_,⟨_,rfl,by simpa using r⟩⟩;rw[e1,dif_neg];intro n;have:vs.length=1:=by simpa[l]using n
  obtain⟨x,rfl⟩:=List.length_eq_one_iff.1 this;exact g x rfl
 ·cases d
theorem yT: ∀ (ms:lN) (E a:AS),dU E ms=some a->E.Ext a
 | [],E,a,h=>by simp only[dU,adT]at h;subst h;exact .refl E
 |m::ms,E,a,h=>by
  simp only[dU]at h;split at h
  ·rename_i hm;exact(AS.Ext.set (o':=.dead) (refs:=0) hm λ_ _ _=>trivial).trans (yT ms _ a h)
  ·cases h
theorem yY{n:Nat}{fn:Func}{b:Array Value}{R:Ending->World->Prop}{u:FrameMode}(i:u≠ .run){G:Gh}: ∀ (ms:lN) (f:List Deferred) (E a:AS) (w:World),gI dg G ms f->aX P B ay G E w->dU E ms=some a->
  (∀w',aX P B ay G a w'->LeavesInM (W none) n P fn b R dg u w')->LeavesInM (W none) n P fn b R f u w
 | [],f,E,a,w,e,hw,c,h=>by
   simp only[gI]at e;subst e;simp only[dU,adT]at c;subst c;exact h w hw
 |m::ms,f,E,a,w,e,hw,c,h=>by
  simp only[gI]at e;obtain⟨d,r,k,rfl,p,j,o,l⟩:=e;simp only[dU]at c;split at c
  ·rename_i hm;obtain⟨s,q⟩:=hw.obj m _ hm j.2;have g:=o s;subst g;refine⟨i,.inl ⟨_,eY w (G.bf m) (.deferred none),p,?_,?_⟩⟩
   ·simp[Instr.takeDeferred,getObj,setObj,Sem.run,q,eY]
   ·exact yY i ms r (E.set m .dead 0) a _ l (hw.put j 0 trivial) c h
  ·cases c
def Hz{G:Gh}{args:List AV}{a:Array Value}(e:aF G args a.toList)(j:args.length<=nt):cK G nt (dq args) (a++Array.replicate (nt-a.size) undef):=by
 have f:a.size=args.length:=by rw[<-amj];exact e.length
 refine⟨by simp;omega,λt v b=>?_,λt b=>?_⟩
 ·simp only[dq,afQ];rw[Array.getElem?_append]at b;split at b
  ·rename_i h;have c:t<args.length:=by omega
   obtain⟨u,hu,g⟩:=e.get t args[t] (aep c);rw[aep c];have:some u=some v:=by rw[<-hu,<-b];simp
   cases this;exact g
  ·rename_i i;have d:args.length<=t:=by omega
   rw[alG d];rw[axV]at b;split at b
   ·cases b;exact yN
   ·cases b
 ·simp only[dq,afQ];rw[alG (by omega)];rfl
theorem WK{G:Gh}{nt:Nat}: ∀ (ps:lN) (args:List AV) (e:Env) (tmps:Array Value) (a:List Value),cK G nt e tmps->aF G args a->(∀p∈ps,p<nt)->cK G nt (hU e ps args) ((ps.zip a).foldl (λtmps (p:Nat×Value)=>tmps.setIfInBounds p.1 p.2) tmps)
 | [],args,e,tmps,a,he,b,c=>by simpa[hU]using he
 |p::ps,[],e,tmps,a,he,b,c=>by
  simp only[aF]at b;subst b;simpa[hU]using he
 |p::ps,x::xs,e,tmps,a,he,b,c=>by
  simp only[aF]at b;obtain⟨v,q,rfl,g,f⟩:=b;simp only[hU,List.zip_cons_cons,aqD];exact WK ps xs _ _ q (he.set (c p (by simp)) g) f (λy d=>c y (by simp[d]))
def gJ(P:Program)(B:Nat)(ay:World)(f:FuncId)(p:List AV->AS->Option aU):Prop:=
 ∀args E b,p args E=some b-> ∀G w (a:Array Value),aX P B ay G E w->aF G args a.toList->Dn P (Ends P B ay G E b) ((callFunc f a).run P w)
section
variable{C:bz}(hC:fS P B ay C)(hg:fH X B ay)(hX:pV P X)(gT:A2 P X B ay){L:eL}(hL:yS L)
include hC hg hX gT hL
theorem aol{pf:PF}(U:X.code f=some pf){args:List AV}{E:AS}{q:aU}(S:args.length<=pf.ntmps)
  (h:leave X E.heap.length E.lo pf (bc X C L f false pf.body {env:=dq args,marks:=[]} {heap:=E.heap,lo:=none})=some q) {G:Gh} {w:World} {b:Array Value} (z:aX P B ay G E w) (T:aF G args b.toList):
  CallsIn (W none) 0 P f b w (Ends P B ay G E q):=by
 obtain⟨rows,fn,F,n⟩:=hX f pf U;obtain⟨c,V,l,m,A,D⟩:=Hw n;cases g:bc X C L f false pf.body {env:=dq args,marks:=[]} {heap:=E.heap,lo:=none}with
 |none=>rw[g]at h;simp[leave]at h
 |some res=>
  rw[g]at h;have he:cK G fn.ntmps (dq args) (b++Array.replicate (fn.ntmps-b.size) undef):=Hz T (by rw[<-A];exact S);refine ayX F V trivial (wV hC hg hX gT hL (r:=none) rfl c pf.body l G {heap:=E.heap,lo:=none} w {env:=dq args,marks:=[]} _ res _ (z.lo none) he rfl g (λe a w' R=>?_)) rfl;obtain⟨Y,M,K,O,J,I,p⟩:=R;obtain⟨ex,fr,H⟩:=res;have k:qW X E.heap.length E.lo pf fr H=some q->LeavesInM (W none) 0 P fn a.tmps (Ends P B ay G E q) a.defers .returning w':=by
   intro h;unfold qW at h;split at h
   ·rename_i j o;split at h
    ·rename_i v Q;cases h;refine yY (by simp) fr.marks a.defers H j w' J K o (λs d=>?_);obtain⟨v',e1,N⟩:=Dt hg d O m Q;refine⟨v',e1,?_⟩;obtain⟨i,y,x,u,t⟩:=yM z M d (I.trans (yT _ _ _ o)) N;exact⟨i,y,x,u,t⟩
    ·cases h
   ·cases h
  cases ex with
  |normal=>cases e<;>simp[gb]at p;exact k h
  |ret=>cases e<;>simp[gb]at p;exact k h
  |exit id=>simp[leave]at h
  |panic v=>
   cases e<;>simp[gb]at p;rename_i chain;obtain⟨v',rfl,rv⟩:=p;simp only[leave]at h;split at h
   ·rename_i j o;cases h;refine yY (by simp) fr.marks a.defers H j w' J K o (λs d=>?_);obtain⟨i,y,x,u,t⟩:=yM z M d (I.trans (yT _ _ _ o)) rv;exact⟨i,v',rfl,y,x,u,t⟩
   ·cases h
theorem aom{args:List AV}{E:AS}{cr:aU}(h:kq X C L l args E=some cr){G:Gh}(hw:aX P B ay G E w)(T:G.on l)(hl:aF G args c.toList):
  Dn P (Ends P B ay G E cr) ((Instr.yield (G.bf l) c).run P w):=by
 unfold kq at h;split at h
 ·rename_i st aCq f env ps assign body aon;split at h
  ·rename_i U;obtain⟨o0,b,ob,os,oj,_,oe,op,Nz,rows,oa,obd⟩:=hw.obj l _ aon T.2;have sH:c.size=args.length:=by rw[<-amj];exact hl.length
   have HA:b.params.size=ps.length:=by rw[<-op];simp
   have hy: (Instr.yield (G.bf l) c).run P w= .ok (.round (G.bf l) b.fn ((b.params.zip c).foldl (λtmps (t,a)=>tmps.setIfInBounds t a) b.tmps) b.assign b.body) w:=by
    simp[Instr.yield,Instr.getLoop,getObj,Sem.run,ob,sH,HA,U]
   rw[hy];have htm: (b.params.zip c).foldl (λtmps (t,a)=>tmps.setIfInBounds t a) b.tmps=(ps.zip c.toList).foldl (λtmps (p:Nat×Value)=>tmps.setIfInBounds p.1 p.2) b.tmps:=by
    rw[<-Array.foldl_toList,Array.toList_zip,op]
   rw[htm];split at h
   ·rename_i fr Z ha;split at h
    ·rename_i g f' u S V jg I;have he:=WK ps args env b.tmps c.toList oe hl (λp hp=>by simpa using afP.1 Nz p hp);refine roundIn_of_wpIn (F:=W none) trivial (wV hC hg hX gT hL (r:=some (G.bf l)) (rd:=true) (bR:=f) rfl b.assign assign oa G {heap:=E.heap,lo:=none} w {env:=hU env ps args,marks:=[]} _ _ _ (hw.lo none) he rfl ha (λe a Y hr=>?_));obtain⟨z,q1,q2,q3,q4,q5,q6⟩:=hr;cases e<;>simp[gb]at q6;obtain⟨p0,y,pb,pst,pj,_,pe,pp,Dq,aor⟩:=q2.obj l _ I (q1.on l T).2;have k:z.on l:=q1.on l T;have hlG:G.on l:=T;have M:z.bf l=G.bf l:=(q1.same l hlG (by rw[p0,o0])).1;refine⟨eY Y (G.bf l) (.loop {y with state:=.busy}),?_,?_⟩
     ·rw[<-M];simp[Instr.beginRound,Instr.getLoop,getObj,setObj,Sem.run,pb,pst,eY]
     ·have aot:aX P B ay z (Z.set l (.loop .busy g f' u S V jg) 0) (eY Y (G.bf l) (.loop {y with state:=.busy})):=by
        have:=q2.put k (O:=.loop {y with state:=.busy}) (o':=.loop .busy g f' u S V jg) 0 ⟨p0,{y with state:=.busy},vz (q2.low _ k).2,rfl,pj,trivial,pe,pp,Dq,aor⟩;rw[M]at this;exact this
      cases wW:bc X C L f true body fr (Z.set l (.loop .busy g f' u S V jg) 0)with
      |none=>rw[wW]at h;simp[endRound]at h
      |some res=>
       rw[wW]at h;refine wV hC hg hX gT hL (r:=some (G.bf l)) (rd:=true) (bR:=f) rfl b.body body obd z _ _ fr a res _ aot q3 q4 wW (λe a' D hr=>?_);obtain⟨Q,u1,u2,u3,u4,u5,u6⟩:=hr;obtain⟨ex,HB,R⟩:=res;simp only[endRound]at h;split at h
       ·rename_i j aCr aCs N d i o m hj H;cases h;obtain⟨v0,x,vb,vst,vj,_,ve,vp,vps,aov⟩:=u2.obj l _ H (u1.on l k).2;have J:Q.on l:=u1.on l k;have K:Q.bf l=G.bf l:=by rw[<-M];exact(u1.same l k (by rw[v0,p0])).1
        have aow:=Gh.le_trans q1 u1;have aox:AS.Ext {heap:=E.heap,lo:=none} (R.set l (.loop (if j.isNone then .ready else .done) j N d i o m) 0):=
         ((q5.trans (AS.Ext.set (o':=.loop .busy g f' u S V jg) (refs:=0) I λn hn _=>hn)).trans u5).trans (AS.Ext.set (o':=.loop (if j.isNone then .ready else .done) j N d i o m) (refs:=0) H λn hn _=>hn)
        have fin: ∀ (q:Option Code),yz j q-> ∃v w',(Instr.endRound (G.bf l) q).run P D= .ok v w'/\Ends P B ay G E (.ret (.bool j.isNone) (finish E.heap.length E.lo (.bool j.isNone) (R.set l (.loop (if j.isNone then .ready else .done) j N d i o m) 0)).2) (.returned v) w':=by
         intro q A;have s:q.isNone=j.isNone:=by
          cases j with
          |none=>simp only[yz]at A;subst A;rfl
          |some p=>cases p<;>simp only[yz]at A<;>first|exact A.elim| (subst A;rfl)
         refine⟨.bool q.isNone,eY D (G.bf l) (.loop {x with state:=if q.isNone then .ready else .done,pending:=q}),?_,?_⟩
         ·rw[<-K];simp[Instr.endRound,Instr.getLoop,getObj,setObj,Sem.run,vb,eY]
         ·have aoy:aX P B ay Q (R.set l (.loop (if j.isNone then .ready else .done) j N d i o m) 0) (eY D (G.bf l) (.loop {x with state:=if q.isNone then .ready else .done,pending:=q})):=by
            have:=u2.put J (O:=.loop {x with state:=if q.isNone then .ready else .done,pending:=q}) (o':=.loop (if j.isNone then .ready else .done) j N d i o m) 0
             ⟨v0,{x with state:=if q.isNone then .ready else .done,pending:=q},vz (u2.low _ J).2,by show(if q.isNone=true then LoopState.ready else LoopState.done)=_;rw[s],A,trivial,ve,vp,vps,aov⟩
            rw[K]at this;exact this
          obtain⟨aoz,s1,s2,s3,s4⟩:=yM (v:=.bool j.isNone) (v':=.bool q.isNone) hw aow aoy aox (by simp[an,s]);exact⟨aoz,s1,s2,by simp[an,s],s4⟩
        cases ex with
        |normal=>
         simp only[pR,adT]at hj;subst hj;cases e<;>simp[gb]at u6;exact fin none rfl
        |ret=>
         simp only[pR,adT]at hj;subst hj;cases e<;>simp[gb]at u6;exact fin (some .ret) rfl
        |exit id=>
         simp only[pR,adT]at hj;subst hj;cases e<;>simp[gb]at u6;subst u6;exact fin (some (.exit id)) rfl
        |panic v=>simp[pR]at hj
       ·cases h
    ·cases h
   ·cases h
  ·cases h
 ·cases h
theorem aoA(J: ∀f p,X.bW f=some p->gJ P B ay f p):fS P B ay (step X C L):=by
 intro fv args E N h G w K b hw g z;unfold step at h;split at h
 ·rename_i f first cap
  simp only[an,nC]at g;obtain⟨M,a,d,rfl,rfl,t,A⟩:=g;have i:wU (.func (.func f) a d) b=callFunc f (a++b++d):=rfl;rw[i];have e:aF G (first++args++cap) (a++b++d).toList:=by
   simp only[Array.toList_append];exact(t.append z).append A
  split at h
  ·rename_i p D;exact J f p D _ _ _ h G w _ hw e
  ·split at h
   ·rename_i pf q;split at h
    ·rename_i F;obtain⟨rows,fn,v,o⟩:=hX f pf q;obtain⟨c,I,_,_,_,m⟩:=Hw o;have j:=WE (P:=P) v I m a d b w;rw[i]at j;rw[j];exact aol hC hg hX gT hL q F h hw e
    ·cases h
   ·cases h
 ·rename_i l cap;simp only[an,nC]at g;obtain⟨M,a,d,rfl,⟨s,k,rfl,H⟩,t,A⟩:=g;have n:G.ak l=0:=by
   unfold kq at h;split at h
   ·rename_i st y f env ps assign body r;exact(hw.obj l _ r s.2).1
   ·cases h
  have u:=H n;subst u;have x:a= #[]:=by
   simp only[aF]at t;apply apZ;simpa using t
  subst x;have i:wU (.func (.yield (G.bf l)) #[] d) b=Instr.yield (G.bf l) (#[]++b):=rfl;rw[i,Array.empty_append];exact aom hC hg hX gT hL h hw s z
 ·cases h
end
end
section
variable{X:Ctx}
theorem oD{x:ao}{e a:Env}(h: ∀t∈x.tmps,e t=a t):x.get e=x.get a:=by
 cases x with
 |t i=>exact h i (by simp[ao.tmps])
 |c v=>rfl
def Du{x:Option ao}{e a:Env}(h: ∀y∈x.toList,∀t∈y.tmps,e t=a t):x.map (·.get e)=x.map (·.get a):=by
 cases x with
 |none=>rfl
 |some y=>grind [oD]
def HC{xs:List ao}{e a:Env}(h: ∀t∈hO xs,e t=a t):xs.map (·.get e)=xs.map (·.get a):=by
 apply anI;intro x b;exact oD λt c=>h t (by simp only[hO,apS];grind)
def aoB{a:List (Nat×Nat×ao)}{e b:Env}(h: ∀t∈hO (a.map (·.2.2)),e t=b t):a.map (λp=>(p.1,p.2.1,p.2.2.get e))=a.map (λp=>(p.1,p.2.1,p.2.2.get b)):=by
 apply anI;intro p d;rw[oD λt c=>h t (by simp only[hO,apS,afH];grind)]
def WL{a b:ao}{e d:Env}(h: ∀t∈hO [a,b],e t=d t):a.get e=a.get d/\b.get e=b.get d:=
 ⟨oD λt c=>h t (by simp[hO,c]),oD λt c=>h t (by simp[hO,c])⟩
def aoC{a b c:ao}{e f:Env}(h: ∀t∈hO [a,b,c],e t=f t):a.get e=a.get f/\b.get e=b.get f/\c.get e=c.get f:=
 ⟨oD λt d=>h t (by simp[hO,d]),oD λt d=>h t (by simp[hO,d]),oD λt d=>h t (by simp[hO,d])⟩
def HD{C:bz}{i:I}{e m:Env}(h: ∀t∈i.reads,e t=m t)(E:AS):exec X C i e E=exec X C i m E:=by
 cases i with
 |mov x|box x|nilck x|un _ x|conv _ x|s2b x|mki _ x|ta _ x _ _|ext x _|len _ x|clear _ x|panic x|faddr _ x|fld _ _ _ x|load _ _ x=>
  simp only[exec,oD h]
 |alloc _|oy=>rfl
 |pick a b c|pN _ a b c=>obtain⟨l,k,o⟩:=aoC h;simp only[exec,l,k,o]
 |build _ ps|bslice _ _ ps|sv _ _ _ ps=>simp only[exec,aoB h]
 |store _ a v|bin _ a v|shf _ a v|eq _ a v|ne _ a v|C7 _ _ _ a v|iaddra _ _ a v|iaddrs _ a v|idxa _ _ _ a v|idxs a v|lookup _ _ a v _|append _ _ _ a v|copy _ a v=>
  obtain⟨l,k⟩:=WL h;simp only[exec,l,k]
 |mkf f a b=>
  simp only[exec];rw[HC (xs:=a) λt d=>h t (by simp only[I.reads,hO,ak1,aev];exact .inl d),
   HC (xs:=b) λt d=>h t (by simp only[I.reads,hO,ak1,aev];exact .inr d)]
 |slstr x lo j|slarr _ _ x lo j=>
  simp only[I.reads,hO,aoX,ak1,aev,apS]at h;simp only[exec];rw[oD λt d=>h t (.inl d),Du λy g t d=>h t (.inr (.inl ⟨y,g,d⟩)),Du (x:=j) λy g t d=>h t (.inr (.inr ⟨y,g,d⟩))]
 |slsl _ x lo j n=>
  simp only[I.reads,hO,aoX,ak1,aev,apS]at h;simp only[exec];rw[oD λt d=>h t (.inl d),Du (x:=lo) λy g t d=>h t (.inr (.inl (.inl ⟨y,g,d⟩))),Du (x:=j) λy g t d=>h t (.inr (.inl (.inr ⟨y,g,d⟩))),Du (x:=n) λy g t d=>h t (.inr (.inr ⟨y,g,d⟩))]
 |max xs|min xs=>simp only[exec,HC h]
 |call f as=>
  simp only[I.reads,hO,aoX,aev]at h;simp only[exec];rw[oD λt d=>h t (.inl d),HC λt d=>h t (.inr d)]
def HE{i:I}{e b:Env}(h: ∀t∈i.reads,e t=b t)(E c:AS):aY i e E c=aY i b E c:=by
 cases i with
 |load _ _ x=>simp only[aY,oD h]
 |store _ a v=>obtain⟨d,_⟩:=WL h;simp only[aY,d]
 |_=>rfl
def aoD{C:bz}{i:I}{e:Env}(j:i.cls=0): ∃o,∀E,exec X C i e E=ga E o:=by
 cases i<;>simp only[I.cls,reduceCtorEq]at j
 case mov x=>exact⟨some _,λ_=>rfl⟩
 case mki t x=>exact⟨some _,λ_=>rfl⟩
 case mkf f a b=>exact⟨some _,λ_=>rfl⟩
 case nilck x=>exact⟨_,λ_=>rfl⟩
 case bin op x y=>exact⟨_,λ_=>rfl⟩
 case un op x=>exact⟨_,λ_=>rfl⟩
 case slstr x lo g=>exact⟨_,λ_=>rfl⟩
 case slsl n x lo g l=>exact⟨_,λ_=>rfl⟩
 case slarr n sz x lo g=>exact⟨_,λ_=>rfl⟩
 case faddr o x=>exact⟨_,λ_=>rfl⟩
 case iaddra n sz x i=>exact⟨_,λ_=>rfl⟩
 case iaddrs sz x i=>exact⟨_,λ_=>rfl⟩
 case idxa b n sz x i=>exact⟨_,λ_=>rfl⟩
 case idxs x i=>exact⟨_,λ_=>rfl⟩
 case ta z x t ok=>exact⟨_,λ_=>rfl⟩
 case max xs=>exact⟨_,λ_=>rfl⟩
 case min xs=>exact⟨_,λ_=>rfl⟩
 case pick c a b=>cases h:c.get e<;>first|exact⟨some _,λ_=>by simp only[exec,h];rfl⟩|exact⟨none,λ_=>by simp only[exec,h];rfl⟩
 case build z ps=>cases h:eK z (ps.map λp=>(p.1,p.2.1,p.2.2.get e))<;>first|exact⟨some _,λ_=>by simp only[exec,h];rfl⟩|exact⟨none,λ_=>by simp only[exec,h];rfl⟩
 case bslice z n ps=>cases h:eK (List.replicate n z).flatten (ps.map λp=>(p.1,p.2.1,p.2.2.get e))<;>first|exact⟨some _,λ_=>by simp only[exec,h];rfl⟩|exact⟨none,λ_=>by simp only[exec,h];rfl⟩
 case shf op x y=>
  cases h:x.get e<;>cases d:y.get e<;>first|exact⟨none,λ_=>by simp only[exec,h,d];rfl⟩|exact⟨_,λ_=>by simp only[exec,h,d];rfl⟩
 case eq k x y=>cases h:dy k (x.get e) (y.get e)<;>first|exact⟨some _,λ_=>by simp only[exec,h];rfl⟩|exact⟨none,λ_=>by simp only[exec,h];rfl⟩
 case ne k x y=>cases h:dy k (x.get e) (y.get e)<;>first|exact⟨some _,λ_=>by simp only[exec,h];rfl⟩|exact⟨none,λ_=>by simp only[exec,h];rfl⟩
 case conv k x=>cases h:x.get e<;>first|exact⟨some _,λ_=>by simp only[exec,h];rfl⟩|exact⟨none,λ_=>by simp only[exec,h];rfl⟩
 case s2b x=>
  cases h:x.get e with
  |str s=>
   by_cases d:s.size<=room
   ·exact⟨some _,λ_=>by simp only[exec,h,d,ag6];rfl⟩
   ·exact⟨none,λ_=>by simp only[exec,h,d,ai5];rfl⟩
  |_=>exact⟨none,λ_=>by simp only[exec,h];rfl⟩
 case fld b n off x=>cases h:x.get e<;>first|exact⟨none,λ_=>by simp only[exec,h];rfl⟩|exact⟨_,λ_=>by simp only[exec,h];rfl⟩
 case ext x i=>cases h:x.get e<;>first|exact⟨none,λ_=>by simp only[exec,h];rfl⟩|exact⟨_,λ_=>by simp only[exec,h];rfl⟩
theorem WM{i:I}(a:i.cls=0)(e:Env)(E b:AS):aY i e E b= .no:=by
 cases i<;>simp only[I.cls,reduceCtorEq]at a<;>rfl
theorem yZ{C:bz}{i:I}{e:Env}{E m:AS}{v:AV}(j:exec X C i e E=some (.ok v m))(g:aY i e E m= .no):m=E/\ ∀d,exec X C i e d=some (.ok v d)/\aY i e d d= .no:=by
 by_cases p:i.cls=0
 ·obtain⟨o,ho⟩:=aoD (X:=X) (C:=C) (e:=e) p;rw[ho]at j;obtain⟨rfl,rfl⟩:=eF j;exact⟨rfl,λd=>⟨by rw[ho];rfl,WM p e _ _⟩⟩
 ·cases i<;>simp only[I.cls,not_true_eq_false]at p
  case load b n x=>
   simp only[exec]at j;obtain⟨h,rfl⟩:=eF j;refine⟨rfl,λd=>?_⟩;simp only[aY]at g⊢;unfold cm at h;split at g<;>first|cases g|skip
   ·rename_i l;rw[l]at h;simp only at h;simp[exec,ga,cm,l,h]
   ·rename_i l;rw[l]at h;simp only at h;simp[exec,ga,cm,l,h]
  case store n a x=>simp only[aY]at g;split at g<;>cases g
  case len k x=>
   simp only[exec]at j;obtain⟨h,rfl⟩:=eF j;refine⟨rfl,λd=>⟨?_,g⟩⟩;have:gl d k (x.get e)=gl m k (x.get e):=by
    generalize x.get e=y;cases k<;>first|rfl| (cases y<;>first|rfl| (rename_i c;cases c<;>rfl))| (simp only[aY]at g;cases g)
   simp only[exec,this,h,ga]
  case call f as=>simp only[aY]at g;split at g<;>cases g
  all_goals simp[aY]at g
end
section
variable{X:Ctx}
theorem sK{C:bz}{i:I}{e:Env}{E c:AS}{v:AV}(d:exec X C i e E=some (.ok v c))(g:aY i e E c= .q\/ ∃id off n,aY i e E c= .rd id off n):c=E:=by
 cases i with
 |load b n x=>exact(eF d).2
 |lookup j z m k ok=>exact(eF d).2
 |len k x=>exact(eF d).2
 |call f as=>
  simp only[aY]at g
  grind
 |store n a x=>
  simp only[aY]at g
  grind
 |_=>rcases g with h| ⟨_,_,_,h⟩<;>simp[aY]at h
def A3:Option ae->Option (List AV)
 |some (.box cs _)=>some cs
 |_=>none
def wX{E:AS}{b:Bool}{id off:Nat}:cm X E b n (.ptr id off)=(A3 E.heap[id]?).bind λcs=>part b n cs off:=by
 unfold cm;simp only;cases h:E.heap[id]? with
 |none=>rfl
 |some o=>cases o<;>simp[A3]
theorem WN{cs vs:List AV}{off:Nat}(h:off+vs.length<=cs.length)(a:j<off\/off+vs.length<=j): (aM cs off vs)[j]?=cs[j]?:=by
 unfold aM;rcases a with a|a
 ·grind
 ·rw[afJ (by simp;omega),afJ (by simp;omega),alH]
  congr 1
  simp;omega
def aoE{cs vs:List AV}{off a:Nat}{b:Bool}(h:a+vs.length<=cs.length)(c:off+Nat.max n 1<=a\/a+vs.length<=off):part b n (aM cs a vs) off=part b n cs off:=by
 have hm:n<=Nat.max n 1:=aqy _ _;unfold part;rw[Nl h];cases b with
 |false=>grind [WN]
 |true=>
  simp only[ag6];split
  ·congr 2
   apply anZ;intro j;simp only[anH,alH];split
   ·exact WN h (by omega)
   ·rfl
  ·rfl
def WO{C:bz}{e:Env}{E s:AS}{v:AV}{a x:ao}{c:Nat}(l:exec X C (.store m a x) e E=some (.ok v s))(j:aY (.store m a x) e E s= .wr d c k)
  {b:Bool} {id off:Nat} (w:id≠d\/off+Nat.max n 1<=c\/c+k<=off):cm X s b n (.ptr id off)=cm X E b n (.ptr id off):=by
 simp only[aY]at j;split at j
 ·rename_i i o t;cases j;simp only[exec,t,km]at l;split at l
  ·rename_i u p;cases l;split at p
   ·rename_i cs g;split at p
    ·cases p;rw[wX,wX];by_cases f:id=d
     ·subst f;have q:id<E.heap.length:=(adg.1 g).1;have r:off+Nat.max n 1<=c\/c+(x.get e).cells.length<=off:=by omega
      simp only[AS.set,afD q,A3,g,apP];exact aoE (by omega) r
     ·simp[AS.set,adb (λh=>f h.symm)]
    grind
   grind
  grind
 ·cases j
 grind
theorem aoF{E i:AS}{ty:TypeId}{bytes:Nat}{s v:AV}{ys:List (List AV)}(h:dJ E ty sz bytes s ys=some (v,i)){b:Bool}{id off:Nat}:cm X i b n (.ptr id off)=cm X E b n (.ptr id off):=by
 have push: ∀ (ak sz:Nat) (ty:TypeId) (af:List (List AV)),cm X (E.push (.row ak sz ty af)) b n (.ptr id off)=cm X E b n (.ptr id off):=by
  intro ak sz ty af;rw[wX,wX];simp only[AS.push,List.getElem?_append];split
  ·rfl
  ·rw[alG (by omega:E.heap.length<=id)];cases l:id-E.heap.length<;>simp[A3]
 unfold dJ at h;split at h
 ·split at h
  ·split at h
   ·cases h;rfl
   ·split at h
    ·cases h;exact push _ _ _ _
    ·cases h
  ·split at h
   ·cases h;rfl
   ·split at h
    ·cases h;exact push _ _ _ _
    ·cases h
  ·split at h
   ·cases h;rfl
   ·cases h
  ·rename_i a ak d g len cD;split at h
   ·rename_i f k j af he;split at h
    ·split at h
     ·cases h;rfl
     ·split at h
      ·cases h;exact push _ _ _ _
      ·cases h;rw[wX,wX]
       congr 1
       by_cases c:a=id
       ·subst c;have e:a<E.heap.length:=(adg.1 he).1;rw[he];simp[AS.set,e,A3]
       ·simp[AS.set,adb c]
    ·cases h
   ·cases h
  ·cases h
 grind
def aoG{E e:AS}{a o:Nat}{x:AV}(h:km E n (.dw a ak i o) x=some e){b:Bool}{id off:Nat}:cm X e b m (.ptr id off)=cm X E b m (.ptr id off):=by
 unfold km at h;simp only at h;split at h
 ·rename_i w sz ty af he;split at h
  ·split at h
   ·cases h;rw[wX,wX];by_cases c:id=a
    ·subst c;have d:id<E.heap.length:=(adg.1 he).1;simp[AS.set,afD d,A3,he]
    ·simp[AS.set,adb (λh=>c h.symm)]
   grind
  grind
 grind
def WQ{C:bz}{i:I}{e:Env}{E f:AS}{v:AV}(d:exec X C i e E=some (.ok v f))(c:aY i e E f= .app){b:Bool}{id off:Nat}:cm X f b n (.ptr id off)=cm X E b n (.ptr id off):=by
 cases i with
 |append ty sz bytes s x=>
  simp only[exec]at d;split at d
  ·grind [aoF]
  grind
 |load _ _ _=>simp only[aY]at c;grind
 |store m a x=>
  simp only[aY]at c;split at c<;>first|cases c|skip
  rename_i h;simp only[exec,h]at d;split at d
  ·rename_i g;cases d;exact aoG g
  ·cases d
 |len k x=>simp only[aY]at c;split at c<;>cases c
 |call _ _=>simp only[aY]at c;split at c<;>cases c
 |_=>simp[aY]at c
def ND{i:I}{e:Env}{E d:AS}{id off:Nat}(c:aY i e E d= .rd id off k): ∃b n a,i= .load b n a/\a.get e= .ptr id off/\k=Nat.max n 1:=by
 cases i with
 |load b n a=>
  simp only[aY]at c
  grind
 |store _ _ _=>simp only[aY]at c;grind
 |len k x=>simp only[aY]at c;grind
 |call _ _=>simp only[aY]at c;grind
 |_=>trivial
def HF{i:I}{e:Env}{E d:AS}{id off:Nat}(c:aY i e E d= .wr id off k): ∃n a x,i= .store n a x:=by
 cases i with
 |load b n a=>simp only[aY]at c;grind
 |store n a x=>simp
 |len k x=>simp only[aY]at c;grind
 |call _ _=>simp only[aY]at c;grind
 |_=>trivial
def A4{C:bz}{b:Bool}{a:ao}{e:Env}{E c:AS}{p:AV}{v:AV}{i:AS}(g:a.get e=p)(h:cm X c b n p=cm X E b n p)(d:exec X C (.load b n a) e E=some (.ok v i)):
  exec X C (.load b n a) e c=some (.ok v c):=by
 simp only[exec,g]at d⊢;obtain⟨f,_⟩:=eF d;rw[h,f];rfl
def Dv{i:I}{e:Env}{E d:AS}(c:aY i e E d= .rr): ∃b n a id ak j o,i= .load b n a/\a.get e= .dw id ak j o:=by
 cases i with
 |load b n a=>
  simp only[aY]at c;split at c<;>cases c;rename_i h;exact⟨b,n,a,_,_,_,_,rfl,h⟩
 |store _ _ _=>simp only[aY]at c;split at c<;>cases c
 |len k x=>simp only[aY]at c;split at c<;>cases c
 |call _ _=>simp only[aY]at c;split at c<;>cases c
 |_=>simp[aY]at c
def WR{C:bz}{e:Env}{E s:AS}{v:AV}{a x:ao}{c:Nat}(q:exec X C (.store m a x) e E=some (.ok v s))(l:aY (.store m a x) e E s= .wr d c k)
  {b:Bool} {id o:Nat}:cm X s b n (.dw id ak j o)=cm X E b n (.dw id ak j o):=by
 simp only[aY]at l;split at l
 ·rename_i i o' t;cases l;simp only[exec,t,km]at q;split at q
  ·rename_i u f;cases q;split at f
   ·rename_i cs p;split at f
    ·cases f;unfold cm;by_cases g:id=d
     ·subst g;have r:id<E.heap.length:=(adg.1 p).1;simp[AS.set,afD r,p]
     ·simp[AS.set,adb (λh=>g h.symm)]
    ·cases f
   ·cases f
  ·cases q
 ·cases l
 ·cases l
def aoH{C:bz}{x y:I}{B u:Env}{E g c:AS}{v w:AV}(p:exec X C x B E=some (.ok v g))(k:exec X C y u g=some (.ok w c))(f: (aY x B E g).ok (aY y u g c)=true):
  ∃D,exec X C y u E=some (.ok w D)/\exec X C x B D=some (.ok v c)/\aY y u E D=aY y u g c/\aY x B D c=aY x B E g:=by
 cases i:aY x B E g with
 |no=>grind [yZ]
 |rd id off n=>
  have e1:=sK p (.inr ⟨_,_,_,i⟩);subst e1;obtain⟨b,m,a,rfl,z,rfl⟩:=ND i;cases d:aY y u g c with
  |no=>grind [yZ]
  |rd t r A=>
   have s:=sK k (.inr ⟨_,_,_,d⟩);grind
  |q=>grind [sK]
  |wr t r A=>
   obtain⟨m',a',F,rfl⟩:=HF d;rw[i,d]at f;refine⟨c,k,A4 z (WO k d ?_) p,d,by rw[<-i];rfl⟩;simp only[FP.ok,aos,bne_iff_ne,ai8]at f;rcases f with(h|h)|h
   ·exact .inl h
   ·exact .inr (.inl h)
   ·exact .inr (.inr h)
  |rr=>
   obtain⟨_,_,_,_,_,_,_,rfl,_⟩:=Dv d;have s:=(eF k).2;subst s;exact⟨_,k,p,d,i⟩
  |app=>exact⟨c,k,A4 z (WQ k d) p,d,by rw[<-i];rfl⟩
  |all=>rw[i,d]at f;simp[FP.ok]at f
 |q=>
  have e1:=sK p (.inl i);subst e1;cases d:aY y u g c with
  |no=>
   obtain⟨rfl,l⟩:=yZ k d;exact⟨c,k,p,d,i⟩
  |rd t r A=>
   have s:=sK k (.inr ⟨_,_,_,d⟩);subst s;exact⟨c,k,p,d,i⟩
  |q=>
   have s:=sK k (.inl d);subst s;exact⟨c,k,p,d,i⟩
  |rr=>
   obtain⟨_,_,_,_,_,_,_,rfl,_⟩:=Dv d;have s:=(eF k).2;subst s;exact⟨_,k,p,d,i⟩
  |wr _ _ _=>rw[i,d]at f;simp[FP.ok]at f
  |app=>rw[i,d]at f;simp[FP.ok]at f
  |all=>rw[i,d]at f;simp[FP.ok]at f
 |wr id off n=>
  cases d:aY y u g c with
  |no=>
   obtain⟨rfl,l⟩:=yZ k d;exact⟨E,(l E).1,p,(l E).2,i⟩
  |rd t r A=>
   have s:=sK k (.inr ⟨_,_,_,d⟩);subst s;obtain⟨b,m,a,rfl,z,rfl⟩:=ND d;obtain⟨m',a',F,rfl⟩:=HF i;rw[i,d]at f;refine⟨E,A4 z (WO p i ?_).symm k,p,by rw[<-d];rfl,i⟩;simp only[FP.ok,aos,bne_iff_ne,ai8]at f;rcases f with(h|h)|h
   ·exact .inl (λe=>h e.symm)
   ·exact .inr (.inr h)
   ·exact .inr (.inl h)
  |rr=>
   obtain⟨b,m,a,t,ak,j,o,rfl,z⟩:=Dv d;have s:=(eF k).2;subst s;obtain⟨m',a',F,rfl⟩:=HF i;exact⟨E,A4 z (WR p i).symm k,p,by rw[<-d];rfl,i⟩
  |_=>rw[i,d]at f;simp[FP.ok]at f
 |app=>
  cases d:aY y u g c with
  |no=>
   obtain⟨rfl,l⟩:=yZ k d;exact⟨E,(l E).1,p,(l E).2,i⟩
  |rd t r A=>
   have s:=sK k (.inr ⟨_,_,_,d⟩);subst s;obtain⟨b,m,a,rfl,z,rfl⟩:=ND d;exact⟨E,A4 z (WQ p i).symm k,p,by rw[<-d];rfl,i⟩
  |_=>rw[i,d]at f;simp[FP.ok]at f
 |rr=>
  obtain⟨b,m,a,t,ak,j,o,rfl,z⟩:=Dv i;have e1:=(eF p).2;subst e1;cases d:aY y u g c with
  |no=>
   obtain⟨rfl,l⟩:=yZ k d;exact⟨c,k,p,d,i⟩
  |rd t r A=>
   have s:=sK k (.inr ⟨_,_,_,d⟩);subst s;exact⟨_,k,p,d,i⟩
  |q=>
   have s:=sK k (.inl d);subst s;exact⟨_,k,p,d,i⟩
  |rr=>
   obtain⟨_,_,_,_,_,_,_,rfl,_⟩:=Dv d;have s:=(eF k).2;subst s;exact⟨_,k,p,d,i⟩
  |wr t r A=>
   obtain⟨m',a',F,rfl⟩:=HF d;exact⟨c,k,A4 z (WR k d) p,d,by rw[<-i];rfl⟩
  |_=>rw[i,d]at f;simp[FP.ok]at f
 |all=>
  cases d:aY y u g c with
  |no=>
   obtain⟨rfl,l⟩:=yZ k d;exact⟨E,(l E).1,p,(l E).2,i⟩
  |_=>rw[i,d]at f;simp[FP.ok]at f
end
end Go.Den
