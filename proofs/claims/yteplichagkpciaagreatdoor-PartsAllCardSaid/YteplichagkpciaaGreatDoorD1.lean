/- An evaluator, sound; no condition. -/
import GoSem.Step
import Derived.Below
import Derived.Laws.Rows
import Derived.ChangeKeysEq
import Derived.Laws.Entries
import Derived.Laws.StructEq
import Derived.Great.BuildSlice
import Derived.Laws.BytesString
import Derived.Laws.IdiomStrings
import Derived.Laws.MakeOwn
import Derived.Lib.UnsafeStr
import Derived.RangeFuncLeaves
set_option linter.all false
set_option maxRecDepth 10000
set_option maxHeartbeats 1000000
namespace Go.Den
open Go Go.RowKit
abbrev oN:=Option Nat
abbrev lN:=List Nat
abbrev lB:=List UInt8
variable{i j b nt m aj sz k n d l:Nat}{a:Act}{vs:List Value}{v v':Value}{w w':World}{c:Array Value}{O:Obj}{t e:TypeId}{ak:Option Value}{r:Bool}{f:FuncId}
def acT:=@List.getElem?_set_ne
def acV:=@List.getElem?_append_left
def acW:=@List.getElem?_eq_some_iff
def adE:=@if_neg
def adF:=@Option.some.injEq
def adG:=@if_pos
def adK:=@List.append_assoc
def adL:=@Go.run_underlying
def adM:=@List.getElem?_eq_getElem
def adP:=@List.take_of_length_le
def aeb:=@List.length_append
def aed:=@List.getElem?_set_self
def aee:=@Nat.zero_le
def aef:=@Nat.le_refl
def aeg:=@List.mem_append
def afm:=@List.length_map
def afn:=@Option.map_eq_some_iff
def afo:=@Option.map_some
def afp:=@Bool.false_eq_true
def afq:=@List.mem_map
def afr:=@List.map_append
def afs:=@Nat.add_zero
def aft:=@List.take_length
def afu:=@List.getElem?_append_right
def afx:=@List.length_cons
def afy:=@List.all_eq_true
def afz:=@Bool.and_eq_true
def afA:=@List.getD_eq_getElem?_getD
def afC:=@List.length_take
def afI:=@List.mem_filter
def afJ:=@List.mem_cons
def afK:=@if_true
def agQ:=@decide_eq_true_eq
def agR:=@List.take_add_one
def ag2:=@Nat.le_trans
def ag3:=@congrArg
def ag5:=@List.drop_eq_nil_of_le
def ag6:=@Nat.add_sub_cancel_left
def ag8:=@List.nil_append
def ag9:=@List.mem_of_mem_take
def aha:=@if_false
def ahl:=@Nat.lt_of_lt_of_le
def aii:=@List.cons_append
def aiO:=@Nat.add_assoc
def aiP:=@Option.some.inj
def aiQ:=@List.map_cons
def aiR:=@List.length_eq_zero_iff
def akJ:=@List.map_congr_left
def akO:=@Nat.zero_add
def akP:=@List.take_append_drop
def akW:=@List.getElem?_eq_none
def akX:=@List.getElem?_drop
def akY:=@Array.length_toList
def aln:=@Array.getElem?_setIfInBounds
def alo:=@Nat.mul_le_mul_right
def alp:=@List.mem_of_getElem?
def alY:=@Array.getElem?_eq_some_iff
def alZ:=@List.flatMap_append
def al2:=@Nat.mod_eq_of_lt
def amv:=@List.drop_zero
def amw:=@List.drop_eq_getElem_cons
def anB:=@List.getElem?_take
def anE:=@List.flatten_append
def anT:=@List.ext_getElem?
def anV:=@Bool.or_eq_true
def an4:=@List.mem_of_mem_drop
def an8:=@List.flatten_cons
def aob:=@List.flatMap_cons
def aom:=@Option.bind_some
def aon:=@Nat.add_mul
def aop:=@List.mem_flatMap
def aor:=@List.drop_drop
def aoT:=@Go.heap_alloc_new
def apJ:=@List.drop_succ_cons
def apK:=@Array.ext'
def apM:=@Nat.succ_mul
def apW:=@Nat.min_eq_left
def apY:=@List.take_succ_cons
def ap9:=@List.take_take
def aqa:=@Go.run_program
def aqd:=@Nat.le_max_left
def aqr:=@List.map_nil
def aqs:=@List.length_singleton
def aqt:=@List.foldl_cons
def aqv:=@List.extract_eq_take_drop
def aqA:=@List.replicate_succ
def aqD:=@Option.isSome_iff_exists
def aqE:=@List.map_map
def aqI:=@List.eq_of_mem_replicate
def asw:=@beq_iff_eq
def atd:=@List.take_append_of_le_length
def auL:=@List.drop_append
def au1:=@Array.toList_extract
def avX:=@List.all_cons
def avY:=@Bool.not_true
def axf:=@List.drop_take
def axi:=@Array.getElem?_eq_getElem
def axm:=@Bool.not_eq_true'
def axs:=@Array.getElem?_replicate
def axw:=@List.take_append
def axy:=@Go.callsIn_of_wp_marks
def axz:=@Nat.ne_of_lt
def ax7:=@Nat.min_self
def ax8:=@List.cons.injEq
def ayJ:=@List.range_eq_range'
def azH:=@List.mapM_cons
def azI:=@Go.grownCap_ge
def azL:=@Go.wpIn_seq
def aA1:=@List.size_toArray
def aA2:=@List.replicate_append_replicate
def aBX:=@Go.size_zeroCells
def aB1:=@Array.size_append
def aB2:=@decide_false
def aCj:=@List.drop_append_of_le_length
inductive AV where
 |bool(b:Bool)
 |int(k:IntKind)(n:Int)
 |str(s:ByteArray)
 |agg(cs:List AV)
 |az(vs:List AV)
 |eI
 |ptr(id off:Nat)
 |dw(id aj i off:Nat)
 |fB(cs:List AV)(off:Nat)
 |dR(g:Nat)
 |av
 |sl(af:List (List AV))(cF:Bool)
 |ref(id aj sz off len:Nat)(cF:Bool)
 |fH(id sz off len:Nat)
 |mi
 |mp(id:Nat)
 |lP(g:Nat)
 |fn(f:Fn)(first cap:List AV)
 |dA
 |dq(t:TypeId)(v:AV)
 |eZ
 |qx
 deriving Inhabited
abbrev AV.undef:AV:=.az []
def AV.cells:AV->List AV
 |.agg cs=>cs
 |v=>[v]
def AV.cp:AV->Bool
 |.az _=>true
 |.qx=>true
 |_=>false
def AV.kp:Value->AV
 |.bool b=>.bool b
 |.int k n=>.int k n
 |.string s=>.str s
 |.pointer none=>.eI
 |.slice none n c=>if n=0/\c=0 then .av else .qx
 |.map none=>.mi
 |.nilFunc=>.dA
 |.nilIface=>.eZ
 |.tuple vs=>if vs.size=0 then .az []else .qx
 |_=>.qx
def AV.ofValue:Value->AV
 |.agg cs=>.agg (cs.toList.map AV.kp)
 |.iface t v=>.dq t (AV.kp v)
 |v=>AV.kp v
mutual
def AV.refs:AV->Nat
 |.ptr id _=>id+1
 |.dw id _ _ _=>id+1
 |.ref id _ _ _ _ _=>id+1
 |.fH id _ _ _=>id+1
 |.mp id=>id+1
 |.agg cs=>aL cs
 |.az cs=>aL cs
 |.fB cs _=>aL cs
 |.sl af _=>ca af
 |.fn f a b=>max (match f with|.yield l=>l+1|_=>0) (max (aL a) (aL b))
 |.dq _ v=>v.refs
 |_=>0
def aL:List AV->Nat
 | []=>0
 |a::as=>max a.refs (aL as)
def ca:List (List AV)->Nat
 | []=>0
 |a::as=>max (aL a) (ca as)
end
abbrev Env:=Nat->AV
def Env.set(e:Env)(d:Nat)(v:AV):Env:=λt=>if t=d then v else e t
inductive aq where
 |t(i:Nat)
 |c(v:AV)
 deriving Inhabited
def aq.get(e:Env):aq->AV
 |.t i=>e i
 |.c v=>v
inductive EK where
 |bool
 |int
 |str
 |ptr
 |sl
 |map
 |cap
 |fn
 |dq
 |Ao(ts:List TypeId)
 |agg(ks:List EK)
 deriving Inhabited
inductive I where
 |mov(x:aq)
 |pick(c a b:aq)
 |alloc(z:List AV)(tg:Option TypeId)
 |box(x:aq)(tg:Option TypeId:=none)
 |build(z:List AV)(parts:List (Nat×Nat×aq))
 |bslice(z:List AV)(len:Nat)(parts:List (Nat×Nat×aq))
 |rX(ty:TypeId)(z:List AV)(len:Nat)(parts:List (Nat×Nat×aq))
 |load(agg:Bool)(n:Nat)(a:aq)
 |store(n:Nat)(a v:aq)
 |nilck(x:aq)
 |bin(op:BinOp)(x y:aq)
 |shf(op:BinOp)(x y:aq)
 |eq(k:EK)(x y:aq)
 |ne(k:EK)(x y:aq)
 |un(op:UnOp)(x:aq)
 |conv(k:IntKind)(x:aq)
 |s2b(x:aq)
 |mki(t:TypeId)(x:aq)
 |mkf(f:Fn)(first cap:List aq)
 |nO
 |CO(ty:TypeId)(z:List AV)(bytes:Nat)(l c:aq)
 |slstr(x:aq)(lo hi:Option aq)
 |slsl(sz:Nat)(x:aq)(lo hi mx:Option aq)
 |slarr(n sz:Nat)(x:aq)(lo hi:Option aq)
 |faddr(off:Nat)(x:aq)
 |fld(agg:Bool)(n off:Nat)(x:aq)
 |iaddra(len sz:Nat)(x i:aq)
 |iaddrs(sz:Nat)(x i:aq)
 |idxa(agg:Bool)(len sz:Nat)(x i:aq)
 |idxs(x i:aq)
 |lookup(kk:EK)(z:AV)(m k:aq)(ok:Bool)
 |oQ(kk:EK)(m k v:aq)
 |ta(z:AV)(x:aq)(t:TypeId)(ok:Bool)
 |ext(x:aq)(i:Nat)
 |len(k:EK)(x:aq)
 |append(ty:TypeId)(sz bytes:Nat)(s x:aq)
 |copy(sz:Nat)(d s:aq)
 |clear(z:List AV)(x:aq)
 |max(xs:List aq)
 |min(xs:List aq)
 |call(f:aq)(args:List aq)
 |panic(x:aq)
 deriving Inhabited
structure aR where
 g:Option (Nat×Bool)
 dst:oN
 i:I
 deriving Inhabited
inductive PC where
 |skip
 |aJ(ops:List aR)
 |uA(ops:List (aR×lN))
 |seq(a b:PC)
 |cond(c:aq)(a b:PC)
 |block(id:Nat)(b:PC)
 |loop(b:PC)
 |iE(g:aq)(params:lN)(assign body:PC)
 |exit(id:Nat)
 |ret
 deriving Inhabited
inductive RV where
 |t(i:Nat)
 |cell(a:Nat)(agg:Bool)(n:Nat)
 deriving Inhabited
structure PF where
 ntmps:Nat
 results:List RV
 body:PC
 deriving Inhabited
inductive ae where
 |box(cs:List AV)(tg:Option TypeId)
 |row(aj sz:Nat)(ty:TypeId)(af:List (List AV))
 |map(es:List (AV×AV))
 |loop(state:LoopState)(pending:Option PC)(fn:FuncId)(env:Env)(params:lN)(assign body:PC)
 |fI
 |dead
 deriving Inhabited
structure AS where
 heap:List ae
 lo:oN
 deriving Inhabited
inductive aV where
 |ret(v:AV)(E:AS)
 |panic(v:AV)(E:AS)
 deriving Inhabited
abbrev bA:=AV->List AV->AS->Option aV
structure Ctx where
 dR:Nat->Option (List AV)
 code:FuncId->Option PF
 bW:FuncId->Option (List AV->AS->Option aV)
 gl:Nat->Option (List (AV×AV)):=λ_=>none
def AS.push(E:AS)(o:ae):AS:={E with heap:=E.heap++[o]}
def cJ(a:oN)(i:Nat):oN:=match a with|none=>some i|some j=>some (Nat.min i j)
def gZ(a b:oN):oN:=match b with|none=>a|some j=>cJ a j
def AS.set(E:AS)(id:Nat)(o:ae)(refs:Nat):AS:=
 {heap:=E.heap.set id o,lo:=if refs<=id+1 then E.lo else cJ E.lo id}
def part(agg:Bool)(n:Nat)(cs:List AV)(off:Nat):Option AV:=
 if agg then(if off+n<=cs.length then some (.agg ((cs.drop off).take n))else none)else cs[off]?
def aO(cs:List AV)(off:Nat)(vs:List AV):List AV:=cs.take off++(vs++cs.drop (off+vs.length))
def eJ(cs:List AV):List (Nat×Nat×AV)->Option (List AV)
 | []=>some cs
 | (off,n,v)::rest=>if v.cp=false/\v.cells.length=n/\off+n<=cs.length then eJ (aO cs off v.cells) rest else none
def chunks(sz:Nat):Nat->List AV->List (List AV)
 |0,_=>[]
 |k+1,cs=>cs.take sz::chunks sz k (cs.drop sz)
def AV.Ap:AV->Bool
 |.ptr .. |.dw .. |.fB .. |.dR _=>true
 |_=>false
def AV.Aq:AV->Bool
 |.sl .. |.ref .. |.fH .. =>true
 |_=>false
def qy:EK->AV->AV->Option Bool
 |.bool,.bool a,.bool b=>some (a==b)
 |.int,.int k a,.int k' b=>if k=k' then some (a==b)else none
 |.str,.str a,.str b=>some (a.toList==b.toList)
 |.ptr,.eI,.eI=>some true
 |.ptr,.eI,b=>if b.Ap then some false else none
 |.ptr,a,.eI=>if a.Ap then some false else none
 |.sl,.av,.av=>some true
 |.sl,.av,b=>if b.Aq then some false else none
 |.sl,a,.av=>if a.Aq then some false else none
 |.map,.mi,.mi=>some true
 |.map,.mi,.mp _=>some false
 |.map,.mp _,.mi=>some false
 |.fn,.dA,.dA=>some true
 |.fn,.dA,.fn .. =>some false
 |.fn,.fn ..,.dA=>some false
 |.dq,.eZ,.eZ=>some true
 |.dq,.eZ,.dq .. =>some false
 |.dq,.dq ..,.eZ=>some false
 |.Ao ts,.dq t (.int k a),.dq t' (.int k' b)=>if t=t' then(if ts.contains t/\k=k' then some (a==b)else none)else some false
 |_,_,_=>none
def jI:List EK->List AV->List AV->Option Bool
 | [],[],[]=>some true
 |k::c,a::as,b::bs=>match qy k a b with
  |some true=>jI c as bs
  |some false=>some false
  |none=>none
 |_,_,_=>none
def dJ:EK->AV->AV->Option Bool
 |.agg a,.agg xs,.agg ys=>if xs.length=a.length/\ys.length=a.length then jI a xs ys else none
 |.agg _,_,_=>none
 |k,x,y=>qy k x y
def v9(a:BinOp)(k:IntKind)(x y:Int):Option AV:=
 match a with
 |.and=>some (.int k (k.wrap (BitVec.ofInt k.bits x&&&BitVec.ofInt k.bits y).toNat))
 |.or=>some (.int k (k.wrap (BitVec.ofInt k.bits x|||BitVec.ofInt k.bits y).toNat))
 |.xor=>some (.int k (k.wrap (BitVec.ofInt k.bits x^^^BitVec.ofInt k.bits y).toNat))
 |.andNot=>some (.int k (k.wrap (BitVec.ofInt k.bits x&&& ~~~ (BitVec.ofInt k.bits y)).toNat))
 |_=>none
def mj(a:BinOp)(k:IntKind)(x y:Int):Option AV:=
 match a with
 |.add=>some (.int k (k.wrap (x+y)))
 |.sub=>some (.int k (k.wrap (x-y)))
 |.mul=>some (.int k (k.wrap (x*y)))
 |.quo=>if y=0 then none else some (.int k (k.wrap (x.tdiv y)))
 |.rem=>if y=0 then none else some (.int k (x.tmod y))
 |.eql=>some (.bool (x==y))
 |.neq=>some (.bool (x !=y))
 |.lss=>some (.bool (x<y))
 |.leq=>some (.bool (x<=y))
 |.gtr=>some (.bool (x>y))
 |.geq=>some (.bool (x>=y))
 |a=>v9 a k x y
def wa(a:BinOp)(k:IntKind)(x y:Int):Option AV:=
 if y<0 then none else
 match a with
 |.shl=>some (.int k (k.wrap (x*2^(min y.toNat k.bits))))
 |.shr=>some (.int k (x.fdiv (2^(min y.toNat k.bits))))
 |_=>none
def Vn:Nat:=1152921504606846976
def Vo(a:BinOp)(x y:ByteArray):Option AV:=
 match a with
 |.add=>if x.size+y.size<=Vn then some (.str (x++y))else none
 |.eql=>some (.bool (x.toList==y.toList))
 |.neq=>some (.bool !(x.toList==y.toList))
 |.lss=>some (.bool (Op.bytesLess x.toList y.toList))
 |.leq=>some (.bool (Op.bytesLess x.toList y.toList||x.toList==y.toList))
 |.gtr=>some (.bool !(Op.bytesLess x.toList y.toList||x.toList==y.toList))
 |.geq=>some (.bool !(Op.bytesLess x.toList y.toList))
 |_=>none
def dB(c:BinOp):AV->AV->Option AV
 |.int k a,.int k' b=>if k=k' then mj c k a b else none
 |.str a,.str b=>Vo c a b
 |_,_=>none
def x6(a:UnOp)(x:AV):Option AV:=
 match a,x with
 |.neg,.int k n=>some (.int k (k.wrap (0-n)))
 |.xor,.int k n=>v9 .xor k (if k.signed then-1 else k.max) n
 |.not,.bool b=>some (.bool !b)
 |_,_=>none
inductive Out where
 |ok(v:AV)(E:AS)
 |panic(v:AV)(E:AS)
def gn(E:AS):Option AV->Option Out
 |some v=>some (.ok v E)
 |none=>none
variable(X:Ctx)
def cq(E:AS)(agg:Bool)(n:Nat)(a:AV):Option AV:=
 match a with
 |.ptr id off=>match E.heap[id]? with
  |some (.box cs _)=>part agg n cs off
  |_=>none
 |.dw id aj i off=>match E.heap[id]? with
  |some (.row v sz _ af)=>if v=aj then(af[i]?).bind λel=>if el.length=sz then part agg n el off else none else none
  |_=>none
 |.fB cs off=>part agg n cs off
 |.dR g=>(X.dR g).bind λcs=>part agg n cs 0
 |_=>none
def kq(E:AS)(n:Nat)(a v:AV):Option AS:=
 match a with
 |.ptr id off=>match E.heap[id]? with
  |some (.box cs tg)=>if v.cp=false/\v.cells.length=n/\off+n<=cs.length then some (E.set id (.box (aO cs off v.cells) tg) v.refs)else none
  |_=>none
 |.dw id aj i off=>match E.heap[id]? with
  |some (.row w sz ty af)=>match af[i]? with
   |some el=>if w=aj/\el.length=sz/\v.cp=false/\v.cells.length=n/\off+n<=el.length then some (E.set id (.row aj sz ty (af.set i (aO el off v.cells))) v.refs)else none
   |none=>none
  |_=>none
 |_=>none
def elems(E:AS)(sz:Nat):AV->Option (List (List AV))
 |.av=>some []
 |.sl af _=>if af.all (λel=>el.length==sz)then some af else none
 |.ref id aj a off len _=>match E.heap[id]? with
  |some (.row v b _ af)=>if v=aj/\b=sz/\a=sz/\off+len<=af.length then some ((af.drop off).take len)else none
  |_=>none
 |.fH id b off len=>match E.heap[id]? with
  |some (.box cs _)=>if b=sz/\off+len*sz<=cs.length then some (chunks sz len (cs.drop off))else none
  |_=>none
 |_=>none
def rY:AV->Option Int
 |.int _ n=>some n
 |_=>none
def lQ(n:Nat):Option AV->Nat->oN
 |none,d=>some d
 |some (.int _ i),_=>if 0<=i/\i<=n then some i.toNat else none
 |some _,_=>none
def gI(len:Nat)(b a:Option AV):Option (Nat×Nat):=
 match lQ len a len with
 |some h=>match lQ h b 0 with
  |some l=>some (l,h)
  |none=>none
 |none=>none
def uB(x:AV)(b a:Option AV):Option AV:=
 match x with
 |.str s=>match gI s.size b a with
  |some (l,h)=>some (.str (s.extract l h))
  |none=>none
 |_=>none
def lR(len h:Nat)(cF:Bool):Option AV->Option Bool
 |none=>some (cF&&h==len)
 |some (.int _ i)=>if(h:Int)<=i/\i<=len then some (i==h)else none
 |some _=>none
def gJ(n:Nat)(x:AV)(b a d:Option AV):Option AV:=
 match x with
 |.av=>match gI 0 b a,lR 0 0 true d with
  |some _,some _=>some .av
  |_,_=>none
 |.sl af cF=>match gI af.length b a with
  |some (l,h)=>match lR af.length h cF d with
   |some c=>if af.all (λel=>el.length==n)then some (.sl ((af.drop l).take (h-l)) c)else none
   |none=>none
  |none=>none
 |.ref id aj sz off len cF=>match gI len b a with
  |some (l,h)=>match lR len h cF d with
   |some c=>if sz=n then some (.ref id aj sz (off+l) (h-l) c)else none
   |none=>none
  |none=>none
 |.fH id sz off len=>match gI len b a,d with
  |some (l,h),none=>if sz=n then some (.fH id sz (off+l*sz) (h-l))else none
  |_,_=>none
 |_=>none
def qz(n sz:Nat)(x:AV)(b a:Option AV):Option AV:=
 match gI n b a with
 |some (l,h)=>match x with
  |.ptr id off=>some (.fH id sz (off+l*sz) (h-l))
  |.fB cs off=>if off+n*sz<=cs.length then some (.sl (chunks sz (h-l) (cs.drop (off+l*sz))) false)else none
  |.dR g=>match X.dR g with
   |some cs=>if n*sz<=cs.length then some (.sl (chunks sz (h-l) (cs.drop (l*sz))) false)else none
   |none=>none
  |_=>none
 |none=>none
def rZ(s:ByteArray):List (List AV):=s.data.toList.map λb=>[.int .u8 b.toNat]
def wb:List (List AV)->Option lB
 | []=>some []
 | [.int .u8 n]::r=>(wb r).map (UInt8.ofNat n.toNat:: ·)
 |_=>none
def room:Nat:=1099511627776
def dL(E:AS)(ty:TypeId)(sz bytes:Nat)(s:AV)(ys:List (List AV)):Option (AV×AS):=
 if 0<sz/\ys.all (λel=>el.length==sz)then
  match s with
  |.av=>if ys.length=0 then some (.av,E)else
   if ys.length*bytes<=room then some (.ref E.heap.length 0 sz 0 ys.length false,E.push (.row 0 sz ty ys))else none
  |.sl af true=>if ys.length=0 then some (s,E)else
   if(af.length+ys.length)*bytes<=room/\af.all (λel=>el.length==sz)then
    some (.ref E.heap.length 0 sz 0 (af.length+ys.length) false,E.push (.row 0 sz ty (af++ys)))else none
  |.sl _ false=>if ys.length=0 then some (s,E)else none
  |.ref id aj a off len cF=>
   match E.heap[id]? with
   |some (.row v c b af)=>
    if v=aj/\c=sz/\a=sz/\b=ty/\off+len<=af.length/\ (len+ys.length)*bytes<=room then
     if ys.length=0 then some (s,E)else
     if cF then some (.ref E.heap.length 0 sz 0 (len+ys.length) false,E.push (.row 0 sz ty ((af.drop off).take len++ys)))else
     some (.ref id (aj+1) sz 0 (len+ys.length) false,E.set id (.row (aj+1) sz ty ((af.drop off).take len++ys)) (ca ys))
    else none
   |_=>none
  |_=>none
 else none
def oR:AV->AV->Option Bool
 |.int k a,.int k' b=>if k=k' then some (a==b)else none
 |.str a,.str b=>some (a==b)
 |.bool a,.bool b=>some (a==b)
 |_,_=>none
def eB(k:AV):List (AV×AV)->Option (Option AV)
 | []=>some none
 | (k',v)::es=>match oR k k' with
   |some true=>some (some v)
   |some false=>eB k es
   |none=>none
def lS(k v:AV):List (AV×AV)->Option (List (AV×AV))
 | []=>some [(k,v)]
 | (k',v')::es=>match oR k k' with
   |some true=>some ((k,v)::es)
   |some false=>(lS k v es).map ((k',v'):: ·)
   |none=>none
def mapOf(gm:Nat->Option (List (AV×AV)))(E:AS):AV->Option (List (AV×AV))
 |.mi=>some []
 |.lP g=>gm g
 |.mp id=>match E.heap[id]? with
  |some (.map es)=>some es
  |_=>none
 |_=>none
def isKey:AV->Bool
 |.int _ _|.str _|.bool _=>true
 |_=>false
def kY:EK->AV->Bool
 |.int,.int _ _|.str,.str _|.bool,.bool _=>true
 |_,_=>false
def jJ(gm:Nat->Option (List (AV×AV)))(E:AS)(b:EK)(z m k:AV)(a:Bool):Option AV:=
 if kY b k then
  match mapOf gm E m with
  |some es=>match eB k es with
   |some (some v)=>some (if a then .az [v,.bool true]else v)
   |some none=>some (if a then .az [z,.bool false]else z)
   |none=>none
  |none=>none
 else none
def ml(E:AS)(b:EK)(m k v:AV):Option AS:=
 if kY b k then
  match m with
  |.mp id=>match E.heap[id]? with
   |some (.map es)=>match lS k v es with
    |some a=>some (E.set id (.map a) v.refs)
    |none=>none
   |_=>none
  |_=>none
 else none
def qA:AV->AV->Option AV
 |.int k x,.int _ y=>some (.int k (if y>x then y else x))
 |_,_=>none
def wc:AV->AV->Option AV
 |.int k x,.int _ y=>some (.int k (if y<x then y else x))
 |_,_=>none
def gv(E:AS):EK->AV->Option AV
 |.str,.str s=>some (.int .i64 s.size)
 |.sl,.av=>some (.int .i64 0)
 |.sl,.sl af _=>some (.int .i64 af.length)
 |.sl,.ref _ _ _ _ n _=>some (.int .i64 n)
 |.sl,.fH _ _ _ n=>some (.int .i64 n)
 |.map,.mi=>some (.int .i64 0)
 |.map,.mp id=>match E.heap[id]? with
  |some (.map es)=>some (.int .i64 es.length)
  |_=>none
 |.cap,.av=>some (.int .i64 0)
 |.cap,.sl af true=>some (.int .i64 af.length)
 |.cap,.ref _ _ _ _ n true=>some (.int .i64 n)
 |_,_=>none
def CP(E:AS)(sz:Nat)(s:AV):Option (List (List AV)):=
 match s with
 |.str b=>if sz=1 then some (rZ b)else none
 |s=>elems E sz s
def r6(E:AS)(sz:Nat)(d s:AV):Option (AV×AS):=
 match CP E sz s with
 |some ys=>match d with
  |.av=>some (.int .i64 0,E)
  |.ref id aj a off len _=>match E.heap[id]? with
   |some (.row v b ty af)=>
    if v=aj/\b=sz/\a=sz/\off+len<=af.length then
     some (.int .i64 (Nat.min ys.length len),E.set id (.row aj sz ty (af.take off++(ys.take (Nat.min ys.length len)++af.drop (off+Nat.min ys.length len)))) (ca ys))
    else none
   |_=>none
  |.fH id b off len=>match E.heap[id]? with
   |some (.box cs tg)=>
    if b=sz/\off+len*sz<=cs.length/\ys.all (λel=>el.length==sz)then
     some (.int .i64 (Nat.min ys.length len),E.set id (.box (aO cs off (ys.take (Nat.min ys.length len)).flatten) tg) (ca ys))
    else none
   |_=>none
  |_=>none
 |none=>none
def r7(E:AS)(z:List AV)(x:AV):Option AS:=
 match x with
 |.av=>some E
 |.ref id aj a off len _=>match E.heap[id]? with
  |some (.row v sz ty af)=>
   if v=aj/\a=sz/\sz=z.length/\off+len<=af.length/\aL z=0 then
    some (E.set id (.row aj sz ty (af.take off++(List.replicate len z++af.drop (off+len)))) 0)
   else none
  |_=>none
 |.fH id sz off len=>match E.heap[id]? with
  |some (.box cs tg)=>
   if sz=z.length/\off+len*sz<=cs.length/\aL z=0 then
    some (E.set id (.box (aO cs off (List.replicate len z).flatten) tg) 0)
   else none
  |_=>none
 |_=>none
def wg(o:Nat)(x:AV):Option AV:=
 match x with
 |.ptr id off=>some (.ptr id (off+o))
 |.dw id aj i off=>some (.dw id aj i (off+o))
 |.fB cs off=>some (.fB cs (off+o))
 |.dR g=>match X.dR g with
  |some cs=>some (.fB cs o)
  |none=>none
 |_=>none
def uD(n sz:Nat)(x a:AV):Option AV:=
 match rY a with
 |some i=>if 0<=i/\i<n then
    match x with
    |.ptr id off=>some (.ptr id (off+i.toNat*sz))
    |.dw id aj j off=>some (.dw id aj j (off+i.toNat*sz))
    |.fB cs off=>some (.fB cs (off+i.toNat*sz))
    |.dR g=>match X.dR g with
     |some cs=>some (.fB cs (i.toNat*sz))
     |none=>none
    |_=>none
  else none
 |none=>none
def kr(sz:Nat)(x b:AV):Option AV:=
 match rY b with
 |some i=>match x with
  |.sl af _=>if 0<=i then match af[i.toNat]? with
     |some el=>if el.length=sz then some (.fB el 0)else none
     |none=>none
   else none
  |.ref id aj a off len _=>if 0<=i/\i<len/\a=sz then some (.dw id aj (off+i.toNat) 0)else none
  |.fH id a off len=>if 0<=i/\i<len/\a=sz then some (.ptr id (off+i.toNat*sz))else none
  |_=>none
 |none=>none
def qB(agg:Bool)(n sz:Nat)(x a:AV):Option AV:=
 match rY a,x with
 |some i,.agg cs=>if 0<=i/\i<n then part agg sz cs (i.toNat*sz)else none
 |_,_=>none
def x7(x a:AV):Option AV:=
 match rY a,x with
 |some i,.str s=>if 0<=i then match s.data.toList[i.toNat]? with
    |some b=>some (.int .u8 b.toNat)
    |none=>none
  else none
 |_,_=>none
def MJ(E:AS)(ty:TypeId)(z:List AV)(bytes:Nat)(l c:AV):Option (AV×AS):=
 match l,c with
 |.int _ l,.int _ c=>if 0<=l/\l<=c/\c*bytes<=room/\c<=room then
    some (.ref E.heap.length 0 z.length 0 l.toNat false,E.push (.row 0 z.length ty (List.replicate l.toNat z)))
  else none
 |_,_=>none
def Ar(z x:AV)(t:TypeId)(a:Bool):Option AV:=
 match x with
 |.eZ=>if a then some (.az [z,.bool false])else none
 |.dq t' v=>if t'=t then some (if a then .az [v,.bool true]else v)else if a then some (.az [z,.bool false])else none
 |_=>none
def aBI(a:List TypeId)(x:AV)(b:Bool):Option AV:=
 match x with
 |.eZ=>if b then some (.az [.eZ,.bool false])else none
 |.dq t v=>if a.contains t then some (if b then .az [.dq t v,.bool true]else .dq t v)else none
 |_=>none
def gL(f:AV->AV->Option AV):List AV->Option AV
 | []=>none
 | [x]=>some x
 |x::y::r=>match f x y with
  |some z=>gL f (z::r)
  |none=>none
termination_by l=>l.length
def wi:AV->Option AV
 |.ptr id off=>some (.ptr id off)
 |.dw id aj i off=>some (.dw id aj i off)
 |.fB cs off=>some (.fB cs off)
 |.dR g=>some (.dR g)
 |.fn (.func f) a b=>some (.fn (.func f) a b)
 |.fn (.yield l) a b=>some (.fn (.yield l) a b)
 |_=>none
def exec(C:bA)(i:I)(e:Env)(E:AS):Option Out:=
 match i with
 |.mov x=>some (.ok (x.get e) E)
 |.pick c a b=>match c.get e with
  |.bool t=>some (.ok (if t then a.get e else b.get e) E)
  |_=>none
 |.alloc z tg=>some (.ok (.ptr E.heap.length 0) (E.push (.box z tg)))
 |.box x tg=>if(x.get e).cp then none else some (.ok (.ptr E.heap.length 0) (E.push (.box (x.get e).cells tg)))
 |.build z parts=>match eJ z (parts.map λp=>(p.1,p.2.1,p.2.2.get e))with
  |some cs=>some (.ok (.agg cs) E)
  |none=>none
 |.bslice z len parts=>match eJ (List.replicate len z).flatten (parts.map λp=>(p.1,p.2.1,p.2.2.get e))with
  |some cs=>some (.ok (.sl (chunks z.length len cs) true) E)
  |none=>none
 |.rX ty z len parts=>match eJ (List.replicate len z).flatten (parts.map λp=>(p.1,p.2.1,p.2.2.get e))with
  |some cs=>some (.ok (.ref E.heap.length 0 z.length 0 len false) (E.push (.row 0 z.length ty (chunks z.length len cs))))
  |none=>none
 |.load agg n a=>gn E (cq X E agg n (a.get e))
 |.store n a v=>match kq E n (a.get e) (v.get e)with
  |some g=>some (.ok .undef g)
  |none=>none
 |.nilck x=>gn E (wi (x.get e))
 |.bin op x y=>gn E (dB op (x.get e) (y.get e))
 |.shf op x y=>match x.get e,y.get e with
  |.int k a,.int _ b=>gn E (wa op k a b)
  |_,_=>none
 |.eq k x y=>match dJ k (x.get e) (y.get e)with
  |some b=>some (.ok (.bool b) E)
  |none=>none
 |.ne k x y=>match dJ k (x.get e) (y.get e)with
  |some b=>some (.ok (.bool !b) E)
  |none=>none
 |.un op x=>gn E (x6 op (x.get e))
 |.conv k x=>match x.get e with
  |.int _ n=>some (.ok (.int k (k.wrap n)) E)
  |_=>none
 |.s2b x=>match x.get e with
  |.str s=>if s.size<=room then some (.ok (.sl (rZ s) false) E)else none
  |_=>none
 |.mki t x=>some (.ok (.dq t (x.get e)) E)
 |.mkf f first cap=>some (.ok (.fn f (first.map (·.get e)) (cap.map (·.get e))) E)
 |.nO=>some (.ok (.mp E.heap.length) (E.push (.map [])))
 |.CO ty z bytes l c=>match MJ E ty z bytes (l.get e) (c.get e)with
  |some (v,g)=>some (.ok v g)
  |none=>none
 |.slstr x lo h=>gn E (uB (x.get e) (lo.map (·.get e)) (h.map (·.get e)))
 |.slsl n x lo h q=>gn E (gJ n (x.get e) (lo.map (·.get e)) (h.map (·.get e)) (q.map (·.get e)))
 |.slarr n sz x lo h=>gn E (qz X n sz (x.get e) (lo.map (·.get e)) (h.map (·.get e)))
 |.faddr o x=>gn E (wg X o (x.get e))
 |.fld agg n off x=>match x.get e with
  |.agg cs=>gn E (part agg n cs off)
  |_=>none
 |.iaddra n sz x i=>gn E (uD X n sz (x.get e) (i.get e))
 |.iaddrs sz x i=>gn E (kr sz (x.get e) (i.get e))
 |.idxa agg n sz x i=>gn E (qB agg n sz (x.get e) (i.get e))
 |.idxs x i=>gn E (x7 (x.get e) (i.get e))
 |.lookup j z m k ok=>gn E (jJ X.gl E j z (m.get e) (k.get e) ok)
 |.oQ j m k v=>match ml E j (m.get e) (k.get e) (v.get e)with
  |some g=>some (.ok .undef g)
  |none=>none
 |.ta z x t ok=>gn E (Ar z (x.get e) t ok)
 |.ext x i=>match x.get e with
  |.az vs=>gn E (vs[i]?)
  |_=>none
 |.len k x=>gn E (gv E k (x.get e))
 |.append ty sz bytes s x=>match elems E sz (x.get e)with
  |some ys=>match dL E ty sz bytes (s.get e) ys with
   |some (v,g)=>some (.ok v g)
   |none=>none
  |none=>none
 |.copy sz d s=>match r6 E sz (d.get e) (s.get e)with
  |some (v,g)=>some (.ok v g)
  |none=>none
 |.clear z x=>match r7 E z (x.get e)with
  |some g=>some (.ok .undef g)
  |none=>none
 |.max xs=>gn E (gL qA (xs.map (·.get e)))
 |.min xs=>gn E (gL wc (xs.map (·.get e)))
 |.call f args=>match C (f.get e) (args.map (·.get e)) E with
  |some (.ret v g)=>some (.ok v g)
  |some (.panic v g)=>some (.panic v g)
  |none=>none
 |.panic x=>match x.get e with
  |.dq t v=>some (.panic (.dq t v) E)
  |_=>none
structure Fr where
 env:Env
 marks:lN
 deriving Inhabited
def Fr.put(a:Fr)(dst:oN)(v:AV):Fr:=
 match dst with
 |some d=>{a with env:=a.env.set d v}
 |none=>a
inductive Ex where
 |normal
 |exit(id:Nat)
 |ret
 |panic(v:AV)
abbrev jK:=Option (Ex×Fr×AS)
def gw(e:Env):Option (Nat×Bool)->Bool
 |none=>true
 |some (t,want)=>match e t with
  |.bool b=>b==want
  |_=>false
def fo(C:bA):List aR->Fr->AS->jK
 | [],fr,E=>some (.normal,fr,E)
 |o::os,fr,E=>
  if gw fr.env o.g then
   match exec X C o.i fr.env E with
   |some (.ok v a)=>fo C os (fr.put o.dst v) a
   |some (.panic v a)=>some (.panic v,fr,a)
   |none=>none
  else fo C os (fr.put o.dst .undef) E
inductive FP where
 |no
 |rd(id off n:Nat)
 |q
 |wr(id off n:Nat)
 |app
 |all
 |rr
def FP.ok:FP->FP->Bool
 |.no,_=>true
 |_,.no=>true
 |.rd ..,.rd .. =>true
 |.rd ..,.q=>true
 |.q,.rd .. =>true
 |.q,.q=>true
 |.rd id off n,.wr b a c=>id !=b||off+n<=a||a+c<=off
 |.wr id off n,.rd b a c=>id !=b||off+n<=a||a+c<=off
 |.rd ..,.app=>true
 |.app,.rd .. =>true
 |.rr,.rd .. =>true
 |.rd ..,.rr=>true
 |.rr,.q=>true
 |.q,.rr=>true
 |.rr,.rr=>true
 |.rr,.wr .. =>true
 |.wr ..,.rr=>true
 |_,_=>false
open Classical in
noncomputable def a0(i:I)(e:Env)(E b:AS):FP:=
 match i with
 |.load _ n a=>match a.get e with
  |.ptr id off=>.rd id off (Nat.max n 1)
  |.dw .. =>.rr
  |.fB .. =>.no
  |.dR _=>.no
  |_=>.all
 |.lookup .. =>.q
 |.len k _=>match k with
  |.map=>.q
  |_=>.no
 |.store n a _=>match a.get e with
  |.ptr id off=>.wr id off n
  |.dw .. =>.app
  |_=>.all
 |.append .. =>.app
 |.call .. =>if b=E then .q else .all
 |.alloc _ _|.box .. |.rX .. |.nO|.CO .. |.oQ .. |.copy .. |.clear .. |.panic _=>.all
 |_=>.no
def I.cls:I->Nat
 |.mov _|.pick .. |.build .. |.bslice .. |.nilck _|.bin .. |.shf .. |.eq .. |.ne .. |.un .. |.conv .. |.s2b _|.mki .. |.mkf .. =>0
 |.slstr .. |.slsl .. |.slarr .. |.faddr .. |.fld .. |.iaddra .. |.iaddrs .. |.idxa .. |.idxs .. |.ta .. |.ext .. |.max _|.min _=>0
 |.load .. |.lookup .. |.len .. =>1
 |.call .. =>2
 |_=>3
def aq.tmps:aq->lN
 |.t i=>[i]
 |.c _=>[]
def im(l:List aq):lN:=l.flatMap aq.tmps
def I.reads:I->lN
 |.mov x|.box x _|.nilck x|.un _ x|.conv _ x|.s2b x|.mki _ x|.ta _ x _ _|.ext x _|.len _ x|.clear _ x|.panic x=>x.tmps
 |.alloc _ _|.nO=>[]
 |.pick a b c|.oQ _ a b c=>im [a,b,c]
 |.build _ ps|.bslice _ _ ps|.rX _ _ _ ps=>im (ps.map (·.2.2))
 |.load _ _ a=>a.tmps
 |.store _ a v|.bin _ a v|.shf _ a v|.eq _ a v|.ne _ a v|.CO _ _ _ a v|.iaddra _ _ a v|.iaddrs _ a v|.idxa _ _ _ a v|.idxs a v
 |.lookup _ _ a v _|.append _ _ _ a v|.copy _ a v=>im [a,v]
 |.mkf _ a b=>im (a++b)
 |.slstr x lo d|.slarr _ _ x lo d=>im (x:: (lo.toList++d.toList))
 |.slsl _ x lo d e=>im (x:: (lo.toList++d.toList++e.toList))
 |.faddr _ x|.fld _ _ _ x=>x.tmps
 |.max xs|.min xs=>im xs
 |.call f as=>im (f::as)
def aR.reads(o:aR):lN:=o.i.reads++(match o.g with|some (t,_)=>[t]|none=>[])
def CQ(l m:lN):Bool:=l.all λx=>!m.contains x
def ku(x y:aR):Bool:=
 CQ x.dst.toList y.reads&&CQ y.dst.toList x.reads&&CQ x.dst.toList y.dst.toList
def FP.is:FP->Bool
 |.no=>false
 |_=>true
def CR(a:List FP)(o:aR×lN)(os:List (aR×lN)):Bool:=
 o.2.isEmpty&& (o.1.i.cls !=0&& ((o.1.i.cls==2||a.all FP.is)&&os.all λo'=>if o'.1.i.cls=0 then !ku o.1 o'.1 else !o'.2.contains a.length))
noncomputable def gM(C:bA):List FP->List (aR×lN)->Fr->AS->jK
 |_,[],fr,E=>some (.normal,fr,E)
 |a,o::os,fr,E=>
  if gw fr.env o.1.g then
   match exec X C o.1.i fr.env E with
   |some (.ok v b)=>
    if o.2.all (λj=>((a.getD j .all).ok (a0 o.1.i fr.env E b)))then
     gM C (a++[a0 o.1.i fr.env E b]) os (fr.put o.1.dst v) b
    else none
   |some (.panic v b)=>if CR a o os then some (.panic v,fr,b)else none
   |none=>none
  else gM C (a++[.no]) os (fr.put o.1.dst .undef) E
def aR.gd(x:aR):Option ae:=match x.i with
 |.alloc z tg=>some (.box z tg)
 |_=>none
def lT(m:Nat)(x:aR):aR:=match x.gd with
 |some _=>{x with i:=.mov (.c (.ptr m 0))}
 |none=>x
def iF:Nat->List (aR×lN)->List (aR×lN)
 |_,[]=>[]
 |n,o::os=>(lT n o.1,o.2)::iF (match o.1.gd with|some _=>n+1|none=>n) os
def dM:List (aR×lN)->List ae
 | []=>[]
 |o::os=>match o.1.gd with
  |some b=>b::dM os
  |none=>dM os
def AS.mm(E:AS)(os:List ae):AS:={E with heap:=E.heap++os}
def x8:PC->Option Ex
 |.ret=>some .ret
 |.exit id=>some (.exit id)
 |_=>none
abbrev eK:=(Fr->AS->jK)->Fr->AS->jK
def qC:AV->Bool
 |.fn (.func f) _ _=>(X.bW f).isNone&& (X.code f).isSome
 |_=>false
def endLoop(l:Nat)(b:Fr)(E:AS):jK:=
 match E.heap[l]? with
 |some (.loop st a f env ps as bd)=>
  if st= .busy then none else
  match a with
  |none=>some (.normal,b,E.set l (.loop .exhausted a f env ps as bd) 0)
  |some j=>match x8 j with
   |some ex=>some (ex,b,E.set l (.loop .exhausted a f env ps as bd) 0)
   |none=>none
 |_=>none
noncomputable def bh(C:bA)(L:eK)(bO:FuncId)(rd:Bool):PC->Fr->AS->jK
 |.skip,fr,E=>some (.normal,fr,E)
 |.seq a b,fr,E=>match bh C L bO rd a fr E with
  |some (.normal,d,e)=>bh C L bO rd b d e
  |r=>r
 |.cond c a b,fr,E=>match c.get fr.env with
  |.bool t=>if t then bh C L bO rd a fr E else bh C L bO rd b fr E
  |_=>none
 |.block id body,fr,E=>match bh C L bO rd body fr E with
  |some (.exit f,d,e)=>if f=id then some (.normal,d,e)else some (.exit f,d,e)
  |r=>r
 |.loop body,fr,E=>L (bh C L bO rd body) fr E
 |.exit id,fr,E=>some (.exit id,fr,E)
 |.ret,fr,E=>some (.ret,fr,E)
 |.aJ ops,fr,E=>fo X C ops fr E
 |.uA ops,fr,E=>gM X C [] (iF E.heap.length ops) fr (E.mm (dM ops))
 |.iE g params assign body,fr,E=>
  if rd then none else
  if qC X (g.get fr.env)then
   match C (g.get fr.env) [.fn (.yield (E.heap.length+1)) [] []] ((E.push .fI).push (.loop .ready none bO fr.env params assign body))with
   |some (.ret _ e)=>endLoop (E.heap.length+1) {fr with marks:=E.heap.length::fr.marks} e
   |some (.panic v e)=>some (.panic v,{fr with marks:=E.heap.length::fr.marks},e)
   |none=>none
  else none
mutual
def freeze(E:AS)(n:Nat):Nat->AV->Option AV
 |0,_=>none
 |k+1,v=>if v.refs<=n then some v else
  match v with
  |.ref id aj sz off len cF=>match E.heap[id]? with
   |some (.row v c _ af)=>if v=aj/\c=sz/\off+len<=af.length then
      match r8 E n k ((af.drop off).take len)with
      |some a=>some (.sl a cF)
      |none=>none
    else none
   |_=>none
  |.agg cs=>match jt E n k cs with
   |some b=>some (.agg b)
   |none=>none
  |.az cs=>match jt E n k cs with
   |some b=>some (.az b)
   |none=>none
  |.sl af cF=>match r8 E n k af with
   |some a=>some (.sl a cF)
   |none=>none
  |_=>none
def jt(E:AS)(n:Nat):Nat->List AV->Option (List AV)
 |_,[]=>some []
 |0,_::_=>none
 |k+1,a::as=>match freeze E n k a with
  |some a'=>match jt E n (k+1) as with
   |some b=>some (a'::b)
   |none=>none
  |none=>none
def r8(E:AS)(n:Nat):Nat->List (List AV)->Option (List (List AV))
 |_,[]=>some []
 |0,_::_=>none
 |k+1,a::as=>match jt E n k a with
  |some a'=>match r8 E n (k+1) as with
   |some b=>some (a'::b)
   |none=>none
  |none=>none
end
def finish(n:Nat)(dS:oN)(v:AV)(E:AS):AV×AS:=
 if(match E.lo with|none=>true|some j=>n<=j)then
  match freeze E n 12 v with
  |some v'=>(v',{heap:=E.heap.take n,lo:=dS})
  |none=>(v,{heap:=E.heap,lo:=gZ dS E.lo})
 else(v,{heap:=E.heap,lo:=gZ dS E.lo})
def oS(E:AS)(e:Env):RV->Option AV
 |.t i=>some (e i)
 |.cell a agg n=>cq X E agg n (e a)
def kx(E:AS)(e:Env):List RV->Option (List AV)
 | []=>some []
 |r::rs=>match oS X E e r with
  |some v=>match kx E e rs with
   |some vs=>some (v::vs)
   |none=>none
  |none=>none
def gp(E:AS)(e:Env)(a:List RV):Option AV:=
 match kx X E e a with
 |some [v]=>some v
 |some vs=>some (.az vs)
 |none=>none
def dZ(E:AS):lN->Option AS
 | []=>some E
 |m::ms=>match E.heap[m]? with
  |some .fI=>dZ (E.set m .dead 0) ms
  |_=>none
def ds(args:List AV):Env:=λt=>args.getD t .undef
def iG(e:Env):lN->List AV->Env
 |p::ps,a::as=>iG (e.set p a) ps as
 |_,_=>e
def qD(n:Nat)(dS:oN)(pf:PF)(b:Fr)(E:AS):Option aV:=
 match dZ E b.marks with
 |some a=>match gp X a b.env pf.results with
  |some v=>some (.ret (finish n dS v a).1 (finish n dS v a).2)
  |none=>none
 |none=>none
def leave(n:Nat)(dS:oN)(pf:PF):jK->Option aV
 |some (.normal,fr,E)=>qD X n dS pf fr E
 |some (.ret,fr,E)=>qD X n dS pf fr E
 |some (.panic v,fr,E)=>match dZ E fr.marks with
  |some a=>some (.panic (finish n dS v a).1 (finish n dS v a).2)
  |none=>none
 |_=>none
def qE:Ex->Option (Option PC)
 |.normal=>some none
 |.ret=>some (some .ret)
 |.exit id=>some (some (.exit id))
 |.panic _=>none
def endRound(l n:Nat)(dS:oN):jK->Option aV
 |some (ex,_,E)=>match qE ex,E.heap[l]? with
  |some j,some (.loop _ _ f env ps as bd)=>
   some (.ret (.bool j.isNone) (finish n dS (.bool j.isNone) (E.set l (.loop (if j.isNone then .ready else .done) j f env ps as bd) 0)).2)
  |_,_=>none
 |none=>none
noncomputable def lU(C:bA)(L:eK)(l:Nat)(args:List AV)(E:AS):Option aV:=
 match E.heap[l]? with
 |some (.loop _ _ f env ps assign body)=>
  if args.length=ps.length then
   match bh X C L f true assign {env:=iG env ps args,marks:=[]} {E with lo:=none}with
   |some (.normal,fr,a)=>
    match a.heap[l]? with
    |some (.loop .ready b g c d e ju)=>
     endRound l E.heap.length E.lo (bh X C L f true body fr (a.set l (.loop .busy b g c d e ju) 0))
    |_=>none
   |_=>none
  else none
 |_=>none
noncomputable def step(C:bA)(L:eK):bA
 |.fn (.func f) first cap,args,E=>
  match X.bW f with
  |some p=>p (first++args++cap) E
  |none=>
   match X.code f with
   |some pf=>
    if(first++args++cap).length<=pf.ntmps then
     leave X E.heap.length E.lo pf (bh X C L f false pf.body {env:=ds (first++args++cap),marks:=[]} {E with lo:=none})
    else none
   |none=>none
 |.fn (.yield l) [] _,args,E=>lU X C L l args E
 |_,_,_=>none
def iter:Nat->eK
 |0,_,_,_=>none
 |n+1,body,fr,E=>match body fr E with
  |some (.normal,a,b)=>iter n body a b
  |r=>r
noncomputable def iX:Nat->bA
 |0=>λ_ _ _=>none
 |n+1=>step X (iX n) (iter n)
section
variable(P:Program)
def cx(t:TypeId):oN:=(P.info? t).map (·.size)
def x9(t:TypeId):oN:=(P.info? t).map (·.bytes)
def mW(t:TypeId):Option Bool:=(P.underlying t).map λ |.struct _|.array _ _=>true|_=>false
def AV.plain:AV->Bool
 |.qx=>false
 |_=>true
def GG:Value->Bool
 |.agg cs=>cs.toList.all λv=>(AV.kp v).plain&& !(AV.kp v).cp
 |.iface _ v=>(AV.kp v).plain
 |v=>(AV.kp v).plain
def zeroV(t:TypeId):Option Value:=(P.info? t).bind (·.zero)
def ya(t:TypeId):Option AV:=
 match zeroV P t with
 |some z=>if GG z then some (AV.ofValue z)else none
 |none=>none
def iq(t:TypeId):Option (List AV):=
 match ya P t,cx P t with
 |some z,some n=>if z.cp=false/\z.cells.length=n then some z.cells else none
 |_,_=>none
def r9:List AV->TypeId->Option TypeId
 | [.eI,.av],t=>some t
 |_,_=>none
def bJ:Operand->Option aq
 |.tmp t=>some (.t t)
 |.const v=>if GG v then some (.c (AV.ofValue v))else none
 |.global g=>some (.c (.dR g))
 |.func f=>some (.c (.fn (.func f) [] []))
def nP:List Operand->Option (List aq)
 | []=>some []
 |x::xs=>match bJ x,nP xs with
  |some y,some ys=>some (y::ys)
  |_,_=>none
def uE:Option Operand->Option (Option aq)
 |none=>some none
 |some x=>(bJ x).map some
def parts(a:Nat->Option (Nat×Nat)):List (Nat×Operand)->Option (List (Nat×Nat×aq))
 | []=>some []
 | (i,x)::r=>match a i,bJ x,parts a r with
   |some (off,n),some y,some b=>some ((off,n,y)::b)
   |_,_,_=>none
def As(f:TypeId->Option (List EK)):List Field->Nat->Option (List EK)
 | [],_=>some []
 |g::gs,off=>match f g.type with
  |some a=>if g.name≠ "_" /\g.offset=off/\cx P g.type=some a.length then(As f gs (off+a.length)).map (a++ ·)else none
  |none=>none
def nQ:Nat->TypeId->Option (List EK)
 |0,_=>none
 |d+1,t=>match P.underlying t with
  |some .bool=>some [.bool]
  |some (.int _)=>some [.int]
  |some .string=>some [.str]
  |some (.struct fields)=>if P.stoodInHeld t=false then As P (nQ d) fields.toList 0 else none
  |some (.array n e)=>match nQ d e with
   |some a=>if cx P e=some a.length/\n*a.length<=1024 then some (List.replicate n a).flatten else none
   |none=>none
  |_=>none
def Vp:List TypeId:=
 (List.range P.types.size).filter λt=>match P.info? t,P.underlying t with
   |some i,some (.int _)=>i.comparable
   |_,_=>false
def yc(t:TypeId)(x y:Operand):Option EK:=
 match P.underlying t with
 |some .bool=>some .bool
 |some (.int _)=>some .int
 |some .string=>some .str
 |some (.pointer _)=>some .ptr
 |some (.slice _)=>some .sl
 |some (.map _ _)=>some .map
 |some (.func _ _ _)=>some .fn
 |some (.interface _)=>(match x,y with|.const .nilIface,_=>some .dq|_,.const .nilIface=>some .dq|_,_=>some (.Ao (Vp P)))
 |some (.struct _)=>if P.eqGuardType P.depth t=false then(nQ P 10 t).map .agg else none
 |some (.array _ _)=>if P.eqGuardType P.depth t=false then(nQ P 10 t).map .agg else none
 |_=>none
def Au(t:TypeId):Option EK:=
 match P.underlying t with
 |some .bool=>some .bool
 |some (.int _)=>some .int
 |some .string=>some .str
 |_=>none
def aBJ(t:TypeId):Bool:=match zeroV P t with|some .nilIface=>true|_=>false
def Vq:Fn->Bool
 |.yield _=>true
 |_=>false
def aBK(a:Array (String×TypeId)):List TypeId:=
 (List.range P.types.size).filter λt=>match P.info? t with
   |some i=>(Instr.missingMethod a i.methods).isNone
   |none=>false
def CT(a:TypeId)(c:Call):Option I:=
 match c.callee,c.argTypes.toList,c.args.toList with
 |.value f,_,args=>match bJ f,nP args with
  |some f,some as=>some (.call f as)
  |_,_=>none
 |.builtin .len,[t],[x]=>match P.underlying t with
  |some .string=>(bJ x).map (.len .str)
  |some (.slice _)=>(bJ x).map (.len .sl)
  |some (.map _ _)=>(bJ x).map (.len .map)
  |_=>none
 |.builtin .append,[st,g],[s,x]=>match P.underlying st with
  |some (.slice e)=>match cx P e,x9 P e,bJ s,bJ x with
   |some sz,some b,some s,some x=>match P.underlying g with
    |some (.slice _)=>if 0<b/\ (iq P e).isSome then some (.append e sz b s x)else none
    |_=>none
   |_,_,_,_=>none
  |_=>none
 |.builtin .copy,[h,_],[d,s]=>match P.underlying h with
  |some (.slice e)=>match cx P e,bJ d,bJ s with
   |some sz,some d,some s=>some (.copy sz d s)
   |_,_,_=>none
  |_=>none
 |.builtin .clear,[t],[x]=>match P.underlying t with
  |some (.slice e)=>match iq P e,bJ x with
   |some z,some x=>some (.clear z x)
   |_,_=>none
  |_=>none
 |.builtin .max,_,xs=>match P.underlying a with
  |some (.int _)=>(nP xs).map .max
  |_=>none
 |.builtin .min,_,xs=>match P.underlying a with
  |some (.int _)=>(nP xs).map .min
  |_=>none
 |.builtin .cap,[t],[x]=>match P.underlying t with
  |some (.slice _)=>(bJ x).map (.len .cap)
  |_=>none
 |_,_,_=>none
def kZ(rows:Bool)(o:Oper):Option I:=
 match o.op with
 |.move x|.assign x=>(bJ x).map .mov
 |.pick c a b=>match bJ c,bJ a,bJ b with
  |some c,some a,some b=>some (.pick c a b)
  |_,_,_=>none
 |.alloc t=>(iq P t).map λz=>.alloc z (r9 z t)
 |.box t x=>(bJ x).map λx=>.box x ((iq P t).bind λz=>r9 z t)
 |.build t ps=>match P.underlying t,iq P t with
  |some (.struct fields),some z=>if fields.toList.all (λf=>(cx P f.type).isSome)then(parts (λi=>match fields[i]? with
    |some f=>(cx P f.type).map λn=>(f.offset,n)
    |none=>none) ps.toList).map (.build z)else none
  |some (.array _ e),some z=>match cx P e with
   |some sz=>(parts (λi=>some (i*sz,sz)) ps.toList).map (.build z)
   |none=>none
  |_,_=>none
 |.buildSlice t len ps=>match P.underlying t with
  |some (.slice e)=>match iq P e with
   |some z=>if len*z.length<=65536/\0<z.length then
      (parts (λi=>some (i*z.length,z.length)) ps.toList).map λps=>if rows then .rX e z len ps else .bslice z len ps
    else none
   |none=>none
  |_=>none
 |.load t a=>match mW P t,cx P t,bJ a with
  |some b,some n,some a=>some (.load b n a)
  |_,_,_=>none
 |.store t a v=>match cx P t,bJ a,bJ v with
  |some n,some a,some v=>some (.store n a v)
  |_,_,_=>none
 |.nilCheck x=>(bJ x).map .nilck
 |.binOp op t x y _=>match bJ x,bJ y with
  |some p,some j=>match op,P.underlying t with
   |.shl,some (.int _)|.shr,some (.int _)=>some (.shf op p j)
   |.eql,_=>(yc P t x y).map λk=>.eq k p j
   |.neq,_=>(yc P t x y).map λk=>.ne k p j
   |_,some (.int _)|_,some .string=>some (.bin op p j)
   |_,_=>none
  |_,_=>none
 |.unOp op _ x=>(bJ x).map (.un op)
 |.convert src dst x=>match P.underlying src,P.underlying dst,bJ x with
  |some (.int _),some (.int k),some x=>some (.conv k x)
  |some .string,some (.slice e),some x=>match P.underlying e with
   |some (.int .u8)=>some (.s2b x)
   |_=>none
  |_,_,_=>none
 |.makeInterface t x=>match P.underlying t with
  |some (.interface _)|none=>none
  |some _=>(bJ x).map (.mki t)
 |.makeFunc f first cap=>match nP first.toList,nP cap.toList with
  |some a,some b=>if Vq f then none else some (.mkf f a b)
  |_,_=>none
 |.makeMap _ none=>some .nO
 |.makeSlice t l c=>match P.underlying t with
  |some (.slice e)=>match iq P e,x9 P e,bJ l,bJ c with
   |some z,some b,some l,some c=>if 0<z.length/\0<b then some (.CO e z b l c)else none
   |_,_,_,_=>none
  |_=>none
 |.slice t x lo h d=>match bJ x,uE lo,uE h,uE d with
  |some x,some lo,some h,some d=>match P.underlying t with
   |some .string=>if d.isNone then some (.slstr x lo h)else none
   |some (.slice e)=>if d.isNone||h.isSome then(cx P e).map λn=>.slsl n x lo h d else none
   |some (.array n e)=>if d.isNone then(cx P e).map λsz=>.slarr n sz x lo h else none
   |_=>none
  |_,_,_,_=>none
 |.fieldAddr s x f=>match P.underlying s,bJ x with
  |some (.struct fields),some x=>match fields[f]? with
   |some g=>match cx P g.type with
    |some n=>if 0<n then some (.faddr g.offset x)else none
    |none=>none
   |none=>none
  |_,_=>none
 |.field s x f=>match P.underlying s,bJ x with
  |some (.struct fields),some x=>match fields[f]? with
   |some g=>match mW P g.type,cx P g.type with
    |some b,some n=>some (.fld b n g.offset x)
    |_,_=>none
   |none=>none
  |_,_=>none
 |.indexAddr t x i=>match P.underlying t,bJ x,bJ i with
  |some (.array n e),some x,some i=>(cx P e).map λsz=>.iaddra n sz x i
  |some (.slice e),some x,some i=>(cx P e).map λsz=>.iaddrs sz x i
  |_,_,_=>none
 |.index t x i=>match P.underlying t,bJ x,bJ i with
  |some (.array n e),some x,some i=>match mW P e,cx P e with
   |some b,some sz=>some (.idxa b n sz x i)
   |_,_=>none
  |some .string,some x,some i=>some (.idxs x i)
  |_,_,_=>none
 |.lookup t m k ok=>match P.underlying t with
  |some (.map q u)=>match Au P q,ya P u,bJ m,bJ k with
   |some r,some z,some m,some k=>some (.lookup r z m k ok)
   |_,_,_,_=>none
  |_=>none
 |.mapUpdate t m k v|.insert t m k v=>match P.underlying t with
  |some (.map q _)=>match Au P q,bJ m,bJ k,bJ v with
   |some r,some m,some k,some v=>some (.oQ r m k v)
   |_,_,_,_=>none
  |_=>none
 |.typeAssert x _ asserted ok=>match P.underlying asserted,bJ x with
  |some (.interface _),some _=>none
  |some _,some x=>match ya P asserted with
   |some z=>some (.ta z x asserted ok)
   |none=>none
  |_,_=>none
 |.extract x i=>(bJ x).map λx=>.ext x i
 |.call c=>CT P o.type c
 |.panic x=>(bJ x).map .panic
 |_=>none
def guardOf(a:Array Oper)(o:Oper):Option (Option (Nat×Bool)):=
 match o.guard with
 |none=>some none
 |some (j,want)=>match(a[j]?).bind (·.dst)with
  |some t=>some (some (t,want))
  |none=>none
def iY(rows:Bool)(a:Array Oper)(o:Oper):Option aR:=
 match kZ P rows o,guardOf a o with
 |some i,some g=>some {g:=g,dst:=o.dst,i:=i}
 |_,_=>none
def k0(rows:Bool)(a:Array Oper):List Oper->Option (List aR)
 | []=>some []
 |o::os=>match iY P rows a o,k0 rows a os with
  |some x,some xs=>some (x::xs)
  |_,_=>none
def k5(o:Oper):lN:=(o.after.toList.filter (Region.binds .any)).map (·.on)
def Av(a:lN)(n:Nat):lN->Nat
 | []=>0
 |e::es=>Nat.lor (Nat.lor (Nat.shiftLeft 1 e) (if e<n then a.getD (n-1-e) 0 else 0)) (Av a n es)
def uF(a:Array Oper):Nat->lN
 |0=>[]
 |n+1=>Av (uF a n) n (match a[n]? with|some o=>k5 o|none=>[])::uF a n
def ir(b:Array Oper)(_:Nat)(i:Nat):lN:=(List.range i).filter λa=>Nat.testBit ((uF b (i+1)).headD 0) a
def GH(b:Region.Mode)(a:Array Oper):lN->lN->Bool
 |_,[]=>true
 |pre,i::rest=>(match a[i]? with|some o=>o.after.toList.all (λe=>!Region.binds b e||pre.contains e.on)|none=>false)&&GH b a (i::pre) rest
def uG(c:Region.Mode)(b:Array Oper)(a:lN):Bool:=(List.range b.size).all (λi=>a.contains i)&&GH c b [] a
def sa(ys:List (aR×Nat))(a:List lN)(y:aR)(j:Nat):lN:=
 if y.i.cls=0 then[]else
 match(ys.filter λ (x,i)=>i<j&&x.i.cls>=1&& !(a.getD j []).contains i).map (·.2)with
 | []=>if y.i.cls=2 then((ys.filter λ (x,i)=>i<j&&x.i.cls=0&& !(a.getD j []).contains i).map (·.2)).take 1 else[]
 |l=>l
def MK{ys:List (aR×Nat)}{a:List lN}{y x:aR}(c: (x,i)∈ys)(b:i<j)(f:x.i.cls≠0)(e:y.i.cls≠0)(d: (a.getD j []).contains i=false):i∈sa ys a y j:=by
 unfold sa;have hm:i∈(ys.filter λ (x,i)=>i<j&&x.i.cls>=1&& !(a.getD j []).contains i).map (·.2):=by
  simp only[afq,afI]
  grind
 grind
def amC{ys:List (aR×Nat)}{b:List lN}{y x:aR}(d: (x,i)∈ys)(c:i<j)(k:y.i.cls=2)(f: (b.getD j []).contains i=false):sa ys b y j≠[]:=by
 intro h;by_cases ci:x.i.cls=0
 ·unfold sa at h;rw[adE (by omega)]at h;split at h
  ·have hm:i∈(ys.filter λ (x,i)=>i<j&&x.i.cls=0&& !(b.getD j []).contains i).map (·.2):=by
     simp only[afq,afI]
     grind
   cases e: (ys.filter λ (x,i)=>i<j&&x.i.cls=0&& !(b.getD j []).contains i).map (·.2)with
   |nil=>grind
   |cons a g=>grind
  grind
 ·have:=MK (y:=y) d c ci (by omega) f
  grind
def MM(a:Array Oper)(xs:List aR):Option (List (aR×lN)):=
 let n:=xs.length
 let before:=(List.range n).map λi=>(ir a 64 i).eraseDups
 let ordered (i j:Nat):Bool:=(before.getD j []).contains i
 let ys:=xs.zipIdx
 if(uG .any a (List.range a.size)&&uG .text a (List.range a.size)&&uG .gc a (Region.linearise .gc a 0))&& (List.range n).all (λi=>match a[i]? with|some o=>(k5 o).all (· <i)|none=>false)&&
   ys.all (λ (x,i)=>ys.all λ (y,j)=>i>=j||ordered i j||ku x y)
 then some (ys.map λ (y,j)=>(y,sa ys before y j))
 else none
def ft(rows:Bool)(nt:Nat):Code->Option PC
 |.skip|.label _=>some .skip
 |.seq a b=>match ft rows nt a,ft rows nt b with
  |some a,some b=>some (.seq a b)
  |_,_=>none
 |.cond c a b=>match bJ c,ft rows nt a,ft rows nt b with
  |some c,some a,some b=>some (.cond c a b)
  |_,_,_=>none
 |.block id b=>(ft rows nt b).map (.block id)
 |.loop b=>(ft rows nt b).map .loop
 |.exit id=>some (.exit id)
 |.ret=>some .ret
 |.region _ ops draw=>match k0 P rows ops ops.toList with
  |some xs=>
   if xs.all (λx=>match x.dst with|some d=>d<nt|none=>true)then
    if draw then(MM ops xs).map .uA else some (.aJ xs)
   else none
  |none=>none
 |.rangeFunc g ps assign body=>match bJ g,ft rows nt assign,ft rows nt body with
  |some g,some a,some b=>if ps.toList.all (· <nt)then some (.iE g ps.toList a b)else none
  |_,_,_=>none
 |.scope _|.goto _|.refuse _=>none
def oT:List ResultVar->Option (List RV)
 | []=>some []
 |.tmp t::r=>(oT r).map (.t t:: ·)
 |.cell a t::r=>match mW P t,cx P t,oT r with
  |some b,some n,some rs=>some (.cell a b n::rs)
  |_,_,_=>none
def CU(rows:Bool)(fn:Func):Option PF:=
 match fn.body with
 |some c=>match ft P rows fn.ntmps c,oT P fn.results.toList with
  |some b,some rs=>if(fn.name != "runtime.NumGoroutine")then some {ntmps:=fn.ntmps,results:=rs,body:=b}else none
  |_,_=>none
 |none=>none
end
structure Gh where
 bw:Nat->Nat->Option Value
 n:Nat
 bb:Nat->Nat
 base:Nat->Nat
 aj:Nat->Nat
 eC:Nat->Nat
 sz:Nat->Nat
 pz:Nat->Option ae:=λ_=>none
def Gh.on(G:Gh)(i:Nat):Prop:=i<G.n/\G.pz i=none
def leaf:Value->Bool
 |.agg _=>false
 |.tuple _=>false
 |_=>true
def qF(G:Gh)(b o:Nat)(vs:List Value):Prop:= ∀j v,vs[j]?=some v->G.bw b (o+j)=some v
def Leaves(vs:List Value):Prop:= ∀v∈vs,leaf v=true
def mX(G:Gh):Fn->Fn->Prop
 |.yield l,f=>G.on l/\ (∃k,f= .yield k/\ (G.aj l=0->k=G.bb l))
 |g,f=>f=g
mutual
def an(G:Gh):AV->Value->Prop
 |.bool b,v=>v= .bool b
 |.int k n,v=>v= .int k n
 |.str s,v=>v= .string s
 |.agg cs,v=> ∃vs:Array Value,v= .agg vs/\aF G cs vs.toList/\Leaves vs.toList
 |.az cs,v=> ∃vs:Array Value,v= .tuple vs/\aF G cs vs.toList
 |.eI,v=>v= .pointer none
 |.ptr id off,v=>G.on id/\ ∃a,v= .pointer (some a)/\ (G.aj id=0->a=⟨G.bb id,off,none⟩)
 |.dw id aj i off,v=>G.on id/\aj<=G.aj id/\ ∃a,v= .pointer (some a)/\ (G.aj id=aj->a=⟨G.bb id,G.base id+i*G.sz id+off,none⟩)
 |.fB cs off,v=> ∃b o vs,v= .pointer (some ⟨b,o+off,none⟩)/\qF G b o vs/\Leaves vs/\aF G cs vs
 |.dR g,v=>v= .pointer (some ⟨g,0,none⟩)
 |.av,v=>v= .slice none 0 0
 |.sl af cF,v=> ∃b o cap sz vs,v= .slice (some ⟨b,o,none⟩) af.length cap/\af.length<=cap/\ (cF=true->cap=af.length)/\ (∀el∈af,el.length=sz)/\qF G b o vs/\Leaves vs/\br G af vs
 |.ref id aj sz off len cF,v=>G.on id/\aj<=G.aj id/\ ∃a cap,v= .slice (some a) len cap/\ (len<=cap/\a.spot=none)/\ (cF=true->cap=len)/\
   (G.aj id=aj->G.sz id=sz/\ (0<cap->a=⟨G.bb id,G.base id+off*sz,none⟩)/\off*sz+cap*sz<=G.eC id)
 |.fH id _ off len,v=>G.on id/\ ∃a cap,v= .slice (some a) len cap/\len<=cap/\ (G.aj id=0->0<cap->a=⟨G.bb id,off,none⟩)
 |.mi,v=>v= .map none
 |.lP g,v=>(∃r,v= .map (some r))/\G.bw g 0=some v
 |.mp id,v=>G.on id/\ ∃r,v= .map (some r)/\ (G.aj id=0->r=G.bb id)
 |.fn f a b,v=> ∃ (c:Fn) (a' d:Array Value),v= .func c a' d/\mX G f c/\aF G a a'.toList/\aF G b d.toList
 |.dA,v=>v= .nilFunc
 |.dq t x,v=> ∃y,v= .iface t y/\an G x y
 |.eZ,v=>v= .nilIface
 |.qx,_=>False
def aF(G:Gh):List AV->List Value->Prop
 | [],vs=>vs=[]
 |a::as,vs=> ∃v r,vs=v::r/\an G a v/\aF G as r
def br(G:Gh):List (List AV)->List Value->Prop
 | [],vs=>vs=[]
 |a::as,vs=> ∃v r,vs=v++r/\aF G a v/\br G as r
end
structure Gh.sub(G G':Gh):Prop where
 bw: ∀b o v,G.bw b o=some v->G'.bw b o=some v
 n:G.n<=G'.n
 on: ∀i,G.on i->G'.on i
 aj: ∀i,G.on i->G.aj i<=G'.aj i
 same: ∀i,G.on i->G'.aj i=G.aj i->G'.bb i=G.bb i/\G'.base i=G.base i/\G'.eC i=G.eC i/\G'.sz i=G.sz i
structure Gh.le(G G':Gh):Prop extends toSub:Gh.sub G G' where
 pz: ∀i,i<G.n->G'.pz i=G.pz i
def Gh.le.mk'{G a:Gh}(bw: ∀b o v,G.bw b o=some v->a.bw b o=some v)(n:G.n<=a.n)(pz: ∀i,i<G.n->a.pz i=G.pz i)(aj: ∀i,i<G.n->G.aj i<=a.aj i)
  (same: ∀i,i<G.n->a.aj i=G.aj i->a.bb i=G.bb i/\a.base i=G.base i/\a.eC i=G.eC i/\a.sz i=G.sz i):G.le a:=
 {bw:=bw,n:=n,pz:=pz,on:=λi h=>⟨ahl h.1 n,by rw[pz i h.1];exact h.2⟩,aj:=λi h=>aj i h.1,same:=λi h=>same i h.1}
def Gh.amD(G:Gh):G.sub G:=⟨λ_ _ _ h=>h,aef _,λ_ h=>h,λ_ _=>aef _,λ_ _ _=>⟨rfl,rfl,rfl,rfl⟩⟩
theorem Gh.le_refl(G:Gh):G.le G:={G.amD with pz:=λ_ _=>rfl}
def Gh.Vr{f c d:Gh}(h:f.sub c)(k:c.sub d):f.sub d where
 bw b o v e:=k.bw b o v (h.bw b o v e)
 n:=ag2 h.n k.n
 on i g:=k.on i (h.on i g)
 aj i g:=ag2 (h.aj i g) (k.aj i (h.on i g))
 same i g e:=by
  have a:=h.aj i g;have b:=k.aj i (h.on i g);have e1:c.aj i=f.aj i:=by omega
  have j:d.aj i=c.aj i:=by omega
  obtain⟨u,t,s,r⟩:=h.same i g e1;obtain⟨q,p,m,l⟩:=k.same i (h.on i g) j;omega
def Gh.le_trans{c b a:Gh}(h:c.le b)(k:b.le a):c.le a:=
 {Gh.Vr h.toSub k.toSub with pz:=λi d=>(k.pz i (ahl d h.n)).trans (h.pz i d)}
def qF.dN{G a:Gh}(h:G.sub a){o:Nat}(f:qF G b o vs):qF a b o vs:=λj v e=>h.bw _ _ _ (f j v e)
def mX.dN{G b:Gh}(h:G.sub b){f g:Fn}(r:mX G f g):mX b f g:=by
 cases f<;>simp only[mX]at* <;>try exact r
 obtain⟨a,k,e,c⟩:=r;refine⟨h.on _ a,k,e,λi=>?_⟩;have d:=h.aj _ a;rw[(h.same _ a (by omega)).1];omega
mutual
theorem an.dN{G z:Gh}(h:G.sub z): ∀ (x:AV) (v:Value),an G x v->an z x v
 |.bool _,_,r=>by simpa[an]using r
 |.int _ _,_,r=>by simpa[an]using r
 |.str _,_,r=>by simpa[an]using r
 |.agg cs,_,r=>by
  simp only[an]at*;obtain⟨vs,e,l,d⟩:=r;exact⟨vs,e,aF.dN h cs _ l,d⟩
 |.az cs,_,r=>by
  simp only[an]at*;obtain⟨vs,e,l⟩:=r;exact⟨vs,e,aF.dN h cs _ l⟩
 |.eI,_,r=>by simpa[an]using r
 |.ptr id off,_,r=>by
  simp only[an]at*;obtain⟨a,x,e,c⟩:=r;refine⟨h.on _ a,x,e,λn=>?_⟩;have m:=h.aj id a;rw[(h.same id a (by omega)).1];exact c (by omega)
 |.dw id aj i off,_,r=>by
  simp only[an]at*;obtain⟨a,b,x,e,c⟩:=r;have m:=h.aj id a;refine⟨h.on _ a,by omega,x,e,λn=>?_⟩;obtain⟨s,q,w,p⟩:=h.same id a (by omega);rw[s,q,p];exact c (by omega)
 |.fB cs off,_,r=>by
  simp only[an]at*;obtain⟨b,o,vs,e,f,d,l⟩:=r;exact⟨b,o,vs,e,f.dN h,d,aF.dN h cs _ l⟩
 |.dR _,_,r=>by simpa[an]using r
 |.av,_,r=>by simpa[an]using r
 |.sl af cF,_,r=>by
  simp only[an]at*;obtain⟨b,o,cap,sz,vs,e,k,j,u,f,d,l⟩:=r;exact⟨b,o,cap,sz,vs,e,k,j,u,f.dN h,d,br.dN h af _ l⟩
 |.ref id aj sz off len cF,_,r=>by
  simp only[an]at*;obtain⟨a,b,x,cap,e,k,j,u⟩:=r;have m:=h.aj id a;refine⟨h.on _ a,by omega,x,cap,e,k,j,λn=>?_⟩;obtain⟨s,q,w,p⟩:=h.same id a (by omega);rw[s,q,w,p];exact u (by omega)
 |.fH id sz off len,_,r=>by
  simp only[an]at*;obtain⟨a,x,cap,e,k,j⟩:=r;have m:=h.aj id a;refine⟨h.on _ a,x,cap,e,k,λn D=>?_⟩;rw[(h.same id a (by omega)).1];exact j (by omega) D
 |.mi,_,r=>by simpa[an]using r
 |.lP g,_,r=>by
  simp only[an]at*;exact⟨r.1,h.bw _ _ _ r.2⟩
 |.mp id,_,r=>by
  simp only[an]at*;obtain⟨a,x,e,c⟩:=r;have m:=h.aj id a;refine⟨h.on _ a,x,e,λn=>?_⟩;rw[(h.same id a (by omega)).1];exact c (by omega)
 |.fn f a b,_,r=>by
  simp only[an]at*;obtain⟨E,a',F,e,A,C,B⟩:=r;exact⟨E,a',F,e,A.dN h,aF.dN h a _ C,aF.dN h b _ B⟩
 |.dA,_,r=>by simpa[an]using r
 |.dq t x,_,r=>by
  simp only[an]at*;obtain⟨y,e,l⟩:=r;exact⟨y,e,an.dN h x _ l⟩
 |.eZ,_,r=>by simpa[an]using r
 |.qx,_,r=>by simp[an]at r
theorem aF.dN{G b:Gh}(h:G.sub b): ∀ (xs:List AV) (vs:List Value),aF G xs vs->aF b xs vs
 | [],_,r=>by simpa[aF]using r
 |a::as,_,r=>by
  simp only[aF]at*;obtain⟨v,q,e,d,c⟩:=r;exact⟨v,q,e,an.dN h a _ d,aF.dN h as _ c⟩
theorem br.dN{G b:Gh}(h:G.sub b): ∀ (xs:List (List AV)) (vs:List Value),br G xs vs->br b xs vs
 | [],_,r=>by simpa[br]using r
 |a::as,_,r=>by
  simp only[br]at*;obtain⟨v,q,e,d,c⟩:=r;exact⟨v,q,e,aF.dN h a _ d,br.dN h as _ c⟩
end
def an.mono{G a:Gh}(h:G.le a)(x:AV)(v:Value)(r:an G x v):an a x v:=an.dN h.toSub x v r
def aF.mono{G a:Gh}(h:G.le a)(xs:List AV)(vs:List Value)(r:aF G xs vs):aF a xs vs:=aF.dN h.toSub xs vs r
def br.mono{G a:Gh}(h:G.le a)(xs:List (List AV))(vs:List Value)(r:br G xs vs):br a xs vs:=br.dN h.toSub xs vs r
theorem aF.length{G:Gh}: ∀ {xs:List AV} {vs:List Value},aF G xs vs->vs.length=xs.length
 | [],_,r=>by simp only[aF]at r;simp[r]
 |_::as,_,r=>by
  obtain⟨v,q,rfl,_,a⟩:=r;simp[aF.length a]
theorem aF.get{G:Gh}: ∀ {xs:List AV} {vs:List Value},aF G xs vs-> ∀ (j:Nat) (x:AV),xs[j]?=some x-> ∃v,vs[j]?=some v/\an G x v
 | [],_,_,_,_,e=>by grind
 |a::as,_,r,j,x,e=>by
  obtain⟨v,q,rfl,d,b⟩:=r;cases j with
  |zero=>grind
  |succ j=>obtain⟨u,hu,c⟩:=aF.get b j x e;grind
theorem aF.MN{G:Gh}: ∀ {xs:List AV} {vs:List Value},vs.length=xs.length->(∀ (j:Nat) (x:AV) (v:Value),xs[j]?=some x->vs[j]?=some v->an G x v)->aF G xs vs
 | [],vs,b,_=>by cases vs<;>simp_all[aF]
 |a::as,vs,b,h=>by
  cases vs with
  |nil=>grind
  |cons v vs=>
   refine⟨v,vs,rfl,h 0 a v (by simp) (by simp),aF.MN (by grind) λj x u c hu=>h (j+1) x u (by grind) (by grind)⟩
theorem aF.append{G:Gh}: ∀ {xs ys:List AV} {vs us:List Value},aF G xs vs->aF G ys us->aF G (xs++ys) (vs++us)
 | [],_,_,_,r,k=>by simp only[aF]at r;grind
 |a::as,_,_,_,r,k=>by
  obtain⟨v,q,rfl,c,b⟩:=r;exact⟨v,q++_,rfl,c,aF.append b k⟩
theorem aF.split{G:Gh}: ∀ {xs ys:List AV} {vs:List Value},aF G (xs++ys) vs-> ∃v1 v2,vs=v1++v2/\aF G xs v1/\aF G ys v2
 | [],_,vs,r=>⟨[],vs,rfl,by rfl,r⟩
 |a::as,_,_,r=>by
  obtain⟨v,q,rfl,e,d⟩:=r;obtain⟨v1,v2,rfl,c,b⟩:=aF.split d;exact⟨v::v1,v2,rfl,⟨v,v1,rfl,e,c⟩,b⟩
theorem aF.take{G:Gh}{xs:List AV}(r:aF G xs vs)(n:Nat):aF G (xs.take n) (vs.take n):=
 .MN (by simp[r.length]) λj x v a b=>by
  rw[anB]at a b;split at a
  ·obtain⟨u,hu,c⟩:=r.get j x a
   grind
  grind
theorem aF.drop{G:Gh}{xs:List AV}(r:aF G xs vs)(n:Nat):aF G (xs.drop n) (vs.drop n):=
 .MN (by simp[r.length]) λj x v a b=>by
  rw[akX]at a b;obtain⟨u,hu,c⟩:=r.get _ x a
  grind
theorem br.iff{G:Gh}: ∀ {af:List (List AV)} {vs:List Value},br G af vs↔aF G af.flatten vs
 | [],_=>by rfl
 |a::as,vs=>by
  constructor
  ·rintro⟨v,r,rfl,e,d⟩;exact e.append (br.iff.1 d)
  ·intro h;obtain⟨v1,v2,rfl,c,b⟩:=aF.split h;exact⟨v1,v2,rfl,c,br.iff.2 b⟩
def aF.single{G:Gh}{x:AV}:aF G [x] [v]↔an G x v:=by simp[aF]
def Leaves.append{a b:List Value}(h:Leaves a)(k:Leaves b):Leaves (a++b):=λv c=>(aeg.1 c).elim (h v) (k v)
theorem Leaves.take{a:List Value}(h:Leaves a)(n:Nat):Leaves (a.take n):=λv b=>h v (ag9 b)
theorem Leaves.drop{a:List Value}(h:Leaves a)(n:Nat):Leaves (a.drop n):=λv b=>h v (an4 b)
theorem an.cells{G:Gh}{x:AV}(r:an G x v)(h:x.cp=false):aF G x.cells v.cells.toList/\Leaves v.cells.toList:=by
 cases x<;>simp[AV.cp]at h<;>simp only[AV.cells]
 case agg cs=>
  obtain⟨vs,rfl,l,b⟩:=r;exact⟨l,b⟩
 all_goals
  have a:=r;simp only[an]at r
  first
   |rfl
   | (obtain⟨_,_,rfl,_⟩:=r;exact⟨aF.single.2 a,by simp[Leaves,Value.cells,leaf]⟩)
   | (obtain⟨_,rfl,_⟩:=r;exact⟨aF.single.2 a,by simp[Leaves,Value.cells,leaf]⟩)
   | (obtain⟨_,_,_,rfl,_⟩:=r;exact⟨aF.single.2 a,by simp[Leaves,Value.cells,leaf]⟩)
   | (obtain⟨_,_,_,_,rfl,_⟩:=r;exact⟨aF.single.2 a,by simp[Leaves,Value.cells,leaf]⟩)
   | (obtain⟨_,_,_,_,_,rfl,_⟩:=r;exact⟨aF.single.2 a,by simp[Leaves,Value.cells,leaf]⟩)
   | (obtain⟨⟨_,rfl⟩,_⟩:=r;exact⟨aF.single.2 a,by simp[Leaves,Value.cells,leaf]⟩)
mutual
theorem an.refs{G:Gh}: ∀ (x:AV) (v:Value),an G x v->x.refs<=G.n
 |.bool _,_,_|.int _ _,_,_|.str _,_,_|.eI,_,_|.dR _,_,_|.av,_,_|.mi,_,_|.lP _,_,_|.dA,_,_|.eZ,_,_|.qx,_,_=>by simp[AV.refs]
 |.agg cs,_,r=>by simp only[an]at r;obtain⟨vs,_,l,_⟩:=r;simp only[AV.refs];exact aF.refs cs _ l
 |.az cs,_,r=>by simp only[an]at r;obtain⟨vs,_,l⟩:=r;simp only[AV.refs];exact aF.refs cs _ l
 |.ptr id off,_,r=>by simp only[an]at r;have:=r.1.1;simp only[AV.refs];omega
 |.dw id aj i off,_,r=>by simp only[an]at r;have:=r.1.1;simp only[AV.refs];omega
 |.ref id aj sz off len cF,_,r=>by simp only[an]at r;have:=r.1.1;simp only[AV.refs];omega
 |.fH id sz off len,_,r=>by simp only[an]at r;have:=r.1.1;simp only[AV.refs];omega
 |.mp id,_,r=>by simp only[an]at r;have:=r.1.1;simp only[AV.refs];omega
 |.fB cs off,_,r=>by simp only[an]at r;obtain⟨b,o,vs,_,_,_,l⟩:=r;simp only[AV.refs];exact aF.refs cs _ l
 |.sl af cF,_,r=>by simp only[an]at r;obtain⟨b,o,cap,sz,vs,_,_,_,_,_,_,l⟩:=r;simp only[AV.refs];exact br.refs af _ l
 |.fn f a b,_,r=>by
  simp only[an]at r;obtain⟨j,a',k,_,c,e,d⟩:=r;have h:=aF.refs a _ e;have g:=aF.refs b _ d;simp only[AV.refs];cases f<;>simp only[mX]at c<;>simp only<;>first|omega| (have:=c.1.1;omega)
 |.dq t x,_,r=>by simp only[an]at r;obtain⟨y,_,l⟩:=r;simp only[AV.refs];exact an.refs x _ l
theorem aF.refs{G:Gh}: ∀ (xs:List AV) (vs:List Value),aF G xs vs->aL xs<=G.n
 | [],_,_=>by simp[aL]
 |a::as,_,r=>by
  simp only[aF]at r;obtain⟨v,q,_,c,b⟩:=r;have:=an.refs a _ c;have:=aF.refs as _ b;simp only[aL];omega
theorem br.refs{G:Gh}: ∀ (xs:List (List AV)) (vs:List Value),br G xs vs->ca xs<=G.n
 | [],_,_=>by simp[ca]
 |a::as,_,r=>by
  simp only[br]at r;obtain⟨v,q,_,c,b⟩:=r;have:=aF.refs a _ c;have:=br.refs as _ b;simp only[ca];omega
end
structure Gh.ep(m:Nat)(G G':Gh):Prop where
 bw: ∀b o v,G.bw b o=some v->G'.bw b o=some v
 n:m<=G'.n
 pz: ∀i,i<m->G'.pz i=G.pz i
 aj: ∀i,i<m->G'.aj i=G.aj i
 bb: ∀i,i<m->G'.bb i=G.bb i
 base: ∀i,i<m->G'.base i=G.base i
 eC: ∀i,i<m->G'.eC i=G.eC i
 sz: ∀i,i<m->G'.sz i=G.sz i
mutual
theorem an.ep{m:Nat}{G n:Gh}(h:G.ep m n): ∀ (x:AV) (v:Value),an G x v->x.refs<=m->an n x v
 |.bool _,_,r,_|.int _ _,_,r,_|.str _,_,r,_|.eI,_,r,_|.dR _,_,r,_|.av,_,r,_|.mi,_,r,_|.dA,_,r,_|.eZ,_,r,_=>by simpa[an]using r
 |.qx,_,r,_=>by simp[an]at r
 |.lP g,_,r,_=>by
  simp only[an]at*;exact⟨r.1,h.bw _ _ _ r.2⟩
 |.agg cs,_,r,hm=>by
  simp only[an,AV.refs]at*;obtain⟨vs,e,l,c⟩:=r;exact⟨vs,e,aF.ep h cs _ l hm,c⟩
 |.az cs,_,r,hm=>by
  simp only[an,AV.refs]at*;obtain⟨vs,e,l⟩:=r;exact⟨vs,e,aF.ep h cs _ l hm⟩
 |.ptr id off,_,r,hm=>by
  simp only[an,AV.refs]at*;rw[h.aj id (by omega),h.bb id (by omega)];exact⟨⟨ahl (by omega) h.n,by rw[h.pz id (by omega)];exact r.1.2⟩,r.2⟩
 |.dw id aj i off,_,r,hm=>by
  simp only[an,AV.refs]at*;rw[h.aj id (by omega),h.bb id (by omega),h.base id (by omega),h.sz id (by omega)];exact⟨⟨ahl (by omega) h.n,by rw[h.pz id (by omega)];exact r.1.2⟩,r.2⟩
 |.fB cs off,_,r,hm=>by
  simp only[an,AV.refs]at*;obtain⟨b,o,vs,e,f,c,l⟩:=r;exact⟨b,o,vs,e,λj v d=>h.bw _ _ _ (f j v d),c,aF.ep h cs _ l hm⟩
 |.sl af cF,_,r,hm=>by
  simp only[an,AV.refs]at*;obtain⟨b,o,cap,sz,vs,e,z,w,u,f,c,l⟩:=r;exact⟨b,o,cap,sz,vs,e,z,w,u,λj v d=>h.bw _ _ _ (f j v d),c,br.ep h af _ l hm⟩
 |.ref id aj sz off len cF,_,r,hm=>by
  simp only[an,AV.refs]at*;rw[h.aj id (by omega),h.bb id (by omega),h.base id (by omega),h.sz id (by omega),h.eC id (by omega)];exact⟨⟨ahl (by omega) h.n,by rw[h.pz id (by omega)];exact r.1.2⟩,r.2⟩
 |.fH id sz off len,_,r,hm=>by
  simp only[an,AV.refs]at*;rw[h.aj id (by omega),h.bb id (by omega)];exact⟨⟨ahl (by omega) h.n,by rw[h.pz id (by omega)];exact r.1.2⟩,r.2⟩
 |.mp id,_,r,hm=>by
  simp only[an,AV.refs]at*;rw[h.aj id (by omega),h.bb id (by omega)];exact⟨⟨ahl (by omega) h.n,by rw[h.pz id (by omega)];exact r.1.2⟩,r.2⟩
 |.fn f a b,_,r,hm=>by
  simp only[an,AV.refs]at*;obtain⟨s,a',A,e,k,q,p⟩:=r;refine⟨s,a',A,e,?_,aF.ep h a _ q (by omega),aF.ep h b _ p (by omega)⟩;cases f<;>simp only[mX]at* <;>try exact k
  rename_i l;rw[h.aj l (by omega),h.bb l (by omega)];exact⟨⟨ahl (by omega) h.n,by rw[h.pz l (by omega)];exact k.1.2⟩,k.2⟩
 |.dq t x,_,r,hm=>by
  simp only[an,AV.refs]at*;obtain⟨y,e,l⟩:=r;exact⟨y,e,an.ep h x _ l hm⟩
theorem aF.ep{m:Nat}{G b:Gh}(h:G.ep m b): ∀ (xs:List AV) (vs:List Value),aF G xs vs->aL xs<=m->aF b xs vs
 | [],_,r,_=>by simpa[aF]using r
 |a::as,_,r,hm=>by
  simp only[aF,aL]at*;obtain⟨v,q,e,d,c⟩:=r;exact⟨v,q,e,an.ep h a _ d (by omega),aF.ep h as _ c (by omega)⟩
theorem br.ep{m:Nat}{G b:Gh}(h:G.ep m b): ∀ (xs:List (List AV)) (vs:List Value),br G xs vs->ca xs<=m->br b xs vs
 | [],_,r,_=>by simpa[br]using r
 |a::as,_,r,hm=>by
  simp only[br,ca]at*;obtain⟨v,q,e,d,c⟩:=r;exact⟨v,q,e,aF.ep h a _ d (by omega),br.ep h as _ c (by omega)⟩
end
def ae.le(n:Nat):ae->Prop
 |.box cs _=>aL cs<=n
 |.row _ _ _ af=>ca af<=n
 |.map es=> ∀p∈es,p.2.refs<=n
 |.loop _ _ _ env _ _ _=> ∀t,(env t).refs<=n
 |_=>True
theorem ae.le.mono{n a:Nat}(h:n<=a): ∀ {o:ae},o.le n->o.le a
 |.box _ _,r=>ag2 r h
 |.row _ _ _ _,r=>ag2 r h
 |.map _,r=>λp b=>ag2 (r p b) h
 |.loop _ _ _ _ _ _ _,r=>λt=>ag2 (r t) h
 |.fI,_|.dead,_=>trivial
def yd:Option PC->Option Code->Prop
 |none,c=>c=none
 |some .ret,c=>c=some .ret
 |some (.exit id),c=>c=some (.exit id)
 |_,_=>False
structure cK(G:Gh)(nt:Nat)(e:Env)(tmps:Array Value):Prop where
 size:tmps.size=nt
 get: ∀t v,tmps[t]?=some v->an G (e t) v
 out: ∀t,nt<=t->e t= .undef
theorem cK.refs{G:Gh}{e:Env}{a:Array Value}(h:cK G nt e a)(t:Nat): (e t).refs<=G.n:=by
 by_cases b:t<nt
 ·have:t<a.size:=by rw[h.size];exact b
  exact an.refs _ _ (h.get t a[t] (by simp))
 ·rw[h.out t (by omega)];simp[AV.refs,aL]
theorem cK.dN{G b:Gh}(h:G.sub b){e:Env}{a:Array Value}(r:cK G nt e a):cK b nt e a:=
 ⟨r.size,λt v c=>(r.get t v c).dN h,r.out⟩
def cK.mono{G b:Gh}(h:G.le b){e:Env}{a:Array Value}(r:cK G nt e a):cK b nt e a:=r.dN h.toSub
theorem cK.ep{G b:Gh}(h:G.ep m b){e:Env}{a:Array Value}(r:cK G nt e a)(d: ∀t,(e t).refs<=m):cK b nt e a:=
 ⟨r.size,λt v c=>(r.get t v c).ep h _ _ (d t),r.out⟩
def gg(G:Gh):List (AV×AV)->List MapEntry->Prop
 | [],ms=>ms=[]
 | (k,v)::es,ms=> ∃m r,ms=m::r/\isKey k=true/\an G k m.key/\an G v m.val/\gg G es r
theorem gg.dN{G a:Gh}(h:G.sub a): ∀ {es:List (AV×AV)} {ms:List MapEntry},gg G es ms->gg a es ms
 | [],_,r=>by trivial
 | (k,v)::es,_,r=>by
   obtain⟨m,q,e,f,d,c,b⟩:=r;exact⟨m,q,e,f,d.dN h,c.dN h,b.dN h⟩
def amE{k:AV}(h:isKey k=true):k.refs=0:=by cases k<;>simp[isKey]at h<;>simp[AV.refs]
theorem gg.ep{m:Nat}{G b:Gh}(h:G.ep m b): ∀ {es:List (AV×AV)} {ms:List MapEntry},gg G es ms->(∀p∈es,p.2.refs<=m)->gg b es ms
 | [],_,r,_=>by trivial
 | (k,v)::es,_,r,hm=>by
   obtain⟨e,q,he,a,f,d,c⟩:=r;exact⟨e,q,he,a,f.ep h _ _ (by simp[amE a]),d.ep h _ _ (hm (k,v) (by simp)),c.ep h λp g=>hm p (by grind)⟩
def an.aBL{G:Gh}{id off:Nat}(r:an G (.ptr id off) v):G.pz id=none:=by exact r.1.2
def an.aBM{G:Gh}{id off:Nat}(r:an G (.dw id aj i off) v):G.pz id=none:=by exact r.1.2
def an.MO{G:Gh}{id off len:Nat}{c:Bool}(r:an G (.ref id aj sz off len c) v):G.pz id=none:=by exact r.1.2
def an.amF{G:Gh}{id off len:Nat}(r:an G (.fH id sz off len) v):G.pz id=none:=by exact r.1.2
def an.GJ{G:Gh}{id:Nat}(r:an G (.mp id) v):G.pz id=none:=by exact r.1.2
variable(P:Program)
def iZ(G:Gh)(id:Nat)(w:World):ae->Prop
 |.box cs tg=>G.aj id=0/\ ∃ (c:Array Value) (ty:TypeId),w.heap[G.bb id]?=some (.cells c ty (0,0))/\aF G cs c.toList/\Leaves c.toList/\ ∀t,tg=some t->ty=t
 |.row aj sz ty af=>G.aj id=aj/\G.sz id=sz/\ (∀el∈af,el.length=sz)/\ ∃ (c:Array Value) (pre vs post:List Value),w.heap[G.bb id]?=some (.cells c ty (0,0))/\
   c.toList=pre++(vs++post)/\pre.length=G.base id/\c.size=G.base id+G.eC id/\br G af vs/\Leaves vs
 |.map es=>G.aj id=0/\ ∃ms clock,w.heap[G.bb id]?=some (.map ms clock)/\gg G es ms.toList
 |.loop st a fn env ps as bd=>G.aj id=0/\ ∃L:Loop,w.heap[G.bb id]?=some (.loop L)/\L.state=st/\yd a L.pending/\True/\cK G L.tmps.size env L.tmps/\L.params.toList=ps/\
   ps.all (· <L.tmps.size)=true/\ ∃rows,ft P rows L.tmps.size L.assign=some as/\ft P rows L.tmps.size L.body=some bd
 |.fI=>G.aj id=0/\w.heap[G.bb id]?=some (.deferred (some []))
 |.dead=>True
structure aZ(B:Nat)(aw:World)(G:Gh)(E:AS)(w:World):Prop where
 len:G.n=E.heap.length
 bw: ∀b o v,G.bw b o=some v->w.cell? ⟨b,o,none⟩=some v
 obj: ∀ (id:Nat) (o:ae),E.heap[id]?=some o->G.pz id=none->iZ P G id w o
 inj: ∀i j,G.on i->G.on j->G.bb i=G.bb j->i=j
 sep: ∀i,G.on i-> ∀o,G.bw (G.bb i) o=none
 low: ∀i,G.on i->B<=G.bb i/\G.bb i<w.heap.size
 lV:Below B aw w
 hB:B<=w.heap.size
 lW: ∀id o,id<G.n->G.pz id=some o->E.heap[id]?=some o/\ ∃z tg,o= .box z tg/\aL z=0
 dU: ∀b o v,b<B->aw.cell? ⟨b,o,none⟩=some v->G.bw b o=some v
def aZ.ye{B:Nat}{a:World}{G:Gh}{E:AS}(h:aZ P B a G E w){o:Nat}(e:G.bw b o=some v):b<w.heap.size:=by
 have:=h.bw b o v e;simp only[World.cell?]at this
 grind
variable{P}
theorem gg.refs{G:Gh}: ∀ {es:List (AV×AV)} {ms:List MapEntry},gg G es ms-> ∀p∈es,p.2.refs<=G.n
 | [],_,_,_,a=>by grind
 | (k,v)::es,_,r,p,a=>by
   obtain⟨m,q,_,_,_,c,b⟩:=r;rcases afJ.1 a with rfl|a
   ·exact an.refs _ _ c
   ·exact gg.refs b p a
theorem iZ.le{G:Gh}{id:Nat}{w:World}: ∀ {o:ae},iZ P G id w o->o.le G.n
 |.box _ _,r=>by obtain⟨_,c,ty,_,l,_⟩:=r;exact aF.refs _ _ l
 |.row _ _ _ _,r=>by obtain⟨_,_,_,c,pre,vs,post,_,_,_,_,l,_⟩:=r;exact br.refs _ _ l
 |.map es,r=>by obtain⟨_,ms,clock,_,l⟩:=r;exact l.refs
 |.loop _ _ _ _ _ _ _,r=>by obtain⟨_,L,_,_,_,_,he,_⟩:=r;exactλt=>he.refs t
 |.fI,_|.dead,_=>trivial
def aZ.amG{B:Nat}{a:World}{G:Gh}{E:AS}(h:aZ P B a G E w){id:Nat}{o:ae}(e:E.heap[id]?=some o):o.le G.n:=by
 cases c:G.pz id with
 |none=>exact(h.obj id o e c).le
 |some o'=>
  obtain⟨b,z,tg,rfl,d⟩:=h.lW id o' (by rw[h.len];grind) c;rw[e]at b;cases b;simp only[ae.le,d];omega
theorem iZ.dN{G d:Gh}(h:G.sub d){id:Nat}(j:G.on id)(g:d.aj id=G.aj id)(i:w'.heap[G.bb id]?=w.heap[G.bb id]?): ∀ {o:ae},iZ P G id w o->iZ P d id w' o:=by
 obtain⟨k,x,v,u⟩:=h.same id j g;intro o r;cases o with
 |box cs tg=>
  obtain⟨b,c,ty,e,l,a⟩:=r;exact⟨by omega,c,ty,by grind,l.dN h,a⟩
 |row aj sz ty af=>
  obtain⟨b,e1,hu,c,pre,vs,post,e,m,e3,y,l,a⟩:=r;exact⟨by omega,by omega,hu,c,pre,vs,post,by grind,m,by omega,by omega,l.dN h,a⟩
 |map es=>
  obtain⟨b,ms,clock,e,l⟩:=r;exact⟨by omega,ms,clock,by grind,l.dN h⟩
 |loop st f fn env ps as bd=>
  obtain⟨b,L,e,t,s,q,p,n⟩:=r;exact⟨by omega,L,by grind,t,s,q,p.dN h,n⟩
 |fI=>exact⟨by rw[g];exact r.1,by rw[k,i];exact r.2⟩
 |dead=>trivial
def iZ.mono{G a:Gh}(h:G.le a){id:Nat}(d:G.on id)(c:a.aj id=G.aj id)(b:w'.heap[G.bb id]?=w.heap[G.bb id]?){o:ae}(r:iZ P G id w o):iZ P a id w' o:=r.dN h.toSub d c b
theorem iZ.ep{G g:Gh}(h:G.ep m g){id:Nat}(a:id<m)(i:w'.heap[G.bb id]?=w.heap[G.bb id]?): ∀ {o:ae},iZ P G id w o->o.le m->iZ P g id w' o:=by
 have k:=h.bb id a;have y:=h.base id a;have x:=h.eC id a;have v:=h.sz id a;have j:=h.aj id a;intro o r hm;cases o with
 |box cs tg=>
  obtain⟨d,c,ty,e,l,b⟩:=r;exact⟨by omega,c,ty,by grind,aF.ep h _ _ l hm,b⟩
 |row aj sz ty af=>
  obtain⟨d,e1,hu,c,pre,vs,post,e,n,e3,z,l,b⟩:=r;exact⟨by omega,by omega,hu,c,pre,vs,post,by grind,n,by omega,by omega,br.ep h _ _ l hm,b⟩
 |map es=>
  obtain⟨d,ms,clock,e,l⟩:=r;exact⟨by omega,ms,clock,by grind,l.ep h hm⟩
 |loop st f fn env ps as bd=>
  obtain⟨d,L,e,u,t,s,q,p⟩:=r;exact⟨by omega,L,by grind,u,t,s,q.ep h hm,p⟩
 |fI=>exact⟨by rw[j];exact r.1,by rw[k,i];exact r.2⟩
 |dead=>trivial
section
def Aw(lo:oN)(j:Nat):Prop:= ∃l,lo=some l/\l<=j
structure AS.Ext(E E':AS):Prop where
 len:E.heap.length<=E'.heap.length
 lo: ∀j,Aw E.lo j->Aw E'.lo j
 obj: ∀ (j:Nat) (o:ae),E.heap[j]?=some o-> ∃o',E'.heap[j]?=some o'/\ ((∀n,o.le n->o'.le (max n (j+1)))\/Aw E'.lo j)
def AS.Ext.refl(E:AS):E.Ext E:=⟨aef _,λ_ h=>h,λ_ o h=>⟨o,h,.inl λ_ k=>k.mono (by omega)⟩⟩
def AS.Ext.trans{a b c:AS}(h:a.Ext b)(k:b.Ext c):a.Ext c where
 len:=ag2 h.len k.len
 lo j x:=k.lo j (h.lo j x)
 obj j o e:=by
  obtain⟨i,m,d⟩:=h.obj j o e;obtain⟨g,l,f⟩:=k.obj j i m;refine⟨g,l,?_⟩;rcases f with f|f
  ·rcases d with d|d
   ·grind
   ·exact .inr (k.lo j d)
  grind
theorem AS.Ext.push(E:AS)(o:ae):E.Ext (E.push o)where
 len:=by simp[AS.push]
 lo _ h:=h
 obj j x e:=⟨x,by
  have:j<E.heap.length:=(acW.1 e).1;simp[AS.push,acV this,e],.inl λ_ k=>k.mono (by omega)⟩
def Ax{lo:oN}{id:Nat}(h:Aw lo j\/id<=j):Aw (cJ lo id) j:=by
 cases lo with
 |none=>
  rcases h with⟨l,e,_⟩|h
  ·cases e
  ·exact⟨id,rfl,h⟩
 |some a=>
  refine⟨Nat.min a id,by simp[cJ,Nat.min_comm],?_⟩;rcases h with⟨l,e,b⟩|h
  ·grind
  grind
theorem AS.Ext.set{E:AS}{id:Nat}{o o':ae}{refs:Nat}(d:E.heap[id]?=some o)(h: ∀n,o.le n->refs<=n->o'.le n):E.Ext (E.set id o' refs)where
 len:=by simp[AS.set]
 lo j x:=by
  simp only[AS.set];split
  ·exact x
  ·exact Ax (.inl x)
 obj j x e:=by
  by_cases b:j=id
  ·subst b;obtain rfl:o=x:=by grind
   have a:j<E.heap.length:=(acW.1 e).1;refine⟨o',by simp[AS.set,a],?_⟩;simp only[AS.set];split
   ·exact .inl λn c=>h _ (c.mono (by omega)) (by omega)
   ·simp_all[Ax,aef]
  ·exact⟨x,by simp[AS.set,acT (λh=>b h.symm),e],.inl λ_ k=>k.mono (by omega)⟩
def Below.amH{B:Nat}{aw:World}(h:Below B aw w)(ho:w'.os=w.os)(b:w'.tape=w.tape)(a:w'.output=w.output)(c:w.heap.size<=w'.heap.size)
 (d: ∀k,k<B->w'.heap[k]?=w.heap[k]?):Below B aw w':=h.trans ⟨ho,b,a,c,d⟩
variable{P:Program}{B:Nat}{aw:World}
def Gh.push(G:Gh)(b:Nat)(eC sz:Nat):Gh:=
 {G with n:=G.n+1,bb:=λi=>if i=G.n then b else G.bb i,base:=λi=>if i=G.n then 0 else G.base i,
         aj:=λi=>if i=G.n then 0 else G.aj i,eC:=λi=>if i=G.n then eC else G.eC i,sz:=λi=>if i=G.n then sz else G.sz i,pz:=λi=>if i=G.n then none else G.pz i}
def Gh.Ay(G:Gh)(b eC sz:Nat):G.le (G.push b eC sz):=
 .mk' (λ_ _ _ h=>h) (by simp[Gh.push]) (λi a=>by simp[Gh.push,axz a]) (λi a=>by simp[Gh.push,axz a]) (λi a _=>by simp[Gh.push,axz a])
def Gh.GK{G:Gh}{eC:Nat}(h: (G.push b eC sz).on i):i=G.n\/ (i≠G.n/\G.on i):=by
 obtain⟨c,a⟩:=h;simp only[Gh.push]at c a;by_cases e:i=G.n
 ·omega
 ·rw[adE e]at a;exact .inr ⟨e,by omega,a⟩
def cell?_alloc_old{o:Obj}(h:b<w.heap.size): (w.alloc o).cell? ⟨b,k,none⟩=w.cell? ⟨b,k,none⟩:=World.cell?_alloc_lt w o ⟨b,k,none⟩ h
theorem aZ.push{G:Gh}{E:AS}(h:aZ P B aw G E w)(O:Obj)(o:ae)(eC sz:Nat)
  (ho:iZ P (G.push w.heap.size eC sz) G.n (w.alloc O) o):aZ P B aw (G.push w.heap.size eC sz) (E.push o) (w.alloc O)where
 len:=by simp[Gh.push,AS.push,h.len]
 bw b k v e:=by
  have q:G.bw b k=some v:=e;rw[cell?_alloc_old (h.ye P q)];exact h.bw b k v q
 obj id x e d:=by
  simp only[AS.push,List.getElem?_append]at e;split at e
  ·rename_i m;have c:id<G.n:=by rw[h.len];exact m
   simp only[Gh.push,adE (axz c)]at d;exact iZ.mono (G.Ay _ _ _) ⟨c,d⟩ (by simp[Gh.push,axz c]) (Below.heap_alloc _ _ _ (h.low id ⟨c,d⟩).2) (h.obj id x e d)
  ·rename_i u;have:id=E.heap.length:=by
    cases s:id-E.heap.length with
    |zero=>omega
    |succ k=>rw[s]at e;simp at e
   subst this;simp at e;subst e;rw[<-h.len];exact ho
 inj i j g t e:=by
  rcases Gh.GK g with a| ⟨f,a⟩<;>rcases Gh.GK t with l| ⟨p,l⟩
  ·rw[a,l]
  ·simp only[Gh.push,a,afK,adE p]at e;have:=(h.low j l).2;omega
  ·simp only[Gh.push,l,afK,adE f]at e;have:=(h.low i a).2;omega
  ·simp only[Gh.push,adE f,adE p]at e;exact h.inj i j a l e
 sep i g k:=by
  rcases Gh.GK g with a| ⟨f,a⟩
  ·simp only[Gh.push,a,afK];cases y:G.bw w.heap.size k with
   |none=>rfl
   |some v=>have:=h.ye P y;omega
  ·simp only[Gh.push,adE f];exact h.sep i a k
 low i g:=by
  rcases Gh.GK g with a| ⟨f,a⟩
  ·simp only[Gh.push,a,afK];exact⟨h.hB,by simp⟩
  ·simp only[Gh.push,adE f];have:=h.low i a;exact⟨this.1,by simp;omega⟩
 lW id x c d:=by
  simp only[Gh.push]at c d;by_cases a:id=G.n
  ·rw[adG a]at d;cases d
  ·rw[adE a]at d;obtain⟨n,r⟩:=h.lW id x (by omega) d;exact⟨by simp only[AS.push];rw[acV (acW.1 n).1];exact n,r⟩
 lV:=h.lV.alloc h.hB O
 hB:=by have:=h.hB;simp;omega
 dU:=h.dU
def Gh.CV{G:Gh}{E:AS}(h:aZ P B aw G E w){eC:Nat}: (G.push b eC sz).on E.heap.length:=⟨by simp[Gh.push,h.len],by simp[Gh.push,h.len]⟩
def Gh.freeze(G:Gh)(b:Nat)(vs:List Value):Gh:={G with bw:=λa o=>if a=b then vs[o]? else G.bw a o}
def aZ.Vs{G:Gh}{E:AS}(h:aZ P B aw G E w)(c:Array Value)(ty:TypeId)(g:Nat×Nat)(vs:List Value)(n: ∀ (j:Nat) (v:Value),vs[j]?=some v->c[j]?=some v):
  G.le (G.freeze w.heap.size vs)/\aZ P B aw (G.freeze w.heap.size vs) E (w.alloc (.cells c ty g)):=by
 have hle:G.le (G.freeze w.heap.size vs):=by
  refine .mk' (λb o v e=>?_) (aef _) (λ_ _=>rfl) (λ_ _=>aef _) (λ_ _ _=>⟨rfl,rfl,rfl,rfl⟩);have:=h.ye P e;simp only[Gh.freeze]
  grind
 refine⟨hle,h.len,λb o v e=>?_,λid x e f=>?_,h.inj,λi d k=>?_,λi d=>?_,h.lV.alloc h.hB _,?_,h.lW,λb o v l e=>hle.bw _ _ _ (h.dU b o v l e)⟩
 ·simp only[Gh.freeze]at e;split at e
  ·have p: (w.alloc (.cells c ty g)).heap[w.heap.size]?=some (.cells c ty g):=aoT w _;unfold World.cell?
   grind
  ·rw[cell?_alloc_old (h.ye P e)];exact h.bw b o v e
 ·have a:id<G.n:=by rw[h.len];exact(acW.1 e).1
  exact iZ.mono hle ⟨a,f⟩ rfl (Below.heap_alloc _ _ _ (h.low id ⟨a,f⟩).2) (h.obj id x e f)
 ·have:=(h.low i d).2;simp only[Gh.freeze];rw[adE (by omega)];exact h.sep i d k
 ·obtain⟨m,q⟩:=h.low i d
  exact⟨m,by have e: (G.freeze w.heap.size vs).bb i=G.bb i:=rfl
             rw[e];simp;omega⟩
 ·have:=h.hB;simp;omega
theorem aZ.set{G p:Gh}{E:AS}(h:aZ P B aw G E w){id:Nat}(d:G.on id)(o':ae)(refs:Nat)
  (c:G.le p) (q:p.n=G.n) (C:p.bw=G.bw)
  (l: ∀i,i<G.n->i≠id->p.aj i=G.aj i)
  (m:p.bb id=G.bb id\/w.heap.size<=p.bb id) (z:p.bb id<w'.heap.size)
  (D: ∀k,k≠G.bb id->k<w.heap.size->w'.heap[k]?=w.heap[k]?) (I:w.heap.size<=w'.heap.size)
  (n:w'.os=w.os) (y:w'.tape=w.tape) (J:w'.output=w.output)
  (ho:iZ P p id w' o'):aZ P B aw p (E.set id o' refs) w' where
 len:=by simp[AS.set,q,h.len]
 bw b k v e:=by
  rw[C]at e;have g:b≠G.bb id:=λg=>by rw[g,h.sep id d k]at e;cases e
  have:=h.bw b k v e;simp only[World.cell?]at*
  grind
 obj j x e r:=by
  by_cases f:j=id
  ·subst f;have:E.heap.length=G.n:=h.len.symm;simp[AS.set,this,d.1]at e;subst e;exact ho
  ·simp only[AS.set,acT (λh=>f h.symm)]at e;have t:j<G.n:=by rw[h.len];exact(acW.1 e).1
   rw[c.pz j t]at r;have u:G.on j:=⟨t,r⟩;refine iZ.mono c u (l j t f) (D _ (λhe=>f (h.inj j id u d he)) (h.low j u).2) (h.obj j x e r)
 inj i j a f e:=by
  have a:G.on i:=⟨by rw[<-q];exact a.1,by rw[<-c.pz i (by rw[<-q];exact a.1)];exact a.2⟩;have f:G.on j:=⟨by rw[<-q];exact f.1,by rw[<-c.pz j (by rw[<-q];exact f.1)];exact f.2⟩;have key: ∀i,G.on i->i≠id->p.bb i=G.bb i:=λi a s=>(c.same i a (l i a.1 s)).1
  by_cases n:i=id<;>by_cases y:j=id
  ·omega
  ·rw[n,key j f y]at e;rcases m with g|g
   ·rw[g]at e;rw[n];exact h.inj id j d f e
   ·have:=(h.low j f).2;omega
  ·rw[y,key i a n]at e;rcases m with g|g
   ·rw[g]at e;rw[y];exact h.inj i id a d e
   ·have:=(h.low i a).2;omega
  ·rw[key i a n,key j f y]at e;exact h.inj i j a f e
 sep i a k:=by
  have a:G.on i:=⟨by rw[<-q];exact a.1,by rw[<-c.pz i (by rw[<-q];exact a.1)];exact a.2⟩;rw[C];by_cases n:i=id
  ·subst n;rcases m with g|g
   ·rw[g];exact h.sep i d k
   ·cases A:G.bw (p.bb i) k with
    |none=>rfl
    |some v=>have:=h.ye P A;omega
  ·rw[(c.same i a (l i a.1 n)).1];exact h.sep i a k
 low i a:=by
  have a:G.on i:=⟨by rw[<-q];exact a.1,by rw[<-c.pz i (by rw[<-q];exact a.1)];exact a.2⟩;by_cases n:i=id
  ·subst n;rcases m with g|g
   ·exact⟨by rw[g];exact(h.low i d).1,z⟩
   ·have:=h.hB;exact⟨by omega,z⟩
  ·rw[(c.same i a (l i a.1 n)).1];have:=h.low i a;exact⟨this.1,by omega⟩
 lV:=Below.amH h.lV n y J I λk K=>D k (by have:=(h.low id d).1;omega) (by have:=h.hB;omega)
 hB:=by have:=h.hB;omega
 lW j x f r:=by
  rw[q]at f;rw[c.pz j f]at r;obtain⟨H,F⟩:=h.lW j x f r;have s:id≠j:=λe=>by rw[<-e,d.2]at r;cases r
  exact⟨by simp only[AS.set];rw[acT s];exact H,F⟩
 dU b o v g e:=by rw[C];exact h.dU b o v g e
def aZ.drew{G:Gh}{E:AS}(h:aZ P B aw G E w):aZ P B aw G E w.drew:=
 ⟨h.len,h.bw,λid x e a=>iZ.mono G.le_refl ⟨by rw[h.len];grind,a⟩ rfl rfl (h.obj id x e a),h.inj,h.sep,h.low,h.lV.drew,h.hB,h.lW,h.dU⟩
def aZ.lo{G:Gh}{E:AS}(h:aZ P B aw G E w)(lo:oN):aZ P B aw G {E with lo:=lo} w:=
 ⟨h.len,h.bw,h.obj,h.inj,h.sep,h.low,h.lV,h.hB,h.lW,h.dU⟩
end
section
variable{P:Program}
def fa(w:World)(b:Nat)(O:Obj):World:={w with heap:=w.heap.setIfInBounds b O}
def amI(w:World)(b:Nat)(O a:Obj):fa (fa w b O) b a=fa w b a:=by simp[fa]
def uH(h:b<w.heap.size): (fa w b O).heap[b]?=some O:=by simp[fa,h]
def Vt(h:k≠b): (fa w b O).heap[k]?=w.heap[k]?:=by
 simp only[fa]
 grind
def amJ(h:w.heap[b]?=some O):fa w b O=w:=by
 have:w.heap.setIfInBounds b O=w.heap:=by grind
 unfold fa;rw[this]
@[simp]theorem amK (w:World) (b:Nat) (O:Obj): (fa w b O).heap.size=w.heap.size:=by simp[fa]
def amL{o:Nat}{ty:TypeId}{a:Nat×Nat}(h:w.heap[b]?=some (.cells c ty a))(v:Value):
  w.setCell ⟨b,o,none⟩ v=fa w b (.cells (c.setIfInBounds o v) ty a):=by
 simp only[World.setCell,fa]
 congr 1
 grind
def k6(c:Array Value)(o:Nat):List Value->Array Value
 | []=>c
 |v::vs=>k6 (c.setIfInBounds o v) (o+1) vs
@[simp]theorem aBN (c:Array Value) (o:Nat) (vs:List Value): (k6 c o vs).size=c.size:=by
  induction vs generalizing c o with
  |nil=>rfl
  |cons v vs ih=>simp[k6,ih]
def GL(c:Array Value)(o:Nat)(vs:List Value)(h:o+vs.length<=c.size):
  (k6 c o vs).toList=c.toList.take o++(vs++c.toList.drop (o+vs.length)):=by
 induction vs generalizing c o with
 |nil=>simp[k6]
 |cons v vs a=>
  rw[k6,a _ _ (by grind)];have ho:o<c.toList.length:=by grind
  simp only[Array.toList_setIfInBounds,afx];rw[List.take_set,List.drop_set];simp only[show(o<o+1+vs.length) by omega,afK,agR,adM ho];have hm:min o c.size=o:=apW (by omega);simp[show o+1+vs.length=o+(vs.length+1) by omega,hm]
theorem jL(b o i:Nat): (⟨b,o,none⟩:Addr).add i=⟨b,o+i,none⟩:=by
 unfold Addr.add
 grind
def amM(h:leaf v=true):v.oneCell'=true:=by trivial
def MQ{ty:TypeId}(vs:List Value): ∀ (c:Array Value) (w:World) (o i:Nat),w.heap[b]?=some (.cells c ty (0,0))->o+i+vs.length<=c.size->Leaves vs->
  (storeCells ⟨b,o,none⟩ vs i).run P w= .ok () (fa w b (.cells (k6 c (o+i) vs) ty (0,0))):=by
 induction vs with
 |nil=>intro c w o i h _ _;simp[storeCells,k6,amJ h]
 |cons v vs e=>
  intro c w o i h g d;simp only[afx]at g;have j:w.cell? (Addr.add ⟨b,o,none⟩ i)=some (c[o+i]'(by omega)):=by
   rw[jL,cell_of_row w b (o+i) c ty (0,0) h];grind
  have f:w.frozen? (Addr.add ⟨b,o,none⟩ i)=false:=by grind [jL,frozen_of_row]
  simp only[storeCells,Sem.run_bind];rw[run_store P w _ v .plain (amM (d v (by simp)))];simp only[j,f];rw[jL,amL h];have a:b<w.heap.size:=(alY.1 h).1;simp only[afp,aha,Result.andThen_ok];rw[e (c.setIfInBounds (o+i) v) _ o (i+1) (uH a) (by grind) (λu hu=>d u (by grind)),amI];rfl
def run_loadCellsFrom{o:Nat}(n:Nat): ∀ (i:Nat) (acc:Array Value) (vs:List Value),vs.length=n->(∀j v,vs[j]?=some v->w.cell? ⟨b,o+i+j,none⟩=some v)->
  (loadCellsFrom ⟨b,o,none⟩ i n acc).run P w= .ok (acc++vs.toArray) w:=by
 induction n with
 |zero=>intro i acc vs c _;have:vs=[]:=aiR.1 c;subst this;simp[loadCellsFrom]
 |succ n e=>
  intro i acc vs c a;cases vs with
  |nil=>grind
  |cons v vs=>
   have d:=a 0 v (by simp);simp only[loadCellsFrom,Sem.run_bind];rw[jL,run_load];simp only[afs]at d;simp only[d];simp only[Result.andThen_ok];rw[e (i+1) (acc.push v) vs (by grind) (λj u f=>by
    have:=a (j+1) u (by grind)
    grind)]
   simp_all
def run_loadCells{o:Nat}(vs:List Value)(a:vs.length=n)(c: ∀j v,vs[j]?=some v->w.cell? ⟨b,o+j,none⟩=some v):
  (loadCells ⟨b,o,none⟩ n).run P w= .ok vs.toArray w:=by
 unfold loadCells;rw[run_loadCellsFrom n 0 #[] vs a (by omega)];simp
end
section
section
variable{P:Program}
def nR(h:cx P t=some n)(w:World): (sizeOf t).run P w= .ok n w:=by
 unfold cx at h;cases b:P.info? t with
 |none=>grind
 |some i=>
  simp[b]at h;simp only[sizeOf,Sem.run_bind,run_typeInfo _ b,Result.andThen_ok,Sem.run_pure];rw[h]
def sb{b:Bool}(h:mW P t=some b)(w:World): (isAgg t).run P w= .ok b w:=by
 unfold mW at h;cases hu:P.underlying t with
 |none=>grind
 |some d=>
  simp only[hu,afo,adF]at h;subst h;simp only[isAgg,Sem.run_bind,adL hu,Result.andThen_ok];cases d<;>simp[Sem.run_pure]
end
def G0(B:Nat)(aw:World):Gh:={bw:=λb o=>if b<B then aw.cell? ⟨b,o,none⟩else none,n:=0,bb:=id,base:=id,aj:=id,eC:=id,sz:=id}
def fQ(X:Ctx)(B:Nat)(aw:World):Prop:=
 (∀g cs,X.dR g=some cs->g<B/\ ∃vs,(∀ (j:Nat) v,vs[j]?=some v->aw.cell? ⟨g,j,none⟩=some v)/\Leaves vs/\
   aF (G0 B aw) cs vs)/\
 (∀g es,X.gl g=some es->g<B/\ ∃b r ms clock,r<B/\aw.cell? ⟨g,0,none⟩=some (.map (some r))/\aw.heap[r]?=some (.map ms clock)/\gg (G0 B aw) b ms.toList/\ ∀k v,eB k es=some v->eB k b=some v)
variable{P:Program}{X:Ctx}{B:Nat}{aw:World}
def Vu{G:Gh}{E:AS}(h:aZ P B aw G E w): (G0 B aw).ep 0 G:=by
 refine⟨λb o v c=>?_,aee _,?_,?_,?_,?_,?_,?_⟩
 ·simp only[G0]at c;split at c
  ·exact h.dU b o v ‹_› c
  grind
 all_goals simp
def fQ.rel(d:fQ X B aw){G:Gh}{E:AS}(h:aZ P B aw G E w){g:Nat}{cs:List AV}(e:X.dR g=some cs):
  ∃vs,qF G g 0 vs/\Leaves vs/\aF G cs vs:=by
 obtain⟨f,vs,k,i,b⟩:=d.1 g cs e;refine⟨vs,λj v c=>?_,i,aF.ep (Vu h) _ _ b (by have:=aF.refs _ _ b;simpa[G0]using this)⟩;rw[akO];exact h.dU g j v f (k j v c)
def fQ.amN(i:fQ X B aw){G:Gh}{E:AS}(h:aZ P B aw G E w){g:Nat}{es:List (AV×AV)}(e:X.gl g=some es)(d:an G (.lP g) v):
  ∃b r ms clock,v= .map (some r)/\w.heap[r]?=some (.map ms clock)/\gg G b ms.toList/\ ∀k v,eB k es=some v->eB k b=some v:=by
 obtain⟨j,b,r,ms,clock,o,n,m,c,l⟩:=i.2 g es e;have:=h.dU g 0 _ j n;rw[d.2]at this;cases this;exact⟨b,r,ms,clock,rfl,by rw[h.lV.block r o];exact m,gg.ep (Vu h) c (λp f=>by have:=gg.refs c p f;simpa[G0]using this),l⟩
def Good(P:Program)(B:Nat)(aw:World)(G:Gh)(E:AS)(v:AV)(c:AS)(r:Result Next):Prop:=
 ∃b w' v',(r= .ok (.value v') w'\/ (r= .ok .skip w'/\v'=undef))/\G.le b/\aZ P B aw b c w'/\an b v v'/\E.Ext c
def Good.same{G:Gh}{E:AS}(h:aZ P B aw G E w){v:AV}(b:an G v v'):Good P B aw G E v E (.ok (.value v') w):=
 ⟨G,w,v',.inl rfl,G.le_refl,h,b,.refl E⟩
def MR{G:Gh}: ∀ (v:Value),(AV.kp v).plain=true->an G (AV.kp v) v:=by
 intro v h;cases v with
 |pointer a=>cases a<;>simp_all[AV.kp,an,AV.plain]
 |slice a n c=>
  cases a with
  |none=>
   simp only[AV.kp]at*;split at h
   ·rename_i e;simp[e,an]
   ·trivial
  |some a=>trivial
 |map r=>cases r<;>simp_all[AV.kp,an,AV.plain]
 |tuple vs=>
  simp only[AV.kp]at*;split at h
  ·rename_i e;have:vs= #[]:=Array.eq_empty_of_size_eq_zero e;subst this;simp[an,aF]
  ·trivial
 |_=>trivial
theorem Vv{G:Gh}: ∀ (vs:List Value),(∀v∈vs,(AV.kp v).plain=true)->aF G (vs.map AV.kp) vs
 | [],_=>by rfl
 |v::vs,h=>⟨v,vs.map id,by simp,MR v (h v (by simp)),by simpa using Vv vs λu hu=>h u (by grind)⟩
def amO(h: (AV.kp v).plain=true)(k: (AV.kp v).cp=false):leaf v=true:=by
 cases v with
 |agg cs=>trivial
 |tuple vs=>simp only[AV.kp]at k;split at k<;>simp[AV.cp]at k
 |_=>rfl
def Vw{G:Gh}(v:Value)(h:GG v=true):an G (AV.ofValue v) v:=by
 cases v with
 |agg cs=>
  simp only[GG,afy,afz,axm]at h;exact⟨cs,rfl,Vv _ λv b=>(h v b).1,λv b=>amO (h v b).1 (h v b).2⟩
 |iface t v=>exact⟨v,rfl,MR v h⟩
 |_=>simp only[AV.ofValue];apply MR;exact h
def MS{G:Gh}{e:Env}{b:Array Value}(h:cK G nt e b)(t:Nat):an G (e t) (b.getD t undef):=by
 by_cases c:t<b.size
 ·have:=h.get t b[t] (by simp);simp_all
 ·rw[h.out t (by have:=h.size;omega)];simp[Array.getD,c,an,aF,undef]
def cA{G:Gh}{e:Env}(h:cK G nt e a.tmps){x:Operand}{y:aq}(b:bJ x=some y):an G (y.get e) (a.eval x):=by
 cases x with
 |tmp t=>simp only[bJ,adF]at b;subst b;exact MS h t
 |const v=>
  simp only[bJ]at b;split at b
  ·rename_i c;cases b;exact Vw v c
  grind
 |global g=>simp only[bJ,adF]at b;subst b;simp[aq.get,an,Act.eval]
 |func f=>simp only[bJ,adF]at b;subst b;exact⟨.func f,#[],#[],rfl,rfl,by rfl,by rfl⟩
theorem yf{G:Gh}{nt:Nat}{e:Env}{a:Act}(h:cK G nt e a.tmps): ∀ {xs:List Operand} {ys:List aq},nP xs=some ys->aF G (ys.map (·.get e)) (xs.map a.eval)
 | [],_,b=>by simp only[nP,adF]at b;subst b;simp[aF]
 |x::xs,ys,b=>by
  simp only[nP]at b;split at b
  ·rename_i y c f d;cases b;exact⟨_,_,rfl,cA h f,yf h d⟩
  grind
section ops
variable{G:Gh}{E:AS}{w:World}(hw:aZ P B aw G E w){nt:Nat}{e:Env}{a:Act}(he:cK G nt e a.tmps)
include hw
omit hw in
theorem Vx{b:Bool}{off:Nat}{cs:List AV}{v:AV}(c:aF G cs vs)(d:Leaves vs)(h:part b n cs off=some v):
  (b=true/\off+n<=vs.length/\an G v (.agg ((vs.drop off).take n).toArray))\/ (b=false/\ ∃u,vs[off]?=some u/\an G v u):=by
 unfold part at h;cases b with
 |true=>
  simp only[afK]at h;split at h
  ·rename_i hle;cases h;refine .inl ⟨rfl,by rw[c.length];exact hle,⟨_,rfl,by simpa using(c.drop off).take n,by simpa using(d.drop off).take n⟩⟩
  ·cases h
 |false=>
  simp only[afp,aha]at h;obtain⟨u,hu,f⟩:=c.get off v h;exact .inr ⟨rfl,u,hu,f⟩
omit hw in
theorem GM{h:Bool}{o:Nat}{v:AV}{cs:List AV}{off:Nat}(g:mW P t=some h)(m:cx P t=some n)
  (l:aF G cs vs) (i:Leaves vs) (k:part h n cs off=some v) (f: ∀j u,vs[j]?=some u->w.cell? ⟨b,o+j,none⟩=some u):
  ∃v',(loadVar t ⟨b,o+off,none⟩).run P w= .ok v' w/\an G v v':=by
 rcases Vx l i k with⟨rfl,hle,d⟩| ⟨rfl,u,hu,d⟩
 ·refine⟨_,?_,d⟩;simp only[loadVar,Sem.run_bind,sb g,Result.andThen_ok,afK,nR m];rw[run_loadCells ((vs.drop off).take n) (by simp;omega) (λj u c=>by
   rw[anB]at c;split at c
   ·rw[akX]at c;rw[aiO];exact f _ _ c
   ·cases c)]
  simp
 ·refine⟨u,?_,d⟩;simp only[loadVar,Sem.run_bind,sb g,Result.andThen_ok,afp,aha,run_load];rw[f off u hu]
theorem Az{id:Nat}{cs:List AV}{tg:Option TypeId}(h:E.heap[id]?=some (.box cs tg))(b:G.pz id=none):G.aj id=0/\G.on id/\ ∃c ty,w.heap[G.bb id]?=some (.cells c ty (0,0))/\aF G cs c.toList/\Leaves c.toList/\ ∀t,tg=some t->ty=t:=by
 obtain⟨i,c,ty,g,f,d⟩:=hw.obj id _ h b;exact⟨i,⟨by rw[hw.len];grind,b⟩,c,ty,g,f,d⟩
omit hw in
theorem CW{ty:TypeId}(h:w.heap[b]?=some (.cells c ty (0,0)))(j:Nat)(u:Value)(d:c.toList[j]?=some u):w.cell? ⟨b,j,none⟩=some u:=by
 rw[cell_of_row w b j c ty (0,0) h];simpa using d
theorem Vy(hg:fQ X B aw){W:Bool}(H:mW P t=some W)(F:cx P t=some n){x v:AV}{C:Value}(d:an G x C)(h:cq X E W n x=some v):
  ∃v',(Instr.loadAt t C).run P w= .ok v' w/\an G v v':=by
 have key: ∀ (A:Addr),C= .pointer (some A)->(∃v',(loadVar t A).run P w= .ok v' w/\an G v v')-> ∃v',(Instr.loadAt t C).run P w= .ok v' w/\an G v v':=by
  rintro A rfl ⟨v',K,hr⟩;refine⟨v',?_,hr⟩;exact K
 unfold cq at h;split at h
 ·rename_i id off;simp only[an]at d;obtain⟨r,A,rfl,z⟩:=d;split at h
  ·rename_i cs N;obtain⟨S,_,c,ty,R,f,m,_⟩:=Az hw N r.2;refine key A rfl ?_;rw[z S];have:=GM (b:=G.bb id) (o:=0) H F f m h (λj u hu=>by rw[akO];exact CW R j u hu);rwa[akO]at this
  ·cases h
 ·rename_i id aj i off;simp only[an]at d;obtain⟨r,_,A,rfl,z⟩:=d;split at h
  ·rename_i T sz ty af N;split at h
   ·rename_i K;obtain⟨S,q,hu,c,pre,vs,post,R,hc,hp,hs,f,m⟩:=hw.obj id _ N r.2;subst K;cases k:af[i]? with
    |none=>simp[k]at h
    |some el=>
     simp only[k,aom]at h;split at h
     ·rename_i D;refine key A rfl ?_;rw[z S];have M:i<af.length:=(acW.1 k).1;have O:af.flatten=(af.take i).flatten++(el++(af.drop (i+1)).flatten):=by
       conv=>lhs;rw[<-akP i af]
       rw[anE,amw M];have:af[i]=el:=by simpa[adM M]using k
       simp[this]
      have L: (af.take i).flatten.length=i*sz:=by
       have: ∀ (l:List (List AV)),(∀x∈l,x.length=sz)->l.flatten.length=l.length*sz:=by
        intro l f
        induction l with
        |nil=>simp
        |cons x xs ih=>simp[ih λy J=>f y (by simp[J]),f x (by simp)];rw[apM];omega
       rw[this _ λx d=>hu x (ag9 d),afC,apW (Nat.le_of_lt M)]
      have V:=br.iff.1 f;rw[O]at V;obtain⟨v1,v2,rfl,k1,Z⟩:=V.split;obtain⟨U,v4,rfl,Y,k4⟩:=Z.split;have p:v1.length=i*sz:=by rw[k1.length,L]
      have I:Leaves U:=λy J=>m y (by simp[J])
      have:=GM (b:=G.bb id) (o:=G.base id+i*G.sz id) H F Y I h (λj u hu=>by
       refine CW R _ u ?_;rw[hc];have hj:j<U.length:=(acW.1 hu).1;rw[afu (by omega),adK,afu (by rw[p,q];omega),adK,acV (by rw[p,q];omega)];rw[<-hu];congr 1;rw[p,q];omega)
      exact this
     ·cases h
   ·cases h
  ·cases h
 ·rename_i cs off;simp only[an]at d;obtain⟨b,o,vs,rfl,Q,m,f⟩:=d;exact key _ rfl (GM H F f m h λj u hu=>hw.bw _ _ _ (Q j u hu))
 ·rename_i g;simp only[an]at d;subst d;cases s:X.dR g with
  |none=>simp[s]at h
  |some cs=>
   simp only[s,aom]at h;obtain⟨vs,Q,m,f⟩:=hg.rel hw s;have:=GM (b:=g) (o:=0) H F f m h λj u hu=>hw.bw _ _ _ (Q j u hu)
   exact key _ rfl (by simpa using this)
 grind
end ops
end
section
variable{P:Program}{X:Ctx}{B:Nat}{aw:World}
variable{G:Gh}{E:AS}{w:World}
def amP(t:aZ P B aw G E w)(y:fQ X B aw){s:TypeId}{a:Array Field}{f:Nat}{g:Field}(D:P.underlying s=some (.struct a))(C:a[f]?=some g)
  (A:cx P g.type=some n) (F:0<n) {x v:AV} {j:Value} (i:an G x j) (h:wg X g.offset x=some v):
  ∃v',(Instr.fieldAt s j f).run P w= .ok v' w/\an G v v':=by
 have key: ∀d,j= .pointer (some d)->(Instr.fieldAt s j f).run P w= .ok (.pointer (some (d.add g.offset))) w:=by
  rintro d rfl;simp only[Instr.fieldAt,Sem.run_bind,adL D,Result.andThen_ok,C,Instr.sureAddr,Sem.run_pure,fieldPlace,nR A,Sem.run_ite];rw[adE (by omega)];simp
 unfold wg at h;split at h
 ·obtain⟨p,d,e,c⟩:=i;cases h;refine⟨_,key d e,p,_,rfl,λk=>?_⟩;rw[c k,jL]
 ·obtain⟨p,m,d,e,c⟩:=i;cases h;refine⟨_,key d e,p,m,_,rfl,λk=>?_⟩;rw[c k,jL];grind
 ·obtain⟨b,o,vs,e,r⟩:=i;cases h;refine⟨_,key _ e,b,o,vs,?_,r⟩;rw[jL,aiO]
 ·simp only[an]at i;split at h
  ·rename_i cs l;cases h;obtain⟨vs,z,q,u⟩:=y.rel t l;refine⟨_,key _ i,_,0,vs,?_,z,q,u⟩;rw[jL]
  ·cases h
 grind
def GN{x:AV}{a:Value}{i:Int}(b:an G x a)(h:rY x=some i): ∃k,x= .int k i/\a= .int k i:=by
 cases x<;>simp[rY]at h;simp only[an]at b
 grind
def amQ(y:aZ P B aw G E w)(C:fQ X B aw){a:TypeId}(I:P.underlying t=some (.array n a))(H:cx P a=some sz)
  {x s v:AV} {j g:Value} (d:an G x j) (A:an G s g) (h:uD X n sz x s=some v):
  ∃v',(Instr.indexAt t j g).run P w= .ok v' w/\an G v v':=by
 unfold uD at h;split at h
 ·rename_i i hint;obtain⟨k,_,rfl⟩:=GN A hint;split at h
  ·rename_i F;have key: ∀f,j= .pointer (some f)->(Instr.indexAt t j (.int k i)).run P w= .ok (.pointer (some (f.add (i.toNat*sz)))) w:=by
    rintro f rfl;simp only[Instr.indexAt,Sem.run_bind,asIntOf,Sem.run_pure,Result.andThen_ok,adL I,Instr.sureAddr];by_cases J:n<=1<;>simp[F,nR H]
   split at h
   ·obtain⟨q,f,e,c⟩:=d;cases h;refine⟨_,key f e,q,_,rfl,λl=>?_⟩;rw[c l,jL]
   ·simp only[an]at d;obtain⟨q,p,f,e,c⟩:=d;cases h;refine⟨_,key f e,q,p,_,rfl,λl=>?_⟩;rw[c l,jL];congr 1;omega
   ·simp only[an]at d;obtain⟨b,o,vs,e,r⟩:=d;cases h;refine⟨_,key _ e,b,o,vs,?_,r⟩;rw[jL,aiO]
   ·simp only[an]at d;split at h
    ·rename_i cs m;cases h;obtain⟨vs,D,u,z⟩:=C.rel y m;refine⟨_,key _ d,_,0,vs,?_,D,u,z⟩;rw[jL]
    ·cases h
   grind
  grind
 grind
theorem amR{af:List (List AV)}(h: ∀el∈af,el.length=sz):af.flatten.length=af.length*sz:=by
 induction af with
 |nil=>simp
 |cons x xs a=>grind
def br.at{af:List (List AV)}{el:List AV}(k:br G af vs)(n: ∀x∈af,x.length=sz)(l:af[i]?=some el):
  aF G el ((vs.drop (i*sz)).take sz):=by
 have b:af.flatten=(af.take i).flatten++(el++(af.drop (i+1)).flatten):=by grind [List.take_append_drop,List.flatten_append,List.drop_eq_getElem_cons]
 have a: (af.take i).flatten.length=i*sz:=by grind [amR,List.mem_of_mem_take,List.length_take,Nat.min_eq_left,Nat.le_of_lt]
 have c:=br.iff.1 k;rw[b]at c;obtain⟨v1,v2,rfl,g,f⟩:=c.split;obtain⟨d,v4,rfl,e,m⟩:=f.split;have j:v1.length=i*sz:=by rw[g.length,a]
 have h:d.length=sz:=by rw[e.length];grind
 grind
def amS{d:TypeId}(O:P.underlying t=some (.slice d))(N:cx P d=some sz)
  {x H v:AV} {s m:Value} (g:an G x s) (I:an G H m) (h:kr sz x H=some v):
  ∃v',(Instr.indexAt t s m).run P w= .ok v' w/\an G v v':=by
 unfold kr at h;split at h
 ·rename_i i hint;obtain⟨k,_,rfl⟩:=GN I hint;have key: ∀ (r:Addr) (len cap:Nat),s= .slice (some r) len cap->0<=i/\i<len->(Instr.indexAt t s (.int k i)).run P w= .ok (.pointer (some (r.add (i.toNat*sz)))) w:=by
   rintro r len cap rfl l;simp only[Instr.indexAt,Sem.run_bind,asIntOf,Sem.run_pure,Result.andThen_ok,adL O];by_cases Q:len<=1<;>simp[l,nR N]
  split at h
  ·rename_i af cF;split at h
   ·rename_i p;split at h
    ·rename_i el f;split at h
     ·rename_i c;cases h;simp only[an]at g;obtain⟨b,o,cap,a,vs,e,J,F,q,M,K,L⟩:=g;have I:i.toNat<af.length:=(acW.1 f).1;have z:a=sz:=by rw[<-c];exact(q el (alp f)).symm
      subst z;refine⟨_,key _ _ _ e ⟨p,by omega⟩,b,o+i.toNat*a,(vs.drop (i.toNat*a)).take a,?_,?_,(K.drop _).take _,L.at q f⟩
      ·rw[jL];rfl
      ·intro j u n;rw[anB]at n;split at n
       ·rw[akX]at n;rw[aiO];exact M _ _ n
       ·cases n
     ·cases h
    ·cases h
   grind
  ·rename_i id aj a off len cF;split at h
   ·rename_i l;obtain⟨C,A,rfl⟩:=l;cases h;simp only[an]at g;obtain⟨p,D,r,cap,e,J,F,q⟩:=g;refine⟨_,key _ _ _ e ⟨C,A⟩,p,D,_,rfl,λy=>?_⟩;rw[(q y).2.1 (by omega),jL,(q y).1,aon];congr 1;omega
   ·cases h
  ·rename_i id a off len;split at h
   ·rename_i l;cases h;simp only[an]at g;obtain⟨p,r,cap,e,J,F⟩:=g;refine⟨_,key _ _ _ e ⟨l.1,l.2.1⟩,p,_,rfl,λy=>?_⟩;rw[F y (by omega),jL]
   ·cases h
  grind
 grind
end
section
variable{P:Program}{X:Ctx}{B:Nat}{aw:World}
variable{G:Gh}{E:AS}{w:World}
def Vz{e:Bool}{off:Nat}{cs:List AV}{v:AV}(d:mW P t=some e)(i:cx P t=some n)
  (h:aF G cs c.toList) (f:Leaves c.toList) (g:Den.part e n cs off=some v) (w:World): ∃v',(Go.part t c off).run P w= .ok v' w/\an G v v':=by
 rcases Vx h f g with⟨rfl,hle,b⟩| ⟨rfl,u,hu,b⟩
 ·refine⟨_,?_,b⟩;simp only[Go.part,Sem.run_bind,sb d,Result.andThen_ok,afK,nR i,Sem.run_pure]
  congr 2
  grind
 ·refine⟨u,?_,b⟩;have a:c[off]?=some u:=by grind
  simp only[Go.part,Sem.run_bind,sb d,Result.andThen_ok,afp,aha,a,Sem.run_pure]
def amT{s:TypeId}{a:Array Field}{f:Nat}{g:Field}{d:Bool}(q:P.underlying s=some (.struct a))(p:a[f]?=some g)
  (o:mW P g.type=some d) (m:cx P g.type=some n) {cs:List AV} {v:AV} {b:Value} (i:an G (.agg cs) b) (h:Den.part d n cs g.offset=some v) (w:World):
  ∃v',(Instr.field s b f).run P w= .ok v' w/\an G v v':=by
 obtain⟨c,rfl,l,e⟩:=i;obtain⟨v',j,k⟩:=Vz o m l e h w;refine⟨v',?_,k⟩;simp only[Instr.field,Sem.run_bind,adL q,Result.andThen_ok,p,asAgg,Sem.run_pure];exact j
def amU{a:TypeId}{g:Bool}(u:P.underlying t=some (.array n a))(s:mW P a=some g)(f:cx P a=some sz)
  {x e v:AV} {d b:Value} (l:an G x d) (q:an G e b) (h:qB g n sz x e=some v) (w:World):
  ∃v',(Instr.index t d b).run P w= .ok v' w/\an G v v':=by
 unfold qB at h;split at h
 ·rename_i i cs hint;obtain⟨k,_,rfl⟩:=GN q hint;split at h
  ·rename_i r;obtain⟨c,rfl,p,j⟩:=l;obtain⟨v',m,o⟩:=Vz s f p j h w;refine⟨v',?_,o⟩;simp only[Instr.index,Sem.run_bind,asIntOf,Sem.run_pure,Result.andThen_ok,adL u];rw[adG r];simp only[Sem.run_bind,nR f,Result.andThen_ok];exact m
  grind
 grind
def amV(n:P.underlying t=some .string){x j v:AV}{g a:Value}(l:an G x g)(m:an G j a)(h:x7 x j=some v)(w:World):
  ∃v',(Instr.index t g a).run P w= .ok v' w/\an G v v':=by
 unfold x7 at h;split at h
 ·rename_i i s hint;obtain⟨k,_,rfl⟩:=GN m hint;subst l;split at h
  ·rename_i o;split at h
   ·rename_i b p;cases h;refine⟨.int .u8 b.toNat,?_,by rfl⟩;have f:s[i.toNat]?=some b:=by
     have:s.data[i.toNat]?=some b:=by grind
     obtain⟨d,e⟩:=alY.1 this;have c:i.toNat<s.size:=d;rw[getElem?_pos s i.toNat c];exact ag3 some e
    simp only[Instr.index,Sem.run_bind,asIntOf,Sem.run_pure,Result.andThen_ok,adL n,adG o,f]
   grind
  grind
 grind
def amW{x:AV}{a:Value}{vs:List AV}{v:AV}(b:an G (.az vs) a)(h:vs[i]?=some v)(w:World):
  ∃v',(Instr.extract a i).run P w= .ok v' w/\an G v v':=by
 obtain⟨c,rfl,e⟩:=b;obtain⟨v',f,d⟩:=e.get i v h;refine⟨v',?_,d⟩;have:c[i]?=some v':=by grind
 simp[Instr.extract,this]
def AA{r:Nat}{o:Option AV}(h:lQ n o d=some r):
  (o=none/\r=d)\/ ∃k i,o=some (.int k i)/\0<=i/\i<=n/\r=i.toNat:=by
 unfold lQ at h
 grind
def uI{k:IntKind}{i:Int}{y:Nat}(h:0<=i/\i<=y)(a:BoundsCode)(w:World): (Instr.sliceBound (.int k i) y a).run P w= .ok i.toNat w:=by
 simp[Instr.sliceBound,asIntOf,h]
def lY(G:Gh):Option AV->Option Value->Prop
 |none,o=>o=none
 |some x,o=> ∃v,o=some v/\an G x v
def GO{CX:Bool}{len cap:Nat}(t:len<=cap){lo n:Option AV}{d:Option Value}(a:lY G lo ak)(e:lY G n d){h:Nat}(f:gI len lo n=some (l,h))(w:World):
  (Instr.sliceBounds CX len cap ak d none).run P w= .ok (l,h,cap) w/\l<=h/\h<=len:=by
 unfold gI at f;split at f
 ·rename_i u p;split at f
  ·rename_i s m;cases f;rcases AA p with⟨rfl,rfl⟩| ⟨k,i,rfl,g,o,rfl⟩
   ·subst e;rcases AA m with⟨rfl,rfl⟩| ⟨k,i,rfl,g,o,rfl⟩
    ·subst a;exact⟨by rfl,by omega,by omega⟩
    ·obtain⟨v,rfl,c⟩:=a;subst c;exact⟨by simp[Instr.sliceBounds,uI ⟨g,o⟩],by omega,by omega⟩
   ·obtain⟨v,rfl,c⟩:=e;simp only[an]at c;subst c;have b: (0:Int)<=i/\i<=cap:=⟨g,by omega⟩;rcases AA m with⟨rfl,rfl⟩| ⟨k,j,rfl,r,q,rfl⟩
    ·simp only[lY]at a;subst a;exact⟨by simp[Instr.sliceBounds,uI b],by omega,by omega⟩
    ·obtain⟨v,rfl,c⟩:=a;simp only[an]at c;subst c;exact⟨by simp[Instr.sliceBounds,uI b,uI ⟨r,q⟩],by omega,by omega⟩
  grind
 grind
def amX(j:P.underlying t=some .string){x v:AV}{d:Value}{lo e:Option AV}{a:Option Value}(f:an G x d)(b:lY G lo ak)(c:lY G e a)
  (h:uB x lo e=some v) (w:World): ∃v',(Instr.sliceAt t d ak a none).run P w= .ok v' w/\an G v v':=by
 unfold uB at h;split at h
 ·rename_i s;split at h
  ·rename_i l k i;cases h;subst f;obtain⟨g,_,_⟩:=GO (P:=P) (CX:=false) (aef _) b c i w;refine⟨.string (s.extract l k),?_,by rfl⟩;simp[Instr.sliceAt,Instr.slice,adL j,g]
  grind
 grind
def amY{len h:Nat}{cF c:Bool}{a:Option AV}(b:lR len h cF a=some c):
  (a=none/\c=(cF&&h==len))\/ ∃k i,a=some (.int k i)/\ (h:Int)<=i/\i<=len/\c=(i==h):=by
 unfold lR at b
 grind
def amZ{len cap:Nat}{cF:Bool}(r:len<=cap)(p:cF=true->cap=len){lo t u:Option AV}{n f:Option Value}(a:lY G lo ak)(o:lY G t n)(g:lY G u f)
  (d:u=none\/t≠none) {h:Nat} {c:Bool} (s:gI len lo t=some (l,h)) (D:lR len h cF u=some c) (w:World):
  ∃m,(Instr.sliceBounds true len cap ak n f).run P w= .ok (l,h,m) w/\l<=h/\h<=len/\h<=m/\m<=cap/\ (c=true->m=h):=by
 rcases amY D with⟨rfl,rfl⟩| ⟨k,i,rfl,K,J,rfl⟩
 ·subst g;obtain⟨I,N,M⟩:=GO (P:=P) (CX:=true) r a o s w
  grind
 ·obtain⟨v,rfl,b⟩:=g;simp only[an]at b;subst b;have d:t≠none:=d.resolve_left (by simp);have hm: (0:Int)<=i/\i<=cap:=⟨by omega,by omega⟩;unfold gI at s;split at s
  ·rename_i L C;split at s
   ·rename_i H z;cases s;rcases AA C with⟨rfl,rfl⟩| ⟨k',j,rfl,F,g1,rfl⟩
    ·grind
    ·obtain⟨v,rfl,b⟩:=o;simp only[an]at b;subst b;have A: (0:Int)<=j/\j<=i.toNat:=⟨F,by omega⟩;refine⟨i.toNat,?_,?_,by omega,by omega,by omega,λe=>by simp only[asw]at e;omega⟩
     ·rcases AA z with⟨rfl,rfl⟩| ⟨k',q,rfl,y,x,rfl⟩
      ·simp only[lY]at a;subst a;simp[Instr.sliceBounds,uI hm,uI A]
      ·obtain⟨v,rfl,b⟩:=a;simp only[an]at b;subst b;simp[Instr.sliceBounds,uI hm,uI A,uI ⟨y,x⟩]
     ·rcases AA z with⟨rfl,rfl⟩| ⟨k',q,rfl,y,x,rfl⟩<;>omega
   grind
  grind
theorem MT{sz:Nat}: ∀ {l:Nat} {af:List (List AV)},(∀el∈af,el.length=sz)->(af.drop l).flatten=af.flatten.drop (l*sz)
 |0,_,_=>by simp
 |l+1,[],_=>by simp
 |l+1,x::xs,hu=>by
  have a:=MT (l:=l) (af:=xs) λel h=>hu el (by grind)
  simp only[apJ,an8,a];have e: (l+1)*sz=x.length+l*sz:=by grind
  rw[e,auL];simp_all
theorem GP{sz:Nat}: ∀ {n:Nat} {af:List (List AV)},(∀el∈af,el.length=sz)->(af.take n).flatten=af.flatten.take (n*sz)
 |0,_,_=>by simp
 |n+1,[],_=>by simp
 |n+1,x::xs,hu=>by
  have a:=GP (n:=n) (af:=xs) λel h=>hu el (by grind)
  have e: (n+1)*sz=x.length+n*sz:=by grind
  grind
def VA{af:List (List AV)}(a: ∀el∈af,el.length=sz): ((af.drop l).take n).flatten=(af.flatten.drop (l*sz)).take (n*sz):=by grind [GP,List.mem_of_mem_drop,MT]
def br.slice{af:List (List AV)}(b:br G af vs)(a: ∀x∈af,x.length=sz):br G ((af.drop l).take n) ((vs.drop (l*sz)).take (n*sz)):=by
 rw[br.iff,VA a];exact((br.iff.1 b).drop _).take _
def qF.slice{o:Nat}(c:qF G b o vs)(l n:Nat):qF G b (o+l) ((vs.drop l).take n):=by
 intro j u a;rw[anB]at a;split at a
 ·rw[akX]at a;rw[aiO];exact c _ _ a
 grind
def am0{a:Addr}(h:a.spot=none)(k:Nat): (a.add k).spot=none:=by
 unfold Addr.add
 grind
def MU(a:Addr)(b o k:Nat)(h:a=⟨b,o,none⟩):a.add k=⟨b,o+k,none⟩:=by rw[h,jL]
def am1{z:TypeId}(h1:P.underlying t=some (.slice z))(h2:cx P z=some n){x v:AV}{O:Value}{lo R Q:Option AV}{D A:Option Value}
  (y:an G x O) (J:lY G lo ak) (L:lY G R D) (T:lY G Q A) (K:Q=none\/R≠none)
  (h:gJ n x lo R Q=some v) (w:World): ∃v',(Instr.sliceAt t O ak D A).run P w= .ok v' w/\an G v v':=by
 have key: ∀ {a:Option Addr} {len cap:Nat} {cF:Bool} {l h:Nat} {c:Bool},O= .slice a len cap->len<=cap->(cF=true->cap=len)->gI len lo R=some (l,h)->lR len h cF Q=some c->
   ∃m,(Instr.sliceAt t O ak D A).run P w= .ok (.slice (if m=l then a else a.map (·.add (l*n))) (h-l) (m-l)) w/\l<=h/\h<=len/\h<=m/\m<=cap/\ (c=true->m=h):=by
  intro a len cap cF l h c e hle f g H;obtain⟨m,i,r⟩:=amZ (P:=P) hle f J L T K g H w;refine⟨m,?_,r⟩;subst e;simp[Instr.sliceAt,Instr.slice,adL h1,i,nR h2]
 unfold gJ at h;split at h
 ·simp only[an]at y;split at h
  ·rename_i p q g H;cases h;obtain⟨l,s⟩:=p;obtain⟨-,k1,k2⟩:=GO (P:=P) (CX:=false) (aef 0) J L g w;have U:s=0:=by omega
   subst U;obtain⟨m,i,c1,Z,Y,W,M⟩:=key (cF:=true) y (aef _) (λ_=>rfl) g H;refine⟨_,i,?_⟩;have e1:l=0:=by omega
   have e3:m=0:=by omega
   subst e1 e3;simp[an]
  ·cases h
 ·rename_i af cF;split at h
  ·rename_i l s g;split at h
   ·rename_i c H;split at h
    ·rename_i hu;cases h;have hu: ∀el∈af,el.length=n:=λel F=>by simpa using afy.1 hu el F
     simp only[an]at y;obtain⟨b,o,cap,sz,vs,e,d1,d2,d3,hf,lf,hl⟩:=y;obtain⟨m,i,c1,Z,Y,W,M⟩:=key e d1 d2 g H;refine⟨_,i,?_⟩;have d: ((af.drop l).take (s-l)).length=s-l:=by simp;omega
     by_cases hm:m=l
     ·have:s=l:=by omega
      subst this;rw[adG hm];refine⟨b,o,m-s,n,[],by simp,by simp,λk=>by simp;omega,by simp,λj u hj=>by simp at hj,λu hu=>by simp at hu,by simp[br]⟩
     ·rw[adE hm];refine⟨b,o+l*n,m-l,n,(vs.drop (l*n)).take ((s-l)*n),?_,?_,λk=>?_,λel F=>hu el (an4 (ag9 F)),hf.slice _ _,(lf.drop _).take _,hl.slice hu⟩
      ·simp[d,jL]
      ·rw[d];omega
      ·rw[d];have:=M k;omega
    ·cases h
   ·cases h
  ·cases h
 ·rename_i id aj sz off len cF;split at h
  ·rename_i l s g;split at h
   ·rename_i c H;split at h
    ·rename_i C;subst C;cases h;simp only[an]at y;obtain⟨V,e1,N,cap,e,d1,d2,d3⟩:=y;obtain⟨m,i,c1,Z,Y,W,M⟩:=key e d1.1 d2 g H;refine⟨_,i,V,e1,if m=l then N else N.add (l*sz),m-l,by split<;>simp_all,⟨by omega,by split<;>first|exact d1.2|exact am0 d1.2 _⟩,λk=>by have:=M k;omega,λS=>?_⟩;obtain⟨f1,f2,f3⟩:=d3 S;refine⟨f1,λI=>?_,?_⟩
     ·rw[adE (by omega),MU _ _ _ _ (f2 (by omega)),aon,aiO]
     ·have: (off+l)*sz+(m-l)*sz<=off*sz+cap*sz:=by
        rw[<-aon,<-aon];exact alo _ (by omega)
      omega
    ·cases h
   ·cases h
  ·cases h
 ·rename_i id sz off len;split at h
  ·rename_i l s g;split at h
   ·rename_i C;subst C;cases h;simp only[an]at y;obtain⟨V,N,cap,e,d1,d2⟩:=y;obtain⟨m,i,c1,Z,Y,W,M⟩:=key (cF:=false) (c:=false) e d1 (λhh=>by cases hh) g (by simp[lR]);refine⟨_,i,V,if m=l then N else N.add (l*sz),m-l,by split<;>simp_all,by omega,λS I=>?_⟩;rw[adE (by omega),MU _ _ _ _ (d2 S (by omega))]
   ·cases h
  ·cases h
 ·cases h
theorem chunks_flatten{sz:Nat}: ∀ {k:Nat} {cs:List AV},k*sz<=cs.length->(chunks sz k cs).flatten=cs.take (k*sz)
 |0,_,_=>by simp[chunks]
 |k+1,cs,h=>by
  have e: (k+1)*sz=sz+k*sz:=by grind
  simp only[chunks,an8];rw[chunks_flatten (k:=k) (cs:=cs.drop sz) (by grind),e,List.take_add]
theorem CY{sz:Nat}: ∀ {k:Nat} {cs:List AV},k*sz<=cs.length-> ∀el∈chunks sz k cs,el.length=sz
 |0,_,_=>by simp[chunks]
 |k+1,cs,h=>by
  intro el a;simp only[chunks,afJ]at a;rcases a with rfl|a
  ·grind
  ·exact CY (k:=k) (cs:=cs.drop sz) (by grind) el a
@[simp]theorem MV {sz:Nat}: ∀ {k:Nat} {cs:List AV},(chunks sz k cs).length=k
  |0,_=>rfl
  |k+1,_=>by simp[chunks,MV]
def am2(I:aZ P B aw G E w)(N:fQ X B aw){f:TypeId}(R:P.underlying t=some (.array n f))(Q:cx P f=some sz){x v:AV}{k:Value}{lo H:Option AV}{a:Option Value}
  (m:an G x k) (y:lY G lo ak) (z:lY G H a) (h:qz X n sz x lo H=some v): ∃v',(Instr.sliceAt t k ak a none).run P w= .ok v' w/\an G v v':=by
 unfold qz at h;split at h
 ·rename_i l i O;obtain⟨K,U,T⟩:=GO (P:=P) (CX:=false) (aef n) y z O w;have key: ∀p,k= .pointer (some p)->(Instr.sliceAt t k ak a none).run P w= .ok (.slice (some (if n=l then p else p.add (l*sz))) (i-l) (n-l)) w:=by
   rintro p rfl;simp[Instr.sliceAt,adL R,Instr.sureAddr,K,nR Q]
  have frozen: ∀ (b o:Nat) (cs:List AV) (vs:List Value) (off:Nat),k= .pointer (some ⟨b,o+off,none⟩)->qF G b o vs->Leaves vs->aF G cs vs->off+n*sz<=cs.length->
    ∃v',(Instr.sliceAt t k ak a none).run P w= .ok v' w/\an G (.sl (chunks sz (i-l) (cs.drop (off+l*sz))) false) v':=by
   intro b o cs vs off e s q r hle;refine⟨_,key _ e,?_⟩;have L:l*sz+(i-l)*sz<=n*sz:=by rw[<-aon];exact alo _ (by omega)
   have d: (i-l)*sz<=(cs.drop (off+l*sz)).length:=by simp;omega
   by_cases F:n=l
   ·rw[adG F];have:i=l:=by omega
    subst this;refine⟨b,o+off,n-i,sz,[],by simp,by simp,(λC=>by cases C),by simp[chunks],(λj u M=>by simp at M),(λu hu=>by simp at hu),by simp[chunks,br]⟩
   ·rw[adE F];refine⟨b,o+(off+l*sz),n-l,sz,(vs.drop (off+l*sz)).take ((i-l)*sz),?_,(by rw[MV];omega),(λC=>by cases C),CY d,s.slice _ _,(q.drop _).take _,?_⟩
    ·simp[jL,aiO]
    ·rw[br.iff,chunks_flatten d];exact(r.drop _).take _
  split at h
  ·rename_i id off;cases h;simp only[an]at m;obtain⟨S,p,e,c⟩:=m;refine⟨_,key p e,S,_,n-l,rfl,by omega,λJ D=>?_⟩;rw[adE (by omega),MU _ _ _ _ (c J)]
  ·rename_i cs off;split at h
   ·rename_i hle;cases h;simp only[an]at m;obtain⟨b,o,vs,e,s,q,r⟩:=m;exact frozen b o cs vs off e s q r hle
   ·cases h
  ·rename_i g;split at h
   ·rename_i cs A;split at h
    ·rename_i hle;cases h;simp only[an]at m;obtain⟨vs,s,q,r⟩:=N.rel I A;have:=frozen g 0 cs vs 0 (by simpa using m) s q r (by omega);simpa using this
    ·cases h
   ·cases h
  grind
 grind
end
section
variable{P:Program}{X:Ctx}{B:Nat}{aw:World}
variable{G:Gh}{E:AS}{w:World}
def MW{z:AV}(h:ya P t=some z)(G:Gh)(w:World): ∃b,(zeroValue t).run P w= .ok b w/\zeroV P t=some b/\an G z b:=by
 unfold ya at h;split at h
 ·rename_i v a;split at h
  ·rename_i d;cases h;refine⟨v,?_,a,Vw v d⟩;unfold zeroV at a;cases c:P.info? t with
   |none=>grind
   |some i=>
    simp only[c,aom]at a;simp only[zeroValue,Sem.run_bind,run_typeInfo _ c,Result.andThen_ok,a,Sem.run_pure]
  grind
 grind
def sc{z:List AV}(h:iq P t=some z)(G:Gh)(w:World):
  ∃a,(zeroValue t).run P w= .ok a w/\zeroV P t=some a/\aF G z a.cells.toList/\Leaves a.cells.toList/\cx P t=some z.length:=by
 unfold iq at h;split at h
 ·rename_i y n c f;split at h
  ·rename_i b;obtain⟨a,e,g,r⟩:=MW c G w;obtain⟨l,d⟩:=r.cells b.1
   grind
  grind
 grind
theorem am3:IntKind.i64.max=9223372036854775807:=by rfl
theorem k7{s:Sem Value}{k:IntKind}{n:Int}{w:World}(h:s.run P w= .ok (.int k n) w): ∃v',s.run P w= .ok v' w/\an G (.int k n) v':=⟨_,h,by rfl⟩
theorem CZ{s:Sem Value}{b:Bool}{w:World}(h:s.run P w= .ok (.bool b) w): ∃v',s.run P w= .ok v' w/\an G (.bool b) v':=⟨_,h,by rfl⟩
theorem aBO{s:Sem Value}{b:ByteArray}{w:World}(h:s.run P w= .ok (.string b) w): ∃v',s.run P w= .ok v' w/\an G (.str b) v':=⟨_,h,by rfl⟩
def VB{c:BinOp}{x y v:AV}{j i:Value}(e:an G x j)(d:an G y i)(h:dB c x y=some v)(ho:c≠ .eql)(f:c≠ .neq)(w:World):
  ∃v',(binOp c t j i).run P w= .ok v' w/\an G v v':=by
 unfold dB at h;split at h
 ·rename_i k a k' b;split at h
  ·rename_i l;subst l;simp only[an]at e d;subst e d;cases c<;>simp[mj,v9]at h<;>(simp_all)<;>(try rfl)
   all_goals
    first
     | (subst h;exact k7 (by simp[binOp,Op.intArith,Op.intBits]))
     | (subst h;exact CZ (by simp[binOp,Op.intCmp]))
     | (obtain⟨g,rfl⟩:=h;exact k7 (by simp[binOp,Op.intDiv,g]))
  grind
 ·rename_i a b;simp only[an]at e d;subst e d;cases c<;>simp[Vo]at h<;>(try exact absurd rfl ho)<;>(try exact absurd rfl f)
  all_goals
   first
    | (subst h;exact CZ (by simp[binOp,Op.stringOp]))
    | (obtain⟨g,rfl⟩:=h
       refine⟨.string (a++b),?_,by simp[an]⟩;simp only[binOp,Op.stringOp,Sem.run_ite];rw[adE (by rw[am3];simp only[Vn]at g;omega)];simp)
 grind
def am4{c:BinOp}{k k':IntKind}{a b:Int}{v:AV}(h:wa c k a b=some v)(w:World):
  ∃v',(binOp c t (.int k a) (.int k' b)).run P w= .ok v' w/\an G v v':=by
 unfold wa at h;split at h
 ·cases h
 ·rename_i d;split at h
  ·cases h;exact k7 (by simp[binOp,Op.shift,d])
  ·cases h;exact k7 (by simp[binOp,Op.shift,d])
  grind
def am5{c:UnOp}{x v:AV}{b:Value}(a:an G x b)(h:x6 c x=some v)(w:World): ∃v',(Op.unary c b).run P w= .ok v' w/\an G v v':=by
 unfold x6 at h;split at h
 ·cases h;subst a;exact k7 (by rfl)
 ·simp only[v9,adF]at h;subst h;subst a;exact k7 (by rfl)
 ·cases h;subst a;exact CZ (by rfl)
 grind
def am6{s d:TypeId}{k q:IntKind}{n:Int}(b: (P.underlying s).isSome=true)(a:P.underlying d=some (.int k))(w:World):
  (convert s d (.int q n)).run P w= .ok (.int k (k.wrap n)) w:=by
 cases hu:P.underlying s with
 |none=>grind
 |some u=>simp[convert,adL hu,adL a,Conv.intToInt]
def VC{b:AV}{c:Value}(h:b.Ap=true)(r:an G b c): ∃a,c= .pointer (some a):=by
 cases b<;>simp[AV.Ap]at h<;>simp only[an]at r
 ·grind
 ·grind
 ·grind
 grind
def VD{b:AV}{d:Value}(h:b.Aq=true)(r:an G b d): ∃a n c,d= .slice (some a) n c:=by
 cases b<;>simp[AV.Aq]at h<;>simp only[an]at r
 ·grind
 ·grind
 grind
def kindOk:EK->TypeDesc->Prop
 |.bool,d=>d= .bool
 |.int,d=> ∃k,d= .int k
 |.str,d=>d= .string
 |.ptr,d=> ∃e,d= .pointer e
 |.sl,d=> ∃e,d= .slice e
 |.map,d=> ∃k e,d= .map k e
 |.cap,_=>False
 |.fn,d=> ∃a b c,d= .func a b c
 |.dq,d=> ∃ms,d= .interface ms
 |.Ao _,d=> ∃ms,d= .interface ms
 |.agg _,_=>False
def VE(P:Program)(t:TypeId):Prop:= ∃i q,P.info? t=some i/\i.comparable=true/\P.underlying t=some (.int q)
def VF{a ty:TypeId}{e:Array (String×TypeId)}(f:P.underlying t=some (.interface e))(d:Nat)(c b:Value)(w:World)
  (h:a≠ty->r=false) (m:a=ty-> ∃i,P.info? a=some i/\i.comparable=true/\ (Op.equalIn d a c b).run P w= .ok r w): (Op.equalIn (d+1) t (.iface a c) (.iface ty b)).run P w= .ok r w:=by
 rw[Op.equalIn];simp only[Sem.run_bind,adL f,Result.andThen_ok];by_cases g:a=ty
 ·subst g;obtain⟨i,l,k,j⟩:=m rfl;simp[typeInfo,l,k,j]
 simp_all
def VG{k:EK}{u:TypeDesc}{x y:AV}{F D:Value}(l:P.underlying t=some u)(j:kindOk k u)(g:an G x F)(f:an G y D)(h:qy k x y=some r)(d:Nat)(w:World)(I: ∀ts,k= .Ao ts->1<=d/\ ∀t∈ts,VE P t):
  (Op.equalIn (d+1) t F D).run P w= .ok r w:=by
 unfold qy at h;split at h
 case h_1=>
  cases h;simp only[an]at g f;subst g f;simp only[kindOk]at j;subst j;exact run_equalIn_bool w d t _ _ l
 case h_2=>
  split at h
  ·rename_i e;subst e;cases h;simp only[an]at g f;subst g f;obtain⟨k',rfl⟩:=j;exact run_equalIn_int w d t _ _ _ _ l
  ·cases h
 case h_3=>
  cases h;simp only[an]at g f;subst g f;simp only[kindOk]at j;subst j;exact run_equalIn_string w d t _ _ l
 case h_4=>
  cases h;simp only[an]at g f;subst g f;obtain⟨e,rfl⟩:=j;simp[Op.equalIn,adL l]
 case h_5=>
  split at h
  ·rename_i m;cases h;simp only[an]at g;subst g;obtain⟨e,rfl⟩:=j;obtain⟨a,rfl⟩:=VC m f;simp[Op.equalIn,adL l]
  ·cases h
 case h_6=>
  split at h
  ·rename_i m;cases h;simp only[an]at f;subst f;obtain⟨e,rfl⟩:=j;obtain⟨a,rfl⟩:=VC m g;simp[Op.equalIn,adL l]
  ·cases h
 case h_7=>
  cases h;simp only[an]at g f;subst g f;obtain⟨e,rfl⟩:=j;simp[Op.equalIn,adL l]
 case h_8=>
  split at h
  ·rename_i m;cases h;simp only[an]at g;subst g;obtain⟨e,rfl⟩:=j;obtain⟨a,n,c,rfl⟩:=VD m f;simp[Op.equalIn,adL l]
  ·cases h
 case h_9=>
  split at h
  ·rename_i m;cases h;simp only[an]at f;subst f;obtain⟨e,rfl⟩:=j;obtain⟨a,n,c,rfl⟩:=VD m g;simp[Op.equalIn,adL l]
  ·cases h
 case h_10=>
  cases h;simp only[an]at g f;subst g f;obtain⟨_,_,rfl⟩:=j;simp[Op.equalIn,adL l]
 case h_11=>
  cases h;simp only[an]at g f;subst g;obtain⟨_,_,rfl,_⟩:=f;obtain⟨_,_,rfl⟩:=j;simp[Op.equalIn,adL l]
 case h_12=>
  cases h;simp only[an]at g f;subst f;obtain⟨_,_,rfl,_⟩:=g;obtain⟨_,_,rfl⟩:=j;simp[Op.equalIn,adL l]
 case h_13=>
  cases h;simp only[an]at g f;subst g f;obtain⟨_,_,_,rfl⟩:=j;simp[Op.equalIn,adL l]
 case h_14=>
  cases h;simp only[an]at g f;subst g;obtain⟨_,_,_,rfl,_⟩:=f;obtain⟨_,_,_,rfl⟩:=j;simp[Op.equalIn,adL l]
 case h_15=>
  cases h;simp only[an]at g f;subst f;obtain⟨_,_,_,rfl,_⟩:=g;obtain⟨_,_,_,rfl⟩:=j;simp[Op.equalIn,adL l]
 case h_16=>
  cases h;simp only[an]at g f;subst g f;obtain⟨_,rfl⟩:=j;simp[Op.equalIn,adL l]
 case h_17=>
  cases h;simp only[an]at g f;subst g;obtain⟨_,rfl,_⟩:=f;obtain⟨_,rfl⟩:=j;simp[Op.equalIn,adL l]
 case h_18=>
  cases h;simp only[an]at g f;subst f;obtain⟨_,rfl,_⟩:=g;obtain⟨_,rfl⟩:=j;simp[Op.equalIn,adL l]
 case h_19=>
  rename_i ts tx q a ty H b;simp only[an]at g f;obtain⟨_,rfl,rfl⟩:=g;obtain⟨_,rfl,rfl⟩:=f;obtain⟨ms,rfl⟩:=j;obtain⟨J,o⟩:=I ts rfl;split at h
  ·rename_i p;subst p;split at h
   ·rename_i A;obtain⟨A,rfl⟩:=A;cases h;obtain⟨i,H,z,v,s⟩:=o tx (by simpa using A);obtain⟨C,rfl⟩: ∃C,d=C+1:=⟨d-1,by omega⟩;exact VF l _ _ _ w (λe=>absurd rfl e) λ_=>⟨i,z,v,run_equalIn_int w C tx q H a b s⟩
   ·cases h
  ·rename_i p;cases h;exact VF l _ _ _ w (λ_=>rfl) λe=>absurd e p
 case h_20=>cases h
def VH{c d:List EK}{a b:List AV}(j:a.length=(c++d).length)(i:b.length=(c++d).length)(h:jI (c++d) a b=some r):
  ∃e,jI c (a.take c.length) (b.take c.length)=some e/\ (e=false->r=false)/\ (e=true->jI d (a.drop c.length) (b.drop c.length)=some r):=by
 induction c generalizing a b with
 |nil=>exact⟨true,by rfl,by simp,λ_=>by grind⟩
 |cons k f g=>
  cases a with
  |nil=>grind
  |cons x xs=>
   cases b with
   |nil=>grind
   |cons y ys=>
    simp only[aii,jI]at h;simp only[afx,apY,apJ,jI]
    grind
def yg:TypeDesc->Bool
 |.struct _|.array _ _=>true
 |_=>false
def yh{u:TypeDesc}(h:P.underlying t=some u):mW P t=some (yg u):=by
 unfold mW;rw[h];cases u<;>rfl
def GQ(P:Program)(d:Nat)(t:TypeId)(a:List EK):Prop:=
 ∀ (D:Nat),d<=D-> ∀ (G:Gh) (w:World) (xs ys:Array Value) (as bs:List AV) (off:Nat) (r:Bool),cx P t=some a.length->aF G as xs.toList->aF G bs ys.toList->Leaves xs.toList->Leaves ys.toList->
   off+a.length<=as.length->off+a.length<=bs.length->jI a ((as.drop off).take a.length) ((bs.drop off).take a.length)=some r->
   ∃x y,(Go.part t xs off).run P w= .ok x w/\ (Go.part t ys off).run P w= .ok y w/\ (Op.equalIn D t x y).run P w= .ok r w
def VI(F: ∀t a,nQ P d t=some a->GQ P d t a): ∀ (fs:List Field) (off:Nat) (a:List EK),As P (nQ P d) fs off=some a->
  ∀ (D:Nat),d<=D-> ∀ (G:Gh) (w:World) (xs ys:Array Value) (as bs:List AV) (r:Bool),aF G as xs.toList->aF G bs ys.toList->Leaves xs.toList->Leaves ys.toList->
  off+a.length<=as.length->off+a.length<=bs.length->jI a ((as.drop off).take a.length) ((bs.drop off).take a.length)=some r->
  (Op.eqFields D xs ys fs).run P w= .ok r w:=by
 intro fs
 induction fs with
 |nil=>
  intro off a h D g G w xs ys as bs r _ _ _ _ _ _ he;simp only[As,adF]at h;subst h;simp[jI]at he;subst he;simp[Op.eqFields]
 |cons f fs q=>
  intro off a h D g G w xs ys as bs r k j f1 f2 A z he;simp only[As]at h;split at h
  ·rename_i c e;split at h
   ·rename_i v;obtain⟨u,ho,s⟩:=v;cases b:As P (nQ P d) fs (off+c.length)with
    |none=>simp[b]at h
    |some p=>
     simp only[b,afo,adF]at h;subst h;simp only[aeb]at A z;obtain⟨i,e1,C,e3⟩:=VH (by simp;omega) (by simp;omega) he;rw[ap9,ap9,aeb,apW (Nat.le_add_right _ _)]at e1;obtain⟨x,y,o,n,m⟩:=F f.type c e D g G w xs ys as bs off i s k j f1 f2 (by omega) (by omega) e1;simp only[Op.eqFields,ho];rw[adG u];simp only[Sem.run_bind,o,n,m,Result.andThen_ok];cases i with
     |false=>simp[C rfl]
     |true=>
      simp only[avY,afp,aha];have l:=e3 rfl;rw[axf,axf,aor,aor,aeb,ag6]at l;exact q (off+c.length) p b D g G w xs ys as bs r k j f1 f2 (by omega) (by omega) l
   grind
  grind
def MX{u:TypeDesc}{k:EK}(o:P.underlying t=some u)(q:kindOk k u)(g:mW P t=some false)(p: ∀ts,k≠ .Ao ts):GQ P (d+1) t [k]:=by
 intro D H G w xs ys as bs off r F l j f1 f2 v s he;simp only[aqs]at v s he;have C:as[off]?=some (as[off]'(by omega)):=adM _;have A:bs[off]?=some (bs[off]'(by omega)):=adM _;obtain⟨x,n,rx⟩:=l.get off _ C;obtain⟨y,m,i⟩:=j.get off _ A;have e1: (as.drop off).take 1=[as[off]'(by omega)]:=by rw[amw (by omega)];rfl
 have z: (bs.drop off).take 1=[bs[off]'(by omega)]:=by rw[amw (by omega)];rfl
 rw[e1,z]at he;have c:qy k as[off] bs[off]=some r:=by
  simp only[jI]at he;split at he
  ·rename_i h;rw[h];exact he
  ·rename_i h;rw[h];exact he
  ·cases he
 have b:xs[off]?=some x:=by simpa using n
 have a:ys[off]?=some y:=by simpa using m
 refine⟨x,y,by simp[Go.part,sb g,b],by simp[Go.part,sb g,a],?_⟩;obtain⟨f,rfl⟩: ∃f,D=f+1:=⟨D-1,by omega⟩;exact VG o q rx i c f w (λts e=>absurd e (p ts))
theorem MY{D:Nat}{e:TypeId}{a:List EK}(l:GQ P D e a)(g:cx P e=some a.length){G:Gh}{w:World}{xs ys:Array Value}{as bs:List AV}(f:aF G as xs.toList)(d:aF G bs ys.toList)(i:Leaves xs.toList)(h:Leaves ys.toList):
  ∀ (m j:Nat) (r:Bool),(j+m)*a.length<=as.length->(j+m)*a.length<=bs.length->jI (List.replicate m a).flatten ((as.drop (j*a.length)).take (m*a.length)) ((bs.drop (j*a.length)).take (m*a.length))=some r->
  (Op.eqItems D e a.length xs ys (List.range' j m)).run P w= .ok r w
 |0,j,r,_,_,he=>by
  simp[jI]at he;subst he;simp[Op.eqItems]
 |m+1,j,r,t,s,he=>by
  have hm: (m+1)*a.length=a.length+m*a.length:=by rw[apM];omega
  have q: (j+(m+1))*a.length=j*a.length+(a.length+m*a.length):=by rw[aon,hm]
  rw[q]at t s;rw[aqA,an8,hm]at he;obtain⟨c,e1,u,e3⟩:=VH (by simp;omega) (by simp;omega) he;rw[ap9,ap9,apW (Nat.le_add_right _ _)]at e1;obtain⟨x,y,p,o,n⟩:=l D (aef _) G w xs ys as bs (j*a.length) c g f d i h (by omega) (by omega) e1;rw[List.range'_succ];simp only[Op.eqItems,Sem.run_bind,p,o,n,Result.andThen_ok];cases c with
  |false=>simp[u rfl]
  |true=>
   simp only[avY,afp,aha];have k:=e3 rfl;rw[axf,axf,aor,aor,ag6]at k;have b: (j+1)*a.length=j*a.length+a.length:=apM _ _;refine MY l g f d i h m (j+1) r ?_ ?_ ?_
   ·have: (j+1+m)*a.length=j*a.length+(a.length+m*a.length):=by rw[aon,b];omega
    omega
   ·have: (j+1+m)*a.length=j*a.length+(a.length+m*a.length):=by rw[aon,b];omega
    omega
   ·rw[b];exact k
theorem GR: ∀ (d:Nat) (t:TypeId) (b:List EK),nQ P d t=some b->GQ P d t b
 |0,_,_,h=>by trivial
 |d+1,t,b,h=>by
  simp only[nQ]at h;split at h
  ·rename_i hu;cases h;exact MX (k:=.bool) hu rfl (yh hu) (by simp)
  ·rename_i hu;cases h;exact MX (k:=.int) hu ⟨_,rfl⟩ (yh hu) (by simp)
  ·rename_i hu;cases h;exact MX (k:=.str) hu rfl (yh hu) (by simp)
  ·rename_i fields hu;split at h
   ·rename_i F;intro D K G w xs ys as bs off r j p o f1 f2 A z he;have s: (Go.part t xs off).run P w= .ok (.agg (xs.extract off (off+b.length))) w:=by simp[Go.part,sb (yh hu),nR j,yg]
    have q: (Go.part t ys off).run P w= .ok (.agg (ys.extract off (off+b.length))) w:=by simp[Go.part,sb (yh hu),nR j,yg]
    refine⟨_,_,s,q,?_⟩;obtain⟨f,rfl⟩: ∃f,D=f+1:=⟨D-1,by omega⟩;have x:P.fieldsOf t=fields:=by simp[Program.fieldsOf,hu]
    rw[run_equalIn_struct w f t _ _ (by rw[x];exact hu) F,x];have ex: (xs.extract off (off+b.length)).toList=(xs.toList.drop off).take b.length:=by rw[au1,aqv];simp
    have m: (ys.extract off (off+b.length)).toList=(ys.toList.drop off).take b.length:=by rw[au1,aqv];simp
    refine VI (λt b h=>GR d t b h) fields.toList 0 b h f (by omega) G w _ _ ((as.drop off).take b.length) ((bs.drop off).take b.length) r (by rw[ex];exact(p.drop _).take _) (by rw[m];exact(o.drop _).take _)
     (by rw[ex];exact(f1.drop _).take _) (by rw[m];exact(f2.drop _).take _) (by simp;omega) (by simp;omega) ?_
    rw[amv,amv,ap9,ap9,ax7];exact he
   ·cases h
  ·rename_i n e hu;split at h
   ·rename_i a H;split at h
    ·rename_i J;obtain⟨l,_⟩:=J;cases h;intro D K G w xs ys as bs off r j p o f1 f2 A z he;have u: (List.replicate n a).flatten.length=n*a.length:=by simp
     rw[u]at A z he j;have s: (Go.part t xs off).run P w= .ok (.agg (xs.extract off (off+n*a.length))) w:=by simp[Go.part,sb (yh hu),nR j,yg]
     have q: (Go.part t ys off).run P w= .ok (.agg (ys.extract off (off+n*a.length))) w:=by simp[Go.part,sb (yh hu),nR j,yg]
     refine⟨_,_,s,q,?_⟩;obtain⟨f,rfl⟩: ∃f,D=f+1:=⟨D-1,by omega⟩;have c:=l;unfold cx at c;obtain⟨i,I,C⟩:=afn.1 c;rw[run_equalIn_array w f _ _ hu I];have g:P.cellsOf e=a.length:=by
      unfold Program.cellsOf;rw[c];rfl
     rw[g,ayJ];have ex: (xs.extract off (off+n*a.length)).toList=(xs.toList.drop off).take (n*a.length):=by rw[au1,aqv];simp
     have m: (ys.extract off (off+n*a.length)).toList=(ys.toList.drop off).take (n*a.length):=by rw[au1,aqv];simp
     refine MY (as:=(as.drop off).take (n*a.length)) (bs:=(bs.drop off).take (n*a.length)) (λv y=>GR d e a H v (by omega)) l (by rw[ex];exact(p.drop _).take _) (by rw[m];exact(o.drop _).take _)
      (by rw[ex];exact(f1.drop _).take _) (by rw[m];exact(f2.drop _).take _) n 0 r (by simp;omega) (by simp;omega) ?_
     rw[Nat.zero_mul,amv,amv,ap9,ap9,ax7];exact he
    ·cases h
   ·cases h
  grind
end
section
variable{P:Program}{X:Ctx}{B:Nat}{aw:World}
variable{G:Gh}{E:AS}{w:World}
def yj:Operand->Bool
 |.const _=>true
 |_=>false
def AB(c:BinOp)(t:TypeId)(x y:Operand)(a b:Value)(e:a= .nilIface->b= .nilIface->(yj x||yj y)=true)(d: ∀xs ys,a= .agg xs->b= .agg ys->P.eqGuardType P.depth t=false)(w:World):
  (eqGuard c t x y a b).run P w= .ok () w:=by
 cases c<;>(simp_all)<;>cases a<;>(try(simp[eqGuard];done))<;>cases b<;>(try(simp[eqGuard];done))
 all_goals first
  | (have h:=d _ _ rfl rfl;simp[eqGuard,aqa,h];done)
  | (have h:=e rfl rfl;cases x<;>cases y<;>simp[yj]at h<;>simp[eqGuard])
def C0:Value->Bool
 |.int _ _|.float _ _|.complex _ _ _|.string _=>false
 |_=>true
def binOp_eql{x y:Value}(a:C0 x=true)(t:TypeId):binOp .eql t x y=(do pure (.bool (<-Op.equal t x y))):=by
 cases x<;>simp[C0]at a<;>first|rfl|rfl
def binOp_neq{x y:Value}(a:C0 x=true)(t:TypeId):binOp .neq t x y=(do pure (.bool (!(<-Op.equal t x y)))):=by
 cases x<;>simp[C0]at a<;>first|rfl|rfl
def uJ:AV->Bool
 |.int _ _|.str _|.az _|.qx=>false
 |_=>true
def am7{x:AV}{a:Value}(h:uJ x=true)(r:an G x a):C0 a=true:=by
 cases x<;>simp[uJ]at h<;>simp only[an]at r
 all_goals first
  |rfl
  | (obtain⟨_,rfl,_⟩:=r;rfl)
  | (obtain⟨_,_,rfl,_⟩:=r;rfl)
  | (obtain⟨_,_,_,rfl,_⟩:=r;rfl)
  | (obtain⟨_,_,_,_,rfl,_⟩:=r;rfl)
  | (obtain⟨_,_,_,_,_,rfl,_⟩:=r;rfl)
  | (obtain⟨⟨_,rfl⟩,_⟩:=r;rfl)
def am8{x:AV}{xs:Array Value}(h:x.cp=false)(r:an G x (.agg xs)): ∃cs,x= .agg cs:=by
 cases x<;>simp[AV.cp]at h<;>simp[an]at r
 grind
def am9{x y:Operand}{k:EK}(h:yc P t x y=some k):
  (∃u,P.underlying t=some u/\kindOk k u/\ (k= .dq->(yj x||yj y)=true)/\ ∀ts,k= .Ao ts-> ∀t∈ts,VE P t)\/
  (∃a u,P.underlying t=some u/\yg u=true/\k= .agg a/\nQ P 10 t=some a/\P.eqGuardType P.depth t=false):=by
 unfold yc at h;split at h
 ·rename_i hu;cases h;exact .inl ⟨_,hu,rfl,by simp,by simp⟩
 ·rename_i hu;cases h;exact .inl ⟨_,hu,⟨_,rfl⟩,by simp,by simp⟩
 ·rename_i hu;cases h;exact .inl ⟨_,hu,rfl,by simp,by simp⟩
 ·rename_i hu;cases h;exact .inl ⟨_,hu,⟨_,rfl⟩,by simp,by simp⟩
 ·rename_i hu;cases h;exact .inl ⟨_,hu,⟨_,rfl⟩,by simp,by simp⟩
 ·rename_i hu;cases h;exact .inl ⟨_,hu,⟨_,_,rfl⟩,by simp,by simp⟩
 ·rename_i hu;cases h;exact .inl ⟨_,hu,⟨_,_,_,rfl⟩,by simp,by simp⟩
 ·rename_i hu;split at h
  ·cases h;exact .inl ⟨_,hu,⟨_,rfl⟩,by simp[yj],by simp⟩
  ·cases h;exact .inl ⟨_,hu,⟨_,rfl⟩,by simp[yj],by simp⟩
  ·cases h;refine .inl ⟨_,hu,⟨_,rfl⟩,by simp,λts d t b=>?_⟩;cases d;simp only[Vp,afI]at b;obtain⟨_,b⟩:=b;split at b
   ·rename_i i q g f;exact⟨i,q,g,b,f⟩
   ·cases b
 ·rename_i hu;split at h
  ·rename_i e;cases c:nQ P 10 t with
   |none=>simp[c]at h
   |some a=>simp[c]at h;exact .inr ⟨a,_,hu,rfl,h.symm,rfl,e⟩
  ·cases h
 ·rename_i hu;split at h
  ·rename_i e;cases c:nQ P 10 t with
   |none=>simp[c]at h
   |some a=>simp[c]at h;exact .inr ⟨a,_,hu,rfl,h.symm,rfl,e⟩
  ·cases h
 grind
def ana{k:EK}{x y:AV}{u:TypeDesc}(b:kindOk k u):dJ k x y=qy k x y:=by
 cases k with
 |agg a=>trivial
 |_=>rfl
def VJ{b:AV}(h:b.Ap=true):uJ b=true/\ (∀cs,b≠ .agg cs)/\b≠ .eZ/\b.cp=false:=by
 cases b<;>simp[AV.Ap]at h<;>simp[uJ,AV.cp]
def VK{b:AV}(h:b.Aq=true):uJ b=true/\ (∀cs,b≠ .agg cs)/\b≠ .eZ/\b.cp=false:=by
 cases b<;>simp[AV.Aq]at h<;>simp[uJ,AV.cp]
def anb{k:EK}{x y:AV}(h:qy k x y=some r):
  (k= .int/\ ∃q a b,x= .int q a/\y= .int q b/\r=(a==b))\/ (k= .str/\ ∃a b,x= .str a/\y= .str b/\r=(a.toList==b.toList))\/ (uJ x=true/\ (∀cs,x≠ .agg cs)/\ (∀cs,y≠ .agg cs)/\ (x= .eZ->k= .dq)/\x.cp=false/\y.cp=false):=by
 unfold qy at h;split at h
 case h_1=>exact .inr (.inr (by simp[uJ,AV.cp]))
 case h_2=>grind
 case h_3=>grind
 case h_5=>
  split at h
  ·rename_i f;obtain⟨_,d,g,c⟩:=VJ f;exact .inr (.inr ⟨rfl,by simp,d,by simp,rfl,c⟩)
  ·cases h
 case h_6=>
  split at h
  ·rename_i f;obtain⟨i,d,g,c⟩:=VJ f;exact .inr (.inr ⟨i,d,by simp,λe=>absurd e g,c,rfl⟩)
  ·cases h
 case h_8=>
  split at h
  ·rename_i f;obtain⟨_,d,g,c⟩:=VK f;exact .inr (.inr ⟨rfl,by simp,d,by simp,rfl,c⟩)
  ·cases h
 case h_9=>
  split at h
  ·rename_i f;obtain⟨i,d,g,c⟩:=VK f;exact .inr (.inr ⟨i,d,by simp,λe=>absurd e g,c,rfl⟩)
  ·cases h
 case h_20=>cases h
 all_goals exact .inr (.inr (by simp[uJ,AV.cp]))
def ane{x:AV}(h:x.cp=false)(r:an G x .nilIface):x= .eZ:=by
 cases x<;>simp[AV.cp]at h<;>simp[an]at r;rfl
def VL{A z:Operand}{k:EK}(hk:yc P t A z=some k){x y:AV}{m l:Value}(j:an G x m)(v:an G y l)(h:dJ k x y=some r)(w:World):
  (eqGuard .eql t A z m l).run P w= .ok () w/\ (binOp .eql t m l).run P w= .ok (.bool r) w/\ (eqGuard .neq t A z m l).run P w= .ok () w/\ (binOp .neq t m l).run P w= .ok (.bool !r) w:=by
 rcases am9 hk with⟨u,hu,C,F,D⟩| ⟨K,u,hu,I,rfl,f,hg⟩
 ·rw[ana C]at h;rcases anb h with⟨rfl,q,a,b,rfl,rfl,rfl⟩| ⟨rfl,a,b,rfl,rfl,rfl⟩| ⟨h1,h2,h3,h4,V,h6⟩
  ·subst j v;exact⟨AB _ _ _ _ _ _ (by simp) (by simp) w,by simp[binOp,Op.intCmp],AB _ _ _ _ _ _ (by simp) (by simp) w,by simp[binOp,Op.intCmp,bne]⟩
  ·simp only[an]at j v;subst j v;exact⟨AB _ _ _ _ _ _ (by simp) (by simp) w,by simp[binOp,Op.stringOp],AB _ _ _ _ _ _ (by simp) (by simp) w,by simp[binOp,Op.stringOp]⟩
  ·have S:=am7 h1 j;have e: (Op.equal t m l).run P w= .ok r w:=VG hu C j v h 9999 w (λts L=>⟨by decide,D ts L⟩);have g: ∀op,(eqGuard op t A z m l).run P w= .ok () w:=λop=>by
    refine AB _ _ _ _ _ _ (λQ _=>?_) (λxs ys Q _=>?_) w
    ·subst Q;exact F (h4 (ane V j))
    ·subst Q;obtain⟨cs,rfl⟩:=am8 V j;exact absurd rfl (h2 cs)
   exact⟨g _,by simp[binOp_eql S,e],g _,by simp[binOp_neq S,e]⟩
 ·unfold dJ at h;split at h
  ·rename_i c xs ys he;cases he;split at h
   ·rename_i o;simp only[an]at j v;obtain⟨s,rfl,lx,Y⟩:=j;obtain⟨J,rfl,ly,W⟩:=v;have g: ∀op,(eqGuard op t A z (.agg s) (.agg J)).run P w= .ok () w:=λop=>AB _ _ _ _ _ _ (by simp) (λ_ _ _ _=>hg) w
    have e: (Op.equal t (.agg s) (.agg J)).run P w= .ok r w:=by
     rw[show(10:Nat)=9+1 from rfl,nQ,hu]at f;cases u<;>simp only[yg,afp]at I
     ·rename_i n e;simp only at f;split at f
      ·rename_i c M;split at f
       ·rename_i O;obtain⟨H,_⟩:=O;cases f;have d:=H;unfold cx at d;obtain⟨i,hi,sd⟩:=afn.1 d;show(Op.equalIn (9999+1) t (.agg s) (.agg J)).run P w=_;rw[run_equalIn_array w 9999 _ _ hu hi];have p:P.cellsOf e=c.length:=by
         unfold Program.cellsOf;rw[d];rfl
        rw[p,ayJ];have N: (List.replicate n c).flatten.length=n*c.length:=by simp
        rw[N]at o;refine MY (as:=xs) (bs:=ys) (λR U=>GR 9 e c M R (by omega)) H lx ly Y W n 0 r (by rw[akO];omega) (by rw[akO];omega) ?_;rw[Nat.zero_mul,amv,amv,<-o.1,aft,o.1,<-o.2,aft];exact h
       ·cases f
      ·cases f
     ·rename_i fs;simp only at f;split at f
      ·rename_i hp;have T:P.fieldsOf t=fs:=by simp[Program.fieldsOf,hu]
       show(Op.equalIn (9999+1) t (.agg s) (.agg J)).run P w=_;rw[run_equalIn_struct w 9999 t _ _ (by rw[T];exact hu) hp,T];refine VI (λt K h=>GR 9 t K h) fs.toList 0 K f 9999 (by omega) G w _ _ xs ys r lx ly Y W (by omega) (by omega) ?_;rw[amv,amv,<-o.1,aft,o.1,<-o.2,aft];exact h
      ·cases f
    exact⟨g _,by simp[binOp_eql (x:=.agg s) rfl,e],g _,by simp[binOp_neq (x:=.agg s) rfl,e]⟩
   ·cases h
  ·cases h
  ·rename_i n1 Z;first|exact(n1 _ rfl).elim|exact(Z _ rfl).elim
def anf{a:TypeId}{u:TypeDesc}(g:P.underlying a=some u)(b: ∀ms,u≠ .interface ms){z:AV}(o:ya P a=some z){x v:AV}{l:Value}{j:Bool}(f:an G x l)(h:Ar z x a j=some v)(n:TypeId)(w:World):
  ∃v',(Instr.typeAssert l n a j).run P w= .ok v' w/\an G v v':=by
 obtain⟨d,e,_,rz⟩:=MW o G w;unfold Ar at h;split at h
 ·simp only[an]at f;subst f;split at h
  ·rename_i c;subst c;cases h;refine⟨.tuple #[d,.bool false],?_,⟨_,rfl,⟨d,_,rfl,rz,⟨_,_,rfl,by simp[an],by simp[aF]⟩⟩⟩⟩;cases u<;>first|exact absurd rfl (b _)|simp[Instr.typeAssert,adL g,e]
  ·cases h
 ·rename_i t' y;simp only[an]at f;obtain⟨i,rfl,m⟩:=f;split at h
  ·rename_i k;subst k;cases h;cases j with
   |true=>
    refine⟨.tuple #[i,.bool true],?_,⟨_,rfl,⟨i,_,rfl,m,⟨_,_,rfl,by simp[an],by simp[aF]⟩⟩⟩⟩;cases u<;>first|exact absurd rfl (b _)|simp[Instr.typeAssert,adL g]
   |false=>
    refine⟨i,?_,m⟩;cases u<;>first|exact absurd rfl (b _)|simp[Instr.typeAssert,adL g]
  ·rename_i k;split at h
   ·rename_i c;subst c;cases h;refine⟨.tuple #[d,.bool false],?_,⟨_,rfl,⟨d,_,rfl,rz,⟨_,_,rfl,by simp[an],by simp[aF]⟩⟩⟩⟩;cases u<;>first|exact absurd rfl (b _)|simp[Instr.typeAssert,adL g,e,k]
   ·cases h
 ·cases h
def ang{u:TypeDesc}(a:P.underlying t=some u)(b: ∀ms,u≠ .interface ms)(x:Value)(w:World): (Instr.makeInterface t x).run P w= .ok (.iface t x) w:=by
 cases u<;>first|grind|simp[Instr.makeInterface,run_underlying a]
def anh{x v:AV}{d:Value}(c:an G x d)(h:wi x=some v):v=x/\ ((∃a,d= .pointer (some a))\/ (∃f a b,d= .func (.func f) a b)\/ ∃f a b,d= .func (.yield f) a b):=by
 unfold wi at h;split at h
 all_goals(try cases h)
 ·simp only[an]at c;grind
 ·simp only[an]at c;grind
 ·simp only[an]at c;grind
 ·simp only[an]at c;grind
 ·simp only[an,mX]at c;grind
 ·simp only[an,mX]at c;grind
theorem gg.length: ∀ {es:List (AV×AV)} {ms:List MapEntry},gg G es ms->ms.length=es.length
 | [],ms,r=>by simp only[gg]at r;grind
 | (k,v)::es,ms,r=>by
   obtain⟨m,q,rfl,_,_,_,h⟩:=r;simp[gg.length h]
def MZ(f:aZ P B aw G E w){ty:TypeId}{u:TypeDesc}{k:EK}(c:P.underlying t=some u)(b:kindOk k u){x v:AV}{d:Value}(a:an G x d)(h:gv E k x=some v):
  ∃v',(Builtin.len_ #[t] ty #[d]).run P w= .ok v' w/\an G v v':=by
 unfold gv at h;split at h
 ·cases h;simp only[an]at a;subst a;simp only[kindOk]at b;subst b;exact k7 (by simp[Builtin.len_,adL c,goInt])
 ·cases h;simp only[an]at a;subst a;obtain⟨e,rfl⟩:=b;exact k7 (by simp[Builtin.len_,adL c,goInt])
 ·cases h;simp only[an]at a;obtain⟨_,_,_,_,_,rfl,_⟩:=a;obtain⟨e,rfl⟩:=b;exact k7 (by simp[Builtin.len_,adL c,goInt])
 ·cases h;simp only[an]at a;obtain⟨_,_,_,_,rfl,_⟩:=a;obtain⟨e,rfl⟩:=b;exact k7 (by simp[Builtin.len_,adL c,goInt])
 ·cases h;simp only[an]at a;obtain⟨_,_,_,rfl,_⟩:=a;obtain⟨e,rfl⟩:=b;exact k7 (by simp[Builtin.len_,adL c,goInt])
 ·cases h;simp only[an]at a;subst a;obtain⟨_,e,rfl⟩:=b;exact k7 (by simp[Builtin.len_,adL c,goInt])
 ·rename_i id;split at h
  ·rename_i es he;cases h;obtain⟨l,ms,clock,j,hm⟩:=f.obj id _ he a.GJ;simp only[an]at a;obtain⟨_,r,rfl,g⟩:=a;obtain⟨_,e,rfl⟩:=b;rw[g l];have i:ms.size=es.length:=by rw[<-akY];exact hm.length
   exact k7 (by simp[Builtin.len_,adL c,goInt,getObj,Sem.run,j,i])
  ·cases h
 ·exact b.elim
 ·exact b.elim
 ·exact b.elim
 ·cases h
def ani{ty:TypeId}(b:P.underlying t=some (.slice e)){x v:AV}{d:Value}(a:an G x d)(h:gv E .cap x=some v)(w:World):
  ∃v',(Builtin.cap_ #[t] ty #[d]).run P w= .ok v' w/\an G v v':=by
 unfold gv at h;split at h<;>first|grind|skip
 all_goals simp_all
 ·cases h;subst a;exact k7 (by simp[Builtin.cap_,adL b,goInt])
 ·cases h;simp only[an]at a;obtain⟨_,_,cap,_,_,rfl,_,c,_⟩:=a;rw[<-c trivial];exact k7 (by simp[Builtin.cap_,adL b,goInt])
 ·cases h;simp only[an]at a;obtain⟨_,_,_,cap,rfl,_,c,_⟩:=a;rw[<-c trivial];exact k7 (by simp[Builtin.cap_,adL b,goInt])
theorem M3{f:AV->AV->Option AV}{g:Value->Value->Sem Value}(m: ∀a b c a' o,f a b=some c->an G a a'->an G b o-> ∃n,(∀w,(g a' o).run P w= .ok n w)/\an G c n):
  ∀ (xs:List AV) (x:AV) (v:AV) (j:Value) (d:List Value),gL f (x::xs)=some v->an G x j->aF G xs d-> ∀w,∃v',(d.foldlM g j).run P w= .ok v' w/\an G v v'
 | [],x,v,j,d,h,l,i,w=>by
   subst i;unfold gL at h;simp_all
 |y::ys,x,v,j,d,h,l,i,w=>by
  obtain⟨s,k,rfl,r,i⟩:=i;unfold gL at h;split at h
  ·rename_i z q;obtain⟨p,e,rz⟩:=m _ _ _ _ _ q l r;obtain⟨v',t,rv⟩:=M3 m ys z v p k h rz i w;simp_all
  grind
def anj{j:Array TypeId}{xs:List AV}{v:AV}{d:Array Value}(g:aF G xs d.toList)(h:gL qA xs=some v)(w:World):
  ∃v',(Builtin.max_ j t d).run P w= .ok v' w/\an G v v':=by
 cases xs with
 |nil=>simp[gL]at h
 |cons x xs=>
  obtain⟨i,r,e,k,g⟩:=g;simp only[Builtin.max_,e];refine M3 (λa b c a' n f m l=>?_) xs x v i r h k g w;unfold qA at f;split at f
  ·cases f;subst m l;exact⟨_,λw=>by rfl,by rfl⟩
  grind
def ank{j:Array TypeId}{xs:List AV}{v:AV}{d:Array Value}(g:aF G xs d.toList)(h:gL wc xs=some v)(w:World):
  ∃v',(Builtin.min_ j t d).run P w= .ok v' w/\an G v v':=by
 cases xs with
 |nil=>simp[gL]at h
 |cons x xs=>
  obtain⟨i,r,e,k,g⟩:=g;simp only[Builtin.min_,e];refine M3 (λa b c a' n f m l=>?_) xs x v i r h k g w;unfold wc at f;split at f
  ·cases f;subst m l;exact⟨_,λw=>by rfl,by rfl⟩
  grind
end
section
variable{P:Program}{X:Ctx}{B:Nat}{aw:World}
variable{G:Gh}{E:AS}{w:World}
def aF.aO{cs vs:List AV}{b:List Value}{off:Nat}(a:aF G cs c.toList)(d:aF G vs b)(h:off+vs.length<=cs.length):
  aF G (aO cs off vs) (k6 c off b).toList:=by
 have e:=d.length;have f:=a.length;rw[akY]at f;rw[GL _ _ _ (by omega)];rw[e];exact(a.take off).append (d.append (a.drop _))
def Leaves.aO{a:List Value}{off:Nat}(b:Leaves c.toList)(d:Leaves a)(h:off+a.length<=c.size):Leaves (k6 c off a).toList:=by
 rw[GL _ _ _ h];exact(b.take off).append (d.append (b.drop _))
theorem VM(off:Nat): ∀ (l:List Value) (k:Nat) (c:Array Value),(l.zipIdx k).foldl (λcs (p:Value×Nat)=>cs.setIfInBounds (off+p.2) p.1) c=k6 c (off+k) l
 | [],_,_=>rfl
 |v::l,k,c=>by
  simp only[List.zipIdx_cons,aqt,k6];rw[VM off l (k+1)];rfl
theorem GS{nt:Nat}{e:Env}{a:Act}(v:cK G nt e a.tmps){b C2:Nat->Option (Nat×Nat)}(u: ∀i p,b i=some p->C2 i=some p):
  ∀ (ps:List (Nat×Operand)) (l:List (Nat×Nat×aq)) (cs d:List AV) (c:Array Value),parts b ps=some l->eJ cs (l.map λp=>(p.1,p.2.1,p.2.2.get e))=some d->aF G cs c.toList->Leaves c.toList->
  ∃j,Instr.fill C2 c (ps.map λp=>(p.1,a.eval p.2))=some j/\aF G d j.toList/\Leaves j.toList
 | [],l,cs,d,c,h,g,k,q=>by
   simp only[parts,adF]at h;subst h;simp only[aqr,eJ,adF]at g;subst g;exact⟨c,by rfl,k,q⟩
 | (i,x)::ps,l,cs,d,c,h,g,k,q=>by
   simp only[parts]at h;split at h
   ·rename_i off n y z H F D;cases h;simp only[aiQ,eJ]at g;split at g
    ·rename_i C;obtain⟨t1,t2,t3⟩:=C;have A:=cA v F;obtain⟨t,m⟩:=A.cells t1;have f:=t.length;rw[akY]at f;have s:=k.length;rw[akY]at s;obtain⟨j,I,r,o⟩:=GS v u ps z _ d (k6 c off (a.eval x).cells.toList) D g (k.aO t (by omega)) (q.aO m (by rw[akY];omega));refine⟨j,?_,r,o⟩;simp only[aiQ,Instr.fill,u i _ H];rw[adE (by simp only[ne_eq,anV,agQ];omega)];rw[<-I]
     congr 1
     rw[<-Array.foldl_toList,Array.toList_zipIdx];exact VM off _ 0 c
    grind
   grind
def anl{b:Array Field}{z:List AV}(O:P.underlying t=some (.struct b))(M:iq P t=some z)(L:b.toList.all (λf=>(cx P f.type).isSome)=true)
   {e:Env}  (K:cK G nt e a.tmps) {o:Array (Nat×Operand)} {l:List (Nat×Nat×aq)}
  (H:parts (λi=>match b[i]? with|some f=>(cx P f.type).map λn=>(f.offset,n)|none=>none) o.toList=some l) {cs:List AV} (J:eJ z (l.map λp=>(p.1,p.2.1,p.2.2.get e))=some cs) (w:World):
  ∃v',(Instr.build t (o.map λ (i,x)=>(i,a.eval x))).run P w= .ok v' w/\an G (.agg cs) v':=by
 obtain⟨m,_,D,lz,q,_⟩:=sc M G w;obtain⟨it,I,C⟩: ∃it,P.info? t=some it/\it.zero=some m:=by
  unfold zeroV at D;cases d:P.info? t with
  |none=>grind
  |some i=>grind
 have hm: ∀ (fs:List Field),fs.all (λf=>(cx P f.type).isSome)=true-> ∃places,fs.mapM (λf=>(P.info? f.type).map λi=>(f.offset,i.size))=some places/\ ∀ (i:Nat) (f:Field),fs[i]?=some f-> ∃n,cx P f.type=some n/\places[i]?=some (f.offset,n):=by
  intro fs
  induction fs with
  |nil=>simp
  |cons f fs y=>
   intro c;simp only[avX,afz]at c;obtain⟨places,e1,N⟩:=y c.2;cases d:P.info? f.type with
   |none=>simp[cx,d]at c
   |some i=>
    refine⟨(f.offset,i.size)::places,by simp[azH,d,e1],λj g s=>?_⟩;cases j with
    |zero=>simp at s;subst s;exact⟨i.size,by simp[cx,d],by simp⟩
    |succ j=>simpa using N j g (by simpa using s)
 obtain⟨places,F,k⟩:=hm _ L;have A:m.cells.toList=m.cells.toList:=rfl;obtain⟨u,Q,r,v⟩:=GS (C2:=(places.toArray[·]?)) K (λi p d=>by
  cases h:b[i]? with
  |none=>simp[h]at d
  |some f=>
   obtain⟨n,s1,s2⟩:=k i f (by simpa using h);simp[h,s1]at d;subst d;simpa using s2) o.toList l z cs m.cells H J lz q
 refine⟨.agg u,?_,⟨u,rfl,r,v⟩⟩;refine run_build w t _ u ?_;unfold Program.built;simp_all
def anm{b:TypeId}{z:List AV}(F:P.underlying t=some (.array n b))(D:iq P t=some z)(C:cx P b=some sz)
   {e:Env}  (A:cK G nt e a.tmps) {c:Array (Nat×Operand)} {l:List (Nat×Nat×aq)}
  (s:parts (λi=>some (i*sz,sz)) c.toList=some l) {cs:List AV} (y:eJ z (l.map λp=>(p.1,p.2.1,p.2.2.get e))=some cs) (w:World):
  ∃v',(Instr.build t (c.map λ (i,x)=>(i,a.eval x))).run P w= .ok v' w/\an G (.agg cs) v':=by
 obtain⟨h,_,o,lz,d,_⟩:=sc D G w;obtain⟨it,u,m⟩: ∃it,P.info? t=some it/\it.zero=some h:=by
  unfold zeroV at o;cases j:P.info? t with
  |none=>grind
  |some i=>grind
 obtain⟨f,v,q⟩: ∃f,P.info? b=some f/\f.size=sz:=by
  unfold cx at C;simp_all
 obtain⟨g,H,r,k⟩:=GS (C2:=λi=>some (i*sz,sz)) A (λi p j=>j) c.toList l z cs h.cells s y lz d;refine⟨.agg g,?_,⟨g,rfl,r,k⟩⟩;refine run_build w t _ g ?_;unfold Program.built;simp_all
def M4{af:List (List AV)}(h:af.all (λel=>el.length==sz)=true): ∀el∈af,el.length=sz:=by grind
def ann(r:aZ P B aw G E w){x:AV}{q:Value}{af:List (List AV)}(g:an G x q)(h:elems E sz x=some af):
  (af=[]/\q= .slice none 0 0)\/
  ∃a cap vs,q= .slice (some a) af.length cap/\ (∀el∈af,el.length=sz)/\br G af vs/\Leaves vs/\ (vs=[]\/ ∃b o,a=⟨b,o,none⟩/\ ∀j u,vs[j]?=some u->w.cell? ⟨b,o+j,none⟩=some u):=by
 unfold elems at h;split at h
 ·simp only[an]at g;grind
 ·rename_i k cF;split at h
  ·rename_i hu;cases h;simp only[an]at g;obtain⟨b,o,cap,s,vs,e,_,_,_,L,m,n⟩:=g;exact .inr ⟨_,cap,vs,e,M4 hu,n,m,.inr ⟨b,o,rfl,λj u d=>r.bw _ _ _ (L j u d)⟩⟩
  grind
 ·rename_i id aj f off len cF;split at h
  ·rename_i v l ty k he;split at h
   ·rename_i z;obtain⟨F,J,M,N⟩:=z;subst F J M;cases h;obtain⟨g1,g2,I,c,pre,vs,post,A,y,H,_,n,m⟩:=r.obj id _ he g.MO;simp only[an]at g;obtain⟨_,_,a,cap,e,p,_,K⟩:=g;obtain⟨_,C,_⟩:=K g1;have i: ((k.drop off).take len).length=len:=by simp;omega
    refine .inr ⟨a,cap,(vs.drop (off*f)).take (len*f),by rw[i];exact e,λel t=>I el (an4 (ag9 t)),n.slice I,(m.drop _).take _,?_⟩;by_cases D:len=0
    ·left;simp[D]
    ·right
     refine⟨_,_,C (by omega),λj u d=>?_⟩;refine CW A _ u ?_;rw[anB]at d;split at d
     ·rw[akX]at d;rw[y,afu (by omega),acV (by have:=(acW.1 d).1;omega)];rw[<-d];congr 1;omega
     ·cases d
   ·cases h
  ·cases h
 ·rename_i id l off len;split at h
  ·rename_i cs tg he;split at h
   ·rename_i z;obtain⟨F,J⟩:=z;subst F;cases h;obtain⟨g1,_,c,ty,A,n,m,_⟩:=Az r he g.amF;simp only[an]at g;obtain⟨_,a,cap,e,p,C⟩:=g;have hle:len*l<=(cs.drop off).length:=by simp;omega
    refine .inr ⟨a,cap,(c.toList.drop off).take (len*l),by rw[MV];exact e,CY hle,?_,(m.drop _).take _,?_⟩
    ·rw[br.iff,chunks_flatten hle];exact(n.drop _).take _
    ·by_cases D:len=0
     ·left;simp[D]
     ·right
      refine⟨_,_,C g1 (by omega),λj u d=>?_⟩;refine CW A _ u ?_;rw[anB]at d;split at d
      ·rwa[akX]at d
      ·cases d
   ·cases h
  ·cases h
 grind
theorem oU{sz:Nat}: ∀ {af:List (List AV)},(∀el∈af,el.length=sz)->af.flatten.length=af.length*sz
 | [],_=>by simp
 |x::xs,h=>by
  have a:=oU (af:=xs) λy b=>h y (by grind)
  grind
def br.len{af:List (List AV)}(h:br G af vs)(a: ∀el∈af,el.length=sz):vs.length=af.length*sz:=by
 rw[(br.iff.1 h).length,oU a]
def VN(p:aZ P B aw G E w){x:AV}{e:Value}{af:List (List AV)}(m:an G x e)(h:elems E sz x=some af):
  ∃vs,br G af vs/\Leaves vs/\ (∀el∈af,el.length=sz)/\vs.length=af.length*sz/\ (∃a cap,e= .slice a af.length cap/\ (a=none->af=[]))/\
   ∀w',w'.heap=w.heap-> ∀n,n<=af.length->(Builtin.firstCells sz n e).run P w'= .ok (vs.take (n*sz)).toArray w':=by
 rcases ann p m h with⟨rfl,rfl⟩| ⟨a,cap,vs,rfl,hu,g,l,k⟩
 ·refine⟨[],by rfl,λu hu=>by grind,by simp,by simp,⟨none,0,rfl,λ_=>rfl⟩,λw' c n f=>?_⟩;simp[Builtin.firstCells]
 ·refine⟨vs,g,l,hu,g.len hu,⟨some a,cap,rfl,λh=>by cases h⟩,λw' c n f=>?_⟩;have d:=g.len hu;rcases k with rfl| ⟨b,o,rfl,k⟩
  ·simp only[Builtin.firstCells];have:n*sz=0:=by
    have q:af.length*sz=0:=by grind
    have:=alo sz f;omega
   rw[this];simp[loadCells,loadCellsFrom]
  ·simp only[Builtin.firstCells];have hle:n*sz<=af.length*sz:=alo _ f;exact run_loadCells (vs.take (n*sz)) (by grind) (λj u i=>by
    rw[anB]at i;split at i
    ·have:=k _ _ i;simp only[World.cell?,c]at this⊢;exact this
    grind)
theorem ano: ∀ {af:List (List AV)} {vs:List Value} {l:lB},br G af vs->wb af=some l-> ∃a:List Int,vs=a.map (Value.int .u8)/\l=a.map λn=>UInt8.ofNat n.toNat
 | [],vs,l,h,e=>by
   subst h;simp only[wb,adF]at e;simp_all
 |x::xs,vs,l,h,e=>by
  obtain⟨v,r,rfl,d,c⟩:=h;unfold wb at e;split at e
  ·grind
  ·rename_i n f heq;cases heq;cases b:wb xs with
   |none=>grind
   |some g=>
    simp[b]at e;subst e;obtain⟨a,rfl,rfl⟩:=ano c b;obtain⟨v',q,rfl,rfl,rfl⟩:=d;exact⟨n::a,rfl,rfl⟩
  grind
theorem foldl_push: ∀ (a:List Int) (s:ByteArray),a.foldl (λr n=>r.push (UInt8.ofNat n.toNat)) s=⟨s.data++(a.map λn=>UInt8.ofNat n.toNat).toArray⟩
 | [],s=>by simp
 |n::a,s=>by
  rw[aqt,foldl_push a];simp_all
end
section
variable{P:Program}{X:Ctx}{B:Nat}{aw:World}
variable{G:Gh}{E:AS}{w:World}
def mn(P:Program)(B:Nat)(aw:World)(G:Gh)(E:AS)(v:AV)(b:AS)(r:Result Value):Prop:=
 ∃a w' v',r= .ok v' w'/\G.le a/\aZ P B aw a b w'/\an a v v'/\E.Ext b
def AD(P:Program)(B:Nat)(aw:World)(G:Gh)(E:AS)(b:AS)(r:Result Unit):Prop:=
 ∃a w',r= .ok () w'/\G.le a/\aZ P B aw a b w'/\E.Ext b
theorem uK: ∀ {a b:List AV},aL (a++b)=max (aL a) (aL b)
 | [],b=>by rfl
 |x::a,b=>by simp only[aii,aL,uK (a:=a)];omega
theorem wj: ∀ {af:List (List AV)},ca af=aL af.flatten
 | []=>by rfl
 |x::xs=>by simp only[ca,an8,uK,wj (af:=xs)]
def VO{a:List AV}:aL (a.take n)<=aL a:=by grind [uK,List.take_append_drop]
def VP{a:List AV}:aL (a.drop n)<=aL a:=by
 have h:=uK (a:=a.take n) (b:=a.drop n);rw[akP]at h;omega
def VQ{cs vs:List AV}{off:Nat}:aL (aO cs off vs)<=max (aL cs) (aL vs):=by
 unfold aO;have c:=VO (a:=cs) (n:=off);have b:=VP (a:=cs) (n:=off+vs.length);rw[uK,uK];omega
def VS{v:AV}:aL v.cells=v.refs:=by
 cases v<;>simp[AV.cells,aL,AV.refs]
def M5{cs vs:List AV}{off:Nat}(h:off+vs.length<=cs.length): (aO cs off vs).length=cs.length:=by
 unfold aO;grind
def VT(a:aZ P B aw G E w){cs:List AV}(ty:TypeId)(e:aF G cs c.toList)(d:Leaves c.toList)(tg:Option TypeId)(b: ∀t,tg=some t->ty=t):
  mn P B aw G E (.ptr E.heap.length 0) (E.push (.box cs tg)) (.ok (.pointer (some ⟨w.heap.size,0,none⟩)) (w.alloc (.cells c ty))):=by
 have hle:=G.Ay w.heap.size 0 0;refine⟨G.push w.heap.size 0 0,_,_,rfl,hle,a.push _ _ 0 0 ?_,?_,.push E _⟩
 ·refine⟨by simp[Gh.push],c,ty,?_,e.mono hle,d,b⟩;have: (G.push w.heap.size 0 0).bb G.n=w.heap.size:=by simp[Gh.push]
  rw[this];exact aoT _ _
 ·refine⟨Gh.CV a,_,rfl,λ_=>?_⟩;simp[Gh.push,a.len]
def M6{z:List AV}{t':TypeId}(h:r9 z t=some t'):t=t':=by
 unfold r9 at h
 grind
def anp{z:Option (List AV)}{t':TypeId}(h: (z.bind λz=>r9 z t)=some t'):t=t':=by
 cases z with
 |none=>cases h
 |some z=>exact M6 h
def anq(d:aZ P B aw G E w){z:List AV}(c:iq P t=some z):
  mn P B aw G E (.ptr E.heap.length 0) (E.push (.box z (r9 z t))) ((Instr.alloc t true (.tuple #[])).run P w):=by
 obtain⟨a,e,_,l,b,_⟩:=sc c G w;have: (Instr.alloc t true (.tuple #[])).run P w= .ok (.pointer (some ⟨w.heap.size,0,none⟩)) (w.alloc (.cells a.cells t)):=by
  simp[Instr.alloc,e,newVar,newRow]
 rw[this];exact VT d t l b _ (λt' h=>M6 h)
def anr(e:aZ P B aw G E w){x:AV}{b:Value}{tg:Option TypeId}(a: ∀t',tg=some t'->t=t')(d:an G x b)(f:x.cp=false):
  mn P B aw G E (.ptr E.heap.length 0) (E.push (.box x.cells tg)) ((Instr.box t b).run P w):=by
 obtain⟨l,c⟩:=d.cells f;exact VT e t l c tg a
def GU(g:aZ P B aw G E w){af:List (List AV)}{post:List Value}{cap:Nat}(ty:TypeId)(l:c.toList=vs++post)(j: ∀el∈af,el.length=sz)(k:br G af vs)(i:Leaves vs)
  (e:c.size=cap*sz) (h:af.length<=cap) (len:Nat) (a:len=af.length)  (f:w'.heap=w.heap) (d:aZ P B aw G E w'):
  mn P B aw G E (.ref E.heap.length 0 sz 0 len false) (E.push (.row 0 sz ty af)) (.ok (.slice (some ⟨w.heap.size,0,none⟩) len cap) (w'.alloc (.cells c ty))):=by
 subst a;rw[<-f];have b:=G.Ay w'.heap.size (cap*sz) sz;refine⟨G.push w'.heap.size (cap*sz) sz,_,_,rfl,b,d.push _ _ _ _ ?_,?_,.push E _⟩
 ·have e1: (G.push w'.heap.size (cap*sz) sz).bb G.n=w'.heap.size:=by simp[Gh.push]
  refine⟨by simp[Gh.push],by simp[Gh.push],j,c,[],vs,post,?_,by grind,by simp[Gh.push],?_,k.mono b,i⟩
  ·rw[e1];exact aoT _ _
  ·simp[Gh.push,e]
 ·refine⟨Gh.CV d,by simp,_,cap,rfl,⟨h,rfl⟩,by simp,λ_=>⟨by simp[Gh.push,g.len],λ_=>by simp[Gh.push,g.len],by simp[Gh.push,g.len]⟩⟩
def ans(a:aZ P B aw G E w)(t:TypeId):mn P B aw G E (.mp E.heap.length) (E.push (.map [])) ((Instr.makeMap t none).run P w):=by
 have hle:=G.Ay w.heap.size 0 0;refine⟨G.push w.heap.size 0 0,_,_,rfl,hle,a.push _ _ 0 0 ?_,?_,.push E _⟩
 ·refine⟨by simp[Gh.push],#[],0,?_,by rfl⟩;have: (G.push w.heap.size 0 0).bb G.n=w.heap.size:=by simp[Gh.push]
  rw[this];exact aoT _ _
 ·exact⟨Gh.CV a,_,rfl,λ_=>by simp[Gh.push,a.len]⟩
def aZ.put(b:aZ P B aw G E w){id:Nat}(a:G.on id){o':ae}(refs:Nat)(ho:iZ P G id (fa w (G.bb id) O) o'):aZ P B aw G (E.set id o' refs) (fa w (G.bb id) O):=
 b.set a o' refs G.le_refl rfl rfl (λ_ _ _=>rfl) (.inl rfl) (by rw[amK];exact(b.low id a).2) (λk c _=>Vt c) (by simp) rfl rfl rfl ho
def M7(f:aZ P B aw G E w){id:Nat}{cs as:List AV}{tg:Option TypeId}(k:E.heap[id]?=some (.box cs tg))(l:G.pz id=none){a:List Value}{off:Nat}(j:aF G as a)(i:Leaves a)(h:off+as.length<=cs.length){refs:Nat}(s:aL as<=refs):
  AD P B aw G E (E.set id (.box (aO cs off as) tg) refs) ((storeCells ⟨G.bb id,off,none⟩ a).run P w):=by
 obtain⟨r,d,c,ty,q,b,e,g⟩:=Az f k l;have p:=b.length;rw[akY]at p;have hu:=j.length;refine⟨G,_,?_,G.le_refl,f.put d refs (O:=.cells (k6 c off a) ty (0,0)) ?_,.set k λn o m=>?_⟩
 ·have:=MQ (P:=P) a c w off 0 q (by omega) i;omega
 ·exact⟨r,_,ty,uH (f.low id d).2,b.aO j h,e.aO i (by omega),g⟩
 ·simp only[ae.le]at o⊢;have:=VQ (cs:=cs) (vs:=as) (off:=off);omega
def VU(f:aZ P B aw G E w){id:Nat}{ty:TypeId}{af a:List (List AV)}{as:List AV}(s:E.heap[id]?=some (.row aj sz ty af))(m:G.pz id=none){b:List Value}{p:Nat}(q:aF G as b)(l:Leaves b)(h:p+as.length<=af.flatten.length)
  (v: ∀el∈a,el.length=sz) (r:a.flatten=aO af.flatten p as) {refs:Nat} (H:aL as<=refs):
  AD P B aw G E (E.set id (.row aj sz ty a) refs) ((storeCells ⟨G.bb id,G.base id+p,none⟩ b).run P w):=by
 obtain⟨D,i,u,c,pre,vs,post,C,A,o,F,j,d⟩:=f.obj id _ s m;have e:G.on id:=⟨by rw[f.len];grind,m⟩;have k:=br.iff.1 j;have t:=k.length;have g:=q.length;have z:c.size=pre.length+(vs.length+post.length):=by grind [Array.length_toList]
 refine⟨G,_,?_,G.le_refl,f.put e refs (O:=.cells (k6 c (G.base id+p) b) ty (0,0)) ?_,.set s λn y x=>?_⟩
 ·have:=MQ (P:=P) b c w (G.base id+p) 0 C (by omega) l;omega
 ·refine⟨D,i,v,_,pre,vs.take p++(b++vs.drop (p+b.length)),post,uH (f.low id e).2,?_,o,by simp_all,?_,(d.take p).append (l.append (d.drop _))⟩
  ·rw[GL _ _ _ (by omega),A,<-o];rw[axw,adP (by omega:pre.length<=pre.length+p),ag6,atd (by omega)];rw[aiO,auL,ag5 (by omega:pre.length<=pre.length+(p+b.length)),ag6,ag8,aCj (by omega)];simp
  ·rw[br.iff,r];unfold aO;rw[<-g];exact(k.take p).append (q.append (k.drop _))
 ·simp only[ae.le,wj]at y⊢;rw[r];have:=VQ (cs:=af.flatten) (vs:=as) (off:=p);omega
def ant{af:List (List AV)}{el b:List AV}(g: ∀x∈af,x.length=sz)(e:af[i]?=some el)(off:Nat)(vs:List AV)(h:off+vs.length<=el.length)(f:b=aO el off vs):
  (af.set i b).flatten=aO af.flatten (i*sz+off) vs:=by
 subst f;have c:i<af.length:=(acW.1 e).1;have d:af.flatten=(af.take i).flatten++(el++(af.drop (i+1)).flatten):=by grind [List.take_append_drop,List.flatten_append,List.drop_eq_getElem_cons]
 have a: (af.take i).flatten.length=i*sz:=by grind [oU,List.mem_of_mem_take,List.length_take,Nat.min_eq_left,Nat.le_of_lt]
 rw[List.set_eq_take_append_cons_drop,adG c,anE,an8];rw[d];unfold aO;rw[axw,adP (by omega: (af.take i).flatten.length<=i*sz+off),a,ag6,atd (by omega)];rw[aiO,auL,ag5 (by omega: (af.take i).flatten.length<=i*sz+(off+vs.length)),a,ag6,ag8,aCj (by omega)];simp
def anu(j:aZ P B aw G E w)(J:cx P t=some n){x v:AV}{f:Value}{C:AS}(g:an G x f)(D:an G v v')(h:kq E n x v=some C):
  AD P B aw G E C ((Instr.storeAt t f v').run P w):=by
 have key: ∀ (b:Addr),f= .pointer (some b)->v.cp=false->v.cells.length=n->(Instr.storeAt t f v').run P w=(storeCells b v'.cells.toList).run P w/\aF G v.cells v'.cells.toList/\Leaves v'.cells.toList:=by
  rintro b rfl F M;obtain⟨l,L⟩:=D.cells F;have N:=l.length;simp only[Instr.storeAt,Sem.run_bind,Instr.sureAddr,Sem.run_pure,Result.andThen_ok,storeVar,nR J]
  grind
 unfold kq at h;split at h
 ·rename_i id off;split at h
  ·rename_i cs he;split at h
   ·rename_i p;obtain⟨u,s,K⟩:=p;cases h;simp only[an]at g;obtain⟨a,b,e,q⟩:=g;obtain⟨o,m,k⟩:=key b e u s;rw[o,q (Az j he a.2).1];exact M7 j he a.2 m k (by omega) (by rw[VS];exact aef _)
   grind
  grind
 ·rename_i id aj i off;split at h
  ·rename_i A sz ty af he;split at h
   ·rename_i el d;split at h
    ·rename_i p;obtain⟨c0,z,u,s,K⟩:=p;subst c0;cases h;simp only[an]at g;obtain⟨a,_,b,e,q⟩:=g;obtain⟨o,m,k⟩:=key b e u s;obtain⟨g1,g2,r,_⟩:=j.obj id _ he a.2;rw[o,q g1,g2,aiO];have I:i<af.length:=(acW.1 d).1;have H:=ant r d off v.cells (by omega) rfl;have hle:i*sz+sz<=af.flatten.length:=by
      rw[oU r,<-apM];exact alo _ I
     exact VU j he a.2 m k (by omega) (λy c=>by
      rcases List.mem_or_eq_of_mem_set c with c|c
      ·exact r y c
      ·rw[c,M5 (by omega)];exact z) H (by rw[VS];exact aef _)
    ·cases h
   ·cases h
  ·cases h
 grind
end
section
variable{P:Program}{X:Ctx}{B:Nat}{aw:World}
variable{G:Gh}{E:AS}{w:World}
theorem GV(zc:Array Value)(b:0<zc.size): ∀ (k:Nat),(List.range (k*zc.size)).map (λi=>zc[i % zc.size]!)=(List.replicate k zc.toList).flatten
 |0=>by simp
 |k+1=>by
  have e: (k+1)*zc.size=zc.size+k*zc.size:=by grind
  rw[e,List.range_add,afr,aqE,aqA,an8,<-GV zc b k]
  congr 1
  ·apply anT;intro j;by_cases a:j<zc.size
   ·simp[a,al2 a]
   grind
  simp_all
theorem C3{z:List AV}{vs:List Value}(a:aF G z vs): ∀ (k:Nat),br G (List.replicate k z) (List.replicate k vs).flatten
 |0=>by rfl
 |k+1=>by
  exact⟨_,_,rfl,a,C3 a k⟩
theorem GW(h:Leaves vs)(k:Nat):Leaves (List.replicate k vs).flatten:=by
 intro v a;simp only[List.mem_flatten,List.mem_replicate]at a;obtain⟨l,⟨_,rfl⟩,a⟩:=a;exact h v a
def VV(h:x9 P t=some n): ∃i,P.info? t=some i/\i.bytes=n:=by
 unfold x9 at h;simp_all
def VW(h:cx P t=some n): ∃i,P.info? t=some i/\i.size=n:=by
 unfold cx at h;simp_all
def M8{i:TypeInfo}{z:Value}(a:P.info? t=some i)(h:zeroV P t=some z):i.zero=some z:=by
 unfold zeroV at h;grind
def anv(m:aZ P B aw G E w){z:List AV}{bytes:Nat}(F:P.underlying t=some (.slice e))(D:iq P e=some z)(C:x9 P e=some bytes)(x:0<z.length)
  {l c:AV} {k q:Value} {v:AV} {r:AS} (n:an G l k) (p:an G c q) (h:MJ E e z bytes l c=some (v,r)):mn P B aw G E v r ((Instr.makeSlice t k q).run P w):=by
 unfold MJ at h;split at h
 ·rename_i s l u c;split at h
  ·rename_i A;obtain⟨K,J,I,H⟩:=A;cases h;simp only[an]at n p;subst n p;obtain⟨i,o,rfl⟩:=VV C;obtain⟨b,_,f,lz,d,j⟩:=sc D G w;have a:i.size=z.length:=by unfold cx at j;grind
   have g:b.cells.size=z.length:=by exact lz.length
   rw[run_make w t e i b F o (M8 o f) s u l c K J (by rw[Int.mul_comm];simp only[room]at I;omega) (by simp only[room]at H;omega)];have hm: (madeCells b.cells (c.toNat*i.size)).toList=(List.replicate l.toNat b.cells.toList).flatten++(List.replicate (c.toNat-l.toNat) b.cells.toList).flatten:=by
    unfold madeCells;rw[a,<-g,Array.toList_map,Array.toList_range,GV _ (by omega)];rw[<-anE,aA2]
    grind
   refine GU m e hm (λel y=>by grind) (C3 lz _) (GW d _) (cap:=c.toNat) ?_ (by rw[List.length_replicate];omega) l.toNat (by simp) rfl m;simp[madeCells,a]
  grind
 grind
def anw(k:aZ P B aw G E w){s d:TypeId}(p:P.underlying s=some .string)(o:P.underlying d=some (.slice e))(n:P.underlying e=some (.int .u8))(b:ByteArray):
  mn P B aw G E (.sl (rZ b) false) E ((convert s d (.string b)).run P w):=by
 rw[run_bytes_of_string w s d e b p o n];have a:b.data.toList.length=b.size:=by simp
 obtain⟨hle,c⟩:=k.drew.Vs (bytesRow b (grownCap w b.size 0 e)) e ((bytesRow b (grownCap w b.size 0 e)).size,(bytesRow b (grownCap w b.size 0 e)).size+1) (b.data.toList.map λx=>Value.int .u8 x.toNat) (λj v h=>by
  unfold bytesRow
  grind)
 refine⟨_,_,_,rfl,hle,c,?_,.refl E⟩;have m: ∀ (G:Gh) (l:lB),br G (l.map λx=>[AV.int .u8 x.toNat]) (l.map λx=>Value.int .u8 x.toNat):=by
  intro G l
  induction l with
  |nil=>rfl
  |cons x xs i=>exact⟨[_],_,rfl,by simp[aF,an],i⟩
 refine⟨w.heap.size,0,grownCap w b.size 0 e,1,_,?_,?_,by simp,?_,?_,?_,m _ _⟩
 ·simp[rZ,a]
 ·simp only[rZ,afm,a];exact azI w b.size 0 e
 ·intro el f;simp only[rZ,afq]at f
  grind
 ·intro j v h;simp only[Gh.freeze,akO];rw[adG (show w.heap.size=w.drew.heap.size from rfl)];exact h
 ·intro v g;simp only[afq]at g;obtain⟨x,_,rfl⟩:=g;rfl
def VX{z:List AV}{len:Nat}(q:P.underlying t=some (.slice e))(J:iq P e=some z)(A:0<z.length)(C:len*z.length<=65536)
   {f:Env}  (I:cK G nt f a.tmps) {j:Array (Nat×Operand)} {l:List (Nat×Nat×aq)}
  (F:parts (λi=>some (i*z.length,z.length)) j.toList=some l) {cs:List AV} (H:eJ (List.replicate len z).flatten (l.map λp=>(p.1,p.2.1,p.2.2.get f))=some cs) (w:World):
  ∃c:Array Value,(Instr.buildSlice t len (j.map λ (i,x)=>(i,a.eval x))).run P w= .ok (.slice (some ⟨w.heap.size,0,none⟩) len len) (w.alloc (.cells c e))/\aF G cs c.toList/\Leaves c.toList:=by
 obtain⟨b,D,k,lz,u,m⟩:=sc J G w;obtain⟨i,o,d⟩:=VW m;have y:b.cells.size=z.length:=by exact lz.length
 have hm: ((Array.range (len*i.size)).map (b.cells[· % b.cells.size]!)).toList=(List.replicate len b.cells.toList).flatten:=by grind [Array.toList_map,Array.toList_range,GV]
 obtain⟨c,K,r,v⟩:=GS (C2:=λi=>some (i*z.length,z.length)) I (λi p h=>h) j.toList l _ cs ((Array.range (len*i.size)).map (b.cells[· % b.cells.size]!)) F H
  (by rw[hm];exact br.iff.1 (C3 lz len)) (by grind [GW])
 refine⟨c,?_,r,v⟩;have g:Instr.fill (λx=>some (x*i.size,i.size)) ((Array.range (len*i.size)).map (b.cells[· % b.cells.size]!)) (j.map λ (i,x)=>(i,a.eval x)).toList=some c:=by simp_all
 by_cases s:len*i.size=0
 ·have n:len=0:=by
    rcases Nat.mul_eq_zero.1 s with h|h
    ·exact h
    ·omega
  subst n;simp[Instr.buildSlice,adL q,sizeOf,typeInfo,o,newRow,Array.range_zero'];simp[Array.range_zero']at g;simp_all
 ·exact run_buildSlice w t e len _ c i b q o (M8 o k) (by rw[d];omega) s g
def anx(n:aZ P B aw G E w){z:List AV}{len:Nat}(A:P.underlying t=some (.slice e))(y:iq P e=some z)(d:0<z.length)(g:len*z.length<=65536)
   {b:Env}  (s:cK G nt b a.tmps) {h:Array (Nat×Operand)} {l:List (Nat×Nat×aq)}
  (o:parts (λi=>some (i*z.length,z.length)) h.toList=some l) {cs:List AV} (q:eJ (List.replicate len z).flatten (l.map λp=>(p.1,p.2.1,p.2.2.get b))=some cs) (u:cs.length=len*z.length):
  mn P B aw G E (.sl (chunks z.length len cs) true) E ((Instr.buildSlice t len (h.map λ (i,x)=>(i,a.eval x))).run P w):=by
 obtain⟨c,C,r,m⟩:=VX A y d g s o q w;rw[C];obtain⟨hle,f⟩:=n.Vs c e (0,0) c.toList (λj v k=>by grind);refine⟨_,_,_,rfl,hle,f,?_,.refl E⟩;refine⟨w.heap.size,0,len,z.length,c.toList,by simp,by simp,λ_=>by simp,CY (by omega),?_,m,?_⟩
 ·intro j v k;simp only[Gh.freeze,akO,afK];exact k
 ·rw[br.iff,chunks_flatten (by omega),adP (by omega)];exact r.mono hle
def anz(h:aZ P B aw G E w){z:List AV}{len:Nat}(u:P.underlying t=some (.slice e))(s:iq P e=some z)(d:0<z.length)(f:len*z.length<=65536)
   {b:Env}  (o:cK G nt b a.tmps) {g:Array (Nat×Operand)} {l:List (Nat×Nat×aq)}
  (m:parts (λi=>some (i*z.length,z.length)) g.toList=some l) {cs:List AV} (n:eJ (List.replicate len z).flatten (l.map λp=>(p.1,p.2.1,p.2.2.get b))=some cs) (q:cs.length=len*z.length):
  mn P B aw G E (.ref E.heap.length 0 z.length 0 len false) (E.push (.row 0 z.length e (chunks z.length len cs))) ((Instr.buildSlice t len (g.map λ (i,x)=>(i,a.eval x))).run P w):=by
 obtain⟨c,v,r,j⟩:=VX u s d f o m n w;rw[v];have k:=r.length;refine GU h e (vs:=c.toList) (post:=[]) (by simp) (CY (by omega)) ?_ j (cap:=len) (by grind) (by simp) len (by simp) rfl h;rw[br.iff,chunks_flatten (by omega),adP (by omega)];exact r
theorem M9: ∀ {ps:List (Nat×Nat×AV)} {cs a:List AV},eJ cs ps=some a->a.length=cs.length
 | [],cs,a,h=>by simp only[eJ,adF]at h;grind
 | (off,n,v)::ps,cs,a,h=>by
   simp only[eJ]at h;split at h
   ·rw[M9 h,M5 (by omega)]
   grind
end
section
variable{P:Program}{X:Ctx}{B:Nat}{aw:World}
variable{G:Gh}{E:AS}{w:World}
def Gh.eL(G:Gh)(id b base eC:Nat):Gh:=
 {G with bb:=λi=>if i=id then b else G.bb i,base:=λi=>if i=id then base else G.base i,aj:=λi=>if i=id then G.aj i+1 else G.aj i,eC:=λi=>if i=id then eC else G.eC i}
def Gh.VY(G:Gh)(id b base eC:Nat):G.le (G.eL id b base eC):=by
 refine .mk' (λ_ _ _ h=>h) (aef _) (λ_ _=>rfl) (λi _=>?_) (λi _ h=>?_)
 ·simp only[Gh.eL];grind
 ·simp only[Gh.eL]at h;split at h
  ·omega
  ·rename_i a;simp[Gh.eL,a]
structure Na(P:Program)(w:World)(sz:Nat)(xt:TypeId)(x':Value)(n:Nat)(new:List Value):Prop where
 len: (Builtin.lenOf x').run P w= .ok n w
 cells: ∀w',w'.heap=w.heap->(Builtin.firstCells sz n x').run P w'= .ok new.toArray w'
 type: (∃e,P.underlying xt=some (.slice e))\/P.underlying xt=some .string
def C4{j ty:TypeId}{i:TypeInfo}(d:P.underlying t=some (.slice e))(f:P.info? e=some i){k:Value}{c:List Value}(b:Na P w i.size j k n c)
  {base:Option Addr} {jM mo:Nat} (h:jM+n<=mo)  (l: ∀a,base=some a->(storeCells (a.add (jM*i.size)) c).run P w= .ok () w') (m:base=none->w'=w):
  (Builtin.append_ #[t,j] ty #[.slice base jM mo,k]).run P w= .ok (.slice base (jM+n) mo) w':=by
 have g:=b.cells w rfl;cases base with
 |none=>
  have:=m rfl;subst this;rcases b.type with⟨o,hu⟩|hu
  ·simp[Builtin.append_,adL d,adL hu,sizeOf,typeInfo,f,b.len,g,h]
  ·simp[Builtin.append_,adL d,adL hu,sizeOf,typeInfo,f,b.len,g,h]
 |some a=>
  have:=l a rfl;rcases b.type with⟨o,hu⟩|hu
  ·simp[Builtin.append_,adL d,adL hu,sizeOf,typeInfo,f,b.len,g,h,this]
  ·simp[Builtin.append_,adL d,adL hu,sizeOf,typeInfo,f,b.len,g,h,this]
def GX{j ty:TypeId}{i:TypeInfo}{z:Value}(m:P.underlying t=some (.slice e))(p:P.info? e=some i)(l:i.zero=some z){k:Value}{c:List Value}(g:Na P w i.size j k n c)
  {base:Option Addr} {jM mo:Nat} (h:mo<jM+n) {dU:List Value} (hold: ∀w',w'.heap=w.heap->(Builtin.firstCells i.size jM (.slice base jM mo)).run P w'= .ok dU.toArray w') (s:0<i.bytes) (b: (jM+n)*i.bytes<=room):
  (Builtin.append_ #[t,j] ty #[.slice base jM mo,k]).run P w= .ok (.slice (some ⟨w.heap.size,0,none⟩) (jM+n) (grownCap w (jM+n) mo e))
    (w.drew.alloc (.cells (dU.toArray++c.toArray++Builtin.zeroCells z.cells (grownCap w (jM+n) mo e- (jM+n))) e)):=by
 have o: ¬(jM+n<=mo):=by omega
 have q:=growslice_fits (bytes:=i.bytes) h (by simp only[room]at b;omega);have a: ¬(281474976710656<Builtin.nextslicecap (jM+n) mo*i.bytes):=by omega
 have f:i.bytes≠0:=by omega
 have r:=g.cells w.drew rfl;have d:=hold w.drew rfl;rcases g.type with⟨u,hu⟩|hu
 ·simp[Builtin.append_,adL m,adL hu,sizeOf,typeInfo,zeroValue,p,l,g.len,o,a,f,Question.forced,r,d,newRow,grownCap]
  congr 2;apply apK;simp[adK]
 ·simp[Builtin.append_,adL m,adL hu,sizeOf,typeInfo,zeroValue,p,l,g.len,o,a,f,Question.forced,r,d,newRow,grownCap]
  congr 2;apply apK;simp[adK]
def Nb(c:aZ P B aw G E w){af:List (List AV)}{z:Value}{zc:Nat}(e:TypeId)(b:z.cells.size=sz)(d: ∀el∈af,el.length=sz)(g:br G af vs)(h:Leaves vs)(a dU:Nat)(f:a=af.length):
  mn P B aw G E (.ref E.heap.length 0 sz 0 a false) (E.push (.row 0 sz e af)) (.ok (.slice (some ⟨w.heap.size,0,none⟩) a (grownCap w a dU e))
   (w.drew.alloc (.cells (vs.toArray++Builtin.zeroCells z.cells (grownCap w a dU e-a)) e))):=by
 have i:=azI w a dU e;refine GU c e (post:=(Builtin.zeroCells z.cells (grownCap w a dU e-a)).toList) (by simp) d g h (cap:=grownCap w a dU e) ?_ (by omega) a f rfl c.drew;have:=g.len d;simp only[aB1,aA1,aBX,b,this,<-f];rw[<-aon];grind
def VZ{a b:List (List AV)}{u v:List Value}(h:br G a u)(k:br G b v):br G (a++b) (u++v):=by
 rw[br.iff,anE];exact(br.iff.1 h).append (br.iff.1 k)
def AS.Ext.eL{E:AS}{id:Nat}{ty c:TypeId}{af a:List (List AV)}{refs:Nat}(f:E.heap[id]?=some (.row aj sz ty af))(h:ca a<=max (ca af) refs):E.Ext (E.set id (.row b d c a) refs):=
 .set f λn e g=>by simp only[ae.le]at e⊢;omega
def anA(l:aZ P B aw G E w){xt ty:TypeId}{bytes:Nat}(C:P.underlying t=some (.slice e))(h2:cx P e=some sz)(h3:x9 P e=some bytes)(hz: (iq P e).isSome=true)(hb:0<bytes)
  {s v:AV} {s' x':Value} {ys:List (List AV)} {d:List Value} {E':AS} (x:an G s s') (Q:br G ys d) (lf:Leaves d) (p:Na P w sz xt x' ys.length d)
  (h:dL E e sz bytes s ys=some (v,E')):mn P B aw G E v E' ((Builtin.append_ #[t,xt] ty #[s',x']).run P w):=by
 obtain⟨i,z,rfl⟩:=VV h3;have sd:i.size=sz:=by unfold cx at h2;simpa[z]using h2
 subst sd;obtain⟨zz,hzz⟩:=aqD.1 hz;obtain⟨z',_,hzv,lz,_,V⟩:=sc hzz G w;have H:=M8 z hzv;have F:z'.cells.size=i.size:=by
  have:cx P e=some i.size:=h2;rw[this]at V;rw[<-akY,lz.length];exact(aiP V).symm
 unfold dL at h;split at h
 ·rename_i hc;obtain⟨V0,uL⟩:=hc;have hu:=M4 uL;split at h
  ·simp only[an]at x;subst x;split at h
   ·rename_i g;cases h;have U:d=[]:=by
     have:=Q.len hu;rw[g]at this;exact aiR.1 (by simpa using this)
    rw[g]at p;have:=C4 (ty:=ty) C z p (base:=none) (jM:=0) (mo:=0) (by simp) (w':=w) (by simp) (λ_=>rfl);rw[this];exact⟨G,w,_,rfl,G.le_refl,l,by simp[an],.refl E⟩
   ·rename_i g;split at h
    ·rename_i Z;cases h;rw[GX C z H p (by omega) (dU:=[]) (λw' _=>by simp[Builtin.firstCells]) hb (by simpa using Z)];have:=Nb (zc:=0) l e F hu Q lf ys.length 0 rfl;simpa using this
    ·cases h
  ·rename_i af;have r:=x;simp only[an]at x;obtain⟨b,o,cap,sz,vs,rfl,d1,d2,d3,hf,D,m⟩:=x;have K:=d2 trivial;subst K;split at h
   ·rename_i g;cases h;have U:d=[]:=by
     have:=Q.len hu;rw[g]at this;exact aiR.1 (by simpa using this)
    rw[g]at p;have:=C4 (ty:=ty) C z p (base:=some ⟨b,o,none⟩) (jM:=af.length) (mo:=af.length) (by omega) (w':=w) (λa _=>by rw[U];simp[storeCells]) (by simp);rw[this];exact⟨G,w,_,rfl,G.le_refl,l,r,.refl E⟩
   ·rename_i g;split at h
    ·rename_i Z;obtain⟨Z,T⟩:=Z;have Y:=M4 T;cases h;have W:=m.len Y;rw[GX C z H p (by omega) (dU:=vs) (λw' hh=>by
      simp only[Builtin.firstCells];exact run_loadCells vs W (λj u q=>by
       have:=l.bw _ _ _ (hf j u q);simp only[World.cell?,hh]at this⊢;exact this)) hb Z]
     have:=Nb (zc:=0) (af:=af++ys) l e F (λel R=>(aeg.1 R).elim (Y el) (hu el)) (VZ m Q) (D.append lf) (af.length+ys.length) af.length (by simp);simpa using this
    ·cases h
  ·rename_i af;have r:=x;simp only[an]at x;obtain⟨b,o,cap,sz,vs,rfl,d1,d2,d3,hf,D,m⟩:=x;split at h
   ·rename_i g;cases h;have U:d=[]:=by
     have:=Q.len hu;rw[g]at this;exact aiR.1 (by simpa using this)
    rw[g]at p;have:=C4 (ty:=ty) C z p (base:=some ⟨b,o,none⟩) (jM:=af.length) (mo:=cap) (by omega) (w':=w) (λa _=>by rw[U];simp[storeCells]) (by simp);rw[this];exact⟨G,w,_,rfl,G.le_refl,l,r,.refl E⟩
   ·cases h
  ·rename_i id aj aBP off len cF;have r:=x;simp only[an]at x;obtain⟨f,aBQ,ad,cap,rfl,d1,d2,d3⟩:=x;split at h
   ·rename_i GY sz' ty' af he;split at h
    ·rename_i hc;obtain⟨c1,c2,c3,c4,c5,c6⟩:=hc;subst c1 c2 c3;have c4:=c4.symm;subst c4;obtain⟨g1,g2,g3,c,pre,vs,post,V4,mr,J,N,m,D⟩:=l.obj id _ he f.2;obtain⟨f1,f2,f3⟩:=d3 g1;have W:=m.len g3;have hmul:off*i.size+len*i.size<=af.length*i.size:=by rw[<-aon];exact alo _ c5
     have I:=Q.len hu;have hold: ∀w',w'.heap=w.heap->(Builtin.firstCells i.size len (.slice (some ad) len cap)).run P w'= .ok ((vs.drop (off*i.size)).take (len*i.size)).toArray w':=by
      intro w' hh;simp only[Builtin.firstCells];by_cases h0:len=0
      ·subst h0;simp[loadCells,loadCellsFrom]
      ·rw[f2 (by omega)];refine run_loadCells _ (by simp;omega) (λj u q=>?_);have S:w'.cell? ⟨G.bb id,G.base id+off*i.size+j,none⟩=c[G.base id+off*i.size+j]?:=cell_of_row w' _ _ c e (0,0) (by rw[hh];exact V4);rw[S];rw[anB]at q;split at q
       ·rw[akX]at q;have yk:=(acW.1 q).1;have:c.toList[G.base id+off*i.size+j]?=some u:=by
         rw[mr,afu (by omega),acV (by omega),<-q]
         congr 1;omega
        simpa using this
       ·cases q
     have M: ∀el∈(af.drop off).take len++ys,el.length=i.size:=λel R=>(aeg.1 R).elim (λh=>g3 el (an4 (ag9 h))) (hu el)
     have y:br G ((af.drop off).take len++ys) ((vs.drop (off*i.size)).take (len*i.size)++d):=VZ (m.slice g3) Q;have L:Leaves ((vs.drop (off*i.size)).take (len*i.size)++d):=((D.drop _).take _).append lf;have O: ((af.drop off).take len++ys).length=len+ys.length:=by simp;omega
     split at h
     ·rename_i g;cases h;have U:d=[]:=by
       rw[g]at I;exact aiR.1 (by simpa using I)
      rw[g]at p;have:=C4 (ty:=ty) C z p (base:=some ad) (jM:=len) (mo:=cap) (by omega) (w':=w) (λa _=>by rw[U];simp[storeCells]) (by simp);rw[this];exact⟨G,w,_,rfl,G.le_refl,l,r,.refl E⟩
     ·rename_i g;split at h
      ·rename_i hcp;cases h;have K:=d2 hcp;rw[GX C z H p (by omega) hold hb c6];have:=Nb (zc:=0) l e F M y L (len+ys.length) cap O.symm;simpa using this
      ·cases h;have hrefs:ca ((af.drop off).take len++ys)<=max (ca af) (ca ys):=by
        rw[wj,wj (af:=af),wj (af:=ys),anE,uK,VA g3];have C:=VO (a:=af.flatten.drop (off*i.size)) (n:=len*i.size);have h2:=VP (a:=af.flatten) (n:=off*i.size);omega
       by_cases A:len+ys.length<=cap
       ·have V5:=f2 (by omega);have V6:len*i.size+d.length<=cap*i.size:=by rw[I,<-aon];exact alo _ A
        have uM:=MQ (P:=P) d c w (G.base id+off*i.size+len*i.size) 0 V4 (by omega) lf;rw[C4 (ty:=ty) C z p (base:=some ad) A (w':=fa w (G.bb id) (.cells (k6 c (G.base id+off*i.size+len*i.size) d) e (0,0))) (λa hae=>by
         cases hae;rw[V5,jL];simpa using uM) (by simp)]
        have hle:=G.VY id (G.bb id) (G.base id+off*i.size) (G.eC id-off*i.size);refine⟨G.eL id (G.bb id) (G.base id+off*i.size) (G.eC id-off*i.size),_,_,rfl,hle,?_,?_,.eL he hrefs⟩
        ·refine l.set f _ _ hle rfl rfl (λj _ q=>by simp[Gh.eL,q]) (.inl (by simp[Gh.eL])) (by simp[Gh.eL];exact(l.low id f).2) (λk hk _=>Vt hk) (by simp) rfl rfl rfl ?_;refine⟨by simp[Gh.eL,g1],by simp[Gh.eL,g2],M,k6 c (G.base id+off*i.size+len*i.size) d,pre++vs.take (off*i.size),(vs.drop (off*i.size)).take (len*i.size)++d,
          (vs++post).drop (off*i.size+(len*i.size+d.length)),?_,?_,?_,?_,y.mono hle,L⟩
         ·have: (G.eL id (G.bb id) (G.base id+off*i.size) (G.eC id-off*i.size)).bb id=G.bb id:=by simp[Gh.eL]
          rw[this];exact uH (l.low id f).2
         ·rw[GL _ _ _ (by omega),mr,<-J,aiO];rw[axw,adP (by omega:pre.length<=pre.length+(off*i.size+len*i.size)),ag6,atd (by omega)];rw[aiO pre.length,auL,ag5 (by omega:pre.length<=pre.length+(off*i.size+len*i.size+d.length)),ag6,ag8];rw[List.take_add];simp[aiO]
         ·simp[Gh.eL,J];omega
         ·simp[Gh.eL,N];omega
        ·refine⟨f,by simp[Gh.eL,g1],ad,cap,rfl,⟨A,d1.2⟩,by simp,λ_=>⟨by simp[Gh.eL,g2],λ_=>by simp[Gh.eL,V5],by simp[Gh.eL];omega⟩⟩
       ·rw[GX C z H p (by omega) hold hb c6];have hg:=azI w (len+ys.length) cap e;have hle:=G.VY id w.heap.size 0 (grownCap w (len+ys.length) cap e*i.size);have V7:=(l.low id f).2;refine⟨G.eL id w.heap.size 0 (grownCap w (len+ys.length) cap e*i.size),_,_,rfl,hle,?_,?_,.eL he hrefs⟩
        ·refine l.set f _ _ hle rfl rfl (λj _ q=>by simp[Gh.eL,q]) (.inr (by simp[Gh.eL])) (by simp[Gh.eL]) (λk hk yk=>heap_alloc_old w.drew _ k yk) (by simp) rfl rfl rfl ?_;refine⟨by simp[Gh.eL,g1],by simp[Gh.eL,g2],M,((vs.drop (off*i.size)).take (len*i.size)).toArray++d.toArray++Builtin.zeroCells z'.cells (grownCap w (len+ys.length) cap e- (len+ys.length)),[],(vs.drop (off*i.size)).take (len*i.size)++d,(Builtin.zeroCells z'.cells (grownCap w (len+ys.length) cap e- (len+ys.length))).toList,?_,?_,by simp[Gh.eL],?_,y.mono hle,L⟩
         ·have: (G.eL id w.heap.size 0 (grownCap w (len+ys.length) cap e*i.size)).bb id=w.heap.size:=by simp[Gh.eL]
          rw[this];exact aoT w.drew _
         ·simp
         ·have hvn: ((vs.drop (off*i.size)).take (len*i.size)).length=len*i.size:=by simp;omega
          simp only[aB1,aA1,aBX,F,hvn,I,Gh.eL,afK];rw[<-aon,<-aon,akO];congr 1;omega
        ·refine⟨f,by simp[Gh.eL,g1],_,_,rfl,⟨hg,rfl⟩,by simp,λ_=>⟨by simp[Gh.eL,g2],λ_=>by simp[Gh.eL],by simp[Gh.eL]⟩⟩
    ·cases h
   ·cases h
  ·cases h
 grind
end
section
variable{P:Program}{X:Ctx}{B:Nat}{aw:World}
variable{G:Gh}{E:AS}{w:World}
def anH(g:aZ P B aw G E w){d ty i:TypeId}{bytes:Nat}(y:P.underlying t=some (.slice e))(c:P.underlying d=some (.slice i))(u:cx P e=some sz)(r:x9 P e=some bytes)(l: (iq P e).isSome=true)(q:0<bytes)
  {s v x:AV} {s' f:Value} {ys:List (List AV)} {j:AS} (o:an G s s') (n:an G x f) (m:elems E sz x=some ys) (h:dL E e sz bytes s ys=some (v,j)):
  mn P B aw G E v j ((Builtin.append_ #[t,d] ty #[s',f]).run P w):=by
 obtain⟨vs,p,k,hu,b,⟨a,cap,rfl,_⟩,A⟩:=VN g n m;refine anA g y u r l q o p k ⟨by rfl,λw' z=>?_,.inl ⟨i,c⟩⟩ h
 grind
def anI(l:lB):br G (l.map λx=>[AV.int .u8 x.toNat]) (l.map λx=>Value.int .u8 x.toNat):=by
 induction l with
 |nil=>rfl
 |cons x xs a=>exact⟨[_],_,rfl,by simp[aF,an],a⟩
def V8{a:EK}(h:Au P t=some a): ∃u,P.underlying t=some u/\kindOk a u/\ (a= .bool\/a= .int\/a= .str):=by
 unfold Au at h;split at h
 ·rename_i hu;cases h;exact⟨_,hu,rfl,.inl rfl⟩
 ·rename_i hu;cases h;exact⟨_,hu,⟨_,rfl⟩,.inr (.inl rfl)⟩
 ·rename_i hu;cases h;exact⟨_,hu,rfl,.inr (.inr rfl)⟩
 grind
def V9{a:EK}{k:AV}(h:kY a k=true):isKey k=true:=by
 cases a<;>cases k<;>simp[kY]at h<;>rfl
def GZ{g:EK}{u:TypeDesc}{k d:AV}{k' a:Value}{b:Bool}(j:kY g k=true)(i:kindOk g u)(m:an G k k')(l:an G d a)(h:oR k d=some b):
  Instr.sameNow u k' a=some b/\ (b=true->Instr.sameBits 10000 a k'=true):=by
 unfold oR at h;split at h
 ·split at h
  ·rename_i e;subst e;cases h;subst m l;cases g<;>simp[kY]at j;obtain⟨q,rfl⟩:=i;refine⟨by simp[Instr.sameNow],λf=>?_⟩;have c:=eq_of_beq f;subst c;simp[Instr.sameBits]
  grind
 ·cases h;subst m l;cases g<;>simp[kY]at j;subst i;refine⟨by rfl,λf=>?_⟩;rw[beq_toListBytes]at f;have c:=eq_of_beq f;simp only[Instr.sameBits];rw[beq_toListBytes,c];simp
 ·cases h;subst m l;cases g<;>simp[kY]at j;simp only[kindOk]at i;subst i;refine⟨by rfl,λf=>?_⟩;have c:=eq_of_beq f;subst c;simp[Instr.sameBits]
 grind
theorem Nc{g:EK}{u:TypeDesc}{k:AV}{k':Value}(d:kY g k=true)(c:kindOk g u)(e:an G k k'): ∀ (es:List (AV×AV)) (ms:List MapEntry) (i:Nat) (r:Option AV),gg G es ms->eB k es=some r->
  match r with
  |none=>Instr.findNow u k' ms i=some none
  |some v=> ∃j v',Instr.findNow u k' ms i=some (some (j,v'))/\an G v v'
 | [],ms,i,r,hm,h=>by
   subst hm;simp only[eB,adF]at h;subst h;simp[Instr.findNow]
 | (k₂,f)::es,ms,i,r,hm,h=>by
   obtain⟨m,q,rfl,_,a,b,hm⟩:=hm;simp only[eB]at h;split at h
   ·rename_i he;cases h;have:=(GZ d c e a he).1;exact⟨i,m.val,by simp[Instr.findNow,this],b⟩
   ·rename_i he;have n:=(GZ d c e a he).1;have l:=Nc d c e es q (i+1) r hm h;cases r with
    |none=>simpa[Instr.findNow,n]using l
    |some v=>simpa[Instr.findNow,n]using l
   grind
def anJ{u:TypeDesc}(h:P.underlying t=some u)(a:u= .bool\/ (∃k,u= .int k)\/u= .string)(b:Bool)(n:Nat)(v:Value)(w:World): (Instr.checkKey b (n+1) t v).run P w= .ok () w:=by
 rcases a with rfl| ⟨q,rfl⟩|rfl<;>simp[Instr.checkKey,adL h]
def Nd{a:EK}{u:TypeDesc}(h:P.underlying t=some u)(d:kindOk a u)(c:a= .bool\/a= .int\/a= .str)(b:Bool)(v:Value)(w:World): (Instr.checkKey b 10000 t v).run P w= .ok () w:=by
 refine anJ h ?_ b 9999 v w;rcases c with rfl|rfl|rfl
 ·exact .inl d
 ·exact .inr (.inl d)
 ·exact .inr (.inr d)
def anK(O:aZ P B aw G E w){X:Ctx}(R:fQ X B aw){M J:TypeId}{N:EK}{z:AV}(I:P.underlying t=some (.map M J))(T:Au P M=some N)(S:ya P J=some z){m k v:AV}{m' k':Value}{d:Bool}(y:an G m m')(Q:an G k k')
  (h:jJ X.gl E N z m k d=some v): ∃v',(Instr.lookup t m' k' d).run P w= .ok v' w/\an G v v':=by
 obtain⟨u,hu,o,H⟩:=V8 T;obtain⟨K,V,_,rz⟩:=MW S G w;unfold jJ at h;split at h
 ·rename_i n;split at h
  ·rename_i es a;obtain⟨c,ms,F,A,f⟩: ∃ (c:List (AV×AV)) (ms:Array MapEntry),(m'= .map none/\ms= #[]\/ ∃r clock,m'= .map (some r)/\w.heap[r]?=some (.map ms clock))/\gg G c ms.toList/\ ∀k v,eB k es=some v->eB k c=some v:=by
    unfold mapOf at a;split at a
    ·cases a;simp only[an]at y;subst y;exact⟨[],#[],.inl ⟨rfl,rfl⟩,by simp[gg],λ_ _ h=>h⟩
    ·rename_i g;obtain⟨c,r,ms,clock,e1,Z,e3,Y⟩:=R.amN O a y;exact⟨c,ms,.inr ⟨r,clock,e1,Z⟩,e3,Y⟩
    ·rename_i id;split at a
     ·rename_i c he;cases a;obtain⟨U,ms,clock,C,i⟩:=O.obj id _ he y.GJ;simp only[an]at y;obtain⟨_,r,rfl,D⟩:=y;have W:=D U;subst W;exact⟨_,ms,.inr ⟨_,clock,rfl,C⟩,i,λ_ _ h=>h⟩
     ·cases a
    ·cases a
   have ai: ∀ (r:Option (Nat×Value)) (v:Value),Instr.findNow u k' ms.toList 0=some r->(match r with|some (_,x)=>v=x|none=>(zeroValue J).run P w= .ok v w)->
     (Instr.lookup t m' k' d).run P w= .ok (if d then .tuple #[v,.bool r.isSome]else v) w:=by
    intro r v l i;have s:=λb=>Nd hu o H b k' w
    rcases F with⟨rfl,rfl⟩| ⟨q,clock,rfl,C⟩
    ·cases r with
     |none=>simp only at i;cases d<;>simp[Instr.lookup,adL I,s,Instr.findKey,adL hu]<;>(simp at l;simp[l,i])
     |some p=>obtain⟨j,x⟩:=p;simp only at i;subst i;simp[Instr.findNow]at l
    ·cases r with
     |none=>simp only at i;cases d<;>simp[Instr.lookup,adL I,s,Instr.findKey,adL hu,i,getObj,Sem.run,C,l]
     |some p=>obtain⟨j,x⟩:=p;simp only at i;subst i;cases d<;>simp[Instr.lookup,adL I,s,Instr.findKey,adL hu,getObj,Sem.run,C,l]
   split at h
   ·rename_i L l;cases h;obtain⟨j,v',e,rv⟩:=Nc n o Q c ms.toList 0 _ A (f _ _ l);refine⟨if d then .tuple #[v',.bool true]else v',?_,?_⟩
    ·exact ai _ _ e rfl
    ·cases d
     ·exact rv
     ·exact⟨_,rfl,⟨_,_,rfl,rv,⟨_,_,rfl,by simp[an],by simp[aF]⟩⟩⟩
   ·rename_i l;cases h;have e:=Nc n o Q c ms.toList 0 _ A (f _ _ l);refine⟨if d then .tuple #[K,.bool false]else K,?_,?_⟩
    ·exact ai _ _ e V
    ·cases d
     ·exact rz
     ·exact⟨_,rfl,⟨_,_,rfl,rz,⟨_,_,rfl,by simp[an],by simp[aF]⟩⟩⟩
   grind
  grind
 grind
theorem Wa{x:EK}{u:TypeDesc}{k v:AV}{k' v':Value}(g:kY x k=true)(r:kindOk x u)(n:an G k k')(p:an G v v'): ∀ (es b:List (AV×AV)) (ms:List MapEntry) (i:Nat),gg G es ms->lS k v es=some b->
  (Instr.findNow u k' ms i=some none/\ ∀born,gg G b (ms++[{key:=k',val:=v',born}]))\/
  ∃j a m,Instr.findNow u k' ms i=some (some (i+j,a))/\ms[j]?=some m/\Instr.sameBits 10000 m.key k'=true/\gg G b (ms.modify j λe=>{e with key:=k',val:=v'})
 | [],b,ms,i,hm,h=>by
   subst hm;simp only[lS,adF]at h;subst h;exact .inl ⟨by rfl,λborn=>⟨_,_,rfl,V9 g,n,p,by rfl⟩⟩
 | (k₂,t)::es,b,ms,i,hm,h=>by
   simp only[gg]at hm;obtain⟨m,q,rfl,l,c,f,hm⟩:=hm;simp only[lS]at h;split at h
   ·rename_i he;cases h;obtain⟨o,z⟩:=GZ g r n c he;refine .inr ⟨0,m.val,m,by simp[Instr.findNow,o],rfl,z rfl,?_⟩;exact⟨_,_,rfl,V9 g,n,p,hm⟩
   ·rename_i he;obtain⟨o,_⟩:=GZ g r n c he;cases y:lS k v es with
    |none=>grind
    |some d=>
     simp only[y,afo,adF]at h;subst h;rcases Wa g r n p es d q (i+1) hm y with⟨e1,s⟩| ⟨j,a,m',e1,s,e3,A⟩
     ·refine .inl ⟨by simpa[Instr.findNow,o]using e1,λborn=>⟨_,_,rfl,l,c,f,s born⟩⟩
     ·refine .inr ⟨j+1,a,m',?_,by simpa using s,e3,?_⟩
      ·simp only[Instr.findNow,o];rw[e1];congr 3;omega
      ·simp only[List.modify_succ_cons];exact⟨_,_,rfl,l,c,f,A⟩
   grind
theorem Wb{k v:AV}{n:Nat}: ∀ {es a:List (AV×AV)},lS k v es=some a->(∀p∈es,p.2.refs<=n)->v.refs<=n-> ∀p∈a,p.2.refs<=n
 | [],a,h,_,f=>by
   simp only[lS,adF]at h;grind
 | (k₂,e)::es,a,h,c,f=>by
   simp only[lS]at h;split at h
   ·grind
   ·cases g:lS k v es with
    |none=>grind
    |some d=>
     simp only[g,afo,adF]at h;subst h;intro p b;rcases afJ.1 b with rfl|b
     ·simp_all
     ·exact Wb g (λp h=>c p (by grind)) f p b
   grind
def anL(d:aZ P B aw G E w){A O:TypeId}{C:EK}(H:P.underlying t=some (.map A O))(N:Au P A=some C){m k v:AV}{m' k':Value}{I:AS}(o:an G m m')(M:an G k k')(J:an G v v')
  (h:ml E C m k v=some I):AD P B aw G E I ((Instr.mapUpdate t m' k' v').run P w):=by
 obtain⟨u,hu,b,g⟩:=V8 N;unfold ml at h;split at h
 ·rename_i i;split at h
  ·rename_i id;split at h
   ·rename_i es he;split at h
    ·rename_i l D;cases h;obtain⟨s,ms,clock,F,K⟩:=d.obj id _ he o.GJ;have c:G.on id:=⟨by rw[d.len];grind,o.GJ⟩;simp only[an]at o;obtain⟨_,r,rfl,q⟩:=o;rw[q s];have a:E.Ext (E.set id (.map l) v.refs):=.set he λn L p=>Wb D L p
     have f:=(d.low id c).2;rcases Wa i b M J es l ms.toList 0 K D with⟨e1,y⟩| ⟨j,z,m',e1,y,e3,Q⟩
     ·refine⟨G,fa w (G.bb id) (.map (ms.push {key:=k',val:=v',born:=clock}) (clock+1)),?_,G.le_refl,d.put c _ ⟨s,_,_,uH f,by simpa using y clock⟩,a⟩;simp[Instr.mapUpdate,adL H,getObj,setObj,Sem.run,F,Nd hu b g,Instr.findKey,adL hu,e1,fa]
     ·rw[akO]at e1;have x:ms[j]?=some m':=by simpa using y
      refine⟨G,fa w (G.bb id) (.map (ms.modify j λe=>{e with key:=k',val:=v'}) clock),?_,G.le_refl,d.put c _ ⟨s,_,_,uH f,by simpa using Q⟩,a⟩;simp[Instr.mapUpdate,adL H,getObj,setObj,Sem.run,F,Nd hu b g,Instr.findKey,adL hu,e1,fa,Instr.keyThatStays,x,e3]
    grind
   grind
  grind
 grind
end
section
variable{P:Program}{X:Ctx}{B:Nat}{aw:World}
variable{G:Gh}{E:AS}{w:World}
def Nf{a a':Addr}{b:List Value}(h:b=[]\/a=a'):storeCells a b=storeCells a' b:=by
 rcases h with rfl|rfl
 ·rfl
 ·rfl
def Wc{af:List (List AV)}:ca (af.take n)<=ca af:=by
 induction af generalizing n with
 |nil=>simp
 |cons x xs a=>
  cases n with
  |zero=>simp[ca]
  |succ n=>simp only[apY,ca];grind
def Wd(f:aZ P B aw G E w){id:Nat}{ty:TypeId}{af b:List (List AV)}(g:E.heap[id]?=some (.row aj sz ty af))(e:G.pz id=none){d:List Value}{off:Nat}(m:br G b d)(i:Leaves d)(k: ∀el∈b,el.length=sz)(h:off+b.length<=af.length)
  {refs:Nat} (l:ca b<=refs) {a:Addr} (p:d=[]\/a=⟨G.bb id,G.base id+off*sz,none⟩):
  AD P B aw G E (E.set id (.row aj sz ty (af.take off++(b++af.drop (off+b.length)))) refs) ((storeCells a d).run P w):=by
 rw[Nf p];obtain⟨_,_,c,_⟩:=f.obj id _ g e;have n:=oU c;have j:=oU k;have hm:off*sz+b.length*sz<=af.length*sz:=by rw[<-aon];exact alo _ h
 refine VU f g e (br.iff.1 m) i (by omega) (λel o=>?_) ?_ (by rw[<-wj];exact l)
 ·grind
 ·rw[anE,anE,GP c,MT c];unfold aO
  grind
def anM(r:aZ P B aw G E w){st ty:TypeId}(I:P.underlying t=some (.slice e))(h2:cx P e=some sz){d s v:AV}{J s':Value}{E':AS}(u:an G d J)(M:an G s s')(h:r6 E sz d s=some (v,E')):
  mn P B aw G E v E' ((Builtin.copy_ #[t,st] ty #[J,s']).run P w):=by
 obtain⟨i,hi,rfl⟩:=VW h2;unfold r6 at h;split at h
 ·rename_i ys q;have src: ∃vs,br G ys vs/\Leaves vs/\ (∀el∈ys,el.length=i.size)/\ (Builtin.lenOf s').run P w= .ok ys.length w/\ ∀n,n<=ys.length->(Builtin.firstCells i.size n s').run P w= .ok (vs.take (n*i.size)).toArray w:=by
   unfold CP at q;split at q
   ·rename_i b;split at q
    ·rename_i I;cases q;simp only[an]at M;subst M;refine⟨b.data.toList.map λx=>Value.int .u8 x.toNat,anI _,?_,?_,by simp[Builtin.lenOf,rZ],λn Z=>?_⟩
     ·intro v Y;simp only[afq]at Y;obtain⟨x,_,rfl⟩:=Y;rfl
     ·intro el f;simp only[rZ,afq]at f;obtain⟨x,_,rfl⟩:=f;rw[I];rfl
     ·rw[I];simp only[Builtin.firstCells,Sem.run_pure]
      congr 1
      apply apK;simp[]
    ·cases q
   ·obtain⟨vs,H,D,hu,F,⟨a,cap,rfl,_⟩,R⟩:=VN r M q;exact⟨vs,H,D,hu,by simp[Builtin.lenOf],λn Z=>R w rfl n Z⟩
  obtain⟨vs,H,D,hu,Q,R⟩:=src;have key: ∀ (base:Option Addr) (c m:Nat),J= .slice base c m->(Builtin.copy_ #[t,st] ty #[J,s']).run P w=
    ((match base with|some b=>storeCells b (vs.take (Nat.min ys.length c*i.size))|none=>pure ():Sem Unit).run P w).andThen λ_ w'=>.ok (goInt (Nat.min ys.length c)) w':=by
   rintro base c m rfl;have:=R (Nat.min ys.length c) (Nat.min_le_left _ _);cases base<;>simp[Builtin.copy_,adL I,Q,sizeOf,typeInfo,hi,this]
  split at h
  ·cases h;simp only[an]at u;rw[key none 0 0 u];exact⟨G,w,_,rfl,G.le_refl,r,by simp[an,goInt],.refl E⟩
  ·rename_i id aj K off len cF;split at h
   ·rename_i V L ty' af he;split at h
    ·rename_i S;obtain⟨T,c2,c3,c4⟩:=S;subst T c2 c3;cases h;simp only[an]at u;obtain⟨g,W,C,k,e1,d1,d2,d3⟩:=u;obtain⟨f1,f2,f3⟩:=d3 (r.obj id _ he g.2).1;rw[key (some C) len k e1];have O:Nat.min ys.length len<=ys.length:=Nat.min_le_left ys.length len;have A:Nat.min ys.length len<=len:=Nat.min_le_right ys.length len;have y: (ys.take (Nat.min ys.length len)).length=Nat.min ys.length len:=by rw[afC];omega
     have p:br G (ys.take (Nat.min ys.length len)) (vs.take (Nat.min ys.length len*i.size)):=by
      have:=H.slice (l:=0) (n:=Nat.min ys.length len) hu;simpa using this
     obtain⟨U,w',N,hle,o,j⟩:=Wd r he g.2 p (D.take _) (λel f=>hu el (ag9 f)) (off:=off) (by omega) (refs:=ca ys) Wc (a:=C) (by
      by_cases h0:len=0
      ·left;have:Nat.min ys.length len=0:=by omega
       rw[this];simp
      ·right;rw[f2 (by omega)])
     rw[N,y]at*;exact⟨U,w',_,rfl,hle,o,by simp[an,goInt],j⟩
    ·cases h
   ·cases h
  ·rename_i id L off len;split at h
   ·rename_i cs he;split at h
    ·rename_i S;obtain⟨T,c2,c3⟩:=S;subst T;cases h;simp only[an]at u;obtain⟨g,C,k,e1,d1,d2⟩:=u;rw[key (some C) len k e1];have O:Nat.min ys.length len<=ys.length:=Nat.min_le_left ys.length len;have A:Nat.min ys.length len<=len:=Nat.min_le_right ys.length len;have y: (ys.take (Nat.min ys.length len)).flatten.length=Nat.min ys.length len*i.size:=by rw[oU λel f=>hu el (ag9 f),afC];congr 1;omega
     have p:aF G (ys.take (Nat.min ys.length len)).flatten (vs.take (Nat.min ys.length len*i.size)):=by
      rw[GP hu];exact(br.iff.1 H).take _
     have hmm:Nat.min ys.length len*i.size<=len*i.size:=alo _ A;have z:=M7 r he g.2 p (D.take _) (off:=off) (by omega) (refs:=ca ys) (by rw[<-wj];exact Wc);simp only;rw[Nf (a:=C) (a':=⟨G.bb id,off,none⟩) (by
      by_cases h0:len=0
      ·left;have:Nat.min ys.length len=0:=by omega
       rw[this];simp
      ·right;exact d2 (Az r he g.2).1 (by omega))]
     obtain⟨U,w',N,hle,o,j⟩:=z;rw[N];exact⟨U,w',_,rfl,hle,o,by simp[an,goInt],j⟩
    ·cases h
   ·cases h
  grind
 grind
def anN(zc:Array Value)(k:Nat): (Builtin.zeroCells zc k).toList=(List.replicate k zc.toList).flatten:=by
 unfold Builtin.zeroCells;rw[Array.toList_map,Array.toList_range];by_cases a:0<zc.size
 ·exact GV zc a k
 simp_all
def anO(l:aZ P B aw G E w){ty:TypeId}{z:List AV}(v:P.underlying t=some (.slice e))(Q:iq P e=some z){x:AV}{p:Value}{K:AS}(j:an G x p)(h:r7 E z x=some K):
  mn P B aw G E .undef K ((Builtin.clear_ #[t] ty #[p]).run P w):=by
 obtain⟨D,R,_,lz,k,_⟩:=sc Q G w;have key: ∀ (a:Addr) (n c:Nat),p= .slice (some a) n c->(Builtin.clear_ #[t] ty #[p]).run P w=
   ((storeCells a (List.replicate n D.cells.toList).flatten).run P w).andThen λ_ w'=>.ok (.tuple #[]) w':=by
  rintro a n c rfl;cases n with
  |zero=>simp[Builtin.clear_,adL v,storeCells]
  |succ n=>
   have:=anN D.cells (n+1);simp only[Builtin.clear_];simp[adL v,R,<-this]
 unfold r7 at h;split at h
 ·cases h;simp only[an]at j;subst j;exact⟨G,w,.tuple #[],by simp[Builtin.clear_,adL v],G.le_refl,l,⟨_,rfl,by simp[aF]⟩,.refl E⟩
 ·rename_i id aj q off len cF;split at h
  ·rename_i F M L af he;split at h
   ·rename_i u;obtain⟨A,J,I,S,T⟩:=u;subst A J I;cases h;simp only[an]at j;obtain⟨d,H,o,f,e1,d1,d2,d3⟩:=j;obtain⟨f1,f2,f3⟩:=d3 (l.obj id _ he d.2).1;rw[key o len f e1];obtain⟨C,w',s,hle,g,b⟩:=Wd l he d.2 (C3 lz len) (GW k len) (λel i=>by rw[aqI i]) (off:=off) (by simpa using S) (refs:=0) (by
      rw[wj];have: ∀n,aL (List.replicate n z).flatten<=0:=by
       intro n
       induction n with
       |zero=>simp[aL]
       |succ n N=>simp only[aqA,an8,uK];omega
      exact this len) (a:=o) (by
     by_cases y:len=0
     ·left;rw[y];simp
     ·right;rw[f2 (by omega)])
    rw[s];rw[List.length_replicate]at g b;exact⟨C,w',_,rfl,hle,g,⟨_,rfl,by simp[aF]⟩,b⟩
   ·cases h
  ·cases h
 ·rename_i id sz off len;split at h
  ·rename_i cs he;split at h
   ·rename_i u;obtain⟨A,J,I⟩:=u;subst A;cases h;simp only[an]at j;obtain⟨d,o,f,e1,d1,d2⟩:=j;rw[key o len f e1];have r:=C3 lz len;have O: (List.replicate len z).flatten.length=len*z.length:=by rw[oU (sz:=z.length) λel i=>by rw[aqI i]];simp
    have m:=M7 l he d.2 (br.iff.1 r) (GW k len) (off:=off) (by omega) (refs:=0) (by
     have: ∀n,aL (List.replicate n z).flatten<=0:=by
      intro n
      induction n with
      |zero=>simp[aL]
      |succ n N=>simp only[aqA,an8,uK];omega
     exact this len)
    rw[Nf (a:=o) (a':=⟨G.bb id,off,none⟩) (by
     by_cases y:len=0
     ·left;rw[y];simp
     ·right;exact d2 (Az l he d.2).1 (by omega))]
    obtain⟨C,w',s,hle,g,b⟩:=m;rw[s];exact⟨C,w',_,rfl,hle,g,⟨_,rfl,by simp[aF]⟩,b⟩
   ·cases h
  ·cases h
 grind
def aBT(d:P.cellsOf e=1)(a off n:Nat)(c:off+n<=a):liesAt P P.depth e a off e n=true:=by
 have b:P.depth=(2*(P.types.size+Made.depth)+1)+1:=rfl;rw[b];simp only[liesAt,anV];rw[b];simp[rowAt,d,c,sameLayout,Nat.mod_one]
theorem anP{w:World}: ∀ (a:List Int) (b o:Nat) (acc:ByteArray),(∀ (j:Nat) (u:Value),(a.map (Value.int .u8))[j]?=some u->w.cell? ⟨b,o+j,none⟩=some u)->
  (loadBytes ⟨b,o,none⟩ acc a.length).run P w= .ok ⟨acc.data++(a.map λn=>UInt8.ofNat n.toNat).toArray⟩ w
 | [],b,o,acc,_=>by rfl
 |n::a,b,o,acc,h=>by
  have c:w.cell? ⟨b,o,none⟩=some (.int .u8 n):=by
   have:=h 0 (.int .u8 n) rfl;omega
  have d:=anP a b (o+1) (acc.push n.toNat.toUInt8) (λj u e=>by
   have:=h (j+1) u (by grind);rw[show o+1+j=o+(j+1) by omega];omega)
  simp only[afx,loadBytes,Sem.run_bind,run_load,c,Result.andThen_ok,jL];simp_all
def aBU(w:World)(a:Addr)(n:Nat): (w.freeze a n).heap.size=w.heap.size:=by
 unfold World.freeze;grind
def aBV{w:World}{a:Addr}(h:k≠a.block): (w.freeze a n).heap[k]?=w.heap[k]?:=by
 unfold World.freeze
 grind
def aBW(w:World)(a:Addr)(n:Nat): (w.freeze a n).os=w.os/\ (w.freeze a n).tape=w.tape/\ (w.freeze a n).output=w.output:=by
 unfold World.freeze;grind
end
section
variable{P:Program}{X:Ctx}{B:Nat}{aw:World}
variable{G:Gh}{E:AS}{w:World}
def fR{s:Sem Value}{v:AV}(hw:aZ P B aw G E w)(h: ∃v',s.run P w= .ok v' w/\an G v v'):Good P B aw G E v E ((do pure (.value (<-s)):Sem Next).run P w):=by
 obtain⟨v',e,r⟩:=h;simp only[Sem.run_bind,e,Result.andThen_ok,Sem.run_pure];exact .same hw r
def se{s:Sem Value}{v:AV}{b:AS}(h:mn P B aw G E v b (s.run P w)):Good P B aw G E v b ((do pure (.value (<-s)):Sem Next).run P w):=by
 obtain⟨i,w',v',e,g,f,d,c⟩:=h;simp only[Sem.run_bind,e,Result.andThen_ok,Sem.run_pure];exact⟨i,w',v',.inl rfl,g,f,d,c⟩
def We{s:Sem Unit}{b:AS}(h:AD P B aw G E b (s.run P w)):Good P B aw G E .undef b ((do s;pure .skip:Sem Next).run P w):=by
 obtain⟨g,w',e,f,d,c⟩:=h;simp only[Sem.run_bind,e,Result.andThen_ok,Sem.run_pure];exact⟨g,w',undef,.inr ⟨rfl,rfl⟩,f,d,⟨#[],rfl,by rfl⟩,c⟩
def eD{E b:AS}{o:Option AV}{v:AV}(h:gn E o=some (.ok v b)):o=some v/\b=E:=by
 cases o with
 |none=>trivial
 |some a=>simp[gn]at h;grind
def yl{e:Env}(he:cK G nt e a.tmps){x:Option Operand}{y:Option aq}(h:uE x=some y):lY G (y.map (·.get e)) (x.map a.eval):=by
 cases x with
 |none=>simp only[uE,adF]at h;subst h;simp[lY]
 |some x=>
  simp only[uE]at h;cases b:bJ x with
  |none=>grind
  |some z=>simp[b]at h;subst h;exact⟨_,rfl,cA he b⟩
def Wg{x:Option Operand}{y:Option aq}(h:uE x=some y):y.isNone=x.isNone:=by
 cases x with
 |none=>simp only[uE,adF]at h;grind
 |some x=>
  simp only[uE]at h;cases b:bJ x with
  |none=>grind
  |some z=>grind
def I.plain:I->Bool
 |.call .. |.panic _=>false
 |_=>true
section
variable(hw:aZ P B aw G E w)(hg:fQ X B aw){nt:Nat}{e:Env}{a:Act}(he:cK G nt e a.tmps)(C:bA)
include hw hg he
omit hg in
theorem anQ{f:TypeId}{c:Call}{i:I}(h:CT P f c=some i)(T:i.plain=true){v:AV}{Q:AS}(j:exec X C i e E=some (.ok v Q)):
  Good P B aw G E v Q ((do let d<-resolve a.eval c f;invoke d.target d.args:Sem Next).run P w):=by
 obtain⟨callee,args,argTypes⟩:=c;unfold CT at h;split at h
 case h_1=>
  split at h
  ·cases h;simp[I.plain]at T
  ·cases h
 case h_2 t x l n o=>
  simp only at l n o;subst l;have q:args= #[x]:=by apply apK;simpa using o
  have p:argTypes= #[t]:=by apply apK;simpa using n
  subst q p;have g: (do let d<-resolve a.eval ⟨.builtin .len,#[x],#[t]⟩ f;invoke d.target d.args:Sem Next)=(do pure (.value (<-Builtin.len_ #[t] f ((#[x]:Array Operand).map a.eval)))):=rfl;rw[g,show(#[x]:Array Operand).map a.eval= #[a.eval x] by simp];split at h
  ·rename_i hu;cases ho:bJ x with
   |none=>simp[ho]at h
   |some y=>
    simp only[ho,afo,adF]at h;subst h;obtain⟨m,rfl⟩:=eD j;exact fR hw (MZ (k:=.str) hw hu rfl (cA he ho) m)
  ·rename_i hu;cases ho:bJ x with
   |none=>simp[ho]at h
   |some y=>
    simp only[ho,afo,adF]at h;subst h;obtain⟨m,rfl⟩:=eD j;exact fR hw (MZ (k:=.sl) hw hu ⟨_,rfl⟩ (cA he ho) m)
  ·rename_i hu;cases ho:bJ x with
   |none=>simp[ho]at h
   |some y=>
    simp only[ho,afo,adF]at h;subst h;obtain⟨m,rfl⟩:=eD j;exact fR hw (MZ (k:=.map) hw hu ⟨_,_,rfl⟩ (cA he ho) m)
  ·cases h
 case h_3 st A s x l n o=>
  simp only at l n o;subst l;have q:args= #[s,x]:=by apply apK;simpa using o
  have p:argTypes= #[st,A]:=by apply apK;simpa using n
  subst q p;have g: (do let d<-resolve a.eval ⟨.builtin .append,#[s,x],#[st,A]⟩ f;invoke d.target d.args:Sem Next)=(do pure (.value (<-Builtin.append_ #[st,A] f ((#[s,x]:Array Operand).map a.eval)))):=rfl;rw[g,show(#[s,x]:Array Operand).map a.eval= #[a.eval s,a.eval x] by simp];split at h
  ·rename_i el hu;split at h
   ·rename_i sz b R W K J H F;split at h
    ·rename_i V D;split at h
     ·rename_i O;cases h;simp only[exec]at j;split at j
      ·rename_i ys S;split at j
       ·rename_i v' u L;cases j;exact se (anH hw hu D K J O.2 O.1 (cA he H) (cA he F) S L)
       ·cases j
      ·cases j
     ·cases h
    ·cases h
   ·cases h
  ·cases h
 case h_4 N st d s l n o=>
  simp only at l n o;subst l;have q:args= #[d,s]:=by apply apK;simpa using o
  have p:argTypes= #[N,st]:=by apply apK;simpa using n
  subst q p;have g: (do let d<-resolve a.eval ⟨.builtin .copy,#[d,s],#[N,st]⟩ f;invoke d.target d.args:Sem Next)=(do pure (.value (<-Builtin.copy_ #[N,st] f ((#[d,s]:Array Operand).map a.eval)))):=rfl;rw[g,show(#[d,s]:Array Operand).map a.eval= #[a.eval d,a.eval s] by simp];split at h
  ·rename_i el hu;split at h
   ·rename_i sz Y R m M U;cases h;simp only[exec]at j;split at j
    ·rename_i v' u r;cases j;exact se (anM hw hu m (cA he M) (cA he U) r)
    ·cases j
   ·cases h
  ·cases h
 case h_5 t x l n o=>
  simp only at l n o;subst l;have q:args= #[x]:=by apply apK;simpa using o
  have p:argTypes= #[t]:=by apply apK;simpa using n
  subst q p;have g: (do let d<-resolve a.eval ⟨.builtin .clear,#[x],#[t]⟩ f;invoke d.target d.args:Sem Next)=(do pure (.value (<-Builtin.clear_ #[t] f ((#[x]:Array Operand).map a.eval)))):=rfl;rw[g,show(#[x]:Array Operand).map a.eval= #[a.eval x] by simp];split at h
  ·rename_i el hu;split at h
   ·rename_i z y m M;cases h;simp only[exec]at j;split at j
    ·rename_i u r;cases j;exact se (anO hw hu m (cA he M) r)
    ·cases j
   ·cases h
  ·cases h
 case h_6 xs l=>
  simp only at l;subst l;have g: (do let d<-resolve a.eval ⟨.builtin .max,args,argTypes⟩ f;invoke d.target d.args:Sem Next)=(do pure (.value (<-Builtin.max_ argTypes f (args.map a.eval)))):=rfl;rw[g];split at h
  ·cases ho:nP args.toList with
   |none=>simp[ho]at h
   |some ys=>
    simp only[ho,afo,adF]at h;subst h;obtain⟨m,rfl⟩:=eD j;exact fR hw (anj (by simpa using yf he ho) m w)
  ·cases h
 case h_7 xs l=>
  simp only at l;subst l;have g: (do let d<-resolve a.eval ⟨.builtin .min,args,argTypes⟩ f;invoke d.target d.args:Sem Next)=(do pure (.value (<-Builtin.min_ argTypes f (args.map a.eval)))):=rfl;rw[g];split at h
  ·cases ho:nP args.toList with
   |none=>simp[ho]at h
   |some ys=>
    simp only[ho,afo,adF]at h;subst h;obtain⟨m,rfl⟩:=eD j;exact fR hw (ank (by simpa using yf he ho) m w)
  ·cases h
 case h_8 t x l n o=>
  simp only at l n o;subst l;have q:args= #[x]:=by apply apK;simpa using o
  have p:argTypes= #[t]:=by apply apK;simpa using n
  subst q p;have g: (do let d<-resolve a.eval ⟨.builtin .cap,#[x],#[t]⟩ f;invoke d.target d.args:Sem Next)=(do pure (.value (<-Builtin.cap_ #[t] f ((#[x]:Array Operand).map a.eval)))):=rfl;rw[g,show(#[x]:Array Operand).map a.eval= #[a.eval x] by simp];split at h
  ·rename_i hu;cases ho:bJ x with
   |none=>simp[ho]at h
   |some y=>
    simp only[ho,afo,adF]at h;subst h;obtain⟨m,rfl⟩:=eD j;exact fR hw (ani hu (cA he ho) m w)
  ·cases h
 case h_9=>cases h
theorem anR{rows:Bool}{o:Oper}{i:I}(h:kZ P rows o=some i)(hp:i.plain=true){v:AV}{E':AS}(A:exec X C i e E=some (.ok v E')):Good P B aw G E v E' ((execOp a.eval o).run P w):=by
 unfold kZ at h;split at h
 case h_1 x d|h_2 x d=>
  simp only[d,execOp];cases ho:bJ x with
  |none=>simp[ho]at h
  |some y=>
   simp only[ho,afo,adF]at h;subst h;cases A;simp only[Sem.run_pure];exact .same hw (cA he ho)
 case h_3 c x y d=>
  simp only[d,execOp];split at h
  ·rename_i c' x' y' F D N;cases h;simp only[exec]at A;split at A
   ·rename_i t ht;cases A;have L:=cA he F;rw[ht]at L;simp only[an]at L;simp only[Sem.run_bind,L,asBool,Sem.run_pure,Result.andThen_ok];cases t
    ·exact .same hw (cA he N)
    ·exact .same hw (cA he D)
   ·cases A
  ·cases h
 case h_4 t d=>
  simp only[d,execOp];cases R:iq P t with
  |none=>simp[R]at h
  |some z=>
   simp only[R,afo,adF]at h;subst h;cases A;exact se (anq hw R)
 case h_5 t x d=>
  simp only[d,execOp];cases ho:bJ x with
  |none=>simp[ho]at h
  |some y=>
   simp only[ho,afo,adF]at h;subst h;simp only[exec]at A;split at A
   ·cases A
   ·rename_i ht;cases A;exact se (anr hw (λt' h=>anp h) (cA he ho) (by simpa using ht))
 case h_6 t ps d=>
  simp only[d,execOp];split at h
  ·rename_i fields z hu R;split at h
   ·rename_i uL;obtain⟨l,M,rfl⟩:=afn.1 h;simp only[exec]at A;split at A
    ·rename_i cs S;cases A;exact fR hw (anl hu R uL he M S w)
    ·cases A
   ·cases h
  ·rename_i n el z hu R;split at h
   ·rename_i sz H;cases M:parts (λi=>some (i*sz,sz)) ps.toList with
    |none=>simp[M]at h
    |some l=>
     simp only[M,afo,adF]at h;subst h;simp only[exec]at A;split at A
     ·rename_i cs S;cases A;exact fR hw (anm hu R H he M S w)
     ·cases A
   ·cases h
  ·cases h
 case h_7 t len ps d=>
  simp only[d,execOp];split at h
  ·rename_i el hu;split at h
   ·rename_i z R;split at h
    ·rename_i hc;obtain⟨Wh,Wi⟩:=hc;cases M:parts (λi=>some (i*z.length,z.length)) ps.toList with
     |none=>simp[M]at h
     |some l=>
      simp only[M,afo,adF]at h;have T: ∀k,(List.replicate k z).flatten.length=k*z.length:=λk=>by
       rw[oU (sz:=z.length) λel qG=>by rw[aqI qG]];simp
      cases rows with
      |true=>
       simp only[afK]at h;subst h;simp only[exec]at A;split at A
       ·rename_i cs S;cases A;exact se (anz hw hu R Wi Wh he M S (by rw[M9 S,T]))
       ·cases A
      |false=>
       simp only[afp,aha]at h;subst h;simp only[exec]at A;split at A
       ·rename_i cs S;cases A;exact se (anx hw hu R Wi Wh he M S (by rw[M9 S,T]))
       ·cases A
    ·cases h
   ·cases h
  ·cases h
 case h_8 t x d=>
  simp only[d,execOp];split at h
  ·rename_i b n y F D N;cases h;obtain⟨K,rfl⟩:=eD A;exact fR hw (Vy hw hg F D (cA he N) K)
  ·cases h
 case h_9 t x y d=>
  simp only[d,execOp];split at h
  ·rename_i n x' y' F D N;cases h;simp only[exec]at A;split at A
   ·rename_i Wj H;cases A;exact We (anu hw F (cA he D) (cA he N) H)
   ·cases A
  ·cases h
 case h_10 x d=>
  simp only[d,execOp];cases ho:bJ x with
  |none=>simp[ho]at h
  |some y=>
   simp only[ho,afo,adF]at h;subst h;obtain⟨K,rfl⟩:=eD A;have L:=cA he ho;obtain⟨rfl,hsh⟩:=anh L K;rcases hsh with⟨b,e1⟩| ⟨f,b,c,e1⟩| ⟨f,b,c,e1⟩<;>rw[e1]at L⊢ <;>simp only[Sem.run_pure]<;>exact .same hw L
 case h_11 op t x y g d=>
  simp only[d,execOp];split at h
  ·rename_i x' y' F D;have Q:=cA he F;have O:=cA he D;split at h
   case h_1|h_2=>
    cases h;simp only[exec]at A;split at A
    ·rename_i k p k' q e1 e2;obtain⟨K,rfl⟩:=eD A;rw[e1]at Q;rw[e2]at O;simp only[an]at Q O;rw[Q,O];refine fR hw ?_;obtain⟨v',e3,r⟩:=am4 (P:=P) (G:=G) (t:=t) (k':=k') K w;exact⟨v',by simp[eqGuard,e3],r⟩
    ·cases A
   case h_3=>
    cases W:yc P t x y with
    |none=>simp[W]at h
    |some k=>
     simp only[W,afo,adF]at h;subst h;simp only[exec]at A;split at A
     ·rename_i b hb;cases A;obtain⟨e1,e2,_,_⟩:=VL W Q O hb w;exact fR hw (CZ (by simp[e1,e2]))
     ·cases A
   case h_4=>
    cases W:yc P t x y with
    |none=>simp[W]at h
    |some k=>
     simp only[W,afo,adF]at h;subst h;simp only[exec]at A;split at A
     ·rename_i b hb;cases A;obtain⟨_,_,e1,e2⟩:=VL W Q O hb w;exact fR hw (CZ (by simp[e1,e2]))
     ·cases A
   case h_5=>
    cases h;rename_i op _ _ _ n1 n2 n3 n4 _;obtain⟨K,rfl⟩:=eD A;obtain⟨v',e3,r⟩:=VB (P:=P) (t:=t) Q O K n3 n4 w;have Z: (eqGuard op t x y (a.eval x) (a.eval y)).run P w= .ok () w:=by
     cases op<;>first|exact absurd rfl n3|exact absurd rfl n4|simp[eqGuard]
    exact fR hw ⟨v',by simp[Z,e3],r⟩
   case h_6=>
    cases h;rename_i op _ _ n3 n4 _;obtain⟨K,rfl⟩:=eD A;obtain⟨v',e3,r⟩:=VB (P:=P) (t:=t) Q O K n3 n4 w;have Z: (eqGuard op t x y (a.eval x) (a.eval y)).run P w= .ok () w:=by
     cases op<;>first|exact absurd rfl n3|exact absurd rfl n4|simp[eqGuard]
    exact fR hw ⟨v',by simp[Z,e3],r⟩
   case h_7=>cases h
  ·cases h
 case h_12 op t x d=>
  simp only[d,execOp];cases ho:bJ x with
  |none=>simp[ho]at h
  |some y=>
   simp only[ho,afo,adF]at h;subst h;obtain⟨K,rfl⟩:=eD A;exact fR hw (am5 (cA he ho) K w)
 case h_13 src dst x d=>
  simp only[d,execOp];split at h
  ·rename_i k kd y H hd ho;cases h;simp only[exec]at A;split at A
   ·rename_i k' n hn;cases A;have L:=cA he ho;rw[hn]at L;simp only[an]at L;rw[L];exact fR hw (k7 (am6 (by simp[H]) hd w))
   ·cases A
  ·rename_i el y H hd ho;split at h
   ·rename_i qG;cases h;simp only[exec]at A;split at A
    ·rename_i s hn;split at A
     ·cases A;have L:=cA he ho;rw[hn]at L;simp only[an]at L;rw[L];exact se (anw hw H hd qG s)
     ·cases A
    ·cases A
   ·cases h
  ·cases h
 case h_14 t x d=>
  simp only[d,execOp];split at h
  ·cases h
  ·cases h
  ·rename_i u U hu;cases ho:bJ x with
   |none=>simp[ho]at h
   |some y=>
    simp only[ho,afo,adF]at h;subst h;cases A;exact fR hw ⟨_,ang hu (λms e=>U ms e) _ w,⟨_,rfl,cA he ho⟩⟩
 case h_15 f first cap d=>
  simp only[d,execOp];split at h
  ·rename_i xs ys F D;split at h
   ·cases h
   ·rename_i hy;cases h;cases A;refine fR hw ⟨_,by simp only[Instr.makeFunc,Sem.run_pure];rfl,⟨f,_,_,rfl,?_,by simpa using yf he F,by simpa using yf he D⟩⟩;cases f<;>simp[Vq]at hy<;>simp[mX]
  ·cases h
 case h_16 t d=>
  simp only[d,execOp];cases h;cases A;exact se (ans hw t)
 case h_17 t l c d=>
  simp only[d,execOp];split at h
  ·rename_i el hu;split at h
   ·rename_i z b l' c' F D N K;split at h
    ·rename_i hc;cases h;simp only[exec]at A;split at A
     ·rename_i v' Wj hm;cases A;exact se (anv hw hu F D hc.1 (cA he N) (cA he K) hm)
     ·cases A
    ·cases h
   ·cases h
  ·cases h
 case h_18 t x lo hi mx d=>
  simp only[d,execOp];split at h
  ·rename_i x' ak hi' mx' F D N K;split at h
   ·rename_i hu;split at h
    ·rename_i hm;cases h;obtain⟨J,rfl⟩:=eD A;have V:mx=none:=by
      have:=Wg K;rw[hm]at this;simpa using this.symm
     subst V;exact fR hw (amX hu (cA he F) (yl he D) (yl he N) J w)
    ·cases h
   ·rename_i el hu;split at h
    ·rename_i hm;cases H:cx P el with
     |none=>simp[H]at h
     |some n=>
      simp only[H,afo,adF]at h;subst h;obtain⟨J,rfl⟩:=eD A;refine fR hw (am1 hu H (cA he F) (yl he D) (yl he N) (yl he K) ?_ J w);cases mx' with
      |none=>exact .inl rfl
      |some m=>
       right
       cases hi' with
       |none=>simp at hm
       |some q=>simp
    ·cases h
   ·rename_i n el hu;split at h
    ·rename_i hm;cases H:cx P el with
     |none=>simp[H]at h
     |some sz=>
      simp only[H,afo,adF]at h;subst h;obtain⟨J,rfl⟩:=eD A;have V:mx=none:=by
       have:=Wg K;rw[hm]at this;simpa using this.symm
      subst V;exact fR hw (am2 hw hg hu H (cA he F) (yl he D) (yl he N) J)
    ·cases h
   ·cases h
  ·cases h
 case h_19 s x f d=>
  simp only[d,execOp];split at h
  ·rename_i fields y hu ho;split at h
   ·rename_i g Y;split at h
    ·rename_i n hn;split at h
     ·rename_i V0;cases h;obtain⟨J,rfl⟩:=eD A;exact fR hw (amP hw hg hu Y hn V0 (cA he ho) J)
     ·cases h
    ·cases h
   ·cases h
  ·cases h
 case h_20 s x f d=>
  simp only[d,execOp];split at h
  ·rename_i fields y hu ho;split at h
   ·rename_i g Y;split at h
    ·rename_i b n F D;cases h;simp only[exec]at A;split at A
     ·rename_i cs G4;obtain⟨J,rfl⟩:=eD A;have L:=cA he ho;rw[G4]at L;exact fR hw (amT hu Y F D L J w)
     ·cases A
    ·cases h
   ·cases h
  ·cases h
 case h_21 t x ix d=>
  simp only[d,execOp];split at h
  ·rename_i n el y iy hu F D;cases H:cx P el with
   |none=>simp[H]at h
   |some sz=>
    simp only[H,afo,adF]at h;subst h;obtain⟨J,rfl⟩:=eD A;exact fR hw (amQ hw hg hu H (cA he F) (cA he D) J)
  ·rename_i el y iy hu F D;cases H:cx P el with
   |none=>simp[H]at h
   |some sz=>
    simp only[H,afo,adF]at h;subst h;obtain⟨J,rfl⟩:=eD A;exact fR hw (amS hu H (cA he F) (cA he D) J)
  ·cases h
 case h_22 t x ix d=>
  simp only[d,execOp];split at h
  ·rename_i n el y iy hu F D;split at h
   ·rename_i b sz N K;cases h;obtain⟨J,rfl⟩:=eD A;exact fR hw (amU hu N K (cA he F) (cA he D) J w)
   ·cases h
  ·rename_i y iy hu F D;cases h;obtain⟨J,rfl⟩:=eD A;exact fR hw (amV hu (cA he F) (cA he D) J w)
  ·cases h
 case h_23 t m k ok d=>
  simp only[d,execOp];split at h
  ·rename_i kt et hu;split at h
   ·rename_i kk z m' k' F D N K;cases h;obtain⟨J,rfl⟩:=eD A;exact fR hw (anK hw hg hu F D (cA he N) (cA he K) J)
   ·cases h
  ·cases h
 case h_24 t m k x d|h_25 t m k x d=>
  simp only[d,execOp];split at h
  ·rename_i kt et hu;split at h
   ·rename_i kk m' k' x' F D N K;cases h;simp only[exec]at A;split at A
    ·rename_i Wj hm;cases A;exact We (anL hw hu F (cA he D) (cA he N) (cA he K) hm)
    ·cases A
   ·cases h
  ·cases h
 case h_26 x xt asserted ok d=>
  simp only[d,execOp];split at h
  ·cases h
  ·rename_i u y U hu ho;split at h
   ·rename_i z R;cases h;obtain⟨J,rfl⟩:=eD A;exact fR hw (anf hu (λms e=>U ms e) R (cA he ho) J xt w)
   ·cases h
  ·cases h
 case h_27 x j d=>
  simp only[d,execOp];cases ho:bJ x with
  |none=>simp[ho]at h
  |some y=>
   simp only[ho,afo,adF]at h;subst h;simp only[exec]at A;split at A
   ·rename_i vs hvs;obtain⟨J,rfl⟩:=eD A;have L:=cA he ho;rw[hvs]at L;exact fR hw (amW (x:=.az vs) L J w)
   ·cases A
 case h_28 c d=>
  simp only[d,execOp];exact anQ hw he C h hp A
 case h_29 x d=>
  cases ho:bJ x with
  |none=>simp[ho]at h
  |some y=>simp only[ho,afo,adF]at h;subst h;simp[I.plain]at hp
 case h_30=>cases h
end
end
section
variable{P:Program}{X:Ctx}{B:Nat}{aw:World}
open Classical in
noncomputable def Gh.cut(G:Gh)(n:Nat)(w:World):Gh:=
 {G with n:=n,bw:=λb o=>if∃id,n<=id/\G.on id/\G.bb id=b then w.cell? ⟨b,o,none⟩else G.bw b o}
def G5{G:Gh}{E:AS}(a:aZ P B aw G E w){o:Nat}(h:G.bw b o=some v): (G.cut n w).bw b o=some v:=by
 simp only[Gh.cut];split
 ·rename_i d;obtain⟨id,_,c,rfl⟩:=d;rw[a.sep id c]at h;cases h
 omega
def Wk{G:Gh}{E:AS}(a:aZ P B aw G E w):G.ep n (G.cut n w):=
 ⟨λ_ _ _ h=>G5 a h,aef _,λ_ _=>rfl,λ_ _=>rfl,λ_ _=>rfl,λ_ _=>rfl,λ_ _=>rfl,λ_ _=>rfl⟩
def anW{G:Gh}{id:Nat}(b:n<=id)(a:G.on id)(o:Nat): (G.cut n w).bw (G.bb id) o=w.cell? ⟨G.bb id,o,none⟩:=by
 simp only[Gh.cut];rw[adG ⟨id,b,a,rfl⟩]
theorem aZ.cut{G:Gh}{E:AS}(a:aZ P B aw G E w)(d:n<=G.n)(m: ∀j o,j<n->E.heap[j]?=some o->o.le n)(lo:oN):aZ P B aw (G.cut n w) {heap:=E.heap.take n,lo} w where
 len:=by
  have:=a.len;simp[Gh.cut];omega
 bw b o v h:=by
  simp only[Gh.cut]at h;split at h
  ·exact h
  ·exact a.bw b o v h
 obj id o h l:=by
  simp only[anB]at h;split at h
  ·rename_i f;exact iZ.ep (Wk a) f rfl (a.obj id o h l) (m id o f h)
  grind
 inj i j c p e:=a.inj i j ⟨ahl c.1 d,c.2⟩ ⟨ahl p.1 d,p.2⟩ e
 sep i c o:=by
  have r:i<n:=c.1;have k:G.on i:=⟨ahl c.1 d,c.2⟩;simp only[Gh.cut];rw[adE]
  ·exact a.sep i k o
  ·rintro⟨id,y,t,e⟩;have:=a.inj id i t k e;omega
 low i c:=a.low i ⟨ahl c.1 d,c.2⟩
 lV:=a.lV
 hB:=a.hB
 lW id o g l:=by
  have q:id<n:=g;obtain⟨x,u⟩:=a.lW id o (ahl g d) l
  grind
 dU b o v s h:=G5 a (a.dU b o v s h)
mutual
theorem Wl{G:Gh}{E:AS}{w:World}(m:aZ P B aw G E w){n:Nat}: ∀ (k:Nat) (v f:AV) (v':Value),freeze E n k v=some f->an G v v'->an (G.cut n w) f v'/\f.refs<=n
 |0,_,_,_,h,_=>by simp[freeze]at h
 |k+1,v,f,v',h,r=>by
  unfold freeze at h;split at h
  ·rename_i J;cases h;exact⟨r.ep (Wk m) _ _ J,J⟩
  ·rename_i J;split at h
   ·rename_i id aj sz off len cF;split at h
    ·rename_i T q ty af he;split at h
     ·rename_i Y;obtain⟨c1,c2,c3⟩:=Y;subst c1 c2;split at h
      ·rename_i g z;cases h;obtain⟨g1,g2,S,c,pre,vs,post,Z,R,U,M,K,D⟩:=m.obj id _ he r.MO;have N:G.on id:=⟨by rw[m.len];exact(acW.1 he).1,r.MO⟩;have H:n<=id:=by simp only[AV.refs]at J;omega
       simp only[an]at r;obtain⟨_,_,a,cap,e,d1,d2,d3⟩:=r;obtain⟨f1,f2,f3⟩:=d3 g1;have L:=K.slice (l:=off) (n:=len) S;obtain⟨y,x,t⟩:=Ng m k _ g _ z L;have d:g.length=len:=by
        have:=t;rw[this.1];simp;omega
       refine⟨⟨a.block,a.off,cap,q,_,?_,by rw[d];exact d1.1,λA=>by rw[d];exact d2 A,?_,?_,(D.drop _).take _,y⟩,x⟩
       ·rw[e,d];congr 2;obtain⟨b,o,s⟩:=a;have:=d1.2;simp only at this;rw[this]
       ·exact t.2 q (λel Q=>S el (an4 (ag9 Q)))
       ·intro j u i;have p:0<cap:=by
         by_cases h0:len=0
         ·subst h0;simp at i
         ·omega
        have F:a.off=G.base id+off*q:=by rw[f2 p]
        have I:a.block=G.bb id:=by rw[f2 p]
        rw[F,I,anW H N];refine CW Z _ u ?_;have V:=K.len S;rw[anB]at i;split at i
        ·rw[akX]at i;have W:=(acW.1 i).1;rw[R,afu (by omega),acV (by omega),<-i]
         congr 1;omega
        ·cases i
      ·cases h
     ·cases h
    ·cases h
   ·rename_i cs;split at h
    ·rename_i C z;cases h;simp only[an]at r;obtain⟨vs,rfl,l,D⟩:=r;obtain⟨y,x,_⟩:=G6 m k cs C _ z l;exact⟨⟨vs,rfl,y,D⟩,x⟩
    ·cases h
   ·rename_i cs;split at h
    ·rename_i C z;cases h;simp only[an]at r;obtain⟨vs,rfl,l⟩:=r;obtain⟨y,x,_⟩:=G6 m k cs C _ z l;exact⟨⟨vs,rfl,y⟩,x⟩
    ·cases h
   ·rename_i af cF;split at h
    ·rename_i g z;cases h;simp only[an]at r;obtain⟨b,o,cap,sz,vs,rfl,d1,d2,d3,O,D,K⟩:=r;obtain⟨y,x,t⟩:=Ng m k af g _ z K;refine⟨⟨b,o,cap,sz,vs,by rw[t.1],by rw[t.1];exact d1,λA=>by rw[t.1];exact d2 A,t.2 sz d3,λj u i=>G5 m (O j u i),D,y⟩,x⟩
    ·cases h
   ·cases h
theorem G6{G:Gh}{E:AS}{w:World}(d:aZ P B aw G E w){n:Nat}: ∀ (k:Nat) (cs b:List AV) (vs:List Value),jt E n k cs=some b->aF G cs vs->aF (G.cut n w) b vs/\aL b<=n/\b.length=cs.length
 |k,[],b,vs,h,r=>by
  cases k<;>simp only[jt,adF]at h<;>subst h<;>simp only[aF]at r<;>subst r<;>simp[aF,aL]
 |0,_::_,_,_,h,_=>by simp[jt]at h
 |k+1,a::as,b,vs,h,r=>by
  simp only[jt]at h;split at h
  ·rename_i a' i;split at h
   ·rename_i c has;cases h;simp only[aF]at r;obtain⟨v,q,rfl,l,j⟩:=r;obtain⟨g,o⟩:=Wl d k a a' v i l;obtain⟨f,m,e⟩:=G6 d (k+1) as c q has j;exact⟨⟨v,q,rfl,g,f⟩,by simp only[aL];omega,by simp[e]⟩
   ·cases h
  ·cases h
theorem Ng{G:Gh}{E:AS}{w:World}(e:aZ P B aw G E w){n:Nat}: ∀ (k:Nat) (af b:List (List AV)) (vs:List Value),r8 E n k af=some b->br G af vs->
  br (G.cut n w) b vs/\ca b<=n/\ (b.length=af.length/\ ∀sz,(∀el∈af,el.length=sz)-> ∀el∈b,el.length=sz)
 |k,[],b,vs,h,r=>by
  cases k<;>simp only[r8,adF]at h<;>subst h<;>simp only[br]at r<;>subst r<;>simp[br,ca]
 |0,_::_,_,_,h,_=>by simp[r8]at h
 |k+1,a::as,b,vs,h,r=>by
  simp only[r8]at h;split at h
  ·rename_i a' o;split at h
   ·rename_i d has;cases h;simp only[br]at r;obtain⟨v,q,rfl,s,p⟩:=r;obtain⟨j,u,l⟩:=G6 e k a a' v o s;obtain⟨i,t,g,f⟩:=Ng e (k+1) as d q has p;refine⟨⟨v,q,rfl,j,i⟩,by simp only[ca];omega,by simp[g],λsz hu el c=>?_⟩;rcases afJ.1 c with rfl|c
    ·rw[l];exact hu a (by simp)
    ·exact f sz (λx m=>hu x (by simp[m])) el c
   ·cases h
  ·cases h
end
def ym{gx:Gh}{cu:AS}{t:World}(k:aZ P B aw gx cu t){G:Gh}{E:AS}(f:gx.le G)(x:aZ P B aw G E w)(d:AS.Ext {heap:=cu.heap,lo:=none} E){v:AV}{v':Value}(D:an G v v'):
  ∃a,gx.le a/\aZ P B aw a (finish cu.heap.length cu.lo v E).2 w/\an a (finish cu.heap.length cu.lo v E).1 v'/\cu.Ext (finish cu.heap.length cu.lo v E).2:=by
 have sf: ∃a,gx.le a/\aZ P B aw a {heap:=E.heap,lo:=gZ cu.lo E.lo} w/\an a v v'/\cu.Ext {heap:=E.heap,lo:=gZ cu.lo E.lo}:=by
  refine⟨G,f,x.lo _,D,d.len,λj h=>?_,λj o h=>?_⟩
  ·cases E.lo with
   |none=>exact h
   |some l=>exact Ax (.inl h)
  ·obtain⟨o',s,g⟩:=d.obj j o h;refine⟨o',s,g.imp id λ ⟨l,e,q⟩=>?_⟩;simp only[gZ,e];exact Ax (.inr q)
 have clear: (∀j,j<cu.heap.length-> ¬Aw E.lo j)-> ∀c,freeze E cu.heap.length 12 v=some c->
   ∃a,gx.le a/\aZ P B aw a {heap:=E.heap.take cu.heap.length,lo:=cu.lo} w/\an a c v'/\cu.Ext {heap:=E.heap.take cu.heap.length,lo:=cu.lo}:=by
  intro z c C;have A:=k.len;have y: ∀j o,j<cu.heap.length->E.heap[j]?=some o->o.le cu.heap.length:=by
   intro j o r ho;have H:cu.heap[j]?=some cu.heap[j]:=adM r;obtain⟨o',s,g⟩:=d.obj j _ H;rw[ho]at s;cases s;rcases g with g|g
   ·have:=g cu.heap.length (by have:=k.amG H;rwa[A]at this);exact this.mono (by omega)
   ·exact absurd g (z j r)
  have m:cu.heap.length<=G.n:=by rw[x.len];exact d.len
  obtain⟨I,J⟩:=Wl x 12 v c v' C D;refine⟨G.cut cu.heap.length w,?_,x.cut m y _,I,?_,λj h=>h,λj o h=>?_⟩
  ·exact{bw:=λb o u h=>G5 x (f.bw b o u h),n:=by simp[Gh.cut,A],on:=λi p=>⟨by have:=p.1;simp only[Gh.cut];omega,(f.on i p).2⟩,aj:=λi p=>f.aj i p,same:=λi p e=>f.same i p e,pz:=λi p=>f.pz i p}
  ·have:=d.len;simp only at this;simp;omega
  ·have r:j<cu.heap.length:=(acW.1 h).1;obtain⟨o',s,g⟩:=d.obj j o h;refine⟨o',by simp[r,s],.inl ?_⟩;rcases g with g|g
   ·exact g
   ·exact absurd g (z j r)
 unfold finish;cases q:E.lo with
 |none=>
  simp only[afK];cases C:freeze E cu.heap.length 12 v with
  |none=>simp only;rw[q]at sf;exact sf
  |some c=>exact clear (by rintro j _ ⟨l,e,_⟩;rw[q]at e;cases e) c C
 |some l=>
  rw[q]at sf;by_cases h:cu.heap.length<=l
  ·simp only[h,decide_true,afK];cases C:freeze E cu.heap.length 12 v with
   |none=>exact sf
   |some c=>exact clear (by rintro j r ⟨K,e,F⟩;rw[q]at e;cases e;omega) c C
  ·simp only[h,aB2,afp,aha];exact sf
end
section
variable{P:Program}{X:Ctx}{B:Nat}{aw:World}{dh:List Deferred}
def W(r:oN):Fence:={fn:=λ_=>True,depth:=none,alive:=false,round:=r}
theorem anX:W none=Fence.wide:=rfl
def C5(r:oN)(n:Nat): (W r).room n:=λ_ h=>by simp[W]at h
def Nh{r a:oN}{args:Array Value}{R:Ending->World->Prop}(h:CallsIn (W r) n P f args w R):CallsIn (W a) b P f args w R:=
 ⟨trivial,λcs _=>h.2 cs (C5 _ _)⟩
def anY{r d:oN}{e:Nat}{a:Array Value}{as b:Code}{R:Ending->World->Prop}(h:RoundIn (W r) n P l f a as b w R):RoundIn (W d) e P l f a as b w R:=
 ⟨trivial,λc cs _=>h.2 c cs (C5 _ _)⟩
def Ends(P:Program)(B:Nat)(aw:World)(G:Gh)(E:AS):aV->Ending->World->Prop
 |.ret v b,.returned v',w'=> ∃a,G.le a/\aZ P B aw a b w'/\an a v v'/\E.Ext b
 |.panic v b,.panicked chain,w'=> ∃a v',chain=[{v:=v',recovered:=false}]/\G.le a/\aZ P B aw a b w'/\an a v v'/\E.Ext b
 |_,_,_=>False
def C6(P:Program)(K:Ending->World->Prop):Result Next->Prop
 |.ok (.value v) w'=>K (.returned v) w'
 |.ok (.enter f args) w'=>CallsIn (W none) 0 P f args w' K
 |.ok (.round l f tmps as bd) w'=>RoundIn (W none) 0 P l f tmps as bd w' K
 |_=>False
def wk(fv:Value)(args:Array Value):Sem Next:=do let d<-Deferred.ofValue fv args;invoke d.target d.args
def fS(P:Program)(B:Nat)(aw:World)(C:bA):Prop:=
 ∀fv args E c,C fv args E=some c-> ∀G w b (a:Array Value),aZ P B aw G E w->an G fv b->aF G args a.toList->C6 P (Ends P B aw G E c) ((wk b a).run P w)
def gN(dh:List Deferred)(G:Gh):lN->List Deferred->Prop
 | [],a=>a=dh
 |m::ms,a=> ∃d r k,a=d::r/\d.target= .collected k/\G.on m/\ (G.aj m=0->k=G.bb m)/\gN dh G ms r
theorem gN.mono{G c:Gh}(h:G.le c): ∀ {ms:lN} {b:List Deferred},gN dh G ms b->gN dh c ms b
 | [],_,r=>r
 |m::ms,_,r=>by
  simp only[gN]at*;obtain⟨d,q,k,e,i,a,g,f⟩:=r;refine⟨d,q,k,e,i,h.on _ a,λl=>?_,f.mono h⟩;have j:=h.aj _ a;rw[(h.same _ a (by omega)).1];exact g (by omega)
theorem gN.dN{G c:Gh}(h:G.sub c): ∀ {ms:lN} {b:List Deferred},gN dh G ms b->gN dh c ms b
 | [],_,r=>r
 |m::ms,_,r=>by
  simp only[gN]at*;obtain⟨d,q,k,e,i,a,g,f⟩:=r;refine⟨d,q,k,e,i,h.on _ a,λl=>?_,f.dN h⟩;have j:=h.aj _ a;rw[(h.same _ a (by omega)).1];exact g (by omega)
def gq(G:Gh):Ex->Exit->Prop
 |.normal,.normal=>True
 |.exit i,.exit j=>i=j
 |.ret,.ret=>True
 |.panic v,.panic chain=> ∃v',chain=[{v:=v',recovered:=false}]/\an G v v'
 |_,_=>False
def mv(P:Program)(B:Nat)(aw:World)(dh:List Deferred)(gx:Gh)(cu:AS)(nt:Nat)(b:Ex×Fr×AS)(e:Exit)(a:Act)(w:World):Prop:=
 ∃G,gx.le G/\aZ P B aw G b.2.2 w/\cK G nt b.2.1.env a.tmps/\gN dh G b.2.1.marks a.defers/\cu.Ext b.2.2/\gq G b.1 e
theorem mv.trans{gx b:Gh}{cu c:AS}{d:Ex×Fr×AS}{e:Exit}(h:mv P B aw dh b c nt d e a w)(hg:gx.le b)(f:cu.Ext c):mv P B aw dh gx cu nt d e a w:=by
 obtain⟨G,m,l,k,j,i,g⟩:=h;exact⟨G,Gh.le_trans hg m,l,k,j,f.trans i,g⟩
theorem cK.set{G:Gh}{e:Env}{a:Array Value}(h:cK G nt e a)(g:d<nt){v:AV}(f:an G v v'):cK G nt (e.set d v) (a.setIfInBounds d v')where
 size:=by simp[h.size]
 get t u b:=by
  rw[aln]at b;simp only[Env.set];split at b
  ·rename_i e;subst e;split at b
   ·cases b;rw[adG rfl];exact f
   ·cases b
  ·rename_i c;rw[adE (λe=>c e.symm)];exact h.get t u b
 out t b:=by
  simp only[Env.set];rw[adE (by omega)];exact h.out t b
def qH{G:Gh}{b:Fr}(h:cK G nt b.env a.tmps){dst:oN}(e: ∀d,dst=some d->d<nt){v:AV}(c:an G v v'):
  cK G nt (b.put dst v).env (a.put dst v').tmps/\ (b.put dst v).marks=b.marks/\ (a.put dst v').defers=a.defers:=by
 cases dst with
 |none=>exact⟨h,rfl,rfl⟩
 |some d=>exact⟨h.set (e d rfl) c,rfl,rfl⟩
theorem yn{G:Gh}:an G .undef undef:=⟨#[],rfl,by simp[aF]⟩
def anZ{G:Gh}{x:AV}{b:Bool}(h:an G x (.bool b)):x= .bool b:=by
 cases x<;>simp[an]at h;rw[h]
def yo{G:Gh}{e:Env}(k:cK G nt e a.tmps){d:Array Oper}{o:Oper}{g:Option (Nat×Bool)}(h:guardOf d o=some g):Region.wanted o (yielded d a.tmps)=gw e g:=by
 unfold guardOf at h;unfold Region.wanted;split at h
 ·rename_i s;cases h;simp[s,gw]
 ·rename_i j want q;split at h
  ·rename_i t p;cases h;simp only[q,gw,yielded,p,aom];by_cases c:t<a.tmps.size
   ·have f:=k.get t a.tmps[t] (by simp[c]);simp only[axi c];cases l:a.tmps[t]with
    |bool b=>
     rw[l]at f;rw[anZ f];simp
    |_=>
     rw[l]at f;cases m:e t<;>rw[m]at f<;>simp[an]at f<;>simp
   ·have i:a.tmps.size<=t:=Nat.le_of_not_lt c;rw[k.out t (by rw[<-k.size];exact i)];have:a.tmps[t]?=none:=Array.getElem?_eq_none i;simp[this]
  ·cases h
section region
variable{C:bA}(hC:fS P B aw C)(hg:fQ X B aw){r:oN}{n nt:Nat}
include hC hg
theorem yp{rows:Bool}{ops:Array Oper}{o:Oper}{x:aR}(h:iY P rows ops o=some x)(hd: ∀d,x.dst=some d->d<nt){G:Gh}{E:AS}{H:Fr}(hw:aZ P B aw G E w)(K:cK G nt H.env a.tmps)(hm:gN dh G H.marks a.defers)
  {u:Out} (m:exec X C x.i H.env E=some u) {next:Act->World->Prop} {Q:Exit->Act->World->Prop}
  (U: ∀v l,u= .ok v l-> ∀J a' w',G.le J->aZ P B aw J l w'->E.Ext l->cK J nt (H.put x.dst v).env a'.tmps->gN dh J (H.put x.dst v).marks a'.defers->next a' w')
  (p: ∀v l,u= .panic v l-> ∀e a' w',mv P B aw dh G E nt (.panic v,H,l) e a' w'->Q e a' w'):o.wpIn (W r) n P a w next Q:=by
 refine⟨λ_ _=>trivial,?_⟩;unfold iY at h;split at h
 ·rename_i i g b gO;cases h;have S:o.semAt (W r).round a.eval=execOp a.eval o:=by
   apply Oper.semAt_eq;intro c e;simp[kZ,e]at b
  rw[S];have ar: ∀v l,u= .ok v l->Good P B aw G E v l ((execOp a.eval o).run P w)->o.uponIn (W r) n P a next Q ((execOp a.eval o).run P w):=by
   intro v l e M;obtain⟨J,w',v',F,s,O,Y,V⟩:=M;obtain⟨p1,p2,p3⟩:=qH (a:=a) (K.mono s) hd Y;have hn:=U v l e J (a.put o.dst v') w' s O V p1 (by rw[p2,p3];exact hm.mono s);rcases F with F| ⟨F,Z⟩
   ·rw[F];exact hn
   ·rw[F];subst Z;exact hn
  by_cases hp:i.plain=true
  ·cases u with
   |ok v l=>exact ar v l rfl (anR hw hg K C b hp m)
   |panic v l=>
    exfalso;cases i<;>simp[I.plain]at hp<;>simp only[exec,gn]at m<;>(repeat' split at m)<;>(try cases m)
  ·cases A:o.op with
   |call c=>
    simp only[kZ,A]at b;obtain⟨callee,D,cts⟩:=c;have N: ∃f fs as,callee= .value f/\bJ f=some fs/\nP D.toList=some as/\i= .call fs as:=by
     unfold CT at b;split at b
     case h_1 d1 d2 d3 f hc=>
      simp only at hc;split at b
      ·rename_i f' as s O;cases b;exact⟨_,_,_,hc,s,O,rfl⟩
      ·cases b
     all_goals exfalso
     all_goals(first| (repeat' split at b)|skip)<;>(try cases b)<;>(try(simp only[afn]at b;obtain⟨_,_,rfl⟩:=b))<;>simp[I.plain]at hp
    obtain⟨f,fs,as,rfl,hf,has,rfl⟩:=N;have z: (execOp a.eval o).run P w=(wk (a.eval f) (D.map a.eval)).run P w:=by
     unfold execOp;simp only[A];rfl
    simp only[exec]at m;have key: ∀R,C (fs.get H.env) (as.map (·.get H.env)) E=some R->C6 P (Ends P B aw G E R) ((execOp a.eval o).run P w):=by
     intro R q;rw[z];exact hC _ _ _ _ q G w _ _ hw (cA K hf) (by simpa using yf K has)
    cases q:C (fs.get H.env) (as.map (·.get H.env)) E with
    |none=>simp[q]at m
    |some R=>
     have L:=key R q;have cont: ∀e k,Ends P B aw G E R e k->(match e with
       |.returned v=>next (a.put o.dst v) k
       |.panicked chain=>Q (.panic chain) a k
       |.outgrown=>LetsOut Q):=by
      intro e k j;cases R with
      |ret v l=>
       simp only[q,adF]at m;cases e with
       |returned v'=>
        obtain⟨J,s,O,Y,V⟩:=j;obtain⟨p1,p2,p3⟩:=qH (a:=a) (K.mono s) hd Y;exact U v l m.symm J _ k s O V p1 (by rw[p2,p3];exact hm.mono s)
       |panicked _=>exact j.elim
       |outgrown=>exact j.elim
      |panic v l=>
       simp only[q,adF]at m;cases e with
       |returned _=>exact j.elim
       |panicked chain=>
        obtain⟨J,v',Ni,s,O,Y,V⟩:=j;exact p v l m.symm _ _ _ ⟨J,s,O,K.mono s,hm.mono s,V,v',Ni,Y⟩
       |outgrown=>exact j.elim
     generalize(execOp a.eval o).run P w=res at L;unfold C6 at L;split at L
     ·exact cont _ _ L
     ·exact⟨λh=>by simp[W]at h,Nh (L.mono λe k h=>by have:=cont e k h;cases e<;>exact this)⟩
     ·exact⟨λh=>by simp[W]at h,anY (L.mono λe k h=>by have:=cont e k h;cases e<;>exact this)⟩
     ·exact L.elim
   |panic x=>
    simp only[kZ,A]at b;cases ho:bJ x with
    |none=>simp[ho]at b
    |some y=>
     simp only[ho,afo,adF]at b;subst b;simp only[exec]at m;split at m
     ·rename_i t v ht;cases m;have F:=cA K ho;rw[ht]at F;have T:=F;simp only[an]at F;obtain⟨v',Z,_⟩:=F;have z: (execOp a.eval o).run P w= .halt (.panic (.iface t v')) w:=by
       unfold execOp;simp only[A,Z];simp[Instr.panic,goPanic,Sem.run_bind,Sem.run,Result.andThen]
      rw[z];rw[Z]at T;exact p _ _ rfl _ _ _ ⟨G,G.le_refl,hw,K,hm,.refl E,_,rfl,T⟩
     ·cases m
   |_=>
    exfalso;simp only[kZ,A]at b
    repeat' split at b
    all_goals(try cases b)
    all_goals(try(simp only[afn]at b;obtain⟨_,_,rfl⟩:=b))
    all_goals first| (simp[I.plain]at hp;done)| (simp_all;done)
 ·cases h
end region
end
section
variable{P:Program}{X:Ctx}{B:Nat}{aw:World}{dh:List Deferred}
section
variable{C:bA}(hC:fS P B aw C)(hg:fQ X B aw){r:oN}{n nt:Nat}{rows:Bool}
include hC hg
theorem Nj{j:Array Oper}: ∀ (os:List Oper) (is:lN) (l:List aR),is.map (j[·]?)=os.map some->k0 P rows j os=some l->(∀x∈l,∀d,x.dst=some d->d<nt)->
  ∀ (G:Gh) (E:AS) (w:World) (fr:Fr) (a:Act) (res:Ex×Fr×AS) (Q:Exit->Act->World->Prop),aZ P B aw G E w->cK G nt fr.env a.tmps->gN dh G fr.marks a.defers->fo X C l fr E=some res->
  (∀e a w,mv P B aw dh G E nt res e a w->Q e a w)->wpOpsIn (W r) n P j Q is a w
 | [],is,l,k,p,q,G,E,w,fr,a,res,Q,hw,he,hm,g,u=>by
   have:is=[]:=by simpa using k
   subst this;simp only[k0,adF]at p;subst p;simp only[fo,adF]at g;subst g;exact u _ _ _ ⟨G,G.le_refl,hw,he,hm,.refl E,trivial⟩
 |o::os,is,l,k,p,q,G,E,w,fr,a,res,Q,hw,he,hm,g,u=>by
  cases is with
  |nil=>simp at k
  |cons i is=>
   simp only[aiQ,ax8]at k;obtain⟨D,k⟩:=k;simp only[k0]at p;split at p
   ·rename_i x xs f s;cases p;simp only[wpOpsIn,D];have F:guardOf j o=some x.g:=by
     unfold iY at f;split at f
     ·rename_i H;cases f;exact H
     ·cases f
    have t:x.dst=o.dst:=by
     unfold iY at f;split at f
     ·cases f;rfl
     ·cases f
    have A:=yo he F;simp only[fo]at g;rw[A];split at g
    ·rename_i m;rw[adG m];split at g
     ·rename_i v I hex;refine yp hC hg f (q x (by simp)) hw he hm hex (λb c e S a' w' R H O N M=>?_) (λb c e=>by cases e);cases e;exact Nj os is xs k s (λy z=>q y (by simp[z])) S I w' _ a' res Q H N M g (λe a w h=>u e a w (h.trans R O))
     ·rename_i v I hex;cases g;exact yp hC hg f (q x (by simp)) hw he hm hex (λb c e=>by cases e) (λb c e T a' w' h=>by cases e;exact u _ _ _ h)
     ·cases g
    ·rename_i m;rw[adE m];refine⟨λ_ _=>trivial,?_⟩;obtain⟨L,K,J⟩:=qH (a:=a) he (q x (by simp)) (v:=.undef) (v':=undef) yn;rw[<-t];exact Nj os is xs k s (λy z=>q y (by simp[z])) G E w _ _ res Q hw L (by rw[K,J];exact hm) g u
   ·cases p
omit hC hg in
theorem an0(a:Array Oper): (List.range a.size).map (a[·]?)=a.toList.map some:=by
 apply anT;intro j;by_cases b:j<a.size
 ·simp[b]
 ·simp[b]
end
def yq(L:eK):Prop:= ∀body fr E res,L body fr E=some res-> ∃k,iter k body fr E=some res
def AE(P:Program)(B:Nat)(aw:World)(dh:List Deferred)(r:oN)(n nt:Nat)(c:Code)(b:Fr->AS->jK):Prop:=
 ∀ (G:Gh) (E:AS) (w:World) (fr:Fr) (a:Act) (res:Ex×Fr×AS) (Q:Exit->Act->World->Prop),aZ P B aw G E w->cK G nt fr.env a.tmps->gN dh G fr.marks a.defers->b fr E=some res->
   (∀e a w,mv P B aw dh G E nt res e a w->Q e a w)->c.wpIn (W r) n P Q a w
theorem Wm{r:oN}{n nt:Nat}{c:Code}{t:Fr->AS->jK}(h:AE P B aw dh r n nt c t): ∀ (m:Nat) (G:Gh) (E:AS) (w:World) (fr:Fr) (a:Act) (res:Ex×Fr×AS) (Q:Exit->Act->World->Prop),
  aZ P B aw G E w->cK G nt fr.env a.tmps->gN dh G fr.marks a.defers->iter m t fr E=some res->(∀e a w,mv P B aw dh G E nt res e a w->Q e a w)->
  ∀ (b:Frame) (k:List Item) (cs:List Frame),b.roundOf=(W r).round-> ∃e a' w',Q e a' w'/\ArrivesIn (Machine.fenced P (W r)) P (lone (b.atR a (.code c:: .inLoop c::k)) cs w) b k cs e a' w'
 |0,_,_,_,_,_,_,_,_,_,_,y,_,_,_,_,_=>by simp[iter]at y
 |m+1,G,E,w,fr,a,res,Q,hw,he,hm,y,R,b,k,cs,u=>by
  simp only[iter]at y;split at y
  ·rename_i q H T;have j:=h G E w fr a (.normal,q,H) (Exit.then (λa' w'=>mv P B aw dh G E nt (.normal,q,H) .normal a' w') (λ_ _ _=>False)) hw he hm T (λe a' w' i=>by
    have v:=i;obtain⟨s,N,M,L,K,J,I⟩:=i;cases e<;>simp[gq]at I;exact v)
   obtain⟨e,g,d,o,f⟩:=j b (.inLoop c::k) cs u trivial (C5 _ _);cases e<;>try exact o.elim
   obtain⟨s,N,M,L,K,J,I⟩:=o;obtain⟨D,F,A,z,p⟩:=Wm h m s H d q g res Q M L K y (λe a w S=>R e a w (S.trans N J)) b k cs u;exact⟨D,F,A,z,.of_steps (StepsIn.trans f (.one (fenced_calm (n:=n) trivial (C5 _ _) rfl) stepR_inLoop)) p⟩
  ·rename_i O;have j:=h G E w fr a res (Exit.then (λ_ _=>False) Q) hw he hm y (λe a' w' i=>by
    have o:=R e a' w' i;obtain⟨s,N,M,L,K,J,I⟩:=i;obtain⟨ex,q,H⟩:=res;cases e<;>first|exact o| (exfalso;cases ex<;>simp[gq]at I;exact O q H y))
   obtain⟨e,g,d,o,f⟩:=j b (.inLoop c::k) cs u trivial (C5 _ _);cases e with
   |normal=>exact o.elim
   |exit id=>exact⟨_,g,d,o,.pass (x:=.inLoop c) rfl (λ_ _=>.inl (by simp)) f⟩
   |goto l=>exact⟨_,g,d,o,.pass (x:=.inLoop c) rfl (λ_ _=>.inl (by simp)) f⟩
   |ret=>exact⟨_,g,d,o,.pass (x:=.inLoop c) rfl (λ_ _=>.inl (by simp)) f⟩
   |panic U=>exact⟨_,g,d,o,.pass (x:=.inLoop c) rfl (λ_ _=>.inl (by simp)) f⟩
   |outgrown=>exact⟨_,g,d,o,.pass (x:=.inLoop c) rfl (λ_ _=>.inl (by simp)) f⟩
def an1{r:oN}{c:Code}{d:Fr->AS->jK}(h:AE P B aw dh r n nt c d)(m:Nat):AE P B aw dh r n nt (.loop c) (iter m d):=by
 intro G E w fr a res Q hw he hm j p b k cs i o f;obtain⟨e,a',w',l,g⟩:=Wm h m G E w fr a res Q hw he hm j p b k cs i;exact⟨e,a',w',l,.of_steps (.one (fenced_calm o f rfl) stepR_loop) g⟩
end
section
variable{P:Program}{X:Ctx}{B:Nat}{aw:World}{dh:List Deferred}
def oV(P:Program)(X:Ctx):Prop:= ∀f pf,X.code f=some pf-> ∃rows fn,P.funcs[f]?=some fn/\CU P rows fn=some pf
def G7{rows:Bool}{fn:Func}{pf:PF}(h:CU P rows fn=some pf): ∃c,fn.body=some c/\ft P rows fn.ntmps c=some pf.body/\oT P fn.results.toList=some pf.results/\pf.ntmps=fn.ntmps/\ (fn.name== "runtime.NumGoroutine")=false:=by
 unfold CU at h;split at h
 ·rename_i c d;split at h
  ·rename_i b rs f e;split at h
   ·rename_i a;cases h;exact⟨c,d,f,e,rfl,by simpa using a⟩
   ·cases h
  ·cases h
 ·cases h
def Wn{fn:Func}{c:Code}(d:P.funcs[f]?=some fn)(e:fn.body=some c)(b: (fn.name== "runtime.NumGoroutine")=false)(first cap args:Array Value)(w:World):
  (wk (.func (.func f) first cap) args).run P w= .ok (.enter f (first++args++cap)) w:=by
 have a: ¬fn.name= "runtime.NumGoroutine" :=by simpa using b
 simp[wk,Deferred.ofValue,invoke,callFunc,aqa,d,a,e]
def an2{r:oN}{b:PC}{g:Ex}{c:Option Code}(d:yd (some b) c)(f:x8 b=some g){Q:Exit->Act->World->Prop}(h: ∀e,(∀G,gq G g e)->Q e a w): ∃code,c=some code/\code.wpIn (W r) n P Q a w:=by
 cases b<;>simp[x8]at f<;>simp only[yd]at d<;>subst d<;>subst f
 ·exact⟨_,rfl,wpIn_exit (h _ λ_=>rfl)⟩
 ·exact⟨_,rfl,wpIn_ret (h _ λ_=>trivial)⟩
section
variable{C:bA}(hC:fS P B aw C)(hg:fQ X B aw)(hX:oV P X){n nt:Nat}{rows:Bool}
include hC hX
theorem an3{bO:FuncId}{g:Operand}{g':aq}{N:Array Tmp}{assign body:Code}{as bd:PC}(h1:bJ g=some g')(h2:ft P rows nt assign=some as)(h3:ft P rows nt body=some bd)(h4:N.toList.all (· <nt)=true){L:eK}:
  AE P B aw dh none n nt (.rangeFunc g N assign body) (bh X C L bO false (.iE g' N.toList as bd)):=by
 intro G E w fr a res Q hw he hm u hQ;simp only[bh,afp,aha]at u;split at u
 ·rename_i o;have S:=cA he h1;obtain⟨f,first,cap,pf,hgv,aBY,C7⟩: ∃f first cap pf,g'.get fr.env= .fn (.func f) first cap/\X.bW f=none/\X.code f=some pf:=by
   unfold qC at o;split at o
   ·rename_i f first cap hv
    simp only[afz,Option.isNone_iff_eq_none,aqD]at o;obtain⟨h1,pf,h2⟩:=o;exact⟨f,first,cap,pf,hv,h1,h2⟩
   ·cases o
  obtain⟨an5,fn,hf,an6⟩:=hX f pf C7;obtain⟨c,M,_,_,_,H⟩:=G7 an6;have an7:=S;rw[hgv]at S;simp only[an,mX]at S;obtain⟨f',d,t,AF,qI,aBZ,aB0⟩:=S;subst qI;refine wpIn_rangeFunc (λWo _=>?_);have R:=he.size
  let y:Loop:={state:=.ready,pending:=none,fn:=Wo,tmps:=a.tmps,params:=N,assign,body,defers:=w.heap.size}
  let k:=(w.alloc (.deferred (some []))).alloc (.loop y)
  have Wp: (w.alloc (.deferred (some []))).heap.size=w.heap.size+1:=by simp
  have Wq:=hw.push (.deferred (some [])) .fI 0 0 ⟨by simp[Gh.push],by
   have: (G.push w.heap.size 0 0).bb G.n=w.heap.size:=by simp[Gh.push]
   rw[this];exact aoT _ _⟩
  have s:=G.Ay w.heap.size 0 0;have p:=(G.push w.heap.size 0 0).Ay (w.alloc (.deferred (some []))).heap.size 0 0;have hw2:=Wq.push (.loop y) (.loop .ready none bO fr.env N.toList as bd) 0 0 ⟨by simp[Gh.push],y,by
   have: ((G.push w.heap.size 0 0).push (w.alloc (.deferred (some []))).heap.size 0 0).bb (G.push w.heap.size 0 0).n=(w.alloc (.deferred (some []))).heap.size:=by simp[Gh.push]
   rw[this];exact aoT _ _,rfl,rfl,trivial,by
    have:=(he.mono s).mono p;show cK _ a.tmps.size fr.env a.tmps;rw[R];exact this,rfl,by show N.toList.all (· <a.tmps.size)=true;rw[R];exact h4,rows,by show ft P rows a.tmps.size assign=_;rw[R];exact h2,by show ft P rows a.tmps.size body=_;rw[R];exact h3⟩
  have i:=hw.len;have an9: ((G.push w.heap.size 0 0).push (w.alloc (.deferred (some []))).heap.size 0 0).on E.heap.length:=p.on _ (Gh.CV hw);have F: ((G.push w.heap.size 0 0).push (w.alloc (.deferred (some []))).heap.size 0 0).on (E.heap.length+1):=by
   have:=Gh.CV Wq (b:=(w.alloc (.deferred (some []))).heap.size) (eC:=0) (sz:=0);have e: (E.push .fI).heap.length=E.heap.length+1:=by simp[AS.push]
   rwa[e]at this
  refine⟨w.heap.size+1,[{target:=.collected w.heap.size,args:= #[]}],k,{target:=.fn (.func f) t,args:=d++ #[.func (.yield (w.heap.size+1)) #[] #[]]},k,f,d++ #[.func (.yield (w.heap.size+1)) #[] #[]]++t,k,?_,?_,λ_ _=>trivial,?_,λh=>by simp[W]at h,?_⟩
  ·show(Instr.enterLoop Wo a.tmps N assign body none).run P w=_;simp[Instr.enterLoop,k,y]
  ·have aoa:Act.eval a g= .func (.func f) d t:=AF;have hm0: (#[Operand.const (.func (.yield (w.heap.size+1)) #[] #[])]:Array Operand).map a.eval= #[.func (.yield (w.heap.size+1)) #[] #[]]:=by simp[Act.eval]
   simp only[rangeCall,resolve,hm0,aoa,Deferred.ofValue,Sem.run_pure]
  ·have G8: ¬fn.name= "runtime.NumGoroutine" :=by simpa using H
   simp[invoke,callFunc,aqa,hf,G8,M]
  ·have hy:an ((G.push w.heap.size 0 0).push (w.alloc (.deferred (some []))).heap.size 0 0) (.fn (.yield (E.heap.length+1)) [] []) (.func (.yield (w.heap.size+1)) #[] #[]):=by
     refine⟨_,#[],#[],rfl,⟨F,_,rfl,λ_=>by simp[Gh.push,i]⟩,by simp[aF],by simp[aF]⟩
   have z:=Wn (P:=P) hf M H d t #[.func (.yield (w.heap.size+1)) #[] #[]] k;have Z:E.Ext ((E.push .fI).push (.loop .ready none bO fr.env N.toList as bd)):=(AS.Ext.push _ _).trans (.push _ _);have main: ∀cr,C (g'.get fr.env) [.fn (.yield (E.heap.length+1)) [] []] ((E.push .fI).push (.loop .ready none bO fr.env N.toList as bd))=some cr->
     CallsIn (W none) 0 P f (d++ #[.func (.yield (w.heap.size+1)) #[] #[]]++t) k (Ends P B aw ((G.push w.heap.size 0 0).push (w.alloc (.deferred (some []))).heap.size 0 0) ((E.push .fI).push (.loop .ready none bO fr.env N.toList as bd)) cr):=by
    intro cr K;have:=hC _ _ _ _ K _ k (a.eval g) #[.func (.yield (w.heap.size+1)) #[] #[]] hw2 ((an7.mono s).mono p) ⟨_,_,rfl,hy,by simp[aF]⟩;rw[AF,z]at this;exact this
   have hmarks: ∀x,((G.push w.heap.size 0 0).push (w.alloc (.deferred (some []))).heap.size 0 0).le x->gN dh x (E.heap.length::fr.marks) ({target:=.collected w.heap.size,args:= #[]}::a.defers):=by
    intro x hG';refine gN.mono hG' ⟨_,_,w.heap.size,rfl,rfl,an9,λ_=>by simp[Gh.push,i],(hm.mono s).mono p⟩
   split at u
   ·rename_i v E' K;refine Nh ((main _ K).mono λe q m=>?_);cases e with
    |panicked _=>exact m.elim
    |outgrown=>exact m.elim
    |returned v'=>
     obtain⟨x,U,q2,q3,q4⟩:=m;unfold endLoop at u;split at u
     ·rename_i st A ff env C8 G9 ju Y;split at u
      ·cases u
      ·rename_i uM;have I:x.on (E.heap.length+1):=U.on _ F;obtain⟨o0,L',ob,os,oj,_,oe,op,Nk,aod⟩:=q2.obj _ _ Y I.2;have Wr:x.bb (E.heap.length+1)=w.heap.size+1:=by
        rw[(U.same (E.heap.length+1) F (by rw[o0];simp[Gh.push,i])).1];simp[Gh.push,i]
       rw[Wr]at ob;have V: (Instr.endLoop (w.heap.size+1)).run P q= .ok L'.pending (fa q (w.heap.size+1) (.loop {L' with state:=.exhausted})):=by
        have Nl: ¬L'.state= .busy:=by rw[os];exact uM
        simp[Instr.endLoop,Instr.getLoop,getObj,setObj,Sem.run,ob,Nl,fa]
       have D:aZ P B aw x (E'.set (E.heap.length+1) (.loop .exhausted A ff env C8 G9 ju) 0) (fa q (w.heap.size+1) (.loop {L' with state:=.exhausted})):=by
        have:=q2.put I (O:=.loop {L' with state:=.exhausted}) (o':=.loop .exhausted A ff env C8 G9 ju) 0 ⟨o0,{L' with state:=.exhausted},uH (q2.low _ I).2,rfl,oj,trivial,oe,op,Nk,aod⟩;rw[Wr]at this;exact this
       have J:E.Ext (E'.set (E.heap.length+1) (.loop .exhausted A ff env C8 G9 ju) 0):=(Z.trans q4).trans (.set Y λn hn _=>hn);have l:=Gh.le_trans (Gh.le_trans s p) U;generalize fa q (w.heap.size+1) (.loop {L' with state:=.exhausted})=T at D V;refine⟨L'.pending,T,V,?_⟩;split at u
       ·cases u;simp only[yd]at oj;rw[oj];exact hQ _ _ _ ⟨x,l,D,he.mono l,hmarks x U,J,trivial⟩
       ·rename_i j;split at u
        ·rename_i ex hex;cases u;obtain⟨code,C9,hwp⟩:=an2 (r:=none) (n:=n) (P:=P) (Q:=Q) oj hex (a:={a with defers:=[{target:=.collected w.heap.size,args:= #[]}]++a.defers}) (w:=T)
          (λe aof=>hQ _ _ _ ⟨x,l,D,he.mono l,hmarks x U,J,aof x⟩)
         rw[C9];exact hwp
        ·cases u
     ·cases u
   ·rename_i v E' K;cases u;refine Nh ((main _ K).mono λe q m=>?_);cases e with
    |returned _=>exact m.elim
    |outgrown=>exact m.elim
    |panicked chain=>
     obtain⟨x,v',Ni,U,q2,q3,q4⟩:=m;have l:=Gh.le_trans (Gh.le_trans s p) U;exact hQ _ _ _ ⟨x,l,q2,he.mono l,hmarks x U,Z.trans q4,v',Ni,q3⟩
   ·cases u
 ·cases u
end
def AG(P:Program)(X:Ctx)(B:Nat)(aw:World):Prop:=
 ∀ (dh:List Deferred) (C:bA),fS P B aw C-> ∀ (rows:Bool) (r:oN) (n nt id:Nat) (ops:Array Oper) (xs:List aR) (ys:List (aR×lN)),k0 P rows ops ops.toList=some xs->(∀x∈xs,∀d,x.dst=some d->d<nt)->MM ops xs=some ys->
   AE P B aw dh r n nt (.region id ops true) (λfr E=>gM X C [] (iF E.heap.length ys) fr (E.mm (dM ys)))
def wm{C:bA}(hC:fS P B aw C)(hg:fQ X B aw)(hX:oV P X)(hE:AG P X B aw){L:eK}(hL:yq L){rows:Bool}{bO:FuncId}{rd:Bool}{r:oN}(S:rd=r.isSome):
  ∀ (c:Code) (pc:PC),ft P rows nt c=some pc->AE P B aw dh r n nt c (bh X C L bO rd pc):=by
 intro c
 induction c with
 |skip=>
  intro pc h G E w fr a res Q hw he hm b i;simp only[ft,adF]at h;subst h;simp only[bh,adF]at b;subst b;exact wpIn_skip (i _ _ _ ⟨G,G.le_refl,hw,he,hm,.refl E,trivial⟩)
 |label l=>
  intro pc h G E w fr a res Q hw he hm b i;simp only[ft,adF]at h;subst h;simp only[bh,adF]at b;subst b;exact wpIn_label (i _ _ _ ⟨G,G.le_refl,hw,he,hm,.refl E,trivial⟩)
 |seq x y q v=>
  intro pc h G E w fr a res Q hw he hm b i;simp only[ft]at h;split at h
  ·rename_i U V K Y;cases h;simp only[bh]at b;split at b
   ·rename_i m N hb;refine azL (q U K G E w fr a _ _ hw he hm hb (λe a' w' f=>?_));obtain⟨j,J,I,H,F,D,u⟩:=f;cases e<;>simp[gq]at u;exact v V Y j N w' m a' res Q I H F b (λe a w hh=>i e a w (hh.trans J D))
   ·rename_i z;refine azL (q U K G E w fr a res _ hw he hm b (λe a' w' f=>?_));have hq:=i e a' w' f;obtain⟨j,J,I,H,F,D,u⟩:=f;obtain⟨ex,m,N⟩:=res;cases e<;>first|exact hq| (exfalso;cases ex<;>simp[gq]at u;exact z m N b)
  ·cases h
 |cond c x y q v=>
  intro pc h G E w fr a res Q hw he hm b i;simp only[ft]at h;split at h
  ·rename_i c' U V M K Y;cases h;simp only[bh]at b;split at b
   ·rename_i t ht;have o:=cA he M;rw[ht]at o;simp only[an]at o;refine wpIn_cond o ?_;cases t with
    |true=>simp only[afK]at b⊢;exact q U K G E w fr a res Q hw he hm b i
    |false=>simp only[afp,aha]at b⊢;exact v V Y G E w fr a res Q hw he hm b i
   ·cases b
  ·cases h
 |block id c O=>
  intro pc h G E w fr a res Q hw he hm b i;simp only[ft]at h;obtain⟨p,M,rfl⟩:=afn.1 h;simp only[bh]at b;split at b
  ·rename_i id' m N hb;refine wpIn_block (O p M G E w fr a _ _ hw he hm hb (λe a' w' f=>?_));obtain⟨j,J,I,H,F,D,u⟩:=f;cases e<;>simp[gq]at u;subst u;simp only[Exit.inBlock];split at b
   ·rename_i A;cases b;rw[adG A];exact i _ _ _ ⟨j,J,I,H,F,D,trivial⟩
   ·rename_i A;cases b;rw[adE A];exact i _ _ _ ⟨j,J,I,H,F,D,rfl⟩
  ·rename_i z;refine wpIn_block (O p M G E w fr a res _ hw he hm b (λe a' w' f=>?_));have hq:=i e a' w' f;obtain⟨j,J,I,H,F,D,u⟩:=f;obtain⟨ex,m,N⟩:=res;cases e<;>first|exact hq| (exfalso;cases ex<;>simp[gq]at u;exact z _ m N b)
 |loop c O=>
  intro pc h G E w fr a res Q hw he hm b i;simp only[ft]at h;obtain⟨p,M,rfl⟩:=afn.1 h;simp only[bh]at b;obtain⟨k,hk⟩:=hL _ _ _ _ b;exact an1 (O p M) k G E w fr a res Q hw he hm hk i
 |exit id=>
  intro pc h G E w fr a res Q hw he hm b i;simp only[ft,adF]at h;subst h;simp only[bh,adF]at b;subst b;exact wpIn_exit (i _ _ _ ⟨G,G.le_refl,hw,he,hm,.refl E,rfl⟩)
 |ret=>
  intro pc h G E w fr a res Q hw he hm b i;simp only[ft,adF]at h;subst h;simp only[bh,adF]at b;subst b;exact wpIn_ret (i _ _ _ ⟨G,G.le_refl,hw,he,hm,.refl E,trivial⟩)
 |region id ops draw=>
  intro pc h;simp only[ft]at h;split at h
  ·rename_i xs R;split at h
   ·rename_i T;have hd: ∀x∈xs,∀d,x.dst=some d->d<nt:=by
     intro x K d Z;have:=afy.1 T x K;rw[Z]at this;simpa using this
    cases draw with
    |false=>
     simp only[afp,aha,adF]at h;subst h;intro G E w fr a res Q hw he hm b i;simp only[bh]at b;exact wpIn_region (Nj hC hg ops.toList _ xs (an0 ops) R hd G E w fr a res Q hw he hm b i)
    |true=>
     simp only[afK]at h;obtain⟨ys,W,rfl⟩:=afn.1 h;intro G E w fr a res Q hw he hm b i;simp only[bh]at b;exact hE _ C hC rows r n nt id ops xs ys R hd W G E w fr a res Q hw he hm b i
   ·cases h
  ·cases h
 |rangeFunc g ps assign body iha ihb=>
  intro pc h;simp only[ft]at h;split at h
  ·rename_i g' as bd h1 h2 h3;split at h
   ·rename_i h4;cases h;cases r with
    |none=>
     subst S;exact an3 hC hX h1 h2 h3 h4
    |some l=>
     subst S;intro G E w fr a res Q hw he hm b i;simp[bh]at b
   ·cases h
  ·cases h
 |scope c O=>intro pc h;simp[ft]at h
 |goto l=>intro pc h;simp[ft]at h
 |refuse s=>intro pc h;simp[ft]at h
end
section
variable{P:Program}{X:Ctx}{B:Nat}{aw:World}{dh:List Deferred}
def aog{x:Value}(h: (Instr.loadAt t x).run P w= .ok v w): (do loadVar t (<-asAddr x):Sem Value).run P w= .ok v w:=by
 cases x with
 |pointer a=>
  cases a with
  |some a=>simpa[Instr.loadAt,Instr.sureAddr,asAddr]using h
  |none=>simp[Instr.loadAt,Instr.sureAddr,Sem.run_bind,stuck,Sem.run,Result.andThen]at h
 |_=>simp[Instr.loadAt,Instr.sureAddr,Sem.run_bind,stuck,Sem.run,Result.andThen]at h
def Da(b:Array Value):ResultVar->Sem Value
 |.tmp t=>pure (b.getD t undef)
 |.cell a t=>do loadVar t (<-asAddr (b.getD a undef))
def aoh(fn:Func)(b:Array Value):results fn b=(do let vs<-fn.results.mapM (Da b);pure (if h:vs.size=1 then vs[0]else .tuple vs)):=by
 have:Da b=(λ
  |.tmp t=>pure (b.getD t undef)
  |.cell a t=>do loadVar t (<-asAddr (b.getD a undef))):=by
  funext x
  cases x<;>rfl
 unfold results;rw[this];rfl
theorem Nm(hg:fQ X B aw){G:Gh}{E:AS}{w:World}(k:aZ P B aw G E w){nt:Nat}{e:Env}{d:Array Value}(j:cK G nt e d): ∀ (l:List ResultVar) (rs:List RV) (vs:List AV),oT P l=some rs->kx X E e rs=some vs->
  ∃g,(l.mapM (Da d)).run P w= .ok g w/\aF G vs g
 | [],rs,vs,h,f=>by
   simp only[oT,adF]at h;subst h;simp only[kx,adF]at f;subst f;exact⟨[],by simp,by simp[aF]⟩
 |.tmp t::l,rs,vs,h,f=>by
  simp only[oT]at h;obtain⟨i,p,rfl⟩:=afn.1 h;simp only[kx,oS]at f;split at f
  ·rename_i c o;cases f;obtain⟨g,e1,r⟩:=Nm hg k j l i c p o;refine⟨d.getD t undef::g,?_,⟨_,_,rfl,MS j t,r⟩⟩;rw[azH];simp only[Sem.run_bind,Da,Sem.run_pure,Result.andThen_ok];rw[e1];simp only[Result.andThen_ok,Sem.run_pure]
  ·cases f
 |.cell a t::l,rs,vs,h,f=>by
  simp only[oT]at h;split at h
  ·rename_i b n i u s p;cases h;simp only[kx,oS]at f;split at f
   ·rename_i v o;split at f
    ·rename_i c m;cases f;obtain⟨g,e1,r⟩:=Nm hg k j l i c p m;obtain⟨v',y,q⟩:=Vy k hg u s (MS j a) o;have e3:=aog y;refine⟨v'::g,?_,⟨_,_,rfl,q,r⟩⟩;rw[azH];have x: (Da d (.cell a t)).run P w= .ok v' w:=e3;simp only[Sem.run_bind];rw[x];simp only[Result.andThen_ok];rw[e1];simp only[Result.andThen_ok,Sem.run_pure]
    ·cases f
   ·cases f
  ·cases h
def Db(hg:fQ X B aw){G:Gh}{E:AS}(k:aZ P B aw G E w){e:Env}{b:Array Value}(m:cK G nt e b){fn:Func}{f:List RV}{v:AV}(h:oT P fn.results.toList=some f)(d:gp X E e f=some v):
  ∃v',(results fn b).run P w= .ok v' w/\an G v v':=by
 have key: ∀vs,kx X E e f=some vs-> ∃a:List Value,aF G vs a/\ (results fn b).run P w= .ok (if h:a.toArray.size=1 then a.toArray[0]else .tuple a.toArray) w:=by
  intro vs c;obtain⟨a,e1,r⟩:=Nm hg k m _ f vs h c;refine⟨a,r,?_⟩;rw[aoh,Array.mapM_eq_mapM_toList];simp only[Sem.run_bind,Sem.run_map];rw[e1];simp[Result.andThen]
 unfold gp at d;split at d
 ·rename_i i c;cases d;obtain⟨a,r,e1⟩:=key _ c;simp only[aF]at r;obtain⟨v',q,rfl,j,rfl⟩:=r;exact⟨v',by rw[e1];simp,j⟩
 ·rename_i vs g c;cases d;obtain⟨a,r,e1⟩:=key _ c;have l:=r.length;refine⟨.tuple a.toArray,?_,⟨_,rfl,by simpa using r⟩⟩;rw[e1,dif_neg];intro n;have:vs.length=1:=by simpa[l]using n
  obtain⟨x,rfl⟩:=List.length_eq_one_iff.1 this;exact g x rfl
 ·cases d
theorem yr: ∀ (ms:lN) (E a:AS),dZ E ms=some a->E.Ext a
 | [],E,a,h=>by simp only[dZ,adF]at h;subst h;exact .refl E
 |m::ms,E,a,h=>by
  simp only[dZ]at h;split at h
  ·rename_i hm;exact(AS.Ext.set (o':=.dead) (refs:=0) hm λ_ _ _=>trivial).trans (yr ms _ a h)
  ·cases h
theorem yt{n:Nat}{fn:Func}{b:Array Value}{R:Ending->World->Prop}{u:FrameMode}(i:u≠ .run){G:Gh}: ∀ (ms:lN) (f:List Deferred) (E a:AS) (w:World),gN dh G ms f->aZ P B aw G E w->dZ E ms=some a->
  (∀w',aZ P B aw G a w'->LeavesInM (W none) n P fn b R dh u w')->LeavesInM (W none) n P fn b R f u w
 | [],f,E,a,w,e,hw,c,h=>by
   simp only[gN]at e;subst e;simp only[dZ,adF]at c;subst c;exact h w hw
 |m::ms,f,E,a,w,e,hw,c,h=>by
  simp only[gN]at e;obtain⟨d,r,k,rfl,p,j,o,l⟩:=e;simp only[dZ]at c;split at c
  ·rename_i hm;obtain⟨s,q⟩:=hw.obj m _ hm j.2;have g:=o s;subst g;refine⟨i,.inl ⟨_,fa w (G.bb m) (.deferred none),p,?_,?_⟩⟩
   ·simp[Instr.takeDeferred,getObj,setObj,Sem.run,q,fa]
   ·exact yt i ms r (E.set m .dead 0) a _ l (hw.put j 0 trivial) c h
  ·cases c
def Ha{G:Gh}{args:List AV}{a:Array Value}(e:aF G args a.toList)(j:args.length<=nt):cK G nt (ds args) (a++Array.replicate (nt-a.size) undef):=by
 have f:a.size=args.length:=by rw[<-akY];exact e.length
 refine⟨by simp;omega,λt v b=>?_,λt b=>?_⟩
 ·simp only[ds,afA];rw[Array.getElem?_append]at b;split at b
  ·rename_i h;have c:t<args.length:=by omega
   obtain⟨u,hu,g⟩:=e.get t args[t] (adM c);rw[adM c];have:some u=some v:=by rw[<-hu,<-b];simp
   cases this;exact g
  ·rename_i i;have d:args.length<=t:=by omega
   rw[akW d];rw[axs]at b;split at b
   ·cases b;exact yn
   ·cases b
 ·simp only[ds,afA];rw[akW (by omega)];rfl
theorem Ws{G:Gh}{nt:Nat}: ∀ (ps:lN) (args:List AV) (e:Env) (tmps:Array Value) (a:List Value),cK G nt e tmps->aF G args a->(∀p∈ps,p<nt)->cK G nt (iG e ps args) ((ps.zip a).foldl (λtmps (p:Nat×Value)=>tmps.setIfInBounds p.1 p.2) tmps)
 | [],args,e,tmps,a,he,b,c=>by simpa[iG]using he
 |p::ps,[],e,tmps,a,he,b,c=>by
  simp only[aF]at b;subst b;simpa[iG]using he
 |p::ps,x::xs,e,tmps,a,he,b,c=>by
  simp only[aF]at b;obtain⟨v,q,rfl,g,f⟩:=b;simp only[iG,List.zip_cons_cons,aqt];exact Ws ps xs _ _ q (he.set (c p (by simp)) g) f (λy d=>c y (by simp[d]))
def gP(P:Program)(B:Nat)(aw:World)(f:FuncId)(p:List AV->AS->Option aV):Prop:=
 ∀args E b,p args E=some b-> ∀G w (a:Array Value),aZ P B aw G E w->aF G args a.toList->C6 P (Ends P B aw G E b) ((callFunc f a).run P w)
section
variable{C:bA}(hC:fS P B aw C)(hg:fQ X B aw)(hX:oV P X)(hE:AG P X B aw){L:eK}(hL:yq L)
include hC hg hX hE hL
theorem aoi{pf:PF}(U:X.code f=some pf){args:List AV}{E:AS}{q:aV}(S:args.length<=pf.ntmps)
  (h:leave X E.heap.length E.lo pf (bh X C L f false pf.body {env:=ds args,marks:=[]} {heap:=E.heap,lo:=none})=some q) {G:Gh} {w:World} {b:Array Value} (z:aZ P B aw G E w) (T:aF G args b.toList):
  CallsIn (W none) 0 P f b w (Ends P B aw G E q):=by
 obtain⟨rows,fn,F,n⟩:=hX f pf U;obtain⟨c,V,l,m,A,D⟩:=G7 n;cases g:bh X C L f false pf.body {env:=ds args,marks:=[]} {heap:=E.heap,lo:=none}with
 |none=>rw[g]at h;simp[leave]at h
 |some res=>
  rw[g]at h;have he:cK G fn.ntmps (ds args) (b++Array.replicate (fn.ntmps-b.size) undef):=Ha T (by rw[<-A];exact S);refine axy F V trivial (wm hC hg hX hE hL (r:=none) rfl c pf.body l G {heap:=E.heap,lo:=none} w {env:=ds args,marks:=[]} _ res _ (z.lo none) he rfl g (λe a w' R=>?_)) rfl;obtain⟨Y,M,K,O,J,I,p⟩:=R;obtain⟨ex,fr,H⟩:=res;have k:qD X E.heap.length E.lo pf fr H=some q->LeavesInM (W none) 0 P fn a.tmps (Ends P B aw G E q) a.defers .returning w':=by
   intro h;unfold qD at h;split at h
   ·rename_i j o;split at h
    ·rename_i v Q;cases h;refine yt (by simp) fr.marks a.defers H j w' J K o (λs d=>?_);obtain⟨v',e1,N⟩:=Db hg d O m Q;refine⟨v',e1,?_⟩;obtain⟨i,y,x,u,t⟩:=ym z M d (I.trans (yr _ _ _ o)) N;exact⟨i,y,x,u,t⟩
    ·cases h
   ·cases h
  cases ex with
  |normal=>cases e<;>simp[gq]at p;exact k h
  |ret=>cases e<;>simp[gq]at p;exact k h
  |exit id=>simp[leave]at h
  |panic v=>
   cases e<;>simp[gq]at p;rename_i chain;obtain⟨v',rfl,rv⟩:=p;simp only[leave]at h;split at h
   ·rename_i j o;cases h;refine yt (by simp) fr.marks a.defers H j w' J K o (λs d=>?_);obtain⟨i,y,x,u,t⟩:=ym z M d (I.trans (yr _ _ _ o)) rv;exact⟨i,v',rfl,y,x,u,t⟩
   ·cases h
theorem aoj{args:List AV}{E:AS}{cr:aV}(h:lU X C L l args E=some cr){G:Gh}(hw:aZ P B aw G E w)(T:G.on l)(hl:aF G args c.toList):
  C6 P (Ends P B aw G E cr) ((Instr.yield (G.bb l) c).run P w):=by
 unfold lU at h;split at h
 ·rename_i st aB4 f env ps assign body aok;split at h
  ·rename_i U;obtain⟨o0,b,ob,os,oj,_,oe,op,Nk,rows,oa,obd⟩:=hw.obj l _ aok T.2;have sd:c.size=args.length:=by rw[<-akY];exact hl.length
   have yu:b.params.size=ps.length:=by rw[<-op];simp
   have hy: (Instr.yield (G.bb l) c).run P w= .ok (.round (G.bb l) b.fn ((b.params.zip c).foldl (λtmps (t,a)=>tmps.setIfInBounds t a) b.tmps) b.assign b.body) w:=by
    simp[Instr.yield,Instr.getLoop,getObj,Sem.run,ob,sd,yu,U]
   rw[hy];have htm: (b.params.zip c).foldl (λtmps (t,a)=>tmps.setIfInBounds t a) b.tmps=(ps.zip c.toList).foldl (λtmps (p:Nat×Value)=>tmps.setIfInBounds p.1 p.2) b.tmps:=by
    rw[<-Array.foldl_toList,Array.toList_zip,op]
   rw[htm];split at h
   ·rename_i fr Z ha;split at h
    ·rename_i g f' u S V ju I;have he:=Ws ps args env b.tmps c.toList oe hl (λp hp=>by simpa using afy.1 Nk p hp);refine roundIn_of_wpIn (F:=W none) trivial (wm hC hg hX hE hL (r:=some (G.bb l)) (rd:=true) (bO:=f) rfl b.assign assign oa G {heap:=E.heap,lo:=none} w {env:=iG env ps args,marks:=[]} _ _ _ (hw.lo none) he rfl ha (λe a Y hr=>?_));obtain⟨z,q1,q2,q3,q4,q5,q6⟩:=hr;cases e<;>simp[gq]at q6;obtain⟨p0,y,pb,pst,pj,_,pe,pp,C8,aoo⟩:=q2.obj l _ I (q1.on l T).2;have k:z.on l:=q1.on l T;have hlG:G.on l:=T;have M:z.bb l=G.bb l:=(q1.same l hlG (by rw[p0,o0])).1;refine⟨fa Y (G.bb l) (.loop {y with state:=.busy}),?_,?_⟩
     ·rw[<-M];simp[Instr.beginRound,Instr.getLoop,getObj,setObj,Sem.run,pb,pst,fa]
     ·have aoq:aZ P B aw z (Z.set l (.loop .busy g f' u S V ju) 0) (fa Y (G.bb l) (.loop {y with state:=.busy})):=by
        have:=q2.put k (O:=.loop {y with state:=.busy}) (o':=.loop .busy g f' u S V ju) 0 ⟨p0,{y with state:=.busy},uH (q2.low _ k).2,rfl,pj,trivial,pe,pp,C8,aoo⟩;rw[M]at this;exact this
      cases wo:bh X C L f true body fr (Z.set l (.loop .busy g f' u S V ju) 0)with
      |none=>rw[wo]at h;simp[endRound]at h
      |some res=>
       rw[wo]at h;refine wm hC hg hX hE hL (r:=some (G.bb l)) (rd:=true) (bO:=f) rfl b.body body obd z _ _ fr a res _ aoq q3 q4 wo (λe a' D hr=>?_);obtain⟨Q,u1,u2,u3,u4,u5,u6⟩:=hr;obtain⟨ex,Hb,R⟩:=res;simp only[endRound]at h;split at h
       ·rename_i j aB5 aB6 N d i o m hj H;cases h;obtain⟨v0,x,vb,vst,vj,_,ve,vp,vps,aos⟩:=u2.obj l _ H (u1.on l k).2;have J:Q.on l:=u1.on l k;have K:Q.bb l=G.bb l:=by rw[<-M];exact(u1.same l k (by rw[v0,p0])).1
        have aot:=Gh.le_trans q1 u1;have aou:AS.Ext {heap:=E.heap,lo:=none} (R.set l (.loop (if j.isNone then .ready else .done) j N d i o m) 0):=
         ((q5.trans (AS.Ext.set (o':=.loop .busy g f' u S V ju) (refs:=0) I λn hn _=>hn)).trans u5).trans (AS.Ext.set (o':=.loop (if j.isNone then .ready else .done) j N d i o m) (refs:=0) H λn hn _=>hn)
        have fin: ∀ (q:Option Code),yd j q-> ∃v w',(Instr.endRound (G.bb l) q).run P D= .ok v w'/\Ends P B aw G E (.ret (.bool j.isNone) (finish E.heap.length E.lo (.bool j.isNone) (R.set l (.loop (if j.isNone then .ready else .done) j N d i o m) 0)).2) (.returned v) w':=by
         intro q A;have s:q.isNone=j.isNone:=by
          cases j with
          |none=>simp only[yd]at A;subst A;rfl
          |some p=>cases p<;>simp only[yd]at A<;>first|exact A.elim| (subst A;rfl)
         refine⟨.bool q.isNone,fa D (G.bb l) (.loop {x with state:=if q.isNone then .ready else .done,pending:=q}),?_,?_⟩
         ·rw[<-K];simp[Instr.endRound,Instr.getLoop,getObj,setObj,Sem.run,vb,fa]
         ·have aov:aZ P B aw Q (R.set l (.loop (if j.isNone then .ready else .done) j N d i o m) 0) (fa D (G.bb l) (.loop {x with state:=if q.isNone then .ready else .done,pending:=q})):=by
            have:=u2.put J (O:=.loop {x with state:=if q.isNone then .ready else .done,pending:=q}) (o':=.loop (if j.isNone then .ready else .done) j N d i o m) 0
             ⟨v0,{x with state:=if q.isNone then .ready else .done,pending:=q},uH (u2.low _ J).2,by show(if q.isNone=true then LoopState.ready else LoopState.done)=_;rw[s],A,trivial,ve,vp,vps,aos⟩
            rw[K]at this;exact this
          obtain⟨aow,s1,s2,s3,s4⟩:=ym (v:=.bool j.isNone) (v':=.bool q.isNone) hw aot aov aou (by simp[an,s]);exact⟨aow,s1,s2,by simp[an,s],s4⟩
        cases ex with
        |normal=>
         simp only[qE,adF]at hj;subst hj;cases e<;>simp[gq]at u6;exact fin none rfl
        |ret=>
         simp only[qE,adF]at hj;subst hj;cases e<;>simp[gq]at u6;exact fin (some .ret) rfl
        |exit id=>
         simp only[qE,adF]at hj;subst hj;cases e<;>simp[gq]at u6;subst u6;exact fin (some (.exit id)) rfl
        |panic v=>simp[qE]at hj
       ·cases h
    ·cases h
   ·cases h
  ·cases h
 ·cases h
theorem aox(J: ∀f p,X.bW f=some p->gP P B aw f p):fS P B aw (step X C L):=by
 intro fv args E N h G w K b hw g z;unfold step at h;split at h
 ·rename_i f first cap
  simp only[an,mX]at g;obtain⟨M,a,d,rfl,rfl,t,A⟩:=g;have i:wk (.func (.func f) a d) b=callFunc f (a++b++d):=rfl;rw[i];have e:aF G (first++args++cap) (a++b++d).toList:=by
   simp only[Array.toList_append];exact(t.append z).append A
  split at h
  ·rename_i p D;exact J f p D _ _ _ h G w _ hw e
  ·split at h
   ·rename_i pf q;split at h
    ·rename_i F;obtain⟨rows,fn,v,o⟩:=hX f pf q;obtain⟨c,I,_,_,_,m⟩:=G7 o;have j:=Wn (P:=P) v I m a d b w;rw[i]at j;rw[j];exact aoi hC hg hX hE hL q F h hw e
    ·cases h
   ·cases h
 ·rename_i l cap;simp only[an,mX]at g;obtain⟨M,a,d,rfl,⟨s,k,rfl,H⟩,t,A⟩:=g;have n:G.aj l=0:=by
   unfold lU at h;split at h
   ·rename_i st y f env ps assign body r;exact(hw.obj l _ r s.2).1
   ·cases h
  have u:=H n;subst u;have x:a= #[]:=by
   simp only[aF]at t;apply apK;simpa using t
  subst x;have i:wk (.func (.yield (G.bb l)) #[] d) b=Instr.yield (G.bb l) (#[]++b):=rfl;rw[i,Array.empty_append];exact aoj hC hg hX hE hL h hw s z
 ·cases h
end
end
section
variable{X:Ctx}
theorem nS{x:aq}{e a:Env}(h: ∀t∈x.tmps,e t=a t):x.get e=x.get a:=by
 cases x with
 |t i=>exact h i (by simp[aq.tmps])
 |c v=>rfl
def Dc{x:Option aq}{e a:Env}(h: ∀y∈x.toList,∀t∈y.tmps,e t=a t):x.map (·.get e)=x.map (·.get a):=by
 cases x with
 |none=>rfl
 |some y=>grind [nS]
def Hc{xs:List aq}{e a:Env}(h: ∀t∈im xs,e t=a t):xs.map (·.get e)=xs.map (·.get a):=by
 apply akJ;intro x b;exact nS λt c=>h t (by simp only[im,aop];grind)
def aoy{a:List (Nat×Nat×aq)}{e b:Env}(h: ∀t∈im (a.map (·.2.2)),e t=b t):a.map (λp=>(p.1,p.2.1,p.2.2.get e))=a.map (λp=>(p.1,p.2.1,p.2.2.get b)):=by
 apply akJ;intro p d;rw[nS λt c=>h t (by simp only[im,aop,afq];grind)]
def Wt{a b:aq}{e d:Env}(h: ∀t∈im [a,b],e t=d t):a.get e=a.get d/\b.get e=b.get d:=
 ⟨nS λt c=>h t (by simp[im,c]),nS λt c=>h t (by simp[im,c])⟩
def aoz{a b c:aq}{e f:Env}(h: ∀t∈im [a,b,c],e t=f t):a.get e=a.get f/\b.get e=b.get f/\c.get e=c.get f:=
 ⟨nS λt d=>h t (by simp[im,d]),nS λt d=>h t (by simp[im,d]),nS λt d=>h t (by simp[im,d])⟩
def Hd{C:bA}{i:I}{e m:Env}(h: ∀t∈i.reads,e t=m t)(E:AS):exec X C i e E=exec X C i m E:=by
 cases i with
 |mov x|box x|nilck x|un _ x|conv _ x|s2b x|mki _ x|ta _ x _ _|ext x _|len _ x|clear _ x|panic x|faddr _ x|fld _ _ _ x|load _ _ x=>
  simp only[exec,nS h]
 |alloc _|nO=>rfl
 |pick a b c|oQ _ a b c=>obtain⟨l,k,o⟩:=aoz h;simp only[exec,l,k,o]
 |build _ ps|bslice _ _ ps|rX _ _ _ ps=>simp only[exec,aoy h]
 |store _ a v|bin _ a v|shf _ a v|eq _ a v|ne _ a v|CO _ _ _ a v|iaddra _ _ a v|iaddrs _ a v|idxa _ _ _ a v|idxs a v|lookup _ _ a v _|append _ _ _ a v|copy _ a v=>
  obtain⟨l,k⟩:=Wt h;simp only[exec,l,k]
 |mkf f a b=>
  simp only[exec];rw[Hc (xs:=a) λt d=>h t (by simp only[I.reads,im,alZ,aeg];exact .inl d),
   Hc (xs:=b) λt d=>h t (by simp only[I.reads,im,alZ,aeg];exact .inr d)]
 |slstr x lo j|slarr _ _ x lo j=>
  simp only[I.reads,im,aob,alZ,aeg,aop]at h;simp only[exec];rw[nS λt d=>h t (.inl d),Dc λy g t d=>h t (.inr (.inl ⟨y,g,d⟩)),Dc (x:=j) λy g t d=>h t (.inr (.inr ⟨y,g,d⟩))]
 |slsl _ x lo j n=>
  simp only[I.reads,im,aob,alZ,aeg,aop]at h;simp only[exec];rw[nS λt d=>h t (.inl d),Dc (x:=lo) λy g t d=>h t (.inr (.inl (.inl ⟨y,g,d⟩))),Dc (x:=j) λy g t d=>h t (.inr (.inl (.inr ⟨y,g,d⟩))),Dc (x:=n) λy g t d=>h t (.inr (.inr ⟨y,g,d⟩))]
 |max xs|min xs=>simp only[exec,Hc h]
 |call f as=>
  simp only[I.reads,im,aob,aeg]at h;simp only[exec];rw[nS λt d=>h t (.inl d),Hc λt d=>h t (.inr d)]
def He{i:I}{e b:Env}(h: ∀t∈i.reads,e t=b t)(E c:AS):a0 i e E c=a0 i b E c:=by
 cases i with
 |load _ _ x=>simp only[a0,nS h]
 |store _ a v=>obtain⟨d,_⟩:=Wt h;simp only[a0,d]
 |_=>rfl
def aoA{C:bA}{i:I}{e:Env}(j:i.cls=0): ∃o,∀E,exec X C i e E=gn E o:=by
 cases i<;>simp only[I.cls,reduceCtorEq]at j
 case mov x=>exact⟨some _,λ_=>rfl⟩
 case mki t x=>exact⟨some _,λ_=>rfl⟩
 case mkf f a b=>exact⟨some _,λ_=>rfl⟩
 case nilck x=>exact⟨_,λ_=>rfl⟩
 case bin op x y=>exact⟨_,λ_=>rfl⟩
 case un op x=>exact⟨_,λ_=>rfl⟩
 case slstr x lo g=>exact⟨_,λ_=>rfl⟩
 case slsl n x lo g l=>exact⟨_,λ_=>rfl⟩
 case slarr n sz x lo g=>exact⟨_,λ_=>rfl⟩
 case faddr o x=>exact⟨_,λ_=>rfl⟩
 case iaddra n sz x i=>exact⟨_,λ_=>rfl⟩
 case iaddrs sz x i=>exact⟨_,λ_=>rfl⟩
 case idxa b n sz x i=>exact⟨_,λ_=>rfl⟩
 case idxs x i=>exact⟨_,λ_=>rfl⟩
 case ta z x t ok=>exact⟨_,λ_=>rfl⟩
 case max xs=>exact⟨_,λ_=>rfl⟩
 case min xs=>exact⟨_,λ_=>rfl⟩
 case pick c a b=>cases h:c.get e<;>first|exact⟨some _,λ_=>by simp only[exec,h];rfl⟩|exact⟨none,λ_=>by simp only[exec,h];rfl⟩
 case build z ps=>cases h:eJ z (ps.map λp=>(p.1,p.2.1,p.2.2.get e))<;>first|exact⟨some _,λ_=>by simp only[exec,h];rfl⟩|exact⟨none,λ_=>by simp only[exec,h];rfl⟩
 case bslice z n ps=>cases h:eJ (List.replicate n z).flatten (ps.map λp=>(p.1,p.2.1,p.2.2.get e))<;>first|exact⟨some _,λ_=>by simp only[exec,h];rfl⟩|exact⟨none,λ_=>by simp only[exec,h];rfl⟩
 case shf op x y=>
  cases h:x.get e<;>cases d:y.get e<;>first|exact⟨none,λ_=>by simp only[exec,h,d];rfl⟩|exact⟨_,λ_=>by simp only[exec,h,d];rfl⟩
 case eq k x y=>cases h:dJ k (x.get e) (y.get e)<;>first|exact⟨some _,λ_=>by simp only[exec,h];rfl⟩|exact⟨none,λ_=>by simp only[exec,h];rfl⟩
 case ne k x y=>cases h:dJ k (x.get e) (y.get e)<;>first|exact⟨some _,λ_=>by simp only[exec,h];rfl⟩|exact⟨none,λ_=>by simp only[exec,h];rfl⟩
 case conv k x=>cases h:x.get e<;>first|exact⟨some _,λ_=>by simp only[exec,h];rfl⟩|exact⟨none,λ_=>by simp only[exec,h];rfl⟩
 case s2b x=>
  cases h:x.get e with
  |str s=>
   by_cases d:s.size<=room
   ·exact⟨some _,λ_=>by simp only[exec,h,d,afK];rfl⟩
   ·exact⟨none,λ_=>by simp only[exec,h,d,aha];rfl⟩
  |_=>exact⟨none,λ_=>by simp only[exec,h];rfl⟩
 case fld b n off x=>cases h:x.get e<;>first|exact⟨none,λ_=>by simp only[exec,h];rfl⟩|exact⟨_,λ_=>by simp only[exec,h];rfl⟩
 case ext x i=>cases h:x.get e<;>first|exact⟨none,λ_=>by simp only[exec,h];rfl⟩|exact⟨_,λ_=>by simp only[exec,h];rfl⟩
theorem Wu{i:I}(a:i.cls=0)(e:Env)(E b:AS):a0 i e E b= .no:=by
 cases i<;>simp only[I.cls,reduceCtorEq]at a<;>rfl
theorem yv{C:bA}{i:I}{e:Env}{E m:AS}{v:AV}(j:exec X C i e E=some (.ok v m))(g:a0 i e E m= .no):m=E/\ ∀d,exec X C i e d=some (.ok v d)/\a0 i e d d= .no:=by
 by_cases p:i.cls=0
 ·obtain⟨o,ho⟩:=aoA (X:=X) (C:=C) (e:=e) p;rw[ho]at j;obtain⟨rfl,rfl⟩:=eD j;exact⟨rfl,λd=>⟨by rw[ho];rfl,Wu p e _ _⟩⟩
 ·cases i<;>simp only[I.cls,not_true_eq_false]at p
  case load b n x=>
   simp only[exec]at j;obtain⟨h,rfl⟩:=eD j;refine⟨rfl,λd=>?_⟩;simp only[a0]at g⊢;unfold cq at h;split at g<;>first|cases g|skip
   ·rename_i l;rw[l]at h;simp only at h;simp[exec,gn,cq,l,h]
   ·rename_i l;rw[l]at h;simp only at h;simp[exec,gn,cq,l,h]
  case store n a x=>simp only[a0]at g;split at g<;>cases g
  case len k x=>
   simp only[exec]at j;obtain⟨h,rfl⟩:=eD j;refine⟨rfl,λd=>⟨?_,g⟩⟩;have:gv d k (x.get e)=gv m k (x.get e):=by
    generalize x.get e=y;cases k<;>first|rfl| (cases y<;>first|rfl| (rename_i c;cases c<;>rfl))| (simp only[a0]at g;cases g)
   simp only[exec,this,h,gn]
  case call f as=>simp only[a0]at g;split at g<;>cases g
  all_goals simp[a0]at g
end
section
variable{X:Ctx}
theorem sg{C:bA}{i:I}{e:Env}{E c:AS}{v:AV}(d:exec X C i e E=some (.ok v c))(g:a0 i e E c= .q\/ ∃id off n,a0 i e E c= .rd id off n):c=E:=by
 cases i with
 |load b n x=>exact(eD d).2
 |lookup j z m k ok=>exact(eD d).2
 |len k x=>exact(eD d).2
 |call f as=>
  simp only[a0]at g
  grind
 |store n a x=>
  simp only[a0]at g
  grind
 |_=>rcases g with h| ⟨_,_,_,h⟩<;>simp[a0]at h
def AH:Option ae->Option (List AV)
 |some (.box cs _)=>some cs
 |_=>none
def wq{E:AS}{b:Bool}{id off:Nat}:cq X E b n (.ptr id off)=(AH E.heap[id]?).bind λcs=>part b n cs off:=by
 unfold cq;simp only;cases h:E.heap[id]? with
 |none=>rfl
 |some o=>cases o<;>simp[AH]
theorem Wv{cs vs:List AV}{off:Nat}(h:off+vs.length<=cs.length)(a:j<off\/off+vs.length<=j): (aO cs off vs)[j]?=cs[j]?:=by
 unfold aO;rcases a with a|a
 ·grind
 ·rw[afu (by simp;omega),afu (by simp;omega),akX]
  congr 1
  simp;omega
def aoB{cs vs:List AV}{off a:Nat}{b:Bool}(h:a+vs.length<=cs.length)(c:off+Nat.max n 1<=a\/a+vs.length<=off):part b n (aO cs a vs) off=part b n cs off:=by
 have hm:n<=Nat.max n 1:=aqd _ _;unfold part;rw[M5 h];cases b with
 |false=>grind [Wv]
 |true=>
  simp only[afK];split
  ·congr 2
   apply anT;intro j;simp only[anB,akX];split
   ·exact Wv h (by omega)
   ·rfl
  ·rfl
def Ww{C:bA}{e:Env}{E s:AS}{v:AV}{a x:aq}{c:Nat}(l:exec X C (.store m a x) e E=some (.ok v s))(j:a0 (.store m a x) e E s= .wr d c k)
  {b:Bool} {id off:Nat} (w:id≠d\/off+Nat.max n 1<=c\/c+k<=off):cq X s b n (.ptr id off)=cq X E b n (.ptr id off):=by
 simp only[a0]at j;split at j
 ·rename_i i o t;cases j;simp only[exec,t,kq]at l;split at l
  ·rename_i u p;cases l;split at p
   ·rename_i cs g;split at p
    ·cases p;rw[wq,wq];by_cases f:id=d
     ·subst f;have q:id<E.heap.length:=(acW.1 g).1;have r:off+Nat.max n 1<=c\/c+(x.get e).cells.length<=off:=by omega
      simp only[AS.set,aed q,AH,g,aom];exact aoB (by omega) r
     ·simp[AS.set,acT (λh=>f h.symm)]
    grind
   grind
  grind
 ·cases j
 grind
theorem aoC{E i:AS}{ty:TypeId}{bytes:Nat}{s v:AV}{ys:List (List AV)}(h:dL E ty sz bytes s ys=some (v,i)){b:Bool}{id off:Nat}:cq X i b n (.ptr id off)=cq X E b n (.ptr id off):=by
 have push: ∀ (aj sz:Nat) (ty:TypeId) (af:List (List AV)),cq X (E.push (.row aj sz ty af)) b n (.ptr id off)=cq X E b n (.ptr id off):=by
  intro aj sz ty af;rw[wq,wq];simp only[AS.push,List.getElem?_append];split
  ·rfl
  ·rw[akW (by omega:E.heap.length<=id)];cases l:id-E.heap.length<;>simp[AH]
 unfold dL at h;split at h
 ·split at h
  ·split at h
   ·cases h;rfl
   ·split at h
    ·cases h;exact push _ _ _ _
    ·cases h
  ·split at h
   ·cases h;rfl
   ·split at h
    ·cases h;exact push _ _ _ _
    ·cases h
  ·split at h
   ·cases h;rfl
   ·cases h
  ·rename_i a aj d g len cF;split at h
   ·rename_i f k j af he;split at h
    ·split at h
     ·cases h;rfl
     ·split at h
      ·cases h;exact push _ _ _ _
      ·cases h;rw[wq,wq]
       congr 1
       by_cases c:a=id
       ·subst c;have e:a<E.heap.length:=(acW.1 he).1;rw[he];simp[AS.set,e,AH]
       ·simp[AS.set,acT c]
    ·cases h
   ·cases h
  ·cases h
 grind
def aoD{E e:AS}{a o:Nat}{x:AV}(h:kq E n (.dw a aj i o) x=some e){b:Bool}{id off:Nat}:cq X e b m (.ptr id off)=cq X E b m (.ptr id off):=by
 unfold kq at h;simp only at h;split at h
 ·rename_i w sz ty af he;split at h
  ·split at h
   ·cases h;rw[wq,wq];by_cases c:id=a
    ·subst c;have d:id<E.heap.length:=(acW.1 he).1;simp[AS.set,aed d,AH,he]
    ·simp[AS.set,acT (λh=>c h.symm)]
   grind
  grind
 grind
def Wx{C:bA}{i:I}{e:Env}{E f:AS}{v:AV}(d:exec X C i e E=some (.ok v f))(c:a0 i e E f= .app){b:Bool}{id off:Nat}:cq X f b n (.ptr id off)=cq X E b n (.ptr id off):=by
 cases i with
 |append ty sz bytes s x=>
  simp only[exec]at d;split at d
  ·grind [aoC]
  grind
 |load _ _ _=>simp only[a0]at c;grind
 |store m a x=>
  simp only[a0]at c;split at c<;>first|cases c|skip
  rename_i h;simp only[exec,h]at d;split at d
  ·rename_i g;cases d;exact aoD g
  ·cases d
 |len k x=>simp only[a0]at c;split at c<;>cases c
 |call _ _=>simp only[a0]at c;split at c<;>cases c
 |_=>simp[a0]at c
def Nn{i:I}{e:Env}{E d:AS}{id off:Nat}(c:a0 i e E d= .rd id off k): ∃b n a,i= .load b n a/\a.get e= .ptr id off/\k=Nat.max n 1:=by
 cases i with
 |load b n a=>
  simp only[a0]at c
  grind
 |store _ _ _=>simp only[a0]at c;grind
 |len k x=>simp only[a0]at c;grind
 |call _ _=>simp only[a0]at c;grind
 |_=>trivial
def Hf{i:I}{e:Env}{E d:AS}{id off:Nat}(c:a0 i e E d= .wr id off k): ∃n a x,i= .store n a x:=by
 cases i with
 |load b n a=>simp only[a0]at c;grind
 |store n a x=>simp
 |len k x=>simp only[a0]at c;grind
 |call _ _=>simp only[a0]at c;grind
 |_=>trivial
def AI{C:bA}{b:Bool}{a:aq}{e:Env}{E c:AS}{p:AV}{v:AV}{i:AS}(g:a.get e=p)(h:cq X c b n p=cq X E b n p)(d:exec X C (.load b n a) e E=some (.ok v i)):
  exec X C (.load b n a) e c=some (.ok v c):=by
 simp only[exec,g]at d⊢;obtain⟨f,_⟩:=eD d;rw[h,f];rfl
def Dd{i:I}{e:Env}{E d:AS}(c:a0 i e E d= .rr): ∃b n a id aj j o,i= .load b n a/\a.get e= .dw id aj j o:=by
 cases i with
 |load b n a=>
  simp only[a0]at c;split at c<;>cases c;rename_i h;exact⟨b,n,a,_,_,_,_,rfl,h⟩
 |store _ _ _=>simp only[a0]at c;split at c<;>cases c
 |len k x=>simp only[a0]at c;split at c<;>cases c
 |call _ _=>simp only[a0]at c;split at c<;>cases c
 |_=>simp[a0]at c
def Wy{C:bA}{e:Env}{E s:AS}{v:AV}{a x:aq}{c:Nat}(q:exec X C (.store m a x) e E=some (.ok v s))(l:a0 (.store m a x) e E s= .wr d c k)
  {b:Bool} {id o:Nat}:cq X s b n (.dw id aj j o)=cq X E b n (.dw id aj j o):=by
 simp only[a0]at l;split at l
 ·rename_i i o' t;cases l;simp only[exec,t,kq]at q;split at q
  ·rename_i u f;cases q;split at f
   ·rename_i cs p;split at f
    ·cases f;unfold cq;by_cases g:id=d
     ·subst g;have r:id<E.heap.length:=(acW.1 p).1;simp[AS.set,aed r,p]
     ·simp[AS.set,acT (λh=>g h.symm)]
    ·cases f
   ·cases f
  ·cases q
 ·cases l
 ·cases l
def aoE{C:bA}{x y:I}{B u:Env}{E g c:AS}{v w:AV}(p:exec X C x B E=some (.ok v g))(k:exec X C y u g=some (.ok w c))(f: (a0 x B E g).ok (a0 y u g c)=true):
  ∃D,exec X C y u E=some (.ok w D)/\exec X C x B D=some (.ok v c)/\a0 y u E D=a0 y u g c/\a0 x B D c=a0 x B E g:=by
 cases i:a0 x B E g with
 |no=>grind [yv]
 |rd id off n=>
  have e1:=sg p (.inr ⟨_,_,_,i⟩);subst e1;obtain⟨b,m,a,rfl,z,rfl⟩:=Nn i;cases d:a0 y u g c with
  |no=>grind [yv]
  |rd t r A=>
   have s:=sg k (.inr ⟨_,_,_,d⟩);grind
  |q=>grind [sg]
  |wr t r A=>
   obtain⟨m',a',F,rfl⟩:=Hf d;rw[i,d]at f;refine⟨c,k,AI z (Ww k d ?_) p,d,by rw[<-i];rfl⟩;simp only[FP.ok,anV,bne_iff_ne,agQ]at f;rcases f with(h|h)|h
   ·exact .inl h
   ·exact .inr (.inl h)
   ·exact .inr (.inr h)
  |rr=>
   obtain⟨_,_,_,_,_,_,_,rfl,_⟩:=Dd d;have s:=(eD k).2;subst s;exact⟨_,k,p,d,i⟩
  |app=>exact⟨c,k,AI z (Wx k d) p,d,by rw[<-i];rfl⟩
  |all=>rw[i,d]at f;simp[FP.ok]at f
 |q=>
  have e1:=sg p (.inl i);subst e1;cases d:a0 y u g c with
  |no=>
   obtain⟨rfl,l⟩:=yv k d;exact⟨c,k,p,d,i⟩
  |rd t r A=>
   have s:=sg k (.inr ⟨_,_,_,d⟩);subst s;exact⟨c,k,p,d,i⟩
  |q=>
   have s:=sg k (.inl d);subst s;exact⟨c,k,p,d,i⟩
  |rr=>
   obtain⟨_,_,_,_,_,_,_,rfl,_⟩:=Dd d;have s:=(eD k).2;subst s;exact⟨_,k,p,d,i⟩
  |wr _ _ _=>rw[i,d]at f;simp[FP.ok]at f
  |app=>rw[i,d]at f;simp[FP.ok]at f
  |all=>rw[i,d]at f;simp[FP.ok]at f
 |wr id off n=>
  cases d:a0 y u g c with
  |no=>
   obtain⟨rfl,l⟩:=yv k d;exact⟨E,(l E).1,p,(l E).2,i⟩
  |rd t r A=>
   have s:=sg k (.inr ⟨_,_,_,d⟩);subst s;obtain⟨b,m,a,rfl,z,rfl⟩:=Nn d;obtain⟨m',a',F,rfl⟩:=Hf i;rw[i,d]at f;refine⟨E,AI z (Ww p i ?_).symm k,p,by rw[<-d];rfl,i⟩;simp only[FP.ok,anV,bne_iff_ne,agQ]at f;rcases f with(h|h)|h
   ·exact .inl (λe=>h e.symm)
   ·exact .inr (.inr h)
   ·exact .inr (.inl h)
  |rr=>
   obtain⟨b,m,a,t,aj,j,o,rfl,z⟩:=Dd d;have s:=(eD k).2;subst s;obtain⟨m',a',F,rfl⟩:=Hf i;exact⟨E,AI z (Wy p i).symm k,p,by rw[<-d];rfl,i⟩
  |_=>rw[i,d]at f;simp[FP.ok]at f
 |app=>
  cases d:a0 y u g c with
  |no=>
   obtain⟨rfl,l⟩:=yv k d;exact⟨E,(l E).1,p,(l E).2,i⟩
  |rd t r A=>
   have s:=sg k (.inr ⟨_,_,_,d⟩);subst s;obtain⟨b,m,a,rfl,z,rfl⟩:=Nn d;exact⟨E,AI z (Wx p i).symm k,p,by rw[<-d];rfl,i⟩
  |_=>rw[i,d]at f;simp[FP.ok]at f
 |rr=>
  obtain⟨b,m,a,t,aj,j,o,rfl,z⟩:=Dd i;have e1:=(eD p).2;subst e1;cases d:a0 y u g c with
  |no=>
   obtain⟨rfl,l⟩:=yv k d;exact⟨c,k,p,d,i⟩
  |rd t r A=>
   have s:=sg k (.inr ⟨_,_,_,d⟩);subst s;exact⟨_,k,p,d,i⟩
  |q=>
   have s:=sg k (.inl d);subst s;exact⟨_,k,p,d,i⟩
  |rr=>
   obtain⟨_,_,_,_,_,_,_,rfl,_⟩:=Dd d;have s:=(eD k).2;subst s;exact⟨_,k,p,d,i⟩
  |wr t r A=>
   obtain⟨m',a',F,rfl⟩:=Hf d;exact⟨c,k,AI z (Wy k d) p,d,by rw[<-i];rfl⟩
  |_=>rw[i,d]at f;simp[FP.ok]at f
 |all=>
  cases d:a0 y u g c with
  |no=>
   obtain⟨rfl,l⟩:=yv k d;exact⟨E,(l E).1,p,(l E).2,i⟩
  |_=>rw[i,d]at f;simp[FP.ok]at f
end
end Go.Den
