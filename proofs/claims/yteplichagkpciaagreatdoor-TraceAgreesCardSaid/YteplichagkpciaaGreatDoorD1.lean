/- An evaluator, sound; no condition. -/
import GoSem.Step
import Derived.Below
import Derived.Laws.Rows
import Derived.ChangeKeysEq
import Derived.Laws.Entries
import Derived.Laws.StructEq
import Derived.Great.BuildSlice
import Derived.Laws.BytesString
import Derived.Laws.IdiomStrings
import Derived.Laws.MakeOwn
import Derived.Lib.UnsafeStr
import Derived.RangeFuncLeaves
set_option linter.all false
set_option maxRecDepth 10000
set_option maxHeartbeats 1000000
namespace Go.Den
open Go Go.RowKit
abbrev oN:=Option Nat
abbrev lN:=List Nat
abbrev lB:=List UInt8
variable{i j b nt m ak sz k n d l:Nat}{a:Act}{vs:List Value}{v v':Value}{w w':World}{O:Obj}{c:Array Value}{t e:TypeId}{aj:Option Value}{r:Bool}{f:FuncId}
def ach:=@List.getElem?_set_ne
def acj:=@List.getElem?_append_left
def ack:=@List.getElem?_eq_some_iff
def ac0:=@if_neg
def ac1:=@Option.some.injEq
def ac6:=@if_pos
def ac7:=@List.getElem?_eq_getElem
def ac8:=@List.append_assoc
def ada:=@Go.run_underlying
def adz:=@List.take_of_length_le
def adA:=@Nat.le_refl
def adB:=@List.mem_append
def adC:=@Nat.zero_le
def aeG:=@List.length_append
def aeI:=@List.getElem?_set_self
def aeJ:=@Bool.false_eq_true
def aeK:=@List.length_map
def aeL:=@Option.map_eq_some_iff
def aeM:=@Option.map_some
def aeN:=@List.getD_eq_getElem?_getD
def aeO:=@List.mem_map
def aeP:=@List.map_append
def aeQ:=@List.take_length
def aeS:=@Nat.add_zero
def aeT:=@List.all_eq_true
def aeV:=@List.length_cons
def aeW:=@Bool.and_eq_true
def aeY:=@List.getElem?_append_right
def aeZ:=@List.mem_cons
def ae1:=@decide_eq_true_eq
def ae2:=@List.mem_filter
def ae4:=@if_true
def af9:=@List.length_take
def aga:=@Nat.le_trans
def agn:=@List.take_add_one
def ags:=@if_false
def agt:=@List.nil_append
def ahz:=@List.drop_eq_nil_of_le
def ahR:=@congrArg
def ahW:=@List.mem_of_mem_take
def ah6:=@List.cons_append
def ah7:=@Nat.lt_of_lt_of_le
def ah8:=@Option.some.inj
def ajv:=@Nat.mul_le_mul_right
def ajx:=@List.length_eq_zero_iff
def aj9:=@List.map_cons
def aka:=@Nat.zero_add
def akb:=@Nat.add_sub_cancel_left
def akh:=@List.getElem?_eq_none
def aki:=@List.getElem?_drop
def amD:=@Array.length_toList
def amE:=@Array.getElem?_setIfInBounds
def amF:=@List.mem_of_getElem?
def amU:=@List.getElem?_take
def amV:=@Array.getElem?_eq_some_iff
def amW:=@Nat.add_assoc
def amX:=@Nat.mod_eq_of_lt
def anh:=@List.drop_eq_getElem_cons
def ans:=@List.map_congr_left
def anw:=@List.flatten_append
def an2:=@List.ext_getElem?
def aoT:=@List.drop_zero
def aoV:=@List.flatMap_append
def aoX:=@List.take_append_drop
def ao0:=@Bool.or_eq_true
def ao1:=@List.mem_of_mem_drop
def ao3:=@List.flatten_cons
def apb:=@Option.bind_some
def apc:=@Nat.add_mul
def ape:=@List.drop_drop
def api:=@of_decide_eq_true
def apj:=@List.flatMap_cons
def apk:=@Go.heap_alloc_new
def apm:=@List.mem_flatMap
def apy:=@Array.ext'
def apB:=@Nat.succ_mul
def apJ:=@Nat.min_eq_left
def apM:=@List.take_succ_cons
def arc:=@Nat.le_max_right
def are:=@List.take_take
def arH:=@Go.run_program
def arI:=@Nat.le_max_left
def asa:=@List.length_singleton
def asp:=@List.foldl_cons
def asr:=@List.extract_eq_take_drop
def ast:=@List.replicate_succ
def asR:=@List.drop_succ_cons
def atY:=@Option.isSome_iff_exists
def atZ:=@List.map_nil
def auf:=@List.eq_of_mem_replicate
def av6:=@List.take_append_of_le_length
def awx:=@List.drop_append
def awB:=@Array.toList_extract
def awC:=@List.all_cons
def awD:=@Bool.not_true
def awJ:=@beq_iff_eq
def awQ:=@List.drop_take
def axo:=@Array.getElem?_eq_getElem
def azv:=@Array.getElem?_replicate
def aAe:=@List.take_append
def aAI:=@Go.callsIn_of_wp_marks
def aAM:=@decide_false
def aAN:=@Nat.ne_of_lt
def aAO:=@Nat.min_self
def aAS:=@List.map_map
def aA3:=@List.cons.injEq
def aA5:=@List.range_eq_range'
def aA7:=@List.mapM_cons
def aA9:=@Go.grownCap_ge
def aBd:=@Go.wpIn_seq
def aBl:=@List.size_toArray
def aBm:=@List.replicate_append_replicate
def aBp:=@Go.size_zeroCells
def aBu:=@Bool.not_eq_true'
def aBv:=@Array.size_append
def aBD:=@List.drop_append_of_le_length
inductive AV where
 |bool(b:Bool)
 |int(k:IntKind)(n:Int)
 |str(s:ByteArray)
 |agg(cs:List AV)
 |aA(vs:List AV)
 |fN
 |ptr(id off:Nat)
 |dA(id ak i off:Nat)
 |fe(cs:List AV)(off:Nat)
 |dS(g:Nat)
 |au
 |sl(af:List (List AV))(cK:Bool)
 |ref(id ak sz off len:Nat)(cK:Bool)
 |fC(id sz off len:Nat)
 |mo
 |mp(id:Nat)
 |lM(g:Nat)
 |fn(f:Fn)(first cap:List AV)
 |dD
 |du(t:TypeId)(v:AV)
 |eV
 |qn
 deriving Inhabited
abbrev AV.undef:AV:=.aA []
def AV.cells:AV->List AV
 |.agg cs=>cs
 |v=>[v]
def AV.cx:AV->Bool
 |.aA _=>true
 |.qn=>true
 |_=>false
def AV.ko:Value->AV
 |.bool b=>.bool b
 |.int k n=>.int k n
 |.string s=>.str s
 |.pointer none=>.fN
 |.slice none n c=>if n=0/\c=0 then .au else .qn
 |.map none=>.mo
 |.nilFunc=>.dD
 |.nilIface=>.eV
 |.tuple vs=>if vs.size=0 then .aA []else .qn
 |_=>.qn
def AV.ofValue:Value->AV
 |.agg cs=>.agg (cs.toList.map AV.ko)
 |.iface t v=>.du t (AV.ko v)
 |v=>AV.ko v
mutual
def AV.refs:AV->Nat
 |.ptr id _=>id+1
 |.dA id _ _ _=>id+1
 |.ref id _ _ _ _ _=>id+1
 |.fC id _ _ _=>id+1
 |.mp id=>id+1
 |.agg cs=>aL cs
 |.aA cs=>aL cs
 |.fe cs _=>aL cs
 |.sl af _=>b9 af
 |.fn f a b=>max (match f with|.yield l=>l+1|_=>0) (max (aL a) (aL b))
 |.du _ v=>v.refs
 |_=>0
def aL:List AV->Nat
 | []=>0
 |a::as=>max a.refs (aL as)
def b9:List (List AV)->Nat
 | []=>0
 |a::as=>max (aL a) (b9 as)
end
abbrev Env:=Nat->AV
def Env.set(e:Env)(d:Nat)(v:AV):Env:=λt=>if t=d then v else e t
inductive ao where
 |t(i:Nat)
 |c(v:AV)
 deriving Inhabited
def ao.get(e:Env):ao->AV
 |.t i=>e i
 |.c v=>v
inductive EK where
 |bool
 |int
 |str
 |ptr
 |sl
 |map
 |cap
 |fn
 |du
 |z6(ts:List TypeId)
 |agg(ks:List EK)
 deriving Inhabited
inductive I where
 |mov(x:ao)
 |pick(c a b:ao)
 |alloc(z:List AV)(tg:Option TypeId)
 |box(x:ao)(tg:Option TypeId:=none)
 |build(z:List AV)(parts:List (Nat×Nat×ao))
 |bslice(z:List AV)(len:Nat)(parts:List (Nat×Nat×ao))
 |rQ(ty:TypeId)(z:List AV)(len:Nat)(parts:List (Nat×Nat×ao))
 |load(agg:Bool)(n:Nat)(a:ao)
 |store(n:Nat)(a v:ao)
 |nilck(x:ao)
 |bin(op:BinOp)(x y:ao)
 |shf(op:BinOp)(x y:ao)
 |eq(k:EK)(x y:ao)
 |ne(k:EK)(x y:ao)
 |un(op:UnOp)(x:ao)
 |conv(k:IntKind)(x:ao)
 |s2b(x:ao)
 |mki(t:TypeId)(x:ao)
 |mkf(f:Fn)(first cap:List ao)
 |nT
 |uq(ty:TypeId)(z:List AV)(bytes:Nat)(l c:ao)
 |slstr(x:ao)(lo hi:Option ao)
 |slsl(sz:Nat)(x:ao)(lo hi mx:Option ao)
 |slarr(n sz:Nat)(x:ao)(lo hi:Option ao)
 |faddr(off:Nat)(x:ao)
 |fld(agg:Bool)(n off:Nat)(x:ao)
 |iaddra(len sz:Nat)(x i:ao)
 |iaddrs(sz:Nat)(x i:ao)
 |idxa(agg:Bool)(len sz:Nat)(x i:ao)
 |idxs(x i:ao)
 |lookup(kk:EK)(z:AV)(m k:ao)(ok:Bool)
 |oO(kk:EK)(m k v:ao)
 |ta(z:AV)(x:ao)(t:TypeId)(ok:Bool)
 |ext(x:ao)(i:Nat)
 |len(k:EK)(x:ao)
 |append(ty:TypeId)(sz bytes:Nat)(s x:ao)
 |copy(sz:Nat)(d s:ao)
 |clear(z:List AV)(x:ao)
 |max(xs:List ao)
 |min(xs:List ao)
 |call(f:ao)(args:List ao)
 |panic(x:ao)
 deriving Inhabited
structure aQ where
 g:Option (Nat×Bool)
 dst:oN
 i:I
 deriving Inhabited
inductive PC where
 |skip
 |aJ(ops:List aQ)
 |ur(ops:List (aQ×lN))
 |seq(a b:PC)
 |cond(c:ao)(a b:PC)
 |block(id:Nat)(b:PC)
 |loop(b:PC)
 |iW(g:ao)(params:lN)(assign body:PC)
 |exit(id:Nat)
 |ret
 deriving Inhabited
inductive RV where
 |t(i:Nat)
 |cell(a:Nat)(agg:Bool)(n:Nat)
 deriving Inhabited
structure PF where
 ntmps:Nat
 results:List RV
 body:PC
 deriving Inhabited
inductive ae where
 |box(cs:List AV)(tg:Option TypeId)
 |row(ak sz:Nat)(ty:TypeId)(af:List (List AV))
 |map(es:List (AV×AV))
 |loop(state:LoopState)(pending:Option PC)(fn:FuncId)(env:Env)(params:lN)(assign body:PC)
 |fO
 |dead
 deriving Inhabited
structure AS where
 heap:List ae
 lo:oN
 deriving Inhabited
inductive aU where
 |ret(v:AV)(E:AS)
 |panic(v:AV)(E:AS)
 deriving Inhabited
abbrev bJ:=AV->List AV->AS->Option aU
structure Ctx where
 dS:Nat->Option (List AV)
 code:FuncId->Option PF
 cg:FuncId->Option (List AV->AS->Option aU)
 gu:Nat->Option (List (AV×AV)):=λ_=>none
def AS.push(E:AS)(o:ae):AS:={E with heap:=E.heap++[o]}
def cO(a:oN)(i:Nat):oN:=match a with|none=>some i|some j=>some (Nat.min i j)
def gS(a b:oN):oN:=match b with|none=>a|some j=>cO a j
def AS.set(E:AS)(id:Nat)(o:ae)(refs:Nat):AS:=
 {heap:=E.heap.set id o,lo:=if refs<=id+1 then E.lo else cO E.lo id}
def part(agg:Bool)(n:Nat)(cs:List AV)(off:Nat):Option AV:=
 if agg then(if off+n<=cs.length then some (.agg ((cs.drop off).take n))else none)else cs[off]?
def aN(cs:List AV)(off:Nat)(vs:List AV):List AV:=cs.take off++(vs++cs.drop (off+vs.length))
def eH(cs:List AV):List (Nat×Nat×AV)->Option (List AV)
 | []=>some cs
 | (off,n,v)::rest=>if v.cx=false/\v.cells.length=n/\off+n<=cs.length then eH (aN cs off v.cells) rest else none
def chunks(sz:Nat):Nat->List AV->List (List AV)
 |0,_=>[]
 |k+1,cs=>cs.take sz::chunks sz k (cs.drop sz)
def AV.z7:AV->Bool
 |.ptr .. |.dA .. |.fe .. |.dS _=>true
 |_=>false
def AV.z8:AV->Bool
 |.sl .. |.ref .. |.fC .. =>true
 |_=>false
def qo:EK->AV->AV->Option Bool
 |.bool,.bool a,.bool b=>some (a==b)
 |.int,.int k a,.int k' b=>if k=k' then some (a==b)else none
 |.str,.str a,.str b=>some (a.toList==b.toList)
 |.ptr,.fN,.fN=>some true
 |.ptr,.fN,b=>if b.z7 then some false else none
 |.ptr,a,.fN=>if a.z7 then some false else none
 |.sl,.au,.au=>some true
 |.sl,.au,b=>if b.z8 then some false else none
 |.sl,a,.au=>if a.z8 then some false else none
 |.map,.mo,.mo=>some true
 |.map,.mo,.mp _=>some false
 |.map,.mp _,.mo=>some false
 |.fn,.dD,.dD=>some true
 |.fn,.dD,.fn .. =>some false
 |.fn,.fn ..,.dD=>some false
 |.du,.eV,.eV=>some true
 |.du,.eV,.du .. =>some false
 |.du,.du ..,.eV=>some false
 |.z6 ts,.du t (.int k a),.du t' (.int k' b)=>if t=t' then(if ts.contains t/\k=k' then some (a==b)else none)else some false
 |_,_,_=>none
def iX:List EK->List AV->List AV->Option Bool
 | [],[],[]=>some true
 |k::c,a::as,b::bs=>match qo k a b with
  |some true=>iX c as bs
  |some false=>some false
  |none=>none
 |_,_,_=>none
def eI:EK->AV->AV->Option Bool
 |.agg a,.agg xs,.agg ys=>if xs.length=a.length/\ys.length=a.length then iX a xs ys else none
 |.agg _,_,_=>none
 |k,x,y=>qo k x y
def vX(a:BinOp)(k:IntKind)(x y:Int):Option AV:=
 match a with
 |.and=>some (.int k (k.wrap (BitVec.ofInt k.bits x&&&BitVec.ofInt k.bits y).toNat))
 |.or=>some (.int k (k.wrap (BitVec.ofInt k.bits x|||BitVec.ofInt k.bits y).toNat))
 |.xor=>some (.int k (k.wrap (BitVec.ofInt k.bits x^^^BitVec.ofInt k.bits y).toNat))
 |.andNot=>some (.int k (k.wrap (BitVec.ofInt k.bits x&&& ~~~ (BitVec.ofInt k.bits y)).toNat))
 |_=>none
def mr(a:BinOp)(k:IntKind)(x y:Int):Option AV:=
 match a with
 |.add=>some (.int k (k.wrap (x+y)))
 |.sub=>some (.int k (k.wrap (x-y)))
 |.mul=>some (.int k (k.wrap (x*y)))
 |.quo=>if y=0 then none else some (.int k (k.wrap (x.tdiv y)))
 |.rem=>if y=0 then none else some (.int k (x.tmod y))
 |.eql=>some (.bool (x==y))
 |.neq=>some (.bool (x !=y))
 |.lss=>some (.bool (x<y))
 |.leq=>some (.bool (x<=y))
 |.gtr=>some (.bool (x>y))
 |.geq=>some (.bool (x>=y))
 |a=>vX a k x y
def vY(a:BinOp)(k:IntKind)(x y:Int):Option AV:=
 if y<0 then none else
 match a with
 |.shl=>some (.int k (k.wrap (x*2^(min y.toNat k.bits))))
 |.shr=>some (.int k (x.fdiv (2^(min y.toNat k.bits))))
 |_=>none
def UL:Nat:=1152921504606846976
def UM(a:BinOp)(x y:ByteArray):Option AV:=
 match a with
 |.add=>if x.size+y.size<=UL then some (.str (x++y))else none
 |.eql=>some (.bool (x.toList==y.toList))
 |.neq=>some (.bool !(x.toList==y.toList))
 |.lss=>some (.bool (Op.bytesLess x.toList y.toList))
 |.leq=>some (.bool (Op.bytesLess x.toList y.toList||x.toList==y.toList))
 |.gtr=>some (.bool !(Op.bytesLess x.toList y.toList||x.toList==y.toList))
 |.geq=>some (.bool !(Op.bytesLess x.toList y.toList))
 |_=>none
def dE(c:BinOp):AV->AV->Option AV
 |.int k a,.int k' b=>if k=k' then mr c k a b else none
 |.str a,.str b=>UM c a b
 |_,_=>none
def xK(a:UnOp)(x:AV):Option AV:=
 match a,x with
 |.neg,.int k n=>some (.int k (k.wrap (0-n)))
 |.xor,.int k n=>vX .xor k (if k.signed then-1 else k.max) n
 |.not,.bool b=>some (.bool !b)
 |_,_=>none
inductive Out where
 |ok(v:AV)(E:AS)
 |panic(v:AV)(E:AS)
def gv(E:AS):Option AV->Option Out
 |some v=>some (.ok v E)
 |none=>none
variable(X:Ctx)
def cp(E:AS)(agg:Bool)(n:Nat)(a:AV):Option AV:=
 match a with
 |.ptr id off=>match E.heap[id]? with
  |some (.box cs _)=>part agg n cs off
  |_=>none
 |.dA id ak i off=>match E.heap[id]? with
  |some (.row v sz _ af)=>if v=ak then(af[i]?).bind λel=>if el.length=sz then part agg n el off else none else none
  |_=>none
 |.fe cs off=>part agg n cs off
 |.dS g=>(X.dS g).bind λcs=>part agg n cs 0
 |_=>none
def kp(E:AS)(n:Nat)(a v:AV):Option AS:=
 match a with
 |.ptr id off=>match E.heap[id]? with
  |some (.box cs tg)=>if v.cx=false/\v.cells.length=n/\off+n<=cs.length then some (E.set id (.box (aN cs off v.cells) tg) v.refs)else none
  |_=>none
 |.dA id ak i off=>match E.heap[id]? with
  |some (.row w sz ty af)=>match af[i]? with
   |some el=>if w=ak/\el.length=sz/\v.cx=false/\v.cells.length=n/\off+n<=el.length then some (E.set id (.row ak sz ty (af.set i (aN el off v.cells))) v.refs)else none
   |none=>none
  |_=>none
 |_=>none
def elems(E:AS)(sz:Nat):AV->Option (List (List AV))
 |.au=>some []
 |.sl af _=>if af.all (λel=>el.length==sz)then some af else none
 |.ref id ak a off len _=>match E.heap[id]? with
  |some (.row v b _ af)=>if v=ak/\b=sz/\a=sz/\off+len<=af.length then some ((af.drop off).take len)else none
  |_=>none
 |.fC id b off len=>match E.heap[id]? with
  |some (.box cs _)=>if b=sz/\off+len*sz<=cs.length then some (chunks sz len (cs.drop off))else none
  |_=>none
 |_=>none
def qq:AV->Option Int
 |.int _ n=>some n
 |_=>none
def lO(n:Nat):Option AV->Nat->oN
 |none,d=>some d
 |some (.int _ i),_=>if 0<=i/\i<=n then some i.toNat else none
 |some _,_=>none
def gT(len:Nat)(b a:Option AV):Option (Nat×Nat):=
 match lO len a len with
 |some h=>match lO h b 0 with
  |some l=>some (l,h)
  |none=>none
 |none=>none
def uu(x:AV)(b a:Option AV):Option AV:=
 match x with
 |.str s=>match gT s.size b a with
  |some (l,h)=>some (.str (s.extract l h))
  |none=>none
 |_=>none
def lP(len h:Nat)(cK:Bool):Option AV->Option Bool
 |none=>some (cK&&h==len)
 |some (.int _ i)=>if(h:Int)<=i/\i<=len then some (i==h)else none
 |some _=>none
def gE(n:Nat)(x:AV)(b a d:Option AV):Option AV:=
 match x with
 |.au=>match gT 0 b a,lP 0 0 true d with
  |some _,some _=>some .au
  |_,_=>none
 |.sl af cK=>match gT af.length b a with
  |some (l,h)=>match lP af.length h cK d with
   |some c=>if af.all (λel=>el.length==n)then some (.sl ((af.drop l).take (h-l)) c)else none
   |none=>none
  |none=>none
 |.ref id ak sz off len cK=>match gT len b a with
  |some (l,h)=>match lP len h cK d with
   |some c=>if sz=n then some (.ref id ak sz (off+l) (h-l) c)else none
   |none=>none
  |none=>none
 |.fC id sz off len=>match gT len b a,d with
  |some (l,h),none=>if sz=n then some (.fC id sz (off+l*sz) (h-l))else none
  |_,_=>none
 |_=>none
def qs(n sz:Nat)(x:AV)(b a:Option AV):Option AV:=
 match gT n b a with
 |some (l,h)=>match x with
  |.ptr id off=>some (.fC id sz (off+l*sz) (h-l))
  |.fe cs off=>if off+n*sz<=cs.length then some (.sl (chunks sz (h-l) (cs.drop (off+l*sz))) false)else none
  |.dS g=>match X.dS g with
   |some cs=>if n*sz<=cs.length then some (.sl (chunks sz (h-l) (cs.drop (l*sz))) false)else none
   |none=>none
  |_=>none
 |none=>none
def rR(s:ByteArray):List (List AV):=s.data.toList.map λb=>[.int .u8 b.toNat]
def vZ:List (List AV)->Option lB
 | []=>some []
 | [.int .u8 n]::r=>(vZ r).map (UInt8.ofNat n.toNat:: ·)
 |_=>none
def room:Nat:=1099511627776
def dO(E:AS)(ty:TypeId)(sz bytes:Nat)(s:AV)(ys:List (List AV)):Option (AV×AS):=
 if 0<sz/\ys.all (λel=>el.length==sz)then
  match s with
  |.au=>if ys.length=0 then some (.au,E)else
   if ys.length*bytes<=room then some (.ref E.heap.length 0 sz 0 ys.length false,E.push (.row 0 sz ty ys))else none
  |.sl af true=>if ys.length=0 then some (s,E)else
   if(af.length+ys.length)*bytes<=room/\af.all (λel=>el.length==sz)then
    some (.ref E.heap.length 0 sz 0 (af.length+ys.length) false,E.push (.row 0 sz ty (af++ys)))else none
  |.sl _ false=>if ys.length=0 then some (s,E)else none
  |.ref id ak a off len cK=>
   match E.heap[id]? with
   |some (.row v c b af)=>
    if v=ak/\c=sz/\a=sz/\b=ty/\off+len<=af.length/\ (len+ys.length)*bytes<=room then
     if ys.length=0 then some (s,E)else
     if cK then some (.ref E.heap.length 0 sz 0 (len+ys.length) false,E.push (.row 0 sz ty ((af.drop off).take len++ys)))else
     some (.ref id (ak+1) sz 0 (len+ys.length) false,E.set id (.row (ak+1) sz ty ((af.drop off).take len++ys)) (b9 ys))
    else none
   |_=>none
  |_=>none
 else none
def oP:AV->AV->Option Bool
 |.int k a,.int k' b=>if k=k' then some (a==b)else none
 |.str a,.str b=>some (a==b)
 |.bool a,.bool b=>some (a==b)
 |_,_=>none
def ew(k:AV):List (AV×AV)->Option (Option AV)
 | []=>some none
 | (k',v)::es=>match oP k k' with
   |some true=>some (some v)
   |some false=>ew k es
   |none=>none
def lQ(k v:AV):List (AV×AV)->Option (List (AV×AV))
 | []=>some [(k,v)]
 | (k',v')::es=>match oP k k' with
   |some true=>some ((k,v)::es)
   |some false=>(lQ k v es).map ((k',v'):: ·)
   |none=>none
def mapOf(gm:Nat->Option (List (AV×AV)))(E:AS):AV->Option (List (AV×AV))
 |.mo=>some []
 |.lM g=>gm g
 |.mp id=>match E.heap[id]? with
  |some (.map es)=>some es
  |_=>none
 |_=>none
def isKey:AV->Bool
 |.int _ _|.str _|.bool _=>true
 |_=>false
def kT:EK->AV->Bool
 |.int,.int _ _|.str,.str _|.bool,.bool _=>true
 |_,_=>false
def jK(gm:Nat->Option (List (AV×AV)))(E:AS)(b:EK)(z m k:AV)(a:Bool):Option AV:=
 if kT b k then
  match mapOf gm E m with
  |some es=>match ew k es with
   |some (some v)=>some (if a then .aA [v,.bool true]else v)
   |some none=>some (if a then .aA [z,.bool false]else z)
   |none=>none
  |none=>none
 else none
def mv(E:AS)(b:EK)(m k v:AV):Option AS:=
 if kT b k then
  match m with
  |.mp id=>match E.heap[id]? with
   |some (.map es)=>match lQ k v es with
    |some a=>some (E.set id (.map a) v.refs)
    |none=>none
   |_=>none
  |_=>none
 else none
def qt:AV->AV->Option AV
 |.int k x,.int _ y=>some (.int k (if y>x then y else x))
 |_,_=>none
def v5:AV->AV->Option AV
 |.int k x,.int _ y=>some (.int k (if y<x then y else x))
 |_,_=>none
def gF(E:AS):EK->AV->Option AV
 |.str,.str s=>some (.int .i64 s.size)
 |.sl,.au=>some (.int .i64 0)
 |.sl,.sl af _=>some (.int .i64 af.length)
 |.sl,.ref _ _ _ _ n _=>some (.int .i64 n)
 |.sl,.fC _ _ _ n=>some (.int .i64 n)
 |.map,.mo=>some (.int .i64 0)
 |.map,.mp id=>match E.heap[id]? with
  |some (.map es)=>some (.int .i64 es.length)
  |_=>none
 |.cap,.au=>some (.int .i64 0)
 |.cap,.sl af true=>some (.int .i64 af.length)
 |.cap,.ref _ _ _ _ n true=>some (.int .i64 n)
 |_,_=>none
def Ct(E:AS)(sz:Nat)(s:AV):Option (List (List AV)):=
 match s with
 |.str b=>if sz=1 then some (rR b)else none
 |s=>elems E sz s
def rS(E:AS)(sz:Nat)(d s:AV):Option (AV×AS):=
 match Ct E sz s with
 |some ys=>match d with
  |.au=>some (.int .i64 0,E)
  |.ref id ak a off len _=>match E.heap[id]? with
   |some (.row v b ty af)=>
    if v=ak/\b=sz/\a=sz/\off+len<=af.length then
     some (.int .i64 (Nat.min ys.length len),E.set id (.row ak sz ty (af.take off++(ys.take (Nat.min ys.length len)++af.drop (off+Nat.min ys.length len)))) (b9 ys))
    else none
   |_=>none
  |.fC id b off len=>match E.heap[id]? with
   |some (.box cs tg)=>
    if b=sz/\off+len*sz<=cs.length/\ys.all (λel=>el.length==sz)then
     some (.int .i64 (Nat.min ys.length len),E.set id (.box (aN cs off (ys.take (Nat.min ys.length len)).flatten) tg) (b9 ys))
    else none
   |_=>none
  |_=>none
 |none=>none
def rT(E:AS)(z:List AV)(x:AV):Option AS:=
 match x with
 |.au=>some E
 |.ref id ak a off len _=>match E.heap[id]? with
  |some (.row v sz ty af)=>
   if v=ak/\a=sz/\sz=z.length/\off+len<=af.length/\aL z=0 then
    some (E.set id (.row ak sz ty (af.take off++(List.replicate len z++af.drop (off+len)))) 0)
   else none
  |_=>none
 |.fC id sz off len=>match E.heap[id]? with
  |some (.box cs tg)=>
   if sz=z.length/\off+len*sz<=cs.length/\aL z=0 then
    some (E.set id (.box (aN cs off (List.replicate len z).flatten) tg) 0)
   else none
  |_=>none
 |_=>none
def mw(o:Nat)(x:AV):Option AV:=
 match x with
 |.ptr id off=>some (.ptr id (off+o))
 |.dA id ak i off=>some (.dA id ak i (off+o))
 |.fe cs off=>some (.fe cs (off+o))
 |.dS g=>match X.dS g with
  |some cs=>some (.fe cs o)
  |none=>none
 |_=>none
def uv(n sz:Nat)(x a:AV):Option AV:=
 match qq a with
 |some i=>if 0<=i/\i<n then
    match x with
    |.ptr id off=>some (.ptr id (off+i.toNat*sz))
    |.dA id ak j off=>some (.dA id ak j (off+i.toNat*sz))
    |.fe cs off=>some (.fe cs (off+i.toNat*sz))
    |.dS g=>match X.dS g with
     |some cs=>some (.fe cs (i.toNat*sz))
     |none=>none
    |_=>none
  else none
 |none=>none
def jL(sz:Nat)(x b:AV):Option AV:=
 match qq b with
 |some i=>match x with
  |.sl af _=>if 0<=i then match af[i.toNat]? with
     |some el=>if el.length=sz then some (.fe el 0)else none
     |none=>none
   else none
  |.ref id ak a off len _=>if 0<=i/\i<len/\a=sz then some (.dA id ak (off+i.toNat) 0)else none
  |.fC id a off len=>if 0<=i/\i<len/\a=sz then some (.ptr id (off+i.toNat*sz))else none
  |_=>none
 |none=>none
def qu(agg:Bool)(n sz:Nat)(x a:AV):Option AV:=
 match qq a,x with
 |some i,.agg cs=>if 0<=i/\i<n then part agg sz cs (i.toNat*sz)else none
 |_,_=>none
def xL(x a:AV):Option AV:=
 match qq a,x with
 |some i,.str s=>if 0<=i then match s.data.toList[i.toNat]? with
    |some b=>some (.int .u8 b.toNat)
    |none=>none
  else none
 |_,_=>none
def rU(E:AS)(ty:TypeId)(z:List AV)(bytes:Nat)(l c:AV):Option (AV×AS):=
 match l,c with
 |.int _ l,.int _ c=>if 0<=l/\l<=c/\c*bytes<=room/\c<=room then
    some (.ref E.heap.length 0 z.length 0 l.toNat false,E.push (.row 0 z.length ty (List.replicate l.toNat z)))
  else none
 |_,_=>none
def z9(z x:AV)(t:TypeId)(a:Bool):Option AV:=
 match x with
 |.eV=>if a then some (.aA [z,.bool false])else none
 |.du t' v=>if t'=t then some (if a then .aA [v,.bool true]else v)else if a then some (.aA [z,.bool false])else none
 |_=>none
def aAs(a:List TypeId)(x:AV)(b:Bool):Option AV:=
 match x with
 |.eV=>if b then some (.aA [.eV,.bool false])else none
 |.du t v=>if a.contains t then some (if b then .aA [.du t v,.bool true]else .du t v)else none
 |_=>none
def gU(f:AV->AV->Option AV):List AV->Option AV
 | []=>none
 | [x]=>some x
 |x::y::r=>match f x y with
  |some z=>gU f (z::r)
  |none=>none
termination_by l=>l.length
def v7:AV->Option AV
 |.ptr id off=>some (.ptr id off)
 |.dA id ak i off=>some (.dA id ak i off)
 |.fe cs off=>some (.fe cs off)
 |.dS g=>some (.dS g)
 |.fn (.func f) a b=>some (.fn (.func f) a b)
 |.fn (.yield l) a b=>some (.fn (.yield l) a b)
 |_=>none
def exec(C:bJ)(i:I)(e:Env)(E:AS):Option Out:=
 match i with
 |.mov x=>some (.ok (x.get e) E)
 |.pick c a b=>match c.get e with
  |.bool t=>some (.ok (if t then a.get e else b.get e) E)
  |_=>none
 |.alloc z tg=>some (.ok (.ptr E.heap.length 0) (E.push (.box z tg)))
 |.box x tg=>if(x.get e).cx then none else some (.ok (.ptr E.heap.length 0) (E.push (.box (x.get e).cells tg)))
 |.build z parts=>match eH z (parts.map λp=>(p.1,p.2.1,p.2.2.get e))with
  |some cs=>some (.ok (.agg cs) E)
  |none=>none
 |.bslice z len parts=>match eH (List.replicate len z).flatten (parts.map λp=>(p.1,p.2.1,p.2.2.get e))with
  |some cs=>some (.ok (.sl (chunks z.length len cs) true) E)
  |none=>none
 |.rQ ty z len parts=>match eH (List.replicate len z).flatten (parts.map λp=>(p.1,p.2.1,p.2.2.get e))with
  |some cs=>some (.ok (.ref E.heap.length 0 z.length 0 len false) (E.push (.row 0 z.length ty (chunks z.length len cs))))
  |none=>none
 |.load agg n a=>gv E (cp X E agg n (a.get e))
 |.store n a v=>match kp E n (a.get e) (v.get e)with
  |some E'=>some (.ok .undef E')
  |none=>none
 |.nilck x=>gv E (v7 (x.get e))
 |.bin op x y=>gv E (dE op (x.get e) (y.get e))
 |.shf op x y=>match x.get e,y.get e with
  |.int k a,.int _ b=>gv E (vY op k a b)
  |_,_=>none
 |.eq k x y=>match eI k (x.get e) (y.get e)with
  |some b=>some (.ok (.bool b) E)
  |none=>none
 |.ne k x y=>match eI k (x.get e) (y.get e)with
  |some b=>some (.ok (.bool !b) E)
  |none=>none
 |.un op x=>gv E (xK op (x.get e))
 |.conv k x=>match x.get e with
  |.int _ n=>some (.ok (.int k (k.wrap n)) E)
  |_=>none
 |.s2b x=>match x.get e with
  |.str s=>if s.size<=room then some (.ok (.sl (rR s) false) E)else none
  |_=>none
 |.mki t x=>some (.ok (.du t (x.get e)) E)
 |.mkf f first cap=>some (.ok (.fn f (first.map (·.get e)) (cap.map (·.get e))) E)
 |.nT=>some (.ok (.mp E.heap.length) (E.push (.map [])))
 |.uq ty z bytes l c=>match rU E ty z bytes (l.get e) (c.get e)with
  |some (v,E')=>some (.ok v E')
  |none=>none
 |.slstr x lo g=>gv E (uu (x.get e) (lo.map (·.get e)) (g.map (·.get e)))
 |.slsl n x lo g j=>gv E (gE n (x.get e) (lo.map (·.get e)) (g.map (·.get e)) (j.map (·.get e)))
 |.slarr n sz x lo g=>gv E (qs X n sz (x.get e) (lo.map (·.get e)) (g.map (·.get e)))
 |.faddr o x=>gv E (mw X o (x.get e))
 |.fld agg n off x=>match x.get e with
  |.agg cs=>gv E (part agg n cs off)
  |_=>none
 |.iaddra n sz x i=>gv E (uv X n sz (x.get e) (i.get e))
 |.iaddrs sz x i=>gv E (jL sz (x.get e) (i.get e))
 |.idxa agg n sz x i=>gv E (qu agg n sz (x.get e) (i.get e))
 |.idxs x i=>gv E (xL (x.get e) (i.get e))
 |.lookup h z m k ok=>gv E (jK X.gu E h z (m.get e) (k.get e) ok)
 |.oO h m k v=>match mv E h (m.get e) (k.get e) (v.get e)with
  |some E'=>some (.ok .undef E')
  |none=>none
 |.ta z x t ok=>gv E (z9 z (x.get e) t ok)
 |.ext x i=>match x.get e with
  |.aA vs=>gv E (vs[i]?)
  |_=>none
 |.len k x=>gv E (gF E k (x.get e))
 |.append ty sz bytes s x=>match elems E sz (x.get e)with
  |some ys=>match dO E ty sz bytes (s.get e) ys with
   |some (v,E')=>some (.ok v E')
   |none=>none
  |none=>none
 |.copy sz d s=>match rS E sz (d.get e) (s.get e)with
  |some (v,E')=>some (.ok v E')
  |none=>none
 |.clear z x=>match rT E z (x.get e)with
  |some E'=>some (.ok .undef E')
  |none=>none
 |.max xs=>gv E (gU qt (xs.map (·.get e)))
 |.min xs=>gv E (gU v5 (xs.map (·.get e)))
 |.call f args=>match C (f.get e) (args.map (·.get e)) E with
  |some (.ret v E')=>some (.ok v E')
  |some (.panic v E')=>some (.panic v E')
  |none=>none
 |.panic x=>match x.get e with
  |.du t v=>some (.panic (.du t v) E)
  |_=>none
structure Fr where
 env:Env
 marks:lN
 deriving Inhabited
def Fr.put(a:Fr)(dst:oN)(v:AV):Fr:=
 match dst with
 |some d=>{a with env:=a.env.set d v}
 |none=>a
inductive Ex where
 |normal
 |exit(id:Nat)
 |ret
 |panic(v:AV)
abbrev jM:=Option (Ex×Fr×AS)
def gH(e:Env):Option (Nat×Bool)->Bool
 |none=>true
 |some (t,want)=>match e t with
  |.bool b=>b==want
  |_=>false
def fg(C:bJ):List aQ->Fr->AS->jM
 | [],fr,E=>some (.normal,fr,E)
 |o::os,fr,E=>
  if gH fr.env o.g then
   match exec X C o.i fr.env E with
   |some (.ok v E')=>fg C os (fr.put o.dst v) E'
   |some (.panic v E')=>some (.panic v,fr,E')
   |none=>none
  else fg C os (fr.put o.dst .undef) E
inductive FP where
 |no
 |rd(id off n:Nat)
 |q
 |wr(id off n:Nat)
 |app
 |all
 |rr
 |new(n:Nat)
def FP.ok:FP->FP->Bool
 |.no,_=>true
 |_,.no=>true
 |.rd ..,.rd .. =>true
 |.rd ..,.q=>true
 |.q,.rd .. =>true
 |.q,.q=>true
 |.rd id off n,.wr b a c=>id !=b||off+n<=a||a+c<=off
 |.wr id off n,.rd b a c=>id !=b||off+n<=a||a+c<=off
 |.rd ..,.app=>true
 |.app,.rd .. =>true
 |.rr,.rd .. =>true
 |.rd ..,.rr=>true
 |.rr,.q=>true
 |.q,.rr=>true
 |.rr,.rr=>true
 |.rr,.wr .. =>true
 |.wr ..,.rr=>true
 |.rd id _ _,.new n=>id<n
 |.new n,.rd id _ _=>id<n
 |_,_=>false
open Classical in
noncomputable def aW(i:I)(e:Env)(E E':AS):FP:=
 match i with
 |.load _ n a=>match a.get e with
  |.ptr id off=>.rd id off (Nat.max n 1)
  |.dA .. =>.rr
  |.fe .. =>.no
  |.dS _=>.no
  |_=>.all
 |.lookup .. =>.q
 |.len k _=>match k with
  |.map=>.q
  |_=>.no
 |.store n a _=>match a.get e with
  |.ptr id off=>.wr id off n
  |.dA .. =>.app
  |_=>.all
 |.append .. =>.app
 |.call .. =>if E'=E then .q else if E'.heap.take E.heap.length=E.heap then .new E.heap.length else .all
 |.alloc _ _|.box .. |.rQ .. |.nT|.uq .. |.oO .. |.copy .. |.clear .. |.panic _=>.all
 |_=>.no
def I.cls:I->Nat
 |.mov _|.pick .. |.build .. |.bslice .. |.nilck _|.bin .. |.shf .. |.eq .. |.ne .. |.un .. |.conv .. |.s2b _|.mki .. |.mkf .. =>0
 |.slstr .. |.slsl .. |.slarr .. |.faddr .. |.fld .. |.iaddra .. |.iaddrs .. |.idxa .. |.idxs .. |.ta .. |.ext .. |.max _|.min _=>0
 |.load .. |.lookup .. |.len .. =>1
 |.call .. =>2
 |_=>3
def ao.tmps:ao->lN
 |.t i=>[i]
 |.c _=>[]
def iu(l:List ao):lN:=l.flatMap ao.tmps
def I.reads:I->lN
 |.mov x|.box x _|.nilck x|.un _ x|.conv _ x|.s2b x|.mki _ x|.ta _ x _ _|.ext x _|.len _ x|.clear _ x|.panic x=>x.tmps
 |.alloc _ _|.nT=>[]
 |.pick a b c|.oO _ a b c=>iu [a,b,c]
 |.build _ ps|.bslice _ _ ps|.rQ _ _ _ ps=>iu (ps.map (·.2.2))
 |.load _ _ a=>a.tmps
 |.store _ a v|.bin _ a v|.shf _ a v|.eq _ a v|.ne _ a v|.uq _ _ _ a v|.iaddra _ _ a v|.iaddrs _ a v|.idxa _ _ _ a v|.idxs a v
 |.lookup _ _ a v _|.append _ _ _ a v|.copy _ a v=>iu [a,v]
 |.mkf _ a b=>iu (a++b)
 |.slstr x lo d|.slarr _ _ x lo d=>iu (x:: (lo.toList++d.toList))
 |.slsl _ x lo d e=>iu (x:: (lo.toList++d.toList++e.toList))
 |.faddr _ x|.fld _ _ _ x=>x.tmps
 |.max xs|.min xs=>iu xs
 |.call f as=>iu (f::as)
def aQ.reads(o:aQ):lN:=o.i.reads++(match o.g with|some (t,_)=>[t]|none=>[])
def Cu(l m:lN):Bool:=l.all λx=>!m.contains x
def kq(x y:aQ):Bool:=
 Cu x.dst.toList y.reads&&Cu y.dst.toList x.reads&&Cu x.dst.toList y.dst.toList
def FP.is:FP->Bool
 |.no=>false
 |_=>true
def Cv(a:List FP)(o:aQ×lN)(os:List (aQ×lN)):Bool:=
 o.2.isEmpty&& (o.1.i.cls !=0&& ((o.1.i.cls==2||a.all FP.is)&&os.all λo'=>if o'.1.i.cls=0 then !kq o.1 o'.1 else !o'.2.contains a.length))
noncomputable def gV(C:bJ):List FP->List (aQ×lN)->Fr->AS->jM
 |_,[],fr,E=>some (.normal,fr,E)
 |a,o::os,fr,E=>
  if gH fr.env o.1.g then
   match exec X C o.1.i fr.env E with
   |some (.ok v E')=>
    if o.2.all (λj=>((a.getD j .all).ok (aW o.1.i fr.env E E')))then
     gV C (a++[aW o.1.i fr.env E E']) os (fr.put o.1.dst v) E'
    else none
   |some (.panic v E')=>if Cv a o os then some (.panic v,fr,E')else none
   |none=>none
  else gV C (a++[.no]) os (fr.put o.1.dst .undef) E
def aQ.gd(x:aQ):Option ae:=match x.i with
 |.alloc z tg=>some (.box z tg)
 |_=>none
def lR(m:Nat)(x:aQ):aQ:=match x.gd with
 |some _=>{x with i:=.mov (.c (.ptr m 0))}
 |none=>x
def iG:Nat->List (aQ×lN)->List (aQ×lN)
 |_,[]=>[]
 |n,o::os=>(lR n o.1,o.2)::iG (match o.1.gd with|some _=>n+1|none=>n) os
def dP:List (aQ×lN)->List ae
 | []=>[]
 |o::os=>match o.1.gd with
  |some b=>b::dP os
  |none=>dP os
def AS.my(E:AS)(os:List ae):AS:={E with heap:=E.heap++os}
def xM:PC->Option Ex
 |.ret=>some .ret
 |.exit id=>some (.exit id)
 |_=>none
abbrev eJ:=(Fr->AS->jM)->Fr->AS->jM
def qw:AV->Bool
 |.fn (.func f) _ _=>(X.cg f).isNone&& (X.code f).isSome
 |_=>false
def endLoop(l:Nat)(b:Fr)(E:AS):jM:=
 match E.heap[l]? with
 |some (.loop st a f env ps as bd)=>
  if st= .busy then none else
  match a with
  |none=>some (.normal,b,E.set l (.loop .exhausted a f env ps as bd) 0)
  |some j=>match xM j with
   |some ex=>some (ex,b,E.set l (.loop .exhausted a f env ps as bd) 0)
   |none=>none
 |_=>none
noncomputable def bf(C:bJ)(L:eJ)(bU:FuncId)(rd:Bool):PC->Fr->AS->jM
 |.skip,fr,E=>some (.normal,fr,E)
 |.seq a b,fr,E=>match bf C L bU rd a fr E with
  |some (.normal,d,E')=>bf C L bU rd b d E'
  |r=>r
 |.cond c a b,fr,E=>match c.get fr.env with
  |.bool t=>if t then bf C L bU rd a fr E else bf C L bU rd b fr E
  |_=>none
 |.block id body,fr,E=>match bf C L bU rd body fr E with
  |some (.exit e,d,E')=>if e=id then some (.normal,d,E')else some (.exit e,d,E')
  |r=>r
 |.loop body,fr,E=>L (bf C L bU rd body) fr E
 |.exit id,fr,E=>some (.exit id,fr,E)
 |.ret,fr,E=>some (.ret,fr,E)
 |.aJ ops,fr,E=>fg X C ops fr E
 |.ur ops,fr,E=>gV X C [] (iG E.heap.length ops) fr (E.my (dP ops))
 |.iW g params assign body,fr,E=>
  if rd then none else
  if qw X (g.get fr.env)then
   match C (g.get fr.env) [.fn (.yield (E.heap.length+1)) [] []] ((E.push .fO).push (.loop .ready none bU fr.env params assign body))with
   |some (.ret _ E')=>endLoop (E.heap.length+1) {fr with marks:=E.heap.length::fr.marks} E'
   |some (.panic v E')=>some (.panic v,{fr with marks:=E.heap.length::fr.marks},E')
   |none=>none
  else none
mutual
def freeze(E:AS)(n:Nat):Nat->AV->Option AV
 |0,_=>none
 |k+1,v=>if v.refs<=n then some v else
  match v with
  |.ref id ak sz off len cK=>match E.heap[id]? with
   |some (.row v c _ af)=>if v=ak/\c=sz/\off+len<=af.length then
      match rV E n k ((af.drop off).take len)with
      |some a=>some (.sl a cK)
      |none=>none
    else none
   |_=>none
  |.agg cs=>match iY E n k cs with
   |some b=>some (.agg b)
   |none=>none
  |.aA cs=>match iY E n k cs with
   |some b=>some (.aA b)
   |none=>none
  |.sl af cK=>match rV E n k af with
   |some a=>some (.sl a cK)
   |none=>none
  |_=>none
def iY(E:AS)(n:Nat):Nat->List AV->Option (List AV)
 |_,[]=>some []
 |0,_::_=>none
 |k+1,a::as=>match freeze E n k a with
  |some a'=>match iY E n (k+1) as with
   |some b=>some (a'::b)
   |none=>none
  |none=>none
def rV(E:AS)(n:Nat):Nat->List (List AV)->Option (List (List AV))
 |_,[]=>some []
 |0,_::_=>none
 |k+1,a::as=>match iY E n k a with
  |some a'=>match rV E n (k+1) as with
   |some b=>some (a'::b)
   |none=>none
  |none=>none
end
def finish(n:Nat)(dU:oN)(v:AV)(E:AS):AV×AS:=
 if(match E.lo with|none=>true|some j=>n<=j)then
  match freeze E n 12 v with
  |some v'=>(v',{heap:=E.heap.take n,lo:=dU})
  |none=>(v,{heap:=E.heap,lo:=gS dU E.lo})
 else(v,{heap:=E.heap,lo:=gS dU E.lo})
def oQ(E:AS)(e:Env):RV->Option AV
 |.t i=>some (e i)
 |.cell a agg n=>cp X E agg n (e a)
def kr(E:AS)(e:Env):List RV->Option (List AV)
 | []=>some []
 |r::rs=>match oQ X E e r with
  |some v=>match kr E e rs with
   |some vs=>some (v::vs)
   |none=>none
  |none=>none
def gg(E:AS)(e:Env)(a:List RV):Option AV:=
 match kr X E e a with
 |some [v]=>some v
 |some vs=>some (.aA vs)
 |none=>none
def dV(E:AS):lN->Option AS
 | []=>some E
 |m::ms=>match E.heap[m]? with
  |some .fO=>dV (E.set m .dead 0) ms
  |_=>none
def dv(args:List AV):Env:=λt=>args.getD t .undef
def iZ(e:Env):lN->List AV->Env
 |p::ps,a::as=>iZ (e.set p a) ps as
 |_,_=>e
def qx(n:Nat)(dU:oN)(pf:PF)(b:Fr)(E:AS):Option aU:=
 match dV E b.marks with
 |some a=>match gg X a b.env pf.results with
  |some v=>some (.ret (finish n dU v a).1 (finish n dU v a).2)
  |none=>none
 |none=>none
def leave(n:Nat)(dU:oN)(pf:PF):jM->Option aU
 |some (.normal,fr,E)=>qx X n dU pf fr E
 |some (.ret,fr,E)=>qx X n dU pf fr E
 |some (.panic v,fr,E)=>match dV E fr.marks with
  |some a=>some (.panic (finish n dU v a).1 (finish n dU v a).2)
  |none=>none
 |_=>none
def qy:Ex->Option (Option PC)
 |.normal=>some none
 |.ret=>some (some .ret)
 |.exit id=>some (some (.exit id))
 |.panic _=>none
def endRound(l n:Nat)(dU:oN):jM->Option aU
 |some (ex,_,E)=>match qy ex,E.heap[l]? with
  |some j,some (.loop _ _ f env ps as bd)=>
   some (.ret (.bool j.isNone) (finish n dU (.bool j.isNone) (E.set l (.loop (if j.isNone then .ready else .done) j f env ps as bd) 0)).2)
  |_,_=>none
 |none=>none
noncomputable def lS(C:bJ)(L:eJ)(l:Nat)(args:List AV)(E:AS):Option aU:=
 match E.heap[l]? with
 |some (.loop _ _ f env ps assign body)=>
  if args.length=ps.length then
   match bf X C L f true assign {env:=iZ env ps args,marks:=[]} {E with lo:=none}with
   |some (.normal,fr,a)=>
    match a.heap[l]? with
    |some (.loop .ready b g c d e ju)=>
     endRound l E.heap.length E.lo (bf X C L f true body fr (a.set l (.loop .busy b g c d e ju) 0))
    |_=>none
   |_=>none
  else none
 |_=>none
noncomputable def step(C:bJ)(L:eJ):bJ
 |.fn (.func f) first cap,args,E=>
  match X.cg f with
  |some p=>p (first++args++cap) E
  |none=>
   match X.code f with
   |some pf=>
    if(first++args++cap).length<=pf.ntmps then
     leave X E.heap.length E.lo pf (bf X C L f false pf.body {env:=dv (first++args++cap),marks:=[]} {E with lo:=none})
    else none
   |none=>none
 |.fn (.yield l) [] _,args,E=>lS X C L l args E
 |_,_,_=>none
def iter:Nat->eJ
 |0,_,_,_=>none
 |n+1,body,fr,E=>match body fr E with
  |some (.normal,a,E')=>iter n body a E'
  |r=>r
noncomputable def ja:Nat->bJ
 |0=>λ_ _ _=>none
 |n+1=>step X (ja n) (iter n)
section
variable(P:Program)
def cD(t:TypeId):oN:=(P.info? t).map (·.size)
def xN(t:TypeId):oN:=(P.info? t).map (·.bytes)
def m5(t:TypeId):Option Bool:=(P.underlying t).map λ |.struct _|.array _ _=>true|_=>false
def AV.plain:AV->Bool
 |.qn=>false
 |_=>true
def Ge:Value->Bool
 |.agg cs=>cs.toList.all λv=>(AV.ko v).plain&& !(AV.ko v).cx
 |.iface _ v=>(AV.ko v).plain
 |v=>(AV.ko v).plain
def zeroV(t:TypeId):Option Value:=(P.info? t).bind (·.zero)
def xO(t:TypeId):Option AV:=
 match zeroV P t with
 |some z=>if Ge z then some (AV.ofValue z)else none
 |none=>none
def iv(t:TypeId):Option (List AV):=
 match xO P t,cD P t with
 |some z,some n=>if z.cx=false/\z.cells.length=n then some z.cells else none
 |_,_=>none
def rW:List AV->TypeId->Option TypeId
 | [.fN,.au],t=>some t
 |_,_=>none
def bQ:Operand->Option ao
 |.tmp t=>some (.t t)
 |.const v=>if Ge v then some (.c (AV.ofValue v))else none
 |.global g=>some (.c (.dS g))
 |.func f=>some (.c (.fn (.func f) [] []))
def nU:List Operand->Option (List ao)
 | []=>some []
 |x::xs=>match bQ x,nU xs with
  |some y,some ys=>some (y::ys)
  |_,_=>none
def uw:Option Operand->Option (Option ao)
 |none=>some none
 |some x=>(bQ x).map some
def parts(a:Nat->Option (Nat×Nat)):List (Nat×Operand)->Option (List (Nat×Nat×ao))
 | []=>some []
 | (i,x)::r=>match a i,bQ x,parts a r with
   |some (off,n),some y,some b=>some ((off,n,y)::b)
   |_,_,_=>none
def Aa(f:TypeId->Option (List EK)):List Field->Nat->Option (List EK)
 | [],_=>some []
 |g::gs,off=>match f g.type with
  |some a=>if g.name≠ "_" /\g.offset=off/\cD P g.type=some a.length then(Aa f gs (off+a.length)).map (a++ ·)else none
  |none=>none
def nV:Nat->TypeId->Option (List EK)
 |0,_=>none
 |d+1,t=>match P.underlying t with
  |some .bool=>some [.bool]
  |some (.int _)=>some [.int]
  |some .string=>some [.str]
  |some (.struct fields)=>if P.stoodInHeld t=false then Aa P (nV d) fields.toList 0 else none
  |some (.array n e)=>match nV d e with
   |some a=>if cD P e=some a.length/\n*a.length<=1024 then some (List.replicate n a).flatten else none
   |none=>none
  |_=>none
def UN:List TypeId:=
 (List.range P.types.size).filter λt=>match P.info? t,P.underlying t with
   |some i,some (.int _)=>i.comparable
   |_,_=>false
def xP(t:TypeId)(x y:Operand):Option EK:=
 match P.underlying t with
 |some .bool=>some .bool
 |some (.int _)=>some .int
 |some .string=>some .str
 |some (.pointer _)=>some .ptr
 |some (.slice _)=>some .sl
 |some (.map _ _)=>some .map
 |some (.func _ _ _)=>some .fn
 |some (.interface _)=>(match x,y with|.const .nilIface,_=>some .du|_,.const .nilIface=>some .du|_,_=>some (.z6 (UN P)))
 |some (.struct _)=>if P.eqGuardType P.depth t=false then(nV P 10 t).map .agg else none
 |some (.array _ _)=>if P.eqGuardType P.depth t=false then(nV P 10 t).map .agg else none
 |_=>none
def Ab(t:TypeId):Option EK:=
 match P.underlying t with
 |some .bool=>some .bool
 |some (.int _)=>some .int
 |some .string=>some .str
 |_=>none
def aAt(t:TypeId):Bool:=match zeroV P t with|some .nilIface=>true|_=>false
def UO:Fn->Bool
 |.yield _=>true
 |_=>false
def aAu(a:Array (String×TypeId)):List TypeId:=
 (List.range P.types.size).filter λt=>match P.info? t with
   |some i=>(Instr.missingMethod a i.methods).isNone
   |none=>false
def Cw(a:TypeId)(c:Call):Option I:=
 match c.callee,c.argTypes.toList,c.args.toList with
 |.value f,_,args=>match bQ f,nU args with
  |some f,some as=>some (.call f as)
  |_,_=>none
 |.builtin .len,[t],[x]=>match P.underlying t with
  |some .string=>(bQ x).map (.len .str)
  |some (.slice _)=>(bQ x).map (.len .sl)
  |some (.map _ _)=>(bQ x).map (.len .map)
  |_=>none
 |.builtin .append,[st,g],[s,x]=>match P.underlying st with
  |some (.slice e)=>match cD P e,xN P e,bQ s,bQ x with
   |some sz,some b,some s,some x=>match P.underlying g with
    |some (.slice _)=>if 0<b/\ (iv P e).isSome then some (.append e sz b s x)else none
    |_=>none
   |_,_,_,_=>none
  |_=>none
 |.builtin .copy,[h,_],[d,s]=>match P.underlying h with
  |some (.slice e)=>match cD P e,bQ d,bQ s with
   |some sz,some d,some s=>some (.copy sz d s)
   |_,_,_=>none
  |_=>none
 |.builtin .clear,[t],[x]=>match P.underlying t with
  |some (.slice e)=>match iv P e,bQ x with
   |some z,some x=>some (.clear z x)
   |_,_=>none
  |_=>none
 |.builtin .max,_,xs=>match P.underlying a with
  |some (.int _)=>(nU xs).map .max
  |_=>none
 |.builtin .min,_,xs=>match P.underlying a with
  |some (.int _)=>(nU xs).map .min
  |_=>none
 |.builtin .cap,[t],[x]=>match P.underlying t with
  |some (.slice _)=>(bQ x).map (.len .cap)
  |_=>none
 |_,_,_=>none
def kW(rows:Bool)(o:Oper):Option I:=
 match o.op with
 |.move x|.assign x=>(bQ x).map .mov
 |.pick c a b=>match bQ c,bQ a,bQ b with
  |some c,some a,some b=>some (.pick c a b)
  |_,_,_=>none
 |.alloc t=>(iv P t).map λz=>.alloc z (rW z t)
 |.box t x=>(bQ x).map λx=>.box x ((iv P t).bind λz=>rW z t)
 |.build t ps=>match P.underlying t,iv P t with
  |some (.struct fields),some z=>if fields.toList.all (λf=>(cD P f.type).isSome)then(parts (λi=>match fields[i]? with
    |some f=>(cD P f.type).map λn=>(f.offset,n)
    |none=>none) ps.toList).map (.build z)else none
  |some (.array _ e),some z=>match cD P e with
   |some sz=>(parts (λi=>some (i*sz,sz)) ps.toList).map (.build z)
   |none=>none
  |_,_=>none
 |.buildSlice t len ps=>match P.underlying t with
  |some (.slice e)=>match iv P e with
   |some z=>if len*z.length<=65536/\0<z.length then
      (parts (λi=>some (i*z.length,z.length)) ps.toList).map λps=>if rows then .rQ e z len ps else .bslice z len ps
    else none
   |none=>none
  |_=>none
 |.load t a=>match m5 P t,cD P t,bQ a with
  |some b,some n,some a=>some (.load b n a)
  |_,_,_=>none
 |.store t a v=>match cD P t,bQ a,bQ v with
  |some n,some a,some v=>some (.store n a v)
  |_,_,_=>none
 |.nilCheck x=>(bQ x).map .nilck
 |.binOp op t x y _=>match bQ x,bQ y with
  |some p,some j=>match op,P.underlying t with
   |.shl,some (.int _)|.shr,some (.int _)=>some (.shf op p j)
   |.eql,_=>(xP P t x y).map λk=>.eq k p j
   |.neq,_=>(xP P t x y).map λk=>.ne k p j
   |_,some (.int _)|_,some .string=>some (.bin op p j)
   |_,_=>none
  |_,_=>none
 |.unOp op _ x=>(bQ x).map (.un op)
 |.convert src dst x=>match P.underlying src,P.underlying dst,bQ x with
  |some (.int _),some (.int k),some x=>some (.conv k x)
  |some .string,some (.slice e),some x=>match P.underlying e with
   |some (.int .u8)=>some (.s2b x)
   |_=>none
  |_,_,_=>none
 |.makeInterface t x=>match P.underlying t with
  |some (.interface _)|none=>none
  |some _=>(bQ x).map (.mki t)
 |.makeFunc f first cap=>match nU first.toList,nU cap.toList with
  |some a,some b=>if UO f then none else some (.mkf f a b)
  |_,_=>none
 |.makeMap _ none=>some .nT
 |.makeSlice t l c=>match P.underlying t with
  |some (.slice e)=>match iv P e,xN P e,bQ l,bQ c with
   |some z,some b,some l,some c=>if 0<z.length/\0<b then some (.uq e z b l c)else none
   |_,_,_,_=>none
  |_=>none
 |.slice t x lo h d=>match bQ x,uw lo,uw h,uw d with
  |some x,some lo,some h,some d=>match P.underlying t with
   |some .string=>if d.isNone then some (.slstr x lo h)else none
   |some (.slice e)=>if d.isNone||h.isSome then(cD P e).map λn=>.slsl n x lo h d else none
   |some (.array n e)=>if d.isNone then(cD P e).map λsz=>.slarr n sz x lo h else none
   |_=>none
  |_,_,_,_=>none
 |.fieldAddr s x f=>match P.underlying s,bQ x with
  |some (.struct fields),some x=>match fields[f]? with
   |some g=>match cD P g.type with
    |some n=>if 0<n then some (.faddr g.offset x)else none
    |none=>none
   |none=>none
  |_,_=>none
 |.field s x f=>match P.underlying s,bQ x with
  |some (.struct fields),some x=>match fields[f]? with
   |some g=>match m5 P g.type,cD P g.type with
    |some b,some n=>some (.fld b n g.offset x)
    |_,_=>none
   |none=>none
  |_,_=>none
 |.indexAddr t x i=>match P.underlying t,bQ x,bQ i with
  |some (.array n e),some x,some i=>(cD P e).map λsz=>.iaddra n sz x i
  |some (.slice e),some x,some i=>(cD P e).map λsz=>.iaddrs sz x i
  |_,_,_=>none
 |.index t x i=>match P.underlying t,bQ x,bQ i with
  |some (.array n e),some x,some i=>match m5 P e,cD P e with
   |some b,some sz=>some (.idxa b n sz x i)
   |_,_=>none
  |some .string,some x,some i=>some (.idxs x i)
  |_,_,_=>none
 |.lookup t m k ok=>match P.underlying t with
  |some (.map q u)=>match Ab P q,xO P u,bQ m,bQ k with
   |some r,some z,some m,some k=>some (.lookup r z m k ok)
   |_,_,_,_=>none
  |_=>none
 |.mapUpdate t m k v|.insert t m k v=>match P.underlying t with
  |some (.map q _)=>match Ab P q,bQ m,bQ k,bQ v with
   |some r,some m,some k,some v=>some (.oO r m k v)
   |_,_,_,_=>none
  |_=>none
 |.typeAssert x _ asserted ok=>match P.underlying asserted,bQ x with
  |some (.interface _),some _=>none
  |some _,some x=>match xO P asserted with
   |some z=>some (.ta z x asserted ok)
   |none=>none
  |_,_=>none
 |.extract x i=>(bQ x).map λx=>.ext x i
 |.call c=>Cw P o.type c
 |.panic x=>(bQ x).map .panic
 |_=>none
def guardOf(a:Array Oper)(o:Oper):Option (Option (Nat×Bool)):=
 match o.guard with
 |none=>some none
 |some (j,want)=>match(a[j]?).bind (·.dst)with
  |some t=>some (some (t,want))
  |none=>none
def jb(rows:Bool)(a:Array Oper)(o:Oper):Option aQ:=
 match kW P rows o,guardOf a o with
 |some i,some g=>some {g:=g,dst:=o.dst,i:=i}
 |_,_=>none
def kX(rows:Bool)(a:Array Oper):List Oper->Option (List aQ)
 | []=>some []
 |o::os=>match jb P rows a o,kX rows a os with
  |some x,some xs=>some (x::xs)
  |_,_=>none
def kY(o:Oper):lN:=(o.after.toList.filter (Region.binds .any)).map (·.on)
def Ac(a:lN)(n:Nat):lN->Nat
 | []=>0
 |e::es=>Nat.lor (Nat.lor (Nat.shiftLeft 1 e) (if e<n then a.getD (n-1-e) 0 else 0)) (Ac a n es)
def ux(a:Array Oper):Nat->lN
 |0=>[]
 |n+1=>Ac (ux a n) n (match a[n]? with|some o=>kY o|none=>[])::ux a n
def iw(b:Array Oper)(_:Nat)(i:Nat):lN:=(List.range i).filter λa=>Nat.testBit ((ux b (i+1)).headD 0) a
def Gf(b:Region.Mode)(a:Array Oper):lN->lN->Bool
 |_,[]=>true
 |pre,i::rest=>(match a[i]? with|some o=>o.after.toList.all (λe=>!Region.binds b e||pre.contains e.on)|none=>false)&&Gf b a (i::pre) rest
def uy(c:Region.Mode)(b:Array Oper)(a:lN):Bool:=(List.range b.size).all (λi=>a.contains i)&&Gf c b [] a
def rX(ys:List (aQ×Nat))(a:List lN)(y:aQ)(j:Nat):lN:=
 if y.i.cls=0 then[]else
 match(ys.filter λ (x,i)=>i<j&&x.i.cls>=1&& !(a.getD j []).contains i).map (·.2)with
 | []=>if y.i.cls=2 then((ys.filter λ (x,i)=>i<j&&x.i.cls=0&& !(a.getD j []).contains i).map (·.2)).take 1 else[]
 |l=>l
def Mb{ys:List (aQ×Nat)}{a:List lN}{y x:aQ}(c: (x,i)∈ys)(b:i<j)(f:x.i.cls≠0)(e:y.i.cls≠0)(d: (a.getD j []).contains i=false):i∈rX ys a y j:=by
 unfold rX;have hm:i∈(ys.filter λ (x,i)=>i<j&&x.i.cls>=1&& !(a.getD j []).contains i).map (·.2):=by
  simp only[aeO,ae2]
  grind
 grind
def alH{ys:List (aQ×Nat)}{b:List lN}{y x:aQ}(d: (x,i)∈ys)(c:i<j)(k:y.i.cls=2)(f: (b.getD j []).contains i=false):rX ys b y j≠[]:=by
 intro h;by_cases ci:x.i.cls=0
 ·unfold rX at h;rw[ac0 (by omega)]at h;split at h
  ·have hm:i∈(ys.filter λ (x,i)=>i<j&&x.i.cls=0&& !(b.getD j []).contains i).map (·.2):=by
     simp only[aeO,ae2]
     grind
   cases e: (ys.filter λ (x,i)=>i<j&&x.i.cls=0&& !(b.getD j []).contains i).map (·.2)with
   |nil=>grind
   |cons a g=>grind
  grind
 ·have:=Mb (y:=y) d c ci (by omega) f
  grind
def Mc(a:Array Oper)(xs:List aQ):Option (List (aQ×lN)):=
 let n:=xs.length
 let before:=(List.range n).map λi=>(iw a 64 i).eraseDups
 let ordered (i j:Nat):Bool:=(before.getD j []).contains i
 let ys:=xs.zipIdx
 if(uy .any a (List.range a.size)&&uy .text a (List.range a.size)&&uy .gc a (Region.linearise .gc a 0))&& (List.range n).all (λi=>match a[i]? with|some o=>(kY o).all (· <i)|none=>false)&&
   ys.all (λ (x,i)=>ys.all λ (y,j)=>i>=j||ordered i j||kq x y)
 then some (ys.map λ (y,j)=>(y,rX ys before y j))
 else none
def fh(rows:Bool)(nt:Nat):Code->Option PC
 |.skip|.label _=>some .skip
 |.seq a b=>match fh rows nt a,fh rows nt b with
  |some a,some b=>some (.seq a b)
  |_,_=>none
 |.cond c a b=>match bQ c,fh rows nt a,fh rows nt b with
  |some c,some a,some b=>some (.cond c a b)
  |_,_,_=>none
 |.block id b=>(fh rows nt b).map (.block id)
 |.loop b=>(fh rows nt b).map .loop
 |.exit id=>some (.exit id)
 |.ret=>some .ret
 |.region _ ops draw=>match kX P rows ops ops.toList with
  |some xs=>
   if xs.all (λx=>match x.dst with|some d=>d<nt|none=>true)then
    if draw then(Mc ops xs).map .ur else some (.aJ xs)
   else none
  |none=>none
 |.rangeFunc g ps assign body=>match bQ g,fh rows nt assign,fh rows nt body with
  |some g,some a,some b=>if ps.toList.all (· <nt)then some (.iW g ps.toList a b)else none
  |_,_,_=>none
 |.scope _|.goto _|.refuse _=>none
def oR:List ResultVar->Option (List RV)
 | []=>some []
 |.tmp t::r=>(oR r).map (.t t:: ·)
 |.cell a t::r=>match m5 P t,cD P t,oR r with
  |some b,some n,some rs=>some (.cell a b n::rs)
  |_,_,_=>none
def Cx(rows:Bool)(fn:Func):Option PF:=
 match fn.body with
 |some c=>match fh P rows fn.ntmps c,oR P fn.results.toList with
  |some b,some rs=>if(fn.name != "runtime.NumGoroutine")then some {ntmps:=fn.ntmps,results:=rs,body:=b}else none
  |_,_=>none
 |none=>none
end
structure Gh where
 bG:Nat->Nat->Option Value
 n:Nat
 bb:Nat->Nat
 base:Nat->Nat
 ak:Nat->Nat
 ez:Nat->Nat
 sz:Nat->Nat
 pz:Nat->Option ae:=λ_=>none
def Gh.on(G:Gh)(i:Nat):Prop:=i<G.n/\G.pz i=none
def leaf:Value->Bool
 |.agg _=>false
 |.tuple _=>false
 |_=>true
def qz(G:Gh)(b o:Nat)(vs:List Value):Prop:= ∀j v,vs[j]?=some v->G.bG b (o+j)=some v
def Leaves(vs:List Value):Prop:= ∀v∈vs,leaf v=true
def m6(G:Gh):Fn->Fn->Prop
 |.yield l,f=>G.on l/\ (∃k,f= .yield k/\ (G.ak l=0->k=G.bb l))
 |g,f=>f=g
mutual
def an(G:Gh):AV->Value->Prop
 |.bool b,v=>v= .bool b
 |.int k n,v=>v= .int k n
 |.str s,v=>v= .string s
 |.agg cs,v=> ∃vs:Array Value,v= .agg vs/\aG G cs vs.toList/\Leaves vs.toList
 |.aA cs,v=> ∃vs:Array Value,v= .tuple vs/\aG G cs vs.toList
 |.fN,v=>v= .pointer none
 |.ptr id off,v=>G.on id/\ ∃a,v= .pointer (some a)/\ (G.ak id=0->a=⟨G.bb id,off,none⟩)
 |.dA id ak i off,v=>G.on id/\ak<=G.ak id/\ ∃a,v= .pointer (some a)/\ (G.ak id=ak->a=⟨G.bb id,G.base id+i*G.sz id+off,none⟩)
 |.fe cs off,v=> ∃b o vs,v= .pointer (some ⟨b,o+off,none⟩)/\qz G b o vs/\Leaves vs/\aG G cs vs
 |.dS g,v=>v= .pointer (some ⟨g,0,none⟩)
 |.au,v=>v= .slice none 0 0
 |.sl af cK,v=> ∃b o cap sz vs,v= .slice (some ⟨b,o,none⟩) af.length cap/\af.length<=cap/\ (cK=true->cap=af.length)/\ (∀el∈af,el.length=sz)/\qz G b o vs/\Leaves vs/\bF G af vs
 |.ref id ak sz off len cK,v=>G.on id/\ak<=G.ak id/\ ∃a cap,v= .slice (some a) len cap/\ (len<=cap/\a.spot=none)/\ (cK=true->cap=len)/\
   (G.ak id=ak->G.sz id=sz/\ (0<cap->a=⟨G.bb id,G.base id+off*sz,none⟩)/\off*sz+cap*sz<=G.ez id)
 |.fC id _ off len,v=>G.on id/\ ∃a cap,v= .slice (some a) len cap/\len<=cap/\ (G.ak id=0->0<cap->a=⟨G.bb id,off,none⟩)
 |.mo,v=>v= .map none
 |.lM g,v=>(∃r,v= .map (some r))/\G.bG g 0=some v
 |.mp id,v=>G.on id/\ ∃r,v= .map (some r)/\ (G.ak id=0->r=G.bb id)
 |.fn f a b,v=> ∃ (c:Fn) (a' d:Array Value),v= .func c a' d/\m6 G f c/\aG G a a'.toList/\aG G b d.toList
 |.dD,v=>v= .nilFunc
 |.du t x,v=> ∃y,v= .iface t y/\an G x y
 |.eV,v=>v= .nilIface
 |.qn,_=>False
def aG(G:Gh):List AV->List Value->Prop
 | [],vs=>vs=[]
 |a::as,vs=> ∃v r,vs=v::r/\an G a v/\aG G as r
def bF(G:Gh):List (List AV)->List Value->Prop
 | [],vs=>vs=[]
 |a::as,vs=> ∃v r,vs=v++r/\aG G a v/\bF G as r
end
structure Gh.sub(G G':Gh):Prop where
 bG: ∀b o v,G.bG b o=some v->G'.bG b o=some v
 n:G.n<=G'.n
 on: ∀i,G.on i->G'.on i
 ak: ∀i,G.on i->G.ak i<=G'.ak i
 same: ∀i,G.on i->G'.ak i=G.ak i->G'.bb i=G.bb i/\G'.base i=G.base i/\G'.ez i=G.ez i/\G'.sz i=G.sz i
structure Gh.le(G G':Gh):Prop extends toSub:Gh.sub G G' where
 pz: ∀i,i<G.n->G'.pz i=G.pz i
def Gh.le.mk'{G a:Gh}(bG: ∀b o v,G.bG b o=some v->a.bG b o=some v)(n:G.n<=a.n)(pz: ∀i,i<G.n->a.pz i=G.pz i)(ak: ∀i,i<G.n->G.ak i<=a.ak i)
  (same: ∀i,i<G.n->a.ak i=G.ak i->a.bb i=G.bb i/\a.base i=G.base i/\a.ez i=G.ez i/\a.sz i=G.sz i):G.le a:=
 {bG:=bG,n:=n,pz:=pz,on:=λi h=>⟨ah7 h.1 n,by rw[pz i h.1];exact h.2⟩,ak:=λi h=>ak i h.1,same:=λi h=>same i h.1}
def Gh.alI(G:Gh):G.sub G:=⟨λ_ _ _ h=>h,adA _,λ_ h=>h,λ_ _=>adA _,λ_ _ _=>⟨rfl,rfl,rfl,rfl⟩⟩
theorem Gh.le_refl(G:Gh):G.le G:={G.alI with pz:=λ_ _=>rfl}
def Gh.UP{f c d:Gh}(h:f.sub c)(k:c.sub d):f.sub d where
 bG b o v e:=k.bG b o v (h.bG b o v e)
 n:=aga h.n k.n
 on i g:=k.on i (h.on i g)
 ak i g:=aga (h.ak i g) (k.ak i (h.on i g))
 same i g e:=by
  have a:=h.ak i g;have b:=k.ak i (h.on i g);have e1:c.ak i=f.ak i:=by omega
  have j:d.ak i=c.ak i:=by omega
  obtain⟨u,t,s,r⟩:=h.same i g e1;obtain⟨q,p,m,l⟩:=k.same i (h.on i g) j;omega
def Gh.le_trans{c b a:Gh}(h:c.le b)(k:b.le a):c.le a:=
 {Gh.UP h.toSub k.toSub with pz:=λi d=>(k.pz i (ah7 d h.n)).trans (h.pz i d)}
def qz.dQ{G a:Gh}(h:G.sub a){o:Nat}(f:qz G b o vs):qz a b o vs:=λj v e=>h.bG _ _ _ (f j v e)
def m6.dQ{G b:Gh}(h:G.sub b){f g:Fn}(r:m6 G f g):m6 b f g:=by
 cases f<;>simp only[m6]at* <;>try exact r
 obtain⟨a,k,e,c⟩:=r;refine⟨h.on _ a,k,e,λi=>?_⟩;have d:=h.ak _ a;rw[(h.same _ a (by omega)).1];omega
mutual
theorem an.dQ{G z:Gh}(h:G.sub z): ∀ (x:AV) (v:Value),an G x v->an z x v
 |.bool _,_,r=>by simpa[an]using r
 |.int _ _,_,r=>by simpa[an]using r
 |.str _,_,r=>by simpa[an]using r
 |.agg cs,_,r=>by
  simp only[an]at*;obtain⟨vs,e,l,d⟩:=r;exact⟨vs,e,aG.dQ h cs _ l,d⟩
 |.aA cs,_,r=>by
  simp only[an]at*;obtain⟨vs,e,l⟩:=r;exact⟨vs,e,aG.dQ h cs _ l⟩
 |.fN,_,r=>by simpa[an]using r
 |.ptr id off,_,r=>by
  simp only[an]at*;obtain⟨a,x,e,c⟩:=r;refine⟨h.on _ a,x,e,λn=>?_⟩;have m:=h.ak id a;rw[(h.same id a (by omega)).1];exact c (by omega)
 |.dA id ak i off,_,r=>by
  simp only[an]at*;obtain⟨a,b,x,e,c⟩:=r;have m:=h.ak id a;refine⟨h.on _ a,by omega,x,e,λn=>?_⟩;obtain⟨s,q,w,p⟩:=h.same id a (by omega);rw[s,q,p];exact c (by omega)
 |.fe cs off,_,r=>by
  simp only[an]at*;obtain⟨b,o,vs,e,f,d,l⟩:=r;exact⟨b,o,vs,e,f.dQ h,d,aG.dQ h cs _ l⟩
 |.dS _,_,r=>by simpa[an]using r
 |.au,_,r=>by simpa[an]using r
 |.sl af cK,_,r=>by
  simp only[an]at*;obtain⟨b,o,cap,sz,vs,e,k,j,u,f,d,l⟩:=r;exact⟨b,o,cap,sz,vs,e,k,j,u,f.dQ h,d,bF.dQ h af _ l⟩
 |.ref id ak sz off len cK,_,r=>by
  simp only[an]at*;obtain⟨a,b,x,cap,e,k,j,u⟩:=r;have m:=h.ak id a;refine⟨h.on _ a,by omega,x,cap,e,k,j,λn=>?_⟩;obtain⟨s,q,w,p⟩:=h.same id a (by omega);rw[s,q,w,p];exact u (by omega)
 |.fC id sz off len,_,r=>by
  simp only[an]at*;obtain⟨a,x,cap,e,k,j⟩:=r;have m:=h.ak id a;refine⟨h.on _ a,x,cap,e,k,λn D=>?_⟩;rw[(h.same id a (by omega)).1];exact j (by omega) D
 |.mo,_,r=>by simpa[an]using r
 |.lM g,_,r=>by
  simp only[an]at*;exact⟨r.1,h.bG _ _ _ r.2⟩
 |.mp id,_,r=>by
  simp only[an]at*;obtain⟨a,x,e,c⟩:=r;have m:=h.ak id a;refine⟨h.on _ a,x,e,λn=>?_⟩;rw[(h.same id a (by omega)).1];exact c (by omega)
 |.fn f a b,_,r=>by
  simp only[an]at*;obtain⟨E,a',F,e,A,C,B⟩:=r;exact⟨E,a',F,e,A.dQ h,aG.dQ h a _ C,aG.dQ h b _ B⟩
 |.dD,_,r=>by simpa[an]using r
 |.du t x,_,r=>by
  simp only[an]at*;obtain⟨y,e,l⟩:=r;exact⟨y,e,an.dQ h x _ l⟩
 |.eV,_,r=>by simpa[an]using r
 |.qn,_,r=>by simp[an]at r
theorem aG.dQ{G b:Gh}(h:G.sub b): ∀ (xs:List AV) (vs:List Value),aG G xs vs->aG b xs vs
 | [],_,r=>by simpa[aG]using r
 |a::as,_,r=>by
  simp only[aG]at*;obtain⟨v,q,e,d,c⟩:=r;exact⟨v,q,e,an.dQ h a _ d,aG.dQ h as _ c⟩
theorem bF.dQ{G b:Gh}(h:G.sub b): ∀ (xs:List (List AV)) (vs:List Value),bF G xs vs->bF b xs vs
 | [],_,r=>by simpa[bF]using r
 |a::as,_,r=>by
  simp only[bF]at*;obtain⟨v,q,e,d,c⟩:=r;exact⟨v,q,e,aG.dQ h a _ d,bF.dQ h as _ c⟩
end
def an.mono{G a:Gh}(h:G.le a)(x:AV)(v:Value)(r:an G x v):an a x v:=an.dQ h.toSub x v r
def aG.mono{G a:Gh}(h:G.le a)(xs:List AV)(vs:List Value)(r:aG G xs vs):aG a xs vs:=aG.dQ h.toSub xs vs r
def bF.mono{G a:Gh}(h:G.le a)(xs:List (List AV))(vs:List Value)(r:bF G xs vs):bF a xs vs:=bF.dQ h.toSub xs vs r
theorem aG.length{G:Gh}: ∀ {xs:List AV} {vs:List Value},aG G xs vs->vs.length=xs.length
 | [],_,r=>by simp only[aG]at r;simp[r]
 |_::as,_,r=>by
  obtain⟨v,q,rfl,_,a⟩:=r;simp[aG.length a]
theorem aG.get{G:Gh}: ∀ {xs:List AV} {vs:List Value},aG G xs vs-> ∀ (j:Nat) (x:AV),xs[j]?=some x-> ∃v,vs[j]?=some v/\an G x v
 | [],_,_,_,_,e=>by grind
 |a::as,_,r,j,x,e=>by
  obtain⟨v,q,rfl,d,b⟩:=r;cases j with
  |zero=>grind
  |succ j=>obtain⟨u,hu,c⟩:=aG.get b j x e;grind
theorem aG.Md{G:Gh}: ∀ {xs:List AV} {vs:List Value},vs.length=xs.length->(∀ (j:Nat) (x:AV) (v:Value),xs[j]?=some x->vs[j]?=some v->an G x v)->aG G xs vs
 | [],vs,b,_=>by cases vs<;>simp_all[aG]
 |a::as,vs,b,h=>by
  cases vs with
  |nil=>grind
  |cons v vs=>
   refine⟨v,vs,rfl,h 0 a v (by simp) (by simp),aG.Md (by grind) λj x u c hu=>h (j+1) x u (by grind) (by grind)⟩
theorem aG.append{G:Gh}: ∀ {xs ys:List AV} {vs us:List Value},aG G xs vs->aG G ys us->aG G (xs++ys) (vs++us)
 | [],_,_,_,r,k=>by simp only[aG]at r;grind
 |a::as,_,_,_,r,k=>by
  obtain⟨v,q,rfl,c,b⟩:=r;exact⟨v,q++_,rfl,c,aG.append b k⟩
theorem aG.split{G:Gh}: ∀ {xs ys:List AV} {vs:List Value},aG G (xs++ys) vs-> ∃v1 v2,vs=v1++v2/\aG G xs v1/\aG G ys v2
 | [],_,vs,r=>⟨[],vs,rfl,by rfl,r⟩
 |a::as,_,_,r=>by
  obtain⟨v,q,rfl,e,d⟩:=r;obtain⟨v1,v2,rfl,c,b⟩:=aG.split d;exact⟨v::v1,v2,rfl,⟨v,v1,rfl,e,c⟩,b⟩
theorem aG.take{G:Gh}{xs:List AV}(r:aG G xs vs)(n:Nat):aG G (xs.take n) (vs.take n):=
 .Md (by simp[r.length]) λj x v a b=>by
  rw[amU]at a b;split at a
  ·obtain⟨u,hu,c⟩:=r.get j x a
   grind
  grind
theorem aG.drop{G:Gh}{xs:List AV}(r:aG G xs vs)(n:Nat):aG G (xs.drop n) (vs.drop n):=
 .Md (by simp[r.length]) λj x v a b=>by
  rw[aki]at a b;obtain⟨u,hu,c⟩:=r.get _ x a
  grind
theorem bF.iff{G:Gh}: ∀ {af:List (List AV)} {vs:List Value},bF G af vs↔aG G af.flatten vs
 | [],_=>by rfl
 |a::as,vs=>by
  constructor
  ·rintro⟨v,r,rfl,e,d⟩;exact e.append (bF.iff.1 d)
  ·intro h;obtain⟨v1,v2,rfl,c,b⟩:=aG.split h;exact⟨v1,v2,rfl,c,bF.iff.2 b⟩
def aG.single{G:Gh}{x:AV}:aG G [x] [v]↔an G x v:=by simp[aG]
def Leaves.append{a b:List Value}(h:Leaves a)(k:Leaves b):Leaves (a++b):=λv c=>(adB.1 c).elim (h v) (k v)
theorem Leaves.take{a:List Value}(h:Leaves a)(n:Nat):Leaves (a.take n):=λv b=>h v (ahW b)
theorem Leaves.drop{a:List Value}(h:Leaves a)(n:Nat):Leaves (a.drop n):=λv b=>h v (ao1 b)
theorem an.cells{G:Gh}{x:AV}(r:an G x v)(h:x.cx=false):aG G x.cells v.cells.toList/\Leaves v.cells.toList:=by
 cases x<;>simp[AV.cx]at h<;>simp only[AV.cells]
 case agg cs=>
  obtain⟨vs,rfl,l,b⟩:=r;exact⟨l,b⟩
 all_goals
  have a:=r;simp only[an]at r
  first
   |rfl
   | (obtain⟨_,_,rfl,_⟩:=r;exact⟨aG.single.2 a,by simp[Leaves,Value.cells,leaf]⟩)
   | (obtain⟨_,rfl,_⟩:=r;exact⟨aG.single.2 a,by simp[Leaves,Value.cells,leaf]⟩)
   | (obtain⟨_,_,_,rfl,_⟩:=r;exact⟨aG.single.2 a,by simp[Leaves,Value.cells,leaf]⟩)
   | (obtain⟨_,_,_,_,rfl,_⟩:=r;exact⟨aG.single.2 a,by simp[Leaves,Value.cells,leaf]⟩)
   | (obtain⟨_,_,_,_,_,rfl,_⟩:=r;exact⟨aG.single.2 a,by simp[Leaves,Value.cells,leaf]⟩)
   | (obtain⟨⟨_,rfl⟩,_⟩:=r;exact⟨aG.single.2 a,by simp[Leaves,Value.cells,leaf]⟩)
mutual
theorem an.refs{G:Gh}: ∀ (x:AV) (v:Value),an G x v->x.refs<=G.n
 |.bool _,_,_|.int _ _,_,_|.str _,_,_|.fN,_,_|.dS _,_,_|.au,_,_|.mo,_,_|.lM _,_,_|.dD,_,_|.eV,_,_|.qn,_,_=>by simp[AV.refs]
 |.agg cs,_,r=>by simp only[an]at r;obtain⟨vs,_,l,_⟩:=r;simp only[AV.refs];exact aG.refs cs _ l
 |.aA cs,_,r=>by simp only[an]at r;obtain⟨vs,_,l⟩:=r;simp only[AV.refs];exact aG.refs cs _ l
 |.ptr id off,_,r=>by simp only[an]at r;have:=r.1.1;simp only[AV.refs];omega
 |.dA id ak i off,_,r=>by simp only[an]at r;have:=r.1.1;simp only[AV.refs];omega
 |.ref id ak sz off len cK,_,r=>by simp only[an]at r;have:=r.1.1;simp only[AV.refs];omega
 |.fC id sz off len,_,r=>by simp only[an]at r;have:=r.1.1;simp only[AV.refs];omega
 |.mp id,_,r=>by simp only[an]at r;have:=r.1.1;simp only[AV.refs];omega
 |.fe cs off,_,r=>by simp only[an]at r;obtain⟨b,o,vs,_,_,_,l⟩:=r;simp only[AV.refs];exact aG.refs cs _ l
 |.sl af cK,_,r=>by simp only[an]at r;obtain⟨b,o,cap,sz,vs,_,_,_,_,_,_,l⟩:=r;simp only[AV.refs];exact bF.refs af _ l
 |.fn f a b,_,r=>by
  simp only[an]at r;obtain⟨j,a',k,_,c,e,d⟩:=r;have h:=aG.refs a _ e;have g:=aG.refs b _ d;simp only[AV.refs];cases f<;>simp only[m6]at c<;>simp only<;>first|omega| (have:=c.1.1;omega)
 |.du t x,_,r=>by simp only[an]at r;obtain⟨y,_,l⟩:=r;simp only[AV.refs];exact an.refs x _ l
theorem aG.refs{G:Gh}: ∀ (xs:List AV) (vs:List Value),aG G xs vs->aL xs<=G.n
 | [],_,_=>by simp[aL]
 |a::as,_,r=>by
  simp only[aG]at r;obtain⟨v,q,_,c,b⟩:=r;have:=an.refs a _ c;have:=aG.refs as _ b;simp only[aL];omega
theorem bF.refs{G:Gh}: ∀ (xs:List (List AV)) (vs:List Value),bF G xs vs->b9 xs<=G.n
 | [],_,_=>by simp[b9]
 |a::as,_,r=>by
  simp only[bF]at r;obtain⟨v,q,_,c,b⟩:=r;have:=aG.refs a _ c;have:=bF.refs as _ b;simp only[b9];omega
end
structure Gh.ep(m:Nat)(G G':Gh):Prop where
 bG: ∀b o v,G.bG b o=some v->G'.bG b o=some v
 n:m<=G'.n
 pz: ∀i,i<m->G'.pz i=G.pz i
 ak: ∀i,i<m->G'.ak i=G.ak i
 bb: ∀i,i<m->G'.bb i=G.bb i
 base: ∀i,i<m->G'.base i=G.base i
 ez: ∀i,i<m->G'.ez i=G.ez i
 sz: ∀i,i<m->G'.sz i=G.sz i
mutual
theorem an.ep{m:Nat}{G n:Gh}(h:G.ep m n): ∀ (x:AV) (v:Value),an G x v->x.refs<=m->an n x v
 |.bool _,_,r,_|.int _ _,_,r,_|.str _,_,r,_|.fN,_,r,_|.dS _,_,r,_|.au,_,r,_|.mo,_,r,_|.dD,_,r,_|.eV,_,r,_=>by simpa[an]using r
 |.qn,_,r,_=>by simp[an]at r
 |.lM g,_,r,_=>by
  simp only[an]at*;exact⟨r.1,h.bG _ _ _ r.2⟩
 |.agg cs,_,r,hm=>by
  simp only[an,AV.refs]at*;obtain⟨vs,e,l,c⟩:=r;exact⟨vs,e,aG.ep h cs _ l hm,c⟩
 |.aA cs,_,r,hm=>by
  simp only[an,AV.refs]at*;obtain⟨vs,e,l⟩:=r;exact⟨vs,e,aG.ep h cs _ l hm⟩
 |.ptr id off,_,r,hm=>by
  simp only[an,AV.refs]at*;rw[h.ak id (by omega),h.bb id (by omega)];exact⟨⟨ah7 (by omega) h.n,by rw[h.pz id (by omega)];exact r.1.2⟩,r.2⟩
 |.dA id ak i off,_,r,hm=>by
  simp only[an,AV.refs]at*;rw[h.ak id (by omega),h.bb id (by omega),h.base id (by omega),h.sz id (by omega)];exact⟨⟨ah7 (by omega) h.n,by rw[h.pz id (by omega)];exact r.1.2⟩,r.2⟩
 |.fe cs off,_,r,hm=>by
  simp only[an,AV.refs]at*;obtain⟨b,o,vs,e,f,c,l⟩:=r;exact⟨b,o,vs,e,λj v d=>h.bG _ _ _ (f j v d),c,aG.ep h cs _ l hm⟩
 |.sl af cK,_,r,hm=>by
  simp only[an,AV.refs]at*;obtain⟨b,o,cap,sz,vs,e,z,w,u,f,c,l⟩:=r;exact⟨b,o,cap,sz,vs,e,z,w,u,λj v d=>h.bG _ _ _ (f j v d),c,bF.ep h af _ l hm⟩
 |.ref id ak sz off len cK,_,r,hm=>by
  simp only[an,AV.refs]at*;rw[h.ak id (by omega),h.bb id (by omega),h.base id (by omega),h.sz id (by omega),h.ez id (by omega)];exact⟨⟨ah7 (by omega) h.n,by rw[h.pz id (by omega)];exact r.1.2⟩,r.2⟩
 |.fC id sz off len,_,r,hm=>by
  simp only[an,AV.refs]at*;rw[h.ak id (by omega),h.bb id (by omega)];exact⟨⟨ah7 (by omega) h.n,by rw[h.pz id (by omega)];exact r.1.2⟩,r.2⟩
 |.mp id,_,r,hm=>by
  simp only[an,AV.refs]at*;rw[h.ak id (by omega),h.bb id (by omega)];exact⟨⟨ah7 (by omega) h.n,by rw[h.pz id (by omega)];exact r.1.2⟩,r.2⟩
 |.fn f a b,_,r,hm=>by
  simp only[an,AV.refs]at*;obtain⟨s,a',A,e,k,q,p⟩:=r;refine⟨s,a',A,e,?_,aG.ep h a _ q (by omega),aG.ep h b _ p (by omega)⟩;cases f<;>simp only[m6]at* <;>try exact k
  rename_i l;rw[h.ak l (by omega),h.bb l (by omega)];exact⟨⟨ah7 (by omega) h.n,by rw[h.pz l (by omega)];exact k.1.2⟩,k.2⟩
 |.du t x,_,r,hm=>by
  simp only[an,AV.refs]at*;obtain⟨y,e,l⟩:=r;exact⟨y,e,an.ep h x _ l hm⟩
theorem aG.ep{m:Nat}{G b:Gh}(h:G.ep m b): ∀ (xs:List AV) (vs:List Value),aG G xs vs->aL xs<=m->aG b xs vs
 | [],_,r,_=>by simpa[aG]using r
 |a::as,_,r,hm=>by
  simp only[aG,aL]at*;obtain⟨v,q,e,d,c⟩:=r;exact⟨v,q,e,an.ep h a _ d (by omega),aG.ep h as _ c (by omega)⟩
theorem bF.ep{m:Nat}{G b:Gh}(h:G.ep m b): ∀ (xs:List (List AV)) (vs:List Value),bF G xs vs->b9 xs<=m->bF b xs vs
 | [],_,r,_=>by simpa[bF]using r
 |a::as,_,r,hm=>by
  simp only[bF,b9]at*;obtain⟨v,q,e,d,c⟩:=r;exact⟨v,q,e,aG.ep h a _ d (by omega),bF.ep h as _ c (by omega)⟩
end
def ae.le(n:Nat):ae->Prop
 |.box cs _=>aL cs<=n
 |.row _ _ _ af=>b9 af<=n
 |.map es=> ∀p∈es,p.2.refs<=n
 |.loop _ _ _ env _ _ _=> ∀t,(env t).refs<=n
 |_=>True
theorem ae.le.mono{n a:Nat}(h:n<=a): ∀ {o:ae},o.le n->o.le a
 |.box _ _,r=>aga r h
 |.row _ _ _ _,r=>aga r h
 |.map _,r=>λp b=>aga (r p b) h
 |.loop _ _ _ _ _ _ _,r=>λt=>aga (r t) h
 |.fO,_|.dead,_=>trivial
def xQ:Option PC->Option Code->Prop
 |none,c=>c=none
 |some .ret,c=>c=some .ret
 |some (.exit id),c=>c=some (.exit id)
 |_,_=>False
structure cP(G:Gh)(nt:Nat)(e:Env)(tmps:Array Value):Prop where
 size:tmps.size=nt
 get: ∀t v,tmps[t]?=some v->an G (e t) v
 out: ∀t,nt<=t->e t= .undef
theorem cP.refs{G:Gh}{e:Env}{a:Array Value}(h:cP G nt e a)(t:Nat): (e t).refs<=G.n:=by
 by_cases b:t<nt
 ·have:t<a.size:=by rw[h.size];exact b
  exact an.refs _ _ (h.get t a[t] (by simp))
 ·rw[h.out t (by omega)];simp[AV.refs,aL]
theorem cP.dQ{G b:Gh}(h:G.sub b){e:Env}{a:Array Value}(r:cP G nt e a):cP b nt e a:=
 ⟨r.size,λt v c=>(r.get t v c).dQ h,r.out⟩
def cP.mono{G b:Gh}(h:G.le b){e:Env}{a:Array Value}(r:cP G nt e a):cP b nt e a:=r.dQ h.toSub
theorem cP.ep{G b:Gh}(h:G.ep m b){e:Env}{a:Array Value}(r:cP G nt e a)(d: ∀t,(e t).refs<=m):cP b nt e a:=
 ⟨r.size,λt v c=>(r.get t v c).ep h _ _ (d t),r.out⟩
def gh(G:Gh):List (AV×AV)->List MapEntry->Prop
 | [],ms=>ms=[]
 | (k,v)::es,ms=> ∃m r,ms=m::r/\isKey k=true/\an G k m.key/\an G v m.val/\gh G es r
theorem gh.dQ{G a:Gh}(h:G.sub a): ∀ {es:List (AV×AV)} {ms:List MapEntry},gh G es ms->gh a es ms
 | [],_,r=>by trivial
 | (k,v)::es,_,r=>by
   obtain⟨m,q,e,f,d,c,b⟩:=r;exact⟨m,q,e,f,d.dQ h,c.dQ h,b.dQ h⟩
def alJ{k:AV}(h:isKey k=true):k.refs=0:=by cases k<;>simp[isKey]at h<;>simp[AV.refs]
theorem gh.ep{m:Nat}{G b:Gh}(h:G.ep m b): ∀ {es:List (AV×AV)} {ms:List MapEntry},gh G es ms->(∀p∈es,p.2.refs<=m)->gh b es ms
 | [],_,r,_=>by trivial
 | (k,v)::es,_,r,hm=>by
   obtain⟨e,q,he,a,f,d,c⟩:=r;exact⟨e,q,he,a,f.ep h _ _ (by simp[alJ a]),d.ep h _ _ (hm (k,v) (by simp)),c.ep h λp g=>hm p (by grind)⟩
def an.aAv{G:Gh}{id off:Nat}(r:an G (.ptr id off) v):G.pz id=none:=by exact r.1.2
def an.aAw{G:Gh}{id off:Nat}(r:an G (.dA id ak i off) v):G.pz id=none:=by exact r.1.2
def an.Me{G:Gh}{id off len:Nat}{c:Bool}(r:an G (.ref id ak sz off len c) v):G.pz id=none:=by exact r.1.2
def an.alK{G:Gh}{id off len:Nat}(r:an G (.fC id sz off len) v):G.pz id=none:=by exact r.1.2
def an.Gg{G:Gh}{id:Nat}(r:an G (.mp id) v):G.pz id=none:=by exact r.1.2
variable(P:Program)
def jc(G:Gh)(id:Nat)(w:World):ae->Prop
 |.box cs tg=>G.ak id=0/\ ∃ (c:Array Value) (ty:TypeId),w.heap[G.bb id]?=some (.cells c ty (0,0))/\aG G cs c.toList/\Leaves c.toList/\ ∀t,tg=some t->ty=t
 |.row ak sz ty af=>G.ak id=ak/\G.sz id=sz/\ (∀el∈af,el.length=sz)/\ ∃ (c:Array Value) (pre vs post:List Value),w.heap[G.bb id]?=some (.cells c ty (0,0))/\
   c.toList=pre++(vs++post)/\pre.length=G.base id/\c.size=G.base id+G.ez id/\bF G af vs/\Leaves vs
 |.map es=>G.ak id=0/\ ∃ms clock,w.heap[G.bb id]?=some (.map ms clock)/\gh G es ms.toList
 |.loop st a fn env ps as bd=>G.ak id=0/\ ∃L:Loop,w.heap[G.bb id]?=some (.loop L)/\L.state=st/\xQ a L.pending/\True/\cP G L.tmps.size env L.tmps/\L.params.toList=ps/\
   ps.all (· <L.tmps.size)=true/\ ∃rows,fh P rows L.tmps.size L.assign=some as/\fh P rows L.tmps.size L.body=some bd
 |.fO=>G.ak id=0/\w.heap[G.bb id]?=some (.deferred (some []))
 |.dead=>True
structure aX(B:Nat)(ax:World)(G:Gh)(E:AS)(w:World):Prop where
 len:G.n=E.heap.length
 bG: ∀b o v,G.bG b o=some v->w.cell? ⟨b,o,none⟩=some v
 obj: ∀ (id:Nat) (o:ae),E.heap[id]?=some o->G.pz id=none->jc P G id w o
 inj: ∀i j,G.on i->G.on j->G.bb i=G.bb j->i=j
 sep: ∀i,G.on i-> ∀o,G.bG (G.bb i) o=none
 low: ∀i,G.on i->B<=G.bb i/\G.bb i<w.heap.size
 lT:Below B ax w
 hB:B<=w.heap.size
 lU: ∀id o,id<G.n->G.pz id=some o->E.heap[id]?=some o/\ ∃z tg,o= .box z tg/\aL z=0
 dW: ∀b o v,b<B->ax.cell? ⟨b,o,none⟩=some v->G.bG b o=some v
def aX.xR{B:Nat}{a:World}{G:Gh}{E:AS}(h:aX P B a G E w){o:Nat}(e:G.bG b o=some v):b<w.heap.size:=by
 have:=h.bG b o v e;simp only[World.cell?]at this
 grind
variable{P}
theorem gh.refs{G:Gh}: ∀ {es:List (AV×AV)} {ms:List MapEntry},gh G es ms-> ∀p∈es,p.2.refs<=G.n
 | [],_,_,_,a=>by grind
 | (k,v)::es,_,r,p,a=>by
   obtain⟨m,q,_,_,_,c,b⟩:=r;rcases aeZ.1 a with rfl|a
   ·exact an.refs _ _ c
   ·exact gh.refs b p a
theorem jc.le{G:Gh}{id:Nat}{w:World}: ∀ {o:ae},jc P G id w o->o.le G.n
 |.box _ _,r=>by obtain⟨_,c,ty,_,l,_⟩:=r;exact aG.refs _ _ l
 |.row _ _ _ _,r=>by obtain⟨_,_,_,c,pre,vs,post,_,_,_,_,l,_⟩:=r;exact bF.refs _ _ l
 |.map es,r=>by obtain⟨_,ms,clock,_,l⟩:=r;exact l.refs
 |.loop _ _ _ _ _ _ _,r=>by obtain⟨_,L,_,_,_,_,he,_⟩:=r;exactλt=>he.refs t
 |.fO,_|.dead,_=>trivial
def aX.alL{B:Nat}{a:World}{G:Gh}{E:AS}(h:aX P B a G E w){id:Nat}{o:ae}(e:E.heap[id]?=some o):o.le G.n:=by
 cases c:G.pz id with
 |none=>exact(h.obj id o e c).le
 |some o'=>
  obtain⟨b,z,tg,rfl,d⟩:=h.lU id o' (by rw[h.len];grind) c;rw[e]at b;cases b;simp only[ae.le,d];omega
theorem jc.dQ{G d:Gh}(h:G.sub d){id:Nat}(j:G.on id)(g:d.ak id=G.ak id)(i:w'.heap[G.bb id]?=w.heap[G.bb id]?): ∀ {o:ae},jc P G id w o->jc P d id w' o:=by
 obtain⟨k,x,v,u⟩:=h.same id j g;intro o r;cases o with
 |box cs tg=>
  obtain⟨b,c,ty,e,l,a⟩:=r;exact⟨by omega,c,ty,by grind,l.dQ h,a⟩
 |row ak sz ty af=>
  obtain⟨b,e1,hu,c,pre,vs,post,e,m,e3,y,l,a⟩:=r;exact⟨by omega,by omega,hu,c,pre,vs,post,by grind,m,by omega,by omega,l.dQ h,a⟩
 |map es=>
  obtain⟨b,ms,clock,e,l⟩:=r;exact⟨by omega,ms,clock,by grind,l.dQ h⟩
 |loop st f fn env ps as bd=>
  obtain⟨b,L,e,t,s,q,p,n⟩:=r;exact⟨by omega,L,by grind,t,s,q,p.dQ h,n⟩
 |fO=>exact⟨by rw[g];exact r.1,by rw[k,i];exact r.2⟩
 |dead=>trivial
def jc.mono{G a:Gh}(h:G.le a){id:Nat}(d:G.on id)(c:a.ak id=G.ak id)(b:w'.heap[G.bb id]?=w.heap[G.bb id]?){o:ae}(r:jc P G id w o):jc P a id w' o:=r.dQ h.toSub d c b
theorem jc.ep{G g:Gh}(h:G.ep m g){id:Nat}(a:id<m)(i:w'.heap[G.bb id]?=w.heap[G.bb id]?): ∀ {o:ae},jc P G id w o->o.le m->jc P g id w' o:=by
 have k:=h.bb id a;have y:=h.base id a;have x:=h.ez id a;have v:=h.sz id a;have j:=h.ak id a;intro o r hm;cases o with
 |box cs tg=>
  obtain⟨d,c,ty,e,l,b⟩:=r;exact⟨by omega,c,ty,by grind,aG.ep h _ _ l hm,b⟩
 |row ak sz ty af=>
  obtain⟨d,e1,hu,c,pre,vs,post,e,n,e3,z,l,b⟩:=r;exact⟨by omega,by omega,hu,c,pre,vs,post,by grind,n,by omega,by omega,bF.ep h _ _ l hm,b⟩
 |map es=>
  obtain⟨d,ms,clock,e,l⟩:=r;exact⟨by omega,ms,clock,by grind,l.ep h hm⟩
 |loop st f fn env ps as bd=>
  obtain⟨d,L,e,u,t,s,q,p⟩:=r;exact⟨by omega,L,by grind,u,t,s,q.ep h hm,p⟩
 |fO=>exact⟨by rw[j];exact r.1,by rw[k,i];exact r.2⟩
 |dead=>trivial
section
def Ad(lo:oN)(j:Nat):Prop:= ∃l,lo=some l/\l<=j
structure AS.Ext(E E':AS):Prop where
 len:E.heap.length<=E'.heap.length
 lo: ∀j,Ad E.lo j->Ad E'.lo j
 obj: ∀ (j:Nat) (o:ae),E.heap[j]?=some o-> ∃o',E'.heap[j]?=some o'/\ ((∀n,o.le n->o'.le (max n (j+1)))\/Ad E'.lo j)
def AS.Ext.refl(E:AS):E.Ext E:=⟨adA _,λ_ h=>h,λ_ o h=>⟨o,h,.inl λ_ k=>k.mono (by omega)⟩⟩
def AS.Ext.trans{a b c:AS}(h:a.Ext b)(k:b.Ext c):a.Ext c where
 len:=aga h.len k.len
 lo j x:=k.lo j (h.lo j x)
 obj j o e:=by
  obtain⟨i,m,d⟩:=h.obj j o e;obtain⟨g,l,f⟩:=k.obj j i m;refine⟨g,l,?_⟩;rcases f with f|f
  ·rcases d with d|d
   ·grind
   ·exact .inr (k.lo j d)
  grind
theorem AS.Ext.push(E:AS)(o:ae):E.Ext (E.push o)where
 len:=by simp[AS.push]
 lo _ h:=h
 obj j x e:=⟨x,by
  have:j<E.heap.length:=(ack.1 e).1;simp[AS.push,acj this,e],.inl λ_ k=>k.mono (by omega)⟩
def Ae{lo:oN}{id:Nat}(h:Ad lo j\/id<=j):Ad (cO lo id) j:=by
 cases lo with
 |none=>
  rcases h with⟨l,e,_⟩|h
  ·cases e
  ·exact⟨id,rfl,h⟩
 |some a=>
  refine⟨Nat.min a id,by simp[cO,Nat.min_comm],?_⟩;rcases h with⟨l,e,b⟩|h
  ·grind
  grind
theorem AS.Ext.set{E:AS}{id:Nat}{o o':ae}{refs:Nat}(d:E.heap[id]?=some o)(h: ∀n,o.le n->refs<=n->o'.le n):E.Ext (E.set id o' refs)where
 len:=by simp[AS.set]
 lo j x:=by
  simp only[AS.set];split
  ·exact x
  ·exact Ae (.inl x)
 obj j x e:=by
  by_cases b:j=id
  ·subst b;obtain rfl:o=x:=by grind
   have a:j<E.heap.length:=(ack.1 e).1;refine⟨o',by simp[AS.set,a],?_⟩;simp only[AS.set];split
   ·exact .inl λn c=>h _ (c.mono (by omega)) (by omega)
   ·simp_all[Ae,adA]
  ·exact⟨x,by simp[AS.set,ach (λh=>b h.symm),e],.inl λ_ k=>k.mono (by omega)⟩
def Below.alM{B:Nat}{ax:World}(h:Below B ax w)(ho:w'.os=w.os)(b:w'.tape=w.tape)(a:w'.output=w.output)(c:w.heap.size<=w'.heap.size)
 (d: ∀k,k<B->w'.heap[k]?=w.heap[k]?):Below B ax w':=h.trans ⟨ho,b,a,c,d⟩
variable{P:Program}{B:Nat}{ax:World}
def Gh.push(G:Gh)(b:Nat)(ez sz:Nat):Gh:=
 {G with n:=G.n+1,bb:=λi=>if i=G.n then b else G.bb i,base:=λi=>if i=G.n then 0 else G.base i,
         ak:=λi=>if i=G.n then 0 else G.ak i,ez:=λi=>if i=G.n then ez else G.ez i,sz:=λi=>if i=G.n then sz else G.sz i,pz:=λi=>if i=G.n then none else G.pz i}
def Gh.Af(G:Gh)(b ez sz:Nat):G.le (G.push b ez sz):=
 .mk' (λ_ _ _ h=>h) (by simp[Gh.push]) (λi a=>by simp[Gh.push,aAN a]) (λi a=>by simp[Gh.push,aAN a]) (λi a _=>by simp[Gh.push,aAN a])
def Gh.Gi{G:Gh}{ez:Nat}(h: (G.push b ez sz).on i):i=G.n\/ (i≠G.n/\G.on i):=by
 obtain⟨c,a⟩:=h;simp only[Gh.push]at c a;by_cases e:i=G.n
 ·omega
 ·rw[ac0 e]at a;exact .inr ⟨e,by omega,a⟩
def cell?_alloc_old{o:Obj}(h:b<w.heap.size): (w.alloc o).cell? ⟨b,k,none⟩=w.cell? ⟨b,k,none⟩:=World.cell?_alloc_lt w o ⟨b,k,none⟩ h
theorem aX.push{G:Gh}{E:AS}(h:aX P B ax G E w)(O:Obj)(o:ae)(ez sz:Nat)
  (ho:jc P (G.push w.heap.size ez sz) G.n (w.alloc O) o):aX P B ax (G.push w.heap.size ez sz) (E.push o) (w.alloc O)where
 len:=by simp[Gh.push,AS.push,h.len]
 bG b k v e:=by
  have q:G.bG b k=some v:=e;rw[cell?_alloc_old (h.xR P q)];exact h.bG b k v q
 obj id x e d:=by
  simp only[AS.push,List.getElem?_append]at e;split at e
  ·rename_i m;have c:id<G.n:=by rw[h.len];exact m
   simp only[Gh.push,ac0 (aAN c)]at d;exact jc.mono (G.Af _ _ _) ⟨c,d⟩ (by simp[Gh.push,aAN c]) (Below.heap_alloc _ _ _ (h.low id ⟨c,d⟩).2) (h.obj id x e d)
  ·rename_i u;have:id=E.heap.length:=by
    cases s:id-E.heap.length with
    |zero=>omega
    |succ k=>rw[s]at e;simp at e
   subst this;simp at e;subst e;rw[<-h.len];exact ho
 inj i j g t e:=by
  rcases Gh.Gi g with a| ⟨f,a⟩<;>rcases Gh.Gi t with l| ⟨p,l⟩
  ·rw[a,l]
  ·simp only[Gh.push,a,ae4,ac0 p]at e;have:=(h.low j l).2;omega
  ·simp only[Gh.push,l,ae4,ac0 f]at e;have:=(h.low i a).2;omega
  ·simp only[Gh.push,ac0 f,ac0 p]at e;exact h.inj i j a l e
 sep i g k:=by
  rcases Gh.Gi g with a| ⟨f,a⟩
  ·simp only[Gh.push,a,ae4];cases y:G.bG w.heap.size k with
   |none=>rfl
   |some v=>have:=h.xR P y;omega
  ·simp only[Gh.push,ac0 f];exact h.sep i a k
 low i g:=by
  rcases Gh.Gi g with a| ⟨f,a⟩
  ·simp only[Gh.push,a,ae4];exact⟨h.hB,by simp⟩
  ·simp only[Gh.push,ac0 f];have:=h.low i a;exact⟨this.1,by simp;omega⟩
 lU id x c d:=by
  simp only[Gh.push]at c d;by_cases a:id=G.n
  ·rw[ac6 a]at d;cases d
  ·rw[ac0 a]at d;obtain⟨n,r⟩:=h.lU id x (by omega) d;exact⟨by simp only[AS.push];rw[acj (ack.1 n).1];exact n,r⟩
 lT:=h.lT.alloc h.hB O
 hB:=by have:=h.hB;simp;omega
 dW:=h.dW
def Gh.Cy{G:Gh}{E:AS}(h:aX P B ax G E w){ez:Nat}: (G.push b ez sz).on E.heap.length:=⟨by simp[Gh.push,h.len],by simp[Gh.push,h.len]⟩
def Gh.freeze(G:Gh)(b:Nat)(vs:List Value):Gh:={G with bG:=λa o=>if a=b then vs[o]? else G.bG a o}
def aX.UQ{G:Gh}{E:AS}(h:aX P B ax G E w)(c:Array Value)(ty:TypeId)(g:Nat×Nat)(vs:List Value)(n: ∀ (j:Nat) (v:Value),vs[j]?=some v->c[j]?=some v):
  G.le (G.freeze w.heap.size vs)/\aX P B ax (G.freeze w.heap.size vs) E (w.alloc (.cells c ty g)):=by
 have hle:G.le (G.freeze w.heap.size vs):=by
  refine .mk' (λb o v e=>?_) (adA _) (λ_ _=>rfl) (λ_ _=>adA _) (λ_ _ _=>⟨rfl,rfl,rfl,rfl⟩);have:=h.xR P e;simp only[Gh.freeze]
  grind
 refine⟨hle,h.len,λb o v e=>?_,λid x e f=>?_,h.inj,λi d k=>?_,λi d=>?_,h.lT.alloc h.hB _,?_,h.lU,λb o v l e=>hle.bG _ _ _ (h.dW b o v l e)⟩
 ·simp only[Gh.freeze]at e;split at e
  ·have p: (w.alloc (.cells c ty g)).heap[w.heap.size]?=some (.cells c ty g):=apk w _;unfold World.cell?
   grind
  ·rw[cell?_alloc_old (h.xR P e)];exact h.bG b o v e
 ·have a:id<G.n:=by rw[h.len];exact(ack.1 e).1
  exact jc.mono hle ⟨a,f⟩ rfl (Below.heap_alloc _ _ _ (h.low id ⟨a,f⟩).2) (h.obj id x e f)
 ·have:=(h.low i d).2;simp only[Gh.freeze];rw[ac0 (by omega)];exact h.sep i d k
 ·obtain⟨m,q⟩:=h.low i d
  exact⟨m,by have e: (G.freeze w.heap.size vs).bb i=G.bb i:=rfl
             rw[e];simp;omega⟩
 ·have:=h.hB;simp;omega
theorem aX.set{G p:Gh}{E:AS}(h:aX P B ax G E w){id:Nat}(d:G.on id)(o':ae)(refs:Nat)
  (c:G.le p) (q:p.n=G.n) (C:p.bG=G.bG)
  (l: ∀i,i<G.n->i≠id->p.ak i=G.ak i)
  (m:p.bb id=G.bb id\/w.heap.size<=p.bb id) (z:p.bb id<w'.heap.size)
  (D: ∀k,k≠G.bb id->k<w.heap.size->w'.heap[k]?=w.heap[k]?) (I:w.heap.size<=w'.heap.size)
  (n:w'.os=w.os) (y:w'.tape=w.tape) (J:w'.output=w.output)
  (ho:jc P p id w' o'):aX P B ax p (E.set id o' refs) w' where
 len:=by simp[AS.set,q,h.len]
 bG b k v e:=by
  rw[C]at e;have g:b≠G.bb id:=λg=>by rw[g,h.sep id d k]at e;cases e
  have:=h.bG b k v e;simp only[World.cell?]at*
  grind
 obj j x e r:=by
  by_cases f:j=id
  ·subst f;have:E.heap.length=G.n:=h.len.symm;simp[AS.set,this,d.1]at e;subst e;exact ho
  ·simp only[AS.set,ach (λh=>f h.symm)]at e;have t:j<G.n:=by rw[h.len];exact(ack.1 e).1
   rw[c.pz j t]at r;have u:G.on j:=⟨t,r⟩;refine jc.mono c u (l j t f) (D _ (λhe=>f (h.inj j id u d he)) (h.low j u).2) (h.obj j x e r)
 inj i j a f e:=by
  have a:G.on i:=⟨by rw[<-q];exact a.1,by rw[<-c.pz i (by rw[<-q];exact a.1)];exact a.2⟩;have f:G.on j:=⟨by rw[<-q];exact f.1,by rw[<-c.pz j (by rw[<-q];exact f.1)];exact f.2⟩;have key: ∀i,G.on i->i≠id->p.bb i=G.bb i:=λi a s=>(c.same i a (l i a.1 s)).1
  by_cases n:i=id<;>by_cases y:j=id
  ·omega
  ·rw[n,key j f y]at e;rcases m with g|g
   ·rw[g]at e;rw[n];exact h.inj id j d f e
   ·have:=(h.low j f).2;omega
  ·rw[y,key i a n]at e;rcases m with g|g
   ·rw[g]at e;rw[y];exact h.inj i id a d e
   ·have:=(h.low i a).2;omega
  ·rw[key i a n,key j f y]at e;exact h.inj i j a f e
 sep i a k:=by
  have a:G.on i:=⟨by rw[<-q];exact a.1,by rw[<-c.pz i (by rw[<-q];exact a.1)];exact a.2⟩;rw[C];by_cases n:i=id
  ·subst n;rcases m with g|g
   ·rw[g];exact h.sep i d k
   ·cases A:G.bG (p.bb i) k with
    |none=>rfl
    |some v=>have:=h.xR P A;omega
  ·rw[(c.same i a (l i a.1 n)).1];exact h.sep i a k
 low i a:=by
  have a:G.on i:=⟨by rw[<-q];exact a.1,by rw[<-c.pz i (by rw[<-q];exact a.1)];exact a.2⟩;by_cases n:i=id
  ·subst n;rcases m with g|g
   ·exact⟨by rw[g];exact(h.low i d).1,z⟩
   ·have:=h.hB;exact⟨by omega,z⟩
  ·rw[(c.same i a (l i a.1 n)).1];have:=h.low i a;exact⟨this.1,by omega⟩
 lT:=Below.alM h.lT n y J I λk K=>D k (by have:=(h.low id d).1;omega) (by have:=h.hB;omega)
 hB:=by have:=h.hB;omega
 lU j x f r:=by
  rw[q]at f;rw[c.pz j f]at r;obtain⟨H,F⟩:=h.lU j x f r;have s:id≠j:=λe=>by rw[<-e,d.2]at r;cases r
  exact⟨by simp only[AS.set];rw[ach s];exact H,F⟩
 dW b o v g e:=by rw[C];exact h.dW b o v g e
def aX.drew{G:Gh}{E:AS}(h:aX P B ax G E w):aX P B ax G E w.drew:=
 ⟨h.len,h.bG,λid x e a=>jc.mono G.le_refl ⟨by rw[h.len];grind,a⟩ rfl rfl (h.obj id x e a),h.inj,h.sep,h.low,h.lT.drew,h.hB,h.lU,h.dW⟩
def aX.lo{G:Gh}{E:AS}(h:aX P B ax G E w)(lo:oN):aX P B ax G {E with lo:=lo} w:=
 ⟨h.len,h.bG,h.obj,h.inj,h.sep,h.low,h.lT,h.hB,h.lU,h.dW⟩
end
section
variable{P:Program}
def eW(w:World)(b:Nat)(O:Obj):World:={w with heap:=w.heap.setIfInBounds b O}
def alN(w:World)(b:Nat)(O a:Obj):eW (eW w b O) b a=eW w b a:=by simp[eW]
def uz(h:b<w.heap.size): (eW w b O).heap[b]?=some O:=by simp[eW,h]
def UR(h:k≠b): (eW w b O).heap[k]?=w.heap[k]?:=by
 simp only[eW]
 grind
def alO(h:w.heap[b]?=some O):eW w b O=w:=by
 have:w.heap.setIfInBounds b O=w.heap:=by grind
 unfold eW;rw[this]
@[simp]theorem alP (w:World) (b:Nat) (O:Obj): (eW w b O).heap.size=w.heap.size:=by simp[eW]
def alQ{o:Nat}{ty:TypeId}{a:Nat×Nat}(h:w.heap[b]?=some (.cells c ty a))(v:Value):
  w.setCell ⟨b,o,none⟩ v=eW w b (.cells (c.setIfInBounds o v) ty a):=by
 simp only[World.setCell,eW]
 congr 1
 grind
def kZ(c:Array Value)(o:Nat):List Value->Array Value
 | []=>c
 |v::vs=>kZ (c.setIfInBounds o v) (o+1) vs
@[simp]theorem aAx (c:Array Value) (o:Nat) (vs:List Value): (kZ c o vs).size=c.size:=by
  induction vs generalizing c o with
  |nil=>rfl
  |cons v vs ih=>simp[kZ,ih]
def Gj(c:Array Value)(o:Nat)(vs:List Value)(h:o+vs.length<=c.size):
  (kZ c o vs).toList=c.toList.take o++(vs++c.toList.drop (o+vs.length)):=by
 induction vs generalizing c o with
 |nil=>simp[kZ]
 |cons v vs a=>
  rw[kZ,a _ _ (by grind)];have ho:o<c.toList.length:=by grind
  simp only[Array.toList_setIfInBounds,aeV];rw[List.take_set,List.drop_set];simp only[show(o<o+1+vs.length) by omega,ae4,agn,ac7 ho];have hm:min o c.size=o:=apJ (by omega);simp[show o+1+vs.length=o+(vs.length+1) by omega,hm]
theorem jN(b o i:Nat): (⟨b,o,none⟩:Addr).add i=⟨b,o+i,none⟩:=by
 unfold Addr.add
 grind
def alR(h:leaf v=true):v.oneCell'=true:=by trivial
def Mf{ty:TypeId}(vs:List Value): ∀ (c:Array Value) (w:World) (o i:Nat),w.heap[b]?=some (.cells c ty (0,0))->o+i+vs.length<=c.size->Leaves vs->
  (storeCells ⟨b,o,none⟩ vs i).run P w= .ok () (eW w b (.cells (kZ c (o+i) vs) ty (0,0))):=by
 induction vs with
 |nil=>intro c w o i h _ _;simp[storeCells,kZ,alO h]
 |cons v vs e=>
  intro c w o i h g d;simp only[aeV]at g;have j:w.cell? (Addr.add ⟨b,o,none⟩ i)=some (c[o+i]'(by omega)):=by
   rw[jN,cell_of_row w b (o+i) c ty (0,0) h];grind
  have f:w.frozen? (Addr.add ⟨b,o,none⟩ i)=false:=by grind [jN,frozen_of_row]
  simp only[storeCells,Sem.run_bind];rw[run_store P w _ v .plain (alR (d v (by simp)))];simp only[j,f];rw[jN,alQ h];have a:b<w.heap.size:=(amV.1 h).1;simp only[aeJ,ags,Result.andThen_ok];rw[e (c.setIfInBounds (o+i) v) _ o (i+1) (uz a) (by grind) (λu hu=>d u (by grind)),alN];rfl
def run_loadCellsFrom{o:Nat}(n:Nat): ∀ (i:Nat) (acc:Array Value) (vs:List Value),vs.length=n->(∀j v,vs[j]?=some v->w.cell? ⟨b,o+i+j,none⟩=some v)->
  (loadCellsFrom ⟨b,o,none⟩ i n acc).run P w= .ok (acc++vs.toArray) w:=by
 induction n with
 |zero=>intro i acc vs c _;have:vs=[]:=ajx.1 c;subst this;simp[loadCellsFrom]
 |succ n e=>
  intro i acc vs c a;cases vs with
  |nil=>grind
  |cons v vs=>
   have d:=a 0 v (by simp);simp only[loadCellsFrom,Sem.run_bind];rw[jN,run_load];simp only[aeS]at d;simp only[d];simp only[Result.andThen_ok];rw[e (i+1) (acc.push v) vs (by grind) (λj u f=>by
    have:=a (j+1) u (by grind)
    grind)]
   simp_all
def run_loadCells{o:Nat}(vs:List Value)(a:vs.length=n)(c: ∀j v,vs[j]?=some v->w.cell? ⟨b,o+j,none⟩=some v):
  (loadCells ⟨b,o,none⟩ n).run P w= .ok vs.toArray w:=by
 unfold loadCells;rw[run_loadCellsFrom n 0 #[] vs a (by omega)];simp
end
section
section
variable{P:Program}
def nW(h:cD P t=some n)(w:World): (sizeOf t).run P w= .ok n w:=by
 unfold cD at h;cases b:P.info? t with
 |none=>grind
 |some i=>
  simp[b]at h;simp only[sizeOf,Sem.run_bind,run_typeInfo _ b,Result.andThen_ok,Sem.run_pure];rw[h]
def rY{b:Bool}(h:m5 P t=some b)(w:World): (isAgg t).run P w= .ok b w:=by
 unfold m5 at h;cases hu:P.underlying t with
 |none=>grind
 |some d=>
  simp only[hu,aeM,ac1]at h;subst h;simp only[isAgg,Sem.run_bind,ada hu,Result.andThen_ok];cases d<;>simp[Sem.run_pure]
end
def G0(B:Nat)(ax:World):Gh:={bG:=λb o=>if b<B then ax.cell? ⟨b,o,none⟩else none,n:=0,bb:=id,base:=id,ak:=id,ez:=id,sz:=id}
def fP(X:Ctx)(B:Nat)(ax:World):Prop:=
 (∀g cs,X.dS g=some cs->g<B/\ ∃vs,(∀ (j:Nat) v,vs[j]?=some v->ax.cell? ⟨g,j,none⟩=some v)/\Leaves vs/\
   aG (G0 B ax) cs vs)/\
 (∀g es,X.gu g=some es->g<B/\ ∃b r ms clock,r<B/\ax.cell? ⟨g,0,none⟩=some (.map (some r))/\ax.heap[r]?=some (.map ms clock)/\gh (G0 B ax) b ms.toList/\ ∀k v,ew k es=some v->ew k b=some v)
variable{P:Program}{X:Ctx}{B:Nat}{ax:World}
def US{G:Gh}{E:AS}(h:aX P B ax G E w): (G0 B ax).ep 0 G:=by
 refine⟨λb o v c=>?_,adC _,?_,?_,?_,?_,?_,?_⟩
 ·simp only[G0]at c;split at c
  ·exact h.dW b o v ‹_› c
  grind
 all_goals simp
def fP.rel(d:fP X B ax){G:Gh}{E:AS}(h:aX P B ax G E w){g:Nat}{cs:List AV}(e:X.dS g=some cs):
  ∃vs,qz G g 0 vs/\Leaves vs/\aG G cs vs:=by
 obtain⟨f,vs,k,i,b⟩:=d.1 g cs e;refine⟨vs,λj v c=>?_,i,aG.ep (US h) _ _ b (by have:=aG.refs _ _ b;simpa[G0]using this)⟩;rw[aka];exact h.dW g j v f (k j v c)
def fP.alS(i:fP X B ax){G:Gh}{E:AS}(h:aX P B ax G E w){g:Nat}{es:List (AV×AV)}(e:X.gu g=some es)(d:an G (.lM g) v):
  ∃b r ms clock,v= .map (some r)/\w.heap[r]?=some (.map ms clock)/\gh G b ms.toList/\ ∀k v,ew k es=some v->ew k b=some v:=by
 obtain⟨j,b,r,ms,clock,o,n,m,c,l⟩:=i.2 g es e;have:=h.dW g 0 _ j n;rw[d.2]at this;cases this;exact⟨b,r,ms,clock,rfl,by rw[h.lT.block r o];exact m,gh.ep (US h) c (λp f=>by have:=gh.refs c p f;simpa[G0]using this),l⟩
def Good(P:Program)(B:Nat)(ax:World)(G:Gh)(E:AS)(v:AV)(E':AS)(r:Result Next):Prop:=
 ∃b w' v',(r= .ok (.value v') w'\/ (r= .ok .skip w'/\v'=undef))/\G.le b/\aX P B ax b E' w'/\an b v v'/\E.Ext E'
def Good.same{G:Gh}{E:AS}(h:aX P B ax G E w){v:AV}(b:an G v v'):Good P B ax G E v E (.ok (.value v') w):=
 ⟨G,w,v',.inl rfl,G.le_refl,h,b,.refl E⟩
def Mg{G:Gh}: ∀ (v:Value),(AV.ko v).plain=true->an G (AV.ko v) v:=by
 intro v h;cases v with
 |pointer a=>cases a<;>simp_all[AV.ko,an,AV.plain]
 |slice a n c=>
  cases a with
  |none=>
   simp only[AV.ko]at*;split at h
   ·rename_i e;simp[e,an]
   ·trivial
  |some a=>trivial
 |map r=>cases r<;>simp_all[AV.ko,an,AV.plain]
 |tuple vs=>
  simp only[AV.ko]at*;split at h
  ·rename_i e;have:vs= #[]:=Array.eq_empty_of_size_eq_zero e;subst this;simp[an,aG]
  ·trivial
 |_=>trivial
theorem UT{G:Gh}: ∀ (vs:List Value),(∀v∈vs,(AV.ko v).plain=true)->aG G (vs.map AV.ko) vs
 | [],_=>by rfl
 |v::vs,h=>⟨v,vs.map id,by simp,Mg v (h v (by simp)),by simpa using UT vs λu hu=>h u (by grind)⟩
def alT(h: (AV.ko v).plain=true)(k: (AV.ko v).cx=false):leaf v=true:=by
 cases v with
 |agg cs=>trivial
 |tuple vs=>simp only[AV.ko]at k;split at k<;>simp[AV.cx]at k
 |_=>rfl
def UU{G:Gh}(v:Value)(h:Ge v=true):an G (AV.ofValue v) v:=by
 cases v with
 |agg cs=>
  simp only[Ge,aeT,aeW,aBu]at h;exact⟨cs,rfl,UT _ λv b=>(h v b).1,λv b=>alT (h v b).1 (h v b).2⟩
 |iface t v=>exact⟨v,rfl,Mg v h⟩
 |_=>simp only[AV.ofValue];apply Mg;exact h
def Mh{G:Gh}{e:Env}{b:Array Value}(h:cP G nt e b)(t:Nat):an G (e t) (b.getD t undef):=by
 by_cases c:t<b.size
 ·have:=h.get t b[t] (by simp);simp_all
 ·rw[h.out t (by have:=h.size;omega)];simp[Array.getD,c,an,aG,undef]
def cH{G:Gh}{e:Env}(h:cP G nt e a.tmps){x:Operand}{y:ao}(b:bQ x=some y):an G (y.get e) (a.eval x):=by
 cases x with
 |tmp t=>simp only[bQ,ac1]at b;subst b;exact Mh h t
 |const v=>
  simp only[bQ]at b;split at b
  ·rename_i c;cases b;exact UU v c
  grind
 |global g=>simp only[bQ,ac1]at b;subst b;simp[ao.get,an,Act.eval]
 |func f=>simp only[bQ,ac1]at b;subst b;exact⟨.func f,#[],#[],rfl,rfl,by rfl,by rfl⟩
theorem xS{G:Gh}{nt:Nat}{e:Env}{a:Act}(h:cP G nt e a.tmps): ∀ {xs:List Operand} {ys:List ao},nU xs=some ys->aG G (ys.map (·.get e)) (xs.map a.eval)
 | [],_,b=>by simp only[nU,ac1]at b;subst b;simp[aG]
 |x::xs,ys,b=>by
  simp only[nU]at b;split at b
  ·rename_i y c f d;cases b;exact⟨_,_,rfl,cH h f,xS h d⟩
  grind
section ops
variable{G:Gh}{E:AS}{w:World}(hw:aX P B ax G E w){nt:Nat}{e:Env}{a:Act}(he:cP G nt e a.tmps)
include hw
omit hw in
theorem UW{b:Bool}{off:Nat}{cs:List AV}{v:AV}(c:aG G cs vs)(d:Leaves vs)(h:part b n cs off=some v):
  (b=true/\off+n<=vs.length/\an G v (.agg ((vs.drop off).take n).toArray))\/ (b=false/\ ∃u,vs[off]?=some u/\an G v u):=by
 unfold part at h;cases b with
 |true=>
  simp only[ae4]at h;split at h
  ·rename_i hle;cases h;refine .inl ⟨rfl,by rw[c.length];exact hle,⟨_,rfl,by simpa using(c.drop off).take n,by simpa using(d.drop off).take n⟩⟩
  ·cases h
 |false=>
  simp only[aeJ,ags]at h;obtain⟨u,hu,f⟩:=c.get off v h;exact .inr ⟨rfl,u,hu,f⟩
omit hw in
theorem Gk{h:Bool}{o:Nat}{v:AV}{cs:List AV}{off:Nat}(g:m5 P t=some h)(m:cD P t=some n)
  (l:aG G cs vs) (i:Leaves vs) (k:part h n cs off=some v) (f: ∀j u,vs[j]?=some u->w.cell? ⟨b,o+j,none⟩=some u):
  ∃v',(loadVar t ⟨b,o+off,none⟩).run P w= .ok v' w/\an G v v':=by
 rcases UW l i k with⟨rfl,hle,d⟩| ⟨rfl,u,hu,d⟩
 ·refine⟨_,?_,d⟩;simp only[loadVar,Sem.run_bind,rY g,Result.andThen_ok,ae4,nW m];rw[run_loadCells ((vs.drop off).take n) (by simp;omega) (λj u c=>by
   rw[amU]at c;split at c
   ·rw[aki]at c;rw[amW];exact f _ _ c
   ·cases c)]
  simp
 ·refine⟨u,?_,d⟩;simp only[loadVar,Sem.run_bind,rY g,Result.andThen_ok,aeJ,ags,run_load];rw[f off u hu]
theorem Ag{id:Nat}{cs:List AV}{tg:Option TypeId}(h:E.heap[id]?=some (.box cs tg))(b:G.pz id=none):G.ak id=0/\G.on id/\ ∃c ty,w.heap[G.bb id]?=some (.cells c ty (0,0))/\aG G cs c.toList/\Leaves c.toList/\ ∀t,tg=some t->ty=t:=by
 obtain⟨i,c,ty,g,f,d⟩:=hw.obj id _ h b;exact⟨i,⟨by rw[hw.len];grind,b⟩,c,ty,g,f,d⟩
omit hw in
theorem Cz{ty:TypeId}(h:w.heap[b]?=some (.cells c ty (0,0)))(j:Nat)(u:Value)(d:c.toList[j]?=some u):w.cell? ⟨b,j,none⟩=some u:=by
 rw[cell_of_row w b j c ty (0,0) h];simpa using d
theorem UX(hg:fP X B ax){W:Bool}(H:m5 P t=some W)(F:cD P t=some n){x v:AV}{C:Value}(d:an G x C)(h:cp X E W n x=some v):
  ∃v',(Instr.loadAt t C).run P w= .ok v' w/\an G v v':=by
 have key: ∀ (A:Addr),C= .pointer (some A)->(∃v',(loadVar t A).run P w= .ok v' w/\an G v v')-> ∃v',(Instr.loadAt t C).run P w= .ok v' w/\an G v v':=by
  rintro A rfl ⟨v',K,hr⟩;refine⟨v',?_,hr⟩;exact K
 unfold cp at h;split at h
 ·rename_i id off;simp only[an]at d;obtain⟨r,A,rfl,z⟩:=d;split at h
  ·rename_i cs N;obtain⟨S,_,c,ty,R,f,m,_⟩:=Ag hw N r.2;refine key A rfl ?_;rw[z S];have:=Gk (b:=G.bb id) (o:=0) H F f m h (λj u hu=>by rw[aka];exact Cz R j u hu);rwa[aka]at this
  ·cases h
 ·rename_i id ak i off;simp only[an]at d;obtain⟨r,_,A,rfl,z⟩:=d;split at h
  ·rename_i T sz ty af N;split at h
   ·rename_i K;obtain⟨S,q,hu,c,pre,vs,post,R,hc,hp,hs,f,m⟩:=hw.obj id _ N r.2;subst K;cases k:af[i]? with
    |none=>simp[k]at h
    |some el=>
     simp only[k,apb]at h;split at h
     ·rename_i D;refine key A rfl ?_;rw[z S];have M:i<af.length:=(ack.1 k).1;have O:af.flatten=(af.take i).flatten++(el++(af.drop (i+1)).flatten):=by
       conv=>lhs;rw[<-aoX i af]
       rw[anw,anh M];have:af[i]=el:=by simpa[ac7 M]using k
       simp[this]
      have L: (af.take i).flatten.length=i*sz:=by
       have: ∀ (l:List (List AV)),(∀x∈l,x.length=sz)->l.flatten.length=l.length*sz:=by
        intro l f
        induction l with
        |nil=>simp
        |cons x xs ih=>simp[ih λy J=>f y (by simp[J]),f x (by simp)];rw[apB];omega
       rw[this _ λx d=>hu x (ahW d),af9,apJ (Nat.le_of_lt M)]
      have V:=bF.iff.1 f;rw[O]at V;obtain⟨v1,v2,rfl,k1,Z⟩:=V.split;obtain⟨U,v4,rfl,Y,k4⟩:=Z.split;have p:v1.length=i*sz:=by rw[k1.length,L]
      have I:Leaves U:=λy J=>m y (by simp[J])
      have:=Gk (b:=G.bb id) (o:=G.base id+i*G.sz id) H F Y I h (λj u hu=>by
       refine Cz R _ u ?_;rw[hc];have hj:j<U.length:=(ack.1 hu).1;rw[aeY (by omega),ac8,aeY (by rw[p,q];omega),ac8,acj (by rw[p,q];omega)];rw[<-hu];congr 1;rw[p,q];omega)
      exact this
     ·cases h
   ·cases h
  ·cases h
 ·rename_i cs off;simp only[an]at d;obtain⟨b,o,vs,rfl,Q,m,f⟩:=d;exact key _ rfl (Gk H F f m h λj u hu=>hw.bG _ _ _ (Q j u hu))
 ·rename_i g;simp only[an]at d;subst d;cases s:X.dS g with
  |none=>simp[s]at h
  |some cs=>
   simp only[s,apb]at h;obtain⟨vs,Q,m,f⟩:=hg.rel hw s;have:=Gk (b:=g) (o:=0) H F f m h λj u hu=>hw.bG _ _ _ (Q j u hu)
   exact key _ rfl (by simpa using this)
 grind
end ops
end
section
variable{P:Program}{X:Ctx}{B:Nat}{ax:World}
variable{G:Gh}{E:AS}{w:World}
def alU(t:aX P B ax G E w)(y:fP X B ax){s:TypeId}{a:Array Field}{f:Nat}{g:Field}(D:P.underlying s=some (.struct a))(C:a[f]?=some g)
  (A:cD P g.type=some n) (F:0<n) {x v:AV} {j:Value} (i:an G x j) (h:mw X g.offset x=some v):
  ∃v',(Instr.fieldAt s j f).run P w= .ok v' w/\an G v v':=by
 have key: ∀d,j= .pointer (some d)->(Instr.fieldAt s j f).run P w= .ok (.pointer (some (d.add g.offset))) w:=by
  rintro d rfl;simp only[Instr.fieldAt,Sem.run_bind,ada D,Result.andThen_ok,C,Instr.sureAddr,Sem.run_pure,fieldPlace,nW A,Sem.run_ite];rw[ac0 (by omega)];simp
 unfold mw at h;split at h
 ·obtain⟨p,d,e,c⟩:=i;cases h;refine⟨_,key d e,p,_,rfl,λk=>?_⟩;rw[c k,jN]
 ·obtain⟨p,m,d,e,c⟩:=i;cases h;refine⟨_,key d e,p,m,_,rfl,λk=>?_⟩;rw[c k,jN];grind
 ·obtain⟨b,o,vs,e,r⟩:=i;cases h;refine⟨_,key _ e,b,o,vs,?_,r⟩;rw[jN,amW]
 ·simp only[an]at i;split at h
  ·rename_i cs l;cases h;obtain⟨vs,z,q,u⟩:=y.rel t l;refine⟨_,key _ i,_,0,vs,?_,z,q,u⟩;rw[jN]
  ·cases h
 grind
def Gl{x:AV}{a:Value}{i:Int}(b:an G x a)(h:qq x=some i): ∃k,x= .int k i/\a= .int k i:=by
 cases x<;>simp[qq]at h;simp only[an]at b
 grind
def alV(y:aX P B ax G E w)(C:fP X B ax){a:TypeId}(I:P.underlying t=some (.array n a))(H:cD P a=some sz)
  {x s v:AV} {j g:Value} (d:an G x j) (A:an G s g) (h:uv X n sz x s=some v):
  ∃v',(Instr.indexAt t j g).run P w= .ok v' w/\an G v v':=by
 unfold uv at h;split at h
 ·rename_i i hint;obtain⟨k,_,rfl⟩:=Gl A hint;split at h
  ·rename_i F;have key: ∀f,j= .pointer (some f)->(Instr.indexAt t j (.int k i)).run P w= .ok (.pointer (some (f.add (i.toNat*sz)))) w:=by
    rintro f rfl;simp only[Instr.indexAt,Sem.run_bind,asIntOf,Sem.run_pure,Result.andThen_ok,ada I,Instr.sureAddr];by_cases J:n<=1<;>simp[F,nW H]
   split at h
   ·obtain⟨q,f,e,c⟩:=d;cases h;refine⟨_,key f e,q,_,rfl,λl=>?_⟩;rw[c l,jN]
   ·simp only[an]at d;obtain⟨q,p,f,e,c⟩:=d;cases h;refine⟨_,key f e,q,p,_,rfl,λl=>?_⟩;rw[c l,jN];congr 1;omega
   ·simp only[an]at d;obtain⟨b,o,vs,e,r⟩:=d;cases h;refine⟨_,key _ e,b,o,vs,?_,r⟩;rw[jN,amW]
   ·simp only[an]at d;split at h
    ·rename_i cs m;cases h;obtain⟨vs,D,u,z⟩:=C.rel y m;refine⟨_,key _ d,_,0,vs,?_,D,u,z⟩;rw[jN]
    ·cases h
   grind
  grind
 grind
theorem alW{af:List (List AV)}(h: ∀el∈af,el.length=sz):af.flatten.length=af.length*sz:=by
 induction af with
 |nil=>simp
 |cons x xs a=>grind
def bF.at{af:List (List AV)}{el:List AV}(k:bF G af vs)(n: ∀x∈af,x.length=sz)(l:af[i]?=some el):
  aG G el ((vs.drop (i*sz)).take sz):=by
 have b:af.flatten=(af.take i).flatten++(el++(af.drop (i+1)).flatten):=by grind [List.take_append_drop,List.flatten_append,List.drop_eq_getElem_cons]
 have a: (af.take i).flatten.length=i*sz:=by grind [alW,List.mem_of_mem_take,List.length_take,Nat.min_eq_left,Nat.le_of_lt]
 have c:=bF.iff.1 k;rw[b]at c;obtain⟨v1,v2,rfl,g,f⟩:=c.split;obtain⟨d,v4,rfl,e,m⟩:=f.split;have j:v1.length=i*sz:=by rw[g.length,a]
 have h:d.length=sz:=by rw[e.length];grind
 grind
def alX{d:TypeId}(O:P.underlying t=some (.slice d))(N:cD P d=some sz)
  {x H v:AV} {s m:Value} (g:an G x s) (I:an G H m) (h:jL sz x H=some v):
  ∃v',(Instr.indexAt t s m).run P w= .ok v' w/\an G v v':=by
 unfold jL at h;split at h
 ·rename_i i hint;obtain⟨k,_,rfl⟩:=Gl I hint;have key: ∀ (r:Addr) (len cap:Nat),s= .slice (some r) len cap->0<=i/\i<len->(Instr.indexAt t s (.int k i)).run P w= .ok (.pointer (some (r.add (i.toNat*sz)))) w:=by
   rintro r len cap rfl l;simp only[Instr.indexAt,Sem.run_bind,asIntOf,Sem.run_pure,Result.andThen_ok,ada O];by_cases Q:len<=1<;>simp[l,nW N]
  split at h
  ·rename_i af cK;split at h
   ·rename_i p;split at h
    ·rename_i el f;split at h
     ·rename_i c;cases h;simp only[an]at g;obtain⟨b,o,cap,a,vs,e,J,F,q,M,K,L⟩:=g;have I:i.toNat<af.length:=(ack.1 f).1;have z:a=sz:=by rw[<-c];exact(q el (amF f)).symm
      subst z;refine⟨_,key _ _ _ e ⟨p,by omega⟩,b,o+i.toNat*a,(vs.drop (i.toNat*a)).take a,?_,?_,(K.drop _).take _,L.at q f⟩
      ·rw[jN];rfl
      ·intro j u n;rw[amU]at n;split at n
       ·rw[aki]at n;rw[amW];exact M _ _ n
       ·cases n
     ·cases h
    ·cases h
   grind
  ·rename_i id ak a off len cK;split at h
   ·rename_i l;obtain⟨C,A,rfl⟩:=l;cases h;simp only[an]at g;obtain⟨p,D,r,cap,e,J,F,q⟩:=g;refine⟨_,key _ _ _ e ⟨C,A⟩,p,D,_,rfl,λy=>?_⟩;rw[(q y).2.1 (by omega),jN,(q y).1,apc];congr 1;omega
   ·cases h
  ·rename_i id a off len;split at h
   ·rename_i l;cases h;simp only[an]at g;obtain⟨p,r,cap,e,J,F⟩:=g;refine⟨_,key _ _ _ e ⟨l.1,l.2.1⟩,p,_,rfl,λy=>?_⟩;rw[F y (by omega),jN]
   ·cases h
  grind
 grind
end
section
variable{P:Program}{X:Ctx}{B:Nat}{ax:World}
variable{G:Gh}{E:AS}{w:World}
def UY{e:Bool}{off:Nat}{cs:List AV}{v:AV}(d:m5 P t=some e)(i:cD P t=some n)
  (h:aG G cs c.toList) (f:Leaves c.toList) (g:Den.part e n cs off=some v) (w:World): ∃v',(Go.part t c off).run P w= .ok v' w/\an G v v':=by
 rcases UW h f g with⟨rfl,hle,b⟩| ⟨rfl,u,hu,b⟩
 ·refine⟨_,?_,b⟩;simp only[Go.part,Sem.run_bind,rY d,Result.andThen_ok,ae4,nW i,Sem.run_pure]
  congr 2
  grind
 ·refine⟨u,?_,b⟩;have a:c[off]?=some u:=by grind
  simp only[Go.part,Sem.run_bind,rY d,Result.andThen_ok,aeJ,ags,a,Sem.run_pure]
def alY{s:TypeId}{a:Array Field}{f:Nat}{g:Field}{d:Bool}(q:P.underlying s=some (.struct a))(p:a[f]?=some g)
  (o:m5 P g.type=some d) (m:cD P g.type=some n) {cs:List AV} {v:AV} {b:Value} (i:an G (.agg cs) b) (h:Den.part d n cs g.offset=some v) (w:World):
  ∃v',(Instr.field s b f).run P w= .ok v' w/\an G v v':=by
 obtain⟨c,rfl,l,e⟩:=i;obtain⟨v',j,k⟩:=UY o m l e h w;refine⟨v',?_,k⟩;simp only[Instr.field,Sem.run_bind,ada q,Result.andThen_ok,p,asAgg,Sem.run_pure];exact j
def alZ{a:TypeId}{g:Bool}(u:P.underlying t=some (.array n a))(s:m5 P a=some g)(f:cD P a=some sz)
  {x e v:AV} {d b:Value} (l:an G x d) (q:an G e b) (h:qu g n sz x e=some v) (w:World):
  ∃v',(Instr.index t d b).run P w= .ok v' w/\an G v v':=by
 unfold qu at h;split at h
 ·rename_i i cs hint;obtain⟨k,_,rfl⟩:=Gl q hint;split at h
  ·rename_i r;obtain⟨c,rfl,p,j⟩:=l;obtain⟨v',m,o⟩:=UY s f p j h w;refine⟨v',?_,o⟩;simp only[Instr.index,Sem.run_bind,asIntOf,Sem.run_pure,Result.andThen_ok,ada u];rw[ac6 r];simp only[Sem.run_bind,nW f,Result.andThen_ok];exact m
  grind
 grind
def al0(n:P.underlying t=some .string){x j v:AV}{g a:Value}(l:an G x g)(m:an G j a)(h:xL x j=some v)(w:World):
  ∃v',(Instr.index t g a).run P w= .ok v' w/\an G v v':=by
 unfold xL at h;split at h
 ·rename_i i s hint;obtain⟨k,_,rfl⟩:=Gl m hint;subst l;split at h
  ·rename_i o;split at h
   ·rename_i b p;cases h;refine⟨.int .u8 b.toNat,?_,by rfl⟩;have f:s[i.toNat]?=some b:=by
     have:s.data[i.toNat]?=some b:=by grind
     obtain⟨d,e⟩:=amV.1 this;have c:i.toNat<s.size:=d;rw[getElem?_pos s i.toNat c];exact ahR some e
    simp only[Instr.index,Sem.run_bind,asIntOf,Sem.run_pure,Result.andThen_ok,ada n,ac6 o,f]
   grind
  grind
 grind
def al1{x:AV}{a:Value}{vs:List AV}{v:AV}(b:an G (.aA vs) a)(h:vs[i]?=some v)(w:World):
  ∃v',(Instr.extract a i).run P w= .ok v' w/\an G v v':=by
 obtain⟨c,rfl,e⟩:=b;obtain⟨v',f,d⟩:=e.get i v h;refine⟨v',?_,d⟩;have:c[i]?=some v':=by grind
 simp[Instr.extract,this]
def Ah{r:Nat}{o:Option AV}(h:lO n o d=some r):
  (o=none/\r=d)\/ ∃k i,o=some (.int k i)/\0<=i/\i<=n/\r=i.toNat:=by
 unfold lO at h
 grind
def uA{k:IntKind}{i:Int}{y:Nat}(h:0<=i/\i<=y)(a:BoundsCode)(w:World): (Instr.sliceBound (.int k i) y a).run P w= .ok i.toNat w:=by
 simp[Instr.sliceBound,asIntOf,h]
def lV(G:Gh):Option AV->Option Value->Prop
 |none,o=>o=none
 |some x,o=> ∃v,o=some v/\an G x v
def Gm{CA:Bool}{len cap:Nat}(t:len<=cap){lo n:Option AV}{d:Option Value}(a:lV G lo aj)(e:lV G n d){h:Nat}(f:gT len lo n=some (l,h))(w:World):
  (Instr.sliceBounds CA len cap aj d none).run P w= .ok (l,h,cap) w/\l<=h/\h<=len:=by
 unfold gT at f;split at f
 ·rename_i u p;split at f
  ·rename_i s m;cases f;rcases Ah p with⟨rfl,rfl⟩| ⟨k,i,rfl,g,o,rfl⟩
   ·subst e;rcases Ah m with⟨rfl,rfl⟩| ⟨k,i,rfl,g,o,rfl⟩
    ·subst a;exact⟨by rfl,by omega,by omega⟩
    ·obtain⟨v,rfl,c⟩:=a;subst c;exact⟨by simp[Instr.sliceBounds,uA ⟨g,o⟩],by omega,by omega⟩
   ·obtain⟨v,rfl,c⟩:=e;simp only[an]at c;subst c;have b: (0:Int)<=i/\i<=cap:=⟨g,by omega⟩;rcases Ah m with⟨rfl,rfl⟩| ⟨k,j,rfl,r,q,rfl⟩
    ·simp only[lV]at a;subst a;exact⟨by simp[Instr.sliceBounds,uA b],by omega,by omega⟩
    ·obtain⟨v,rfl,c⟩:=a;simp only[an]at c;subst c;exact⟨by simp[Instr.sliceBounds,uA b,uA ⟨r,q⟩],by omega,by omega⟩
  grind
 grind
def al2(j:P.underlying t=some .string){x v:AV}{d:Value}{lo e:Option AV}{a:Option Value}(f:an G x d)(b:lV G lo aj)(c:lV G e a)
  (h:uu x lo e=some v) (w:World): ∃v',(Instr.sliceAt t d aj a none).run P w= .ok v' w/\an G v v':=by
 unfold uu at h;split at h
 ·rename_i s;split at h
  ·rename_i l k i;cases h;subst f;obtain⟨g,_,_⟩:=Gm (P:=P) (CA:=false) (adA _) b c i w;refine⟨.string (s.extract l k),?_,by rfl⟩;simp[Instr.sliceAt,Instr.slice,ada j,g]
  grind
 grind
def al3{len h:Nat}{cK c:Bool}{a:Option AV}(b:lP len h cK a=some c):
  (a=none/\c=(cK&&h==len))\/ ∃k i,a=some (.int k i)/\ (h:Int)<=i/\i<=len/\c=(i==h):=by
 unfold lP at b
 grind
def al4{len cap:Nat}{cK:Bool}(r:len<=cap)(p:cK=true->cap=len){lo t u:Option AV}{n f:Option Value}(a:lV G lo aj)(o:lV G t n)(g:lV G u f)
  (d:u=none\/t≠none) {h:Nat} {c:Bool} (s:gT len lo t=some (l,h)) (D:lP len h cK u=some c) (w:World):
  ∃m,(Instr.sliceBounds true len cap aj n f).run P w= .ok (l,h,m) w/\l<=h/\h<=len/\h<=m/\m<=cap/\ (c=true->m=h):=by
 rcases al3 D with⟨rfl,rfl⟩| ⟨k,i,rfl,K,J,rfl⟩
 ·subst g;obtain⟨I,N,M⟩:=Gm (P:=P) (CA:=true) r a o s w
  grind
 ·obtain⟨v,rfl,b⟩:=g;simp only[an]at b;subst b;have d:t≠none:=d.resolve_left (by simp);have hm: (0:Int)<=i/\i<=cap:=⟨by omega,by omega⟩;unfold gT at s;split at s
  ·rename_i L C;split at s
   ·rename_i H z;cases s;rcases Ah C with⟨rfl,rfl⟩| ⟨k',j,rfl,F,g1,rfl⟩
    ·grind
    ·obtain⟨v,rfl,b⟩:=o;simp only[an]at b;subst b;have A: (0:Int)<=j/\j<=i.toNat:=⟨F,by omega⟩;refine⟨i.toNat,?_,?_,by omega,by omega,by omega,λe=>by simp only[awJ]at e;omega⟩
     ·rcases Ah z with⟨rfl,rfl⟩| ⟨k',q,rfl,y,x,rfl⟩
      ·simp only[lV]at a;subst a;simp[Instr.sliceBounds,uA hm,uA A]
      ·obtain⟨v,rfl,b⟩:=a;simp only[an]at b;subst b;simp[Instr.sliceBounds,uA hm,uA A,uA ⟨y,x⟩]
     ·rcases Ah z with⟨rfl,rfl⟩| ⟨k',q,rfl,y,x,rfl⟩<;>omega
   grind
  grind
theorem Mi{sz:Nat}: ∀ {l:Nat} {af:List (List AV)},(∀el∈af,el.length=sz)->(af.drop l).flatten=af.flatten.drop (l*sz)
 |0,_,_=>by simp
 |l+1,[],_=>by simp
 |l+1,x::xs,hu=>by
  have a:=Mi (l:=l) (af:=xs) λel h=>hu el (by grind)
  simp only[asR,ao3,a];have e: (l+1)*sz=x.length+l*sz:=by grind
  rw[e,awx];simp_all
theorem Gn{sz:Nat}: ∀ {n:Nat} {af:List (List AV)},(∀el∈af,el.length=sz)->(af.take n).flatten=af.flatten.take (n*sz)
 |0,_,_=>by simp
 |n+1,[],_=>by simp
 |n+1,x::xs,hu=>by
  have a:=Gn (n:=n) (af:=xs) λel h=>hu el (by grind)
  have e: (n+1)*sz=x.length+n*sz:=by grind
  grind
def UZ{af:List (List AV)}(a: ∀el∈af,el.length=sz): ((af.drop l).take n).flatten=(af.flatten.drop (l*sz)).take (n*sz):=by grind [Gn,List.mem_of_mem_drop,Mi]
def bF.slice{af:List (List AV)}(b:bF G af vs)(a: ∀x∈af,x.length=sz):bF G ((af.drop l).take n) ((vs.drop (l*sz)).take (n*sz)):=by
 rw[bF.iff,UZ a];exact((bF.iff.1 b).drop _).take _
def qz.slice{o:Nat}(c:qz G b o vs)(l n:Nat):qz G b (o+l) ((vs.drop l).take n):=by
 intro j u a;rw[amU]at a;split at a
 ·rw[aki]at a;rw[amW];exact c _ _ a
 grind
def al5{a:Addr}(h:a.spot=none)(k:Nat): (a.add k).spot=none:=by
 unfold Addr.add
 grind
def Mj(a:Addr)(b o k:Nat)(h:a=⟨b,o,none⟩):a.add k=⟨b,o+k,none⟩:=by rw[h,jN]
def al6{z:TypeId}(h1:P.underlying t=some (.slice z))(h2:cD P z=some n){x v:AV}{O:Value}{lo R Q:Option AV}{D A:Option Value}
  (y:an G x O) (J:lV G lo aj) (L:lV G R D) (T:lV G Q A) (K:Q=none\/R≠none)
  (h:gE n x lo R Q=some v) (w:World): ∃v',(Instr.sliceAt t O aj D A).run P w= .ok v' w/\an G v v':=by
 have key: ∀ {a:Option Addr} {len cap:Nat} {cK:Bool} {l h:Nat} {c:Bool},O= .slice a len cap->len<=cap->(cK=true->cap=len)->gT len lo R=some (l,h)->lP len h cK Q=some c->
   ∃m,(Instr.sliceAt t O aj D A).run P w= .ok (.slice (if m=l then a else a.map (·.add (l*n))) (h-l) (m-l)) w/\l<=h/\h<=len/\h<=m/\m<=cap/\ (c=true->m=h):=by
  intro a len cap cK l h c e hle f g H;obtain⟨m,i,r⟩:=al4 (P:=P) hle f J L T K g H w;refine⟨m,?_,r⟩;subst e;simp[Instr.sliceAt,Instr.slice,ada h1,i,nW h2]
 unfold gE at h;split at h
 ·simp only[an]at y;split at h
  ·rename_i p q g H;cases h;obtain⟨l,s⟩:=p;obtain⟨-,k1,k2⟩:=Gm (P:=P) (CA:=false) (adA 0) J L g w;have U:s=0:=by omega
   subst U;obtain⟨m,i,c1,Z,Y,W,M⟩:=key (cK:=true) y (adA _) (λ_=>rfl) g H;refine⟨_,i,?_⟩;have e1:l=0:=by omega
   have e3:m=0:=by omega
   subst e1 e3;simp[an]
  ·cases h
 ·rename_i af cK;split at h
  ·rename_i l s g;split at h
   ·rename_i c H;split at h
    ·rename_i hu;cases h;have hu: ∀el∈af,el.length=n:=λel F=>by simpa using aeT.1 hu el F
     simp only[an]at y;obtain⟨b,o,cap,sz,vs,e,d1,d2,d3,hf,lf,hl⟩:=y;obtain⟨m,i,c1,Z,Y,W,M⟩:=key e d1 d2 g H;refine⟨_,i,?_⟩;have d: ((af.drop l).take (s-l)).length=s-l:=by simp;omega
     by_cases hm:m=l
     ·have:s=l:=by omega
      subst this;rw[ac6 hm];refine⟨b,o,m-s,n,[],by simp,by simp,λk=>by simp;omega,by simp,λj u hj=>by simp at hj,λu hu=>by simp at hu,by simp[bF]⟩
     ·rw[ac0 hm];refine⟨b,o+l*n,m-l,n,(vs.drop (l*n)).take ((s-l)*n),?_,?_,λk=>?_,λel F=>hu el (ao1 (ahW F)),hf.slice _ _,(lf.drop _).take _,hl.slice hu⟩
      ·simp[d,jN]
      ·rw[d];omega
      ·rw[d];have:=M k;omega
    ·cases h
   ·cases h
  ·cases h
 ·rename_i id ak sz off len cK;split at h
  ·rename_i l s g;split at h
   ·rename_i c H;split at h
    ·rename_i C;subst C;cases h;simp only[an]at y;obtain⟨V,e1,N,cap,e,d1,d2,d3⟩:=y;obtain⟨m,i,c1,Z,Y,W,M⟩:=key e d1.1 d2 g H;refine⟨_,i,V,e1,if m=l then N else N.add (l*sz),m-l,by split<;>simp_all,⟨by omega,by split<;>first|exact d1.2|exact al5 d1.2 _⟩,λk=>by have:=M k;omega,λS=>?_⟩;obtain⟨f1,f2,f3⟩:=d3 S;refine⟨f1,λI=>?_,?_⟩
     ·rw[ac0 (by omega),Mj _ _ _ _ (f2 (by omega)),apc,amW]
     ·have: (off+l)*sz+(m-l)*sz<=off*sz+cap*sz:=by
        rw[<-apc,<-apc];exact ajv _ (by omega)
      omega
    ·cases h
   ·cases h
  ·cases h
 ·rename_i id sz off len;split at h
  ·rename_i l s g;split at h
   ·rename_i C;subst C;cases h;simp only[an]at y;obtain⟨V,N,cap,e,d1,d2⟩:=y;obtain⟨m,i,c1,Z,Y,W,M⟩:=key (cK:=false) (c:=false) e d1 (λhh=>by cases hh) g (by simp[lP]);refine⟨_,i,V,if m=l then N else N.add (l*sz),m-l,by split<;>simp_all,by omega,λS I=>?_⟩;rw[ac0 (by omega),Mj _ _ _ _ (d2 S (by omega))]
   ·cases h
  ·cases h
 ·cases h
theorem chunks_flatten{sz:Nat}: ∀ {k:Nat} {cs:List AV},k*sz<=cs.length->(chunks sz k cs).flatten=cs.take (k*sz)
 |0,_,_=>by simp[chunks]
 |k+1,cs,h=>by
  have e: (k+1)*sz=sz+k*sz:=by grind
  simp only[chunks,ao3];rw[chunks_flatten (k:=k) (cs:=cs.drop sz) (by grind),e,List.take_add]
theorem CB{sz:Nat}: ∀ {k:Nat} {cs:List AV},k*sz<=cs.length-> ∀el∈chunks sz k cs,el.length=sz
 |0,_,_=>by simp[chunks]
 |k+1,cs,h=>by
  intro el a;simp only[chunks,aeZ]at a;rcases a with rfl|a
  ·grind
  ·exact CB (k:=k) (cs:=cs.drop sz) (by grind) el a
@[simp]theorem Mk {sz:Nat}: ∀ {k:Nat} {cs:List AV},(chunks sz k cs).length=k
  |0,_=>rfl
  |k+1,_=>by simp[chunks,Mk]
def al7(I:aX P B ax G E w)(N:fP X B ax){f:TypeId}(R:P.underlying t=some (.array n f))(Q:cD P f=some sz){x v:AV}{k:Value}{lo H:Option AV}{a:Option Value}
  (m:an G x k) (y:lV G lo aj) (z:lV G H a) (h:qs X n sz x lo H=some v): ∃v',(Instr.sliceAt t k aj a none).run P w= .ok v' w/\an G v v':=by
 unfold qs at h;split at h
 ·rename_i l i O;obtain⟨K,U,T⟩:=Gm (P:=P) (CA:=false) (adA n) y z O w;have key: ∀p,k= .pointer (some p)->(Instr.sliceAt t k aj a none).run P w= .ok (.slice (some (if n=l then p else p.add (l*sz))) (i-l) (n-l)) w:=by
   rintro p rfl;simp[Instr.sliceAt,ada R,Instr.sureAddr,K,nW Q]
  have frozen: ∀ (b o:Nat) (cs:List AV) (vs:List Value) (off:Nat),k= .pointer (some ⟨b,o+off,none⟩)->qz G b o vs->Leaves vs->aG G cs vs->off+n*sz<=cs.length->
    ∃v',(Instr.sliceAt t k aj a none).run P w= .ok v' w/\an G (.sl (chunks sz (i-l) (cs.drop (off+l*sz))) false) v':=by
   intro b o cs vs off e s q r hle;refine⟨_,key _ e,?_⟩;have L:l*sz+(i-l)*sz<=n*sz:=by rw[<-apc];exact ajv _ (by omega)
   have d: (i-l)*sz<=(cs.drop (off+l*sz)).length:=by simp;omega
   by_cases F:n=l
   ·rw[ac6 F];have:i=l:=by omega
    subst this;refine⟨b,o+off,n-i,sz,[],by simp,by simp,(λC=>by cases C),by simp[chunks],(λj u M=>by simp at M),(λu hu=>by simp at hu),by simp[chunks,bF]⟩
   ·rw[ac0 F];refine⟨b,o+(off+l*sz),n-l,sz,(vs.drop (off+l*sz)).take ((i-l)*sz),?_,(by rw[Mk];omega),(λC=>by cases C),CB d,s.slice _ _,(q.drop _).take _,?_⟩
    ·simp[jN,amW]
    ·rw[bF.iff,chunks_flatten d];exact(r.drop _).take _
  split at h
  ·rename_i id off;cases h;simp only[an]at m;obtain⟨S,p,e,c⟩:=m;refine⟨_,key p e,S,_,n-l,rfl,by omega,λJ D=>?_⟩;rw[ac0 (by omega),Mj _ _ _ _ (c J)]
  ·rename_i cs off;split at h
   ·rename_i hle;cases h;simp only[an]at m;obtain⟨b,o,vs,e,s,q,r⟩:=m;exact frozen b o cs vs off e s q r hle
   ·cases h
  ·rename_i g;split at h
   ·rename_i cs A;split at h
    ·rename_i hle;cases h;simp only[an]at m;obtain⟨vs,s,q,r⟩:=N.rel I A;have:=frozen g 0 cs vs 0 (by simpa using m) s q r (by omega);simpa using this
    ·cases h
   ·cases h
  grind
 grind
end
section
variable{P:Program}{X:Ctx}{B:Nat}{ax:World}
variable{G:Gh}{E:AS}{w:World}
def Ml{z:AV}(h:xO P t=some z)(G:Gh)(w:World): ∃b,(zeroValue t).run P w= .ok b w/\zeroV P t=some b/\an G z b:=by
 unfold xO at h;split at h
 ·rename_i v a;split at h
  ·rename_i d;cases h;refine⟨v,?_,a,UU v d⟩;unfold zeroV at a;cases c:P.info? t with
   |none=>grind
   |some i=>
    simp only[c,apb]at a;simp only[zeroValue,Sem.run_bind,run_typeInfo _ c,Result.andThen_ok,a,Sem.run_pure]
  grind
 grind
def rZ{z:List AV}(h:iv P t=some z)(G:Gh)(w:World):
  ∃a,(zeroValue t).run P w= .ok a w/\zeroV P t=some a/\aG G z a.cells.toList/\Leaves a.cells.toList/\cD P t=some z.length:=by
 unfold iv at h;split at h
 ·rename_i y n c f;split at h
  ·rename_i b;obtain⟨a,e,g,r⟩:=Ml c G w;obtain⟨l,d⟩:=r.cells b.1
   grind
  grind
 grind
theorem al8:IntKind.i64.max=9223372036854775807:=by rfl
theorem k0{s:Sem Value}{k:IntKind}{n:Int}{w:World}(h:s.run P w= .ok (.int k n) w): ∃v',s.run P w= .ok v' w/\an G (.int k n) v':=⟨_,h,by rfl⟩
theorem CC{s:Sem Value}{b:Bool}{w:World}(h:s.run P w= .ok (.bool b) w): ∃v',s.run P w= .ok v' w/\an G (.bool b) v':=⟨_,h,by rfl⟩
theorem aAy{s:Sem Value}{b:ByteArray}{w:World}(h:s.run P w= .ok (.string b) w): ∃v',s.run P w= .ok v' w/\an G (.str b) v':=⟨_,h,by rfl⟩
def U0{c:BinOp}{x y v:AV}{j i:Value}(e:an G x j)(d:an G y i)(h:dE c x y=some v)(ho:c≠ .eql)(f:c≠ .neq)(w:World):
  ∃v',(binOp c t j i).run P w= .ok v' w/\an G v v':=by
 unfold dE at h;split at h
 ·rename_i k a k' b;split at h
  ·rename_i l;subst l;simp only[an]at e d;subst e d;cases c<;>simp[mr,vX]at h<;>(simp_all)<;>(try rfl)
   all_goals
    first
     | (subst h;exact k0 (by simp[binOp,Op.intArith,Op.intBits]))
     | (subst h;exact CC (by simp[binOp,Op.intCmp]))
     | (obtain⟨g,rfl⟩:=h;exact k0 (by simp[binOp,Op.intDiv,g]))
  grind
 ·rename_i a b;simp only[an]at e d;subst e d;cases c<;>simp[UM]at h<;>(try exact absurd rfl ho)<;>(try exact absurd rfl f)
  all_goals
   first
    | (subst h;exact CC (by simp[binOp,Op.stringOp]))
    | (obtain⟨g,rfl⟩:=h
       refine⟨.string (a++b),?_,by simp[an]⟩;simp only[binOp,Op.stringOp,Sem.run_ite];rw[ac0 (by rw[al8];simp only[UL]at g;omega)];simp)
 grind
def al9{c:BinOp}{k k':IntKind}{a b:Int}{v:AV}(h:vY c k a b=some v)(w:World):
  ∃v',(binOp c t (.int k a) (.int k' b)).run P w= .ok v' w/\an G v v':=by
 unfold vY at h;split at h
 ·cases h
 ·rename_i d;split at h
  ·cases h;exact k0 (by simp[binOp,Op.shift,d])
  ·cases h;exact k0 (by simp[binOp,Op.shift,d])
  grind
def ama{c:UnOp}{x v:AV}{b:Value}(a:an G x b)(h:xK c x=some v)(w:World): ∃v',(Op.unary c b).run P w= .ok v' w/\an G v v':=by
 unfold xK at h;split at h
 ·cases h;subst a;exact k0 (by rfl)
 ·simp only[vX,ac1]at h;subst h;subst a;exact k0 (by rfl)
 ·cases h;subst a;exact CC (by rfl)
 grind
def amb{s d:TypeId}{k q:IntKind}{n:Int}(b: (P.underlying s).isSome=true)(a:P.underlying d=some (.int k))(w:World):
  (convert s d (.int q n)).run P w= .ok (.int k (k.wrap n)) w:=by
 cases hu:P.underlying s with
 |none=>grind
 |some u=>simp[convert,ada hu,ada a,Conv.intToInt]
def U1{b:AV}{c:Value}(h:b.z7=true)(r:an G b c): ∃a,c= .pointer (some a):=by
 cases b<;>simp[AV.z7]at h<;>simp only[an]at r
 ·grind
 ·grind
 ·grind
 grind
def U2{b:AV}{d:Value}(h:b.z8=true)(r:an G b d): ∃a n c,d= .slice (some a) n c:=by
 cases b<;>simp[AV.z8]at h<;>simp only[an]at r
 ·grind
 ·grind
 grind
def kindOk:EK->TypeDesc->Prop
 |.bool,d=>d= .bool
 |.int,d=> ∃k,d= .int k
 |.str,d=>d= .string
 |.ptr,d=> ∃e,d= .pointer e
 |.sl,d=> ∃e,d= .slice e
 |.map,d=> ∃k e,d= .map k e
 |.cap,_=>False
 |.fn,d=> ∃a b c,d= .func a b c
 |.du,d=> ∃ms,d= .interface ms
 |.z6 _,d=> ∃ms,d= .interface ms
 |.agg _,_=>False
def U3(P:Program)(t:TypeId):Prop:= ∃i q,P.info? t=some i/\i.comparable=true/\P.underlying t=some (.int q)
def U4{a ty:TypeId}{e:Array (String×TypeId)}(f:P.underlying t=some (.interface e))(d:Nat)(c b:Value)(w:World)
  (h:a≠ty->r=false) (m:a=ty-> ∃i,P.info? a=some i/\i.comparable=true/\ (Op.equalIn d a c b).run P w= .ok r w): (Op.equalIn (d+1) t (.iface a c) (.iface ty b)).run P w= .ok r w:=by
 rw[Op.equalIn];simp only[Sem.run_bind,ada f,Result.andThen_ok];by_cases g:a=ty
 ·subst g;obtain⟨i,l,k,j⟩:=m rfl;simp[typeInfo,l,k,j]
 simp_all
def U5{k:EK}{u:TypeDesc}{x y:AV}{F D:Value}(l:P.underlying t=some u)(j:kindOk k u)(g:an G x F)(f:an G y D)(h:qo k x y=some r)(d:Nat)(w:World)(I: ∀ts,k= .z6 ts->1<=d/\ ∀t∈ts,U3 P t):
  (Op.equalIn (d+1) t F D).run P w= .ok r w:=by
 unfold qo at h;split at h
 case h_1=>
  cases h;simp only[an]at g f;subst g f;simp only[kindOk]at j;subst j;exact run_equalIn_bool w d t _ _ l
 case h_2=>
  split at h
  ·rename_i e;subst e;cases h;simp only[an]at g f;subst g f;obtain⟨k',rfl⟩:=j;exact run_equalIn_int w d t _ _ _ _ l
  ·cases h
 case h_3=>
  cases h;simp only[an]at g f;subst g f;simp only[kindOk]at j;subst j;exact run_equalIn_string w d t _ _ l
 case h_4=>
  cases h;simp only[an]at g f;subst g f;obtain⟨e,rfl⟩:=j;simp[Op.equalIn,ada l]
 case h_5=>
  split at h
  ·rename_i m;cases h;simp only[an]at g;subst g;obtain⟨e,rfl⟩:=j;obtain⟨a,rfl⟩:=U1 m f;simp[Op.equalIn,ada l]
  ·cases h
 case h_6=>
  split at h
  ·rename_i m;cases h;simp only[an]at f;subst f;obtain⟨e,rfl⟩:=j;obtain⟨a,rfl⟩:=U1 m g;simp[Op.equalIn,ada l]
  ·cases h
 case h_7=>
  cases h;simp only[an]at g f;subst g f;obtain⟨e,rfl⟩:=j;simp[Op.equalIn,ada l]
 case h_8=>
  split at h
  ·rename_i m;cases h;simp only[an]at g;subst g;obtain⟨e,rfl⟩:=j;obtain⟨a,n,c,rfl⟩:=U2 m f;simp[Op.equalIn,ada l]
  ·cases h
 case h_9=>
  split at h
  ·rename_i m;cases h;simp only[an]at f;subst f;obtain⟨e,rfl⟩:=j;obtain⟨a,n,c,rfl⟩:=U2 m g;simp[Op.equalIn,ada l]
  ·cases h
 case h_10=>
  cases h;simp only[an]at g f;subst g f;obtain⟨_,_,rfl⟩:=j;simp[Op.equalIn,ada l]
 case h_11=>
  cases h;simp only[an]at g f;subst g;obtain⟨_,_,rfl,_⟩:=f;obtain⟨_,_,rfl⟩:=j;simp[Op.equalIn,ada l]
 case h_12=>
  cases h;simp only[an]at g f;subst f;obtain⟨_,_,rfl,_⟩:=g;obtain⟨_,_,rfl⟩:=j;simp[Op.equalIn,ada l]
 case h_13=>
  cases h;simp only[an]at g f;subst g f;obtain⟨_,_,_,rfl⟩:=j;simp[Op.equalIn,ada l]
 case h_14=>
  cases h;simp only[an]at g f;subst g;obtain⟨_,_,_,rfl,_⟩:=f;obtain⟨_,_,_,rfl⟩:=j;simp[Op.equalIn,ada l]
 case h_15=>
  cases h;simp only[an]at g f;subst f;obtain⟨_,_,_,rfl,_⟩:=g;obtain⟨_,_,_,rfl⟩:=j;simp[Op.equalIn,ada l]
 case h_16=>
  cases h;simp only[an]at g f;subst g f;obtain⟨_,rfl⟩:=j;simp[Op.equalIn,ada l]
 case h_17=>
  cases h;simp only[an]at g f;subst g;obtain⟨_,rfl,_⟩:=f;obtain⟨_,rfl⟩:=j;simp[Op.equalIn,ada l]
 case h_18=>
  cases h;simp only[an]at g f;subst f;obtain⟨_,rfl,_⟩:=g;obtain⟨_,rfl⟩:=j;simp[Op.equalIn,ada l]
 case h_19=>
  rename_i ts tx q a ty H b;simp only[an]at g f;obtain⟨_,rfl,rfl⟩:=g;obtain⟨_,rfl,rfl⟩:=f;obtain⟨ms,rfl⟩:=j;obtain⟨J,o⟩:=I ts rfl;split at h
  ·rename_i p;subst p;split at h
   ·rename_i A;obtain⟨A,rfl⟩:=A;cases h;obtain⟨i,H,z,v,s⟩:=o tx (by simpa using A);obtain⟨C,rfl⟩: ∃C,d=C+1:=⟨d-1,by omega⟩;exact U4 l _ _ _ w (λe=>absurd rfl e) λ_=>⟨i,z,v,run_equalIn_int w C tx q H a b s⟩
   ·cases h
  ·rename_i p;cases h;exact U4 l _ _ _ w (λ_=>rfl) λe=>absurd e p
 case h_20=>cases h
def U6{c d:List EK}{a b:List AV}(j:a.length=(c++d).length)(i:b.length=(c++d).length)(h:iX (c++d) a b=some r):
  ∃e,iX c (a.take c.length) (b.take c.length)=some e/\ (e=false->r=false)/\ (e=true->iX d (a.drop c.length) (b.drop c.length)=some r):=by
 induction c generalizing a b with
 |nil=>exact⟨true,by rfl,by simp,λ_=>by grind⟩
 |cons k f g=>
  cases a with
  |nil=>grind
  |cons x xs=>
   cases b with
   |nil=>grind
   |cons y ys=>
    simp only[ah6,iX]at h;simp only[aeV,apM,asR,iX]
    grind
def xT:TypeDesc->Bool
 |.struct _|.array _ _=>true
 |_=>false
def xU{u:TypeDesc}(h:P.underlying t=some u):m5 P t=some (xT u):=by
 unfold m5;rw[h];cases u<;>rfl
def Gp(P:Program)(d:Nat)(t:TypeId)(a:List EK):Prop:=
 ∀ (D:Nat),d<=D-> ∀ (G:Gh) (w:World) (xs ys:Array Value) (as bs:List AV) (off:Nat) (r:Bool),cD P t=some a.length->aG G as xs.toList->aG G bs ys.toList->Leaves xs.toList->Leaves ys.toList->
   off+a.length<=as.length->off+a.length<=bs.length->iX a ((as.drop off).take a.length) ((bs.drop off).take a.length)=some r->
   ∃x y,(Go.part t xs off).run P w= .ok x w/\ (Go.part t ys off).run P w= .ok y w/\ (Op.equalIn D t x y).run P w= .ok r w
def U7(F: ∀t a,nV P d t=some a->Gp P d t a): ∀ (fs:List Field) (off:Nat) (a:List EK),Aa P (nV P d) fs off=some a->
  ∀ (D:Nat),d<=D-> ∀ (G:Gh) (w:World) (xs ys:Array Value) (as bs:List AV) (r:Bool),aG G as xs.toList->aG G bs ys.toList->Leaves xs.toList->Leaves ys.toList->
  off+a.length<=as.length->off+a.length<=bs.length->iX a ((as.drop off).take a.length) ((bs.drop off).take a.length)=some r->
  (Op.eqFields D xs ys fs).run P w= .ok r w:=by
 intro fs
 induction fs with
 |nil=>
  intro off a h D g G w xs ys as bs r _ _ _ _ _ _ he;simp only[Aa,ac1]at h;subst h;simp[iX]at he;subst he;simp[Op.eqFields]
 |cons f fs q=>
  intro off a h D g G w xs ys as bs r k j f1 f2 A z he;simp only[Aa]at h;split at h
  ·rename_i c e;split at h
   ·rename_i v;obtain⟨u,ho,s⟩:=v;cases b:Aa P (nV P d) fs (off+c.length)with
    |none=>simp[b]at h
    |some p=>
     simp only[b,aeM,ac1]at h;subst h;simp only[aeG]at A z;obtain⟨i,e1,C,e3⟩:=U6 (by simp;omega) (by simp;omega) he;rw[are,are,aeG,apJ (Nat.le_add_right _ _)]at e1;obtain⟨x,y,o,n,m⟩:=F f.type c e D g G w xs ys as bs off i s k j f1 f2 (by omega) (by omega) e1;simp only[Op.eqFields,ho];rw[ac6 u];simp only[Sem.run_bind,o,n,m,Result.andThen_ok];cases i with
     |false=>simp[C rfl]
     |true=>
      simp only[awD,aeJ,ags];have l:=e3 rfl;rw[awQ,awQ,ape,ape,aeG,akb]at l;exact q (off+c.length) p b D g G w xs ys as bs r k j f1 f2 (by omega) (by omega) l
   grind
  grind
def Mm{u:TypeDesc}{k:EK}(o:P.underlying t=some u)(q:kindOk k u)(g:m5 P t=some false)(p: ∀ts,k≠ .z6 ts):Gp P (d+1) t [k]:=by
 intro D H G w xs ys as bs off r F l j f1 f2 v s he;simp only[asa]at v s he;have C:as[off]?=some (as[off]'(by omega)):=ac7 _;have A:bs[off]?=some (bs[off]'(by omega)):=ac7 _;obtain⟨x,n,rx⟩:=l.get off _ C;obtain⟨y,m,i⟩:=j.get off _ A;have e1: (as.drop off).take 1=[as[off]'(by omega)]:=by rw[anh (by omega)];rfl
 have z: (bs.drop off).take 1=[bs[off]'(by omega)]:=by rw[anh (by omega)];rfl
 rw[e1,z]at he;have c:qo k as[off] bs[off]=some r:=by
  simp only[iX]at he;split at he
  ·rename_i h;rw[h];exact he
  ·rename_i h;rw[h];exact he
  ·cases he
 have b:xs[off]?=some x:=by simpa using n
 have a:ys[off]?=some y:=by simpa using m
 refine⟨x,y,by simp[Go.part,rY g,b],by simp[Go.part,rY g,a],?_⟩;obtain⟨f,rfl⟩: ∃f,D=f+1:=⟨D-1,by omega⟩;exact U5 o q rx i c f w (λts e=>absurd e (p ts))
theorem Mo{D:Nat}{e:TypeId}{a:List EK}(l:Gp P D e a)(g:cD P e=some a.length){G:Gh}{w:World}{xs ys:Array Value}{as bs:List AV}(f:aG G as xs.toList)(d:aG G bs ys.toList)(i:Leaves xs.toList)(h:Leaves ys.toList):
  ∀ (m j:Nat) (r:Bool),(j+m)*a.length<=as.length->(j+m)*a.length<=bs.length->iX (List.replicate m a).flatten ((as.drop (j*a.length)).take (m*a.length)) ((bs.drop (j*a.length)).take (m*a.length))=some r->
  (Op.eqItems D e a.length xs ys (List.range' j m)).run P w= .ok r w
 |0,j,r,_,_,he=>by
  simp[iX]at he;subst he;simp[Op.eqItems]
 |m+1,j,r,t,s,he=>by
  have hm: (m+1)*a.length=a.length+m*a.length:=by rw[apB];omega
  have q: (j+(m+1))*a.length=j*a.length+(a.length+m*a.length):=by rw[apc,hm]
  rw[q]at t s;rw[ast,ao3,hm]at he;obtain⟨c,e1,u,e3⟩:=U6 (by simp;omega) (by simp;omega) he;rw[are,are,apJ (Nat.le_add_right _ _)]at e1;obtain⟨x,y,p,o,n⟩:=l D (adA _) G w xs ys as bs (j*a.length) c g f d i h (by omega) (by omega) e1;rw[List.range'_succ];simp only[Op.eqItems,Sem.run_bind,p,o,n,Result.andThen_ok];cases c with
  |false=>simp[u rfl]
  |true=>
   simp only[awD,aeJ,ags];have k:=e3 rfl;rw[awQ,awQ,ape,ape,akb]at k;have b: (j+1)*a.length=j*a.length+a.length:=apB _ _;refine Mo l g f d i h m (j+1) r ?_ ?_ ?_
   ·have: (j+1+m)*a.length=j*a.length+(a.length+m*a.length):=by rw[apc,b];omega
    omega
   ·have: (j+1+m)*a.length=j*a.length+(a.length+m*a.length):=by rw[apc,b];omega
    omega
   ·rw[b];exact k
theorem Gq: ∀ (d:Nat) (t:TypeId) (b:List EK),nV P d t=some b->Gp P d t b
 |0,_,_,h=>by trivial
 |d+1,t,b,h=>by
  simp only[nV]at h;split at h
  ·rename_i hu;cases h;exact Mm (k:=.bool) hu rfl (xU hu) (by simp)
  ·rename_i hu;cases h;exact Mm (k:=.int) hu ⟨_,rfl⟩ (xU hu) (by simp)
  ·rename_i hu;cases h;exact Mm (k:=.str) hu rfl (xU hu) (by simp)
  ·rename_i fields hu;split at h
   ·rename_i F;intro D K G w xs ys as bs off r j p o f1 f2 A z he;have s: (Go.part t xs off).run P w= .ok (.agg (xs.extract off (off+b.length))) w:=by simp[Go.part,rY (xU hu),nW j,xT]
    have q: (Go.part t ys off).run P w= .ok (.agg (ys.extract off (off+b.length))) w:=by simp[Go.part,rY (xU hu),nW j,xT]
    refine⟨_,_,s,q,?_⟩;obtain⟨f,rfl⟩: ∃f,D=f+1:=⟨D-1,by omega⟩;have x:P.fieldsOf t=fields:=by simp[Program.fieldsOf,hu]
    rw[run_equalIn_struct w f t _ _ (by rw[x];exact hu) F,x];have ex: (xs.extract off (off+b.length)).toList=(xs.toList.drop off).take b.length:=by rw[awB,asr];simp
    have m: (ys.extract off (off+b.length)).toList=(ys.toList.drop off).take b.length:=by rw[awB,asr];simp
    refine U7 (λt b h=>Gq d t b h) fields.toList 0 b h f (by omega) G w _ _ ((as.drop off).take b.length) ((bs.drop off).take b.length) r (by rw[ex];exact(p.drop _).take _) (by rw[m];exact(o.drop _).take _)
     (by rw[ex];exact(f1.drop _).take _) (by rw[m];exact(f2.drop _).take _) (by simp;omega) (by simp;omega) ?_
    rw[aoT,aoT,are,are,aAO];exact he
   ·cases h
  ·rename_i n e hu;split at h
   ·rename_i a H;split at h
    ·rename_i J;obtain⟨l,_⟩:=J;cases h;intro D K G w xs ys as bs off r j p o f1 f2 A z he;have u: (List.replicate n a).flatten.length=n*a.length:=by simp
     rw[u]at A z he j;have s: (Go.part t xs off).run P w= .ok (.agg (xs.extract off (off+n*a.length))) w:=by simp[Go.part,rY (xU hu),nW j,xT]
     have q: (Go.part t ys off).run P w= .ok (.agg (ys.extract off (off+n*a.length))) w:=by simp[Go.part,rY (xU hu),nW j,xT]
     refine⟨_,_,s,q,?_⟩;obtain⟨f,rfl⟩: ∃f,D=f+1:=⟨D-1,by omega⟩;have c:=l;unfold cD at c;obtain⟨i,I,C⟩:=aeL.1 c;rw[run_equalIn_array w f _ _ hu I];have g:P.cellsOf e=a.length:=by
      unfold Program.cellsOf;rw[c];rfl
     rw[g,aA5];have ex: (xs.extract off (off+n*a.length)).toList=(xs.toList.drop off).take (n*a.length):=by rw[awB,asr];simp
     have m: (ys.extract off (off+n*a.length)).toList=(ys.toList.drop off).take (n*a.length):=by rw[awB,asr];simp
     refine Mo (as:=(as.drop off).take (n*a.length)) (bs:=(bs.drop off).take (n*a.length)) (λv y=>Gq d e a H v (by omega)) l (by rw[ex];exact(p.drop _).take _) (by rw[m];exact(o.drop _).take _)
      (by rw[ex];exact(f1.drop _).take _) (by rw[m];exact(f2.drop _).take _) n 0 r (by simp;omega) (by simp;omega) ?_
     rw[Nat.zero_mul,aoT,aoT,are,are,aAO];exact he
    ·cases h
   ·cases h
  grind
end
section
variable{P:Program}{X:Ctx}{B:Nat}{ax:World}
variable{G:Gh}{E:AS}{w:World}
def xV:Operand->Bool
 |.const _=>true
 |_=>false
def Ai(c:BinOp)(t:TypeId)(x y:Operand)(a b:Value)(e:a= .nilIface->b= .nilIface->(xV x||xV y)=true)(d: ∀xs ys,a= .agg xs->b= .agg ys->P.eqGuardType P.depth t=false)(w:World):
  (eqGuard c t x y a b).run P w= .ok () w:=by
 cases c<;>(simp_all)<;>cases a<;>(try(simp[eqGuard];done))<;>cases b<;>(try(simp[eqGuard];done))
 all_goals first
  | (have h:=d _ _ rfl rfl;simp[eqGuard,arH,h];done)
  | (have h:=e rfl rfl;cases x<;>cases y<;>simp[xV]at h<;>simp[eqGuard])
def CD:Value->Bool
 |.int _ _|.float _ _|.complex _ _ _|.string _=>false
 |_=>true
def binOp_eql{x y:Value}(a:CD x=true)(t:TypeId):binOp .eql t x y=(do pure (.bool (<-Op.equal t x y))):=by
 cases x<;>simp[CD]at a<;>first|rfl|rfl
def binOp_neq{x y:Value}(a:CD x=true)(t:TypeId):binOp .neq t x y=(do pure (.bool (!(<-Op.equal t x y)))):=by
 cases x<;>simp[CD]at a<;>first|rfl|rfl
def uB:AV->Bool
 |.int _ _|.str _|.aA _|.qn=>false
 |_=>true
def amc{x:AV}{a:Value}(h:uB x=true)(r:an G x a):CD a=true:=by
 cases x<;>simp[uB]at h<;>simp only[an]at r
 all_goals first
  |rfl
  | (obtain⟨_,rfl,_⟩:=r;rfl)
  | (obtain⟨_,_,rfl,_⟩:=r;rfl)
  | (obtain⟨_,_,_,rfl,_⟩:=r;rfl)
  | (obtain⟨_,_,_,_,rfl,_⟩:=r;rfl)
  | (obtain⟨_,_,_,_,_,rfl,_⟩:=r;rfl)
  | (obtain⟨⟨_,rfl⟩,_⟩:=r;rfl)
def amd{x:AV}{xs:Array Value}(h:x.cx=false)(r:an G x (.agg xs)): ∃cs,x= .agg cs:=by
 cases x<;>simp[AV.cx]at h<;>simp[an]at r
 grind
def ame{x y:Operand}{k:EK}(h:xP P t x y=some k):
  (∃u,P.underlying t=some u/\kindOk k u/\ (k= .du->(xV x||xV y)=true)/\ ∀ts,k= .z6 ts-> ∀t∈ts,U3 P t)\/
  (∃a u,P.underlying t=some u/\xT u=true/\k= .agg a/\nV P 10 t=some a/\P.eqGuardType P.depth t=false):=by
 unfold xP at h;split at h
 ·rename_i hu;cases h;exact .inl ⟨_,hu,rfl,by simp,by simp⟩
 ·rename_i hu;cases h;exact .inl ⟨_,hu,⟨_,rfl⟩,by simp,by simp⟩
 ·rename_i hu;cases h;exact .inl ⟨_,hu,rfl,by simp,by simp⟩
 ·rename_i hu;cases h;exact .inl ⟨_,hu,⟨_,rfl⟩,by simp,by simp⟩
 ·rename_i hu;cases h;exact .inl ⟨_,hu,⟨_,rfl⟩,by simp,by simp⟩
 ·rename_i hu;cases h;exact .inl ⟨_,hu,⟨_,_,rfl⟩,by simp,by simp⟩
 ·rename_i hu;cases h;exact .inl ⟨_,hu,⟨_,_,_,rfl⟩,by simp,by simp⟩
 ·rename_i hu;split at h
  ·cases h;exact .inl ⟨_,hu,⟨_,rfl⟩,by simp[xV],by simp⟩
  ·cases h;exact .inl ⟨_,hu,⟨_,rfl⟩,by simp[xV],by simp⟩
  ·cases h;refine .inl ⟨_,hu,⟨_,rfl⟩,by simp,λts d t b=>?_⟩;cases d;simp only[UN,ae2]at b;obtain⟨_,b⟩:=b;split at b
   ·rename_i i q g f;exact⟨i,q,g,b,f⟩
   ·cases b
 ·rename_i hu;split at h
  ·rename_i e;cases c:nV P 10 t with
   |none=>simp[c]at h
   |some a=>simp[c]at h;exact .inr ⟨a,_,hu,rfl,h.symm,rfl,e⟩
  ·cases h
 ·rename_i hu;split at h
  ·rename_i e;cases c:nV P 10 t with
   |none=>simp[c]at h
   |some a=>simp[c]at h;exact .inr ⟨a,_,hu,rfl,h.symm,rfl,e⟩
  ·cases h
 grind
def amf{k:EK}{x y:AV}{u:TypeDesc}(b:kindOk k u):eI k x y=qo k x y:=by
 cases k with
 |agg a=>trivial
 |_=>rfl
def U8{b:AV}(h:b.z7=true):uB b=true/\ (∀cs,b≠ .agg cs)/\b≠ .eV/\b.cx=false:=by
 cases b<;>simp[AV.z7]at h<;>simp[uB,AV.cx]
def U9{b:AV}(h:b.z8=true):uB b=true/\ (∀cs,b≠ .agg cs)/\b≠ .eV/\b.cx=false:=by
 cases b<;>simp[AV.z8]at h<;>simp[uB,AV.cx]
def amg{k:EK}{x y:AV}(h:qo k x y=some r):
  (k= .int/\ ∃q a b,x= .int q a/\y= .int q b/\r=(a==b))\/ (k= .str/\ ∃a b,x= .str a/\y= .str b/\r=(a.toList==b.toList))\/ (uB x=true/\ (∀cs,x≠ .agg cs)/\ (∀cs,y≠ .agg cs)/\ (x= .eV->k= .du)/\x.cx=false/\y.cx=false):=by
 unfold qo at h;split at h
 case h_1=>exact .inr (.inr (by simp[uB,AV.cx]))
 case h_2=>grind
 case h_3=>grind
 case h_5=>
  split at h
  ·rename_i f;obtain⟨_,d,g,c⟩:=U8 f;exact .inr (.inr ⟨rfl,by simp,d,by simp,rfl,c⟩)
  ·cases h
 case h_6=>
  split at h
  ·rename_i f;obtain⟨i,d,g,c⟩:=U8 f;exact .inr (.inr ⟨i,d,by simp,λe=>absurd e g,c,rfl⟩)
  ·cases h
 case h_8=>
  split at h
  ·rename_i f;obtain⟨_,d,g,c⟩:=U9 f;exact .inr (.inr ⟨rfl,by simp,d,by simp,rfl,c⟩)
  ·cases h
 case h_9=>
  split at h
  ·rename_i f;obtain⟨i,d,g,c⟩:=U9 f;exact .inr (.inr ⟨i,d,by simp,λe=>absurd e g,c,rfl⟩)
  ·cases h
 case h_20=>cases h
 all_goals exact .inr (.inr (by simp[uB,AV.cx]))
def amh{x:AV}(h:x.cx=false)(r:an G x .nilIface):x= .eV:=by
 cases x<;>simp[AV.cx]at h<;>simp[an]at r;rfl
def Va{A z:Operand}{k:EK}(hk:xP P t A z=some k){x y:AV}{m l:Value}(j:an G x m)(v:an G y l)(h:eI k x y=some r)(w:World):
  (eqGuard .eql t A z m l).run P w= .ok () w/\ (binOp .eql t m l).run P w= .ok (.bool r) w/\ (eqGuard .neq t A z m l).run P w= .ok () w/\ (binOp .neq t m l).run P w= .ok (.bool !r) w:=by
 rcases ame hk with⟨u,hu,C,F,D⟩| ⟨K,u,hu,I,rfl,f,hg⟩
 ·rw[amf C]at h;rcases amg h with⟨rfl,q,a,b,rfl,rfl,rfl⟩| ⟨rfl,a,b,rfl,rfl,rfl⟩| ⟨h1,h2,h3,h4,V,h6⟩
  ·subst j v;exact⟨Ai _ _ _ _ _ _ (by simp) (by simp) w,by simp[binOp,Op.intCmp],Ai _ _ _ _ _ _ (by simp) (by simp) w,by simp[binOp,Op.intCmp,bne]⟩
  ·simp only[an]at j v;subst j v;exact⟨Ai _ _ _ _ _ _ (by simp) (by simp) w,by simp[binOp,Op.stringOp],Ai _ _ _ _ _ _ (by simp) (by simp) w,by simp[binOp,Op.stringOp]⟩
  ·have S:=amc h1 j;have e: (Op.equal t m l).run P w= .ok r w:=U5 hu C j v h 9999 w (λts L=>⟨by decide,D ts L⟩);have g: ∀op,(eqGuard op t A z m l).run P w= .ok () w:=λop=>by
    refine Ai _ _ _ _ _ _ (λQ _=>?_) (λxs ys Q _=>?_) w
    ·subst Q;exact F (h4 (amh V j))
    ·subst Q;obtain⟨cs,rfl⟩:=amd V j;exact absurd rfl (h2 cs)
   exact⟨g _,by simp[binOp_eql S,e],g _,by simp[binOp_neq S,e]⟩
 ·unfold eI at h;split at h
  ·rename_i c xs ys he;cases he;split at h
   ·rename_i o;simp only[an]at j v;obtain⟨s,rfl,lx,Y⟩:=j;obtain⟨J,rfl,ly,W⟩:=v;have g: ∀op,(eqGuard op t A z (.agg s) (.agg J)).run P w= .ok () w:=λop=>Ai _ _ _ _ _ _ (by simp) (λ_ _ _ _=>hg) w
    have e: (Op.equal t (.agg s) (.agg J)).run P w= .ok r w:=by
     rw[show(10:Nat)=9+1 from rfl,nV,hu]at f;cases u<;>simp only[xT,aeJ]at I
     ·rename_i n e;simp only at f;split at f
      ·rename_i c M;split at f
       ·rename_i O;obtain⟨H,_⟩:=O;cases f;have d:=H;unfold cD at d;obtain⟨i,hi,r0⟩:=aeL.1 d;show(Op.equalIn (9999+1) t (.agg s) (.agg J)).run P w=_;rw[run_equalIn_array w 9999 _ _ hu hi];have p:P.cellsOf e=c.length:=by
         unfold Program.cellsOf;rw[d];rfl
        rw[p,aA5];have N: (List.replicate n c).flatten.length=n*c.length:=by simp
        rw[N]at o;refine Mo (as:=xs) (bs:=ys) (λR U=>Gq 9 e c M R (by omega)) H lx ly Y W n 0 r (by rw[aka];omega) (by rw[aka];omega) ?_;rw[Nat.zero_mul,aoT,aoT,<-o.1,aeQ,o.1,<-o.2,aeQ];exact h
       ·cases f
      ·cases f
     ·rename_i fs;simp only at f;split at f
      ·rename_i hp;have T:P.fieldsOf t=fs:=by simp[Program.fieldsOf,hu]
       show(Op.equalIn (9999+1) t (.agg s) (.agg J)).run P w=_;rw[run_equalIn_struct w 9999 t _ _ (by rw[T];exact hu) hp,T];refine U7 (λt K h=>Gq 9 t K h) fs.toList 0 K f 9999 (by omega) G w _ _ xs ys r lx ly Y W (by omega) (by omega) ?_;rw[aoT,aoT,<-o.1,aeQ,o.1,<-o.2,aeQ];exact h
      ·cases f
    exact⟨g _,by simp[binOp_eql (x:=.agg s) rfl,e],g _,by simp[binOp_neq (x:=.agg s) rfl,e]⟩
   ·cases h
  ·cases h
  ·rename_i n1 Z;first|exact(n1 _ rfl).elim|exact(Z _ rfl).elim
def ami{a:TypeId}{u:TypeDesc}(g:P.underlying a=some u)(b: ∀ms,u≠ .interface ms){z:AV}(o:xO P a=some z){x v:AV}{l:Value}{j:Bool}(f:an G x l)(h:z9 z x a j=some v)(n:TypeId)(w:World):
  ∃v',(Instr.typeAssert l n a j).run P w= .ok v' w/\an G v v':=by
 obtain⟨d,e,_,rz⟩:=Ml o G w;unfold z9 at h;split at h
 ·simp only[an]at f;subst f;split at h
  ·rename_i c;subst c;cases h;refine⟨.tuple #[d,.bool false],?_,⟨_,rfl,⟨d,_,rfl,rz,⟨_,_,rfl,by simp[an],by simp[aG]⟩⟩⟩⟩;cases u<;>first|exact absurd rfl (b _)|simp[Instr.typeAssert,ada g,e]
  ·cases h
 ·rename_i t' y;simp only[an]at f;obtain⟨i,rfl,m⟩:=f;split at h
  ·rename_i k;subst k;cases h;cases j with
   |true=>
    refine⟨.tuple #[i,.bool true],?_,⟨_,rfl,⟨i,_,rfl,m,⟨_,_,rfl,by simp[an],by simp[aG]⟩⟩⟩⟩;cases u<;>first|exact absurd rfl (b _)|simp[Instr.typeAssert,ada g]
   |false=>
    refine⟨i,?_,m⟩;cases u<;>first|exact absurd rfl (b _)|simp[Instr.typeAssert,ada g]
  ·rename_i k;split at h
   ·rename_i c;subst c;cases h;refine⟨.tuple #[d,.bool false],?_,⟨_,rfl,⟨d,_,rfl,rz,⟨_,_,rfl,by simp[an],by simp[aG]⟩⟩⟩⟩;cases u<;>first|exact absurd rfl (b _)|simp[Instr.typeAssert,ada g,e,k]
   ·cases h
 ·cases h
def amj{u:TypeDesc}(a:P.underlying t=some u)(b: ∀ms,u≠ .interface ms)(x:Value)(w:World): (Instr.makeInterface t x).run P w= .ok (.iface t x) w:=by
 cases u<;>first|grind|simp[Instr.makeInterface,run_underlying a]
def amk{x v:AV}{d:Value}(c:an G x d)(h:v7 x=some v):v=x/\ ((∃a,d= .pointer (some a))\/ (∃f a b,d= .func (.func f) a b)\/ ∃f a b,d= .func (.yield f) a b):=by
 unfold v7 at h;split at h
 all_goals(try cases h)
 ·simp only[an]at c;grind
 ·simp only[an]at c;grind
 ·simp only[an]at c;grind
 ·simp only[an]at c;grind
 ·simp only[an,m6]at c;grind
 ·simp only[an,m6]at c;grind
theorem gh.length: ∀ {es:List (AV×AV)} {ms:List MapEntry},gh G es ms->ms.length=es.length
 | [],ms,r=>by simp only[gh]at r;grind
 | (k,v)::es,ms,r=>by
   obtain⟨m,q,rfl,_,_,_,h⟩:=r;simp[gh.length h]
def Mp(f:aX P B ax G E w){ty:TypeId}{u:TypeDesc}{k:EK}(c:P.underlying t=some u)(b:kindOk k u){x v:AV}{d:Value}(a:an G x d)(h:gF E k x=some v):
  ∃v',(Builtin.len_ #[t] ty #[d]).run P w= .ok v' w/\an G v v':=by
 unfold gF at h;split at h
 ·cases h;simp only[an]at a;subst a;simp only[kindOk]at b;subst b;exact k0 (by simp[Builtin.len_,ada c,goInt])
 ·cases h;simp only[an]at a;subst a;obtain⟨e,rfl⟩:=b;exact k0 (by simp[Builtin.len_,ada c,goInt])
 ·cases h;simp only[an]at a;obtain⟨_,_,_,_,_,rfl,_⟩:=a;obtain⟨e,rfl⟩:=b;exact k0 (by simp[Builtin.len_,ada c,goInt])
 ·cases h;simp only[an]at a;obtain⟨_,_,_,_,rfl,_⟩:=a;obtain⟨e,rfl⟩:=b;exact k0 (by simp[Builtin.len_,ada c,goInt])
 ·cases h;simp only[an]at a;obtain⟨_,_,_,rfl,_⟩:=a;obtain⟨e,rfl⟩:=b;exact k0 (by simp[Builtin.len_,ada c,goInt])
 ·cases h;simp only[an]at a;subst a;obtain⟨_,e,rfl⟩:=b;exact k0 (by simp[Builtin.len_,ada c,goInt])
 ·rename_i id;split at h
  ·rename_i es he;cases h;obtain⟨l,ms,clock,j,hm⟩:=f.obj id _ he a.Gg;simp only[an]at a;obtain⟨_,r,rfl,g⟩:=a;obtain⟨_,e,rfl⟩:=b;rw[g l];have i:ms.size=es.length:=by rw[<-amD];exact hm.length
   exact k0 (by simp[Builtin.len_,ada c,goInt,getObj,Sem.run,j,i])
  ·cases h
 ·exact b.elim
 ·exact b.elim
 ·exact b.elim
 ·cases h
def aml{ty:TypeId}(b:P.underlying t=some (.slice e)){x v:AV}{d:Value}(a:an G x d)(h:gF E .cap x=some v)(w:World):
  ∃v',(Builtin.cap_ #[t] ty #[d]).run P w= .ok v' w/\an G v v':=by
 unfold gF at h;split at h<;>first|grind|skip
 all_goals simp_all
 ·cases h;subst a;exact k0 (by simp[Builtin.cap_,ada b,goInt])
 ·cases h;simp only[an]at a;obtain⟨_,_,cap,_,_,rfl,_,c,_⟩:=a;rw[<-c trivial];exact k0 (by simp[Builtin.cap_,ada b,goInt])
 ·cases h;simp only[an]at a;obtain⟨_,_,_,cap,rfl,_,c,_⟩:=a;rw[<-c trivial];exact k0 (by simp[Builtin.cap_,ada b,goInt])
theorem Mr{f:AV->AV->Option AV}{g:Value->Value->Sem Value}(m: ∀a b c a' o,f a b=some c->an G a a'->an G b o-> ∃n,(∀w,(g a' o).run P w= .ok n w)/\an G c n):
  ∀ (xs:List AV) (x:AV) (v:AV) (j:Value) (d:List Value),gU f (x::xs)=some v->an G x j->aG G xs d-> ∀w,∃v',(d.foldlM g j).run P w= .ok v' w/\an G v v'
 | [],x,v,j,d,h,l,i,w=>by
   subst i;unfold gU at h;simp_all
 |y::ys,x,v,j,d,h,l,i,w=>by
  obtain⟨s,k,rfl,r,i⟩:=i;unfold gU at h;split at h
  ·rename_i z q;obtain⟨p,e,rz⟩:=m _ _ _ _ _ q l r;obtain⟨v',t,rv⟩:=Mr m ys z v p k h rz i w;simp_all
  grind
def amm{j:Array TypeId}{xs:List AV}{v:AV}{d:Array Value}(g:aG G xs d.toList)(h:gU qt xs=some v)(w:World):
  ∃v',(Builtin.max_ j t d).run P w= .ok v' w/\an G v v':=by
 cases xs with
 |nil=>simp[gU]at h
 |cons x xs=>
  obtain⟨i,r,e,k,g⟩:=g;simp only[Builtin.max_,e];refine Mr (λa b c a' n f m l=>?_) xs x v i r h k g w;unfold qt at f;split at f
  ·cases f;subst m l;exact⟨_,λw=>by rfl,by rfl⟩
  grind
def amn{j:Array TypeId}{xs:List AV}{v:AV}{d:Array Value}(g:aG G xs d.toList)(h:gU v5 xs=some v)(w:World):
  ∃v',(Builtin.min_ j t d).run P w= .ok v' w/\an G v v':=by
 cases xs with
 |nil=>simp[gU]at h
 |cons x xs=>
  obtain⟨i,r,e,k,g⟩:=g;simp only[Builtin.min_,e];refine Mr (λa b c a' n f m l=>?_) xs x v i r h k g w;unfold v5 at f;split at f
  ·cases f;subst m l;exact⟨_,λw=>by rfl,by rfl⟩
  grind
end
section
variable{P:Program}{X:Ctx}{B:Nat}{ax:World}
variable{G:Gh}{E:AS}{w:World}
def aG.aN{cs vs:List AV}{b:List Value}{off:Nat}(a:aG G cs c.toList)(d:aG G vs b)(h:off+vs.length<=cs.length):
  aG G (aN cs off vs) (kZ c off b).toList:=by
 have e:=d.length;have f:=a.length;rw[amD]at f;rw[Gj _ _ _ (by omega)];rw[e];exact(a.take off).append (d.append (a.drop _))
def Leaves.aN{a:List Value}{off:Nat}(b:Leaves c.toList)(d:Leaves a)(h:off+a.length<=c.size):Leaves (kZ c off a).toList:=by
 rw[Gj _ _ _ h];exact(b.take off).append (d.append (b.drop _))
theorem Vb(off:Nat): ∀ (l:List Value) (k:Nat) (c:Array Value),(l.zipIdx k).foldl (λcs (p:Value×Nat)=>cs.setIfInBounds (off+p.2) p.1) c=kZ c (off+k) l
 | [],_,_=>rfl
 |v::l,k,c=>by
  simp only[List.zipIdx_cons,asp,kZ];rw[Vb off l (k+1)];rfl
theorem Gr{nt:Nat}{e:Env}{a:Act}(v:cP G nt e a.tmps){b CE:Nat->Option (Nat×Nat)}(u: ∀i p,b i=some p->CE i=some p):
  ∀ (ps:List (Nat×Operand)) (l:List (Nat×Nat×ao)) (cs d:List AV) (c:Array Value),parts b ps=some l->eH cs (l.map λp=>(p.1,p.2.1,p.2.2.get e))=some d->aG G cs c.toList->Leaves c.toList->
  ∃j,Instr.fill CE c (ps.map λp=>(p.1,a.eval p.2))=some j/\aG G d j.toList/\Leaves j.toList
 | [],l,cs,d,c,h,g,k,q=>by
   simp only[parts,ac1]at h;subst h;simp only[atZ,eH,ac1]at g;subst g;exact⟨c,by rfl,k,q⟩
 | (i,x)::ps,l,cs,d,c,h,g,k,q=>by
   simp only[parts]at h;split at h
   ·rename_i off n y z H F D;cases h;simp only[aj9,eH]at g;split at g
    ·rename_i C;obtain⟨t1,t2,t3⟩:=C;have A:=cH v F;obtain⟨t,m⟩:=A.cells t1;have f:=t.length;rw[amD]at f;have s:=k.length;rw[amD]at s;obtain⟨j,I,r,o⟩:=Gr v u ps z _ d (kZ c off (a.eval x).cells.toList) D g (k.aN t (by omega)) (q.aN m (by rw[amD];omega));refine⟨j,?_,r,o⟩;simp only[aj9,Instr.fill,u i _ H];rw[ac0 (by simp only[ne_eq,ao0,ae1];omega)];rw[<-I]
     congr 1
     rw[<-Array.foldl_toList,Array.toList_zipIdx];exact Vb off _ 0 c
    grind
   grind
def amo{b:Array Field}{z:List AV}(O:P.underlying t=some (.struct b))(M:iv P t=some z)(L:b.toList.all (λf=>(cD P f.type).isSome)=true)
   {e:Env}  (K:cP G nt e a.tmps) {o:Array (Nat×Operand)} {l:List (Nat×Nat×ao)}
  (H:parts (λi=>match b[i]? with|some f=>(cD P f.type).map λn=>(f.offset,n)|none=>none) o.toList=some l) {cs:List AV} (J:eH z (l.map λp=>(p.1,p.2.1,p.2.2.get e))=some cs) (w:World):
  ∃v',(Instr.build t (o.map λ (i,x)=>(i,a.eval x))).run P w= .ok v' w/\an G (.agg cs) v':=by
 obtain⟨m,_,D,lz,q,_⟩:=rZ M G w;obtain⟨it,I,C⟩: ∃it,P.info? t=some it/\it.zero=some m:=by
  unfold zeroV at D;cases d:P.info? t with
  |none=>grind
  |some i=>grind
 have hm: ∀ (fs:List Field),fs.all (λf=>(cD P f.type).isSome)=true-> ∃places,fs.mapM (λf=>(P.info? f.type).map λi=>(f.offset,i.size))=some places/\ ∀ (i:Nat) (f:Field),fs[i]?=some f-> ∃n,cD P f.type=some n/\places[i]?=some (f.offset,n):=by
  intro fs
  induction fs with
  |nil=>simp
  |cons f fs y=>
   intro c;simp only[awC,aeW]at c;obtain⟨places,e1,N⟩:=y c.2;cases d:P.info? f.type with
   |none=>simp[cD,d]at c
   |some i=>
    refine⟨(f.offset,i.size)::places,by simp[aA7,d,e1],λj g s=>?_⟩;cases j with
    |zero=>simp at s;subst s;exact⟨i.size,by simp[cD,d],by simp⟩
    |succ j=>simpa using N j g (by simpa using s)
 obtain⟨places,F,k⟩:=hm _ L;have A:m.cells.toList=m.cells.toList:=rfl;obtain⟨u,Q,r,v⟩:=Gr (CE:=(places.toArray[·]?)) K (λi p d=>by
  cases h:b[i]? with
  |none=>simp[h]at d
  |some f=>
   obtain⟨n,s1,s2⟩:=k i f (by simpa using h);simp[h,s1]at d;subst d;simpa using s2) o.toList l z cs m.cells H J lz q
 refine⟨.agg u,?_,⟨u,rfl,r,v⟩⟩;refine run_build w t _ u ?_;unfold Program.built;simp_all
def amp{b:TypeId}{z:List AV}(F:P.underlying t=some (.array n b))(D:iv P t=some z)(C:cD P b=some sz)
   {e:Env}  (A:cP G nt e a.tmps) {c:Array (Nat×Operand)} {l:List (Nat×Nat×ao)}
  (s:parts (λi=>some (i*sz,sz)) c.toList=some l) {cs:List AV} (y:eH z (l.map λp=>(p.1,p.2.1,p.2.2.get e))=some cs) (w:World):
  ∃v',(Instr.build t (c.map λ (i,x)=>(i,a.eval x))).run P w= .ok v' w/\an G (.agg cs) v':=by
 obtain⟨h,_,o,lz,d,_⟩:=rZ D G w;obtain⟨it,u,m⟩: ∃it,P.info? t=some it/\it.zero=some h:=by
  unfold zeroV at o;cases j:P.info? t with
  |none=>grind
  |some i=>grind
 obtain⟨f,v,q⟩: ∃f,P.info? b=some f/\f.size=sz:=by
  unfold cD at C;simp_all
 obtain⟨g,H,r,k⟩:=Gr (CE:=λi=>some (i*sz,sz)) A (λi p j=>j) c.toList l z cs h.cells s y lz d;refine⟨.agg g,?_,⟨g,rfl,r,k⟩⟩;refine run_build w t _ g ?_;unfold Program.built;simp_all
def Ms{af:List (List AV)}(h:af.all (λel=>el.length==sz)=true): ∀el∈af,el.length=sz:=by grind
def amq(r:aX P B ax G E w){x:AV}{q:Value}{af:List (List AV)}(g:an G x q)(h:elems E sz x=some af):
  (af=[]/\q= .slice none 0 0)\/
  ∃a cap vs,q= .slice (some a) af.length cap/\ (∀el∈af,el.length=sz)/\bF G af vs/\Leaves vs/\ (vs=[]\/ ∃b o,a=⟨b,o,none⟩/\ ∀j u,vs[j]?=some u->w.cell? ⟨b,o+j,none⟩=some u):=by
 unfold elems at h;split at h
 ·simp only[an]at g;grind
 ·rename_i k cK;split at h
  ·rename_i hu;cases h;simp only[an]at g;obtain⟨b,o,cap,s,vs,e,_,_,_,L,m,n⟩:=g;exact .inr ⟨_,cap,vs,e,Ms hu,n,m,.inr ⟨b,o,rfl,λj u d=>r.bG _ _ _ (L j u d)⟩⟩
  grind
 ·rename_i id ak f off len cK;split at h
  ·rename_i v l ty k he;split at h
   ·rename_i z;obtain⟨F,J,M,N⟩:=z;subst F J M;cases h;obtain⟨g1,g2,I,c,pre,vs,post,A,y,H,_,n,m⟩:=r.obj id _ he g.Me;simp only[an]at g;obtain⟨_,_,a,cap,e,p,_,K⟩:=g;obtain⟨_,C,_⟩:=K g1;have i: ((k.drop off).take len).length=len:=by simp;omega
    refine .inr ⟨a,cap,(vs.drop (off*f)).take (len*f),by rw[i];exact e,λel t=>I el (ao1 (ahW t)),n.slice I,(m.drop _).take _,?_⟩;by_cases D:len=0
    ·left;simp[D]
    ·right
     refine⟨_,_,C (by omega),λj u d=>?_⟩;refine Cz A _ u ?_;rw[amU]at d;split at d
     ·rw[aki]at d;rw[y,aeY (by omega),acj (by have:=(ack.1 d).1;omega)];rw[<-d];congr 1;omega
     ·cases d
   ·cases h
  ·cases h
 ·rename_i id l off len;split at h
  ·rename_i cs tg he;split at h
   ·rename_i z;obtain⟨F,J⟩:=z;subst F;cases h;obtain⟨g1,_,c,ty,A,n,m,_⟩:=Ag r he g.alK;simp only[an]at g;obtain⟨_,a,cap,e,p,C⟩:=g;have hle:len*l<=(cs.drop off).length:=by simp;omega
    refine .inr ⟨a,cap,(c.toList.drop off).take (len*l),by rw[Mk];exact e,CB hle,?_,(m.drop _).take _,?_⟩
    ·rw[bF.iff,chunks_flatten hle];exact(n.drop _).take _
    ·by_cases D:len=0
     ·left;simp[D]
     ·right
      refine⟨_,_,C g1 (by omega),λj u d=>?_⟩;refine Cz A _ u ?_;rw[amU]at d;split at d
      ·rwa[aki]at d
      ·cases d
   ·cases h
  ·cases h
 grind
theorem oS{sz:Nat}: ∀ {af:List (List AV)},(∀el∈af,el.length=sz)->af.flatten.length=af.length*sz
 | [],_=>by simp
 |x::xs,h=>by
  have a:=oS (af:=xs) λy b=>h y (by grind)
  grind
def bF.len{af:List (List AV)}(h:bF G af vs)(a: ∀el∈af,el.length=sz):vs.length=af.length*sz:=by
 rw[(bF.iff.1 h).length,oS a]
def Vc(p:aX P B ax G E w){x:AV}{e:Value}{af:List (List AV)}(m:an G x e)(h:elems E sz x=some af):
  ∃vs,bF G af vs/\Leaves vs/\ (∀el∈af,el.length=sz)/\vs.length=af.length*sz/\ (∃a cap,e= .slice a af.length cap/\ (a=none->af=[]))/\
   ∀w',w'.heap=w.heap-> ∀n,n<=af.length->(Builtin.firstCells sz n e).run P w'= .ok (vs.take (n*sz)).toArray w':=by
 rcases amq p m h with⟨rfl,rfl⟩| ⟨a,cap,vs,rfl,hu,g,l,k⟩
 ·refine⟨[],by rfl,λu hu=>by grind,by simp,by simp,⟨none,0,rfl,λ_=>rfl⟩,λw' c n f=>?_⟩;simp[Builtin.firstCells]
 ·refine⟨vs,g,l,hu,g.len hu,⟨some a,cap,rfl,λh=>by cases h⟩,λw' c n f=>?_⟩;have d:=g.len hu;rcases k with rfl| ⟨b,o,rfl,k⟩
  ·simp only[Builtin.firstCells];have:n*sz=0:=by
    have q:af.length*sz=0:=by grind
    have:=ajv sz f;omega
   rw[this];simp[loadCells,loadCellsFrom]
  ·simp only[Builtin.firstCells];have hle:n*sz<=af.length*sz:=ajv _ f;exact run_loadCells (vs.take (n*sz)) (by grind) (λj u i=>by
    rw[amU]at i;split at i
    ·have:=k _ _ i;simp only[World.cell?,c]at this⊢;exact this
    grind)
theorem amr: ∀ {af:List (List AV)} {vs:List Value} {l:lB},bF G af vs->vZ af=some l-> ∃a:List Int,vs=a.map (Value.int .u8)/\l=a.map λn=>UInt8.ofNat n.toNat
 | [],vs,l,h,e=>by
   subst h;simp only[vZ,ac1]at e;simp_all
 |x::xs,vs,l,h,e=>by
  obtain⟨v,r,rfl,d,c⟩:=h;unfold vZ at e;split at e
  ·grind
  ·rename_i n f heq;cases heq;cases b:vZ xs with
   |none=>grind
   |some g=>
    simp[b]at e;subst e;obtain⟨a,rfl,rfl⟩:=amr c b;obtain⟨v',q,rfl,rfl,rfl⟩:=d;exact⟨n::a,rfl,rfl⟩
  grind
theorem foldl_push: ∀ (a:List Int) (s:ByteArray),a.foldl (λr n=>r.push (UInt8.ofNat n.toNat)) s=⟨s.data++(a.map λn=>UInt8.ofNat n.toNat).toArray⟩
 | [],s=>by simp
 |n::a,s=>by
  rw[asp,foldl_push a];simp_all
end
section
variable{P:Program}{X:Ctx}{B:Nat}{ax:World}
variable{G:Gh}{E:AS}{w:World}
def mz(P:Program)(B:Nat)(ax:World)(G:Gh)(E:AS)(v:AV)(E':AS)(r:Result Value):Prop:=
 ∃a w' v',r= .ok v' w'/\G.le a/\aX P B ax a E' w'/\an a v v'/\E.Ext E'
def Aj(P:Program)(B:Nat)(ax:World)(G:Gh)(E:AS)(E':AS)(r:Result Unit):Prop:=
 ∃a w',r= .ok () w'/\G.le a/\aX P B ax a E' w'/\E.Ext E'
theorem uC: ∀ {a b:List AV},aL (a++b)=max (aL a) (aL b)
 | [],b=>by rfl
 |x::a,b=>by simp only[ah6,aL,uC (a:=a)];omega
theorem v8: ∀ {af:List (List AV)},b9 af=aL af.flatten
 | []=>by rfl
 |x::xs=>by simp only[b9,ao3,uC,v8 (af:=xs)]
def Vd{a:List AV}:aL (a.take n)<=aL a:=by grind [uC,List.take_append_drop]
def Ve{a:List AV}:aL (a.drop n)<=aL a:=by
 have h:=uC (a:=a.take n) (b:=a.drop n);rw[aoX]at h;omega
def Vf{cs vs:List AV}{off:Nat}:aL (aN cs off vs)<=max (aL cs) (aL vs):=by
 unfold aN;have c:=Vd (a:=cs) (n:=off);have b:=Ve (a:=cs) (n:=off+vs.length);rw[uC,uC];omega
def Vg{v:AV}:aL v.cells=v.refs:=by
 cases v<;>simp[AV.cells,aL,AV.refs]
def Mt{cs vs:List AV}{off:Nat}(h:off+vs.length<=cs.length): (aN cs off vs).length=cs.length:=by
 unfold aN;grind
def Vh(a:aX P B ax G E w){cs:List AV}(ty:TypeId)(e:aG G cs c.toList)(d:Leaves c.toList)(tg:Option TypeId)(b: ∀t,tg=some t->ty=t):
  mz P B ax G E (.ptr E.heap.length 0) (E.push (.box cs tg)) (.ok (.pointer (some ⟨w.heap.size,0,none⟩)) (w.alloc (.cells c ty))):=by
 have hle:=G.Af w.heap.size 0 0;refine⟨G.push w.heap.size 0 0,_,_,rfl,hle,a.push _ _ 0 0 ?_,?_,.push E _⟩
 ·refine⟨by simp[Gh.push],c,ty,?_,e.mono hle,d,b⟩;have: (G.push w.heap.size 0 0).bb G.n=w.heap.size:=by simp[Gh.push]
  rw[this];exact apk _ _
 ·refine⟨Gh.Cy a,_,rfl,λ_=>?_⟩;simp[Gh.push,a.len]
def Mv{z:List AV}{t':TypeId}(h:rW z t=some t'):t=t':=by
 unfold rW at h
 grind
def ams{z:Option (List AV)}{t':TypeId}(h: (z.bind λz=>rW z t)=some t'):t=t':=by
 cases z with
 |none=>cases h
 |some z=>exact Mv h
def amt(d:aX P B ax G E w){z:List AV}(c:iv P t=some z):
  mz P B ax G E (.ptr E.heap.length 0) (E.push (.box z (rW z t))) ((Instr.alloc t true (.tuple #[])).run P w):=by
 obtain⟨a,e,_,l,b,_⟩:=rZ c G w;have: (Instr.alloc t true (.tuple #[])).run P w= .ok (.pointer (some ⟨w.heap.size,0,none⟩)) (w.alloc (.cells a.cells t)):=by
  simp[Instr.alloc,e,newVar,newRow]
 rw[this];exact Vh d t l b _ (λt' h=>Mv h)
def amu(e:aX P B ax G E w){x:AV}{b:Value}{tg:Option TypeId}(a: ∀t',tg=some t'->t=t')(d:an G x b)(f:x.cx=false):
  mz P B ax G E (.ptr E.heap.length 0) (E.push (.box x.cells tg)) ((Instr.box t b).run P w):=by
 obtain⟨l,c⟩:=d.cells f;exact Vh e t l c tg a
def Gs(g:aX P B ax G E w){af:List (List AV)}{post:List Value}{cap:Nat}(ty:TypeId)(l:c.toList=vs++post)(j: ∀el∈af,el.length=sz)(k:bF G af vs)(i:Leaves vs)
  (e:c.size=cap*sz) (h:af.length<=cap) (len:Nat) (a:len=af.length)  (f:w'.heap=w.heap) (d:aX P B ax G E w'):
  mz P B ax G E (.ref E.heap.length 0 sz 0 len false) (E.push (.row 0 sz ty af)) (.ok (.slice (some ⟨w.heap.size,0,none⟩) len cap) (w'.alloc (.cells c ty))):=by
 subst a;rw[<-f];have b:=G.Af w'.heap.size (cap*sz) sz;refine⟨G.push w'.heap.size (cap*sz) sz,_,_,rfl,b,d.push _ _ _ _ ?_,?_,.push E _⟩
 ·have e1: (G.push w'.heap.size (cap*sz) sz).bb G.n=w'.heap.size:=by simp[Gh.push]
  refine⟨by simp[Gh.push],by simp[Gh.push],j,c,[],vs,post,?_,by grind,by simp[Gh.push],?_,k.mono b,i⟩
  ·rw[e1];exact apk _ _
  ·simp[Gh.push,e]
 ·refine⟨Gh.Cy d,by simp,_,cap,rfl,⟨h,rfl⟩,by simp,λ_=>⟨by simp[Gh.push,g.len],λ_=>by simp[Gh.push,g.len],by simp[Gh.push,g.len]⟩⟩
def amv(a:aX P B ax G E w)(t:TypeId):mz P B ax G E (.mp E.heap.length) (E.push (.map [])) ((Instr.makeMap t none).run P w):=by
 have hle:=G.Af w.heap.size 0 0;refine⟨G.push w.heap.size 0 0,_,_,rfl,hle,a.push _ _ 0 0 ?_,?_,.push E _⟩
 ·refine⟨by simp[Gh.push],#[],0,?_,by rfl⟩;have: (G.push w.heap.size 0 0).bb G.n=w.heap.size:=by simp[Gh.push]
  rw[this];exact apk _ _
 ·exact⟨Gh.Cy a,_,rfl,λ_=>by simp[Gh.push,a.len]⟩
def aX.put(b:aX P B ax G E w){id:Nat}(a:G.on id){o':ae}(refs:Nat)(ho:jc P G id (eW w (G.bb id) O) o'):aX P B ax G (E.set id o' refs) (eW w (G.bb id) O):=
 b.set a o' refs G.le_refl rfl rfl (λ_ _ _=>rfl) (.inl rfl) (by rw[alP];exact(b.low id a).2) (λk c _=>UR c) (by simp) rfl rfl rfl ho
def Mw(f:aX P B ax G E w){id:Nat}{cs as:List AV}{tg:Option TypeId}(k:E.heap[id]?=some (.box cs tg))(l:G.pz id=none){a:List Value}{off:Nat}(j:aG G as a)(i:Leaves a)(h:off+as.length<=cs.length){refs:Nat}(s:aL as<=refs):
  Aj P B ax G E (E.set id (.box (aN cs off as) tg) refs) ((storeCells ⟨G.bb id,off,none⟩ a).run P w):=by
 obtain⟨r,d,c,ty,q,b,e,g⟩:=Ag f k l;have p:=b.length;rw[amD]at p;have hu:=j.length;refine⟨G,_,?_,G.le_refl,f.put d refs (O:=.cells (kZ c off a) ty (0,0)) ?_,.set k λn o m=>?_⟩
 ·have:=Mf (P:=P) a c w off 0 q (by omega) i;omega
 ·exact⟨r,_,ty,uz (f.low id d).2,b.aN j h,e.aN i (by omega),g⟩
 ·simp only[ae.le]at o⊢;have:=Vf (cs:=cs) (vs:=as) (off:=off);omega
def Vi(f:aX P B ax G E w){id:Nat}{ty:TypeId}{af a:List (List AV)}{as:List AV}(s:E.heap[id]?=some (.row ak sz ty af))(m:G.pz id=none){b:List Value}{p:Nat}(q:aG G as b)(l:Leaves b)(h:p+as.length<=af.flatten.length)
  (v: ∀el∈a,el.length=sz) (r:a.flatten=aN af.flatten p as) {refs:Nat} (H:aL as<=refs):
  Aj P B ax G E (E.set id (.row ak sz ty a) refs) ((storeCells ⟨G.bb id,G.base id+p,none⟩ b).run P w):=by
 obtain⟨D,i,u,c,pre,vs,post,C,A,o,F,j,d⟩:=f.obj id _ s m;have e:G.on id:=⟨by rw[f.len];grind,m⟩;have k:=bF.iff.1 j;have t:=k.length;have g:=q.length;have z:c.size=pre.length+(vs.length+post.length):=by grind [Array.length_toList]
 refine⟨G,_,?_,G.le_refl,f.put e refs (O:=.cells (kZ c (G.base id+p) b) ty (0,0)) ?_,.set s λn y x=>?_⟩
 ·have:=Mf (P:=P) b c w (G.base id+p) 0 C (by omega) l;omega
 ·refine⟨D,i,v,_,pre,vs.take p++(b++vs.drop (p+b.length)),post,uz (f.low id e).2,?_,o,by simp_all,?_,(d.take p).append (l.append (d.drop _))⟩
  ·rw[Gj _ _ _ (by omega),A,<-o];rw[aAe,adz (by omega:pre.length<=pre.length+p),akb,av6 (by omega)];rw[amW,awx,ahz (by omega:pre.length<=pre.length+(p+b.length)),akb,agt,aBD (by omega)];simp
  ·rw[bF.iff,r];unfold aN;rw[<-g];exact(k.take p).append (q.append (k.drop _))
 ·simp only[ae.le,v8]at y⊢;rw[r];have:=Vf (cs:=af.flatten) (vs:=as) (off:=p);omega
def amw{af:List (List AV)}{el b:List AV}(g: ∀x∈af,x.length=sz)(e:af[i]?=some el)(off:Nat)(vs:List AV)(h:off+vs.length<=el.length)(f:b=aN el off vs):
  (af.set i b).flatten=aN af.flatten (i*sz+off) vs:=by
 subst f;have c:i<af.length:=(ack.1 e).1;have d:af.flatten=(af.take i).flatten++(el++(af.drop (i+1)).flatten):=by grind [List.take_append_drop,List.flatten_append,List.drop_eq_getElem_cons]
 have a: (af.take i).flatten.length=i*sz:=by grind [oS,List.mem_of_mem_take,List.length_take,Nat.min_eq_left,Nat.le_of_lt]
 rw[List.set_eq_take_append_cons_drop,ac6 c,anw,ao3];rw[d];unfold aN;rw[aAe,adz (by omega: (af.take i).flatten.length<=i*sz+off),a,akb,av6 (by omega)];rw[amW,awx,ahz (by omega: (af.take i).flatten.length<=i*sz+(off+vs.length)),a,akb,agt,aBD (by omega)];simp
def amx(j:aX P B ax G E w)(I:cD P t=some n){x v:AV}{f:Value}{E':AS}(g:an G x f)(C:an G v v')(h:kp E n x v=some E'):
  Aj P B ax G E E' ((Instr.storeAt t f v').run P w):=by
 have key: ∀ (b:Addr),f= .pointer (some b)->v.cx=false->v.cells.length=n->(Instr.storeAt t f v').run P w=(storeCells b v'.cells.toList).run P w/\aG G v.cells v'.cells.toList/\Leaves v'.cells.toList:=by
  rintro b rfl D L;obtain⟨l,K⟩:=C.cells D;have M:=l.length;simp only[Instr.storeAt,Sem.run_bind,Instr.sureAddr,Sem.run_pure,Result.andThen_ok,storeVar,nW I]
  grind
 unfold kp at h;split at h
 ·rename_i id off;split at h
  ·rename_i cs he;split at h
   ·rename_i p;obtain⟨u,s,J⟩:=p;cases h;simp only[an]at g;obtain⟨a,b,e,q⟩:=g;obtain⟨o,m,k⟩:=key b e u s;rw[o,q (Ag j he a.2).1];exact Mw j he a.2 m k (by omega) (by rw[Vg];exact adA _)
   grind
  grind
 ·rename_i id ak i off;split at h
  ·rename_i A sz ty af he;split at h
   ·rename_i el d;split at h
    ·rename_i p;obtain⟨c0,z,u,s,J⟩:=p;subst c0;cases h;simp only[an]at g;obtain⟨a,_,b,e,q⟩:=g;obtain⟨o,m,k⟩:=key b e u s;obtain⟨g1,g2,r,_⟩:=j.obj id _ he a.2;rw[o,q g1,g2,amW];have H:i<af.length:=(ack.1 d).1;have F:=amw r d off v.cells (by omega) rfl;have hle:i*sz+sz<=af.flatten.length:=by
      rw[oS r,<-apB];exact ajv _ H
     exact Vi j he a.2 m k (by omega) (λy c=>by
      rcases List.mem_or_eq_of_mem_set c with c|c
      ·exact r y c
      ·rw[c,Mt (by omega)];exact z) F (by rw[Vg];exact adA _)
    ·cases h
   ·cases h
  ·cases h
 grind
end
section
variable{P:Program}{X:Ctx}{B:Nat}{ax:World}
variable{G:Gh}{E:AS}{w:World}
theorem Gt(zc:Array Value)(b:0<zc.size): ∀ (k:Nat),(List.range (k*zc.size)).map (λi=>zc[i % zc.size]!)=(List.replicate k zc.toList).flatten
 |0=>by simp
 |k+1=>by
  have e: (k+1)*zc.size=zc.size+k*zc.size:=by grind
  rw[e,List.range_add,aeP,aAS,ast,ao3,<-Gt zc b k]
  congr 1
  ·apply an2;intro j;by_cases a:j<zc.size
   ·simp[a,amX a]
   grind
  simp_all
theorem CF{z:List AV}{vs:List Value}(a:aG G z vs): ∀ (k:Nat),bF G (List.replicate k z) (List.replicate k vs).flatten
 |0=>by rfl
 |k+1=>by
  exact⟨_,_,rfl,a,CF a k⟩
theorem Gu(h:Leaves vs)(k:Nat):Leaves (List.replicate k vs).flatten:=by
 intro v a;simp only[List.mem_flatten,List.mem_replicate]at a;obtain⟨l,⟨_,rfl⟩,a⟩:=a;exact h v a
def Vj(h:xN P t=some n): ∃i,P.info? t=some i/\i.bytes=n:=by
 unfold xN at h;simp_all
def Vk(h:cD P t=some n): ∃i,P.info? t=some i/\i.size=n:=by
 unfold cD at h;simp_all
def Mx{i:TypeInfo}{z:Value}(a:P.info? t=some i)(h:zeroV P t=some z):i.zero=some z:=by
 unfold zeroV at h;grind
def amy(m:aX P B ax G E w){z:List AV}{bytes:Nat}(D:P.underlying t=some (.slice e))(C:iv P e=some z)(A:xN P e=some bytes)(u:0<z.length)
  {l c:AV} {k q:Value} {v:AV} {E':AS} (n:an G l k) (p:an G c q) (h:rU E e z bytes l c=some (v,E')):mz P B ax G E v E' ((Instr.makeSlice t k q).run P w):=by
 unfold rU at h;split at h
 ·rename_i r l s c;split at h
  ·rename_i y;obtain⟨J,I,H,F⟩:=y;cases h;simp only[an]at n p;subst n p;obtain⟨i,o,rfl⟩:=Vj A;obtain⟨b,_,f,lz,d,j⟩:=rZ C G w;have a:i.size=z.length:=by unfold cD at j;grind
   have g:b.cells.size=z.length:=by exact lz.length
   rw[run_make w t e i b D o (Mx o f) r s l c J I (by rw[Int.mul_comm];simp only[room]at H;omega) (by simp only[room]at F;omega)];have hm: (madeCells b.cells (c.toNat*i.size)).toList=(List.replicate l.toNat b.cells.toList).flatten++(List.replicate (c.toNat-l.toNat) b.cells.toList).flatten:=by
    unfold madeCells;rw[a,<-g,Array.toList_map,Array.toList_range,Gt _ (by omega)];rw[<-anw,aBm]
    grind
   refine Gs m e hm (λel x=>by grind) (CF lz _) (Gu d _) (cap:=c.toNat) ?_ (by rw[List.length_replicate];omega) l.toNat (by simp) rfl m;simp[madeCells,a]
  grind
 grind
def amz(k:aX P B ax G E w){s d:TypeId}(p:P.underlying s=some .string)(o:P.underlying d=some (.slice e))(n:P.underlying e=some (.int .u8))(b:ByteArray):
  mz P B ax G E (.sl (rR b) false) E ((convert s d (.string b)).run P w):=by
 rw[run_bytes_of_string w s d e b p o n];have a:b.data.toList.length=b.size:=by simp
 obtain⟨hle,c⟩:=k.drew.UQ (bytesRow b (grownCap w b.size 0 e)) e ((bytesRow b (grownCap w b.size 0 e)).size,(bytesRow b (grownCap w b.size 0 e)).size+1) (b.data.toList.map λx=>Value.int .u8 x.toNat) (λj v h=>by
  unfold bytesRow
  grind)
 refine⟨_,_,_,rfl,hle,c,?_,.refl E⟩;have m: ∀ (G:Gh) (l:lB),bF G (l.map λx=>[AV.int .u8 x.toNat]) (l.map λx=>Value.int .u8 x.toNat):=by
  intro G l
  induction l with
  |nil=>rfl
  |cons x xs i=>exact⟨[_],_,rfl,by simp[aG,an],i⟩
 refine⟨w.heap.size,0,grownCap w b.size 0 e,1,_,?_,?_,by simp,?_,?_,?_,m _ _⟩
 ·simp[rR,a]
 ·simp only[rR,aeK,a];exact aA9 w b.size 0 e
 ·intro el f;simp only[rR,aeO]at f
  grind
 ·intro j v h;simp only[Gh.freeze,aka];rw[ac6 (show w.heap.size=w.drew.heap.size from rfl)];exact h
 ·intro v g;simp only[aeO]at g;obtain⟨x,_,rfl⟩:=g;rfl
def Vl{z:List AV}{len:Nat}(q:P.underlying t=some (.slice e))(J:iv P e=some z)(A:0<z.length)(C:len*z.length<=65536)
   {f:Env}  (I:cP G nt f a.tmps) {j:Array (Nat×Operand)} {l:List (Nat×Nat×ao)}
  (F:parts (λi=>some (i*z.length,z.length)) j.toList=some l) {cs:List AV} (H:eH (List.replicate len z).flatten (l.map λp=>(p.1,p.2.1,p.2.2.get f))=some cs) (w:World):
  ∃c:Array Value,(Instr.buildSlice t len (j.map λ (i,x)=>(i,a.eval x))).run P w= .ok (.slice (some ⟨w.heap.size,0,none⟩) len len) (w.alloc (.cells c e))/\aG G cs c.toList/\Leaves c.toList:=by
 obtain⟨b,D,k,lz,u,m⟩:=rZ J G w;obtain⟨i,o,d⟩:=Vk m;have y:b.cells.size=z.length:=by exact lz.length
 have hm: ((Array.range (len*i.size)).map (b.cells[· % b.cells.size]!)).toList=(List.replicate len b.cells.toList).flatten:=by grind [Array.toList_map,Array.toList_range,Gt]
 obtain⟨c,K,r,v⟩:=Gr (CE:=λi=>some (i*z.length,z.length)) I (λi p h=>h) j.toList l _ cs ((Array.range (len*i.size)).map (b.cells[· % b.cells.size]!)) F H
  (by rw[hm];exact bF.iff.1 (CF lz len)) (by grind [Gu])
 refine⟨c,?_,r,v⟩;have g:Instr.fill (λx=>some (x*i.size,i.size)) ((Array.range (len*i.size)).map (b.cells[· % b.cells.size]!)) (j.map λ (i,x)=>(i,a.eval x)).toList=some c:=by simp_all
 by_cases s:len*i.size=0
 ·have n:len=0:=by
    rcases Nat.mul_eq_zero.1 s with h|h
    ·exact h
    ·omega
  subst n;simp[Instr.buildSlice,ada q,sizeOf,typeInfo,o,newRow,Array.range_zero'];simp[Array.range_zero']at g;simp_all
 ·exact run_buildSlice w t e len _ c i b q o (Mx o k) (by rw[d];omega) s g
def amA(n:aX P B ax G E w){z:List AV}{len:Nat}(A:P.underlying t=some (.slice e))(y:iv P e=some z)(d:0<z.length)(g:len*z.length<=65536)
   {b:Env}  (s:cP G nt b a.tmps) {h:Array (Nat×Operand)} {l:List (Nat×Nat×ao)}
  (o:parts (λi=>some (i*z.length,z.length)) h.toList=some l) {cs:List AV} (q:eH (List.replicate len z).flatten (l.map λp=>(p.1,p.2.1,p.2.2.get b))=some cs) (u:cs.length=len*z.length):
  mz P B ax G E (.sl (chunks z.length len cs) true) E ((Instr.buildSlice t len (h.map λ (i,x)=>(i,a.eval x))).run P w):=by
 obtain⟨c,C,r,m⟩:=Vl A y d g s o q w;rw[C];obtain⟨hle,f⟩:=n.UQ c e (0,0) c.toList (λj v k=>by grind);refine⟨_,_,_,rfl,hle,f,?_,.refl E⟩;refine⟨w.heap.size,0,len,z.length,c.toList,by simp,by simp,λ_=>by simp,CB (by omega),?_,m,?_⟩
 ·intro j v k;simp only[Gh.freeze,aka,ae4];exact k
 ·rw[bF.iff,chunks_flatten (by omega),adz (by omega)];exact r.mono hle
def amB(h:aX P B ax G E w){z:List AV}{len:Nat}(u:P.underlying t=some (.slice e))(s:iv P e=some z)(d:0<z.length)(f:len*z.length<=65536)
   {b:Env}  (o:cP G nt b a.tmps) {g:Array (Nat×Operand)} {l:List (Nat×Nat×ao)}
  (m:parts (λi=>some (i*z.length,z.length)) g.toList=some l) {cs:List AV} (n:eH (List.replicate len z).flatten (l.map λp=>(p.1,p.2.1,p.2.2.get b))=some cs) (q:cs.length=len*z.length):
  mz P B ax G E (.ref E.heap.length 0 z.length 0 len false) (E.push (.row 0 z.length e (chunks z.length len cs))) ((Instr.buildSlice t len (g.map λ (i,x)=>(i,a.eval x))).run P w):=by
 obtain⟨c,v,r,j⟩:=Vl u s d f o m n w;rw[v];have k:=r.length;refine Gs h e (vs:=c.toList) (post:=[]) (by simp) (CB (by omega)) ?_ j (cap:=len) (by grind) (by simp) len (by simp) rfl h;rw[bF.iff,chunks_flatten (by omega),adz (by omega)];exact r
theorem My: ∀ {ps:List (Nat×Nat×AV)} {cs a:List AV},eH cs ps=some a->a.length=cs.length
 | [],cs,a,h=>by simp only[eH,ac1]at h;grind
 | (off,n,v)::ps,cs,a,h=>by
   simp only[eH]at h;split at h
   ·rw[My h,Mt (by omega)]
   grind
end
section
variable{P:Program}{X:Ctx}{B:Nat}{ax:World}
variable{G:Gh}{E:AS}{w:World}
def Gh.eK(G:Gh)(id b base ez:Nat):Gh:=
 {G with bb:=λi=>if i=id then b else G.bb i,base:=λi=>if i=id then base else G.base i,ak:=λi=>if i=id then G.ak i+1 else G.ak i,ez:=λi=>if i=id then ez else G.ez i}
def Gh.Vm(G:Gh)(id b base ez:Nat):G.le (G.eK id b base ez):=by
 refine .mk' (λ_ _ _ h=>h) (adA _) (λ_ _=>rfl) (λi _=>?_) (λi _ h=>?_)
 ·simp only[Gh.eK];grind
 ·simp only[Gh.eK]at h;split at h
  ·omega
  ·rename_i a;simp[Gh.eK,a]
structure Mz(P:Program)(w:World)(sz:Nat)(xt:TypeId)(x':Value)(n:Nat)(new:List Value):Prop where
 len: (Builtin.lenOf x').run P w= .ok n w
 cells: ∀w',w'.heap=w.heap->(Builtin.firstCells sz n x').run P w'= .ok new.toArray w'
 type: (∃e,P.underlying xt=some (.slice e))\/P.underlying xt=some .string
def CG{j ty:TypeId}{i:TypeInfo}(d:P.underlying t=some (.slice e))(f:P.info? e=some i){k:Value}{c:List Value}(b:Mz P w i.size j k n c)
  {base:Option Addr} {jO mA:Nat} (h:jO+n<=mA)  (l: ∀a,base=some a->(storeCells (a.add (jO*i.size)) c).run P w= .ok () w') (m:base=none->w'=w):
  (Builtin.append_ #[t,j] ty #[.slice base jO mA,k]).run P w= .ok (.slice base (jO+n) mA) w':=by
 have g:=b.cells w rfl;cases base with
 |none=>
  have:=m rfl;subst this;rcases b.type with⟨o,hu⟩|hu
  ·simp[Builtin.append_,ada d,ada hu,sizeOf,typeInfo,f,b.len,g,h]
  ·simp[Builtin.append_,ada d,ada hu,sizeOf,typeInfo,f,b.len,g,h]
 |some a=>
  have:=l a rfl;rcases b.type with⟨o,hu⟩|hu
  ·simp[Builtin.append_,ada d,ada hu,sizeOf,typeInfo,f,b.len,g,h,this]
  ·simp[Builtin.append_,ada d,ada hu,sizeOf,typeInfo,f,b.len,g,h,this]
def Gv{j ty:TypeId}{i:TypeInfo}{z:Value}(m:P.underlying t=some (.slice e))(p:P.info? e=some i)(l:i.zero=some z){k:Value}{c:List Value}(g:Mz P w i.size j k n c)
  {base:Option Addr} {jO mA:Nat} (h:mA<jO+n) {dW:List Value} (hold: ∀w',w'.heap=w.heap->(Builtin.firstCells i.size jO (.slice base jO mA)).run P w'= .ok dW.toArray w') (s:0<i.bytes) (b: (jO+n)*i.bytes<=room):
  (Builtin.append_ #[t,j] ty #[.slice base jO mA,k]).run P w= .ok (.slice (some ⟨w.heap.size,0,none⟩) (jO+n) (grownCap w (jO+n) mA e))
    (w.drew.alloc (.cells (dW.toArray++c.toArray++Builtin.zeroCells z.cells (grownCap w (jO+n) mA e- (jO+n))) e)):=by
 have o: ¬(jO+n<=mA):=by omega
 have q:=growslice_fits (bytes:=i.bytes) h (by simp only[room]at b;omega);have a: ¬(281474976710656<Builtin.nextslicecap (jO+n) mA*i.bytes):=by omega
 have f:i.bytes≠0:=by omega
 have r:=g.cells w.drew rfl;have d:=hold w.drew rfl;rcases g.type with⟨u,hu⟩|hu
 ·simp[Builtin.append_,ada m,ada hu,sizeOf,typeInfo,zeroValue,p,l,g.len,o,a,f,Question.forced,r,d,newRow,grownCap]
  congr 2;apply apy;simp[ac8]
 ·simp[Builtin.append_,ada m,ada hu,sizeOf,typeInfo,zeroValue,p,l,g.len,o,a,f,Question.forced,r,d,newRow,grownCap]
  congr 2;apply apy;simp[ac8]
def MA(c:aX P B ax G E w){af:List (List AV)}{z:Value}{zc:Nat}(e:TypeId)(b:z.cells.size=sz)(d: ∀el∈af,el.length=sz)(g:bF G af vs)(h:Leaves vs)(a dW:Nat)(f:a=af.length):
  mz P B ax G E (.ref E.heap.length 0 sz 0 a false) (E.push (.row 0 sz e af)) (.ok (.slice (some ⟨w.heap.size,0,none⟩) a (grownCap w a dW e))
   (w.drew.alloc (.cells (vs.toArray++Builtin.zeroCells z.cells (grownCap w a dW e-a)) e))):=by
 have i:=aA9 w a dW e;refine Gs c e (post:=(Builtin.zeroCells z.cells (grownCap w a dW e-a)).toList) (by simp) d g h (cap:=grownCap w a dW e) ?_ (by omega) a f rfl c.drew;have:=g.len d;simp only[aBv,aBl,aBp,b,this,<-f];rw[<-apc];grind
def Vn{a b:List (List AV)}{u v:List Value}(h:bF G a u)(k:bF G b v):bF G (a++b) (u++v):=by
 rw[bF.iff,anw];exact(bF.iff.1 h).append (bF.iff.1 k)
def AS.Ext.eK{E:AS}{id:Nat}{ty c:TypeId}{af a:List (List AV)}{refs:Nat}(f:E.heap[id]?=some (.row ak sz ty af))(h:b9 a<=max (b9 af) refs):E.Ext (E.set id (.row b d c a) refs):=
 .set f λn e g=>by simp only[ae.le]at e⊢;omega
def amC(l:aX P B ax G E w){xt ty:TypeId}{bytes:Nat}(C:P.underlying t=some (.slice e))(h2:cD P e=some sz)(h3:xN P e=some bytes)(hz: (iv P e).isSome=true)(hb:0<bytes)
  {s v:AV} {s' x':Value} {ys:List (List AV)} {d:List Value} {E':AS} (x:an G s s') (Q:bF G ys d) (lf:Leaves d) (p:Mz P w sz xt x' ys.length d)
  (h:dO E e sz bytes s ys=some (v,E')):mz P B ax G E v E' ((Builtin.append_ #[t,xt] ty #[s',x']).run P w):=by
 obtain⟨i,z,rfl⟩:=Vj h3;have r0:i.size=sz:=by unfold cD at h2;simpa[z]using h2
 subst r0;obtain⟨zz,hzz⟩:=atY.1 hz;obtain⟨z',_,hzv,lz,_,V⟩:=rZ hzz G w;have H:=Mx z hzv;have F:z'.cells.size=i.size:=by
  have:cD P e=some i.size:=h2;rw[this]at V;rw[<-amD,lz.length];exact(ah8 V).symm
 unfold dO at h;split at h
 ·rename_i hc;obtain⟨Vo,uD⟩:=hc;have hu:=Ms uD;split at h
  ·simp only[an]at x;subst x;split at h
   ·rename_i g;cases h;have U:d=[]:=by
     have:=Q.len hu;rw[g]at this;exact ajx.1 (by simpa using this)
    rw[g]at p;have:=CG (ty:=ty) C z p (base:=none) (jO:=0) (mA:=0) (by simp) (w':=w) (by simp) (λ_=>rfl);rw[this];exact⟨G,w,_,rfl,G.le_refl,l,by simp[an],.refl E⟩
   ·rename_i g;split at h
    ·rename_i Z;cases h;rw[Gv C z H p (by omega) (dW:=[]) (λw' _=>by simp[Builtin.firstCells]) hb (by simpa using Z)];have:=MA (zc:=0) l e F hu Q lf ys.length 0 rfl;simpa using this
    ·cases h
  ·rename_i af;have r:=x;simp only[an]at x;obtain⟨b,o,cap,sz,vs,rfl,d1,d2,d3,hf,D,m⟩:=x;have K:=d2 trivial;subst K;split at h
   ·rename_i g;cases h;have U:d=[]:=by
     have:=Q.len hu;rw[g]at this;exact ajx.1 (by simpa using this)
    rw[g]at p;have:=CG (ty:=ty) C z p (base:=some ⟨b,o,none⟩) (jO:=af.length) (mA:=af.length) (by omega) (w':=w) (λa _=>by rw[U];simp[storeCells]) (by simp);rw[this];exact⟨G,w,_,rfl,G.le_refl,l,r,.refl E⟩
   ·rename_i g;split at h
    ·rename_i Z;obtain⟨Z,T⟩:=Z;have Y:=Ms T;cases h;have W:=m.len Y;rw[Gv C z H p (by omega) (dW:=vs) (λw' hh=>by
      simp only[Builtin.firstCells];exact run_loadCells vs W (λj u q=>by
       have:=l.bG _ _ _ (hf j u q);simp only[World.cell?,hh]at this⊢;exact this)) hb Z]
     have:=MA (zc:=0) (af:=af++ys) l e F (λel R=>(adB.1 R).elim (Y el) (hu el)) (Vn m Q) (D.append lf) (af.length+ys.length) af.length (by simp);simpa using this
    ·cases h
  ·rename_i af;have r:=x;simp only[an]at x;obtain⟨b,o,cap,sz,vs,rfl,d1,d2,d3,hf,D,m⟩:=x;split at h
   ·rename_i g;cases h;have U:d=[]:=by
     have:=Q.len hu;rw[g]at this;exact ajx.1 (by simpa using this)
    rw[g]at p;have:=CG (ty:=ty) C z p (base:=some ⟨b,o,none⟩) (jO:=af.length) (mA:=cap) (by omega) (w':=w) (λa _=>by rw[U];simp[storeCells]) (by simp);rw[this];exact⟨G,w,_,rfl,G.le_refl,l,r,.refl E⟩
   ·cases h
  ·rename_i id ak aAz off len cK;have r:=x;simp only[an]at x;obtain⟨f,aAA,ad,cap,rfl,d1,d2,d3⟩:=x;split at h
   ·rename_i Gw sz' ty' af he;split at h
    ·rename_i hc;obtain⟨c1,c2,c3,c4,c5,c6⟩:=hc;subst c1 c2 c3;have c4:=c4.symm;subst c4;obtain⟨g1,g2,g3,c,pre,vs,post,Vp,oT,J,N,m,D⟩:=l.obj id _ he f.2;obtain⟨f1,f2,f3⟩:=d3 g1;have W:=m.len g3;have hmul:off*i.size+len*i.size<=af.length*i.size:=by rw[<-apc];exact ajv _ c5
     have I:=Q.len hu;have hold: ∀w',w'.heap=w.heap->(Builtin.firstCells i.size len (.slice (some ad) len cap)).run P w'= .ok ((vs.drop (off*i.size)).take (len*i.size)).toArray w':=by
      intro w' hh;simp only[Builtin.firstCells];by_cases h0:len=0
      ·subst h0;simp[loadCells,loadCellsFrom]
      ·rw[f2 (by omega)];refine run_loadCells _ (by simp;omega) (λj u q=>?_);have S:w'.cell? ⟨G.bb id,G.base id+off*i.size+j,none⟩=c[G.base id+off*i.size+j]?:=cell_of_row w' _ _ c e (0,0) (by rw[hh];exact Vp);rw[S];rw[amU]at q;split at q
       ·rw[aki]at q;have xW:=(ack.1 q).1;have:c.toList[G.base id+off*i.size+j]?=some u:=by
         rw[oT,aeY (by omega),acj (by omega),<-q]
         congr 1;omega
        simpa using this
       ·cases q
     have M: ∀el∈(af.drop off).take len++ys,el.length=i.size:=λel R=>(adB.1 R).elim (λh=>g3 el (ao1 (ahW h))) (hu el)
     have y:bF G ((af.drop off).take len++ys) ((vs.drop (off*i.size)).take (len*i.size)++d):=Vn (m.slice g3) Q;have L:Leaves ((vs.drop (off*i.size)).take (len*i.size)++d):=((D.drop _).take _).append lf;have O: ((af.drop off).take len++ys).length=len+ys.length:=by simp;omega
     split at h
     ·rename_i g;cases h;have U:d=[]:=by
       rw[g]at I;exact ajx.1 (by simpa using I)
      rw[g]at p;have:=CG (ty:=ty) C z p (base:=some ad) (jO:=len) (mA:=cap) (by omega) (w':=w) (λa _=>by rw[U];simp[storeCells]) (by simp);rw[this];exact⟨G,w,_,rfl,G.le_refl,l,r,.refl E⟩
     ·rename_i g;split at h
      ·rename_i hcp;cases h;have K:=d2 hcp;rw[Gv C z H p (by omega) hold hb c6];have:=MA (zc:=0) l e F M y L (len+ys.length) cap O.symm;simpa using this
      ·cases h;have hrefs:b9 ((af.drop off).take len++ys)<=max (b9 af) (b9 ys):=by
        rw[v8,v8 (af:=af),v8 (af:=ys),anw,uC,UZ g3];have C:=Vd (a:=af.flatten.drop (off*i.size)) (n:=len*i.size);have h2:=Ve (a:=af.flatten) (n:=off*i.size);omega
       by_cases A:len+ys.length<=cap
       ·have Vq:=f2 (by omega);have Vr:len*i.size+d.length<=cap*i.size:=by rw[I,<-apc];exact ajv _ A
        have uE:=Mf (P:=P) d c w (G.base id+off*i.size+len*i.size) 0 Vp (by omega) lf;rw[CG (ty:=ty) C z p (base:=some ad) A (w':=eW w (G.bb id) (.cells (kZ c (G.base id+off*i.size+len*i.size) d) e (0,0))) (λa hae=>by
         cases hae;rw[Vq,jN];simpa using uE) (by simp)]
        have hle:=G.Vm id (G.bb id) (G.base id+off*i.size) (G.ez id-off*i.size);refine⟨G.eK id (G.bb id) (G.base id+off*i.size) (G.ez id-off*i.size),_,_,rfl,hle,?_,?_,.eK he hrefs⟩
        ·refine l.set f _ _ hle rfl rfl (λj _ q=>by simp[Gh.eK,q]) (.inl (by simp[Gh.eK])) (by simp[Gh.eK];exact(l.low id f).2) (λk hk _=>UR hk) (by simp) rfl rfl rfl ?_;refine⟨by simp[Gh.eK,g1],by simp[Gh.eK,g2],M,kZ c (G.base id+off*i.size+len*i.size) d,pre++vs.take (off*i.size),(vs.drop (off*i.size)).take (len*i.size)++d,
          (vs++post).drop (off*i.size+(len*i.size+d.length)),?_,?_,?_,?_,y.mono hle,L⟩
         ·have: (G.eK id (G.bb id) (G.base id+off*i.size) (G.ez id-off*i.size)).bb id=G.bb id:=by simp[Gh.eK]
          rw[this];exact uz (l.low id f).2
         ·rw[Gj _ _ _ (by omega),oT,<-J,amW];rw[aAe,adz (by omega:pre.length<=pre.length+(off*i.size+len*i.size)),akb,av6 (by omega)];rw[amW pre.length,awx,ahz (by omega:pre.length<=pre.length+(off*i.size+len*i.size+d.length)),akb,agt];rw[List.take_add];simp[amW]
         ·simp[Gh.eK,J];omega
         ·simp[Gh.eK,N];omega
        ·refine⟨f,by simp[Gh.eK,g1],ad,cap,rfl,⟨A,d1.2⟩,by simp,λ_=>⟨by simp[Gh.eK,g2],λ_=>by simp[Gh.eK,Vq],by simp[Gh.eK];omega⟩⟩
       ·rw[Gv C z H p (by omega) hold hb c6];have hg:=aA9 w (len+ys.length) cap e;have hle:=G.Vm id w.heap.size 0 (grownCap w (len+ys.length) cap e*i.size);have aAC:=(l.low id f).2;refine⟨G.eK id w.heap.size 0 (grownCap w (len+ys.length) cap e*i.size),_,_,rfl,hle,?_,?_,.eK he hrefs⟩
        ·refine l.set f _ _ hle rfl rfl (λj _ q=>by simp[Gh.eK,q]) (.inr (by simp[Gh.eK])) (by simp[Gh.eK]) (λk hk xW=>heap_alloc_old w.drew _ k xW) (by simp) rfl rfl rfl ?_;refine⟨by simp[Gh.eK,g1],by simp[Gh.eK,g2],M,((vs.drop (off*i.size)).take (len*i.size)).toArray++d.toArray++Builtin.zeroCells z'.cells (grownCap w (len+ys.length) cap e- (len+ys.length)),[],(vs.drop (off*i.size)).take (len*i.size)++d,(Builtin.zeroCells z'.cells (grownCap w (len+ys.length) cap e- (len+ys.length))).toList,?_,?_,by simp[Gh.eK],?_,y.mono hle,L⟩
         ·have: (G.eK id w.heap.size 0 (grownCap w (len+ys.length) cap e*i.size)).bb id=w.heap.size:=by simp[Gh.eK]
          rw[this];exact apk w.drew _
         ·simp
         ·have hvn: ((vs.drop (off*i.size)).take (len*i.size)).length=len*i.size:=by simp;omega
          simp only[aBv,aBl,aBp,F,hvn,I,Gh.eK,ae4];rw[<-apc,<-apc,aka];congr 1;omega
        ·refine⟨f,by simp[Gh.eK,g1],_,_,rfl,⟨hg,rfl⟩,by simp,λ_=>⟨by simp[Gh.eK,g2],λ_=>by simp[Gh.eK],by simp[Gh.eK]⟩⟩
    ·cases h
   ·cases h
  ·cases h
 grind
end
section
variable{P:Program}{X:Ctx}{B:Nat}{ax:World}
variable{G:Gh}{E:AS}{w:World}
def amJ(g:aX P B ax G E w){d ty i:TypeId}{bytes:Nat}(u:P.underlying t=some (.slice e))(c:P.underlying d=some (.slice i))(r:cD P e=some sz)(q:xN P e=some bytes)(k: (iv P e).isSome=true)(p:0<bytes)
  {s v x:AV} {s' f:Value} {ys:List (List AV)} {E':AS} (n:an G s s') (m:an G x f) (l:elems E sz x=some ys) (h:dO E e sz bytes s ys=some (v,E')):
  mz P B ax G E v E' ((Builtin.append_ #[t,d] ty #[s',f]).run P w):=by
 obtain⟨vs,o,j,hu,b,⟨a,cap,rfl,_⟩,z⟩:=Vc g m l;refine amC g u r q k p n o j ⟨by rfl,λw' y=>?_,.inl ⟨i,c⟩⟩ h
 grind
def amK(l:lB):bF G (l.map λx=>[AV.int .u8 x.toNat]) (l.map λx=>Value.int .u8 x.toNat):=by
 induction l with
 |nil=>rfl
 |cons x xs a=>exact⟨[_],_,rfl,by simp[aG,an],a⟩
def Vs{a:EK}(h:Ab P t=some a): ∃u,P.underlying t=some u/\kindOk a u/\ (a= .bool\/a= .int\/a= .str):=by
 unfold Ab at h;split at h
 ·rename_i hu;cases h;exact⟨_,hu,rfl,.inl rfl⟩
 ·rename_i hu;cases h;exact⟨_,hu,⟨_,rfl⟩,.inr (.inl rfl)⟩
 ·rename_i hu;cases h;exact⟨_,hu,rfl,.inr (.inr rfl)⟩
 grind
def Vt{a:EK}{k:AV}(h:kT a k=true):isKey k=true:=by
 cases a<;>cases k<;>simp[kT]at h<;>rfl
def Gx{g:EK}{u:TypeDesc}{k d:AV}{k' a:Value}{b:Bool}(j:kT g k=true)(i:kindOk g u)(m:an G k k')(l:an G d a)(h:oP k d=some b):
  Instr.sameNow u k' a=some b/\ (b=true->Instr.sameBits 10000 a k'=true):=by
 unfold oP at h;split at h
 ·split at h
  ·rename_i e;subst e;cases h;subst m l;cases g<;>simp[kT]at j;obtain⟨q,rfl⟩:=i;refine⟨by simp[Instr.sameNow],λf=>?_⟩;have c:=eq_of_beq f;subst c;simp[Instr.sameBits]
  grind
 ·cases h;subst m l;cases g<;>simp[kT]at j;subst i;refine⟨by rfl,λf=>?_⟩;rw[beq_toListBytes]at f;have c:=eq_of_beq f;simp only[Instr.sameBits];rw[beq_toListBytes,c];simp
 ·cases h;subst m l;cases g<;>simp[kT]at j;simp only[kindOk]at i;subst i;refine⟨by rfl,λf=>?_⟩;have c:=eq_of_beq f;subst c;simp[Instr.sameBits]
 grind
theorem MC{g:EK}{u:TypeDesc}{k:AV}{k':Value}(d:kT g k=true)(c:kindOk g u)(e:an G k k'): ∀ (es:List (AV×AV)) (ms:List MapEntry) (i:Nat) (r:Option AV),gh G es ms->ew k es=some r->
  match r with
  |none=>Instr.findNow u k' ms i=some none
  |some v=> ∃j v',Instr.findNow u k' ms i=some (some (j,v'))/\an G v v'
 | [],ms,i,r,hm,h=>by
   subst hm;simp only[ew,ac1]at h;subst h;simp[Instr.findNow]
 | (k₂,f)::es,ms,i,r,hm,h=>by
   obtain⟨m,q,rfl,_,a,b,hm⟩:=hm;simp only[ew]at h;split at h
   ·rename_i he;cases h;have:=(Gx d c e a he).1;exact⟨i,m.val,by simp[Instr.findNow,this],b⟩
   ·rename_i he;have n:=(Gx d c e a he).1;have l:=MC d c e es q (i+1) r hm h;cases r with
    |none=>simpa[Instr.findNow,n]using l
    |some v=>simpa[Instr.findNow,n]using l
   grind
def amL{u:TypeDesc}(h:P.underlying t=some u)(a:u= .bool\/ (∃k,u= .int k)\/u= .string)(b:Bool)(n:Nat)(v:Value)(w:World): (Instr.checkKey b (n+1) t v).run P w= .ok () w:=by
 rcases a with rfl| ⟨q,rfl⟩|rfl<;>simp[Instr.checkKey,ada h]
def MD{a:EK}{u:TypeDesc}(h:P.underlying t=some u)(d:kindOk a u)(c:a= .bool\/a= .int\/a= .str)(b:Bool)(v:Value)(w:World): (Instr.checkKey b 10000 t v).run P w= .ok () w:=by
 refine amL h ?_ b 9999 v w;rcases c with rfl|rfl|rfl
 ·exact .inl d
 ·exact .inr (.inl d)
 ·exact .inr (.inr d)
def amM(O:aX P B ax G E w){X:Ctx}(R:fP X B ax){M J:TypeId}{N:EK}{z:AV}(I:P.underlying t=some (.map M J))(T:Ab P M=some N)(S:xO P J=some z){m k v:AV}{m' k':Value}{d:Bool}(y:an G m m')(Q:an G k k')
  (h:jK X.gu E N z m k d=some v): ∃v',(Instr.lookup t m' k' d).run P w= .ok v' w/\an G v v':=by
 obtain⟨u,hu,o,H⟩:=Vs T;obtain⟨K,V,_,rz⟩:=Ml S G w;unfold jK at h;split at h
 ·rename_i n;split at h
  ·rename_i es a;obtain⟨c,ms,F,A,f⟩: ∃ (c:List (AV×AV)) (ms:Array MapEntry),(m'= .map none/\ms= #[]\/ ∃r clock,m'= .map (some r)/\w.heap[r]?=some (.map ms clock))/\gh G c ms.toList/\ ∀k v,ew k es=some v->ew k c=some v:=by
    unfold mapOf at a;split at a
    ·cases a;simp only[an]at y;subst y;exact⟨[],#[],.inl ⟨rfl,rfl⟩,by simp[gh],λ_ _ h=>h⟩
    ·rename_i g;obtain⟨c,r,ms,clock,e1,Z,e3,Y⟩:=R.alS O a y;exact⟨c,ms,.inr ⟨r,clock,e1,Z⟩,e3,Y⟩
    ·rename_i id;split at a
     ·rename_i c he;cases a;obtain⟨U,ms,clock,C,i⟩:=O.obj id _ he y.Gg;simp only[an]at y;obtain⟨_,r,rfl,D⟩:=y;have W:=D U;subst W;exact⟨_,ms,.inr ⟨_,clock,rfl,C⟩,i,λ_ _ h=>h⟩
     ·cases a
    ·cases a
   have av: ∀ (r:Option (Nat×Value)) (v:Value),Instr.findNow u k' ms.toList 0=some r->(match r with|some (_,x)=>v=x|none=>(zeroValue J).run P w= .ok v w)->
     (Instr.lookup t m' k' d).run P w= .ok (if d then .tuple #[v,.bool r.isSome]else v) w:=by
    intro r v l i;have s:=λb=>MD hu o H b k' w
    rcases F with⟨rfl,rfl⟩| ⟨q,clock,rfl,C⟩
    ·cases r with
     |none=>simp only at i;cases d<;>simp[Instr.lookup,ada I,s,Instr.findKey,ada hu]<;>(simp at l;simp[l,i])
     |some p=>obtain⟨j,x⟩:=p;simp only at i;subst i;simp[Instr.findNow]at l
    ·cases r with
     |none=>simp only at i;cases d<;>simp[Instr.lookup,ada I,s,Instr.findKey,ada hu,i,getObj,Sem.run,C,l]
     |some p=>obtain⟨j,x⟩:=p;simp only at i;subst i;cases d<;>simp[Instr.lookup,ada I,s,Instr.findKey,ada hu,getObj,Sem.run,C,l]
   split at h
   ·rename_i L l;cases h;obtain⟨j,v',e,rv⟩:=MC n o Q c ms.toList 0 _ A (f _ _ l);refine⟨if d then .tuple #[v',.bool true]else v',?_,?_⟩
    ·exact av _ _ e rfl
    ·cases d
     ·exact rv
     ·exact⟨_,rfl,⟨_,_,rfl,rv,⟨_,_,rfl,by simp[an],by simp[aG]⟩⟩⟩
   ·rename_i l;cases h;have e:=MC n o Q c ms.toList 0 _ A (f _ _ l);refine⟨if d then .tuple #[K,.bool false]else K,?_,?_⟩
    ·exact av _ _ e V
    ·cases d
     ·exact rz
     ·exact⟨_,rfl,⟨_,_,rfl,rz,⟨_,_,rfl,by simp[an],by simp[aG]⟩⟩⟩
   grind
  grind
 grind
theorem Vu{x:EK}{u:TypeDesc}{k v:AV}{k' v':Value}(g:kT x k=true)(r:kindOk x u)(n:an G k k')(p:an G v v'): ∀ (es b:List (AV×AV)) (ms:List MapEntry) (i:Nat),gh G es ms->lQ k v es=some b->
  (Instr.findNow u k' ms i=some none/\ ∀born,gh G b (ms++[{key:=k',val:=v',born}]))\/
  ∃j a m,Instr.findNow u k' ms i=some (some (i+j,a))/\ms[j]?=some m/\Instr.sameBits 10000 m.key k'=true/\gh G b (ms.modify j λe=>{e with key:=k',val:=v'})
 | [],b,ms,i,hm,h=>by
   subst hm;simp only[lQ,ac1]at h;subst h;exact .inl ⟨by rfl,λborn=>⟨_,_,rfl,Vt g,n,p,by rfl⟩⟩
 | (k₂,t)::es,b,ms,i,hm,h=>by
   simp only[gh]at hm;obtain⟨m,q,rfl,l,c,f,hm⟩:=hm;simp only[lQ]at h;split at h
   ·rename_i he;cases h;obtain⟨o,z⟩:=Gx g r n c he;refine .inr ⟨0,m.val,m,by simp[Instr.findNow,o],rfl,z rfl,?_⟩;exact⟨_,_,rfl,Vt g,n,p,hm⟩
   ·rename_i he;obtain⟨o,_⟩:=Gx g r n c he;cases y:lQ k v es with
    |none=>grind
    |some d=>
     simp only[y,aeM,ac1]at h;subst h;rcases Vu g r n p es d q (i+1) hm y with⟨e1,s⟩| ⟨j,a,m',e1,s,e3,A⟩
     ·refine .inl ⟨by simpa[Instr.findNow,o]using e1,λborn=>⟨_,_,rfl,l,c,f,s born⟩⟩
     ·refine .inr ⟨j+1,a,m',?_,by simpa using s,e3,?_⟩
      ·simp only[Instr.findNow,o];rw[e1];congr 3;omega
      ·simp only[List.modify_succ_cons];exact⟨_,_,rfl,l,c,f,A⟩
   grind
theorem Vv{k v:AV}{n:Nat}: ∀ {es a:List (AV×AV)},lQ k v es=some a->(∀p∈es,p.2.refs<=n)->v.refs<=n-> ∀p∈a,p.2.refs<=n
 | [],a,h,_,f=>by
   simp only[lQ,ac1]at h;grind
 | (k₂,e)::es,a,h,c,f=>by
   simp only[lQ]at h;split at h
   ·grind
   ·cases g:lQ k v es with
    |none=>grind
    |some d=>
     simp only[g,aeM,ac1]at h;subst h;intro p b;rcases aeZ.1 b with rfl|b
     ·simp_all
     ·exact Vv g (λp h=>c p (by grind)) f p b
   grind
def amN(d:aX P B ax G E w){A N:TypeId}{C:EK}(H:P.underlying t=some (.map A N))(M:Ab P A=some C){m k v:AV}{m' k':Value}{E':AS}(o:an G m m')(L:an G k k')(I:an G v v')
  (h:mv E C m k v=some E'):Aj P B ax G E E' ((Instr.mapUpdate t m' k' v').run P w):=by
 obtain⟨u,hu,b,g⟩:=Vs M;unfold mv at h;split at h
 ·rename_i i;split at h
  ·rename_i id;split at h
   ·rename_i es he;split at h
    ·rename_i l D;cases h;obtain⟨s,ms,clock,F,J⟩:=d.obj id _ he o.Gg;have c:G.on id:=⟨by rw[d.len];grind,o.Gg⟩;simp only[an]at o;obtain⟨_,r,rfl,q⟩:=o;rw[q s];have a:E.Ext (E.set id (.map l) v.refs):=.set he λn K p=>Vv D K p
     have f:=(d.low id c).2;rcases Vu i b L I es l ms.toList 0 J D with⟨e1,y⟩| ⟨j,z,m',e1,y,e3,O⟩
     ·refine⟨G,eW w (G.bb id) (.map (ms.push {key:=k',val:=v',born:=clock}) (clock+1)),?_,G.le_refl,d.put c _ ⟨s,_,_,uz f,by simpa using y clock⟩,a⟩;simp[Instr.mapUpdate,ada H,getObj,setObj,Sem.run,F,MD hu b g,Instr.findKey,ada hu,e1,eW]
     ·rw[aka]at e1;have x:ms[j]?=some m':=by simpa using y
      refine⟨G,eW w (G.bb id) (.map (ms.modify j λe=>{e with key:=k',val:=v'}) clock),?_,G.le_refl,d.put c _ ⟨s,_,_,uz f,by simpa using O⟩,a⟩;simp[Instr.mapUpdate,ada H,getObj,setObj,Sem.run,F,MD hu b g,Instr.findKey,ada hu,e1,eW,Instr.keyThatStays,x,e3]
    grind
   grind
  grind
 grind
end
section
variable{P:Program}{X:Ctx}{B:Nat}{ax:World}
variable{G:Gh}{E:AS}{w:World}
def ME{a a':Addr}{b:List Value}(h:b=[]\/a=a'):storeCells a b=storeCells a' b:=by
 rcases h with rfl|rfl
 ·rfl
 ·rfl
def Vw{af:List (List AV)}:b9 (af.take n)<=b9 af:=by
 induction af generalizing n with
 |nil=>simp
 |cons x xs a=>
  cases n with
  |zero=>simp[b9]
  |succ n=>simp only[apM,b9];grind
def Vx(f:aX P B ax G E w){id:Nat}{ty:TypeId}{af b:List (List AV)}(g:E.heap[id]?=some (.row ak sz ty af))(e:G.pz id=none){d:List Value}{off:Nat}(m:bF G b d)(i:Leaves d)(k: ∀el∈b,el.length=sz)(h:off+b.length<=af.length)
  {refs:Nat} (l:b9 b<=refs) {a:Addr} (p:d=[]\/a=⟨G.bb id,G.base id+off*sz,none⟩):
  Aj P B ax G E (E.set id (.row ak sz ty (af.take off++(b++af.drop (off+b.length)))) refs) ((storeCells a d).run P w):=by
 rw[ME p];obtain⟨_,_,c,_⟩:=f.obj id _ g e;have n:=oS c;have j:=oS k;have hm:off*sz+b.length*sz<=af.length*sz:=by rw[<-apc];exact ajv _ h
 refine Vi f g e (bF.iff.1 m) i (by omega) (λel o=>?_) ?_ (by rw[<-v8];exact l)
 ·grind
 ·rw[anw,anw,Gn c,Mi c];unfold aN
  grind
def amO(r:aX P B ax G E w){st ty:TypeId}(I:P.underlying t=some (.slice e))(h2:cD P e=some sz){d s v:AV}{J s':Value}{E':AS}(u:an G d J)(M:an G s s')(h:rS E sz d s=some (v,E')):
  mz P B ax G E v E' ((Builtin.copy_ #[t,st] ty #[J,s']).run P w):=by
 obtain⟨i,hi,rfl⟩:=Vk h2;unfold rS at h;split at h
 ·rename_i ys q;have src: ∃vs,bF G ys vs/\Leaves vs/\ (∀el∈ys,el.length=i.size)/\ (Builtin.lenOf s').run P w= .ok ys.length w/\ ∀n,n<=ys.length->(Builtin.firstCells i.size n s').run P w= .ok (vs.take (n*i.size)).toArray w:=by
   unfold Ct at q;split at q
   ·rename_i b;split at q
    ·rename_i I;cases q;simp only[an]at M;subst M;refine⟨b.data.toList.map λx=>Value.int .u8 x.toNat,amK _,?_,?_,by simp[Builtin.lenOf,rR],λn Z=>?_⟩
     ·intro v Y;simp only[aeO]at Y;obtain⟨x,_,rfl⟩:=Y;rfl
     ·intro el f;simp only[rR,aeO]at f;obtain⟨x,_,rfl⟩:=f;rw[I];rfl
     ·rw[I];simp only[Builtin.firstCells,Sem.run_pure]
      congr 1
      apply apy;simp[]
    ·cases q
   ·obtain⟨vs,H,D,hu,F,⟨a,cap,rfl,_⟩,R⟩:=Vc r M q;exact⟨vs,H,D,hu,by simp[Builtin.lenOf],λn Z=>R w rfl n Z⟩
  obtain⟨vs,H,D,hu,Q,R⟩:=src;have key: ∀ (base:Option Addr) (c m:Nat),J= .slice base c m->(Builtin.copy_ #[t,st] ty #[J,s']).run P w=
    ((match base with|some b=>storeCells b (vs.take (Nat.min ys.length c*i.size))|none=>pure ():Sem Unit).run P w).andThen λ_ w'=>.ok (goInt (Nat.min ys.length c)) w':=by
   rintro base c m rfl;have:=R (Nat.min ys.length c) (Nat.min_le_left _ _);cases base<;>simp[Builtin.copy_,ada I,Q,sizeOf,typeInfo,hi,this]
  split at h
  ·cases h;simp only[an]at u;rw[key none 0 0 u];exact⟨G,w,_,rfl,G.le_refl,r,by simp[an,goInt],.refl E⟩
  ·rename_i id ak K off len cK;split at h
   ·rename_i V L ty' af he;split at h
    ·rename_i S;obtain⟨T,c2,c3,c4⟩:=S;subst T c2 c3;cases h;simp only[an]at u;obtain⟨g,W,C,k,e1,d1,d2,d3⟩:=u;obtain⟨f1,f2,f3⟩:=d3 (r.obj id _ he g.2).1;rw[key (some C) len k e1];have O:Nat.min ys.length len<=ys.length:=Nat.min_le_left ys.length len;have A:Nat.min ys.length len<=len:=Nat.min_le_right ys.length len;have y: (ys.take (Nat.min ys.length len)).length=Nat.min ys.length len:=by rw[af9];omega
     have p:bF G (ys.take (Nat.min ys.length len)) (vs.take (Nat.min ys.length len*i.size)):=by
      have:=H.slice (l:=0) (n:=Nat.min ys.length len) hu;simpa using this
     obtain⟨U,w',N,hle,o,j⟩:=Vx r he g.2 p (D.take _) (λel f=>hu el (ahW f)) (off:=off) (by omega) (refs:=b9 ys) Vw (a:=C) (by
      by_cases h0:len=0
      ·left;have:Nat.min ys.length len=0:=by omega
       rw[this];simp
      ·right;rw[f2 (by omega)])
     rw[N,y]at*;exact⟨U,w',_,rfl,hle,o,by simp[an,goInt],j⟩
    ·cases h
   ·cases h
  ·rename_i id L off len;split at h
   ·rename_i cs he;split at h
    ·rename_i S;obtain⟨T,c2,c3⟩:=S;subst T;cases h;simp only[an]at u;obtain⟨g,C,k,e1,d1,d2⟩:=u;rw[key (some C) len k e1];have O:Nat.min ys.length len<=ys.length:=Nat.min_le_left ys.length len;have A:Nat.min ys.length len<=len:=Nat.min_le_right ys.length len;have y: (ys.take (Nat.min ys.length len)).flatten.length=Nat.min ys.length len*i.size:=by rw[oS λel f=>hu el (ahW f),af9];congr 1;omega
     have p:aG G (ys.take (Nat.min ys.length len)).flatten (vs.take (Nat.min ys.length len*i.size)):=by
      rw[Gn hu];exact(bF.iff.1 H).take _
     have hmm:Nat.min ys.length len*i.size<=len*i.size:=ajv _ A;have z:=Mw r he g.2 p (D.take _) (off:=off) (by omega) (refs:=b9 ys) (by rw[<-v8];exact Vw);simp only;rw[ME (a:=C) (a':=⟨G.bb id,off,none⟩) (by
      by_cases h0:len=0
      ·left;have:Nat.min ys.length len=0:=by omega
       rw[this];simp
      ·right;exact d2 (Ag r he g.2).1 (by omega))]
     obtain⟨U,w',N,hle,o,j⟩:=z;rw[N];exact⟨U,w',_,rfl,hle,o,by simp[an,goInt],j⟩
    ·cases h
   ·cases h
  grind
 grind
def amP(zc:Array Value)(k:Nat): (Builtin.zeroCells zc k).toList=(List.replicate k zc.toList).flatten:=by
 unfold Builtin.zeroCells;rw[Array.toList_map,Array.toList_range];by_cases a:0<zc.size
 ·exact Gt zc a k
 simp_all
def amQ(l:aX P B ax G E w){ty:TypeId}{z:List AV}(v:P.underlying t=some (.slice e))(O:iv P e=some z){x:AV}{p:Value}{E':AS}(j:an G x p)(h:rT E z x=some E'):
  mz P B ax G E .undef E' ((Builtin.clear_ #[t] ty #[p]).run P w):=by
 obtain⟨D,Q,_,lz,k,_⟩:=rZ O G w;have key: ∀ (a:Addr) (n c:Nat),p= .slice (some a) n c->(Builtin.clear_ #[t] ty #[p]).run P w=
   ((storeCells a (List.replicate n D.cells.toList).flatten).run P w).andThen λ_ w'=>.ok (.tuple #[]) w':=by
  rintro a n c rfl;cases n with
  |zero=>simp[Builtin.clear_,ada v,storeCells]
  |succ n=>
   have:=amP D.cells (n+1);simp only[Builtin.clear_];simp[ada v,Q,<-this]
 unfold rT at h;split at h
 ·cases h;simp only[an]at j;subst j;exact⟨G,w,.tuple #[],by simp[Builtin.clear_,ada v],G.le_refl,l,⟨_,rfl,by simp[aG]⟩,.refl E⟩
 ·rename_i id ak q off len cK;split at h
  ·rename_i F L K af he;split at h
   ·rename_i u;obtain⟨A,J,I,R,S⟩:=u;subst A J I;cases h;simp only[an]at j;obtain⟨d,H,o,f,e1,d1,d2,d3⟩:=j;obtain⟨f1,f2,f3⟩:=d3 (l.obj id _ he d.2).1;rw[key o len f e1];obtain⟨C,w',s,hle,g,b⟩:=Vx l he d.2 (CF lz len) (Gu k len) (λel i=>by rw[auf i]) (off:=off) (by simpa using R) (refs:=0) (by
      rw[v8];have: ∀n,aL (List.replicate n z).flatten<=0:=by
       intro n
       induction n with
       |zero=>simp[aL]
       |succ n M=>simp only[ast,ao3,uC];omega
      exact this len) (a:=o) (by
     by_cases y:len=0
     ·left;rw[y];simp
     ·right;rw[f2 (by omega)])
    rw[s];rw[List.length_replicate]at g b;exact⟨C,w',_,rfl,hle,g,⟨_,rfl,by simp[aG]⟩,b⟩
   ·cases h
  ·cases h
 ·rename_i id sz off len;split at h
  ·rename_i cs he;split at h
   ·rename_i u;obtain⟨A,J,I⟩:=u;subst A;cases h;simp only[an]at j;obtain⟨d,o,f,e1,d1,d2⟩:=j;rw[key o len f e1];have r:=CF lz len;have N: (List.replicate len z).flatten.length=len*z.length:=by rw[oS (sz:=z.length) λel i=>by rw[auf i]];simp
    have m:=Mw l he d.2 (bF.iff.1 r) (Gu k len) (off:=off) (by omega) (refs:=0) (by
     have: ∀n,aL (List.replicate n z).flatten<=0:=by
      intro n
      induction n with
      |zero=>simp[aL]
      |succ n M=>simp only[ast,ao3,uC];omega
     exact this len)
    rw[ME (a:=o) (a':=⟨G.bb id,off,none⟩) (by
     by_cases y:len=0
     ·left;rw[y];simp
     ·right;exact d2 (Ag l he d.2).1 (by omega))]
    obtain⟨C,w',s,hle,g,b⟩:=m;rw[s];exact⟨C,w',_,rfl,hle,g,⟨_,rfl,by simp[aG]⟩,b⟩
   ·cases h
  ·cases h
 grind
def aAE(d:P.cellsOf e=1)(a off n:Nat)(c:off+n<=a):liesAt P P.depth e a off e n=true:=by
 have b:P.depth=(2*(P.types.size+Made.depth)+1)+1:=rfl;rw[b];simp only[liesAt,ao0];rw[b];simp[rowAt,d,c,sameLayout,Nat.mod_one]
theorem amR{w:World}: ∀ (a:List Int) (b o:Nat) (acc:ByteArray),(∀ (j:Nat) (u:Value),(a.map (Value.int .u8))[j]?=some u->w.cell? ⟨b,o+j,none⟩=some u)->
  (loadBytes ⟨b,o,none⟩ acc a.length).run P w= .ok ⟨acc.data++(a.map λn=>UInt8.ofNat n.toNat).toArray⟩ w
 | [],b,o,acc,_=>by rfl
 |n::a,b,o,acc,h=>by
  have c:w.cell? ⟨b,o,none⟩=some (.int .u8 n):=by
   have:=h 0 (.int .u8 n) rfl;omega
  have d:=amR a b (o+1) (acc.push n.toNat.toUInt8) (λj u e=>by
   have:=h (j+1) u (by grind);rw[show o+1+j=o+(j+1) by omega];omega)
  simp only[aeV,loadBytes,Sem.run_bind,run_load,c,Result.andThen_ok,jN];simp_all
def aAF(w:World)(a:Addr)(n:Nat): (w.freeze a n).heap.size=w.heap.size:=by
 unfold World.freeze;grind
def aAG{w:World}{a:Addr}(h:k≠a.block): (w.freeze a n).heap[k]?=w.heap[k]?:=by
 unfold World.freeze
 grind
def aAH(w:World)(a:Addr)(n:Nat): (w.freeze a n).os=w.os/\ (w.freeze a n).tape=w.tape/\ (w.freeze a n).output=w.output:=by
 unfold World.freeze;grind
end
section
variable{P:Program}{X:Ctx}{B:Nat}{ax:World}
variable{G:Gh}{E:AS}{w:World}
def fQ{s:Sem Value}{v:AV}(hw:aX P B ax G E w)(h: ∃v',s.run P w= .ok v' w/\an G v v'):Good P B ax G E v E ((do pure (.value (<-s)):Sem Next).run P w):=by
 obtain⟨v',e,r⟩:=h;simp only[Sem.run_bind,e,Result.andThen_ok,Sem.run_pure];exact .same hw r
def r6{s:Sem Value}{v:AV}{E':AS}(h:mz P B ax G E v E' (s.run P w)):Good P B ax G E v E' ((do pure (.value (<-s)):Sem Next).run P w):=by
 obtain⟨g,w',v',e,f,d,c,b⟩:=h;simp only[Sem.run_bind,e,Result.andThen_ok,Sem.run_pure];exact⟨g,w',v',.inl rfl,f,d,c,b⟩
def Vy{s:Sem Unit}{E':AS}(h:Aj P B ax G E E' (s.run P w)):Good P B ax G E .undef E' ((do s;pure .skip:Sem Next).run P w):=by
 obtain⟨f,w',e,d,c,b⟩:=h;simp only[Sem.run_bind,e,Result.andThen_ok,Sem.run_pure];exact⟨f,w',undef,.inr ⟨rfl,rfl⟩,d,c,⟨#[],rfl,by rfl⟩,b⟩
def eA{E E':AS}{o:Option AV}{v:AV}(h:gv E o=some (.ok v E')):o=some v/\E'=E:=by
 cases o with
 |none=>trivial
 |some a=>simp[gv]at h;grind
def xX{e:Env}(he:cP G nt e a.tmps){x:Option Operand}{y:Option ao}(h:uw x=some y):lV G (y.map (·.get e)) (x.map a.eval):=by
 cases x with
 |none=>simp only[uw,ac1]at h;subst h;simp[lV]
 |some x=>
  simp only[uw]at h;cases b:bQ x with
  |none=>grind
  |some z=>simp[b]at h;subst h;exact⟨_,rfl,cH he b⟩
def Vz{x:Option Operand}{y:Option ao}(h:uw x=some y):y.isNone=x.isNone:=by
 cases x with
 |none=>simp only[uw,ac1]at h;grind
 |some x=>
  simp only[uw]at h;cases b:bQ x with
  |none=>grind
  |some z=>grind
def I.plain:I->Bool
 |.call .. |.panic _=>false
 |_=>true
section
variable(hw:aX P B ax G E w)(hg:fP X B ax){nt:Nat}{e:Env}{a:Act}(he:cP G nt e a.tmps)(C:bJ)
include hw hg he
omit hg in
theorem amS{f:TypeId}{c:Call}{i:I}(h:Cw P f c=some i)(S:i.plain=true){v:AV}{E':AS}(j:exec X C i e E=some (.ok v E')):
  Good P B ax G E v E' ((do let d<-resolve a.eval c f;invoke d.target d.args:Sem Next).run P w):=by
 obtain⟨callee,args,argTypes⟩:=c;unfold Cw at h;split at h
 case h_1=>
  split at h
  ·cases h;simp[I.plain]at S
  ·cases h
 case h_2 t x l n o=>
  simp only at l n o;subst l;have q:args= #[x]:=by apply apy;simpa using o
  have p:argTypes= #[t]:=by apply apy;simpa using n
  subst q p;have g: (do let d<-resolve a.eval ⟨.builtin .len,#[x],#[t]⟩ f;invoke d.target d.args:Sem Next)=(do pure (.value (<-Builtin.len_ #[t] f ((#[x]:Array Operand).map a.eval)))):=rfl;rw[g,show(#[x]:Array Operand).map a.eval= #[a.eval x] by simp];split at h
  ·rename_i hu;cases ho:bQ x with
   |none=>simp[ho]at h
   |some y=>
    simp only[ho,aeM,ac1]at h;subst h;obtain⟨m,rfl⟩:=eA j;exact fQ hw (Mp (k:=.str) hw hu rfl (cH he ho) m)
  ·rename_i hu;cases ho:bQ x with
   |none=>simp[ho]at h
   |some y=>
    simp only[ho,aeM,ac1]at h;subst h;obtain⟨m,rfl⟩:=eA j;exact fQ hw (Mp (k:=.sl) hw hu ⟨_,rfl⟩ (cH he ho) m)
  ·rename_i hu;cases ho:bQ x with
   |none=>simp[ho]at h
   |some y=>
    simp only[ho,aeM,ac1]at h;subst h;obtain⟨m,rfl⟩:=eA j;exact fQ hw (Mp (k:=.map) hw hu ⟨_,_,rfl⟩ (cH he ho) m)
  ·cases h
 case h_3 st A s x l n o=>
  simp only at l n o;subst l;have q:args= #[s,x]:=by apply apy;simpa using o
  have p:argTypes= #[st,A]:=by apply apy;simpa using n
  subst q p;have g: (do let d<-resolve a.eval ⟨.builtin .append,#[s,x],#[st,A]⟩ f;invoke d.target d.args:Sem Next)=(do pure (.value (<-Builtin.append_ #[st,A] f ((#[s,x]:Array Operand).map a.eval)))):=rfl;rw[g,show(#[s,x]:Array Operand).map a.eval= #[a.eval s,a.eval x] by simp];split at h
  ·rename_i el hu;split at h
   ·rename_i sz b Q V K J H F;split at h
    ·rename_i U D;split at h
     ·rename_i O;cases h;simp only[exec]at j;split at j
      ·rename_i ys R;split at j
       ·rename_i v' u L;cases j;exact r6 (amJ hw hu D K J O.2 O.1 (cH he H) (cH he F) R L)
       ·cases j
      ·cases j
     ·cases h
    ·cases h
   ·cases h
  ·cases h
 case h_4 N st d s l n o=>
  simp only at l n o;subst l;have q:args= #[d,s]:=by apply apy;simpa using o
  have p:argTypes= #[N,st]:=by apply apy;simpa using n
  subst q p;have g: (do let d<-resolve a.eval ⟨.builtin .copy,#[d,s],#[N,st]⟩ f;invoke d.target d.args:Sem Next)=(do pure (.value (<-Builtin.copy_ #[N,st] f ((#[d,s]:Array Operand).map a.eval)))):=rfl;rw[g,show(#[d,s]:Array Operand).map a.eval= #[a.eval d,a.eval s] by simp];split at h
  ·rename_i el hu;split at h
   ·rename_i sz W Q m M T;cases h;simp only[exec]at j;split at j
    ·rename_i v' u r;cases j;exact r6 (amO hw hu m (cH he M) (cH he T) r)
    ·cases j
   ·cases h
  ·cases h
 case h_5 t x l n o=>
  simp only at l n o;subst l;have q:args= #[x]:=by apply apy;simpa using o
  have p:argTypes= #[t]:=by apply apy;simpa using n
  subst q p;have g: (do let d<-resolve a.eval ⟨.builtin .clear,#[x],#[t]⟩ f;invoke d.target d.args:Sem Next)=(do pure (.value (<-Builtin.clear_ #[t] f ((#[x]:Array Operand).map a.eval)))):=rfl;rw[g,show(#[x]:Array Operand).map a.eval= #[a.eval x] by simp];split at h
  ·rename_i el hu;split at h
   ·rename_i z y m M;cases h;simp only[exec]at j;split at j
    ·rename_i u r;cases j;exact r6 (amQ hw hu m (cH he M) r)
    ·cases j
   ·cases h
  ·cases h
 case h_6 xs l=>
  simp only at l;subst l;have g: (do let d<-resolve a.eval ⟨.builtin .max,args,argTypes⟩ f;invoke d.target d.args:Sem Next)=(do pure (.value (<-Builtin.max_ argTypes f (args.map a.eval)))):=rfl;rw[g];split at h
  ·cases ho:nU args.toList with
   |none=>simp[ho]at h
   |some ys=>
    simp only[ho,aeM,ac1]at h;subst h;obtain⟨m,rfl⟩:=eA j;exact fQ hw (amm (by simpa using xS he ho) m w)
  ·cases h
 case h_7 xs l=>
  simp only at l;subst l;have g: (do let d<-resolve a.eval ⟨.builtin .min,args,argTypes⟩ f;invoke d.target d.args:Sem Next)=(do pure (.value (<-Builtin.min_ argTypes f (args.map a.eval)))):=rfl;rw[g];split at h
  ·cases ho:nU args.toList with
   |none=>simp[ho]at h
   |some ys=>
    simp only[ho,aeM,ac1]at h;subst h;obtain⟨m,rfl⟩:=eA j;exact fQ hw (amn (by simpa using xS he ho) m w)
  ·cases h
 case h_8 t x l n o=>
  simp only at l n o;subst l;have q:args= #[x]:=by apply apy;simpa using o
  have p:argTypes= #[t]:=by apply apy;simpa using n
  subst q p;have g: (do let d<-resolve a.eval ⟨.builtin .cap,#[x],#[t]⟩ f;invoke d.target d.args:Sem Next)=(do pure (.value (<-Builtin.cap_ #[t] f ((#[x]:Array Operand).map a.eval)))):=rfl;rw[g,show(#[x]:Array Operand).map a.eval= #[a.eval x] by simp];split at h
  ·rename_i hu;cases ho:bQ x with
   |none=>simp[ho]at h
   |some y=>
    simp only[ho,aeM,ac1]at h;subst h;obtain⟨m,rfl⟩:=eA j;exact fQ hw (aml hu (cH he ho) m w)
  ·cases h
 case h_9=>cases h
theorem amT{rows:Bool}{o:Oper}{i:I}(h:kW P rows o=some i)(hp:i.plain=true){v:AV}{E':AS}(A:exec X C i e E=some (.ok v E')):Good P B ax G E v E' ((execOp a.eval o).run P w):=by
 unfold kW at h;split at h
 case h_1 x d|h_2 x d=>
  simp only[d,execOp];cases ho:bQ x with
  |none=>simp[ho]at h
  |some y=>
   simp only[ho,aeM,ac1]at h;subst h;cases A;simp only[Sem.run_pure];exact .same hw (cH he ho)
 case h_3 c x y d=>
  simp only[d,execOp];split at h
  ·rename_i c' x' y' F D N;cases h;simp only[exec]at A;split at A
   ·rename_i t ht;cases A;have L:=cH he F;rw[ht]at L;simp only[an]at L;simp only[Sem.run_bind,L,asBool,Sem.run_pure,Result.andThen_ok];cases t
    ·exact .same hw (cH he N)
    ·exact .same hw (cH he D)
   ·cases A
  ·cases h
 case h_4 t d=>
  simp only[d,execOp];cases R:iv P t with
  |none=>simp[R]at h
  |some z=>
   simp only[R,aeM,ac1]at h;subst h;cases A;exact r6 (amt hw R)
 case h_5 t x d=>
  simp only[d,execOp];cases ho:bQ x with
  |none=>simp[ho]at h
  |some y=>
   simp only[ho,aeM,ac1]at h;subst h;simp only[exec]at A;split at A
   ·cases A
   ·rename_i ht;cases A;exact r6 (amu hw (λt' h=>ams h) (cH he ho) (by simpa using ht))
 case h_6 t ps d=>
  simp only[d,execOp];split at h
  ·rename_i fields z hu R;split at h
   ·rename_i uD;obtain⟨l,M,rfl⟩:=aeL.1 h;simp only[exec]at A;split at A
    ·rename_i cs S;cases A;exact fQ hw (amo hu R uD he M S w)
    ·cases A
   ·cases h
  ·rename_i n el z hu R;split at h
   ·rename_i sz H;cases M:parts (λi=>some (i*sz,sz)) ps.toList with
    |none=>simp[M]at h
    |some l=>
     simp only[M,aeM,ac1]at h;subst h;simp only[exec]at A;split at A
     ·rename_i cs S;cases A;exact fQ hw (amp hu R H he M S w)
     ·cases A
   ·cases h
  ·cases h
 case h_7 t len ps d=>
  simp only[d,execOp];split at h
  ·rename_i el hu;split at h
   ·rename_i z R;split at h
    ·rename_i hc;obtain⟨VA,VB⟩:=hc;cases M:parts (λi=>some (i*z.length,z.length)) ps.toList with
     |none=>simp[M]at h
     |some l=>
      simp only[M,aeM,ac1]at h;have T: ∀k,(List.replicate k z).flatten.length=k*z.length:=λk=>by
       rw[oS (sz:=z.length) λel qA=>by rw[auf qA]];simp
      cases rows with
      |true=>
       simp only[ae4]at h;subst h;simp only[exec]at A;split at A
       ·rename_i cs S;cases A;exact r6 (amB hw hu R VB VA he M S (by rw[My S,T]))
       ·cases A
      |false=>
       simp only[aeJ,ags]at h;subst h;simp only[exec]at A;split at A
       ·rename_i cs S;cases A;exact r6 (amA hw hu R VB VA he M S (by rw[My S,T]))
       ·cases A
    ·cases h
   ·cases h
  ·cases h
 case h_8 t x d=>
  simp only[d,execOp];split at h
  ·rename_i b n y F D N;cases h;obtain⟨K,rfl⟩:=eA A;exact fQ hw (UX hw hg F D (cH he N) K)
  ·cases h
 case h_9 t x y d=>
  simp only[d,execOp];split at h
  ·rename_i n x' y' F D N;cases h;simp only[exec]at A;split at A
   ·rename_i VC H;cases A;exact Vy (amx hw F (cH he D) (cH he N) H)
   ·cases A
  ·cases h
 case h_10 x d=>
  simp only[d,execOp];cases ho:bQ x with
  |none=>simp[ho]at h
  |some y=>
   simp only[ho,aeM,ac1]at h;subst h;obtain⟨K,rfl⟩:=eA A;have L:=cH he ho;obtain⟨rfl,hsh⟩:=amk L K;rcases hsh with⟨b,e1⟩| ⟨f,b,c,e1⟩| ⟨f,b,c,e1⟩<;>rw[e1]at L⊢ <;>simp only[Sem.run_pure]<;>exact .same hw L
 case h_11 op t x y g d=>
  simp only[d,execOp];split at h
  ·rename_i x' y' F D;have Q:=cH he F;have O:=cH he D;split at h
   case h_1|h_2=>
    cases h;simp only[exec]at A;split at A
    ·rename_i k p k' q e1 e2;obtain⟨K,rfl⟩:=eA A;rw[e1]at Q;rw[e2]at O;simp only[an]at Q O;rw[Q,O];refine fQ hw ?_;obtain⟨v',e3,r⟩:=al9 (P:=P) (G:=G) (t:=t) (k':=k') K w;exact⟨v',by simp[eqGuard,e3],r⟩
    ·cases A
   case h_3=>
    cases W:xP P t x y with
    |none=>simp[W]at h
    |some k=>
     simp only[W,aeM,ac1]at h;subst h;simp only[exec]at A;split at A
     ·rename_i b hb;cases A;obtain⟨e1,e2,_,_⟩:=Va W Q O hb w;exact fQ hw (CC (by simp[e1,e2]))
     ·cases A
   case h_4=>
    cases W:xP P t x y with
    |none=>simp[W]at h
    |some k=>
     simp only[W,aeM,ac1]at h;subst h;simp only[exec]at A;split at A
     ·rename_i b hb;cases A;obtain⟨_,_,e1,e2⟩:=Va W Q O hb w;exact fQ hw (CC (by simp[e1,e2]))
     ·cases A
   case h_5=>
    cases h;rename_i op _ _ _ n1 n2 n3 n4 _;obtain⟨K,rfl⟩:=eA A;obtain⟨v',e3,r⟩:=U0 (P:=P) (t:=t) Q O K n3 n4 w;have Z: (eqGuard op t x y (a.eval x) (a.eval y)).run P w= .ok () w:=by
     cases op<;>first|exact absurd rfl n3|exact absurd rfl n4|simp[eqGuard]
    exact fQ hw ⟨v',by simp[Z,e3],r⟩
   case h_6=>
    cases h;rename_i op _ _ n3 n4 _;obtain⟨K,rfl⟩:=eA A;obtain⟨v',e3,r⟩:=U0 (P:=P) (t:=t) Q O K n3 n4 w;have Z: (eqGuard op t x y (a.eval x) (a.eval y)).run P w= .ok () w:=by
     cases op<;>first|exact absurd rfl n3|exact absurd rfl n4|simp[eqGuard]
    exact fQ hw ⟨v',by simp[Z,e3],r⟩
   case h_7=>cases h
  ·cases h
 case h_12 op t x d=>
  simp only[d,execOp];cases ho:bQ x with
  |none=>simp[ho]at h
  |some y=>
   simp only[ho,aeM,ac1]at h;subst h;obtain⟨K,rfl⟩:=eA A;exact fQ hw (ama (cH he ho) K w)
 case h_13 src dst x d=>
  simp only[d,execOp];split at h
  ·rename_i k kd y H hd ho;cases h;simp only[exec]at A;split at A
   ·rename_i k' n hn;cases A;have L:=cH he ho;rw[hn]at L;simp only[an]at L;rw[L];exact fQ hw (k0 (amb (by simp[H]) hd w))
   ·cases A
  ·rename_i el y H hd ho;split at h
   ·rename_i qA;cases h;simp only[exec]at A;split at A
    ·rename_i s hn;split at A
     ·cases A;have L:=cH he ho;rw[hn]at L;simp only[an]at L;rw[L];exact r6 (amz hw H hd qA s)
     ·cases A
    ·cases A
   ·cases h
  ·cases h
 case h_14 t x d=>
  simp only[d,execOp];split at h
  ·cases h
  ·cases h
  ·rename_i u U hu;cases ho:bQ x with
   |none=>simp[ho]at h
   |some y=>
    simp only[ho,aeM,ac1]at h;subst h;cases A;exact fQ hw ⟨_,amj hu (λms e=>U ms e) _ w,⟨_,rfl,cH he ho⟩⟩
 case h_15 f first cap d=>
  simp only[d,execOp];split at h
  ·rename_i xs ys F D;split at h
   ·cases h
   ·rename_i hy;cases h;cases A;refine fQ hw ⟨_,by simp only[Instr.makeFunc,Sem.run_pure];rfl,⟨f,_,_,rfl,?_,by simpa using xS he F,by simpa using xS he D⟩⟩;cases f<;>simp[UO]at hy<;>simp[m6]
  ·cases h
 case h_16 t d=>
  simp only[d,execOp];cases h;cases A;exact r6 (amv hw t)
 case h_17 t l c d=>
  simp only[d,execOp];split at h
  ·rename_i el hu;split at h
   ·rename_i z b l' c' F D N K;split at h
    ·rename_i hc;cases h;simp only[exec]at A;split at A
     ·rename_i v' VC hm;cases A;exact r6 (amy hw hu F D hc.1 (cH he N) (cH he K) hm)
     ·cases A
    ·cases h
   ·cases h
  ·cases h
 case h_18 t x lo hi mx d=>
  simp only[d,execOp];split at h
  ·rename_i x' aj hi' mx' F D N K;split at h
   ·rename_i hu;split at h
    ·rename_i hm;cases h;obtain⟨J,rfl⟩:=eA A;have V:mx=none:=by
      have:=Vz K;rw[hm]at this;simpa using this.symm
     subst V;exact fQ hw (al2 hu (cH he F) (xX he D) (xX he N) J w)
    ·cases h
   ·rename_i el hu;split at h
    ·rename_i hm;cases H:cD P el with
     |none=>simp[H]at h
     |some n=>
      simp only[H,aeM,ac1]at h;subst h;obtain⟨J,rfl⟩:=eA A;refine fQ hw (al6 hu H (cH he F) (xX he D) (xX he N) (xX he K) ?_ J w);cases mx' with
      |none=>exact .inl rfl
      |some m=>
       right
       cases hi' with
       |none=>simp at hm
       |some q=>simp
    ·cases h
   ·rename_i n el hu;split at h
    ·rename_i hm;cases H:cD P el with
     |none=>simp[H]at h
     |some sz=>
      simp only[H,aeM,ac1]at h;subst h;obtain⟨J,rfl⟩:=eA A;have V:mx=none:=by
       have:=Vz K;rw[hm]at this;simpa using this.symm
      subst V;exact fQ hw (al7 hw hg hu H (cH he F) (xX he D) (xX he N) J)
    ·cases h
   ·cases h
  ·cases h
 case h_19 s x f d=>
  simp only[d,execOp];split at h
  ·rename_i fields y hu ho;split at h
   ·rename_i g Y;split at h
    ·rename_i n hn;split at h
     ·rename_i Vo;cases h;obtain⟨J,rfl⟩:=eA A;exact fQ hw (alU hw hg hu Y hn Vo (cH he ho) J)
     ·cases h
    ·cases h
   ·cases h
  ·cases h
 case h_20 s x f d=>
  simp only[d,execOp];split at h
  ·rename_i fields y hu ho;split at h
   ·rename_i g Y;split at h
    ·rename_i b n F D;cases h;simp only[exec]at A;split at A
     ·rename_i cs Gy;obtain⟨J,rfl⟩:=eA A;have L:=cH he ho;rw[Gy]at L;exact fQ hw (alY hu Y F D L J w)
     ·cases A
    ·cases h
   ·cases h
  ·cases h
 case h_21 t x ix d=>
  simp only[d,execOp];split at h
  ·rename_i n el y iy hu F D;cases H:cD P el with
   |none=>simp[H]at h
   |some sz=>
    simp only[H,aeM,ac1]at h;subst h;obtain⟨J,rfl⟩:=eA A;exact fQ hw (alV hw hg hu H (cH he F) (cH he D) J)
  ·rename_i el y iy hu F D;cases H:cD P el with
   |none=>simp[H]at h
   |some sz=>
    simp only[H,aeM,ac1]at h;subst h;obtain⟨J,rfl⟩:=eA A;exact fQ hw (alX hu H (cH he F) (cH he D) J)
  ·cases h
 case h_22 t x ix d=>
  simp only[d,execOp];split at h
  ·rename_i n el y iy hu F D;split at h
   ·rename_i b sz N K;cases h;obtain⟨J,rfl⟩:=eA A;exact fQ hw (alZ hu N K (cH he F) (cH he D) J w)
   ·cases h
  ·rename_i y iy hu F D;cases h;obtain⟨J,rfl⟩:=eA A;exact fQ hw (al0 hu (cH he F) (cH he D) J w)
  ·cases h
 case h_23 t m k ok d=>
  simp only[d,execOp];split at h
  ·rename_i kt et hu;split at h
   ·rename_i kk z m' k' F D N K;cases h;obtain⟨J,rfl⟩:=eA A;exact fQ hw (amM hw hg hu F D (cH he N) (cH he K) J)
   ·cases h
  ·cases h
 case h_24 t m k x d|h_25 t m k x d=>
  simp only[d,execOp];split at h
  ·rename_i kt et hu;split at h
   ·rename_i kk m' k' x' F D N K;cases h;simp only[exec]at A;split at A
    ·rename_i VC hm;cases A;exact Vy (amN hw hu F (cH he D) (cH he N) (cH he K) hm)
    ·cases A
   ·cases h
  ·cases h
 case h_26 x xt asserted ok d=>
  simp only[d,execOp];split at h
  ·cases h
  ·rename_i u y U hu ho;split at h
   ·rename_i z R;cases h;obtain⟨J,rfl⟩:=eA A;exact fQ hw (ami hu (λms e=>U ms e) R (cH he ho) J xt w)
   ·cases h
  ·cases h
 case h_27 x j d=>
  simp only[d,execOp];cases ho:bQ x with
  |none=>simp[ho]at h
  |some y=>
   simp only[ho,aeM,ac1]at h;subst h;simp only[exec]at A;split at A
   ·rename_i vs hvs;obtain⟨J,rfl⟩:=eA A;have L:=cH he ho;rw[hvs]at L;exact fQ hw (al1 (x:=.aA vs) L J w)
   ·cases A
 case h_28 c d=>
  simp only[d,execOp];exact amS hw he C h hp A
 case h_29 x d=>
  cases ho:bQ x with
  |none=>simp[ho]at h
  |some y=>simp only[ho,aeM,ac1]at h;subst h;simp[I.plain]at hp
 case h_30=>cases h
end
end
section
variable{P:Program}{X:Ctx}{B:Nat}{ax:World}
open Classical in
noncomputable def Gh.cut(G:Gh)(n:Nat)(w:World):Gh:=
 {G with n:=n,bG:=λb o=>if∃id,n<=id/\G.on id/\G.bb id=b then w.cell? ⟨b,o,none⟩else G.bG b o}
def Gz{G:Gh}{E:AS}(a:aX P B ax G E w){o:Nat}(h:G.bG b o=some v): (G.cut n w).bG b o=some v:=by
 simp only[Gh.cut];split
 ·rename_i d;obtain⟨id,_,c,rfl⟩:=d;rw[a.sep id c]at h;cases h
 omega
def VD{G:Gh}{E:AS}(a:aX P B ax G E w):G.ep n (G.cut n w):=
 ⟨λ_ _ _ h=>Gz a h,adA _,λ_ _=>rfl,λ_ _=>rfl,λ_ _=>rfl,λ_ _=>rfl,λ_ _=>rfl,λ_ _=>rfl⟩
def amY{G:Gh}{id:Nat}(b:n<=id)(a:G.on id)(o:Nat): (G.cut n w).bG (G.bb id) o=w.cell? ⟨G.bb id,o,none⟩:=by
 simp only[Gh.cut];rw[ac6 ⟨id,b,a,rfl⟩]
theorem aX.cut{G:Gh}{E:AS}(a:aX P B ax G E w)(d:n<=G.n)(m: ∀j o,j<n->E.heap[j]?=some o->o.le n)(lo:oN):aX P B ax (G.cut n w) {heap:=E.heap.take n,lo} w where
 len:=by
  have:=a.len;simp[Gh.cut];omega
 bG b o v h:=by
  simp only[Gh.cut]at h;split at h
  ·exact h
  ·exact a.bG b o v h
 obj id o h l:=by
  simp only[amU]at h;split at h
  ·rename_i f;exact jc.ep (VD a) f rfl (a.obj id o h l) (m id o f h)
  grind
 inj i j c p e:=a.inj i j ⟨ah7 c.1 d,c.2⟩ ⟨ah7 p.1 d,p.2⟩ e
 sep i c o:=by
  have r:i<n:=c.1;have k:G.on i:=⟨ah7 c.1 d,c.2⟩;simp only[Gh.cut];rw[ac0]
  ·exact a.sep i k o
  ·rintro⟨id,y,t,e⟩;have:=a.inj id i t k e;omega
 low i c:=a.low i ⟨ah7 c.1 d,c.2⟩
 lT:=a.lT
 hB:=a.hB
 lU id o g l:=by
  have q:id<n:=g;obtain⟨x,u⟩:=a.lU id o (ah7 g d) l
  grind
 dW b o v s h:=Gz a (a.dW b o v s h)
mutual
theorem VE{G:Gh}{E:AS}{w:World}(m:aX P B ax G E w){n:Nat}: ∀ (k:Nat) (v f:AV) (v':Value),freeze E n k v=some f->an G v v'->an (G.cut n w) f v'/\f.refs<=n
 |0,_,_,_,h,_=>by simp[freeze]at h
 |k+1,v,f,v',h,r=>by
  unfold freeze at h;split at h
  ·rename_i J;cases h;exact⟨r.ep (VD m) _ _ J,J⟩
  ·rename_i J;split at h
   ·rename_i id ak sz off len cK;split at h
    ·rename_i T q ty af he;split at h
     ·rename_i Y;obtain⟨c1,c2,c3⟩:=Y;subst c1 c2;split at h
      ·rename_i g z;cases h;obtain⟨g1,g2,S,c,pre,vs,post,Z,R,U,M,K,D⟩:=m.obj id _ he r.Me;have N:G.on id:=⟨by rw[m.len];exact(ack.1 he).1,r.Me⟩;have H:n<=id:=by simp only[AV.refs]at J;omega
       simp only[an]at r;obtain⟨_,_,a,cap,e,d1,d2,d3⟩:=r;obtain⟨f1,f2,f3⟩:=d3 g1;have L:=K.slice (l:=off) (n:=len) S;obtain⟨y,x,t⟩:=MF m k _ g _ z L;have d:g.length=len:=by
        have:=t;rw[this.1];simp;omega
       refine⟨⟨a.block,a.off,cap,q,_,?_,by rw[d];exact d1.1,λA=>by rw[d];exact d2 A,?_,?_,(D.drop _).take _,y⟩,x⟩
       ·rw[e,d];congr 2;obtain⟨b,o,s⟩:=a;have:=d1.2;simp only at this;rw[this]
       ·exact t.2 q (λel Q=>S el (ao1 (ahW Q)))
       ·intro j u i;have p:0<cap:=by
         by_cases h0:len=0
         ·subst h0;simp at i
         ·omega
        have F:a.off=G.base id+off*q:=by rw[f2 p]
        have I:a.block=G.bb id:=by rw[f2 p]
        rw[F,I,amY H N];refine Cz Z _ u ?_;have V:=K.len S;rw[amU]at i;split at i
        ·rw[aki]at i;have W:=(ack.1 i).1;rw[R,aeY (by omega),acj (by omega),<-i]
         congr 1;omega
        ·cases i
      ·cases h
     ·cases h
    ·cases h
   ·rename_i cs;split at h
    ·rename_i C z;cases h;simp only[an]at r;obtain⟨vs,rfl,l,D⟩:=r;obtain⟨y,x,_⟩:=GA m k cs C _ z l;exact⟨⟨vs,rfl,y,D⟩,x⟩
    ·cases h
   ·rename_i cs;split at h
    ·rename_i C z;cases h;simp only[an]at r;obtain⟨vs,rfl,l⟩:=r;obtain⟨y,x,_⟩:=GA m k cs C _ z l;exact⟨⟨vs,rfl,y⟩,x⟩
    ·cases h
   ·rename_i af cK;split at h
    ·rename_i g z;cases h;simp only[an]at r;obtain⟨b,o,cap,sz,vs,rfl,d1,d2,d3,O,D,K⟩:=r;obtain⟨y,x,t⟩:=MF m k af g _ z K;refine⟨⟨b,o,cap,sz,vs,by rw[t.1],by rw[t.1];exact d1,λA=>by rw[t.1];exact d2 A,t.2 sz d3,λj u i=>Gz m (O j u i),D,y⟩,x⟩
    ·cases h
   ·cases h
theorem GA{G:Gh}{E:AS}{w:World}(d:aX P B ax G E w){n:Nat}: ∀ (k:Nat) (cs b:List AV) (vs:List Value),iY E n k cs=some b->aG G cs vs->aG (G.cut n w) b vs/\aL b<=n/\b.length=cs.length
 |k,[],b,vs,h,r=>by
  cases k<;>simp only[iY,ac1]at h<;>subst h<;>simp only[aG]at r<;>subst r<;>simp[aG,aL]
 |0,_::_,_,_,h,_=>by simp[iY]at h
 |k+1,a::as,b,vs,h,r=>by
  simp only[iY]at h;split at h
  ·rename_i a' i;split at h
   ·rename_i c has;cases h;simp only[aG]at r;obtain⟨v,q,rfl,l,j⟩:=r;obtain⟨g,o⟩:=VE d k a a' v i l;obtain⟨f,m,e⟩:=GA d (k+1) as c q has j;exact⟨⟨v,q,rfl,g,f⟩,by simp only[aL];omega,by simp[e]⟩
   ·cases h
  ·cases h
theorem MF{G:Gh}{E:AS}{w:World}(e:aX P B ax G E w){n:Nat}: ∀ (k:Nat) (af b:List (List AV)) (vs:List Value),rV E n k af=some b->bF G af vs->
  bF (G.cut n w) b vs/\b9 b<=n/\ (b.length=af.length/\ ∀sz,(∀el∈af,el.length=sz)-> ∀el∈b,el.length=sz)
 |k,[],b,vs,h,r=>by
  cases k<;>simp only[rV,ac1]at h<;>subst h<;>simp only[bF]at r<;>subst r<;>simp[bF,b9]
 |0,_::_,_,_,h,_=>by simp[rV]at h
 |k+1,a::as,b,vs,h,r=>by
  simp only[rV]at h;split at h
  ·rename_i a' o;split at h
   ·rename_i d has;cases h;simp only[bF]at r;obtain⟨v,q,rfl,s,p⟩:=r;obtain⟨j,u,l⟩:=GA e k a a' v o s;obtain⟨i,t,g,f⟩:=MF e (k+1) as d q has p;refine⟨⟨v,q,rfl,j,i⟩,by simp only[b9];omega,by simp[g],λsz hu el c=>?_⟩;rcases aeZ.1 c with rfl|c
    ·rw[l];exact hu a (by simp)
    ·exact f sz (λx m=>hu x (by simp[m])) el c
   ·cases h
  ·cases h
end
def xY{gI:Gh}{cy:AS}{t:World}(k:aX P B ax gI cy t){G:Gh}{E:AS}(f:gI.le G)(x:aX P B ax G E w)(d:AS.Ext {heap:=cy.heap,lo:=none} E){v:AV}{v':Value}(D:an G v v'):
  ∃a,gI.le a/\aX P B ax a (finish cy.heap.length cy.lo v E).2 w/\an a (finish cy.heap.length cy.lo v E).1 v'/\cy.Ext (finish cy.heap.length cy.lo v E).2:=by
 have nX: ∃a,gI.le a/\aX P B ax a {heap:=E.heap,lo:=gS cy.lo E.lo} w/\an a v v'/\cy.Ext {heap:=E.heap,lo:=gS cy.lo E.lo}:=by
  refine⟨G,f,x.lo _,D,d.len,λj h=>?_,λj o h=>?_⟩
  ·cases E.lo with
   |none=>exact h
   |some l=>exact Ae (.inl h)
  ·obtain⟨o',s,g⟩:=d.obj j o h;refine⟨o',s,g.imp id λ ⟨l,e,q⟩=>?_⟩;simp only[gS,e];exact Ae (.inr q)
 have clear: (∀j,j<cy.heap.length-> ¬Ad E.lo j)-> ∀c,freeze E cy.heap.length 12 v=some c->
   ∃a,gI.le a/\aX P B ax a {heap:=E.heap.take cy.heap.length,lo:=cy.lo} w/\an a c v'/\cy.Ext {heap:=E.heap.take cy.heap.length,lo:=cy.lo}:=by
  intro z c C;have A:=k.len;have y: ∀j o,j<cy.heap.length->E.heap[j]?=some o->o.le cy.heap.length:=by
   intro j o r ho;have H:cy.heap[j]?=some cy.heap[j]:=ac7 r;obtain⟨o',s,g⟩:=d.obj j _ H;rw[ho]at s;cases s;rcases g with g|g
   ·have:=g cy.heap.length (by have:=k.alL H;rwa[A]at this);exact this.mono (by omega)
   ·exact absurd g (z j r)
  have m:cy.heap.length<=G.n:=by rw[x.len];exact d.len
  obtain⟨I,J⟩:=VE x 12 v c v' C D;refine⟨G.cut cy.heap.length w,?_,x.cut m y _,I,?_,λj h=>h,λj o h=>?_⟩
  ·exact{bG:=λb o u h=>Gz x (f.bG b o u h),n:=by simp[Gh.cut,A],on:=λi p=>⟨by have:=p.1;simp only[Gh.cut];omega,(f.on i p).2⟩,ak:=λi p=>f.ak i p,same:=λi p e=>f.same i p e,pz:=λi p=>f.pz i p}
  ·have:=d.len;simp only at this;simp;omega
  ·have r:j<cy.heap.length:=(ack.1 h).1;obtain⟨o',s,g⟩:=d.obj j o h;refine⟨o',by simp[r,s],.inl ?_⟩;rcases g with g|g
   ·exact g
   ·exact absurd g (z j r)
 unfold finish;cases q:E.lo with
 |none=>
  simp only[ae4];cases C:freeze E cy.heap.length 12 v with
  |none=>simp only;rw[q]at nX;exact nX
  |some c=>exact clear (by rintro j _ ⟨l,e,_⟩;rw[q]at e;cases e) c C
 |some l=>
  rw[q]at nX;by_cases h:cy.heap.length<=l
  ·simp only[h,decide_true,ae4];cases C:freeze E cy.heap.length 12 v with
   |none=>exact nX
   |some c=>exact clear (by rintro j r ⟨K,e,F⟩;rw[q]at e;cases e;omega) c C
  ·simp only[h,aAM,aeJ,ags];exact nX
end
section
variable{P:Program}{X:Ctx}{B:Nat}{ax:World}{di:List Deferred}
def W(r:oN):Fence:={fn:=λ_=>True,depth:=none,alive:=false,round:=r}
theorem amZ:W none=Fence.wide:=rfl
def CH(r:oN)(n:Nat): (W r).room n:=λ_ h=>by simp[W]at h
def MG{r a:oN}{args:Array Value}{R:Ending->World->Prop}(h:CallsIn (W r) n P f args w R):CallsIn (W a) b P f args w R:=
 ⟨trivial,λcs _=>h.2 cs (CH _ _)⟩
def am0{r d:oN}{e:Nat}{a:Array Value}{as b:Code}{R:Ending->World->Prop}(h:RoundIn (W r) n P l f a as b w R):RoundIn (W d) e P l f a as b w R:=
 ⟨trivial,λc cs _=>h.2 c cs (CH _ _)⟩
def Ends(P:Program)(B:Nat)(ax:World)(G:Gh)(E:AS):aU->Ending->World->Prop
 |.ret v E',.returned v',w'=> ∃a,G.le a/\aX P B ax a E' w'/\an a v v'/\E.Ext E'
 |.panic v E',.panicked chain,w'=> ∃a v',chain=[{v:=v',recovered:=false}]/\G.le a/\aX P B ax a E' w'/\an a v v'/\E.Ext E'
 |_,_,_=>False
def CI(P:Program)(K:Ending->World->Prop):Result Next->Prop
 |.ok (.value v) w'=>K (.returned v) w'
 |.ok (.enter f args) w'=>CallsIn (W none) 0 P f args w' K
 |.ok (.round l f tmps as bd) w'=>RoundIn (W none) 0 P l f tmps as bd w' K
 |_=>False
def v9(fv:Value)(args:Array Value):Sem Next:=do let d<-Deferred.ofValue fv args;invoke d.target d.args
def fR(P:Program)(B:Nat)(ax:World)(C:bJ):Prop:=
 ∀fv args E c,C fv args E=some c-> ∀G w b (a:Array Value),aX P B ax G E w->an G fv b->aG G args a.toList->CI P (Ends P B ax G E c) ((v9 b a).run P w)
def gW(di:List Deferred)(G:Gh):lN->List Deferred->Prop
 | [],a=>a=di
 |m::ms,a=> ∃d r k,a=d::r/\d.target= .collected k/\G.on m/\ (G.ak m=0->k=G.bb m)/\gW di G ms r
theorem gW.mono{G c:Gh}(h:G.le c): ∀ {ms:lN} {b:List Deferred},gW di G ms b->gW di c ms b
 | [],_,r=>r
 |m::ms,_,r=>by
  simp only[gW]at*;obtain⟨d,q,k,e,i,a,g,f⟩:=r;refine⟨d,q,k,e,i,h.on _ a,λl=>?_,f.mono h⟩;have j:=h.ak _ a;rw[(h.same _ a (by omega)).1];exact g (by omega)
theorem gW.dQ{G c:Gh}(h:G.sub c): ∀ {ms:lN} {b:List Deferred},gW di G ms b->gW di c ms b
 | [],_,r=>r
 |m::ms,_,r=>by
  simp only[gW]at*;obtain⟨d,q,k,e,i,a,g,f⟩:=r;refine⟨d,q,k,e,i,h.on _ a,λl=>?_,f.dQ h⟩;have j:=h.ak _ a;rw[(h.same _ a (by omega)).1];exact g (by omega)
def gw(G:Gh):Ex->Exit->Prop
 |.normal,.normal=>True
 |.exit i,.exit j=>i=j
 |.ret,.ret=>True
 |.panic v,.panic chain=> ∃v',chain=[{v:=v',recovered:=false}]/\an G v v'
 |_,_=>False
def mB(P:Program)(B:Nat)(ax:World)(di:List Deferred)(gI:Gh)(cy:AS)(nt:Nat)(b:Ex×Fr×AS)(e:Exit)(a:Act)(w:World):Prop:=
 ∃G,gI.le G/\aX P B ax G b.2.2 w/\cP G nt b.2.1.env a.tmps/\gW di G b.2.1.marks a.defers/\cy.Ext b.2.2/\gw G b.1 e
theorem mB.trans{gI b:Gh}{cy c:AS}{d:Ex×Fr×AS}{e:Exit}(h:mB P B ax di b c nt d e a w)(hg:gI.le b)(f:cy.Ext c):mB P B ax di gI cy nt d e a w:=by
 obtain⟨G,m,l,k,j,i,g⟩:=h;exact⟨G,Gh.le_trans hg m,l,k,j,f.trans i,g⟩
theorem cP.set{G:Gh}{e:Env}{a:Array Value}(h:cP G nt e a)(g:d<nt){v:AV}(f:an G v v'):cP G nt (e.set d v) (a.setIfInBounds d v')where
 size:=by simp[h.size]
 get t u b:=by
  rw[amE]at b;simp only[Env.set];split at b
  ·rename_i e;subst e;split at b
   ·cases b;rw[ac6 rfl];exact f
   ·cases b
  ·rename_i c;rw[ac0 (λe=>c e.symm)];exact h.get t u b
 out t b:=by
  simp only[Env.set];rw[ac0 (by omega)];exact h.out t b
def qB{G:Gh}{b:Fr}(h:cP G nt b.env a.tmps){dst:oN}(e: ∀d,dst=some d->d<nt){v:AV}(c:an G v v'):
  cP G nt (b.put dst v).env (a.put dst v').tmps/\ (b.put dst v).marks=b.marks/\ (a.put dst v').defers=a.defers:=by
 cases dst with
 |none=>exact⟨h,rfl,rfl⟩
 |some d=>exact⟨h.set (e d rfl) c,rfl,rfl⟩
theorem xZ{G:Gh}:an G .undef undef:=⟨#[],rfl,by simp[aG]⟩
def am1{G:Gh}{x:AV}{b:Bool}(h:an G x (.bool b)):x= .bool b:=by
 cases x<;>simp[an]at h;rw[h]
def x0{G:Gh}{e:Env}(k:cP G nt e a.tmps){d:Array Oper}{o:Oper}{g:Option (Nat×Bool)}(h:guardOf d o=some g):Region.wanted o (yielded d a.tmps)=gH e g:=by
 unfold guardOf at h;unfold Region.wanted;split at h
 ·rename_i s;cases h;simp[s,gH]
 ·rename_i j want q;split at h
  ·rename_i t p;cases h;simp only[q,gH,yielded,p,apb];by_cases c:t<a.tmps.size
   ·have f:=k.get t a.tmps[t] (by simp[c]);simp only[axo c];cases l:a.tmps[t]with
    |bool b=>
     rw[l]at f;rw[am1 f];simp
    |_=>
     rw[l]at f;cases m:e t<;>rw[m]at f<;>simp[an]at f<;>simp
   ·have i:a.tmps.size<=t:=Nat.le_of_not_lt c;rw[k.out t (by rw[<-k.size];exact i)];have:a.tmps[t]?=none:=Array.getElem?_eq_none i;simp[this]
  ·cases h
section region
variable{C:bJ}(hC:fR P B ax C)(hg:fP X B ax){r:oN}{n nt:Nat}
include hC hg
theorem x5{rows:Bool}{ops:Array Oper}{o:Oper}{x:aQ}(h:jb P rows ops o=some x)(hd: ∀d,x.dst=some d->d<nt){G:Gh}{E:AS}{F:Fr}(hw:aX P B ax G E w)(J:cP G nt F.env a.tmps)(hm:gW di G F.marks a.defers)
  {s:Out} (l:exec X C x.i F.env E=some s) {next:Act->World->Prop} {Q:Exit->Act->World->Prop}
  (T: ∀v E',s= .ok v E'-> ∀H a' w',G.le H->aX P B ax H E' w'->E.Ext E'->cP H nt (F.put x.dst v).env a'.tmps->gW di H (F.put x.dst v).marks a'.defers->next a' w')
  (m: ∀v E',s= .panic v E'-> ∀e a' w',mB P B ax di G E nt (.panic v,F,E') e a' w'->Q e a' w'):o.wpIn (W r) n P a w next Q:=by
 refine⟨λ_ _=>trivial,?_⟩;unfold jb at h;split at h
 ·rename_i i g b jd;cases h;have R:o.semAt (W r).round a.eval=execOp a.eval o:=by
   apply Oper.semAt_eq;intro c e;simp[kW,e]at b
  rw[R];have aq: ∀v E',s= .ok v E'->Good P B ax G E v E' ((execOp a.eval o).run P w)->o.uponIn (W r) n P a next Q ((execOp a.eval o).run P w):=by
   intro v E' e L;obtain⟨H,w',v',D,q,N,V,U⟩:=L;obtain⟨p1,p2,p3⟩:=qB (a:=a) (J.mono q) hd V;have hn:=T v E' e H (a.put o.dst v') w' q N U p1 (by rw[p2,p3];exact hm.mono q);rcases D with D| ⟨D,Y⟩
   ·rw[D];exact hn
   ·rw[D];subst Y;exact hn
  by_cases Z:i.plain=true
  ·cases s with
   |ok v E'=>exact aq v E' rfl (amT hw hg J C b Z l)
   |panic v E'=>
    exfalso;cases i<;>simp[I.plain]at Z<;>simp only[exec,gv]at l<;>(repeat' split at l)<;>(try cases l)
  ·cases z:o.op with
   |call c=>
    simp only[kW,z]at b;obtain⟨callee,A,cts⟩:=c;have M: ∃f fs as,callee= .value f/\bQ f=some fs/\nU A.toList=some as/\i= .call fs as:=by
     unfold Cw at b;split at b
     case h_1 d1 d2 d3 f hc=>
      simp only at hc;split at b
      ·rename_i f' as q N;cases b;exact⟨_,_,_,hc,q,N,rfl⟩
      ·cases b
     all_goals exfalso
     all_goals(first| (repeat' split at b)|skip)<;>(try cases b)<;>(try(simp only[aeL]at b;obtain⟨_,_,rfl⟩:=b))<;>simp[I.plain]at Z
    obtain⟨f,fs,as,rfl,hf,has,rfl⟩:=M;have u: (execOp a.eval o).run P w=(v9 (a.eval f) (A.map a.eval)).run P w:=by
     unfold execOp;simp only[z];rfl
    simp only[exec]at l;have key: ∀O,C (fs.get F.env) (as.map (·.get F.env)) E=some O->CI P (Ends P B ax G E O) ((execOp a.eval o).run P w):=by
     intro O p;rw[u];exact hC _ _ _ _ p G w _ _ hw (cH J hf) (by simpa using xS J has)
    cases p:C (fs.get F.env) (as.map (·.get F.env)) E with
    |none=>simp[p]at l
    |some O=>
     have K:=key O p;have cont: ∀e k,Ends P B ax G E O e k->(match e with
       |.returned v=>next (a.put o.dst v) k
       |.panicked chain=>Q (.panic chain) a k
       |.outgrown=>LetsOut Q):=by
      intro e k j;cases O with
      |ret v E'=>
       simp only[p,ac1]at l;cases e with
       |returned v'=>
        obtain⟨H,q,N,V,U⟩:=j;obtain⟨p1,p2,p3⟩:=qB (a:=a) (J.mono q) hd V;exact T v E' l.symm H _ k q N U p1 (by rw[p2,p3];exact hm.mono q)
       |panicked _=>exact j.elim
       |outgrown=>exact j.elim
      |panic v E'=>
       simp only[p,ac1]at l;cases e with
       |returned _=>exact j.elim
       |panicked chain=>
        obtain⟨H,v',MH,q,N,V,U⟩:=j;exact m v E' l.symm _ _ _ ⟨H,q,N,J.mono q,hm.mono q,U,v',MH,V⟩
       |outgrown=>exact j.elim
     generalize(execOp a.eval o).run P w=res at K;unfold CI at K;split at K
     ·exact cont _ _ K
     ·exact⟨λh=>by simp[W]at h,MG (K.mono λe k h=>by have:=cont e k h;cases e<;>exact this)⟩
     ·exact⟨λh=>by simp[W]at h,am0 (K.mono λe k h=>by have:=cont e k h;cases e<;>exact this)⟩
     ·exact K.elim
   |panic x=>
    simp only[kW,z]at b;cases ho:bQ x with
    |none=>simp[ho]at b
    |some y=>
     simp only[ho,aeM,ac1]at b;subst b;simp only[exec]at l;split at l
     ·rename_i t v ht;cases l;have D:=cH J ho;rw[ht]at D;have S:=D;simp only[an]at D;obtain⟨v',Y,_⟩:=D;have u: (execOp a.eval o).run P w= .halt (.panic (.iface t v')) w:=by
       unfold execOp;simp only[z,Y];simp[Instr.panic,goPanic,Sem.run_bind,Sem.run,Result.andThen]
      rw[u];rw[Y]at S;exact m _ _ rfl _ _ _ ⟨G,G.le_refl,hw,J,hm,.refl E,_,rfl,S⟩
     ·cases l
   |_=>
    exfalso;simp only[kW,z]at b
    repeat' split at b
    all_goals(try cases b)
    all_goals(try(simp only[aeL]at b;obtain⟨_,_,rfl⟩:=b))
    all_goals first| (simp[I.plain]at Z;done)| (simp_all;done)
 ·cases h
end region
end
section
variable{P:Program}{X:Ctx}{B:Nat}{ax:World}{di:List Deferred}
section
variable{C:bJ}(hC:fR P B ax C)(hg:fP X B ax){r:oN}{n nt:Nat}{rows:Bool}
include hC hg
theorem MI{j:Array Oper}: ∀ (os:List Oper) (is:lN) (l:List aQ),is.map (j[·]?)=os.map some->kX P rows j os=some l->(∀x∈l,∀d,x.dst=some d->d<nt)->
  ∀ (G:Gh) (E:AS) (w:World) (fr:Fr) (a:Act) (res:Ex×Fr×AS) (Q:Exit->Act->World->Prop),aX P B ax G E w->cP G nt fr.env a.tmps->gW di G fr.marks a.defers->fg X C l fr E=some res->
  (∀e a w,mB P B ax di G E nt res e a w->Q e a w)->wpOpsIn (W r) n P j Q is a w
 | [],is,l,k,p,q,G,E,w,fr,a,res,Q,hw,he,hm,g,u=>by
   have:is=[]:=by simpa using k
   subst this;simp only[kX,ac1]at p;subst p;simp only[fg,ac1]at g;subst g;exact u _ _ _ ⟨G,G.le_refl,hw,he,hm,.refl E,trivial⟩
 |o::os,is,l,k,p,q,G,E,w,fr,a,res,Q,hw,he,hm,g,u=>by
  cases is with
  |nil=>simp at k
  |cons i is=>
   simp only[aj9,aA3]at k;obtain⟨D,k⟩:=k;simp only[kX]at p;split at p
   ·rename_i x xs f s;cases p;simp only[wpOpsIn,D];have F:guardOf j o=some x.g:=by
     unfold jb at f;split at f
     ·rename_i H;cases f;exact H
     ·cases f
    have t:x.dst=o.dst:=by
     unfold jb at f;split at f
     ·cases f;rfl
     ·cases f
    have A:=x0 he F;simp only[fg]at g;rw[A];split at g
    ·rename_i m;rw[ac6 m];split at g
     ·rename_i v E' hex;refine x5 hC hg f (q x (by simp)) hw he hm hex (λb c e R a' w' O H N M L=>?_) (λb c e=>by cases e);cases e;exact MI os is xs k s (λy z=>q y (by simp[z])) R E' w' _ a' res Q H M L g (λe a w h=>u e a w (h.trans O N))
     ·rename_i v E' hex;cases g;exact x5 hC hg f (q x (by simp)) hw he hm hex (λb c e=>by cases e) (λb c e S a' w' h=>by cases e;exact u _ _ _ h)
     ·cases g
    ·rename_i m;rw[ac0 m];refine⟨λ_ _=>trivial,?_⟩;obtain⟨K,J,I⟩:=qB (a:=a) he (q x (by simp)) (v:=.undef) (v':=undef) xZ;rw[<-t];exact MI os is xs k s (λy z=>q y (by simp[z])) G E w _ _ res Q hw K (by rw[J,I];exact hm) g u
   ·cases p
omit hC hg in
theorem am2(a:Array Oper): (List.range a.size).map (a[·]?)=a.toList.map some:=by
 apply an2;intro j;by_cases b:j<a.size
 ·simp[b]
 ·simp[b]
end
def x6(L:eJ):Prop:= ∀body fr E res,L body fr E=some res-> ∃k,iter k body fr E=some res
def Ak(P:Program)(B:Nat)(ax:World)(di:List Deferred)(r:oN)(n nt:Nat)(c:Code)(b:Fr->AS->jM):Prop:=
 ∀ (G:Gh) (E:AS) (w:World) (fr:Fr) (a:Act) (res:Ex×Fr×AS) (Q:Exit->Act->World->Prop),aX P B ax G E w->cP G nt fr.env a.tmps->gW di G fr.marks a.defers->b fr E=some res->
   (∀e a w,mB P B ax di G E nt res e a w->Q e a w)->c.wpIn (W r) n P Q a w
theorem VF{r:oN}{n nt:Nat}{c:Code}{t:Fr->AS->jM}(h:Ak P B ax di r n nt c t): ∀ (m:Nat) (G:Gh) (E:AS) (w:World) (fr:Fr) (a:Act) (res:Ex×Fr×AS) (Q:Exit->Act->World->Prop),
  aX P B ax G E w->cP G nt fr.env a.tmps->gW di G fr.marks a.defers->iter m t fr E=some res->(∀e a w,mB P B ax di G E nt res e a w->Q e a w)->
  ∀ (b:Frame) (k:List Item) (cs:List Frame),b.roundOf=(W r).round-> ∃e a' w',Q e a' w'/\ArrivesIn (Machine.fenced P (W r)) P (lone (b.atR a (.code c:: .inLoop c::k)) cs w) b k cs e a' w'
 |0,_,_,_,_,_,_,_,_,_,_,y,_,_,_,_,_=>by simp[iter]at y
 |m+1,G,E,w,fr,a,res,Q,hw,he,hm,y,O,b,k,cs,u=>by
  simp only[iter]at y;split at y
  ·rename_i q E' S;have j:=h G E w fr a (.normal,q,E') (Exit.then (λa' w'=>mB P B ax di G E nt (.normal,q,E') .normal a' w') (λ_ _ _=>False)) hw he hm S (λe a' w' i=>by
    have v:=i;obtain⟨s,M,L,K,J,I,H⟩:=i;cases e<;>simp[gw]at H;exact v)
   obtain⟨e,g,d,o,f⟩:=j b (.inLoop c::k) cs u trivial (CH _ _);cases e<;>try exact o.elim
   obtain⟨s,M,L,K,J,I,H⟩:=o;obtain⟨D,F,A,z,p⟩:=VF h m s E' d q g res Q L K J y (λe a w R=>O e a w (R.trans M I)) b k cs u;exact⟨D,F,A,z,.of_steps (StepsIn.trans f (.one (fenced_calm (n:=n) trivial (CH _ _) rfl) stepR_inLoop)) p⟩
  ·rename_i N;have j:=h G E w fr a res (Exit.then (λ_ _=>False) Q) hw he hm y (λe a' w' i=>by
    have o:=O e a' w' i;obtain⟨s,M,L,K,J,I,H⟩:=i;obtain⟨ex,q,E'⟩:=res;cases e<;>first|exact o| (exfalso;cases ex<;>simp[gw]at H;exact N q E' y))
   obtain⟨e,g,d,o,f⟩:=j b (.inLoop c::k) cs u trivial (CH _ _);cases e with
   |normal=>exact o.elim
   |exit id=>exact⟨_,g,d,o,.pass (x:=.inLoop c) rfl (λ_ _=>.inl (by simp)) f⟩
   |goto l=>exact⟨_,g,d,o,.pass (x:=.inLoop c) rfl (λ_ _=>.inl (by simp)) f⟩
   |ret=>exact⟨_,g,d,o,.pass (x:=.inLoop c) rfl (λ_ _=>.inl (by simp)) f⟩
   |panic T=>exact⟨_,g,d,o,.pass (x:=.inLoop c) rfl (λ_ _=>.inl (by simp)) f⟩
   |outgrown=>exact⟨_,g,d,o,.pass (x:=.inLoop c) rfl (λ_ _=>.inl (by simp)) f⟩
def am3{r:oN}{c:Code}{d:Fr->AS->jM}(h:Ak P B ax di r n nt c d)(m:Nat):Ak P B ax di r n nt (.loop c) (iter m d):=by
 intro G E w fr a res Q hw he hm j p b k cs i o f;obtain⟨e,a',w',l,g⟩:=VF h m G E w fr a res Q hw he hm j p b k cs i;exact⟨e,a',w',l,.of_steps (.one (fenced_calm o f rfl) stepR_loop) g⟩
end
section
variable{P:Program}{X:Ctx}{B:Nat}{ax:World}{di:List Deferred}
def oU(P:Program)(X:Ctx):Prop:= ∀f pf,X.code f=some pf-> ∃rows fn,P.funcs[f]?=some fn/\Cx P rows fn=some pf
def GB{rows:Bool}{fn:Func}{pf:PF}(h:Cx P rows fn=some pf): ∃c,fn.body=some c/\fh P rows fn.ntmps c=some pf.body/\oR P fn.results.toList=some pf.results/\pf.ntmps=fn.ntmps/\ (fn.name== "runtime.NumGoroutine")=false:=by
 unfold Cx at h;split at h
 ·rename_i c d;split at h
  ·rename_i b rs f e;split at h
   ·rename_i a;cases h;exact⟨c,d,f,e,rfl,by simpa using a⟩
   ·cases h
  ·cases h
 ·cases h
def VG{fn:Func}{c:Code}(d:P.funcs[f]?=some fn)(e:fn.body=some c)(b: (fn.name== "runtime.NumGoroutine")=false)(first cap args:Array Value)(w:World):
  (v9 (.func (.func f) first cap) args).run P w= .ok (.enter f (first++args++cap)) w:=by
 have a: ¬fn.name= "runtime.NumGoroutine" :=by simpa using b
 simp[v9,Deferred.ofValue,invoke,callFunc,arH,d,a,e]
def am4{r:oN}{b:PC}{g:Ex}{c:Option Code}(d:xQ (some b) c)(f:xM b=some g){Q:Exit->Act->World->Prop}(h: ∀e,(∀G,gw G g e)->Q e a w): ∃code,c=some code/\code.wpIn (W r) n P Q a w:=by
 cases b<;>simp[xM]at f<;>simp only[xQ]at d<;>subst d<;>subst f
 ·exact⟨_,rfl,wpIn_exit (h _ λ_=>rfl)⟩
 ·exact⟨_,rfl,wpIn_ret (h _ λ_=>trivial)⟩
section
variable{C:bJ}(hC:fR P B ax C)(hg:fP X B ax)(hX:oU P X){n nt:Nat}{rows:Bool}
include hC hX
theorem am5{bU:FuncId}{g:Operand}{g':ao}{N:Array Tmp}{assign body:Code}{as bd:PC}(h1:bQ g=some g')(h2:fh P rows nt assign=some as)(h3:fh P rows nt body=some bd)(h4:N.toList.all (· <nt)=true){L:eJ}:
  Ak P B ax di none n nt (.rangeFunc g N assign body) (bf X C L bU false (.iW g' N.toList as bd)):=by
 intro G E w fr a res Q hw he hm u hQ;simp only[bf,aeJ,ags]at u;split at u
 ·rename_i o;have S:=cH he h1;obtain⟨f,first,cap,pf,hgv,aAJ,hpf⟩: ∃f first cap pf,g'.get fr.env= .fn (.func f) first cap/\X.cg f=none/\X.code f=some pf:=by
   unfold qw at o;split at o
   ·rename_i f first cap hv
    simp only[aeW,Option.isNone_iff_eq_none,atY]at o;obtain⟨h1,pf,h2⟩:=o;exact⟨f,first,cap,pf,hv,h1,h2⟩
   ·cases o
  obtain⟨am8,fn,hf,am9⟩:=hX f pf hpf;obtain⟨c,M,_,_,_,H⟩:=GB am9;have ana:=S;rw[hgv]at S;simp only[an,m6]at S;obtain⟨f',d,t,Al,qC,aAK,aAL⟩:=S;subst qC;refine wpIn_rangeFunc (λVH _=>?_);have R:=he.size
  let y:Loop:={state:=.ready,pending:=none,fn:=VH,tmps:=a.tmps,params:=N,assign,body,defers:=w.heap.size}
  let k:=(w.alloc (.deferred (some []))).alloc (.loop y)
  have VI: (w.alloc (.deferred (some []))).heap.size=w.heap.size+1:=by simp
  have VJ:=hw.push (.deferred (some [])) .fO 0 0 ⟨by simp[Gh.push],by
   have: (G.push w.heap.size 0 0).bb G.n=w.heap.size:=by simp[Gh.push]
   rw[this];exact apk _ _⟩
  have s:=G.Af w.heap.size 0 0;have p:=(G.push w.heap.size 0 0).Af (w.alloc (.deferred (some []))).heap.size 0 0;have hw2:=VJ.push (.loop y) (.loop .ready none bU fr.env N.toList as bd) 0 0 ⟨by simp[Gh.push],y,by
   have: ((G.push w.heap.size 0 0).push (w.alloc (.deferred (some []))).heap.size 0 0).bb (G.push w.heap.size 0 0).n=(w.alloc (.deferred (some []))).heap.size:=by simp[Gh.push]
   rw[this];exact apk _ _,rfl,rfl,trivial,by
    have:=(he.mono s).mono p;show cP _ a.tmps.size fr.env a.tmps;rw[R];exact this,rfl,by show N.toList.all (· <a.tmps.size)=true;rw[R];exact h4,rows,by show fh P rows a.tmps.size assign=_;rw[R];exact h2,by show fh P rows a.tmps.size body=_;rw[R];exact h3⟩
  have i:=hw.len;have ane: ((G.push w.heap.size 0 0).push (w.alloc (.deferred (some []))).heap.size 0 0).on E.heap.length:=p.on _ (Gh.Cy hw);have F: ((G.push w.heap.size 0 0).push (w.alloc (.deferred (some []))).heap.size 0 0).on (E.heap.length+1):=by
   have:=Gh.Cy VJ (b:=(w.alloc (.deferred (some []))).heap.size) (ez:=0) (sz:=0);have e: (E.push .fO).heap.length=E.heap.length+1:=by simp[AS.push]
   rwa[e]at this
  refine⟨w.heap.size+1,[{target:=.collected w.heap.size,args:= #[]}],k,{target:=.fn (.func f) t,args:=d++ #[.func (.yield (w.heap.size+1)) #[] #[]]},k,f,d++ #[.func (.yield (w.heap.size+1)) #[] #[]]++t,k,?_,?_,λ_ _=>trivial,?_,λh=>by simp[W]at h,?_⟩
  ·show(Instr.enterLoop VH a.tmps N assign body none).run P w=_;simp[Instr.enterLoop,k,y]
  ·have anf:Act.eval a g= .func (.func f) d t:=Al;have hm0: (#[Operand.const (.func (.yield (w.heap.size+1)) #[] #[])]:Array Operand).map a.eval= #[.func (.yield (w.heap.size+1)) #[] #[]]:=by simp[Act.eval]
   simp only[rangeCall,resolve,hm0,anf,Deferred.ofValue,Sem.run_pure]
  ·have GC: ¬fn.name= "runtime.NumGoroutine" :=by simpa using H
   simp[invoke,callFunc,arH,hf,GC,M]
  ·have hy:an ((G.push w.heap.size 0 0).push (w.alloc (.deferred (some []))).heap.size 0 0) (.fn (.yield (E.heap.length+1)) [] []) (.func (.yield (w.heap.size+1)) #[] #[]):=by
     refine⟨_,#[],#[],rfl,⟨F,_,rfl,λ_=>by simp[Gh.push,i]⟩,by simp[aG],by simp[aG]⟩
   have z:=VG (P:=P) hf M H d t #[.func (.yield (w.heap.size+1)) #[] #[]] k;have Z:E.Ext ((E.push .fO).push (.loop .ready none bU fr.env N.toList as bd)):=(AS.Ext.push _ _).trans (.push _ _);have main: ∀cr,C (g'.get fr.env) [.fn (.yield (E.heap.length+1)) [] []] ((E.push .fO).push (.loop .ready none bU fr.env N.toList as bd))=some cr->
     CallsIn (W none) 0 P f (d++ #[.func (.yield (w.heap.size+1)) #[] #[]]++t) k (Ends P B ax ((G.push w.heap.size 0 0).push (w.alloc (.deferred (some []))).heap.size 0 0) ((E.push .fO).push (.loop .ready none bU fr.env N.toList as bd)) cr):=by
    intro cr K;have:=hC _ _ _ _ K _ k (a.eval g) #[.func (.yield (w.heap.size+1)) #[] #[]] hw2 ((ana.mono s).mono p) ⟨_,_,rfl,hy,by simp[aG]⟩;rw[Al,z]at this;exact this
   have hmarks: ∀x,((G.push w.heap.size 0 0).push (w.alloc (.deferred (some []))).heap.size 0 0).le x->gW di x (E.heap.length::fr.marks) ({target:=.collected w.heap.size,args:= #[]}::a.defers):=by
    intro x hG';refine gW.mono hG' ⟨_,_,w.heap.size,rfl,rfl,ane,λ_=>by simp[Gh.push,i],(hm.mono s).mono p⟩
   split at u
   ·rename_i v E' K;refine MG ((main _ K).mono λe q m=>?_);cases e with
    |panicked _=>exact m.elim
    |outgrown=>exact m.elim
    |returned v'=>
     obtain⟨x,U,q2,q3,q4⟩:=m;unfold endLoop at u;split at u
     ·rename_i st A ff env CJ GD ju Y;split at u
      ·cases u
      ·rename_i uE;have I:x.on (E.heap.length+1):=U.on _ F;obtain⟨o0,L',ob,os,oj,_,oe,op,MJ,ani⟩:=q2.obj _ _ Y I.2;have VK:x.bb (E.heap.length+1)=w.heap.size+1:=by
        rw[(U.same (E.heap.length+1) F (by rw[o0];simp[Gh.push,i])).1];simp[Gh.push,i]
       rw[VK]at ob;have V: (Instr.endLoop (w.heap.size+1)).run P q= .ok L'.pending (eW q (w.heap.size+1) (.loop {L' with state:=.exhausted})):=by
        have MK: ¬L'.state= .busy:=by rw[os];exact uE
        simp[Instr.endLoop,Instr.getLoop,getObj,setObj,Sem.run,ob,MK,eW]
       have D:aX P B ax x (E'.set (E.heap.length+1) (.loop .exhausted A ff env CJ GD ju) 0) (eW q (w.heap.size+1) (.loop {L' with state:=.exhausted})):=by
        have:=q2.put I (O:=.loop {L' with state:=.exhausted}) (o':=.loop .exhausted A ff env CJ GD ju) 0 ⟨o0,{L' with state:=.exhausted},uz (q2.low _ I).2,rfl,oj,trivial,oe,op,MJ,ani⟩;rw[VK]at this;exact this
       have J:E.Ext (E'.set (E.heap.length+1) (.loop .exhausted A ff env CJ GD ju) 0):=(Z.trans q4).trans (.set Y λn hn _=>hn);have l:=Gh.le_trans (Gh.le_trans s p) U;generalize eW q (w.heap.size+1) (.loop {L' with state:=.exhausted})=T at D V;refine⟨L'.pending,T,V,?_⟩;split at u
       ·cases u;simp only[xQ]at oj;rw[oj];exact hQ _ _ _ ⟨x,l,D,he.mono l,hmarks x U,J,trivial⟩
       ·rename_i j;split at u
        ·rename_i ex hex;cases u;obtain⟨code,CK,hwp⟩:=am4 (r:=none) (n:=n) (P:=P) (Q:=Q) oj hex (a:={a with defers:=[{target:=.collected w.heap.size,args:= #[]}]++a.defers}) (w:=T)
          (λe ank=>hQ _ _ _ ⟨x,l,D,he.mono l,hmarks x U,J,ank x⟩)
         rw[CK];exact hwp
        ·cases u
     ·cases u
   ·rename_i v E' K;cases u;refine MG ((main _ K).mono λe q m=>?_);cases e with
    |returned _=>exact m.elim
    |outgrown=>exact m.elim
    |panicked chain=>
     obtain⟨x,v',MH,U,q2,q3,q4⟩:=m;have l:=Gh.le_trans (Gh.le_trans s p) U;exact hQ _ _ _ ⟨x,l,q2,he.mono l,hmarks x U,Z.trans q4,v',MH,q3⟩
   ·cases u
 ·cases u
end
def Am(P:Program)(X:Ctx)(B:Nat)(ax:World):Prop:=
 ∀ (di:List Deferred) (C:bJ),fR P B ax C-> ∀ (rows:Bool) (r:oN) (n nt id:Nat) (ops:Array Oper) (xs:List aQ) (ys:List (aQ×lN)),kX P rows ops ops.toList=some xs->(∀x∈xs,∀d,x.dst=some d->d<nt)->Mc ops xs=some ys->
   Ak P B ax di r n nt (.region id ops true) (λfr E=>gV X C [] (iG E.heap.length ys) fr (E.my (dP ys)))
def wa{C:bJ}(hC:fR P B ax C)(hg:fP X B ax)(hX:oU P X)(ic:Am P X B ax){L:eJ}(hL:x6 L){rows:Bool}{bU:FuncId}{rd:Bool}{r:oN}(R:rd=r.isSome):
  ∀ (c:Code) (pc:PC),fh P rows nt c=some pc->Ak P B ax di r n nt c (bf X C L bU rd pc):=by
 intro c
 induction c with
 |skip=>
  intro pc h G E w fr a res Q hw he hm b i;simp only[fh,ac1]at h;subst h;simp only[bf,ac1]at b;subst b;exact wpIn_skip (i _ _ _ ⟨G,G.le_refl,hw,he,hm,.refl E,trivial⟩)
 |label l=>
  intro pc h G E w fr a res Q hw he hm b i;simp only[fh,ac1]at h;subst h;simp only[bf,ac1]at b;subst b;exact wpIn_label (i _ _ _ ⟨G,G.le_refl,hw,he,hm,.refl E,trivial⟩)
 |seq x y q v=>
  intro pc h G E w fr a res Q hw he hm b i;simp only[fh]at h;split at h
  ·rename_i T U K W;cases h;simp only[bf]at b;split at b
   ·rename_i m E' hb;refine aBd (q T K G E w fr a _ _ hw he hm hb (λe a' w' f=>?_));obtain⟨j,J,I,H,F,D,u⟩:=f;cases e<;>simp[gw]at u;exact v U W j E' w' m a' res Q I H F b (λe a w hh=>i e a w (hh.trans J D))
   ·rename_i z;refine aBd (q T K G E w fr a res _ hw he hm b (λe a' w' f=>?_));have Z:=i e a' w' f;obtain⟨j,J,I,H,F,D,u⟩:=f;obtain⟨ex,m,E'⟩:=res;cases e<;>first|exact Z| (exfalso;cases ex<;>simp[gw]at u;exact z m E' b)
  ·cases h
 |cond c x y q v=>
  intro pc h G E w fr a res Q hw he hm b i;simp only[fh]at h;split at h
  ·rename_i c' T U M K W;cases h;simp only[bf]at b;split at b
   ·rename_i t ht;have o:=cH he M;rw[ht]at o;simp only[an]at o;refine wpIn_cond o ?_;cases t with
    |true=>simp only[ae4]at b⊢;exact q T K G E w fr a res Q hw he hm b i
    |false=>simp only[aeJ,ags]at b⊢;exact v U W G E w fr a res Q hw he hm b i
   ·cases b
  ·cases h
 |block id c N=>
  intro pc h G E w fr a res Q hw he hm b i;simp only[fh]at h;obtain⟨p,M,rfl⟩:=aeL.1 h;simp only[bf]at b;split at b
  ·rename_i id' m E' hb;refine wpIn_block (N p M G E w fr a _ _ hw he hm hb (λe a' w' f=>?_));obtain⟨j,J,I,H,F,D,u⟩:=f;cases e<;>simp[gw]at u;subst u;simp only[Exit.inBlock];split at b
   ·rename_i A;cases b;rw[ac6 A];exact i _ _ _ ⟨j,J,I,H,F,D,trivial⟩
   ·rename_i A;cases b;rw[ac0 A];exact i _ _ _ ⟨j,J,I,H,F,D,rfl⟩
  ·rename_i z;refine wpIn_block (N p M G E w fr a res _ hw he hm b (λe a' w' f=>?_));have Z:=i e a' w' f;obtain⟨j,J,I,H,F,D,u⟩:=f;obtain⟨ex,m,E'⟩:=res;cases e<;>first|exact Z| (exfalso;cases ex<;>simp[gw]at u;exact z _ m E' b)
 |loop c N=>
  intro pc h G E w fr a res Q hw he hm b i;simp only[fh]at h;obtain⟨p,M,rfl⟩:=aeL.1 h;simp only[bf]at b;obtain⟨k,hk⟩:=hL _ _ _ _ b;exact am3 (N p M) k G E w fr a res Q hw he hm hk i
 |exit id=>
  intro pc h G E w fr a res Q hw he hm b i;simp only[fh,ac1]at h;subst h;simp only[bf,ac1]at b;subst b;exact wpIn_exit (i _ _ _ ⟨G,G.le_refl,hw,he,hm,.refl E,rfl⟩)
 |ret=>
  intro pc h G E w fr a res Q hw he hm b i;simp only[fh,ac1]at h;subst h;simp only[bf,ac1]at b;subst b;exact wpIn_ret (i _ _ _ ⟨G,G.le_refl,hw,he,hm,.refl E,trivial⟩)
 |region id ops draw=>
  intro pc h;simp only[fh]at h;split at h
  ·rename_i xs O;split at h
   ·rename_i S;have hd: ∀x∈xs,∀d,x.dst=some d->d<nt:=by
     intro x K d Y;have:=aeT.1 S x K;rw[Y]at this;simpa using this
    cases draw with
    |false=>
     simp only[aeJ,ags,ac1]at h;subst h;intro G E w fr a res Q hw he hm b i;simp only[bf]at b;exact wpIn_region (MI hC hg ops.toList _ xs (am2 ops) O hd G E w fr a res Q hw he hm b i)
    |true=>
     simp only[ae4]at h;obtain⟨ys,V,rfl⟩:=aeL.1 h;intro G E w fr a res Q hw he hm b i;simp only[bf]at b;exact ic _ C hC rows r n nt id ops xs ys O hd V G E w fr a res Q hw he hm b i
   ·cases h
  ·cases h
 |rangeFunc g ps assign body iha ihb=>
  intro pc h;simp only[fh]at h;split at h
  ·rename_i g' as bd h1 h2 h3;split at h
   ·rename_i h4;cases h;cases r with
    |none=>
     subst R;exact am5 hC hX h1 h2 h3 h4
    |some l=>
     subst R;intro G E w fr a res Q hw he hm b i;simp[bf]at b
   ·cases h
  ·cases h
 |scope c N=>intro pc h;simp[fh]at h
 |goto l=>intro pc h;simp[fh]at h
 |refuse s=>intro pc h;simp[fh]at h
end
section
variable{P:Program}{X:Ctx}{B:Nat}{ax:World}{di:List Deferred}
def anl{x:Value}(h: (Instr.loadAt t x).run P w= .ok v w): (do loadVar t (<-asAddr x):Sem Value).run P w= .ok v w:=by
 cases x with
 |pointer a=>
  cases a with
  |some a=>simpa[Instr.loadAt,Instr.sureAddr,asAddr]using h
  |none=>simp[Instr.loadAt,Instr.sureAddr,Sem.run_bind,stuck,Sem.run,Result.andThen]at h
 |_=>simp[Instr.loadAt,Instr.sureAddr,Sem.run_bind,stuck,Sem.run,Result.andThen]at h
def CM(b:Array Value):ResultVar->Sem Value
 |.tmp t=>pure (b.getD t undef)
 |.cell a t=>do loadVar t (<-asAddr (b.getD a undef))
def anm(fn:Func)(b:Array Value):results fn b=(do let vs<-fn.results.mapM (CM b);pure (if h:vs.size=1 then vs[0]else .tuple vs)):=by
 have:CM b=(λ
  |.tmp t=>pure (b.getD t undef)
  |.cell a t=>do loadVar t (<-asAddr (b.getD a undef))):=by
  funext x
  cases x<;>rfl
 unfold results;rw[this];rfl
theorem MM(hg:fP X B ax){G:Gh}{E:AS}{w:World}(k:aX P B ax G E w){nt:Nat}{e:Env}{d:Array Value}(j:cP G nt e d): ∀ (l:List ResultVar) (rs:List RV) (vs:List AV),oR P l=some rs->kr X E e rs=some vs->
  ∃g,(l.mapM (CM d)).run P w= .ok g w/\aG G vs g
 | [],rs,vs,h,f=>by
   simp only[oR,ac1]at h;subst h;simp only[kr,ac1]at f;subst f;exact⟨[],by simp,by simp[aG]⟩
 |.tmp t::l,rs,vs,h,f=>by
  simp only[oR]at h;obtain⟨i,p,rfl⟩:=aeL.1 h;simp only[kr,oQ]at f;split at f
  ·rename_i c o;cases f;obtain⟨g,e1,r⟩:=MM hg k j l i c p o;refine⟨d.getD t undef::g,?_,⟨_,_,rfl,Mh j t,r⟩⟩;rw[aA7];simp only[Sem.run_bind,CM,Sem.run_pure,Result.andThen_ok];rw[e1];simp only[Result.andThen_ok,Sem.run_pure]
  ·cases f
 |.cell a t::l,rs,vs,h,f=>by
  simp only[oR]at h;split at h
  ·rename_i b n i u s p;cases h;simp only[kr,oQ]at f;split at f
   ·rename_i v o;split at f
    ·rename_i c m;cases f;obtain⟨g,e1,r⟩:=MM hg k j l i c p m;obtain⟨v',y,q⟩:=UX k hg u s (Mh j a) o;have e3:=anl y;refine⟨v'::g,?_,⟨_,_,rfl,q,r⟩⟩;rw[aA7];have x: (CM d (.cell a t)).run P w= .ok v' w:=e3;simp only[Sem.run_bind];rw[x];simp only[Result.andThen_ok];rw[e1];simp only[Result.andThen_ok,Sem.run_pure]
    ·cases f
   ·cases f
  ·cases h
def CN(hg:fP X B ax){G:Gh}{E:AS}(k:aX P B ax G E w){e:Env}{b:Array Value}(m:cP G nt e b){fn:Func}{f:List RV}{v:AV}(h:oR P fn.results.toList=some f)(d:gg X E e f=some v):
  ∃v',(results fn b).run P w= .ok v' w/\an G v v':=by
 have key: ∀vs,kr X E e f=some vs-> ∃a:List Value,aG G vs a/\ (results fn b).run P w= .ok (if h:a.toArray.size=1 then a.toArray[0]else .tuple a.toArray) w:=by
  intro vs c;obtain⟨a,e1,r⟩:=MM hg k m _ f vs h c;refine⟨a,r,?_⟩;rw[anm,Array.mapM_eq_mapM_toList];simp only[Sem.run_bind,Sem.run_map];rw[e1];simp[Result.andThen]
 unfold gg at d;split at d
 ·rename_i i c;cases d;obtain⟨a,r,e1⟩:=key _ c;simp only[aG]at r;obtain⟨v',q,rfl,j,rfl⟩:=r;exact⟨v',by rw[e1];simp,j⟩
 ·rename_i vs g c;cases d;obtain⟨a,r,e1⟩:=key _ c;have l:=r.length;refine⟨.tuple a.toArray,?_,⟨_,rfl,by simpa using r⟩⟩;rw[e1,dif_neg];intro n;have:vs.length=1:=by simpa[l]using n
  obtain⟨x,rfl⟩:=List.length_eq_one_iff.1 this;exact g x rfl
 ·cases d
theorem x7: ∀ (ms:lN) (E a:AS),dV E ms=some a->E.Ext a
 | [],E,a,h=>by simp only[dV,ac1]at h;subst h;exact .refl E
 |m::ms,E,a,h=>by
  simp only[dV]at h;split at h
  ·rename_i hm;exact(AS.Ext.set (o':=.dead) (refs:=0) hm λ_ _ _=>trivial).trans (x7 ms _ a h)
  ·cases h
theorem x8{n:Nat}{fn:Func}{b:Array Value}{R:Ending->World->Prop}{u:FrameMode}(i:u≠ .run){G:Gh}: ∀ (ms:lN) (f:List Deferred) (E a:AS) (w:World),gW di G ms f->aX P B ax G E w->dV E ms=some a->
  (∀w',aX P B ax G a w'->LeavesInM (W none) n P fn b R di u w')->LeavesInM (W none) n P fn b R f u w
 | [],f,E,a,w,e,hw,c,h=>by
   simp only[gW]at e;subst e;simp only[dV,ac1]at c;subst c;exact h w hw
 |m::ms,f,E,a,w,e,hw,c,h=>by
  simp only[gW]at e;obtain⟨d,r,k,rfl,p,j,o,l⟩:=e;simp only[dV]at c;split at c
  ·rename_i hm;obtain⟨s,q⟩:=hw.obj m _ hm j.2;have g:=o s;subst g;refine⟨i,.inl ⟨_,eW w (G.bb m) (.deferred none),p,?_,?_⟩⟩
   ·simp[Instr.takeDeferred,getObj,setObj,Sem.run,q,eW]
   ·exact x8 i ms r (E.set m .dead 0) a _ l (hw.put j 0 trivial) c h
  ·cases c
def GF{G:Gh}{args:List AV}{a:Array Value}(e:aG G args a.toList)(j:args.length<=nt):cP G nt (dv args) (a++Array.replicate (nt-a.size) undef):=by
 have f:a.size=args.length:=by rw[<-amD];exact e.length
 refine⟨by simp;omega,λt v b=>?_,λt b=>?_⟩
 ·simp only[dv,aeN];rw[Array.getElem?_append]at b;split at b
  ·rename_i h;have c:t<args.length:=by omega
   obtain⟨u,hu,g⟩:=e.get t args[t] (ac7 c);rw[ac7 c];have:some u=some v:=by rw[<-hu,<-b];simp
   cases this;exact g
  ·rename_i i;have d:args.length<=t:=by omega
   rw[akh d];rw[azv]at b;split at b
   ·cases b;exact xZ
   ·cases b
 ·simp only[dv,aeN];rw[akh (by omega)];rfl
theorem VL{G:Gh}{nt:Nat}: ∀ (ps:lN) (args:List AV) (e:Env) (tmps:Array Value) (a:List Value),cP G nt e tmps->aG G args a->(∀p∈ps,p<nt)->cP G nt (iZ e ps args) ((ps.zip a).foldl (λtmps (p:Nat×Value)=>tmps.setIfInBounds p.1 p.2) tmps)
 | [],args,e,tmps,a,he,b,c=>by simpa[iZ]using he
 |p::ps,[],e,tmps,a,he,b,c=>by
  simp only[aG]at b;subst b;simpa[iZ]using he
 |p::ps,x::xs,e,tmps,a,he,b,c=>by
  simp only[aG]at b;obtain⟨v,q,rfl,g,f⟩:=b;simp only[iZ,List.zip_cons_cons,asp];exact VL ps xs _ _ q (he.set (c p (by simp)) g) f (λy d=>c y (by simp[d]))
def gX(P:Program)(B:Nat)(ax:World)(f:FuncId)(p:List AV->AS->Option aU):Prop:=
 ∀args E b,p args E=some b-> ∀G w (a:Array Value),aX P B ax G E w->aG G args a.toList->CI P (Ends P B ax G E b) ((callFunc f a).run P w)
section
variable{C:bJ}(hC:fR P B ax C)(hg:fP X B ax)(hX:oU P X)(ic:Am P X B ax){L:eJ}(hL:x6 L)
include hC hg hX ic hL
theorem ann{pf:PF}(T:X.code f=some pf){args:List AV}{E:AS}{q:aU}(R:args.length<=pf.ntmps)
  (h:leave X E.heap.length E.lo pf (bf X C L f false pf.body {env:=dv args,marks:=[]} {heap:=E.heap,lo:=none})=some q) {G:Gh} {w:World} {b:Array Value} (z:aX P B ax G E w) (S:aG G args b.toList):
  CallsIn (W none) 0 P f b w (Ends P B ax G E q):=by
 obtain⟨rows,fn,F,n⟩:=hX f pf T;obtain⟨c,U,l,m,A,D⟩:=GB n;cases g:bf X C L f false pf.body {env:=dv args,marks:=[]} {heap:=E.heap,lo:=none}with
 |none=>rw[g]at h;simp[leave]at h
 |some res=>
  rw[g]at h;have he:cP G fn.ntmps (dv args) (b++Array.replicate (fn.ntmps-b.size) undef):=GF S (by rw[<-A];exact R);refine aAI F U trivial (wa hC hg hX ic hL (r:=none) rfl c pf.body l G {heap:=E.heap,lo:=none} w {env:=dv args,marks:=[]} _ res _ (z.lo none) he rfl g (λe a w' Q=>?_)) rfl;obtain⟨V,K,J,N,I,H,p⟩:=Q;obtain⟨ex,fr,E'⟩:=res;have k:qx X E.heap.length E.lo pf fr E'=some q->LeavesInM (W none) 0 P fn a.tmps (Ends P B ax G E q) a.defers .returning w':=by
   intro h;unfold qx at h;split at h
   ·rename_i j o;split at h
    ·rename_i v O;cases h;refine x8 (by simp) fr.marks a.defers E' j w' I J o (λs d=>?_);obtain⟨v',e1,M⟩:=CN hg d N m O;refine⟨v',e1,?_⟩;obtain⟨i,y,x,u,t⟩:=xY z K d (H.trans (x7 _ _ _ o)) M;exact⟨i,y,x,u,t⟩
    ·cases h
   ·cases h
  cases ex with
  |normal=>cases e<;>simp[gw]at p;exact k h
  |ret=>cases e<;>simp[gw]at p;exact k h
  |exit id=>simp[leave]at h
  |panic v=>
   cases e<;>simp[gw]at p;rename_i chain;obtain⟨v',rfl,rv⟩:=p;simp only[leave]at h;split at h
   ·rename_i j o;cases h;refine x8 (by simp) fr.marks a.defers E' j w' I J o (λs d=>?_);obtain⟨i,y,x,u,t⟩:=xY z K d (H.trans (x7 _ _ _ o)) rv;exact⟨i,v',rfl,y,x,u,t⟩
   ·cases h
theorem ano{args:List AV}{E:AS}{cr:aU}(h:lS X C L l args E=some cr){G:Gh}(hw:aX P B ax G E w)(T:G.on l)(hl:aG G args c.toList):
  CI P (Ends P B ax G E cr) ((Instr.yield (G.bb l) c).run P w):=by
 unfold lS at h;split at h
 ·rename_i st aAP f env ps assign body anp;split at h
  ·rename_i U;obtain⟨o0,b,ob,os,oj,_,oe,op,MJ,rows,oa,obd⟩:=hw.obj l _ anp T.2;have r0:c.size=args.length:=by rw[<-amD];exact hl.length
   have GG:b.params.size=ps.length:=by rw[<-op];simp
   have hy: (Instr.yield (G.bb l) c).run P w= .ok (.round (G.bb l) b.fn ((b.params.zip c).foldl (λtmps (t,a)=>tmps.setIfInBounds t a) b.tmps) b.assign b.body) w:=by
    simp[Instr.yield,Instr.getLoop,getObj,Sem.run,ob,r0,GG,U]
   rw[hy];have htm: (b.params.zip c).foldl (λtmps (t,a)=>tmps.setIfInBounds t a) b.tmps=(ps.zip c.toList).foldl (λtmps (p:Nat×Value)=>tmps.setIfInBounds p.1 p.2) b.tmps:=by
    rw[<-Array.foldl_toList,Array.toList_zip,op]
   rw[htm];split at h
   ·rename_i fr Z ha;split at h
    ·rename_i g f' u S V ju I;have he:=VL ps args env b.tmps c.toList oe hl (λp hp=>by simpa using aeT.1 MJ p hp);refine roundIn_of_wpIn (F:=W none) trivial (wa hC hg hX ic hL (r:=some (G.bb l)) (rd:=true) (bU:=f) rfl b.assign assign oa G {heap:=E.heap,lo:=none} w {env:=iZ env ps args,marks:=[]} _ _ _ (hw.lo none) he rfl ha (λe a Y hr=>?_));obtain⟨z,q1,q2,q3,q4,q5,q6⟩:=hr;cases e<;>simp[gw]at q6;obtain⟨p0,y,pb,pst,pj,_,pe,pp,CJ,ant⟩:=q2.obj l _ I (q1.on l T).2;have k:z.on l:=q1.on l T;have hlG:G.on l:=T;have M:z.bb l=G.bb l:=(q1.same l hlG (by rw[p0,o0])).1;refine⟨eW Y (G.bb l) (.loop {y with state:=.busy}),?_,?_⟩
     ·rw[<-M];simp[Instr.beginRound,Instr.getLoop,getObj,setObj,Sem.run,pb,pst,eW]
     ·have anv:aX P B ax z (Z.set l (.loop .busy g f' u S V ju) 0) (eW Y (G.bb l) (.loop {y with state:=.busy})):=by
        have:=q2.put k (O:=.loop {y with state:=.busy}) (o':=.loop .busy g f' u S V ju) 0 ⟨p0,{y with state:=.busy},uz (q2.low _ k).2,rfl,pj,trivial,pe,pp,CJ,ant⟩;rw[M]at this;exact this
      cases An:bf X C L f true body fr (Z.set l (.loop .busy g f' u S V ju) 0)with
      |none=>rw[An]at h;simp[endRound]at h
      |some res=>
       rw[An]at h;refine wa hC hg hX ic hL (r:=some (G.bb l)) (rd:=true) (bU:=f) rfl b.body body obd z _ _ fr a res _ anv q3 q4 An (λe a' D hr=>?_);obtain⟨Q,u1,u2,u3,u4,u5,u6⟩:=hr;obtain⟨ex,GH,R⟩:=res;simp only[endRound]at h;split at h
       ·rename_i j aAQ aAR N d i o m hj H;cases h;obtain⟨v0,x,vb,vst,vj,_,ve,vp,vps,anx⟩:=u2.obj l _ H (u1.on l k).2;have J:Q.on l:=u1.on l k;have K:Q.bb l=G.bb l:=by rw[<-M];exact(u1.same l k (by rw[v0,p0])).1
        have anz:=Gh.le_trans q1 u1;have anA:AS.Ext {heap:=E.heap,lo:=none} (R.set l (.loop (if j.isNone then .ready else .done) j N d i o m) 0):=
         ((q5.trans (AS.Ext.set (o':=.loop .busy g f' u S V ju) (refs:=0) I λn hn _=>hn)).trans u5).trans (AS.Ext.set (o':=.loop (if j.isNone then .ready else .done) j N d i o m) (refs:=0) H λn hn _=>hn)
        have fin: ∀ (q:Option Code),xQ j q-> ∃v w',(Instr.endRound (G.bb l) q).run P D= .ok v w'/\Ends P B ax G E (.ret (.bool j.isNone) (finish E.heap.length E.lo (.bool j.isNone) (R.set l (.loop (if j.isNone then .ready else .done) j N d i o m) 0)).2) (.returned v) w':=by
         intro q A;have s:q.isNone=j.isNone:=by
          cases j with
          |none=>simp only[xQ]at A;subst A;rfl
          |some p=>cases p<;>simp only[xQ]at A<;>first|exact A.elim| (subst A;rfl)
         refine⟨.bool q.isNone,eW D (G.bb l) (.loop {x with state:=if q.isNone then .ready else .done,pending:=q}),?_,?_⟩
         ·rw[<-K];simp[Instr.endRound,Instr.getLoop,getObj,setObj,Sem.run,vb,eW]
         ·have anB:aX P B ax Q (R.set l (.loop (if j.isNone then .ready else .done) j N d i o m) 0) (eW D (G.bb l) (.loop {x with state:=if q.isNone then .ready else .done,pending:=q})):=by
            have:=u2.put J (O:=.loop {x with state:=if q.isNone then .ready else .done,pending:=q}) (o':=.loop (if j.isNone then .ready else .done) j N d i o m) 0
             ⟨v0,{x with state:=if q.isNone then .ready else .done,pending:=q},uz (u2.low _ J).2,by show(if q.isNone=true then LoopState.ready else LoopState.done)=_;rw[s],A,trivial,ve,vp,vps,anx⟩
            rw[K]at this;exact this
          obtain⟨anC,s1,s2,s3,s4⟩:=xY (v:=.bool j.isNone) (v':=.bool q.isNone) hw anz anB anA (by simp[an,s]);exact⟨anC,s1,s2,by simp[an,s],s4⟩
        cases ex with
        |normal=>
         simp only[qy,ac1]at hj;subst hj;cases e<;>simp[gw]at u6;exact fin none rfl
        |ret=>
         simp only[qy,ac1]at hj;subst hj;cases e<;>simp[gw]at u6;exact fin (some .ret) rfl
        |exit id=>
         simp only[qy,ac1]at hj;subst hj;cases e<;>simp[gw]at u6;subst u6;exact fin (some (.exit id)) rfl
        |panic v=>simp[qy]at hj
       ·cases h
    ·cases h
   ·cases h
  ·cases h
 ·cases h
theorem anD(J: ∀f p,X.cg f=some p->gX P B ax f p):fR P B ax (step X C L):=by
 intro fv args E N h G w K b hw g z;unfold step at h;split at h
 ·rename_i f first cap
  simp only[an,m6]at g;obtain⟨M,a,d,rfl,rfl,t,A⟩:=g;have i:v9 (.func (.func f) a d) b=callFunc f (a++b++d):=rfl;rw[i];have e:aG G (first++args++cap) (a++b++d).toList:=by
   simp only[Array.toList_append];exact(t.append z).append A
  split at h
  ·rename_i p D;exact J f p D _ _ _ h G w _ hw e
  ·split at h
   ·rename_i pf q;split at h
    ·rename_i F;obtain⟨rows,fn,v,o⟩:=hX f pf q;obtain⟨c,I,_,_,_,m⟩:=GB o;have j:=VG (P:=P) v I m a d b w;rw[i]at j;rw[j];exact ann hC hg hX ic hL q F h hw e
    ·cases h
   ·cases h
 ·rename_i l cap;simp only[an,m6]at g;obtain⟨M,a,d,rfl,⟨s,k,rfl,H⟩,t,A⟩:=g;have n:G.ak l=0:=by
   unfold lS at h;split at h
   ·rename_i st y f env ps assign body r;exact(hw.obj l _ r s.2).1
   ·cases h
  have u:=H n;subst u;have x:a= #[]:=by
   simp only[aG]at t;apply apy;simpa using t
  subst x;have i:v9 (.func (.yield (G.bb l)) #[] d) b=Instr.yield (G.bb l) (#[]++b):=rfl;rw[i,Array.empty_append];exact ano hC hg hX ic hL h hw s z
 ·cases h
end
end
section
variable{X:Ctx}
def nY{x:ao}{e a:Env}(h: ∀t∈x.tmps,e t=a t):x.get e=x.get a:=by
 cases x with
 |t i=>exact h i (by simp[ao.tmps])
 |c v=>rfl
def CO{x:Option ao}{e a:Env}(h: ∀y∈x.toList,∀t∈y.tmps,e t=a t):x.map (·.get e)=x.map (·.get a):=by
 cases x with
 |none=>rfl
 |some y=>simp only[aeM];rw[nY (h y (by simp))]
def GJ{xs:List ao}{e a:Env}(h: ∀t∈iu xs,e t=a t):xs.map (·.get e)=xs.map (·.get a):=by
 apply ans;intro x b;exact nY λt c=>h t (by simp only[iu,apm];grind)
def anE{a:List (Nat×Nat×ao)}{e b:Env}(h: ∀t∈iu (a.map (·.2.2)),e t=b t):a.map (λp=>(p.1,p.2.1,p.2.2.get e))=a.map (λp=>(p.1,p.2.1,p.2.2.get b)):=by
 apply ans;intro p d;rw[nY λt c=>h t (by simp only[iu,apm,aeO];grind)]
def VM{a b:ao}{e d:Env}(h: ∀t∈iu [a,b],e t=d t):a.get e=a.get d/\b.get e=b.get d:=
 ⟨nY λt c=>h t (by simp[iu,c]),nY λt c=>h t (by simp[iu,c])⟩
def anF{a b c:ao}{e f:Env}(h: ∀t∈iu [a,b,c],e t=f t):a.get e=a.get f/\b.get e=b.get f/\c.get e=c.get f:=
 ⟨nY λt d=>h t (by simp[iu,d]),nY λt d=>h t (by simp[iu,d]),nY λt d=>h t (by simp[iu,d])⟩
def GK{C:bJ}{i:I}{e m:Env}(h: ∀t∈i.reads,e t=m t)(E:AS):exec X C i e E=exec X C i m E:=by
 cases i with
 |mov x|box x|nilck x|un _ x|conv _ x|s2b x|mki _ x|ta _ x _ _|ext x _|len _ x|clear _ x|panic x|faddr _ x|fld _ _ _ x|load _ _ x=>
  simp only[exec,nY h]
 |alloc _|nT=>rfl
 |pick a b c|oO _ a b c=>obtain⟨l,k,o⟩:=anF h;simp only[exec,l,k,o]
 |build _ ps|bslice _ _ ps|rQ _ _ _ ps=>simp only[exec,anE h]
 |store _ a v|bin _ a v|shf _ a v|eq _ a v|ne _ a v|uq _ _ _ a v|iaddra _ _ a v|iaddrs _ a v|idxa _ _ _ a v|idxs a v|lookup _ _ a v _|append _ _ _ a v|copy _ a v=>
  obtain⟨l,k⟩:=VM h;simp only[exec,l,k]
 |mkf f a b=>
  simp only[exec];rw[GJ (xs:=a) λt d=>h t (by simp only[I.reads,iu,aoV,adB];exact .inl d),
   GJ (xs:=b) λt d=>h t (by simp only[I.reads,iu,aoV,adB];exact .inr d)]
 |slstr x lo j|slarr _ _ x lo j=>
  simp only[I.reads,iu,apj,aoV,adB,apm]at h;simp only[exec];rw[nY λt d=>h t (.inl d),CO λy g t d=>h t (.inr (.inl ⟨y,g,d⟩)),CO (x:=j) λy g t d=>h t (.inr (.inr ⟨y,g,d⟩))]
 |slsl _ x lo j n=>
  simp only[I.reads,iu,apj,aoV,adB,apm]at h;simp only[exec];rw[nY λt d=>h t (.inl d),CO (x:=lo) λy g t d=>h t (.inr (.inl (.inl ⟨y,g,d⟩))),CO (x:=j) λy g t d=>h t (.inr (.inl (.inr ⟨y,g,d⟩))),CO (x:=n) λy g t d=>h t (.inr (.inr ⟨y,g,d⟩))]
 |max xs|min xs=>simp only[exec,GJ h]
 |call f as=>
  simp only[I.reads,iu,apj,adB]at h;simp only[exec];rw[nY λt d=>h t (.inl d),GJ λt d=>h t (.inr d)]
def GL{i:I}{e b:Env}(h: ∀t∈i.reads,e t=b t)(E E':AS):aW i e E E'=aW i b E E':=by
 cases i with
 |load _ _ x=>simp only[aW,nY h]
 |store _ a v=>obtain⟨c,_⟩:=VM h;simp only[aW,c]
 |_=>rfl
def anG{C:bJ}{i:I}{e:Env}(j:i.cls=0): ∃o,∀E,exec X C i e E=gv E o:=by
 cases i<;>simp only[I.cls,reduceCtorEq]at j
 case mov x=>exact⟨some _,λ_=>rfl⟩
 case mki t x=>exact⟨some _,λ_=>rfl⟩
 case mkf f a b=>exact⟨some _,λ_=>rfl⟩
 case nilck x=>exact⟨_,λ_=>rfl⟩
 case bin op x y=>exact⟨_,λ_=>rfl⟩
 case un op x=>exact⟨_,λ_=>rfl⟩
 case slstr x lo g=>exact⟨_,λ_=>rfl⟩
 case slsl n x lo g l=>exact⟨_,λ_=>rfl⟩
 case slarr n sz x lo g=>exact⟨_,λ_=>rfl⟩
 case faddr o x=>exact⟨_,λ_=>rfl⟩
 case iaddra n sz x i=>exact⟨_,λ_=>rfl⟩
 case iaddrs sz x i=>exact⟨_,λ_=>rfl⟩
 case idxa b n sz x i=>exact⟨_,λ_=>rfl⟩
 case idxs x i=>exact⟨_,λ_=>rfl⟩
 case ta z x t ok=>exact⟨_,λ_=>rfl⟩
 case max xs=>exact⟨_,λ_=>rfl⟩
 case min xs=>exact⟨_,λ_=>rfl⟩
 case pick c a b=>cases h:c.get e<;>first|exact⟨some _,λ_=>by simp only[exec,h];rfl⟩|exact⟨none,λ_=>by simp only[exec,h];rfl⟩
 case build z ps=>cases h:eH z (ps.map λp=>(p.1,p.2.1,p.2.2.get e))<;>first|exact⟨some _,λ_=>by simp only[exec,h];rfl⟩|exact⟨none,λ_=>by simp only[exec,h];rfl⟩
 case bslice z n ps=>cases h:eH (List.replicate n z).flatten (ps.map λp=>(p.1,p.2.1,p.2.2.get e))<;>first|exact⟨some _,λ_=>by simp only[exec,h];rfl⟩|exact⟨none,λ_=>by simp only[exec,h];rfl⟩
 case shf op x y=>
  cases h:x.get e<;>cases d:y.get e<;>first|exact⟨none,λ_=>by simp only[exec,h,d];rfl⟩|exact⟨_,λ_=>by simp only[exec,h,d];rfl⟩
 case eq k x y=>cases h:eI k (x.get e) (y.get e)<;>first|exact⟨some _,λ_=>by simp only[exec,h];rfl⟩|exact⟨none,λ_=>by simp only[exec,h];rfl⟩
 case ne k x y=>cases h:eI k (x.get e) (y.get e)<;>first|exact⟨some _,λ_=>by simp only[exec,h];rfl⟩|exact⟨none,λ_=>by simp only[exec,h];rfl⟩
 case conv k x=>cases h:x.get e<;>first|exact⟨some _,λ_=>by simp only[exec,h];rfl⟩|exact⟨none,λ_=>by simp only[exec,h];rfl⟩
 case s2b x=>
  cases h:x.get e with
  |str s=>
   by_cases d:s.size<=room
   ·exact⟨some _,λ_=>by simp only[exec,h,d,ae4];rfl⟩
   ·exact⟨none,λ_=>by simp only[exec,h,d,ags];rfl⟩
  |_=>exact⟨none,λ_=>by simp only[exec,h];rfl⟩
 case fld b n off x=>cases h:x.get e<;>first|exact⟨none,λ_=>by simp only[exec,h];rfl⟩|exact⟨_,λ_=>by simp only[exec,h];rfl⟩
 case ext x i=>cases h:x.get e<;>first|exact⟨none,λ_=>by simp only[exec,h];rfl⟩|exact⟨_,λ_=>by simp only[exec,h];rfl⟩
theorem VN{i:I}(a:i.cls=0)(e:Env)(E E':AS):aW i e E E'= .no:=by
 cases i<;>simp only[I.cls,reduceCtorEq]at a<;>rfl
def wb{C:bJ}{i:I}{e:Env}{E E':AS}{v:AV}(j:exec X C i e E=some (.ok v E'))(g:aW i e E E'= .no):E'=E/\ ∀d,exec X C i e d=some (.ok v d)/\aW i e d d= .no:=by
 by_cases m:i.cls=0
 ·obtain⟨o,ho⟩:=anG (X:=X) (C:=C) (e:=e) m;rw[ho]at j;obtain⟨rfl,rfl⟩:=eA j;exact⟨rfl,λd=>⟨by rw[ho];rfl,VN m e _ _⟩⟩
 ·cases i<;>simp only[I.cls,not_true_eq_false]at m
  case load b n x=>
   simp only[exec]at j;obtain⟨h,rfl⟩:=eA j;refine⟨rfl,λd=>?_⟩;simp only[aW]at g⊢;unfold cp at h;split at g<;>first|cases g|skip
   ·rename_i l;rw[l]at h;simp only at h;simp[exec,gv,cp,l,h]
   ·rename_i l;rw[l]at h;simp only at h;simp[exec,gv,cp,l,h]
  case store n a x=>simp only[aW]at g;split at g<;>cases g
  case len k x=>
   simp only[exec]at j;obtain⟨h,rfl⟩:=eA j;refine⟨rfl,λd=>⟨?_,g⟩⟩;have:gF d k (x.get e)=gF E' k (x.get e):=by
    generalize x.get e=y;cases k<;>first|rfl| (cases y<;>first|rfl| (rename_i c;cases c<;>rfl))| (simp only[aW]at g;cases g)
   simp only[exec,this,h,gv]
  case call f as=>simp only[aW]at g;(repeat' split at g)<;>cases g
  all_goals simp[aW]at g
end
section
variable{X:Ctx}
def qD{C:bJ}{i:I}{e:Env}{E E':AS}{v:AV}(c:exec X C i e E=some (.ok v E'))(d:aW i e E E'= .q\/ ∃id off n,aW i e E E'= .rd id off n):E'=E:=by
 cases i with
 |load b n x=>exact(eA c).2
 |lookup g z m k ok=>exact(eA c).2
 |len k x=>exact(eA c).2
 |call f as=>
  simp only[aW]at d
  grind
 |store n a x=>
  simp only[aW]at d
  grind
 |_=>rcases d with h| ⟨_,_,_,h⟩<;>simp[aW]at h
def Ao:Option ae->Option (List AV)
 |some (.box cs _)=>some cs
 |_=>none
def r7{E:AS}{b:Bool}{id off:Nat}:cp X E b n (.ptr id off)=(Ao E.heap[id]?).bind λcs=>part b n cs off:=by
 unfold cp;simp only;cases h:E.heap[id]? with
 |none=>rfl
 |some o=>cases o<;>simp[Ao]
def VO{cs vs:List AV}{off:Nat}(h:off+vs.length<=cs.length)(a:j<off\/off+vs.length<=j): (aN cs off vs)[j]?=cs[j]?:=by
 unfold aN;rcases a with a|a
 ·grind
 ·rw[aeY (by simp;omega),aeY (by simp;omega),aki]
  grind
def anH{cs vs:List AV}{off a:Nat}{b:Bool}(h:a+vs.length<=cs.length)(d:off+Nat.max n 1<=a\/a+vs.length<=off):part b n (aN cs a vs) off=part b n cs off:=by
 have hm:n<=Nat.max n 1:=arI _ _;have c:1<=Nat.max n 1:=arc _ _;unfold part;rw[Mt h];cases b with
 |false=>
  exact VO h (by omega)
 |true=>
  simp only[ae4];split
  ·congr 2
   apply an2;intro j;simp only[amU,aki];split
   ·exact VO h (by omega)
   ·rfl
  ·rfl
def VP{C:bJ}{e:Env}{E E':AS}{v:AV}{a x:ao}{c:Nat}(j:exec X C (.store m a x) e E=some (.ok v E'))(q:aW (.store m a x) e E E'= .wr d c k)
  {b:Bool} {id off:Nat} (u:id≠d\/off+Nat.max n 1<=c\/c+k<=off):cp X E' b n (.ptr id off)=cp X E b n (.ptr id off):=by
 simp only[aW]at q;split at q
 ·rename_i i o s;cases q;simp only[exec,s,kp]at j;split at j
  ·rename_i t l;cases j;split at l
   ·rename_i cs g;split at l
    ·cases l;rw[r7,r7];by_cases f:id=d
     ·subst f;have p:id<E.heap.length:=(ack.1 g).1;have r:off+Nat.max n 1<=c\/c+(x.get e).cells.length<=off:=by omega
      simp only[AS.set,aeI p,Ao,g,apb];exact anH (by omega) r
     ·simp[AS.set,ach (λh=>f h.symm)]
    grind
   grind
  grind
 ·grind
 grind
def anI{E E':AS}{ty:TypeId}{bytes:Nat}{s v:AV}{ys:List (List AV)}(h:dO E ty sz bytes s ys=some (v,E')){b:Bool}{id off:Nat}:cp X E' b n (.ptr id off)=cp X E b n (.ptr id off):=by
 have push: ∀ (ak sz:Nat) (ty:TypeId) (af:List (List AV)),cp X (E.push (.row ak sz ty af)) b n (.ptr id off)=cp X E b n (.ptr id off):=by
  intro ak sz ty af;rw[r7,r7];simp only[AS.push,List.getElem?_append];split
  ·rfl
  ·rw[akh (by omega:E.heap.length<=id)];cases k:id-E.heap.length<;>simp[Ao]
 unfold dO at h;split at h
 ·split at h
  ·split at h
   ·cases h;rfl
   ·split at h
    ·cases h;exact push _ _ _ _
    ·cases h
  ·split at h
   ·cases h;rfl
   ·split at h
    ·cases h;exact push _ _ _ _
    ·cases h
  ·split at h
   ·cases h;rfl
   ·cases h
  ·rename_i a ak d g len cK;split at h
   ·rename_i f j i af he;split at h
    ·split at h
     ·cases h;rfl
     ·split at h
      ·cases h;exact push _ _ _ _
      ·cases h;rw[r7,r7]
       congr 1
       by_cases c:a=id
       ·subst c;have e:a<E.heap.length:=(ack.1 he).1;rw[he];simp[AS.set,e,Ao]
       ·simp[AS.set,ach c]
    ·cases h
   ·cases h
  ·cases h
 grind
def anJ{E E':AS}{a o:Nat}{x:AV}(h:kp E n (.dA a ak i o) x=some E'){b:Bool}{id off:Nat}:cp X E' b m (.ptr id off)=cp X E b m (.ptr id off):=by
 unfold kp at h;simp only at h;split at h
 ·rename_i w sz ty af he;split at h
  ·split at h
   ·cases h;rw[r7,r7];by_cases c:id=a
    ·subst c;have d:id<E.heap.length:=(ack.1 he).1;simp[AS.set,aeI d,Ao,he]
    ·simp[AS.set,ach (λh=>c h.symm)]
   grind
  grind
 grind
def VQ{C:bJ}{i:I}{e:Env}{E E':AS}{v:AV}(d:exec X C i e E=some (.ok v E'))(c:aW i e E E'= .app){b:Bool}{id off:Nat}:cp X E' b n (.ptr id off)=cp X E b n (.ptr id off):=by
 cases i with
 |append ty sz bytes s x=>
  simp only[exec]at d;split at d
  ·split at d
   ·rename_i h;cases d;exact anI h
   grind
  grind
 |load _ _ _=>simp only[aW]at c;split at c<;>cases c
 |store m a x=>
  simp only[aW]at c;split at c<;>first|cases c|skip
  rename_i g;simp only[exec,g]at d;split at d
  ·rename_i f;cases d;exact anJ f
  ·cases d
 |len k x=>simp only[aW]at c;split at c<;>cases c
 |call _ _=>simp only[aW]at c;(repeat' split at c)<;>cases c
 |_=>simp[aW]at c
def GM{i:I}{e:Env}{E E':AS}{id off:Nat}(c:aW i e E E'= .rd id off k): ∃b n a,i= .load b n a/\a.get e= .ptr id off/\k=Nat.max n 1:=by
 cases i with
 |load b n a=>
  simp only[aW]at c
  grind
 |store _ _ _=>simp only[aW]at c;grind
 |len k x=>simp only[aW]at c;grind
 |call _ _=>simp only[aW]at c;grind
 |_=>trivial
def GN{i:I}{e:Env}{E E':AS}{id off:Nat}(c:aW i e E E'= .wr id off k): ∃n a x,i= .store n a x:=by
 cases i with
 |load b n a=>simp only[aW]at c;grind
 |store n a x=>simp
 |len k x=>simp only[aW]at c;grind
 |call _ _=>simp only[aW]at c;grind
 |_=>trivial
def wc{C:bJ}{b:Bool}{a:ao}{e:Env}{E c:AS}{p:AV}{v:AV}{E':AS}(g:a.get e=p)(h:cp X c b n p=cp X E b n p)(d:exec X C (.load b n a) e E=some (.ok v E')):
  exec X C (.load b n a) e c=some (.ok v c):=by
 simp only[exec,g]at d⊢;obtain⟨f,_⟩:=eA d;rw[h,f];rfl
def CP{i:I}{e:Env}{E E':AS}(c:aW i e E E'= .rr): ∃b n a id ak j o,i= .load b n a/\a.get e= .dA id ak j o:=by
 cases i with
 |load b n a=>
  simp only[aW]at c
  grind
 |store _ _ _=>simp only[aW]at c;grind
 |len k x=>simp only[aW]at c;grind
 |call _ _=>simp only[aW]at c;grind
 |_=>trivial
def VS{C:bJ}{e:Env}{E E':AS}{v:AV}{a x:ao}{c:Nat}(l:exec X C (.store m a x) e E=some (.ok v E'))(r:aW (.store m a x) e E E'= .wr d c k)
  {b:Bool} {id o:Nat}:cp X E' b n (.dA id ak j o)=cp X E b n (.dA id ak j o):=by
 simp only[aW]at r;split at r
 ·rename_i i o' s;cases r;simp only[exec,s,kp]at l;split at l
  ·rename_i t p;cases l;split at p
   ·rename_i cs g;split at p
    ·cases p;unfold cp;by_cases f:id=d
     ·subst f;have q:id<E.heap.length:=(ack.1 g).1;simp[AS.set,aeI q,g]
     ·simp[AS.set,ach (λh=>f h.symm)]
    grind
   grind
  grind
 ·grind
 grind
def VT{i:I}{e:Env}{E E':AS}(c:aW i e E E'= .new k){b:Bool}{id off:Nat}(h:id<k):cp X E' b n (.ptr id off)=cp X E b n (.ptr id off):=by
 cases i with
 |load b n a=>simp only[aW]at c;grind
 |store _ _ _=>simp only[aW]at c;grind
 |len k x=>simp only[aW]at c;grind
 |call _ _=>
  simp only[aW]at c;split at c
  ·grind
  split at c
  ·rename_i d;cases c;rw[r7,r7,<-d,amU,ac6 h]
  grind
 |_=>trivial
def anK{C:bJ}{x y:I}{D A:Env}{E i d:AS}{v w:AV}(r:exec X C x D E=some (.ok v i))(p:exec X C y A i=some (.ok w d))(f: (aW x D E i).ok (aW y A i d)=true):
  ∃E',exec X C y A E=some (.ok w E')/\exec X C x D E'=some (.ok v d)/\aW y A E E'=aW y A i d/\aW x D E' d=aW x D E i:=by
 cases l:aW x D E i with
 |no=>
  obtain⟨rfl,g⟩:=wb r l
  grind
 |rd id off n=>
  have e1:=qD r (.inr ⟨_,_,_,l⟩);subst e1;obtain⟨b,m,a,rfl,z,rfl⟩:=GM l;cases c:aW y A i d with
  |no=>
   obtain⟨rfl,g⟩:=wb p c
   grind
  |rd u s B=>
   have t:=qD p (.inr ⟨_,_,_,c⟩);grind
  |q=>
   have t:=qD p (.inl c);grind
  |wr u s B=>
   obtain⟨m',a',F,rfl⟩:=GN c;rw[l,c]at f;refine⟨d,p,wc z (VP p c ?_) r,c,by rw[<-l];rfl⟩;simp only[FP.ok,ao0,bne_iff_ne,ae1]at f;rcases f with(h|h)|h
   ·exact .inl h
   ·exact .inr (.inl h)
   ·exact .inr (.inr h)
  |rr=>
   obtain⟨_,_,_,_,_,_,_,rfl,_⟩:=CP c;have t:=(eA p).2;subst t;exact⟨_,p,r,c,l⟩
  |app=>exact⟨d,p,wc z (VQ p c) r,c,by rw[<-l];rfl⟩
  |new k=>
   rw[l,c]at f;exact⟨d,p,wc z (VT c (api f)) r,c,by rw[<-l];rfl⟩
  |all=>rw[l,c]at f;simp[FP.ok]at f
 |q=>
  have e1:=qD r (.inl l);subst e1;cases c:aW y A i d with
  |no=>
   obtain⟨rfl,g⟩:=wb p c;exact⟨d,p,r,c,l⟩
  |rd u s B=>
   have t:=qD p (.inr ⟨_,_,_,c⟩);subst t;exact⟨d,p,r,c,l⟩
  |q=>
   have t:=qD p (.inl c);subst t;exact⟨d,p,r,c,l⟩
  |rr=>
   obtain⟨_,_,_,_,_,_,_,rfl,_⟩:=CP c;have t:=(eA p).2;subst t;exact⟨_,p,r,c,l⟩
  |_=>rw[l,c]at f;simp[FP.ok]at f
 |wr id off n=>
  cases c:aW y A i d with
  |no=>
   obtain⟨rfl,g⟩:=wb p c;exact⟨E,(g E).1,r,(g E).2,l⟩
  |rd u s B=>
   have t:=qD p (.inr ⟨_,_,_,c⟩);subst t;obtain⟨b,m,a,rfl,z,rfl⟩:=GM c;obtain⟨m',a',F,rfl⟩:=GN l;rw[l,c]at f;refine⟨E,wc z (VP r l ?_).symm p,r,by rw[<-c];rfl,l⟩;simp only[FP.ok,ao0,bne_iff_ne,ae1]at f;rcases f with(h|h)|h
   ·exact .inl (λe=>h e.symm)
   ·exact .inr (.inr h)
   ·exact .inr (.inl h)
  |rr=>
   obtain⟨b,m,a,u,ak,j,o,rfl,z⟩:=CP c;have t:=(eA p).2;subst t;obtain⟨m',a',F,rfl⟩:=GN l;exact⟨E,wc z (VS r l).symm p,r,by rw[<-c];rfl,l⟩
  |_=>rw[l,c]at f;simp[FP.ok]at f
 |app=>
  cases c:aW y A i d with
  |no=>
   obtain⟨rfl,g⟩:=wb p c;exact⟨E,(g E).1,r,(g E).2,l⟩
  |rd u s B=>
   have t:=qD p (.inr ⟨_,_,_,c⟩);subst t;obtain⟨b,m,a,rfl,z,rfl⟩:=GM c;exact⟨E,wc z (VQ r l).symm p,r,by rw[<-c];rfl,l⟩
  |_=>rw[l,c]at f;simp[FP.ok]at f
 |new k=>
  cases c:aW y A i d with
  |no=>
   obtain⟨rfl,g⟩:=wb p c;exact⟨E,(g E).1,r,(g E).2,l⟩
  |rd u s B=>
   have t:=qD p (.inr ⟨_,_,_,c⟩);subst t;obtain⟨b,m,a,rfl,z,rfl⟩:=GM c;rw[l,c]at f;exact⟨E,wc z (VT l (api f)).symm p,r,by rw[<-c];rfl,l⟩
  |_=>rw[l,c]at f;simp[FP.ok]at f
 |rr=>
  obtain⟨b,m,a,u,ak,j,o,rfl,z⟩:=CP l;have e1:=(eA r).2;subst e1;cases c:aW y A i d with
  |no=>
   obtain⟨rfl,g⟩:=wb p c;exact⟨d,p,r,c,l⟩
  |rd u s B=>
   have t:=qD p (.inr ⟨_,_,_,c⟩);subst t;exact⟨_,p,r,c,l⟩
  |q=>
   have t:=qD p (.inl c);subst t;exact⟨_,p,r,c,l⟩
  |rr=>
   obtain⟨_,_,_,_,_,_,_,rfl,_⟩:=CP c;have t:=(eA p).2;subst t;exact⟨_,p,r,c,l⟩
  |wr u s B=>
   obtain⟨m',a',F,rfl⟩:=GN c;exact⟨d,p,wc z (VS p c) r,c,by rw[<-l];rfl⟩
  |_=>rw[l,c]at f;simp[FP.ok]at f
 |all=>
  cases c:aW y A i d with
  |no=>
   obtain⟨rfl,g⟩:=wb p c;exact⟨E,(g E).1,r,(g E).2,l⟩
  |_=>rw[l,c]at f;simp[FP.ok]at f
end
end Go.Den
