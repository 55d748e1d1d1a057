/- A part. -/
import Derived.Test.YtcdeobefbpnfeaaGreatDoorC
set_option linter.all false
set_option maxRecDepth 10000
set_option maxHeartbeats 1000000
namespace Go.Proofs.YtcdeobefbpnfeaaGreatDoor
open Go Go.Den
variable{α:Type}{f:FuncId}{i j n sz h a x aj b aa:Nat}{v:AV}{l:List α}{p:α->Bool}{pf:PF}{lo ak:oN}{af:List lA}
def aeC:=@decide_eq_false
def ae5:=@List.mem_singleton
def agv:=@decide_eq_decide
def ahK:=@List.length_filter_le
def ahM:=@Bool.false_and
def alc:=@List.mem_cons_self
def alY:=@List.set_set
def amG:=@List.foldl_append
def anc:=@Int.natCast_add
def aon:=@Bool.eq_iff_iff
def aop:=@List.take_left'
def aoU:=@List.filter_append
def ao1:=@Int.cast_ofNat_Int
def aqu:=@List.set_append_right
def aqy:=@Bool.and_false
def aqL:=@List.map_eq_nil_iff
def aqN:=@List.getElem_of_mem
def aq8:=@List.prefix_rfl
def asI:=@List.findIdx?_eq_some_iff_getElem
def avm:=@Option.isSome_some
def avn:=@Option.isSome_none
def axg:=@Bool.not_false
def azW:=@List.length_pos_iff
def az3:=@Nat.xor_lt_two_pow
def az4:=@eq_true
def aAL:=@Nat.and_two_pow_sub_one_eq_mod
def au{α:Type}(f:Nat->α)(i:Nat)(x:α):Nat->α:=λj=>if j=i then x else f j
theorem cw{f:Nat->α}{x:α}:au f i x i=x:=aez rfl
theorem cR{f:Nat->α}{x:α}(h:j≠i):au f i x j=f j:=aeu h
def mJ{f:Nat->α}:au f i (f i)=f:=by
 unfold au;grind
def sP{f:Nat->α}{x y:α}:au (au f i x) i y=au f i y:=by
 unfold au;grind
def oG{β:Type}(g:α->β)(f:Nat->α)(i:Nat)(x:α): (λj=>g (au f i x j))=au (λj=>g (f j)) i (g x):=by
 unfold au;grind
def arr(n:Nat)(f:Nat->lA):lA:=(List.range n).flatMap f
theorem zv(n:Nat)(f:Nat->lA):arr (n+1) f=arr n f++f n:=by
 simp[arr,aqD]
theorem zw{k:Nat}{f:Nat->lA}(h: ∀i,(f i).length=k): ∀n,(arr n f).length=n*k
 |0=>by simp[arr]
 |n+1=>by rw[zv,aeZ,zw h n,h,aqt]
theorem vm{f g:Nat->lA}: ∀ {n:Nat},(∀i,i<n->f i=g i)->arr n f=arr n g
 |0,_=>rfl
 |n+1,h=>by rw[zv,zv,vm (n:=n) λi j=>h i (by omega),h n (by omega)]
def arP(n m:Nat)(f:Nat->lA):arr (n+m) f=arr n f++arr m (λj=>f (n+j)):=by
 induction m with
 |zero=>simp[arr]
 |succ m h=>grind [Nat.add_assoc,zv,List.append_assoc]
def S6{f:Nat->lA}(h:i<n):arr n f=arr i f++(f i++arr (n-i-1) λj=>f (i+1+j)):=by
 obtain⟨m,rfl⟩: ∃m,n=i+1+m:=⟨n-i-1,by omega⟩;rw[arP,zv,aev,show i+1+m-i-1=m by omega]
theorem B8{f:Nat->lA}(h: ∀i,aI (f i)=0): ∀n,aI (arr n f)=0
 |0=>rfl
 |n+1=>by
  rw[zv];have: ∀a b:lA,aI (a++b)=max (aI a) (aI b):=by
   intro a b
   induction a with
   |nil=>rfl
   |cons x a j=>simp[aI,j,Nat.max_assoc]
  rw[this,B8 h n,h];rfl
def F0(a b:lA):aI (a++b)=max (aI a) (aI b):=by
 induction a with
 |nil=>rfl
 |cons x a f=>simp[aI,f,Nat.max_assoc]
section
variable{ag:Bool}{m off:Nat}{a r vs:lA}
theorem jY(h:a.length<=off):Den.part ag m (a++r) off=Den.part ag m r (off-a.length):=by
 unfold Den.part;cases ag
 ·grind
 ·grind [List.drop_append,List.drop_eq_nil_of_le,List.length_append]
theorem mK(h:off+m<=a.length)(f:0<m):Den.part ag m (a++r) off=Den.part ag m a off:=by
 unfold Den.part
 grind
theorem vo(h:a.length=m):Den.part true m a 0=some (.agg a):=by
 unfold Den.part
 grind
def jG{k o:Nat}{f:Nat->lA}(h: ∀i,(f i).length=k)(j:i<n)(ho:o+m<=k)(l:0<m):Den.part ag m (arr n f) (i*k+o)=Den.part ag m (f i) o:=by
 rw[S6 j,jY (by rw[zw h];omega),zw h,show i*k+o-i*k=o by omega,mK (by grind) l]
def fy(h:a.length<=off):aJ (a++r) off vs=a++aJ r (off-a.length) vs:=by
 unfold aJ;rw[axW,aeE h,atm,ah2 (by omega),ah1,aev,show off+vs.length-a.length=off-a.length+vs.length by omega]
def nr(h:off+vs.length<=a.length):aJ (a++r) off vs=aJ a off vs++r:=by
 unfold aJ
 grind
def kG(h:a.length=vs.length):aJ a 0 vs=vs:=by
 unfold aJ
 grind
def ln{k o:Nat}{f:Nat->lA}(h: ∀i,(f i).length=k)(l:i<n)(ho:o+vs.length<=k):aJ (arr n f) (i*k+o) vs=arr n (au f i (aJ (f i) o vs)):=by
 have e1:arr i (au f i (aJ (f i) o vs))=arr i f:=vm λj q=>cR (by omega)
 have p: (arr (n-i-1) λj=>au f i (aJ (f i) o vs) (i+1+j))=arr (n-i-1) λj=>f (i+1+j):=vm λj _=>cR (by omega)
 rw[S6 (f:=au f i (aJ (f i) o vs)) l,cw,e1,p];rw[S6 l,fy (by rw[zw h];omega),zw h,show i*k+o-i*k=o by omega,nr (by grind)]
end
def S7{ag:Bool}{k:Nat}{cs:lA}(f:k<n)(h:Den.part ag sz cs (k*sz)=some v):qG ag n sz (.agg cs) (.int .i64 k)=some v:=by
 have:qG ag n sz (.agg cs) (.int .i64 k)=if 0<=(k:Int)/\ (k:Int)<n then Den.part ag sz cs ((k:Int).toNat*sz)else none:=rfl
 grind
theorem agh{id off:Nat}:Den.mD n (.ptr id off)= .rd id off (Nat.max n 1):=rfl
theorem agi{id off:Nat}:Iq n (.ptr id off)= .wr id off n:=rfl
@[irreducible]def cat (H L:List ae):List ae:=H++L
section
variable{H L M:List ae}{a b c d e g x:ae}{n:Nat}
theorem fz:cat H L=H++L:=by unfold cat;rfl
def LB: (cat H L).length=H.length+L.length:=by rw[fz,aeZ]
def S8:cat H L++M=cat H (L++M):=by rw[fz,fz,aev]
def p7(h:H.length=n): (cat H L++M).take n=H:=by rw[fz,aev];grind
def vq(h:H.length=n): (cat H L).take n=H:=by rw[fz];grind
def cg0(h:H.length=n): (cat H (a::L)++M)[n]?=some a:=by rw[fz,aev,dq h];rfl
def Pq(h:H.length=n): (cat H (a::L)++M).set n x=cat H (x::L)++M:=by grind [fz,List.append_assoc,DX]
def cp0(h:H.length=n): (cat H (a::L))[n]?=some a:=by rw[fz,dq h];rfl
def cq0(h:H.length=n): (cat H (a::L)).set n x=cat H (x::L):=by grind [fz,DX]
def cg1(h:H.length=n): (cat H (a::b::L)++M)[n+1]?=some b:=by rw[fz,aev,bA h];rfl
def cs1(h:H.length=n): (cat H (a::b::L)++M).set (n+1) x=cat H (a::x::L)++M:=by grind [fz,List.append_assoc,mC]
def cp1(h:H.length=n): (cat H (a::b::L))[n+1]?=some b:=by rw[fz,bA h];rfl
def cq1(h:H.length=n): (cat H (a::b::L)).set (n+1) x=cat H (a::x::L):=by grind [fz,mC]
def cg2(h:H.length=n): (cat H (a::b::c::L)++M)[n+2]?=some c:=by rw[fz,aev,bA h];rfl
def cs2(h:H.length=n): (cat H (a::b::c::L)++M).set (n+2) x=cat H (a::b::x::L)++M:=by grind [fz,List.append_assoc,mC]
def cp2(h:H.length=n): (cat H (a::b::c::L))[n+2]?=some c:=by rw[fz,bA h];rfl
def cq2(h:H.length=n): (cat H (a::b::c::L)).set (n+2) x=cat H (a::b::x::L):=by grind [fz,mC]
def cg3(h:H.length=n): (cat H (a::b::c::d::L)++M)[n+3]?=some d:=by rw[fz,aev,bA h];rfl
def cs3(h:H.length=n): (cat H (a::b::c::d::L)++M).set (n+3) x=cat H (a::b::c::x::L)++M:=by grind [fz,List.append_assoc,mC]
def cp3(h:H.length=n): (cat H (a::b::c::d::L))[n+3]?=some d:=by rw[fz,bA h];rfl
def cq3(h:H.length=n): (cat H (a::b::c::d::L)).set (n+3) x=cat H (a::b::c::x::L):=by grind [fz,mC]
def cg4(h:H.length=n): (cat H (a::b::c::d::e::L)++M)[n+4]?=some e:=by rw[fz,aev,bA h];rfl
def cs4(h:H.length=n): (cat H (a::b::c::d::e::L)++M).set (n+4) x=cat H (a::b::c::d::x::L)++M:=by grind [fz,List.append_assoc,mC]
def cp4(h:H.length=n): (cat H (a::b::c::d::e::L))[n+4]?=some e:=by rw[fz,bA h];rfl
def cq4(h:H.length=n): (cat H (a::b::c::d::e::L)).set (n+4) x=cat H (a::b::c::d::x::L):=by grind [fz,mC]
def cg5(h:H.length=n): (cat H (a::b::c::d::e::g::L)++M)[n+5]?=some g:=by rw[fz,aev,bA h];rfl
def cs5(h:H.length=n): (cat H (a::b::c::d::e::g::L)++M).set (n+5) x=cat H (a::b::c::d::e::x::L)++M:=by grind [fz,List.append_assoc,mC]
def cp5(h:H.length=n): (cat H (a::b::c::d::e::g::L))[n+5]?=some g:=by rw[fz,bA h];rfl
def cq5(h:H.length=n): (cat H (a::b::c::d::e::g::L)).set (n+5) x=cat H (a::b::c::d::e::x::L):=by grind [fz,mC]
end
structure Slot where
 gen:Nat
 fe:Bool
 ret:Bool
 deriving DecidableEq,Inhabited
abbrev cO:=Nat->Slot
def jf(s:Slot):lA:=[.int .u32 s.gen,.bool s.fe,.bool s.ret]
def b9(b:cO):lA:=arr 32 λi=>jf (b i)
theorem LC(s:Slot): (jf s).length=3:=rfl
theorem oH(b:cO): (b9 b).length=96:=by rfl
theorem S9(b:cO):aI (b9 b)=0:=by rfl
section
variable{b:cO}{i:Nat}
theorem Ta:Den.part true 96 (b9 b) 0=some (.agg (b9 b)):=by rfl
def agG(h:i<32):Den.part true 3 (b9 b) (i*3)=some (.agg (jf (b i))):=jG (k:=3) (o:=0) (f:=λi=>jf (b i)) (λi=>LC (b i)) h (by omega) (by omega)
def Tb(h:i<32):qG true 32 3 (.agg (b9 b)) (.int .i64 i)=some (.agg (jf (b i))):=S7 h (agG h)
def agH(h:i<32):Den.part false 1 (b9 b) (i*3)=some (.int .u32 (b i).gen):=jG (k:=3) (o:=0) (f:=λi=>jf (b i)) (λi=>LC (b i)) h (by omega) (by omega)
def agI(h:i<32):Den.part false 1 (b9 b) (i*3+1)=some (.bool (b i).fe):=jG (k:=3) (o:=1) (f:=λi=>jf (b i)) (λi=>LC (b i)) h (by omega) (by omega)
def Tc{s:Slot}{o:Nat}{vs:lA}(h:i<32)(ho:o+vs.length<=3)(j:aJ (jf (b i)) o vs=jf s):aJ (b9 b) (i*3+o) vs=b9 (au b i s):=by
 unfold b9;rw[ln (k:=3) (f:=λi=>jf (b i)) (λi=>LC (b i)) h ho,j,oG]
theorem arQ{g:Nat}(h:i<32):aJ (b9 b) (i*3) [.int .u32 g]=b9 (au b i {b i with gen:=g}):=Tc (o:=0) h (by simp) rfl
def arR{g:Nat}(h:i<32):aJ (b9 b) (i*3) [.int .u32 ((g:Int)+1)]=b9 (au b i {b i with gen:=g+1}):=arQ (g:=g+1) h
theorem agJ{v:Bool}(h:i<32):aJ (b9 b) (i*3+1) [.bool v]=b9 (au b i {b i with fe:=v}):=Tc (o:=1) h (by simp) rfl
theorem arS{v:Bool}(h:i<32):aJ (b9 b) (i*3+2) [.bool v]=b9 (au b i {b i with ret:=v}):=Tc (o:=2) h (by simp) rfl
theorem agK: (b9 b).take 96=b9 b:=by rfl
end
def eY(h:Nat):oN:=if 1<=h % 256/\h % 256<=32/\h/256<=8388607 then some (h % 256-1)else none
def dg(i f:Nat):Nat:=f*256+i+1
def agL(e:eY h=some i):i<32:=by
 unfold eY at e;grind
def Td{f:Nat}(h:i<32)(j:f<=8388607):eY (dg i f)=some i:=by
 unfold eY dg
 grind
def agM{a b c:lA}(h:b=c):a++b=a++c:=by rw[h]
def aCt{a b c:lA}(h:b=c):b++a=c++a:=by rw[h]
abbrev aD:=Nat×Nat
structure ds where
 up:Nat
 dG:Nat
 runs:List aD
 len:Nat
 cells:Nat->Nat
structure aw where
 b:cO
 r:Nat->ds
structure Ow where
 kind:Nat
 aa:Nat
 hold:Nat
 deriving DecidableEq
structure Sd where
 root:Nat
 own:Ow
 deriving DecidableEq
abbrev bK:=Nat->Sd
structure Tok where
 aQ:Nat
 ji:Nat
 to:Nat
 mu:Bool
 aS:Nat
 deriving DecidableEq
structure bq where
 b:cO
 t:Nat->Tok
structure kH where
 fr:Nat
 word:Nat
 aQ:Nat
 share:Bool
 deriving DecidableEq
structure cT where
 ring:Nat->kH
 fr:Nat
 n:Nat
 closed:Bool
structure bF where
 T:aw
 O:bK
 K:bq
 c8:Nat->cT
 alive:Nat->Bool
 born:Nat->Bool
structure cy where
 op:Nat
 r:Nat
 s:Nat
 a:Nat
 b:Nat
 v:Nat
 deriving DecidableEq
structure bG where
 e:Nat
 v:Nat
 w:Nat
 deriving DecidableEq
def aA(r:aD):lA:=[.int .i64 (r.1:Nat),.int .i64 (r.2:Nat)]
def ek(l:List aD):AV:=if l.isEmpty then .aq else .sl (l.map aA) false
def bS(r:ds):lA:=[.int .u32 r.up,.int .i64 r.dG,ek r.runs,.int .i64 r.len]++arr 8 λi=>[.int .u32 (r.cells i)]
def xb(f:Nat->ds):lA:=arr 32 λi=>bS (f i)
def aN(t:aw):lA:=b9 t.b++xb t.r
def jZ(o:Ow):lA:=[.int .u8 o.kind,.int .u8 o.aa,.int .u8 o.hold]
def sQ(x:Sd):lA:=[.int .u32 x.root,.int .u8 x.own.kind,.int .u8 x.own.aa,.int .u8 x.own.hold]
def cP(o:bK):lA:=arr 32 λi=>sQ (o i)
def fO(x:Tok):lA:=[.int .u32 x.aQ,.int .u8 x.ji,.int .u8 x.to,.bool x.mu,.int .u32 x.aS]
def F2(f:Nat->Tok):lA:=arr 16 λi=>fO (f i)
def ch(k:bq):lA:=b9 k.b++F2 k.t
def eL(m:kH):lA:=[.int .u8 m.fr,.int .u64 m.word,.int .u32 m.aQ,.bool m.share]
def LD(f:Nat->kH):lA:=arr 4 λi=>eL (f i)
def cC(b:cT):lA:=LD b.ring++[.int .i64 b.fr,.int .i64 b.n,.bool b.closed]
def zx(f:Nat->cT):lA:=arr 8 λi=>cC (f i)
def sR(f:Nat->Bool):lA:=arr 8 λi=>[.bool (f i)]
def gL(T:aw)(O:bK)(K:bq):lA:=aN T++(cP O++ch K)
def bn(s:bF):lA:=aN s.T++(cP s.O++(ch s.K++(zx s.c8++(sR s.alive++sR s.born))))
def bp(c:cy):lA:=[.int .u8 c.op,.int .u32 c.r,.int .u32 c.s,.int .u32 c.a,.int .u32 c.b,.int .u64 c.v]
def bH(r:bG):lA:=[.int .i64 r.e,.int .u64 r.v,.int .u32 r.w]
theorem zy(r:ds): (bS r).length=12:=by rfl
theorem aCu(f:Nat->ds): (xb f).length=384:=by rfl
theorem iw(t:aw): (aN t).length=480:=by rfl
theorem sS(o:bK): (cP o).length=128:=by rfl
theorem aCv(f:Nat->Tok): (F2 f).length=80:=by rfl
theorem zA(k:bq): (ch k).length=176:=by rfl
theorem agN(f:Nat->kH): (LD f).length=16:=by rfl
theorem zD(b:cT): (cC b).length=19:=by rfl
theorem p9(f:Nat->cT): (zx f).length=152:=by rfl
theorem F3(f:Nat->Bool): (sR f).length=8:=by rfl
theorem lp(T:aw)(O:bK)(K:bq): (gL T O K).length=784:=by simp only[gL,aeZ,iw,sS,zA]
def en(s:bF): (bn s).length=952:=by simp only[bn,aeZ,iw,sS,zA,p9,F3]
def Te(l:List aD): (ek l).refs=0:=by
 unfold ek;split
 ·rfl
 ·exact bB (λ_=>rfl) l
def arT{g:Nat->AV}(h: ∀i,(g i).refs=0)(n:Nat):aI (arr n λi=>[g i])=0:=B8 (λi=>by simp[aI,h]) n
def Tf(r:ds):aI (bS r)=0:=by
 rw[bS,F0,arT (λ_=>rfl)];simp[aI,AV.refs,Te]
def arU(f:Nat->ds):aI (xb f)=0:=B8 (λi=>Tf (f i)) 32
def xc(t:aw):aI (aN t)=0:=by rw[aN,F0,S9,arU];rfl
theorem Tg(o:bK):aI (cP o)=0:=by rfl
theorem LF(k:bq):aI (ch k)=0:=by rfl
theorem agO(b:cT):aI (cC b)=0:=by rfl
theorem arV(f:Nat->cT):aI (zx f)=0:=by rfl
theorem arW(f:Nat->Bool):aI (sR f)=0:=by rfl
def mL(s:bF):aI (bn s)=0:=by simp only[bn,F0,xc,Tg,LF,arV,arW];rfl
def mM(l:List aD):Rv (ek l) 2 (l.map aA):=by
 cases l with
 |nil=>exact .aq
 |cons a l=>exact .sl (by intro el h;obtain⟨x,_,rfl⟩:=ago.1 h;rfl)
def Th{ag:Bool}{m:Nat}{a b r:lA}{off:Nat}(c:a.length=off):Den.part ag m (a++r) off=Den.part ag m r 0:=by grind [jY]
theorem xd{m:Nat}{a r:lA}(c:a.length=m)(b:0<m):Den.part true m (a++r) 0=some (.agg a):=by grind [mK,vo]
section
variable{ag:Bool}{m o i:Nat}
theorem agP{r:ds}:Den.part false 1 (bS r) 0=some (.int .u32 r.up):=rfl
theorem agQ{r:ds}:Den.part false 1 (bS r) 1=some (.int .i64 r.dG):=rfl
theorem agR{r:ds}:Den.part false 1 (bS r) 2=some (ek r.runs):=rfl
theorem agS{r:ds}:Den.part false 1 (bS r) 3=some (.int .i64 r.len):=rfl
theorem agT{r:ds}:Den.part true 2 (bS r) 2=some (.agg [ek r.runs,.int .i64 r.len]):=rfl
theorem LH{r:ds}:Den.part true 8 (bS r) 4=some (.agg (arr 8 λi=>[.int .u32 (r.cells i)])):=by rfl
theorem Ti{t:aw}:Den.part true 96 (aN t) 0=some (.agg (b9 t.b)):=by rfl
theorem agU{t:aw}:Den.part true 480 (aN t) 0=some (.agg (aN t)):=by rfl
def agV{t:aw}(h:i<32)(ho:o+m<=12)(a:0<m):Den.part ag m (aN t) (96+i*12+o)=Den.part ag m (bS (t.r i)) o:=by
 unfold aN;rw[jY (by rw[oH];omega),oH,show 96+i*12+o-96=i*12+o by omega];exact jG (k:=12) (f:=λi=>bS (t.r i)) (λi=>zy _) h ho a
def arX{t:aw}(h:i<32):Den.part true 12 (aN t) (96+i*12)=some (.agg (bS (t.r i))):=by
 have:=agV (ag:=true) (m:=12) (o:=0) (t:=t) h (by omega) (by omega);rw[agr]at this;rw[this,vo (zy _)]
def Tj{t:aw}(h:i<32):Den.part false 1 (aN t) (96+i*12)=some (.int .u32 (t.r i).up):=agV (o:=0) h (by omega) (by omega)
def LJ{t:aw}{r:ds}(h:i<32):aJ (aN t) (96+i*12) (bS r)=aN {t with r:=au t.r i r}:=by
 unfold aN;rw[fy (by rw[oH];omega),oH,show 96+i*12-96=i*12+0 by omega];unfold xb;rw[ln (k:=12) (f:=λi=>bS (t.r i)) (λi=>zy _) h (by rw[zy];omega),kG (by rfl),oG]
def agW{t:aw}{u:Nat}(h:i<32):aJ (aN t) (96+i*12) [.int .u32 u]=aN {t with r:=au t.r i {t.r i with up:=u}}:=by
 unfold aN;rw[fy (by rw[oH];omega),oH,show 96+i*12-96=i*12+0 by omega];unfold xb;rw[ln (k:=12) (f:=λi=>bS (t.r i)) (λi=>zy _) h (by simp),oG];rfl
theorem arY{r:ds}{u:Nat}:aJ (bS r) 0 [.int .u32 u]=bS {r with up:=u}:=rfl
def agX{r:ds}{u:Nat}(h:i<8):aJ (bS r) (4+i) [.int .u32 u]=bS {r with cells:=au r.cells i u}:=by
 unfold bS;rw[fy (by simp)];refine agM ?_;have:=ln (n:=8) (k:=1) (i:=i) (o:=0) (vs:=[AV.int .u32 u]) (f:=λi=>[AV.int .u32 (r.cells i)]) (λ_=>rfl) h (by simp);rw[show 4+i- [AV.int .u32 r.up,.int .i64 r.dG,ek r.runs,.int .i64 r.len].length=i*1+0 by simp,this];exact ahX (arr 8) (oG (λu:Nat=>[AV.int .u32 u]) r.cells i u).symm
def agY{w:bK}(h:i<32)(ho:o+m<=4)(a:0<m):Den.part ag m (cP w) (i*4+o)=Den.part ag m (sQ (w i)) o:=
 jG (k:=4) (f:=λi=>sQ (w i)) (λ_=>rfl) h ho a
theorem agZ{w:bK}:Den.part true 128 (cP w) 0=some (.agg (cP w)):=by rfl
def ag0{w:bK}(h:i<32):Den.part false 1 (cP w) (i*4)=some (.int .u32 (w i).root):=agY (o:=0) h (by omega) (by omega)
def arZ{w:bK}(h:i<32):Den.part true 3 (cP w) (i*4+1)=some (.agg (jZ (w i).own)):=agY (o:=1) h (by omega) (by omega)
def ar0{w:bK}{x:Sd}(h:i<32):aJ (cP w) (i*4) (sQ x)=cP (au w i x):=by
 have:=ln (n:=32) (k:=4) (i:=i) (o:=0) (vs:=sQ x) (f:=λi=>sQ (w i)) (λ_=>rfl) h (by simp[sQ]);unfold cP;rw[show i*4=i*4+0 by omega,this,kG (a:=sQ (w i)) (vs:=sQ x) rfl,oG]
theorem ag1{k:bq}:Den.part true 96 (ch k) 0=some (.agg (b9 k.b)):=by rfl
theorem Tk{k:bq}:Den.part true 176 (ch k) 0=some (.agg (ch k)):=by rfl
def ar1{f:Nat->Tok}(h:i<16):Den.part true 5 (F2 f) (i*5)=some (.agg (fO (f i))):=
 jG (k:=5) (o:=0) (f:=λi=>fO (f i)) (λ_=>rfl) h (by omega) (by omega)
def ar2{k:bq}(h:i<16):Den.part true 5 (ch k) (96+i*5)=some (.agg (fO (k.t i))):=by
 unfold ch;rw[jY (by rw[oH];omega),oH,show 96+i*5-96=i*5 by omega];exact ar1 h
theorem ag2{k:bq}{b:cO}:aJ (ch k) 0 (b9 b)=ch {k with b:=b}:=by rfl
def ar3{k:bq}{x:Tok}(h:i<16):aJ (ch k) (96+i*5) (fO x)=ch {k with t:=au k.t i x}:=by
 unfold ch;rw[fy (by rw[oH];omega),oH,show 96+i*5-96=i*5+0 by omega];unfold F2;rw[ln (k:=5) (f:=λi=>fO (k.t i)) (λ_=>rfl) h (by simp[fO]),kG (a:=fO (k.t i)) (vs:=fO x) rfl,oG]
def ar4{f:Nat->kH}(h:i<4):Den.part true 4 (LD f) (i*4)=some (.agg (eL (f i))):=
 jG (k:=4) (o:=0) (f:=λi=>eL (f i)) (λ_=>rfl) h (by omega) (by omega)
theorem ri{b:cT}:Den.part true 19 (cC b) 0=some (.agg (cC b)):=by rfl
def ag3{b:cT}(h:i<4):Den.part true 4 (cC b) (i*4)=some (.agg (eL (b.ring i))):=by
 unfold cC;rw[mK (by rw[agN];omega) (by omega)];exact ar4 h
theorem ag4{b:cT}:Den.part false 1 (cC b) 16=some (.int .i64 b.fr):=by rfl
theorem B9{b:cT}:Den.part false 1 (cC b) 17=some (.int .i64 b.n):=by rfl
theorem zE{b:cT}:Den.part false 1 (cC b) 18=some (.bool b.closed):=by rfl
def ar5{b:cT}{x:kH}(h:i<4):aJ (cC b) (i*4) (eL x)=cC {b with ring:=au b.ring i x}:=by
 unfold cC;rw[nr (by rw[agN];simp[eL];omega)];unfold LD;rw[show i*4=i*4+0 by omega,ln (k:=4) (f:=λi=>eL (b.ring i)) (λ_=>rfl) h (by simp[eL]),kG (a:=eL (b.ring i)) (vs:=eL x) rfl,oG]
theorem ar6{b:cT}:aJ (cC b) 16 [.int .i64 x]=cC {b with fr:=x}:=by rfl
theorem ag5{b:cT}:aJ (cC b) 17 [.int .i64 x]=cC {b with n:=x}:=by rfl
theorem ar7{b:cT}{x:Bool}:aJ (cC b) 18 [.bool x]=cC {b with closed:=x}:=by rfl
def ag6{f:Nat->Bool}(h:i<8):Den.part false 1 (sR f) i=some (.bool (f i)):=by
 have:=jG (ag:=false) (m:=1) (n:=8) (k:=1) (i:=i) (o:=0) (f:=λi=>[AV.bool (f i)]) (λ_=>rfl) h (by omega) (by omega);rw[show i*1+0=i by omega]at this;exact this
def ar8{f:Nat->cT}(h:i<8):Den.part true 19 (zx f) (i*19)=some (.agg (cC (f i))):=by
 have:=jG (ag:=true) (m:=19) (n:=8) (k:=19) (i:=i) (o:=0) (f:=λi=>cC (f i)) (λ_=>zD _) h (by omega) (by omega);exact this.trans ri
def qa{T:aw}{O:bK}{K:bq}:Den.part true 480 (gL T O K) 0=some (.agg (aN T)):=xd (iw _) (by omega)
theorem qb{T:aw}{O:bK}{K:bq}:Den.part true 128 (gL T O K) 480=some (.agg (cP O)):=by
 unfold gL;rw[Th (b:=[]) (iw _)];exact xd (sS _) (by omega)
theorem rj{T:aw}{O:bK}{K:bq}:Den.part true 176 (gL T O K) 608=some (.agg (ch K)):=by
 unfold gL;rw[jY (by rw[iw];omega),iw,Th (b:=[]) (sS _)];exact Tk
theorem oI(s:bF):bn s=gL s.T s.O s.K++(zx s.c8++(sR s.alive++sR s.born)):=by simp[bn,gL]
theorem Tl{s:bF}:Den.part true 784 (bn s) 0=some (.agg (gL s.T s.O s.K)):=by grind [oI,xd,lp]
theorem Tm{s:bF}:Den.part true 952 (bn s) 0=some (.agg (bn s)):=vo (en s)
theorem vt{s:bF}:Den.part true 480 (bn s) 0=some (.agg (aN s.T)):=xd (iw _) (by omega)
theorem Ca{s:bF}:Den.part true 128 (bn s) 480=some (.agg (cP s.O)):=by grind [oI,mK,lp,qb]
theorem F4{s:bF}:Den.part true 176 (bn s) 608=some (.agg (ch s.K)):=by grind [oI,mK,lp,rj]
theorem ar9{s:bF}(h:i<8):Den.part true 19 (bn s) (784+i*19)=some (.agg (cC (s.c8 i))):=by
 rw[oI,jY (by rw[lp];omega),lp,show 784+i*19-784=i*19 by omega,mK (by rw[p9];omega) (by omega)];exact ar8 h
def aCw{s:bF}:Den.part true 152 (bn s) 784=some (.agg (zx s.c8)):=by
 rw[oI,Th (b:=[]) (lp _ _ _)];exact xd (p9 _) (by omega)
theorem LK{s:bF}(h:i<8):Den.part false 1 (bn s) (936+i)=some (.bool (s.alive i)):=by
 rw[oI,jY (by rw[lp];omega),lp,jY (by rw[p9];omega),p9,show 936+i-784-152=i by omega,mK (by trivial) (by omega)];exact ag6 h
theorem asa{s:bF}(h:i<8):Den.part false 1 (bn s) (944+i)=some (.bool (s.born i)):=by
 rw[oI,jY (by rw[lp];omega),lp,jY (by rw[p9];omega),p9,jY (by rw[F3];omega),F3,show 944+i-784-152-8=i by omega];exact ag6 h
def asb{s:bF}{t:aw}:aJ (bn s) 0 (aN t)=bn {s with T:=t}:=by
 unfold bn;rw[nr (by grind [iw]),kG (by rw[iw,iw])]
def asc{s:bF}{w:bK}:aJ (bn s) 480 (cP w)=bn {s with O:=w}:=by
 unfold bn;rw[fy (by rw[iw];omega),iw,nr (by grind [sS]),kG (by rfl)]
def asd{s:bF}{k:bq}:aJ (bn s) 608 (ch k)=bn {s with K:=k}:=by
 unfold bn;rw[fy (by rw[iw];omega),iw,fy (by rw[sS];omega),sS,nr (by rw[zA,zA];omega),kG (by rfl)]
def ase{s:bF}{b:cT}(h:i<8):aJ (bn s) (784+i*19) (cC b)=bn {s with c8:=au s.c8 i b}:=by
 rw[oI,fy (by rw[lp];omega),lp,show 784+i*19-784=i*19+0 by omega,nr (by rw[p9,zD];omega),oI];unfold zx;rw[ln (k:=19) (f:=λi=>cC (s.c8 i)) (λ_=>zD _) h (by rw[zD];omega),kG (by rfl),oG]
def ag7{f:Nat->Bool}{v:Bool}(h:i<8):aJ (sR f) i [.bool v]=sR (au f i v):=by
 have:=ln (n:=8) (k:=1) (i:=i) (o:=0) (vs:=[AV.bool v]) (f:=λi=>[AV.bool (f i)]) (λ_=>rfl) h (by simp);rw[show i*1+0=i by omega]at this;unfold sR;rw[this];exact ahX (arr 8) (oG (λv:Bool=>[AV.bool v]) f i v).symm
def ag8{s:bF}{v:Bool}(h:i<8):aJ (bn s) (936+i) [.bool v]=bn {s with alive:=au s.alive i v}:=by
 rw[oI,fy (by rw[lp];omega),lp,fy (by rw[p9];omega),p9,show 936+i-784-152=i by omega,nr (by trivial),ag7 h,oI]
def ag9{s:bF}{v:Bool}(h:i<8):aJ (bn s) (944+i) [.bool v]=bn {s with born:=au s.born i v}:=by
 rw[oI,fy (by rw[lp];omega),lp,fy (by rw[p9];omega),p9,fy (by rw[F3];omega),F3,show 944+i-784-152-8=i by omega,ag7 h,oI]
end
theorem aha{t:aw}: (aN t).take 480=aN t:=by rfl
theorem ahb{k:bq}: (ch k).take 176=ch k:=by rfl
theorem ahc{r:ds}:Den.part true 12 (bS r) 0=some (.agg (bS r)):=by rfl
theorem ahd{t:aw}:List.drop 96 (aN t)=xb t.r:=by rfl
theorem ahe{b:cO}{r:Nat->ds}:b9 b++xb r=aN ⟨b,r⟩:=rfl
theorem ahf{u:Nat}{r:ds}:AV.int .u32 (u:Nat)::List.drop 1 (bS r)=bS {r with up:=u}:=rfl
theorem ahg{b:cO}{f:Nat->Tok}:b9 b++F2 f=ch ⟨b,f⟩:=rfl
theorem Tn(r:aD): (aA r).length=2:=rfl
theorem ahh{r:aD}:Den.part false 1 (aA r) 0=some (.int .i64 (r.1:Nat)):=rfl
theorem ahi{r:aD}:Den.part false 1 (aA r) 1=some (.int .i64 (r.2:Nat)):=rfl
theorem To{r:aD}:Den.part true 2 (aA r) 0=some (.agg (aA r)):=rfl
theorem ahj{r:aD}: (aA r).take 2=aA r:=rfl
theorem ahk{r:aD}: (aA r).drop 2=[]:=rfl
theorem ahl(r:aD):aI (aA r)=0:=rfl
def ML:=gG @Tn<|gG @ahj<|gG @ahk<|gG @ahl<|gG @ahd<|gG @ahe<|gG @ahf<|gG @ahg<|gG @agK<|gG @oH<|gG @S9<|gG @aha<|gG @iw<|gG @xc<|gG @zy<|gG @Tf<|gG @sS<|gG @Tg<|gG @ahb<|gG @zA @LF
def MP:=gG @ahh<|gG @ahi<|gG @To<|gG @Ta<|gG @agP<|gG @agQ<|gG @agR<|gG @agS<|gG @agT<|gG @ahc<|gG @Ti<|gG @agU<|gG @agZ<|gG @ag1 @Tk
def Zz:type_of% @R2/\type_of% @C1/\type_of% @P1/\type_of% @N1/\type_of% @O1/\type_of% @V1/\type_of% @V2/\type_of% @V3/\type_of% @wrap_i64/\type_of% @wrap_u64/\type_of% @wrap_u8/\type_of% @wrap_u16/\type_of% @wrap_u32/\type_of% @wrap_i32/\type_of% @dq/\type_of% @bA/\type_of% @DX/\type_of% @mC/\type_of% @kj/\type_of% @Z1/\type_of% @aei/\type_of% @Option.isSome_some.{0}/\type_of% @Option.isSome_none.{0}/\type_of% @Option.getD_some.{0}/\type_of% @Option.getD_none.{0}/\type_of% @Bool.not_true/\type_of% @Bool.not_false/\type_of% @cg0/\type_of% @cg1/\type_of% @cg2/\type_of% @cg3/\type_of% @cg4/\type_of% @cg5/\type_of% @Pq/\type_of% @cs1/\type_of% @cs2/\type_of% @cs3/\type_of% @cs4/\type_of% @cs5/\type_of% @p7/\type_of% @vq/\type_of% @cp0/\type_of% @cp1/\type_of% @cp2/\type_of% @cp3/\type_of% @cp4/\type_of% @cp5/\type_of% @cq0/\type_of% @cq1/\type_of% @cq2/\type_of% @cq3/\type_of% @cq4/\type_of% @cq5/\type_of% @List.getElem?_set_ne.{0}/\type_of% @Q1/\type_of% @G1/\type_of% @Ir/\type_of% @Is/\type_of% @It/\type_of% @Iu/\type_of% @Iv/\type_of% @Iw/\type_of% @Ix/\type_of% @Iy/\type_of% @Iz/\type_of% @IA/\type_of% @ML/\type_of% @List.length_take.{0}/\type_of% @Nat.min_self/\type_of% @List.append_nil.{0}/\type_of% @Nat.zero_le/\type_of% @Nat.add_zero/\type_of% @Nat.zero_add/\type_of% @Nat.le_refl/\type_of% @and_true/\type_of% @true_and/\type_of% @if_true.{1}:=
 ⟨@R2,@C1,@P1,@N1,@O1,@V1,@V2,@V3,@wrap_i64,@wrap_u64,@wrap_u8,@wrap_u16,@wrap_u32,@wrap_i32,@dq,@bA,@DX,@mC,@kj,@Z1,@aei,@avm.{0},@avn.{0},@ala.{0},@axV.{0},@asJ,@axg,@cg0,@cg1,@cg2,@cg3,@cg4,@cg5,@Pq,@cs1,@cs2,@cs3,@cs4,@cs5,@p7,@vq,@cp0,@cp1,@cp2,@cp3,@cp4,@cp5,@cq0,@cq1,@cq2,@cq3,@cq4,@cq5,@acG.{0},@Q1,@G1,@Ir,@Is,@It,@Iu,@Iv,@Iw,@Ix,@Iy,@Iz,@IA,@ML,@agw.{0},@ax6,@agB.{0},@ae4,@agr,@alV,@ae0,@alS,@azs,@ahJ.{1}⟩
attribute [go_sem] Zz agh agi
attribute [go_sem ↓] R1 MP Int.cast_ofNat_Int
def az(b:cO)(h:Nat):Bool:=match eY h with
 |some i=>decide (b i=⟨h/256,true,false⟩)
 |none=>false
def aR(h:Nat):Nat:=(eY h).getD 0
def ns(b:cO)(i:Nat):Bool:=!(b i).fe&& !(b i).ret
def nu(b:cO):oN:=(List.range 32).find? (ns b)
def qc(b:cO):cO×Nat×Bool:=match nu b with
 |some i=>(au b i {b i with fe:=true},dg i (b i).gen,true)
 |none=>(b,0,false)
def rk(s:Slot):Slot:=if s.gen=8388607 then⟨s.gen,false,true⟩else⟨s.gen+1,false,s.ret⟩
def eN(b:cO)(h:Nat):cO×Bool:=if az b h then(au b (aR h) (rk (b (aR h))),true)else(b,false)
def bo(b:cO):lN:=((List.range 32).filter λi=>(b i).fe).map λi=>dg i (b i).gen
def lq(r:aD):Bool:=decide (1<=r.2)&&decide (r.1+r.2<=64)
def iz(x:aD)(b:Bool)(a:List aD):List aD->Option (List aD)
 | []=>some (if b then a else a++[x])
 |y::ys=>
  if y.1+y.2<x.1 then iz x b (a++[y]) ys
  else if x.1+x.2<y.1 then iz x true (a++(if b then[]else[x])++[y]) ys
  else if y.1+y.2=x.1 then iz (y.1,y.2+x.2) b a ys
  else if y.1=x.1+x.2 then iz (x.1,x.2+y.2) b a ys
  else none
def iW(l:List aD)(x:aD):Option (List aD):=if lq x then iz x false [] l else none
def mN:List aD->List aD->Option (List aD)
 |all,[]=>some all
 |all,x::xs=>match iW all x with
  |some a=>mN a xs
  |none=>none
def aL(l:List aD):Nat:=(l.map (·.2)).sum
def qd(a:List aD)(len:Nat):Bool:=(mN [] a).isSome&&decide (len<=aL a*32)
def dR:ds:=⟨0,0,[],0,λ_=>0⟩
def aw.az(t:aw)(h:Nat):Bool:=Go.Proofs.YtcdeobefbpnfeaaGreatDoor.az t.b h
def kI(t:aw)(i:Nat):Nat:=if t.az (t.r i).up then(t.r i).up else 0
def aM(t:aw)(h:Nat):ds×Nat:=if t.az h then({t.r (aR h)with up:=kI t (aR h)},0)else(dR,4)
def mb(t:aw)(up n:Nat):aw×Nat×Nat:=
 if up≠0/\t.az up=false then(t,0,4)
 else if 64<n then(t,0,2)
 else match nu t.b with
  |some i=>({b:=au t.b i {t.b i with fe:=true},r:=au t.r i {dR with up:=up,dG:=n}},dg i (t.b i).gen,0)
  |none=>(t,0,7)
def lr(t:aw)(h:Nat):aw×Nat:=
 if t.az h then({b:=(eN t.b h).1,r:=au t.r (aR h) dR},0)else(t,4)
def fP(t:aw)(h:Nat)(r:ds):aw×Nat:=
 if t.az h=false then(t,4)
 else if 64<r.dG\/qd r.runs r.len=false then(t,2)
 else({t with r:=au t.r (aR h) {r with up:=(t.r (aR h)).up}},0)
def bt(t:aw)(h:Nat):Nat:=if t.az h then kI t (aR h)else 0
def eO(t:aw):Nat->Nat->lN
 |0,_=>[]
 |n+1,h=>if bt t h=0 then[]else bt t h::eO t n (bt t h)
def aS(t:aw)(h:Nat):lN:=eO t 32 h
def mc(t:aw)(h up:Nat):aw×Nat:=
 if t.az h=false\/ (up≠0/\t.az up=false)then(t,4)
 else if up≠0/\h∈up::aS t up then(t,12)
 else({t with r:=au t.r (aR h) {t.r (aR h)with up:=up}},0)
def depth(t:aw)(h:Nat):Nat:=if t.az h then 1+(aS t h).length else 0
def root(t:aw)(h:Nat):Nat:=if t.az h then(aS t h).getLastD h else 0
def kJ(t:aw)(a b:Nat):Bool:=t.az a&&t.az b&& (decide (a=b)|| (aS t b).contains a)
def kids(t:aw)(h:Nat):lN:=if t.az h then(bo t.b).filter (λx=>bt t x=h)else[]
def iA(t:aw):Nat->Nat->lN
 |0,h=>[h]
 |n+1,h=>h:: (kids t h).flatMap (iA t n)
def under(t:aw)(h:Nat):lN:=if t.az h then iA t 32 h else[]
def iB(t:aw)(a n:Nat):aw×Nat×Nat:=
 let x:=mb t a n
 if(x.2.2=0\/x.2.2=7)/\6<=depth t a then(t,0,8)else x
def zF(t0:aw)(h:Nat)(t:aw)(x:Nat):aw:=
 let r:=(aM t x).1
 (fP t x {r with cells:=λi=>if r.cells i≠h/\kJ t0 (r.cells i) h then 0 else r.cells i}).1
def jH(t:aw)(h:Nat):aw×Nat:=
 if t.az h=false then(t,4)else mc ((iA t 32 h).foldl (zF t h) t) h 0
def sT(t:aw)(h:Nat):Nat:=(iA t 32 h).foldl (λn x=>max n (depth t x-depth t h+1)) 0
def vu(t:aw)(h a:Nat):aw×Nat:=
 if t.az h=false\/t.az a=false then(t,4)
 else if root t h≠h\/kJ t h a then(t,12)
 else if 6<depth t a+sT t h then(t,8)
 else mc t h a
def me(t:aw)(h:Nat):aw×lN×Nat:=
 if under t h=[]then(t,[],4)else((under t h).foldl (λt x=>(lr t x).1) t,under t h,0)
def vx:Ow:=⟨0,0,0⟩
def bP(o:bK)(t:aw)(h:Nat):Ow:=match eY (root t h)with
 |some i=>if(o i).root=root t h then(o i).own else vx
 |none=>vx
def gh(o:bK)(t:aw)(r:Nat)(aa:Nat)(x:Ow):bK×Nat:=
 if t.az r=false then(o,4)
 else if root t r≠r then(o,12)
 else if 8<=aa then(o,2)
 else(au o (aR r) ⟨r,x⟩,0)
def rl(o:bK)(t:aw)(r aa:Nat):bK×Nat:=gh o t r aa ⟨1,aa % 256,0⟩
def xe(o:bK)(t:aw)(r:Nat):bK×Nat:=gh o t r 0 ⟨2,0,0⟩
def iD(aa:Nat):Nat:=2^(aa % 8)
def zG(o:bK)(t:aw)(r aa:Nat):bK×Nat:=gh o t r aa ⟨3,0,iD aa⟩
def mO(x aa:Nat):Bool:=x.testBit (aa % 8)
def dH(o:bK)(t:aw)(r aa:Nat)(hold:Bool):bK×Nat×Nat:=
 let x:=bP o t r
 let e:=(gh o t r aa x).2
 if e=4\/ (t.az r=true/\root t r≠r)then(o,0,e)
 else if x.kind≠3 then(o,0,12)
 else if e≠0 then(o,0,e)
 else if mO x.hold aa&&hold then(o,0,7)
 else if !mO x.hold aa&& !hold then(o,0,5)
 else((gh o t r aa {x with hold:=x.hold^^^iD aa}).1,x.hold^^^iD aa,(gh o t r aa {x with hold:=x.hold^^^iD aa}).2)
def LM:Tok:=⟨0,0,0,false,0⟩
def cn(k:bq)(h:Nat):Tok×Nat:=if az k.b h then(k.t (aR h),0)else(LM,4)
def sU(k:bq)(p:Tok->Bool):lN:=(bo k.b).filter λh=>p (cn k h).1
def isRight(b a:Nat)(x:Tok):Bool:=decide (x.aQ=b)&&decide (x.aS=a)
def Cb(k:bq)(b a:Nat):Nat:=(sU k (isRight b a)).length
def sV(k:bq)(b a:Nat):Bool:=(bo k.b).any λh=>isRight b a (cn k h).1&& (cn k h).1.mu
def nv(k:bq)(h:Nat):Bool:=decide (h=0)||az k.b h
def qe(k:bq)(x:Tok):Nat:=
 if nv k x.aS=false then 4
 else if 8<=x.ji\/8<=x.to\/x.ji=x.to\/x.aQ=0 then 2
 else if x.aS≠0/\ ((cn k x.aS).1.aQ≠x.aQ\/ (cn k x.aS).1.to≠x.ji\/ (x.mu=true/\ (cn k x.aS).1.mu=false))then 12
 else if sV k x.aQ x.aS=true\/ (x.mu=true/\0<Cb k x.aQ x.aS)then 5
 else 0
def lu(k:bq)(x:Tok):bq×Nat×Nat:=
 if qe k x≠0 then(k,0,qe k x)
 else match nu k.b with
  |some i=>if i<16 then({b:=au k.b i {k.b i with fe:=true},t:=au k.t i x},dg i (k.b i).gen,0)else(k,0,7)
  |none=>(k,0,7)
def hY(b:cO):Prop:= ∀i,(b i).gen<=8388607/\ ((b i).fe=true->(b i).ret=false)
def F5(e:eY h=some i):i<32/\h/256<=8388607/\h % 256=i+1/\h<2147483648:=by
 unfold eY at e;grind
def zH(h:Nat):aR h<32:=by
 unfold aR;cases e:eY h with
 |none=>simp
 |some i=>exact(F5 e).1
theorem F6(e:eY h=some i):aR h=i:=by simp[aR,e]
theorem Tp(e:eY h=some i):dg i (h/256)=h:=by
 have:=F5 e;unfold dg;omega
theorem lv{b:cO}:az b h=true↔ ∃i,eY h=some i/\b i=⟨h/256,true,false⟩:=by
 unfold az
 grind
def fF{b:cO}(a:az b h=true):h<4294967296:=by
 obtain⟨i,e,_⟩:=lv.1 a;have:=F5 e;omega
def Tq{b:cO}(a:az b h=true):h≠0:=by
 obtain⟨i,e,_⟩:=lv.1 a;have:=F5 e;omega
def Cc{b:cO}(a:az b h=true):eY h=some (aR h)/\b (aR h)=⟨h/256,true,false⟩/\dg (aR h) (h/256)=h:=by grind [lv,F6,Tp]
theorem Tr{b:cO}(d:hY b)(c:i<32):az b (dg i (b i).gen)=(b i).fe:=by
 obtain⟨j,h⟩:=d i;have e:=Td c j;have f:dg i (b i).gen/256=(b i).gen:=by unfold dg;omega
 unfold az;rw[e];simp only[f];revert h;generalize b i=s;obtain⟨g,a,r⟩:=s;simp_all
theorem gi{b:cO}(d:hY b):h∈bo b↔az b h=true:=by
 unfold bo;simp only[ago,agy,al1];constructor
 ·grind [Tr]
 ·intro c;obtain⟨i,e,a⟩:=lv.1 c;refine⟨i,⟨(F5 e).1,by grind⟩,?_⟩;rw[a];exact Tp e
theorem lC(b:cO): (bo b).length<=32:=by
 unfold bo
 grind
def F7{g:Nat}(a:i<32)(b:g<=8388607):dg i g<4294967296:=by unfold dg;omega
theorem sW{b:cO}(e:nu b=some i):i<32/\ (b i).fe=false/\ (b i).ret=false/\ ∀j,j<i->ns b j=false:=by
 unfold nu at e;rw[List.find?_range_eq_some]at e;obtain⟨a,d,c⟩:=e;unfold ns at a
 grind
theorem Ts{b:cO}(a:hY b)(e:nu b=some i):hY (au b i {b i with fe:=true}):=by
 intro j;by_cases h:j=i
 ·subst h;rw[cw];exact⟨(a j).1,λ_=>(sW e).2.2.1⟩
 ·rw[cR h];exact a j
theorem F8{b:cO}(a:hY b)(h:Nat):hY (eN b h).1:=by
 unfold eN;split
 ·intro j;by_cases e:j=aR h
  ·subst e;simp only[cw];have:=(a (aR h)).1;unfold rk;grind
  ·simp only[cR e];exact a j
 omega
structure gj(r:ds):Prop where
 up:r.up<4294967296
 dG:r.dG<=64
 len:r.len<=2048
 cells: ∀i,r.cells i<4294967296
 runs: ∀x∈r.runs,1<=x.2/\x.1+x.2<=64
 aL:aL r.runs<=64
structure bT(t:aw):Prop where
 b:hY t.b
 r: ∀i,gj (t.r i)
def ca(t:aw):Prop:= ∀h,(aS t h).length<=5
def ahm{t:aw}:kI t i<4294967296:=by
 unfold kI;split
 ·rename_i h;exact fF h
 ·omega
def asf{t:aw}:bt t h<4294967296:=by
 unfold bt;split
 ·exact ahm
 ·omega
theorem F9{t:aw}(a:bt t h≠0):t.az (bt t h)=true/\t.az h=true:=by
 unfold bt at*;split at a
 ·unfold kI at*
  grind
 omega
theorem Tt{t:aw}: ∀ (n:Nat) (h:Nat),(eO t n h).length<n-> ∀m,n<=m->eO t m h=eO t n h
 |0,_,a,_,_=>by omega
 |n+1,h,a,m,hm=>by
  obtain⟨m,rfl⟩: ∃k,m=k+1:=⟨m-1,by omega⟩;simp only[eO]at a⊢;by_cases hu:bt t h=0
  ·grind
  ·rw[aeu hu]at a;simp only[agt]at a;rw[Tt n _ (by omega) m (by omega)]
def qf{t:aw}(a:ca t)(h:Nat):aS t h=if bt t h=0 then[]else bt t h::aS t (bt t h):=by
 unfold aS;by_cases hu:bt t h=0
 ·rw[aez hu,eO,aez hu]
 ·have e:eO t 33 h=eO t 32 h:=Tt 32 h (by have:=a h;unfold aS at this;omega) 33 (by omega);rw[<-e,eO,aeu hu]
def LN{t:aw}(c:ca t)(a:x∈aS t h):t.az x=true:=by
 have key: ∀ (n h:Nat),(aS t h).length<=n->x∈aS t h->t.az x=true:=by
  intro n
  induction n with
  |zero=>grind
  |succ n d=>
   intro h b a;rw[qf c]at a b;by_cases hu:bt t h=0
   ·grind
   ·rw[aeu hu]at a b;rcases agF.1 a with rfl|a
    ·exact(F9 hu).1
    grind
 exact key _ h (ae0 _) a
def dep(t:aw)(h:Nat):Nat:=(aS t h).length
theorem Cd{t:aw}(b:ca t)(a:bt t h≠0):dep t h=dep t (bt t h)+1:=by
 unfold dep;rw[qf b,aeu a];rfl
def LO{t:aw}(a:x∈kids t h):t.az h=true/\bt t x=h/\x∈bo t.b:=by
 unfold kids at a
 grind
theorem Ce{t:aw}(a:ca t)(b:x∈kids t h):dep t x=dep t h+1:=by
 obtain⟨d,c,_⟩:=LO b;have:=Cd a (h:=x) (by rw[c];exact Tq d)
 grind
def ahn(t:aw)(h:Nat): (kids t h).length<=32:=by
 unfold kids;split
 ·grind [Nat.le_trans,List.length_filter_le,lC]
 ·simp
theorem aho{α β:Type}{f g:α->List β}: ∀ {l:List α},(∀x∈l,f x=g x)->l.flatMap f=l.flatMap g
 | [],_=>rfl
 |x::xs,h=>by
  rw[ara,ara,h x (alc ..),aho λy a=>h y (agE _ a)]
theorem Tu{t:aw}(a:ca t): ∀ (n h:Nat),5<=n+dep t h-> ∀m,n<=m->iA t m h=iA t n h
 |0,h,d,m,_=>by
  have c:kids t h=[]:=by
   cases e:kids t h with
   |nil=>rfl
   |cons x xs=>
    have:=Ce a (h:=h) (x:=x) (by grind);have f:=a x;unfold dep at*;omega
  cases m with
  |zero=>rfl
  |succ m=>rw[iA,iA,c];rfl
 |n+1,h,d,m,hm=>by
  obtain⟨m,rfl⟩: ∃k,m=k+1:=⟨m-1,by omega⟩;refine ahX (h:: ·) (aho λx b=>?_);exact Tu a n x (by have:=Ce a b;omega) m (by omega)
def dC(t:aw)(h:Nat):lN:=iA t 32 h
def Tv{t:aw}(a:ca t)(h:Nat):dC t h=h:: (kids t h).flatMap (dC t):=by
 unfold dC;rw[<-Tu a 32 h (by omega) 33 (by omega),iA]
theorem Tw{α:Type}(f:α->Nat)(c:Nat): ∀l:List α,(∀x∈l,f x<=c)->(l.map f).sum<=l.length*c
 | [],_=>by simp
 |x::xs,h=>by
  have d:=h x (alc ..);have b:=Tw f c xs λy a=>h y (agE _ a)
  simp only[amF,List.sum_cons,agt,aqt];omega
theorem ahp(t:aw): ∀ (n h:Nat),(iA t n h).length<=33^n
 |0,h=>by simp[iA]
 |n+1,h=>by
  rw[iA,agt,List.length_flatMap];have c:=Tw (λx=>(iA t n x).length) (33^n) (kids t h) λx _=>ahp t n x
  have a:=ahn t h;have b: (kids t h).length*33^n<=32*33^n:=amE _ a
  grind
def Tx{t:aw}(a:ca t)(h:Nat): (dC t h).length<=39135393:=by
 have:=ahp t 5 h;unfold dC;rw[Tu a 5 h (by omega) 32 (by omega)];omega
def aCx{t:aw}(h:Nat):dC t h≠[]:=by unfold dC;rw[iA];simp
def Cf{t:aw}(f:hY t.b)(b:t.az h=true)(a:x∈dC t h):t.az x=true:=by
 have key: ∀ (n h:Nat),t.az h=true->x∈iA t n h->t.az x=true:=by
  intro n
  induction n with
  |zero=>intro h b a;rw[iA,ae5]at a;grind
  |succ n c=>
   intro h b a;rcases agF.1 a with rfl|a
   ·omega
   ·obtain⟨y,d,e⟩:=aqq.1 a;exact c y ((gi f).1 (LO d).2.2) e
 exact key 32 h b a
def nw(k:bq)(a:Nat):lN:=sU k λx=>decide (x.aQ=a)
def sX(k:bq)(aa:Nat):lN:=sU k λx=>decide (x.to=aa)
def ny(k:bq)(l:lN):bq:=l.foldl (λk h=>{k with b:=(eN k.b h).1}) k
def LP(k:bq)(a:Nat):bq:=ny k (nw k a)
def Ty(k:bq)(h:Nat):lN:=sU k λx=>decide (x.aS=h)
def nz(k:bq):Nat->Nat->lN
 |0,h=>[h]
 |n+1,h=>h:: (Ty k h).flatMap (nz k n)
def rm(k:bq)(h:Nat):lN:=(bo k.b).filter λx=>(nz k 16 h).contains x
def mP(k:bq)(h:Nat):bq×lN×Nat:=if az k.b h then(ny k (rm k h),rm k h,0)else(k,[],4)
def xf(k:bq)(b a:Nat):Bool:=nv k a&& !sV k b a
def zI(k:bq)(b a:Nat):Bool:=nv k a&&decide (Cb k b a=0)
def Ga(T:aw)(K:bq)(h a:Nat):Bool:=
 if a=0 then xf K h 0 else if a=1 then zI K h 0 else if a=2 then !((under T h).any λx=>decide (0< (nw K x).length))else false
def Gb(K:bq)(aa h a:Nat):Bool:=(nw K h).any λt=>
 decide ((cn K t).1.to=aa)&& ((decide (a=0)&&xf K h t)|| (decide (a=1)&& (cn K t).1.mu&&zI K h t))
def xg(T:aw)(O:bK)(K:bq)(aa h a:Nat):Nat:=
 if T.az h=false then 4
 else if(bP O T h).kind=3 then(if a=0/\aa<8/\ (bP O T h).hold.testBit aa=true then 0 else 5)
 else if(bP O T h).kind=1 then(if((bP O T h).aa=aa/\Ga T K h a=true)\/Gb K aa h a=true then 0 else 5)
 else 5
def zJ:kH:=⟨0,0,0,false⟩
def mf(b:cT)(i:Nat):Nat:=(b.fr+i) % 4
def oJ(b:cT)(m:kH):cT×Nat:=
 if b.closed then(b,11)else if b.n=4 then(b,7)else({b with ring:=au b.ring (mf b b.n) m,n:=b.n+1},0)
def mQ(b:cT):cT×kH×Nat:=
 if b.n=0 then(b,zJ,if b.closed then 11 else 10)else({b with fr:=mf b 1,n:=b.n-1},b.ring b.fr,0)
def vy(b:cT):cT×Nat:=if b.closed then(b,11)else({b with closed:=true},0)
def gk(b:cT):List kH:=(List.range b.n).map λi=>b.ring (mf b i)
def zK:cT:=⟨λ_=>zJ,0,0,true⟩
def nA(t:aw)(r a to:Nat)(b:Bool):aw×Nat:=
 if t.az r=false\/ (to≠0/\t.az to=false)then(t,4)
 else if 8<=a then(t,2)
 else if to≠0/\b=false/\kJ t to r=false then(t,5)
 else
  let x:=(aM t r).1
  let n:=fP t r {x with cells:=au x.cells a to}
  if n.2=0 then n else(t,n.2)
def sY(t:aw)(r a:Nat):Nat×Nat:=
 if t.az r=false then(0,4)
 else if 8<=a then(0,2)
 else
  let to:=(aM t r).1.cells a
  if to=0 then(0,10)else if t.az to=false then(0,4)else(to,0)
structure aC where
 s:bF
 aa:Nat
 c:cy
 run:aD
 mR:Nat
 asks:Bool
 back:List aD
abbrev R(α:Type):=Except Nat α
def ask(b:Bool)(e:Nat):R Unit:=if b then .ok ()else .error e
def cD(e:Nat):R Unit:=if e=0 then .ok ()else .error e
def aC.t(x:aC)(T:aw):aC:={x with s:={x.s with T:=T}}
def aC.o(x:aC)(O:bK):aC:={x with s:={x.s with O:=O}}
def aC.k(x:aC)(K:bq):aC:={x with s:={x.s with K:=K}}
def aC.bx(x:aC)(i:Nat)(b:cT):aC:={x with s:={x.s with c8:=au x.s.c8 i b}}
def ga(x:aC)(h a:Nat):R Unit:=cD (xg x.s.T x.s.O x.s.K x.aa h a)
def mS(x:aC)(aa:Nat):R Unit:=ask (decide (aa<8)&&x.s.alive aa) 2
def jk(x:aC)(y:Nat):aC:={x.k (LP x.s.K y)with back:=x.back++(aM x.s.T y).1.runs}
def gU(x:aC)(h:Nat):aC:=let y:=(under x.s.T h).foldl jk x;y.t (me y.s.T h).1
def xh(x:aC)(h:Nat):R aC:=do cD (jH x.s.T h).2;return x.t (jH x.s.T h).1
def nC(x:aC)(h aa:Nat):R aC:=do cD (rl x.s.O x.s.T h aa).2;return x.o (rl x.s.O x.s.T h aa).1
def oK(x:aC)(h:Nat)(r:ds):R aC:=do cD (fP x.s.T h r).2;return x.t (fP x.s.T h r).1
def bX:bG:=⟨0,0,0⟩
def xi(x:aC):R (aC×bG):=do
 if x.c.r≠0 then ga x x.c.r 1
 let n:=iB x.s.T x.c.r (min x.c.a 65)
 cD n.2.2
 let y:=x.t n.1
 let y<-if x.c.r=0 then nC y n.2.1 x.aa else pure y
 return (y,{bX with w:=n.2.1})
def isObj(a b:Nat):Bool:=decide (1<=a)&&decide (a<=128)&& [1,2,4,8].contains b
def hZ(c:List aD)(len b a:Nat):oN:=
 if isObj b a then(let at':=(len+a-1)/a*a;if at'+b<=aL c*32 then some at' else none)else none
def qg(a b:Nat):oN:=if isObj a b then some ((a+31)/32)else none
def kK(a:List aD):Nat->Nat->oN:=match a with
 | []=>λ_ _=>none
 |r::rs=>λbase at'=>if base<=at'/\at'<base+r.2*32 then some (r.1*32+at'-base)else kK rs (base+r.2*32) at'
def mT(x:aC):R (aC×bG):=do
 let size:=min x.c.a 129
 let align:=min x.c.b 9
 let n<-match qg size align with|some n=>pure n|none=>.error 2
 ga x x.c.r 1
 cD (aM x.s.T x.c.r).2
 let r:=(aM x.s.T x.c.r).1
 match hZ r.runs r.len size align with
 |some at'=>do
  let y<-oK x x.c.r {r with len:=at'+size}
  return (y,{bX with v:=at'})
 |none=>do
  ask (decide (aL r.runs+n<=r.dG)) 6
  let x:={x with mR:=n}
  if x.asks then return (x,bX)
  let runs:=r.runs++[x.run]
  let len:=aL r.runs*32
  ask (decide (x.run.2=n)&&qd runs len) 2
  let at':=(hZ runs len size align).getD 0
  let b:=match hZ runs len size align with|some a=>a+size|none=>len
  let y<-oK x x.c.r {r with runs:=runs,len:=b}
  return (y,{bX with v:=at'})
def vz(x:aC)(a:Nat):R (aC×bG):=do
 ask (decide (1<=x.c.b)&&decide (x.c.b<=8)) 2
 ga x x.c.r a
 cD (aM x.s.T x.c.r).2
 ask (decide (x.c.a+x.c.b<=(aM x.s.T x.c.r).1.len)) 9
 return (x,bX)
def zL(x:aC):R (aC×bG):=do
 ga x x.c.r 1
 cD (aM x.s.T x.c.r).2
 let r:=(aM x.s.T x.c.r).1
 let y<-oK {x with back:=x.back++r.runs} x.c.r {dR with dG:=r.dG}
 return (y,bX)
def zM(x:aC):R (aC×bG):=do
 ga x x.c.r 2
 return (gU x x.c.r,bX)
def Cg(x:aC):R (aC×bG):=do
 ga x x.c.r 2
 ask (decide (root x.s.T x.c.r≠x.c.r)) 12
 let y<-xh x x.c.r
 let y<-nC y x.c.r x.aa
 return (y,bX)
def Ch(x:aC):R (aC×bG):=do
 ga x x.c.r 2
 ga x x.c.s 1
 let t:=vu x.s.T x.c.r x.c.s
 cD t.2
 return (x.t t.1,bX)
def Ci(x:aC):R (aC×bG):=do
 ga x x.c.r 2
 let y<-xh x x.c.r
 let o:=zG y.s.O y.s.T x.c.r x.aa
 cD o.2
 return (y.o o.1,bX)
def zN(x:aC)(h:Nat):R Unit:=do
 ask (x.s.T.az h) 4
 let o:=bP x.s.O x.s.T h
 ask (decide (root x.s.T h=h)&&decide (o.kind=3)) 12
 ask (o.hold.testBit x.aa) 5
def zO(x:aC)(h aa:Nat):bK×Nat:=((dH x.s.O x.s.T h aa true).1,(dH x.s.O x.s.T h aa true).2.2)
def zP(x:aC):R (aC×bG):=do
 mS x x.c.a
 zN x x.c.r
 let o:=zO x x.c.r x.c.a
 cD o.2
 return (x.o o.1,bX)
def lD(x:aC)(h aa:Nat):R aC:=do
 let o:=dH x.s.O x.s.T h aa false
 cD o.2.2
 let y:=x.o o.1
 return if o.2.1=0 then gU y h else y
def Cj(x:aC):R (aC×bG):=do
 zN x x.c.r
 return (<-lD x x.c.r x.aa,bX)
def vA(x:aC):R (aC×bG):=do
 mS x x.c.a
 ask (decide (x.c.b<=1)) 2
 ask (x.s.T.az x.c.r) 4
 if x.c.s=0 then ask (decide ((bP x.s.O x.s.T x.c.r).kind=1)&&decide ((bP x.s.O x.s.T x.c.r).aa=x.aa)) 5
 else do
  cD (cn x.s.K x.c.s).2
  ask (decide ((cn x.s.K x.c.s).1.to=x.aa)&&decide ((cn x.s.K x.c.s).1.aQ=x.c.r)) 5
 let k:=lu x.s.K ⟨x.c.r,x.aa % 256,x.c.a % 256,decide (x.c.b=1),x.c.s⟩
 cD k.2.2
 return (x.k k.1,{bX with w:=k.2.1})
def Ck(x:aC):R (aC×bG):=do
 cD (cn x.s.K x.c.s).2
 ask (decide ((cn x.s.K x.c.s).1.to=x.aa)) 5
 return (x.k (mP x.s.K x.c.s).1,bX)
def rn(x:aC):R (aC×bG):=do
 mS x x.c.a
 ask (decide (x.c.b<=1)) 2
 let share:=decide (x.c.r≠0)&&decide (x.c.b=1)
 let y<-if share then do
     zN x x.c.r
     pure (if(zO x x.c.r x.c.a).2=0 then x.o (zO x x.c.r x.c.a).1 else x)
  else if x.c.r≠0 then do
   ga x x.c.r 2
   let y<-xh x x.c.r
   let o:=xe y.s.O y.s.T x.c.r
   cD o.2
   pure (y.o o.1)
  else pure x
 let b:=oJ (y.s.c8 x.c.a) ⟨x.aa % 256,x.c.v,x.c.r,share⟩
 cD b.2
 return (y.bx x.c.a b.1,bX)
def sZ(x:aC):R (aC×bG):=do
 let b:=mQ (x.s.c8 x.aa)
 cD b.2.2
 let y:=x.bx x.aa b.1
 let m:=b.2.1
 let y<-if m.aQ≠0/\m.share=false then nC y m.aQ x.aa else pure y
 return (y,{bX with v:=m.word,w:=m.aQ})
def Cl(x:aC):R (aC×bG):=do
 let b:=vy (x.s.c8 x.aa)
 cD b.2
 return (x.bx x.aa b.1,bX)
def s6(x:aC):R (aC×bG):=do
 ga x x.c.r 1
 if x.c.s≠0 then ga x x.c.s 0
 let t:=nA x.s.T x.c.r (min x.c.a 8) x.c.s (decide ((bP x.s.O x.s.T x.c.s).kind=3))
 cD t.2
 return (x.t t.1,bX)
def Cm(x:aC):R (aC×bG):=do
 ga x x.c.r 0
 let t:=sY x.s.T x.c.r (min x.c.a 8)
 cD t.2
 return (x,{bX with w:=t.1})
def qh(x:aC)(aa:Nat):R aC:=do
 let l:=gk (x.s.c8 aa)
 let y:=x.bx aa zK
 let y:={y with s:={y.s with alive:=au y.s.alive aa false}}
 let y<-l.foldlM (λy m=>if m.aQ=0\/m.share=true then pure y else if y.s.alive m.fr then nC y m.aQ m.fr else pure (gU y m.aQ)) y
 let y:=(sX y.s.K aa).foldl (λy h=>y.k (mP y.s.K h).1) y
 let y:=((bo y.s.T.b).filter λh=>decide (root y.s.T h=h)&&decide ((bP y.s.O y.s.T h).kind=1)&&decide ((bP y.s.O y.s.T h).aa=aa)).foldl gU y
 ((bo y.s.T.b).filter λh=>decide (root y.s.T h=h)&&decide ((bP y.s.O y.s.T h).kind=3)&& (decide (aa<8)&&mO (bP y.s.O y.s.T h).hold aa)).foldlM (λy h=>lD y h aa) y
def Cn(x:aC):R (aC×bG):=do
 mS x x.c.a
 return (<-qh x x.c.a,bX)
def vB(x:aC):R (aC×bG):=do
 ask (decide (x.c.a<8)&& !x.s.born (x.c.a % 8)) 2
 return ({x with s:={x.s with alive:=au x.s.alive x.c.a true,born:=au x.s.born x.c.a true}},bX)
def mg(x:aC):R (aC×bG):=match x.c.op with
 |1=>xi x|2=>mT x|3=>vz x 0|4=>vz x 1|5=>zL x|6=>zM x|7=>Cg x|8=>Ch x|9=>Ci x|10=>zP x
 |11=>Cj x|12=>vA x|13=>Ck x|14=>rn x|15=>sZ x|16=>sZ x|17=>Cl x|18=>s6 x|19=>Cm x
 |20=>do return (<-qh x x.aa,bX)
 |21=>Cn x|22=>vB x
 |_=>.error 2
def jI(x:aC):R (aC×bG):=do
 ask (decide (x.aa<8)&&x.s.alive x.aa) 12
 mg x
def dX(s:bF)(aa:Nat)(c:cy)(run:aD):bF×bG×List aD:=match jI ⟨s,aa,c,run,0,false,[]⟩with
 |.ok (x,r)=>if r.e=0 then(x.s,r,x.back)else(s,r,[])
 |.error e=>(s,{bX with e:=e},[])
def fk(s:bF)(aa:Nat)(c:cy):Nat:=if c.op≠2 then 0 else match jI ⟨s,aa,c,(0,0),0,true,[]⟩with
 |.ok (x,_)=>x.mR
 |.error _=>0
def jl(s:bF)(c:cy):lN×Nat:=
 if(aM s.T c.r).2≠0 then([],(aM s.T c.r).2)
 else if(c.op≠3/\c.op≠4)\/c.b<1\/8<c.b then([],2)
 else if(aM s.T c.r).1.len<c.a+c.b then([],9)
 else((List.range c.b).map λi=>(kK (aM s.T c.r).1.runs 0 (c.a+i)).getD 0,0)
def oL(s:bF)(aa:Nat)(c:cy):Nat:=if 0<fk s aa c then 0 else(dX s aa c (0,0)).2.1.e
def Co(s:bF)(aa:Nat)(c:cy):Bool:=decide (c.op=15)&&decide (oL s aa c=10)
def oM(s:bF)(h:Nat):lN:=if s.T.az h then[h]else[]
def s8(s:bF)(c:cy):lN:=
 if[1,2,3,4,5,10,12,18,19].contains c.op then oM s c.r
 else if[6,7,9,11].contains c.op then under s.T c.r
 else if c.op=8 then
  (if under s.T c.r=[]\/s.T.az c.s=false then[]else if(under s.T c.r).contains c.s then under s.T c.r else under s.T c.r++[c.s])
 else if c.op=13 then(if(cn s.K c.s).2=0 then oM s (cn s.K c.s).1.aQ else[])
 else if c.op=14 then(if c.b=1 then oM s c.r else under s.T c.r)
 else[]
structure fA where
 has:Nat
 n:Nat
 wait:Nat->Nat
abbrev Marks:=Nat->fA
def xj:fA:=⟨0,0,λ_=>0⟩
def rp(l:fA)(aa:Nat):oN:=(List.range l.n).find? λi=>decide (l.wait i=aa % 256)
def Tz(l:fA)(i:Nat):fA:={l with n:=l.n-1,wait:=au (λj=>if i<=j/\j<7 then l.wait (j+1)else l.wait j) (l.n-1) 0}
def xk(l:fA)(aa:Nat):fA:=match rp l aa with
 |none=>l
 |some i=>Tz l i
def jm(a aa:Nat):Bool:=decide (a<32)&&decide (aa<8)
def jn(m:Marks)(a aa:Nat):Marks×Bool:=
 if jm a aa=false then(m,false)
 else if(m a).has=aa+1 then(m,true)
 else if(m a).has=0/\ ((m a).n=0\/rp (m a) aa=some 0)then(au m a {xk (m a) aa with has:=aa+1},true)
 else if rp (m a) aa=none then(au m a {m a with n:=(m a).n+1,wait:=au (m a).wait (m a).n aa},false)
 else(m,false)
def Cp(l:fA)(aa:Nat):fA:=if l.has=aa+1 then{l with has:=0}else l
def rq(m:Marks)(aa:Nat):Marks:=λi=>if jm i aa then xk (Cp (m i) aa) aa else m i
structure cU where
 n:Nat
 free:List aD
 bytes:Nat->Nat->Nat
 cK:Bool
def ru(l:List aD)(x:aD):Option (List aD):=
 if lq x=false then none
 else match l.findIdx? λy=>decide (x=y)|| (decide (y.1<=x.1)&&decide (x.1+x.2<=y.1+y.2))with
  |none=>none
  |some i=>
   let y:=l.getD i (0,0)
   some (l.take i++((if y.1<x.1 then[(y.1,x.1-y.1)]else[])++(if x.1+x.2<y.1+y.2 then[(x.1+x.2,y.1+y.2- (x.1+x.2))]else[]))++l.drop (i+1))
def TA(l:List aD)(k:Nat):Bool:=decide (k<64)&&l.any λy=>decide ((k,1)=y)|| (decide (y.1<=k)&&decide (k+1<=y.1+y.2))
def jJ(p:cU)(n:Nat):cU×Nat×Nat:=
 if n<1 then(p,0,2)
 else match p.free.find? λx=>decide (1<=n)&&decide (n<=x.2)with
  |none=>(p,0,6)
  |some x=>(match ru p.free (x.1,n)with
   |some l=>{p with free:=l,cK:=false}
   |none=>p,x.1,0)
def gM(p:cU)(a:Nat):Nat:=if p.n<=a then 2 else if TA p.free a then 12 else 0
def ry(p:cU)(a:Nat):cU:=if gM p a=0 then{p with bytes:=au p.bytes a λ_=>0}else p
def LQ(p:cU)(a:Nat):cU:=match iW p.free (a,1)with
 |some l=>{p with free:=l,cK:=false}
 |none=>p
def rA(p:cU)(a:Nat):cU:=if gM p a=0 then LQ p a else p
def s9(p:cU)(at':Nat):Nat:=if gM p (at'/32)=0 then p.bytes (at'/32) (at' % 32)else 0
def vC(p:cU)(at' b:Nat):cU:=if gM p (at'/32)=0 then{p with bytes:=au p.bytes (at'/32) (au (p.bytes (at'/32)) (at' % 32) b)}else p
structure Core where
 S:bF
 P:cU
 M:Marks
 Q:lN
structure Call where
 aa:Nat
 c:cy
 checked:Bool
 aY:lN
 run:aD
 fo:Nat
def gl(r:aD):lN:=(List.range r.2).map λi=>r.1+i
def c9(x:Core)(r:aD):Core:={x with Q:=x.Q++gl r}
def xl(x:Core)(c:Call):Core:={c9 x c.run with M:=rq x.M c.aa}
structure bR where
 x:Core
 c:Call
 r:bG
 ended:Bool
def rB(s:bR)(r:bG):bR:={s with r:=r,ended:=true,x:=xl s.x s.c}
def lE(s:bR):bR×Bool:=
 if s.c.checked then(s,false)
 else if Co s.x.S s.c.aa s.c.c then(s,true)
 else if oL s.x.S s.c.aa s.c.c≠0 then(rB s {bX with e:=oL s.x.S s.c.aa s.c.c},true)
 else({s with c:={s.c with checked:=true,aY:=s8 s.x.S s.c.c}},true)
def lF(s:bR):bR×Bool:=match s.c.aY with
 | []=>(s,false)
 |h::a=>
  let m:=jn s.x.M (aR h) s.c.aa
  ({s with x:={s.x with M:=m.1},c:=if m.2 then{s.c with aY:=a}else s.c},true)
def lG(s:bR):bR×Bool:=
 let n:=fk s.x.S s.c.aa s.c.c
 if n=0\/0<s.c.run.2 then(s,false)
 else
  let p:=jJ s.x.P n
  if p.2.2≠0 then(rB {s with x:={s.x with P:=p.1}} {bX with e:=p.2.2},true)
  else({s with x:={s.x with P:=p.1},c:={s.c with run:=(p.2.1,n)}},true)
def mh(s:bR):bR×Bool:=
 if s.c.run.2<=s.c.fo then(s,false)
 else({s with x:={s.x with P:=ry s.x.P (s.c.run.1+s.c.fo)},c:={s.c with fo:=s.c.fo+1}},true)
def byteOf(v i:Nat):Nat:=v/2^(8*i) % 256
def vD(s:bR):bR:=
 let s:=if 0<s.c.run.2/\fk s.x.S s.c.aa s.c.c≠s.c.run.2 then{s with x:=c9 s.x s.c.run,c:={s.c with run:=(0,0)}}else s
 let places:=(jl s.x.S s.c.c).1
 let d:=dX s.x.S s.c.aa s.c.c s.c.run
 if d.2.1.e≠0 then rB s d.2.1
 else
  let P:=if s.c.c.op=4 then(List.range places.length).foldl (λP i=>vC P (places.getD i 0) (byteOf s.c.c.v i)) s.x.P else s.x.P
  let v:=if s.c.c.op=3 then(List.range places.length).foldl (λv i=>v|||s9 s.x.P (places.getD i 0)*2^(8*i)) d.2.1.v else d.2.1.v
  let x:=d.2.2.foldl c9 {s.x with S:=d.1,P:=P}
  rB {s with x:=x,c:={s.c with run:=(0,0)}} {d.2.1 with v:=v}
def gn(x:Core)(c:Call):bR:=
 let d:bR:=⟨x,c,bX,false⟩
 let s1:=lE d
 if s1.2 then s1.1 else
 let s2:=lF s1.1
 if s2.2 then s2.1 else
 let b:=lG s2.1
 if b.2 then b.1 else
 let a:=mh b.1
 if a.2 then a.1 else vD a.1
def jo(x:Core):Core×Bool:=match x.Q with
 | []=>(x,false)
 |q::a=>({x with P:=rA x.P q,Q:=a},true)
structure dU where
 op:Nat
 a:Nat
 b:Nat
 c:Nat
 n:Nat
 deriving DecidableEq,Inhabited
def rC(x:dU)(n:Nat):Bool:=
 (decide (x.op<=6)|| (decide (16<x.op)&&decide (x.op<=38)))&&decide (x.a<8/\x.b<8/\x.c<8)&& (!(decide (x.op=5)||decide (x.op=6))||decide (x.n<n))
def qi(l:List dU):Bool:=decide (l.length<=64)&&l.all λx=>rC x l.length
def rD:lB->List dU
 |a::b::c::d::e::f::r=>⟨a.toNat,b.toNat,c.toNat,d.toNat,e.toNat+256*f.toNat⟩::rD r
 |_=>[]
def decode(s:lB):Option (List dU):=
 if s.length % 6≠0\/384<s.length then none else if qi (rD s)then some (rD s)else none
structure Task where
 code:List dU
 next:Nat
 aY:Nat->Nat
def mi:Nat:=18446744073709551616
def rE(t:Task):Option dU:=t.code[t.next]?
def mU:cy:=⟨0,0,0,0,0,0⟩
def iE(t:Task):cy×Bool:=match rE t with
 |none=>({mU with op:=20},true)
 |some x=>
  if x.op=0 then({mU with op:=20},true)
  else if x.op<=16 then(mU,false)
  else(⟨x.op-16,t.aY (x.b % 8) % 4294967296,t.aY (x.c % 8) % 4294967296,t.aY 6 % 4294967296,x.n,t.aY 5⟩,true)
def rF(t:Task):Task:=
 if(iE t).2 then t
 else match rE t with
  |none=>t
  |some x=>
   let b:=t.aY (x.b % 8)
   let c:=t.aY (x.c % 8)
   let put:=λv=>{t with aY:=au t.aY (x.a % 8) v,next:=t.next+1}
   if x.op=1 then put x.n
   else if x.op=2 then put ((b+c) % mi)
   else if x.op=3 then put ((b+mi-c) % mi)
   else if x.op=4 then put (b*2^x.n % mi)
   else if x.op=5 then{t with next:=x.n}
   else if x.op=6 then{t with next:=if t.aY (x.a % 8)≠0 then x.n else t.next+1}
   else{t with next:=t.next+1}
def ua(t:Task)(r:bG):Task:=match rE t with
 |none=>t
 |some x=>if(iE t).2 then{t with aY:=au (au (au t.aY (x.a % 8) r.v) 4 r.w) 7 r.e,next:=t.next+1}else t
structure Runner where
 t:Task
 c:Call
 busy:Bool
 fr:Nat
structure Event where
 aa:Nat
 c:cy
 run:aD
 r:bG
 fr:Nat
 to:Nat
structure aW where
 ai:Core
 aB:Nat->Runner
 now:Nat
 aV:List Event
def gV:Call:=⟨0,mU,false,[],(0,0),0⟩
def ub:Task:=⟨[],0,λ_=>0⟩
def Cq:Runner:=⟨ub,gV,false,0⟩
def j0(m:aW)(t:Nat):Bool:=decide (t<8)&&m.ai.S.alive t
def mj(m:aW)(i:Nat):aW:=
 if(m.aB i).busy=true/\j0 m i=false then{m with ai:=xl m.ai (m.aB i).c,aB:=au m.aB i {m.aB i with busy:=false,c:=gV}}else m
def lH(m:aW):aW:=(List.range 8).foldl mj m
def handed(b:aD)(a c:Nat):aD:=if b.2<=c-a/\0<b.2 then(0,0)else b
def LR(m:aW)(t:Nat)(c:Call)(run:aD)(r:bG):aW:=
 {m with aV:=m.aV++[⟨t,c.c,run,r,(m.aB t).fr,m.now⟩],aB:=au m.aB t {m.aB t with t:=ua (m.aB t).t r,busy:=false,c:=gV}}
def uc(m:aW)(t:Nat):aW:=
 let c:=(m.aB t).c
 let s:=gn m.ai c
 let m':={m with ai:=s.x,aB:=au m.aB t {m.aB t with c:=s.c}}
 if s.ended then
  let run:=if s.r.e≠0\/s.c.c.op≠2 then(0,0)else c.run
  LR m' t s.c (handed run m.ai.Q.length s.x.Q.length) s.r
 else m'
def vE(m:aW)(t:Nat):aW:=
 let x:=m.aB t
 if x.busy then uc m t
 else if(iE x.t).2 then uc {m with aB:=au m.aB t {x with c:={gV with aa:=t,c:=(iE x.t).1},busy:=true,fr:=m.now}} t
 else{m with aB:=au m.aB t {x with t:=rF x.t}}
def Cr(m:aW)(t:Nat):aW:=
 let c:={mU with op:=20}
 let d:=dX m.ai.S t c (0,0)
 {m with ai:={d.2.2.foldl c9 m.ai with S:=d.1},aV:=m.aV++[⟨t,c,(0,0),d.2.1,m.now,m.now⟩]}
def lI(m:aW)(b:Nat):aW×Nat:=
 let t:=b % 8
 if(8<b/\b<16)\/24<=b then(m,2)
 else if b=8 then(if(jo m.ai).2 then(lH {m with ai:=(jo m.ai).1,now:=m.now+1},0)else(m,10))
 else if j0 m t=false then(m,12)
 else if 16<=b then(lH (Cr {m with now:=m.now+1} t),0)
 else(lH (vE {m with now:=m.now+1} t),0)
def nD(m:aW)(t:Nat):Option Call:=if t<8/\ (m.aB t).busy=true then some (m.aB t).c else none
def rG(m:aW)(t:Nat):Bool:=match nD m t with
 |none=>false
 |some c=>j0 m t&& !c.checked&&Co m.ai.S t c.c
def oO(m:aW)(t:Nat):Bool:=decide (t<8)&&j0 m t&& !rG m t
structure TB where
 aL:Int
 aF:List lB
 aK:lN
def lJ(b:Nat):Bool:=decide (b<8)||decide (b=8)|| (decide (16<=b)&&decide (b<24))
def nE(s:TB):Bool:=
 decide (1<=s.aL/\s.aL<=64/\1<=s.aF.length/\s.aF.length<=8/\s.aK.length<=4000)&&s.aF.all (λp=>(decode p).isSome)&&s.aK.all lJ
def oP:bF:=⟨⟨λ_=>⟨0,false,false⟩,λ_=>dR⟩,λ_=>⟨0,vx⟩,⟨λ_=>⟨0,false,false⟩,λ_=>LM⟩,λ_=>⟨λ_=>zJ,0,0,false⟩,λi=>decide (i=0),λi=>decide (i=0)⟩
def TC(s:TB):aW:=⟨⟨oP,⟨s.aL.toNat,[(0,s.aL.toNat)],λ_ _=>0,true⟩,λ_=>xj,[]⟩,λi=>{Cq with t:={ub with code:=((s.aF[i]?).bind decode).getD []}},0,[]⟩
def zQ(s:TB):aW×lN:=s.aK.foldl (λp b=>((lI p.1 b).1,p.2++[(lI p.1 b).2])) (TC s,[])
def kL:lN:=[46,19,179,158,156,108,73,207]
noncomputable def X0:Ctx:={dL:=λg=>(B7.lookup g).map λ_=>[.lR g],code:=λf=>if kL.contains f then none else zu.lookup f,cg:=λ_=>none,fV:=λg=>(B7.lookup g).map sj}
def asg(h:Nat)(c:h<4294967296):dp .and (.int .u32 h) (.int .u32 255)=some (.int .u32 ((h % 256:Nat):Int)):=by
 rw[D0];have e: (BitVec.ofInt IntKind.u32.bits (h:Int)&&&BitVec.ofInt IntKind.u32.bits 255).toNat=h % 256:=by
  show(BitVec.ofInt 32 (h:Int)&&&BitVec.ofInt 32 255).toNat=h % 256;rw[BitVec.toNat_and];have b: (BitVec.ofInt 32 (h:Int)).toNat=h:=by grind
  have a: (BitVec.ofInt 32 255).toNat=2^8-1:=by rfl
  rw[b,a,aAL]
 rw[e,wrap_u32 (by omega) (by omega)]
theorem p8: (2:Int)^min 8 IntKind.u32.bits=256:=by rfl
def ahq: ((a:Nat):Int).fdiv 256=((a/256:Nat):Int):=by grind
def ash(s:Slot)(g:Nat)(a c:Bool):dA (.agg [.int,.bool,.bool]) (.agg (jf s)) (.agg [.int .u32 g,.bool a,.bool c])=some (decide (s=⟨g,a,c⟩)):=by
 obtain⟨b,a',d⟩:=s;simp only[dA,jf,agt,am9,Pv,adT,adU,ahJ,and_self,Slot.mk.injEq,Int.natCast_inj]
 grind
def iX(h:Nat):AV:=.ax [.int .i64 ((eY h).getD 0:Nat),.bool (eY h).isSome]
def j4(h:Nat)(b:h<4294967296)(H:List ae)(lo:oN):D X0 (.fn (.func 47) [] []) [.int .u32 h] ⟨H,lo⟩=some (.ret (iX h) ⟨H,lo⟩):=by
 refine aH QD λN c=>?_
 simp(disch:=omega) only[↓R1,Zz,simprocAttr,QD,asg h b];refine wz 19 (.bool (!(eY h).isSome)) [4] rfl rfl ?_ λd=>?_
 ·simp only[R4,↓R1,Zz,simprocAttr,p8,ahq]
  (repeat' (first|apply And.intro|intro _))
  all_goals(refine ahX AV.bool ?_;unfold eY;split<;>simp<;>omega)
 cases a:eY h with
 |none=>simp(disch:=omega) only[F1,↓R1,Zz,simprocAttr,iX,a]
 |some i=>
  have: (h % 256:Nat)- (1:Int)=(i:Nat):=by
   unfold eY at a;split at a<;>cases a;omega
  simp(disch:=omega) only[F1,↓R1,Zz,simprocAttr,iX,a,this]
def ahr(i g:Nat)(a:i<32)(b:g<=8388607)(H:List ae)(lo:oN):D X0 (.fn (.func 114) [] []) [.int .i64 i,.int .u32 g] ⟨H,lo⟩=some (.ret (.int .u32 (dg i g)) ⟨H,lo⟩):=by
 refine aH Q4 λN c=>?_
 simp(disch:=omega) only[F1,↓R1,Zz,simprocAttr,Q4,p8];exact dk (ahX _ (by rfl)) rfl
def eP(b:cO)(h:Nat)(e:h<4294967296)(H:List ae)(lo:oN):D X0 (.fn (.func 48) [] []) [.agg (b9 b),.int .u32 h] ⟨H,lo⟩=some (.ret (.bool (az b h)) ⟨H,lo⟩):=by
 refine aH QE λN f=>?_
 simp only[↓R1,Zz,simprocAttr,QE,f,j4 h e,iX];cases a:eY h with
 |none=>simp(disch:=omega) only[F1,↓R1,Zz,simprocAttr,az,a]
 |some i=>
  have d:=agL a;have c: (i:Int)<32:=by omega
  simp(disch:=omega) only[F1,↓ao1,↓R1,Zz,simprocAttr,az,a,agG d,c,p8,ahq,ash]
def nF{p:Nat->Prop}{k:Nat}(h: ∀j,j<k->p j)(a:p k): ∀j,j<k+1->p j:=by grind
def asi{p:Nat->Bool}{k:Nat}(b:k<n)(a:p k=true)(h: ∀j,j<k->p j=false): (List.range n).find? p=some k:=by simp_all
def asj{p:Nat->Bool}(h: ∀j,j<n->p j=false): (List.range n).find? p=none:=by grind
def ud(b:cO):AV:=.ax [.agg (b9 (qc b).1),.int .u32 (qc b).2.1,.bool (qc b).2.2]
theorem LS:wH.length=96:=by rfl
theorem LU:List.drop 96 wH=[]:=by rfl
def LV:type_of% LS/\type_of% LU:=by decide
def ahs(b:cO)(r:hY b)(H:List ae)(lo:oN):D X0 (.fn (.func 320) [] []) [.agg (b9 b)] ⟨H,lo⟩=some (.ret (ud b) ⟨H,lo⟩):=by
 refine aH Sz λN s=>?_
 simp only[go_sem,simprocAttr,Sz,s,↓Ta];refine dQ 32 (λk e H'=> ∃J,H'=cat H (.box (b9 b) none:: .box wH none::J)/\e 1= .ptr N 0/\e 2= .ptr (N+1) 0/\e 8= .agg (b9 b)/\e 9= .int .i64 k/\ ∀j,j<k->ns b j=false) 0 (by omega) ?_ ?_
 ·simp only[go_sem,simprocAttr];exact⟨[],fz.symm,by simp⟩
 rintro k t e H' ⟨J,rfl,m,l,p,o,f⟩ n q;have d: ∀a b,(cat H (a::b::J)).length=n:=λ_ _=>by rw[<-q,LB,LB];rfl
 simp(disch:=omega) only[bO,F1,go_sem,simprocAttr,agb,m,l,p,o];refine⟨λh=>?_,λh=>?_⟩
 ·have c:k<32:=by omega
  cases g: (b k).fe
  ·cases i: (b k).ret
   ·simp(disch:=first|omega|apply d) only[F1,go_sem,simprocAttr,h,d,Tb c,jf,g,i,m,l,agJ c,ahr k (b k).gen c (r k).1,LV];have e:nu b=some k:=asi c (by simp[ns,g,i]) f;exact⟨by omega,by simp[ud,qc,e,i]⟩
   ·simp(disch:=first|omega|apply d) only[go_sem,simprocAttr,h,d,Tb c,jf,g,i,m,l,p,o];exact⟨c,_,S8,nF f (by simp[ns,i])⟩
  ·simp(disch:=first|omega|apply d) only[go_sem,simprocAttr,h,d,Tb c,jf,g,m,l,p,o];exact⟨c,_,S8,nF f (by simp[ns,g])⟩
 ·simp(disch:=first|omega|apply d) only[go_sem,simprocAttr,LV];have e:nu b=none:=asj λj u=>f j (by omega)
  simp[ud,qc,e]
def atR(b:cO)(k:Nat):AV:=.ax [.int .u32 (if k<32/\ (b k).fe=true then dg k (b k).gen else 0:Nat),.bool (decide (k<32)&& (b k).fe)]
def asl(b:cO)(h:hY b)(k:Nat)(H:List ae)(lo:oN):D X0 (.fn (.func 81) [] []) [.agg (b9 b),.int .i64 k] ⟨H,lo⟩=some (.ret (atR b k) ⟨H,lo⟩):=by
 refine aH Fu λN d=>?_
 have e: ¬(k:Int)<0:=by omega
 by_cases a:k<32
 ·have c: ¬(k:Int)>=32:=by omega
  have g: (k:Int)<32:=by omega
  cases f: (b k).fe
  ·simp only[F1,go_sem,simprocAttr,Fu,d,e,c,g,agI a,f,atR,a]
  ·simp only[F1,go_sem,simprocAttr,Fu,d,e,c,g,agI a,agH a,f,ahr k (b k).gen a (h k).1,atR,a]
 ·have c: (k:Int)>=32:=by omega
  simp only[F1,go_sem,simprocAttr,Fu,d,e,c,atR,a,false_and,ahM]
def zR(b:cO)(h:Nat):AV:=.ax [.agg (b9 (eN b h).1),.bool (eN b h).2]
def aht(b:cO)(l:hY b)(h:Nat)(f:h<4294967296)(H:List ae)(lo:oN):D X0 (.fn (.func 344) [] []) [.agg (b9 b),.int .u32 h] ⟨H,lo⟩=some (.ret (zR b h) ⟨H,lo⟩):=by
 refine aH LA λN g=>?_
 cases c:az b h with
 |false=>
  simp only[F1,go_sem,simprocAttr,LA,g,eP b h f,c,LV,zR,eN]
 |true=>
  obtain⟨e1,m,e3⟩:=Cc c;have d:=zH h;have e: (aR h:Int)<32:=by omega
  generalize a:aR h=i at*;have k:=(l i).1;simp(disch:=omega) only[bO,F1,go_sem,simprocAttr,LA,g,eP b h f,c,LV,j4 h f,iX,e1,e,agJ d,arS d,arR d,agH d,sP,cw];refine⟨by omega,λj=>⟨by omega,?_⟩,λj=>⟨by omega,?_⟩⟩
  ·simp[zR,eN,c,a,rk,show(b i).gen=8388607 by omega]
  ·simp[zR,eN,c,a,rk,show¬(b i).gen=8388607 by omega]
theorem Cs:k9.length=480:=by rfl
theorem asm:List.drop 480 k9=[]:=by rfl
def cV:type_of% Cs/\type_of% asm/\type_of% LS/\type_of% LU:=by decide
def zS(n:Nat)(H:List ae)(lo:oN):D X0 (.fn (.func 337) [] []) [.int .i64 n] ⟨H,lo⟩=some (.ret (.bool (decide (n<=64))) ⟨H,lo⟩):=by
 refine aH SM λN b=>?_
 have a: (n:Int)>=0:=by omega
 simp(disch:=omega) only[F1,go_sem,simprocAttr,SM,a];exact dk (ahX AV.bool (aon.2 (by grind))) rfl
theorem ahu:bS dR=[.int .u32 0,.int .i64 0,.aq,.int .i64 0,.int .u32 0,.int .u32 0,.int .u32 0,.int .u32 0,.int .u32 0,.int .u32 0,.int .u32 0,.int .u32 0]:=rfl
def ahv(t:aw)(j:bT t)(h:Nat)(d:h<4294967296)(H:List ae)(lo:oN):D X0 (.fn (.func 113) [] []) [.agg (aN t),.int .u32 h] ⟨H,lo⟩=some (.ret (.int .u32 (kI t (aR h))) ⟨H,lo⟩):=by
 refine aH KK λN g=>?_
 have c:=zH h;have a: (aR h:Int)<32:=by omega
 have e:iX h= .ax [.int .i64 (aR h:Nat),.bool (eY h).isSome]:=rfl;have hu:=(j.r (aR h)).up;generalize aR h=i at*;have f:az t.b (t.r i).up=t.az (t.r i).up:=rfl;cases b:t.az (t.r i).up
 ·simp only[F1,go_sem,simprocAttr,KK,g,j4 h d,e,a,Tj c,eP t.b (t.r i).up hu,f,b,kI,agm]
 ·simp only[F1,go_sem,simprocAttr,KK,g,j4 h d,e,a,Tj c,eP t.b (t.r i).up hu,f,b,kI]
def ml(t:aw)(h:Nat):AV:=.ax [.agg (bS (aM t h).1),.int .i64 (aM t h).2]
def ue(t:aw)(j:bT t)(h:Nat)(c:h<4294967296)(H:List ae)(lo:oN):D X0 (.fn (.func 80) [] []) [.agg (aN t),.int .u32 h] ⟨H,lo⟩=some (.ret (ml t h) ⟨H,lo⟩):=by
 refine aH KC λN i=>?_
 have k:=zH h;have f: (aR h:Int)<32:=by omega
 have e:iX h= .ax [.int .i64 (aR h:Nat),.bool (eY h).isSome]:=rfl;have d:=ahv t j h c;have b:aM t h=if t.az h then({t.r (aR h)with up:=kI t (aR h)},0)else(dR,4):=rfl
 unfold ml;rw[b];have g:az t.b h=t.az h:=rfl;cases a:t.az h
 ·simp only[F1,go_sem,simprocAttr,KC,i,eP t.b h c,g,a,ahu,agm]
 ·simp only[F1,go_sem,simprocAttr,KC,i,j4 h c,e,f,arX k,eP t.b h c,g,a,d]
def zT(t:aw)(a n:Nat):AV:=.ax [.agg (aN (mb t a n).1),.int .u32 (mb t a n).2.1,.int .i64 (mb t a n).2.2]
theorem ahw: [AV.int .u32 0,.int .i64 n,.aq,.int .i64 0,.int .u32 0,.int .u32 0,.int .u32 0,.int .u32 0,.int .u32 0,.int .u32 0,.int .u32 0,.int .u32 0]=bS {dR with up:=0,dG:=n}:=rfl
theorem asn{u:Nat}: [AV.int .u32 (u:Nat),.int .i64 n,.aq,.int .i64 0,.int .u32 0,.int .u32 0,.int .u32 0,.int .u32 0,.int .u32 0,.int .u32 0,.int .u32 0,.int .u32 0]=bS {dR with up:=u,dG:=n}:=rfl
def aso(t:aw)(o:bT t)(a n:Nat)(m:a<4294967296)(H:List ae)(lo:oN):D X0 (.fn (.func 303) [] []) [.agg (aN t),.int .u32 a,.int .i64 n] ⟨H,lo⟩=some (.ret (zT t a n) ⟨H,lo⟩):=by
 refine aH vl λN j=>?_
 have p:az t.b a=t.az a:=rfl;have d:=ahs t.b o.b;unfold zT mb;by_cases e:a≠0/\t.az a=false
 ·rw[aez e];have b: ¬(a:Int)=0:=by omega
  simp only[F1,go_sem,simprocAttr,vl,j,b,eP t.b a m,p,e.2,cV]
 ·rw[aeu e];have c:a=0\/ (¬(a:Int)=0/\t.az a=true):=by
   by_cases s:a=0
   ·exact .inl s
   ·refine .inr ⟨by omega,?_⟩;cases u:t.az a
    ·exact absurd ⟨s,u⟩ e
    ·rfl
  by_cases r:64<n
  ·rw[aez r];have h:decide (n<=64)=false:=by simp;omega
   rcases c with rfl| ⟨b,g⟩
   ·simp only[F1,go_sem,simprocAttr,vl,j,zS,h,cV]
   ·simp only[F1,go_sem,simprocAttr,vl,j,b,eP t.b a m,p,g,zS,h,cV]
  ·rw[aeu r];have h:decide (n<=64)=true:=by simp;omega
   cases l:nu t.b with
   |none=>
    rcases c with rfl| ⟨b,g⟩
    ·simp only[F1,go_sem,simprocAttr,vl,j,zS,h,cV,d,ud,qc,l]
    ·simp only[F1,go_sem,simprocAttr,vl,j,b,eP t.b a m,p,g,zS,h,cV,d,ud,qc,l]
   |some i=>
    obtain⟨f,x,w,v⟩:=sW l;have k: (i:Int)<32:=by omega
    have q:eY (dg i (t.b i).gen)=some i:=Td f (o.b i).1;rcases c with rfl| ⟨b,g⟩
    ·simp only[F1,go_sem,simprocAttr,vl,j,zS,h,cV,d,ud,qc,l,k,j4 (dg i (t.b i).gen) (F7 f (o.b i).1),iX,q,ahw,LJ f];omega
    ·simp only[F1,go_sem,simprocAttr,vl,j,b,eP t.b a m,p,g,zS,h,cV,d,ud,qc,l,k,j4 (dg i (t.b i).gen) (F7 f (o.b i).1),iX,q,asn,LJ f];omega
def TD(t:aw)(h:Nat):AV:=.ax [.agg (aN (lr t h).1),.int .i64 (lr t h).2]
def asp(t:aw)(i:bT t)(h:Nat)(f:h<4294967296)(H:List ae)(lo:oN):D X0 (.fn (.func 339) [] []) [.agg (aN t),.int .u32 h] ⟨H,lo⟩=some (.ret (TD t h) ⟨H,lo⟩):=by
 refine aH Lx λN g=>?_
 have j:=zH h;have a: (aR h:Int)<32:=by omega
 have e:iX h= .ax [.int .i64 (aR h:Nat),.bool (eY h).isSome]:=rfl;have d:=aht t.b i.b h f;have k:az t.b h=t.az h:=rfl;unfold TD lr;cases b:t.az h
 ·have c:eN t.b h=(t.b,false):=by unfold eN;grind
  simp only[F1,go_sem,simprocAttr,Lx,g,d,zR,c,cV,agm]
 ·have c: (eN t.b h).2=true:=by unfold eN;rw[k,b];rfl
  simp only[F1,go_sem,simprocAttr,Lx,g,d,zR,c,cV,j4 h f,e,a,<-ahu,LJ j];omega
def dY[Inhabited α]{k:Nat}(h:k<l.length):l.getD k default∈l:=by grind
def kM{α:Type}(p:α->Bool)(l:List α):Int:=match l.findIdx? p with
 |some i=>i
 |none=> -1
def zU(p:α->Bool)(l:List α):decide (0<=kM p l)=l.any p:=by
 unfold kM
 grind
def zV[Inhabited α]{k:Nat}(b:k<l.length)(h: ∀j,j<k->p (l.getD j default)=false)(a:p (l.getD k default)=true):kM p l=k:=by
 have:l.findIdx? p=some k:=by grind [List.findIdx?_eq_some_iff_getElem]
 unfold kM;rw[this]
def zW[Inhabited α](h: ∀j,j<l.length->p (l.getD j default)=false):kM p l= -1:=by
 have:l.findIdx? p=none:=by grind [List.findIdx?_eq_none_iff,List.getElem_of_mem]
 unfold kM;rw[this]
def hC(h:Nat):lA:=[.int .u32 h]
theorem pH:Den.part false 1 (hC h) 0=some (.int .u32 h):=rfl
def bC(b:UInt8):lA:=[.int .u8 b.toNat]
theorem pB{b:UInt8}:Den.part false 1 (bC b) 0=some (.int .u8 b.toNat):=rfl
def sC(s:lB):lA:=[S s]
theorem pS{s:lB}:Den.part false 1 (sC s) 0=some (S s):=rfl
structure Instr where
 op:Nat
 a:Nat
 b:Nat
 c:Nat
 n:Nat
 deriving DecidableEq,Inhabited
def ahx(v fv:AV)(l:List aD)(b:Rv v 2 (l.map aA))(r:l.length<2^40)(p:aD->Bool)(H:List ae)(lo:oN)
  (o: ∀x∈l,D X0 fv [.agg (aA x)] ⟨H,none⟩=some (.ret (.bool (p x)) ⟨H,none⟩)):D X0 (.fn (.func 203) [] []) [v,fv] ⟨H,lo⟩=some (.ret (.int .i64 (kM p l)) ⟨H,lo⟩):=by
 refine aH RK λN u=>?_
 simp only[go_sem,simprocAttr,RK,b.bJ];refine dQ l.length (λk e H'=>H'=H/\e 0=v/\e 1=fv/\e 7= .int .i64 l.length/\e 8= .int .i64 k/\ ∀j,j<k->p (l.getD j default)=false) 0 (by omega) ?_ ?_
 ·simp only[go_sem,simprocAttr];omega
 ·rintro k s e H' ⟨rfl,i,g,f,d,c⟩ n q;simp(disch:=omega) only[bO,F1,go_sem,simprocAttr,afR,i,g,f,d];refine⟨λh=>?_,λh=>?_⟩
  ·have a:k<l.length:=by omega
   simp(disch:=omega) only[go_sem,simprocAttr,b.bW,b.cp,↓To,o _ (dY a)];refine⟨by omega,?_⟩;cases m:p (l.getD k default)
   ·simp(disch:=omega) only[go_sem,simprocAttr,i,g,f,d]
    grind
   ·simp(disch:=omega) only[F1,go_sem,simprocAttr];rw[zV a c m]
  ·rw[zW (λj t=>c j (by omega))]
def asq(v fv:AV)(l:List aD)(a:Rv v 2 (l.map aA))(b:l.length<2^40)(p:aD->Bool)(H:List ae)(lo:oN)
  (c: ∀x∈l,D X0 fv [.agg (aA x)] ⟨H,none⟩=some (.ret (.bool (p x)) ⟨H,none⟩)):D X0 (.fn (.func 184) [] []) [v,fv] ⟨H,lo⟩=some (.ret (.bool (l.any p)) ⟨H,lo⟩):=by
 refine aH Rw λN d=>?_
 simp(disch:=omega) only[F1,go_sem,simprocAttr,Rw,ahx v fv l a b p H none c,zU]
def ahy{X:Ctx}(a:Ext X0 X)(h:X0.code f=some pf)(b:X0.cg f=none):X.cg f=none:=by
 rcases a.cg f with e| ⟨_,e⟩
 ·grind
 grind
def ahz{X:Ctx}(a:Ext X0 X)(h:X0.code f=some pf):X.code f=some pf:=by rw[a.code];exact h
def up{X:Ctx}(a:Ext X0 X){args:lA}{E:AS}{r:aX}(h:D X0 v args E=some r):D X v args E=some r:=aer a _ _ _ _ h
def ahA{X:Ctx}(f:Ext X0 X)(v fv:AV)(l:lN)(H:List ae)(b:Rd ⟨H,none⟩ v 1 (l.map hC))(s:l.length<2^40)(p:Nat->Bool)(lo:oN)
  (q: ∀x∈l,D X fv [.int .u32 x] ⟨H,none⟩=some (.ret (.bool (p x)) ⟨H,none⟩)):D X (.fn (.func 200) [] []) [v,fv] ⟨H,lo⟩=some (.ret (.int .i64 (kM p l)) ⟨H,lo⟩):=by
 refine OV RH (ahy f rfl rfl) (ahz f rfl) rfl λN w=>?_
 simp only[go_sem,simprocAttr,RH,b.bJ];refine dQ l.length (λk e H'=>H'=H/\e 0=v/\e 1=fv/\e 7= .int .i64 l.length/\e 8= .int .i64 k/\ ∀j,j<k->p (l.getD j default)=false) 0 (by omega) ?_ ?_
 ·simp only[go_sem,simprocAttr];omega
 ·rintro k t e H' ⟨rfl,o,m,i,g,c⟩ n r;simp(disch:=omega) only[bO,F1,go_sem,simprocAttr,afP,o,m,i,g];refine⟨λh=>?_,λh=>?_⟩
  ·have a:k<l.length:=by omega
   simp(disch:=omega) only[go_sem,simprocAttr,b.bW,b.cp,↓pH,q _ (dY a)];refine⟨by omega,?_⟩;cases d:p (l.getD k default)
   ·simp(disch:=omega) only[go_sem,simprocAttr,o,m,i,g];exact⟨a,nF c d⟩
   ·simp(disch:=omega) only[F1,go_sem,simprocAttr];rw[zV a c d]
  ·rw[zW (λj u=>c j (by omega))]
def ahB{X:Ctx}(a:Ext X0 X)(v fv:AV)(l:lN)(H:List ae)(b:Rd ⟨H,none⟩ v 1 (l.map hC))(c:l.length<2^40)(p:Nat->Bool)(lo:oN)
  (d: ∀x∈l,D X fv [.int .u32 x] ⟨H,none⟩=some (.ret (.bool (p x)) ⟨H,none⟩)):D X (.fn (.func 334) [] []) [v,fv] ⟨H,lo⟩=some (.ret (.bool (l.any p)) ⟨H,lo⟩):=by
 refine OV SH (ahy a rfl rfl) (ahz a rfl) rfl λN e=>?_
 simp(disch:=omega) only[F1,go_sem,simprocAttr,SH,ahA a v fv l H b c p none d,zU]
def asr(v fv:AV)(l:lB)(b:Rv v 1 (l.map bC))(r:l.length<2^40)(p:UInt8->Bool)(H:List ae)(lo:oN)
  (o: ∀x∈l,D X0 fv [.int .u8 x.toNat] ⟨H,none⟩=some (.ret (.bool (p x)) ⟨H,none⟩)):D X0 (.fn (.func 138) [] []) [v,fv] ⟨H,lo⟩=some (.ret (.int .i64 (kM p l)) ⟨H,lo⟩):=by
 refine aH Q6 λN u=>?_
 simp only[go_sem,simprocAttr,Q6,b.bJ];refine dQ l.length (λk e H'=>H'=H/\e 0=v/\e 1=fv/\e 7= .int .i64 l.length/\e 8= .int .i64 k/\ ∀j,j<k->p (l.getD j default)=false) 0 (by omega) ?_ ?_
 ·simp only[go_sem,simprocAttr];omega
 ·rintro k s e H' ⟨rfl,m,i,g,f,c⟩ n q;simp(disch:=omega) only[bO,F1,go_sem,simprocAttr,afC,m,i,g,f];refine⟨λh=>?_,λh=>?_⟩
  ·have a:k<l.length:=by omega
   simp(disch:=omega) only[go_sem,simprocAttr,b.bW,b.cp,↓pB,o _ (dY a)];refine⟨by omega,?_⟩;cases d:p (l.getD k default)
   ·simp(disch:=omega) only[go_sem,simprocAttr,m,i,g,f];exact⟨a,nF c d⟩
   ·simp(disch:=omega) only[F1,go_sem,simprocAttr];rw[zV a c d]
  ·rw[zW (λj t=>c j (by omega))]
def ass(v fv:AV)(l:lB)(a:Rv v 1 (l.map bC))(b:l.length<2^40)(p:UInt8->Bool)(H:List ae)(lo:oN)
  (c: ∀x∈l,D X0 fv [.int .u8 x.toNat] ⟨H,none⟩=some (.ret (.bool (p x)) ⟨H,none⟩)):D X0 (.fn (.func 95) [] []) [v,fv] ⟨H,lo⟩=some (.ret (.bool (l.any p)) ⟨H,lo⟩):=by
 refine aH QV λN d=>?_
 simp(disch:=omega) only[F1,go_sem,simprocAttr,QV,asr v fv l a b p H none c,zU]
def ast(v fv:AV)(l:List lB)(b:Rv v 1 (l.map sC))(r:l.length<2^40)(p: lB->Bool)(H:List ae)(lo:oN)
  (o: ∀x∈l,D X0 fv [S x] ⟨H,none⟩=some (.ret (.bool (p x)) ⟨H,none⟩)):D X0 (.fn (.func 137) [] []) [v,fv] ⟨H,lo⟩=some (.ret (.int .i64 (kM p l)) ⟨H,lo⟩):=by
 refine aH Q5 λN u=>?_
 simp only[go_sem,simprocAttr,Q5,b.bJ];refine dQ l.length (λk e H'=>H'=H/\e 0=v/\e 1=fv/\e 7= .int .i64 l.length/\e 8= .int .i64 k/\ ∀j,j<k->p (l.getD j default)=false) 0 (by omega) ?_ ?_
 ·simp only[go_sem,simprocAttr];omega
 ·rintro k s e H' ⟨rfl,m,i,g,f,c⟩ n q;simp(disch:=omega) only[bO,F1,go_sem,simprocAttr,afB,m,i,g,f];refine⟨λh=>?_,λh=>?_⟩
  ·have a:k<l.length:=by omega
   simp(disch:=omega) only[go_sem,simprocAttr,b.bW,b.cp,↓pS,o _ (dY a)];refine⟨by omega,?_⟩;cases d:p (l.getD k default)
   ·simp(disch:=omega) only[go_sem,simprocAttr,m,i,g,f];exact⟨a,nF c d⟩
   ·simp(disch:=omega) only[F1,go_sem,simprocAttr];rw[zV a c d]
  ·rw[zW (λj t=>c j (by omega))]
def asu(v fv:AV)(l:List lB)(a:Rv v 1 (l.map sC))(b:l.length<2^40)(p: lB->Bool)(H:List ae)(lo:oN)
  (c: ∀x∈l,D X0 fv [S x] ⟨H,none⟩=some (.ret (.bool (p x)) ⟨H,none⟩)):D X0 (.fn (.func 94) [] []) [v,fv] ⟨H,lo⟩=some (.ret (.bool (l.any p)) ⟨H,lo⟩):=by
 refine aH QU λN d=>?_
 simp(disch:=omega) only[F1,go_sem,simprocAttr,QU,ast v fv l a b p H none c,zU]
def Ct(r:aD)(b:r.1+r.2<4294967296)(H:List ae)(lo:oN):D X0 (.fn (.func 169) [] []) [.agg (aA r)] ⟨H,lo⟩=some (.ret (.int .i64 (r.1+r.2:Nat)) ⟨H,lo⟩):=by
 refine aH Rr λN a=>?_
 simp(disch:=omega) only[F1,go_sem,simprocAttr,Rr,a,aA,anc]
def TE(r:aD)(c:r.1<4294967296)(b:r.2<4294967296)(H:List ae)(lo:oN):D X0 (.fn (.func 167) [] []) [.agg (aA r)] ⟨H,lo⟩=some (.ret (.bool (lq r)) ⟨H,lo⟩):=by
 refine aH Rp λN a=>?_
 simp(disch:=omega) only[R4,F1,go_sem,simprocAttr,Rp,a,aA,lq]
 (repeat' (first|apply And.intro|intro _))
 all_goals(first|omega| (refine dk (ahX AV.bool (aon.2 ?_)) rfl;grind))
def holds(y x:aD):Bool:=decide (x=y)|| (decide (y.1<=x.1)&&decide (x.1+x.2<=y.1+y.2))
def run_eq(a b:aD):dA (.agg [.int,.int]) (.agg (aA a)) (.agg (aA b))=some (decide (a=b)):=by
 obtain⟨f,e⟩:=a;obtain⟨d,c⟩:=b;simp only[dA,aA,agt,am9,Pv,adU,ahJ,and_self,aqs,Int.natCast_inj]
 grind
def ahC(y x:aD)(d:y.1+y.2<4294967296)(e:x.1+x.2<4294967296)(H:List ae)(lo:oN):D X0 (.fn (.func 186) [] []) [.agg (aA y),.agg (aA x)] ⟨H,lo⟩=some (.ret (.bool (holds y x)) ⟨H,lo⟩):=by
 refine aH FI λN b=>?_
 have f:=Ct y d;have ex:=Ct x e;by_cases he:x=y
 ·simp only[F1,go_sem,simprocAttr,FI,b,run_eq,he,holds]
 ·by_cases c:y.1<=x.1
  ·have a: (y.1:Int)<=x.1:=by omega
   simp only[F1,go_sem,simprocAttr,FI,b,run_eq,he,holds,c,a,f,ex,anc];refine dk (ahX AV.bool (aon.2 ?_)) rfl
   grind
  ·have a: ¬(y.1:Int)<=x.1:=by omega
   simp only[F1,go_sem,simprocAttr,FI,b,run_eq,he,holds,c,a,ahM,aqR]
def Cu(l:List aD):Prop:=l.length<=64/\ ∀x∈l,x.1+x.2<=64
def asv(x y:aD)(c:x.1+x.2<4294967296)(b:y.1+y.2<4294967296)(p:Nat)(H:List ae)(lo:oN)(e:H[p]?=some (.box (aA x) none)):
  D X0 (.fn (.func 185) [] [.ptr p 0]) [.agg (aA y)] ⟨H,lo⟩=some (.ret (.bool (holds y x)) ⟨H,lo⟩):=by
 refine fj Rx λN d=>?_
 have a: ∀L,(H++L)[p]?=some (.box (aA x) none):=λL=>by grind
 simp only[F1,go_sem,simprocAttr,Rx,d,a,ahC y x b c]
def LX(l:List aD)(k:Nat):Bool:=decide (k<64)&&l.any λy=>holds y (k,1)
def asw(v:AV)(l:List aD)(f:Rv v 2 (l.map aA))(b:Cu l)(k:Nat)(i:k<2147483648)(H:List ae)(lo:oN):
  D X0 (.fn (.func 166) [] []) [.agg [v],.int .i64 k] ⟨H,lo⟩=some (.ret (.bool (LX l k)) ⟨H,lo⟩):=by
 refine aH KV λN a=>?_
 have hm:=TE (k,1) (by omega) (by simp);have c:=asq v (.fn (.func 185) [] [.ptr (N+1) 0]) l f (by have:=b.1;omega) (λy=>holds y (k,1)) (H++[.box [v] none,.box (aA (k,1)) none]) none (λy d=>asv (k,1) y (by omega) (by have:=b.2 y d;omega) (N+1) _ none (by rw[bA a];rfl));have g:aA (k,1)=[.int .i64 (k:Nat),.int .i64 1]:=rfl;rw[g]at hm c;by_cases h:k<64
 ·have e:lq (k,1)=true:=by simp[lq];omega
  simp only[F1,go_sem,simprocAttr,KV,a,hm,e,c];simp[LX,h]
 ·have e:lq (k,1)=false:=by simp[lq];omega
  simp only[F1,go_sem,simprocAttr,KV,a,hm,e];simp[LX,h]
def uf{X:Ctx}(pf:PF){args cap:lA}{H:List ae}{R:aX->Prop}(b:X.cg f=none)(e:X.code f=some pf)(d:Nat.ble (args++cap).length pf.ntmps=true)
  (h: ∀n,H.length=n->wp X f false pf.body ⟨dj (args++cap),[]⟩ ⟨H,none⟩ (dP X n lo pf.results R)): ∃a,D X (.fn (.func f) [] cap) args ⟨H,lo⟩=some a/\R a:=by
 have c:=aoM d;refine OU b e (by grind) ?_
 grind
def xm(l:List aD):List lA:=(List.range l.length).map λi=>[.int .i64 (i:Nat),.agg (aA (l.getD i default))]
def Cv(l:List aD): (xm l).length=l.length:=by simp[xm]
def TF{l:List aD}(h:j<l.length): (xm l)[j]?=some [.int .i64 (j:Nat),.agg (aA (l.getD j default))]:=by
 unfold xm;grind
def zX{N id o:Nat}{f:Fn}{L:lA}{H:List ae}(h:N<=id):finish N lo (.fn f [] (.ptr id o::L)) ⟨H,none⟩=(.fn f [] (.ptr id o::L),⟨H,lo⟩):=by
 have a: ¬(AV.fn f [] (.ptr id o::L)).refs<=N:=by simp only[AV.refs,aI];omega
 refine adV a ?_;unfold Den.freeze;simp[a]
def ahD(a:Rv v sz af){H:List ae}{tg:Option TypeId}:od ⟨H,lo⟩ v tg=some (.ptr H.length 0,⟨H++[.box [v] tg],lo⟩):=by
 obtain⟨h,_,_⟩:=a ⟨[],none⟩;cases v<;>first|rfl|grind
def cL(b:Rv v sz af)(c:cb af=0):v.refs=0:=by
 obtain⟨d,a,e⟩:=b ⟨[],none⟩;cases v<;>simp only[]at d
 ·rfl
 ·simp only[Den.elems]at a;split at a
  ·cases a;simpa only[AV.refs]using c
  grind
 ·trivial
def ahE(v:AV)(l:List aD)(d:Rv v 2 (l.map aA))(N:Nat)(H:List ae)(c:H.length=N)(lo:oN):
  D X0 (.fn (.func 168) [] []) [.agg [v]] ⟨H,lo⟩=some (.ret (.fn (.func 204) [] [.ptr (N+1) 0]) ⟨H++[.box [v] none,.box [v] none],lo⟩):=by
 have e:=λH'=>ahD (H:=H') (lo:=none) (tg:=none) d
 have e1:D X0 (.fn (.func 187) [] []) [v] ⟨H++[.box [v] none],none⟩=some (.ret (.fn (.func 204) [] [.ptr (N+1) 0]) ⟨H++[.box [v] none,.box [v] none],none⟩):=by
  refine aH Ry λM a=>?_
  have b:M=N+1:=by rw[<-a];simp[c]
  subst b;simp only[go_sem,simprocAttr,Ry,a,e];rw[zX (by omega)]
 refine aH Rq λM a=>?_
 obtain rfl:M=N:=by rw[<-a,c]
 simp only[go_sem,simprocAttr,Rq,a,e1];rw[zX (by omega)]
def lK{X:Ctx}{a:List RV}{R:aX->Prop}{e:Env}{p:Nat}{b:lN}{H:List ae}{l:oN}:
  dP X n lo a R .ret ⟨e,p::b⟩ ⟨H,l⟩=match H[p]? with|some .fx=>dP X n lo a R .ret ⟨e,b⟩ ⟨H.set p .dead,l⟩|_=>False:=by
 simp only[yE,dN];cases c:H[p]? with
 |none=>simp
 |some o=>cases o<;>simp[AS.set]
def fits(n:Nat)(x:aD):Bool:=decide (1<=n)&&decide (n<=x.2)
def LY(l:List aD)(n:Nat):AV:=match l.find? (fits n)with
 |some x=>.ax [.int .i64 (x.1:Nat),.bool true]
 |none=>.ax [.int .i64 0,.bool false]
def asx[Inhabited α]{k:Nat}(b:k<l.length)(h: ∀j,j<k->p (l.getD j default)=false)(a:p (l.getD k default)=true):l.find? p=some (l.getD k default):=by
 rw[List.find?_eq_some_iff_getElem];refine⟨a,k,b,?_,λj c=>?_⟩
 ·grind
 grind
def asy[Inhabited α](h: ∀j,j<l.length->p (l.getD j default)=false):l.find? p=none:=by
 rw[awB];intro x a;obtain⟨j,b,rfl⟩:=aqN a
 grind
def ahF(v:AV)(l:List aD)(A:Rv v 2 (l.map aA))(Y:Cu l)(a:Nat)(o:ae):
  uM X0 (.fn (.func 204) [] [.ptr (a+1) 0]) a [o,.box [v] none] (xm l):=by
 intro S V y I J b C q B W s hP h0 uP d hG lo;have X:l.length<=64:=Y.1;have j: ∀i,V.cH i->i<b:=λi Z=>(q i Z).1
 suffices h: ∃x,D X0 (.fn (.func 204) [] [.ptr (a+1) 0]) [y] ⟨W,lo⟩=some x/\
  (λx=> ∃f p ak,x=aX.ret (.ax []) ⟨p,ak⟩/\V.P f p/\ (I (xm l).length f\/J f)/\b<=p.length/\
    (∀i,i<b-> ¬V.cH i-> ¬(a<=i/\i<a+[o,ae.box [v] none].length)->p[i]?=W[i]?)/\k7 V.c b lo ak none (V.row f)) x by grind
 refine uf RL rfl rfl rfl λN hN=>?_
 obtain rfl:N=b:=by omega
 have u:W[a+1]?=some (.box [v] none):=hG 1 (by simp);simp only[go_sem,simprocAttr,RL,u,A.bJ];refine gE l.length (λk e p ak=> ∃f,I k f/\ko V N W (λi=>a<=i/\i<a+[o,ae.box [v] none].length) f p ak/\e 0=y/\e 5=v/\e 6= .int .i64 l.length/\e 7= .int .i64 k) 0 (by omega) ?_ ?_
 ·simp only[go_sem,simprocAttr];exact⟨s,h0,⟨hP,by omega,λ_ _ _ _=>rfl,.inl ⟨rfl,d⟩,λr e=>by rw[d]at e;cases e⟩⟩
 rintro k hk e W1 z ⟨s1,H,G,L,K,e6,e7⟩ n U;simp only[bO,go_sem,simprocAttr,afS,K,e6,e7];refine⟨λh=>?_,λh=>?_⟩
 ·have t:k<l.length:=by omega
  have m:=G.push C j [.box (aA (l.getD k default)) none];obtain⟨c,s2,W2,T,R,Q,P,O,M,F⟩:=B k _ s1 (TF t) H (W1++[.box (aA (l.getD k default)) none]) m.P m.len z;have w:=m.step Q P O M;simp(disch:=omega) only[go_sem,simprocAttr,A.bW,A.cp,h,U,L,R];cases c
  ·obtain⟨E,g,f1,f2,f3,f4,f5⟩:=w.fin C j (dM:=lo);simp only[go_sem,simprocAttr,f1];exact⟨s2,E,g,rfl,f2,.inr F,f3,f4,f5⟩
  ·simp(disch:=omega) only[go_sem,simprocAttr,L,K,e6,e7];exact⟨t,s2,F,w⟩
 ·obtain⟨E,g,f1,f2,f3,f4,f5⟩:=G.fin C j (dM:=lo);simp only[go_sem,simprocAttr,f1];exact⟨s1,E,g,rfl,f2,.inl (by rw[Cv,show l.length=k by omega];exact H),f3,f4,f5⟩
def bf{H L:List ae}{o:ae}(h:H[i]?=some o): (H++L)[i]?=some o:=by grind
def cQ{H:List ae}{p:Nat}{x o:ae}(h:H[p]?=some x): (H.set p o)[p]?=some o:=by grind
def dZ{H:List ae}{o:ae}(h:H[i]?=some o):i<H.length:=by grind
def lL{W H:List ae}{N:Nat}(a:H.length=N)(h: ∀i,i<N->W[i]?=H[i]?):W.take N=H:=by
 apply ang
 grind
def asz(v:AV)(l:List aD)(Q:Rv v 2 (l.map aA))(Z:Cu l)(m:Nat)(H:List ae)(lo:oN):
  D X0 (.fn (.func 212) [] []) [.agg [v],.int .i64 m] ⟨H,lo⟩=some (.ret (LY l m) ⟨H,lo⟩):=by
 refine aH RP λN C=>?_
 have he:=ahE v l Q (N+4) (H++[.box [v] none,.box [.int .i64 m] none,.box [.int .i64 0] none,.box [.bool false] none]) (by simp[C]) none;simp only[go_sem,simprocAttr,RP,C,he];refine wG (S:=Option aD) (λe=>e 3= .ptr (N+1) 0/\e 4= .ptr (N+2) 0/\e 5= .ptr (N+3) 0) (by simp only[go_sem,simprocAttr]) (xm l) C [.box [v] none,.box [v] none] (λs=>[.box [v] none,.box [.int .i64 m] none,.box [.int .i64 ((s.getD (0,0)).1:Nat)] none,.box [.bool s.isSome] none]) (nB:=4) (λ_=>rfl) none
  (λj s=>s=none/\ ∀i,i<j->fits m (l.getD i default)=false) (λex s=>ex= .ret/\s.isSome=true/\l.find? (fits m)=s) rfl ?_ (by simp) ⟨rfl,λi G=>absurd G (aol i)⟩ (λex s h=>⟨.ret,by rw[h.1];rfl,by rw[h.1];rfl,by rw[h.1];rfl⟩) ?_ ?_ ?_
 ·exact ahF v l Q Z (N+4) _
 ·rintro e ⟨e3,F,E⟩ j y s J ⟨rfl,f⟩;have R:j<l.length:=by
   have:=(adN.1 J).1;rwa[Cv]at this
  rw[TF R]at J;cases J;have P:=asx (p:=fits m) R f;have z:=nF (p:=λi=>fits m (l.getD i default)=false) f;generalize l.getD j default=r at*;refine⟨rfl,λW n' Y X w=>?_⟩;simp only[go_sem,simprocAttr,ij,Y];refine⟨[.box (aA r) none],rfl,λI n B=>?_⟩;simp only[eK,eJ,alS,agr,Nat.reduceAdd]at B;obtain⟨w0,w1,u,t⟩:=B;have f1: ∀L,(I++L)[N+1]?=some (.box [.int .i64 m] none):=λL=>bf w1
  have f2: ∀L,(I++L)[N+2]?=some (.box [.int .i64 (0:Nat)] none):=λL=>bf u
  have f3: ∀L,(I++L)[N+3]?=some (.box [.bool false] none):=λL=>bf t
  by_cases c:fits m r=true
  ·have c2:1<=m/\m<=r.2:=by unfold fits at c;simpa using c
   have g: (m:Int)>=1:=by omega
   have q: (r.2:Int)>=m:=by omega
   simp(disch:=omega) only[go_sem,simprocAttr,K6,e3,F,E,f1,f2,f3,n,g,q,IU];refine⟨some r,?_,by omega,λi G A=>?_,rfl,P c⟩
   ·simp only[eK,eJ,alS,agr,Nat.reduceAdd];refine⟨?_,?_,?_,?_⟩
    ·rw[acG (by omega),acG (by omega)];exact bf w0
    ·rw[acG (by omega),acG (by omega)];exact f1 _
    ·rw[acG (by omega),ae1 (by simp;omega)];rfl
    ·rw[ae1 (by simp;omega)];rfl
   ·rw[acG (by omega),acG (by omega),acK (by omega)]
  ·have c:fits m r=false:=by simpa using c
   have k:im (I++[ae.box (aA r) none]) N 0 [.box [v] none,.box [.int .i64 m] none,.box [.int .i64 (0:Nat)] none,.box [.bool false] none]:=by
    simp only[eK,eJ,alS,agr,Nat.reduceAdd];exact⟨bf w0,f1 _,f2 _,f3 _⟩
   by_cases h1:1<=m
   ·have g: (m:Int)>=1:=by omega
    have q: ¬(r.2:Int)>=m:=by unfold fits at c;simp[h1]at c;omega
    simp only[go_sem,simprocAttr,K6,e3,f1,n,g,q,oq];exact⟨none,k,by omega,λi G A=>acK (by omega),rfl,z c⟩
   ·have g: ¬(m:Int)>=1:=by omega
    simp only[go_sem,simprocAttr,K6,e3,f1,n,g,oq];exact⟨none,k,by omega,λi G A=>acK (by omega),rfl,z c⟩
 ·rintro e ⟨e3,F,E⟩ s W p V ⟨rfl,f⟩ d w O;simp only[eK,eJ,alS,agr,Nat.reduceAdd]at w;obtain⟨w0,w1,u,t⟩:=w;rw[Cv]at f;have K: ∀a b c,(((W.set (N+2) a).set (N+3) b).set p c).take N=H:=λa b c=>(((d.set (by omega)).set (by omega)).set (by omega)).take C
  have T: ∀a b,((W.set (N+2) a).set (N+3) b)[N+3]?=some b:=λa b=>ae1 (by rw[agq];exact dZ t)
  have s2: ∀a b,((W.set (N+2) a).set (N+3) b)[N+2]?=some a:=λa b=>by rw[acG (by omega)];exact cQ u
  simp(disch:=omega) only[F1,go_sem,simprocAttr,F,E,u,t,O,lK,K,s2,T,LY,asy f]
 ·rintro e ⟨e3,F,E⟩ ex s W p V ⟨rfl,U,hI⟩ d w O;simp only[eK,eJ,alS,agr,Nat.reduceAdd]at w;obtain⟨w0,w1,u,t⟩:=w;have M: ∀o,(W.set p o).take N=H:=λo=>(d.set (by omega)).take C
  simp(disch:=omega) only[F1,go_sem,simprocAttr,F,E,u,t,O,lK,M];refine dk ?_ rfl;unfold LY;rw[hI];cases s with
  |none=>cases U
  |some x=>rfl
structure Cw where
 x:aD
 put:Bool
 out:List aD
 row:oN
 res:AV
 ok:Bool
def ahG(H:List ae)(N:Nat)(v:AV)(s:Cw)(W:List ae):Prop:=
 (∀i,i<N->W[i]?=H[i]?)/\W[N]?=some (.box [v] none)/\W[N+1]?=some (.box [s.res] none)/\W[N+2]?=some (.box [.bool s.ok] none)/\W[N+3]?=some (.box (aA s.x) none)/\
   W[N+5]?=some (.box [.bool s.put] none)/\SV (N+4) 2 eX W s.row (s.out.map aA)
def TG(H:List ae)(N:Nat)(v:AV):YV Cw:=⟨ahG H N v,Cw.row,λi=>i<N+6,N⟩
def asA(H:List ae)(N:Nat)(v:AV): (TG H N v).Ok where
 st:=λs W e ⟨m,l,k,j,g,f,b⟩ h=>by
  have d: ∀i,i<N+6->e[i]?=W[i]?:=λi a=>h i (.inl a)
  exact⟨λi a=>by grind,by grind,by grind,by grind,
   by simp_all,by simp_all,b.st (d _ (by omega)) λi a=>h i (.inr a)⟩
 lt:=λs W r ⟨_,_,_,_,_,_,b⟩ c=>b.row c
def TH(l:List aD)(a:aD)(v:AV)(j:Nat)(s:Cw):Prop:=
 iz a false [] l=iz s.x s.put s.out (l.drop j)/\s.x.1+s.x.2<=64/\s.out.length<=2*j/\s.res= .aq/\s.ok=false
def ahH(l:List aD)(a:aD)(v:AV)(b:Ex)(s:Cw):Prop:=b= .ret/\iz a false [] l=none/\s.res=v/\s.ok=false
def qj(v:AV)(l:List aD)(x:aD):AV:=match iW l x with
 |some a=>.ax [.agg [ek a],.bool true]
 |none=>.ax [.agg [v],.bool false]
def ahI(v:AV)(l:List aD)(hv:Rv v 2 (l.map aA))(hl:Cu l)(x:aD)(Gc:x.1<4294967296)(TI:x.2<4294967296)(H:List ae)(lo:oN):
  D X0 (.fn (.func 142) [] []) [.agg [v],.int .i64 (x.1:Nat),.int .i64 (x.2:Nat)] ⟨H,lo⟩=some (.ret (qj v l x) ⟨H,lo⟩):=by
 refine aH KO λN hN=>?_
 have hm:=TE x Gc TI;have hr:aA x=[.int .i64 (x.1:Nat),.int .i64 (x.2:Nat)]:=rfl;rw[hr]at hm;have TJ:v.refs=0:=cL hv (bB (λ_=>rfl) l);cases m:lq x with
 |false=>
  simp(disch:=omega) only[F1,go_sem,simprocAttr,KO,hN,hm,m,TJ];have e1:qj v l x= .ax [.agg [v],.bool false]:=by unfold qj iW;rw[m];rfl
  rw[e1]
 |true=>
  have he:=ahE v l hv (N+6) (H++[.box [v] none,.box [.aq] none,.box [.bool false] none,.box (aA x) none,.box [.aq] none,.box [.bool false] none]) (by simp[hN]) none;rw[hr]at he;simp(disch:=omega) only[go_sem,simprocAttr,KO,hN,hm,m,he];rw[<-hr];generalize F: ((((((((((((((dj _).set 3 _).set 6 _).set 7 _).set 13 _).set 14 _).set 15 _).set 8 _).set 16 _).set 17 _).set 18 _).set 9 _).set 10 _).set 20 _).set 21 _=e;have G:e 3= .ptr N 0:=by rw[<-F];rfl
  have q6:e 6= .ptr (N+1) 0:=by rw[<-F];rfl
  have q7:e 7= .ptr (N+2) 0:=by rw[<-F];rfl
  have q8:e 8= .ptr (N+3) 0:=by rw[<-F];rfl
  have q9:e 9= .ptr (N+4) 0:=by rw[<-F];rfl
  have LZ:e 10= .ptr (N+5) 0:=by rw[<-F];rfl
  have q21: (ao.t 21).get e= .fn (.func 204) [] [.ptr (N+6+1) 0]:=by rw[<-F];rfl
  clear F;obtain⟨W0,Gd⟩: ∃W0,W0=H++[ae.box [v] none,.box [.aq] none,.box [.bool false] none,.box (aA x) none,.box [.aq] none,.box [.bool false] none,.box [v] none,.box [v] none]:=⟨_,rfl⟩;have asB:W0.length=N+8:=by rw[Gd];simp[hN]
  rw[<-Gd];have t: ∀k,W0[N+k]?=[ae.box [v] none,.box [.aq] none,.box [.bool false] none,.box (aA x) none,.box [.aq] none,.box [.bool false] none,.box [v] none,.box [v] none][k]?:=λk=>by rw[Gd,bA hN]
  have asC:W0[N]?=some (.box [v] none):=by rw[Gd,dq hN];rfl
  have D9:ahG H N v ⟨x,false,[],none,.aq,false⟩ W0:=by
   refine⟨λi b=>by rw[Gd,acK (by omega)],asC,t 1,t 2,t 3,t 5,.inl ⟨rfl,rfl,t 4⟩⟩
  have na:x.1+x.2<=64:=by unfold lq at m;simp at m;omega
  refine PJ (TG H N v) (asA H N v) (xm l) (N+6) [.box [v] none,.box [v] none] W0 ⟨x,false,[],none,.aq,false⟩ (by rw[q21];rfl) (by rw[q21];exact ahF v l hv hl (N+6) _)
   (λi b=>?_) (by simp[asB]) (λi b=>?_) D9 rfl (TH l x v) (ahH l x v) ⟨rfl,na,by simp,rfl,rfl⟩ (λex s h=>?_) ?_ ?_ ?_
  ·match i,b with
   |0,_=>exact t 6
   |1,_=>exact t 7
  ·have:i<N+6:=b;simp only[agt,am9];omega
  ·exact⟨.ret,by rw[h.1];rfl,by rw[h.1];rfl,by rw[h.1];rfl⟩
  ·intro j y s hy hI;have hj:j<l.length:=by
    have:=(adN.1 hy).1;rwa[Cv]at this
   rw[TF hj]at hy;cases hy;have asD:l.drop j=l.getD j default::l.drop (j+1):=by
    rw[aom hj,agn,adQ hj];rfl
   have hym:=hl.2 _ (dY hj);generalize l.getD j default=y at*;refine⟨rfl,λW hP uP=>?_⟩;obtain⟨n,hn⟩: ∃n,W.length=n:=⟨_,rfl⟩;simp(disch:=omega) only[go_sem,simprocAttr,ij,hn];refine⟨[.box (aA y) none],rfl,λP TL PH=>?_⟩;obtain⟨g1,g2,g3,g4⟩:=hI;rw[asD]at g1;obtain⟨p0,p1,p2,p3,p4,p5,X⟩:=PH;have w:P.length=n:=by omega
   have f3: ∀L,(P++L)[N+3]?=some (.box (aA s.x) none):=λL=>bf p4
   have f5: ∀L,(P++L)[N+5]?=some (.box [.bool s.put] none):=λL=>bf p5
   have f0: ∀L,(P++L)[N]?=some (.box [v] none):=λL=>bf p1
   have f1: ∀L,(P++L)[N+1]?=some (.box [s.res] none):=λL=>bf p2
   have f2: ∀L,(P++L)[N+2]?=some (.box [.bool s.ok] none):=λL=>bf p3
   have hnN:N+10<=n:=by omega
   have L0:=hl.1;have ey:=Ct y (by omega);have ex:=Ct s.x (by omega);have K:SV (N+4) 2 eX (P++[.box (aA y) none]) s.row (s.out.map aA):=X.st (by rw[acK (by omega)]) λi b=>by
    obtain⟨_,_,_,_,q⟩:=X.row b;rw[acK (dZ q)]
   have f: ∀i,s.row=some i->N+6<=i:=by
    intro i b;rcases X with⟨q,_⟩| ⟨id,aj,q,_,J,G,R⟩
    ·rw[q]at b;cases b
    ·rw[q]at b;cases b;have:i≠N+5:=by rintro rfl;rw[p5]at R;cases R
     omega
   have DR: (P++[ae.box (aA y) none]).length=n+1:=by simp[w]
   have fin: ∀ (A:List ae) (g:Cw) (Cx:oN) (fr:Fr),(∀i,i<n->i≠N+3->i≠N+4->i≠N+5->s.row≠some i->A[i]?=P[i]?)->A[N+3]?=some (.box (aA g.x) none)->A[N+5]?=some (.box [.bool g.put] none)->
     SV (N+4) 2 eX A g.row (g.out.map aA)->g.res=s.res->g.ok=s.ok->n<=A.length->((Cx=none/\g.row=s.row)\/ (∃j,N<=j/\j<N+10/\Cx=some j/\ (g.row=s.row\/ ∃r,g.row=some r/\n<=r)))->TH l x v (j+1) g->
     PD (TG H N v) (W0.length+2) s P (TH l x v (j+1)) (ahH l x v) .normal fr ⟨A,Cx⟩:=by
    intro A g Cx fr h1 h2 h3 h4 h5 h6 h7 h8 h9;have S: ∀i,i<N+3->A[i]?=P[i]?:=λi b=>h1 i (by omega) (by omega) (by omega) (by omega) (λe=>by have:=f i e;omega)
    refine⟨g,⟨λi b=>by rw[S i (by omega)];exact p0 i b,by rw[S N (by omega)];exact p1,by rw[S (N+1) (by omega),h5];exact p2,by rw[S (N+2) (by omega),h6];exact p3,h2,h3,h4⟩,⟨by show P.length<=A.length;omega,λi b hp hr=>?_⟩,?_,h9⟩
    ·have nZ: ¬i<N+6:=hp;exact h1 i (by omega) (by omega) (by omega) (by omega) hr
    ·rcases h8 with h8| ⟨j,C,J,G,R⟩
     ·exact .inl h8
     ·refine .inr ⟨j,C,by omega,G,?_⟩;rw[w];exact R
   have E: ∀af:List lA,af.length<=200->(af.length+1)*16<=room:=λaf h=>by unfold room;omega
   by_cases c1:y.1+y.2<s.x.1
   ·have M: (y.1:Int)+y.2<s.x.1:=by omega
    obtain⟨Q,v',W3,A,r',a1,a2,a3,a4,a5,O,a7⟩:=K.append (bytes:=16) (el:=aA y) (by omega) (by omega) rfl rfl (E _ (by simp;omega)) none;simp(disch:=omega) only[go_sem,simprocAttr,zo,q8,q9,w,f3,ey,M,a1,a2,a3,D8,anc];refine fin A {s with out:=s.out++[y],row:=r'} _ _ (λi C J G R q5=>?_) ?_ ?_ (by rw[agp];exact a4) rfl rfl (by omega) (.inr ⟨N+4,by omega,by omega,rfl,?_⟩) ⟨?_,g2,by simp;omega,g4⟩
    ·rw[O i (by omega) G q5,acK (by omega)]
    ·rw[O _ (by omega) (by omega) (λq=>by have:=f _ q;omega)];exact f3 _
    ·rw[O _ (by omega) (by omega) (λq=>by have:=f _ q;omega)];exact f5 _
    ·rcases a7 with q| ⟨q,C,J⟩
     ·exact .inl q
     ·exact .inr ⟨q,C,by omega⟩
    ·rw[g1,iz,aez c1]
   have M: ¬(y.1:Int)+y.2<s.x.1:=by omega
   by_cases c2:s.x.1+s.x.2<y.1
   ·have V: (y.1:Int)>s.x.1+s.x.2:=by omega
    cases c:s.put
    ·obtain⟨Q,v',W3,A,r',a1,a2,a3,a4,a5,O,a7⟩:=K.append (bytes:=16) (el:=aA s.x) (by omega) (by omega) rfl rfl (E _ (by simp;omega)) none;have Z: ∀i,r'=some i->N+6<=i:=by
      intro i b;rcases a7 with q| ⟨q,C,J⟩
      ·rw[q]at b;exact f i b
      ·rw[C]at b;cases b;omega
     have u5:A[N+5]?=some (.box [.bool false] none):=by
      rw[O _ (by omega) (by omega) (λq=>by have:=f _ q;omega),<-c];exact f5 _
     have un:A[n]?=some (.box (aA y) none):=by
      rw[O _ (by omega) (by omega) (λq=>?_),<-w]
      ·simp
      ·rcases X with⟨z,_⟩| ⟨id,aj,z,_,z2,z3,z4⟩
       ·rw[z]at q;cases q
       ·rw[z]at q;cases q;have:=dZ z4;omega
     have asF:SV (N+4) 2 eX (A.set (N+5) (.box [.bool true] none)) r' ((s.out++[s.x]).map aA):=by
      rw[agp];exact SV.st a4 (acG (by omega)) λi b=>acG (by have:=Z i b;omega)
     obtain⟨vw,v2,U,W6,r2,b1,b2,b3,b4,b5,b6,b7⟩:=asF.append (bytes:=16) (el:=aA y) (by rw[agq];omega) (by omega) rfl rfl (E _ (by simp;omega)) (some (N+4));have b1':A[N+4]?=some (.box [vw] none):=by rw[<-b1,acG (by omega)]
     have ahL:cM (some (N+4)) (N+4)=some (N+4):=by simp[cM]
     simp(disch:=omega) only[go_sem,simprocAttr,zo,q8,q9,LZ,w,f3,f5,ey,ex,M,V,a1,a2,a3,D8,anc,c,u5,un,b1',b2,b3,ahL];refine fin W6 {s with put:=true,out:=s.out++[s.x]++[y],row:=r2} _ _ (λi C J G R q5=>?_) ?_ ?_ (by rw[agp];exact b4) rfl rfl (by rw[agq]at b5;omega) (.inr ⟨N+4,by omega,by omega,rfl,?_⟩) ⟨?_,g2,by simp;omega,g4⟩
     ·have Po:r'≠some i:=by
        intro q;rcases a7 with z| ⟨z,z1,z2⟩
        ·rw[z]at q;exact q5 q
        ·rw[z1]at q;cases q;omega
      rw[b6 i (by rw[agq];omega) G Po,acG (by omega),O i (by omega) G q5,acK (by omega)]
     ·rw[b6 _ (by rw[agq];omega) (by omega) (λq=>by have:=Z _ q;omega),acG (by omega),O _ (by omega) (by omega) (λq=>by have:=f _ q;omega)];exact f3 _
     ·rw[b6 _ (by rw[agq];omega) (by omega) (λq=>by have:=Z _ q;omega)];exact ae1 (by omega)
     ·rcases b7 with q| ⟨q,C,J⟩
      ·rcases a7 with z| ⟨z,z1,z2⟩
       ·exact .inl (q.trans z)
       ·exact .inr ⟨z,q.trans z1,by omega⟩
      ·rw[agq]at J;exact .inr ⟨q,C,by omega⟩
     ·rw[g1,iz,aeu c1,aez c2,c];simp
    ·obtain⟨Q,v',W3,A,r',a1,a2,a3,a4,a5,O,a7⟩:=K.append (bytes:=16) (el:=aA y) (by omega) (by omega) rfl rfl (E _ (by simp;omega)) none;simp(disch:=omega) only[go_sem,simprocAttr,zo,q8,q9,LZ,w,f3,f5,ey,ex,M,V,a1,a2,a3,D8,anc,c];refine fin A {s with out:=s.out++[y],row:=r'} _ _ (λi C J G R q5=>?_) ?_ ?_ (by rw[agp];exact a4) rfl rfl (by omega) (.inr ⟨N+4,by omega,by omega,rfl,?_⟩) ⟨?_,g2,by simp;omega,g4⟩
     ·rw[O i (by omega) G q5,acK (by omega)]
     ·rw[O _ (by omega) (by omega) (λq=>by have:=f _ q;omega)];exact f3 _
     ·rw[O _ (by omega) (by omega) (λq=>by have:=f _ q;omega)];exact f5 _
     ·rcases a7 with q| ⟨q,C,J⟩
      ·exact .inl q
      ·exact .inr ⟨q,C,by omega⟩
     ·rw[g1,iz,aeu c1,aez c2,c];simp
   have V: ¬(y.1:Int)>s.x.1+s.x.2:=by omega
   by_cases c3:y.1+y.2=s.x.1
   ·have L1: ((y.1:Int)+y.2=s.x.1)=True:=az4 (by omega);simp(disch:=omega) only[go_sem,simprocAttr,zo,q8,w,f3,ey,ex,M,V,L1,anc];refine fin _ {s with x:=(y.1,y.2+s.x.2)} _ _ (λi C J G R q5=>?_) ?_ ?_ (K.st (acG (by omega)) λi b=>acG (by have:=f _ b;omega)) rfl rfl (by rw[agq];omega) (.inl ⟨rfl,rfl⟩) ⟨?_,by simp;omega,by simp;omega,g4⟩
    ·rw[acG (by omega),acK (by omega)]
    ·rw[ae1 (by omega)];rfl
    ·rw[acG (by omega)];exact f5 _
    ·rw[g1,iz,aeu c1,aeu c2,aez c3]
   have L1: ¬(y.1:Int)+y.2=s.x.1:=by omega
   by_cases c4:y.1=s.x.1+s.x.2
   ·have TM: ((y.1:Int)=s.x.1+s.x.2)=True:=az4 (by omega);simp(disch:=omega) only[go_sem,simprocAttr,zo,q8,w,f3,ey,ex,M,V,L1,TM,anc];refine fin _ {s with x:=(s.x.1,s.x.2+y.2)} _ _ (λi C J G R q5=>?_) ?_ ?_ (K.st (acG (by omega)) λi b=>acG (by have:=f _ b;omega)) rfl rfl (by rw[agq];omega) (.inl ⟨rfl,rfl⟩) ⟨?_,by simp;omega,by simp;omega,g4⟩
    ·rw[acG (by omega),acK (by omega)]
    ·rw[ae1 (by omega)];rfl
    ·rw[acG (by omega)];exact f5 _
    ·rw[g1,iz,aeu c1,aeu c2,aeu c3,aez c4]
   ·have TM: ¬(y.1:Int)=s.x.1+s.x.2:=by omega
    simp(disch:=omega) only[go_sem,simprocAttr,zo,G,q6,q7,q8,w,f0,f1,f2,f3,ey,ex,M,V,L1,TM,anc,TJ];obtain⟨Wf,Ge⟩: ∃Wf,Wf=((P++[ae.box (aA y) none]).set (N+1) (ae.box [v] none)).set (N+2) (ae.box [AV.bool false] none):=⟨_,rfl⟩;rw[<-Ge];have hk: ∀i,i<n->i≠N+1->i≠N+2->Wf[i]?=P[i]?:=λi C J G=>by
     rw[Ge,acG (by omega),acG (by omega),acK (by omega)]
    have k1:Wf[N+1]?=some (.box [v] none):=by
     rw[Ge,acG (by omega)];exact ae1 (by omega)
    have k2:Wf[N+2]?=some (.box [.bool false] none):=by
     rw[Ge];exact ae1 (by rw[agq];omega)
    have kl:Wf.length=n+1:=by rw[Ge];simp[w]
    refine⟨{s with res:=v,ok:=false},⟨λi b=>?_,?_,k1,k2,?_,?_,?_⟩,⟨?_,λi b hp hr=>?_⟩,.inl ⟨rfl,rfl⟩,rfl,?_,rfl,rfl⟩
    ·show Wf[i]?=_;rw[hk i (by omega) (by omega) (by omega)];exact p0 i b
    ·show Wf[N]?=_;rw[hk N (by omega) (by omega) (by omega)];exact p1
    ·show Wf[N+3]?=_;rw[hk _ (by omega) (by omega) (by omega)];exact p4
    ·show Wf[N+5]?=_;rw[hk _ (by omega) (by omega) (by omega)];exact p5
    ·exact X.st (hk _ (by omega) (by omega) (by omega)) λi b=>by
      obtain⟨_,_,_,_,q⟩:=X.row b;have:=dZ q;have:=f i b;exact hk i (by omega) (by omega) (by omega)
    ·show P.length<=Wf.length;omega
    ·have nZ: ¬i<N+6:=hp;exact hk i (by omega) (by omega) (by omega)
    ·rw[g1,iz,aeu c1,aeu c2,aeu c3,aeu c4]
  ·intro g W' ak hI hP Bd hd om TN;obtain⟨p0,p1,p2,p3,p4,p5,X⟩:=hP;obtain⟨g1,g2,g3,g4,g5⟩:=hI;rw[Cv,List.drop_length]at g1;rw[Cv]at g3;have L0:=hl.1;have T:eA N ak:=by
    rcases TN with⟨rfl,_⟩| ⟨q,C,J,rfl⟩
    ·exact .inl rfl
    ·exact .inr ⟨q,C,rfl⟩
   have f: ∀i,g.row=some i->N+6<=i/\i≠W0.length:=by
    intro i b;rcases X with⟨q,_⟩| ⟨id,aj,q,_,J,G,R⟩
    ·rw[q]at b;cases b
    ·rw[q]at b;cases b;have:i≠N+5:=by rintro rfl;rw[p5]at R;cases R
     exact⟨by omega,by rintro rfl;rw[hd]at R;cases R⟩
   obtain⟨B,hB⟩: ∃B,B=((PC.aQ [o 83 (I.load false 1 (ao.t 9)),o 84 (I.build [AV.aq] [(0,1,ao.t 83)]),u (I.store 1 (ao.t 6) (ao.t 84)),u (I.store 1 (ao.t 7) (ao.c (AV.bool true)))]).seq PC.ret):=⟨_,rfl⟩;rw[<-hB];have fin: ∀ (U:List ae) (Y:oN) (fr:Env) (out:List aD) (r5:oN),(∀i,i<N->U[i]?=H[i]?)->SV (N+4) 2 eX U r5 (out.map aA)->(∃z,U[N+1]?=some (.box [z] none))->(∃z,U[N+2]?=some (.box [z] none))->
     U[W0.length]?=some .fx->eA N Y->iz x false [] l=some out->fr 9= .ptr (N+4) 0->fr 6= .ptr (N+1) 0->fr 7= .ptr (N+2) 0->
     wp X0 142 false B ⟨fr,[W0.length]⟩ ⟨U,Y⟩
      (dP X0 N lo [RV.cell 6 true 1,RV.cell 7 false 1] λx_1=>x_1=aX.ret (qj v l x) ⟨H,lo⟩):=by
    intro U Y fr out r5 h1 h2 ⟨z1,h3⟩ ⟨z2,h4⟩ h5 h6 h7 h9 h10 yw;obtain⟨Q,b1,b2,b3,b4,b5⟩:=h2.own (N:=N) (by omega) (by intro el pt;obtain⟨r,_,rfl⟩:=ago.1 pt;rfl);have hl5:W0.length<U.length:=dZ h5;have s1: (U.set (N+1) (ae.box [Q] none))[N+1]?=some (.box [Q] none):=ae1 (by omega);have s2: ((U.set (N+1) (ae.box [Q] none)).set (N+2) (ae.box [AV.bool true] none))[N+2]?=some (.box [.bool true] none):=ae1 (by rw[agq];omega);have e1:qj v l x= .ax [.agg [ek out],.bool true]:=by unfold qj iW;rw[aez m,h7]
    have hor:cb (out.map aA)=0:=bB (λ_=>rfl) out;have om:bD Q (out.map aA)=ek out:=by
     rcases b2.2 with⟨rfl,q⟩| ⟨id,aj,_,rfl,_⟩
     ·have:out=[]:=aqL.1 q;subst this;rfl
     ·unfold ek;cases out with
      |nil=>
       rcases h2 with⟨_,_,q⟩| ⟨_,_,_,q,_⟩
       ·rw[q]at b1;cases b1
       ·exact absurd rfl q
      |cons a l2=>rfl
    rw[hB];simp(disch:=omega) only[go_sem,simprocAttr,h9,h10,yw,b1,b3,b4,h3,h4,h5,s1,s2,lK];have TO: ∀TP,Fz ⟨((U.set (N+1) (ae.box [Q] none)).set (N+2) (ae.box [AV.bool true] none)).set W0.length ae.dead,TP⟩ N 12 (.ax [.agg [Q],.bool true]) (.ax [.agg [ek out],.bool true]):=by
     intro TP;have L3:aP N (((U.set (N+1) (ae.box [Q] none)).set (N+2) (ae.box [AV.bool true] none)).set W0.length ae.dead) Q 2 eX (out.map aA):=by
      obtain⟨c1,c2⟩:=b2;refine⟨c1,?_⟩;rcases c2 with c2| ⟨id,aj,c3,c4,c5⟩
      ·exact .inl c2
      ·have d1:id≠N+1:=by rintro rfl;rw[h3]at c5;cases c5
       have d2:id≠N+2:=by rintro rfl;rw[h4]at c5;cases c5
       have d3:id≠W0.length:=by rintro rfl;rw[h5]at c5;cases c5
       exact .inr ⟨id,aj,c3,c4,by rw[acG (by omega),acG (by omega),acG (by omega)];exact c5⟩
     have f1:=Fz.own (d:=0) (lo:=TP) L3 (by omega);rw[om]at f1;exact(Fz.ax (.cons (Fz.agg (.cons f1 .nil)) (.cons ((Fz.low (d:=0) (by simp[AV.refs])).mono (by omega)) .nil))).mono (by omega)
    have oQ: (((U.set (N+1) (ae.box [Q] none)).set (N+2) (ae.box [AV.bool true] none)).set W0.length ae.dead).take N=H:=lL hN λi b=>by
     rw[acG (by omega),acG (by omega),acG (by omega)];exact h1 i b
    have hl6:eA N (if Q.refs<=N+1+1 then Y else cM Y (N+1)):=by
     split
     ·exact h6
     ·exact h6.min (p:=N+1) (by omega) (.inr rfl)
    rw[uO hl6 (TO _),oQ,e1]
   have p0': ∀i,i<N->W'[i]?=H[i]?:=p0;have p1':W'[N+1]?=some (.box [g.res] none):=p2;cases c:g.put
   ·have K:SV (N+4) 2 eX W' g.row (g.out.map aA):=X;obtain⟨Q,v',W3,A,r',a1,a2,a3,a4,a5,O,a7⟩:=K.append (bytes:=16) (el:=aA g.x) (by omega) (by omega) rfl rfl (by unfold room;simp;omega) ak;have k: ∀i,i<N+4->A[i]?=W'[i]?:=λi b=>O i (by omega) (by omega) (λq=>by have:=(f _ q).1;omega)
    simp(disch:=omega) only[go_sem,simprocAttr,q8,q9,LZ,p4,p5,c,a1,a2,a3];refine fin A _ _ (g.out++[g.x]) r' (λi b=>by rw[k i (by omega)];exact p0' i b) (by rw[agp];exact a4) ⟨_,by rw[k (N+1) (by omega)];exact p2⟩ ⟨_,by rw[k (N+2) (by omega)];exact p3⟩ ?_ (T.min (p:=N+4) (by omega) (.inr rfl)) ?_ q9 q6 q7
    ·rw[O W0.length (by omega) (by omega) (λq=>(f _ q).2 rfl)];exact hd
    ·rw[g1,iz,c];rfl
   ·simp(disch:=omega) only[go_sem,simprocAttr,LZ,p5,c];refine fin W' _ _ g.out g.row p0' X ⟨_,p2⟩ ⟨_,p3⟩ hd T ?_ q9 q6 q7;rw[g1,iz,c];rfl
  ·intro ex g W' ak hJ hP Bd hd om TN;obtain⟨p0,p1,p2,p3,p4,p5,X⟩:=hP;obtain⟨rfl,g1,g2,g3⟩:=hJ;have T:eA N ak:=by
    rcases TN with⟨rfl,_⟩| ⟨q,C,J,rfl⟩
    ·exact .inl rfl
    ·exact .inr ⟨q,C,rfl⟩
   rw[g2]at p2;rw[g3]at p3;have e1:qj v l x= .ax [.agg [v],.bool false]:=by unfold qj iW;rw[aez m,g1]
   have TO:Fz ⟨W'.set W0.length ae.dead,ak⟩ N 12 (.ax [.agg [v],.bool false]) (.ax [.agg [v],.bool false]):=Fz.low (by simp[AV.refs,aI,TJ]);have oQ: (W'.set W0.length ae.dead).take N=H:=lL hN λi b=>by rw[acG (by omega)];exact p0 i b
   simp(disch:=omega) only[go_sem,simprocAttr,q6,q7,lK,hd,p2,p3];rw[uO T TO,oQ,e1]
def ahN(t:aw)(x:Nat): (aM t x).1.up=bt t x:=by unfold aM bt;split<;>rfl
theorem jK{r:ds}:aJ [AV.int .u32 0,.int .i64 0,.aq,.int .i64 0,.int .u32 0,.int .u32 0,.int .u32 0,.int .u32 0,.int .u32 0,.int .u32 0,.int .u32 0,.int .u32 0] 0 (bS r)=bS r:=by rfl
def TQ(t:aw)(h:Nat)(N:Nat)(H:List ae)(b:H.length=N)(lo:oN):D X0 (.fn (.func 49) [] []) [.agg (aN t),.int .u32 h] ⟨H,lo⟩=some (.ret (.fn (.func 82) [] [.ptr N 0,.ptr (N+1) 0]) ⟨H++[.box (aN t) none,.box [.int .u32 h] none],lo⟩):=by
 refine aH QF λM a=>?_
 obtain rfl:M=N:=by omega
 simp only[go_sem,simprocAttr,QF,a];rw[zX (by omega)]
def nG(t:aw)(h:Nat):List lA:=(aS t h).map λx=>[.int .u32 (x:Nat)]
def TR(t:aw)(ht:bT t)(hT:ca t)(h:Nat)(hh:h<4294967296)(a:Nat):
  uM X0 (.fn (.func 82) [] [.ptr a 0,.ptr (a+1) 0]) a [.box (aN t) none,.box [.int .u32 h] none] (nG t h):=by
 intro S V y I J b P m qL W s hP h0 uP z hG lo;have o: ∀i,V.cH i->i<b:=λi hi=>(m i hi).1
 suffices h: ∃Y,D X0 (.fn (.func 82) [] [.ptr a 0,.ptr (a+1) 0]) [y] ⟨W,lo⟩=some Y/\
   (λY=> ∃v u ak,Y=aX.ret (.ax []) ⟨u,ak⟩/\V.P v u/\ (I (nG t h).length v\/J v)/\b<=u.length/\
     (∀i,i<b-> ¬V.cH i-> ¬(a<=i/\i<a+[ae.box (aN t) none,.box [.int .u32 (h:Nat)] none].length)->u[i]?=W[i]?)/\k7 V.c b lo ak none (V.row v)) Y by
  obtain⟨Y,h1,v,u,ak,rfl,q1,q2,q3,q4,q5⟩:=h;exact⟨v,u,ak,h1,q1,q2,q3,q4,q5⟩
 refine uf QS rfl rfl rfl λN hN=>?_
 obtain rfl:N=b:=by omega
 have g0:W[a]?=some (.box (aN t) none):=hG 0 (by simp);have g1:W[a+1]?=some (.box [.int .u32 h] none):=hG 1 (by simp);have ha:=dZ g1;have TS: ¬V.cH a:=λq=>(m a q).2 ⟨by omega,by simp⟩
 have A: ¬V.cH (a+1):=λq=>(m _ q).2 ⟨by omega,by simp⟩
 simp only[go_sem,simprocAttr,QS];refine gE ((aS t h).length+1) (λk e u ak=> ∃v x,I k v/\ko V N W (λi=>a<=i/\i<a+[ae.box (aN t) none,.box [.int .u32 (h:Nat)] none].length) v u ak/\u[a]?=some (.box (aN t) none)/\u[a+1]?=some (.box [.int .u32 (x:Nat)] none)/\x<4294967296/\k<=(aS t h).length/\aS t x=(aS t h).drop k/\e 0=y/\e 1= .ptr a 0/\e 2= .ptr (a+1) 0) 0 (by omega) ?_ ?_
 ·simp only[go_sem,simprocAttr];exact⟨s,h,h0,⟨hP,by omega,λ_ _ _ _=>rfl,.inl ⟨rfl,z⟩,λr e=>by rw[z]at e;cases e⟩,g0,g1,hh,rfl⟩
 rintro k hk e W1 Q ⟨s1,x,hI,X,w0,w1,hx,TT,p,e0,e1,e2⟩ n U;have g:=qf hT x;have L4:N<=n:=by have:=X.len;omega
 have f0: ∀L,(W1++L)[a]?=some (.box (aN t) none):=λL=>bf w0
 have f1: ∀L,(W1++L)[a+1]?=some (.box [.int .u32 x] none):=λL=>bf w1
 have Z:=ue t ht x hx;have hu:=ahN t x;have f: (aM t x).2=if t.az x then 0 else 4:=by unfold aM;split<;>rfl
 have B: ∀L,bt t x=0-> ∃j d,finish N lo (.ax []) ⟨W1++L,Q⟩=(.ax [],⟨j,d⟩)/\V.P s1 j/\ (I (nG t h).length s1\/J s1)/\N<=j.length/\ (∀i,i<N-> ¬V.cH i-> ¬(a<=i/\i<a+[ae.box (aN t) none,.box [.int .u32 (h:Nat)] none].length)->j[i]?=W[i]?)/\k7 V.c N lo d none (V.row s1):=by
  intro L G;obtain⟨j,d,w,F,l,E,C⟩:=(X.push P o L).fin P o (dM:=lo);refine⟨j,d,w,F,.inl ?_,l,E,C⟩;rw[aez G]at g;rw[g]at p;have:=ahX List.length p;rw[amM]at this;have e: (nG t h).length=(aS t h).length:=by simp[nG]
  simp only[am9]at this;rw[e,show(aS t h).length=k by omega];exact hI
 cases H:t.az x
 ·rw[H]at f;have G:bt t x=0:=by unfold bt;rw[H];rfl
  obtain⟨j,d,w,F,l,E,C,O⟩:=B [.box (bS (aM t x).1) none] G;simp only[go_sem,simprocAttr,Fv,e1,e2,w0,w1,Z,ml,jK,f,U,w];exact⟨s1,j,d,rfl,F,l,E,C,O⟩
 ·rw[H]at f;by_cases G:bt t x=0
  ·obtain⟨j,d,w,F,l,E,C,O⟩:=B [.box (bS (aM t x).1) none] G;simp only[go_sem,simprocAttr,Fv,e1,e2,w0,w1,Z,ml,jK,f,U,hu,G,w];exact⟨s1,j,d,rfl,F,l,E,C,O⟩
  ·have R: ¬((bt t x:Nat):Int)=0:=by omega
   rw[aeu G]at g;have hk':k< (aS t h).length:=by
    have:=ahX List.length (g ▸ p);rw[amM]at this;simp only[agt]at this;omega
   have wB: (nG t h)[k]?=some [.int .u32 (bt t x:Nat)]:=by
    unfold nG;rw[agA];have: (aS t h)[k]?=((aS t h).drop k)[0]?:=by rw[al0];rfl
    rw[this,<-p,g];rfl
   have M:=X.push P o [.box (bS (aM t x).1) none];obtain⟨c,s2,W2,mW,w,F,l,E,C,O⟩:=qL k _ s1 wB hI (W1++[.box (bS (aM t x).1) none]) M.P M.len Q;have K:=M.step F l E C;have T: ∀i,i<N->V.row s1≠some i:=λi hi q=>by have:=X.row _ q;omega
   have v0:W2[a]?=some (.box (aN t) none):=by rw[l.2 a (by simp;omega) TS (T _ (by omega))];exact f0 _
   have v1:W2[a+1]?=some (.box [.int .u32 x] none):=by rw[l.2 (a+1) (by simp;omega) A (T _ (by omega))];exact f1 _
   have hWn:n+1<=W2.length:=by have:=l.1;simp at this;omega
   have vn:W2[n]?=some (.box (bS (aM t x).1) none):=by
    rw[l.2 n (by simp;omega) (λq=>by have:=o _ q;omega) (λq=>by have:=P.IT X.P q;omega)];rw[<-U];simp
   cases c
   ·obtain⟨j,d,q1,q2,q3,q4,q5⟩:=K.fin P o (dM:=lo);simp only[go_sem,simprocAttr,Fv,e0,e1,e2,w0,w1,Z,ml,jK,f,U,hu,R,w,q1];exact⟨s2,j,d,rfl,q2,.inr O,q3,q4,q5⟩
   ·simp(disch:=omega) only[go_sem,simprocAttr,Fv,e0,e1,e2,w0,w1,Z,ml,jK,f,U,hu,R,w,v0,v1,vn];refine⟨by omega,s2,bt t x,O,?_,?_,asf,by omega,?_⟩
    ·exact K.set P A (λq=>by have:=K.row _ q;omega) (.inl ⟨by omega,by simp⟩)
    ·exact ae1 (by omega)
    ·have:=ahX (List.drop 1) (g ▸ p);rw[ao5]at this;simpa using this
def TU{t:aw}{x:lA}(a: (nG t h)[j]?=some x): ∃u,x=[.int .u32 (u:Nat)]/\ (aS t h)[j]?=some u:=by
 unfold nG at a
 grind
def TV(t:aw)(h:Nat): (nG t h).length=(aS t h).length:=by simp[nG]
def L5(t:aw)(v:bT t)(q:ca t)(h:Nat)(m:h<4294967296)(H:List ae)(lo:oN):D X0 (.fn (.func 304) [] []) [.agg (aN t),.int .u32 h] ⟨H,lo⟩=some (.ret (.int .i64 (depth t h:Nat)) ⟨H,lo⟩):=by
 refine aH Lp λN f=>?_
 have g:az t.b h=t.az h:=rfl;have a:=eP t.b h m;simp only[g]at a;cases b:t.az h
 ·simp only[F1,go_sem,simprocAttr,Lp,f,a,depth,b,agm]
 ·rw[b]at a;have C:=TQ t h (N+2) (H++[.box (aN t) none,.box [.int .i64 1] none]) (by simp[f]) none;simp only[go_sem,simprocAttr,Lp,f,a,C];refine wG (S:=Nat) (λe=>e 5= .ptr (N+1) 0) (by simp only[go_sem,simprocAttr]) (nG t h) f [.box (aN t) none,.box [.int .u32 h] none] (λn=>[.box (aN t) none,.box [.int .i64 (n+1:Nat)] none]) (nB:=2) (λ_=>rfl) 0 (λj s=>s=j) (λ_ _=>False) rfl ?_ (by simp) rfl (λ_ _ h=>h.elim) ?_ ?_ ?_
  ·exact TR t v q h m (N+2)
  ·rintro e he j x s r rfl;obtain⟨u,rfl,hu⟩:=TU r;refine⟨rfl,λW n I z k=>?_⟩;simp only[go_sem,simprocAttr,ij];refine⟨[],by simp,λK E d=>?_⟩;simp only[eK,eJ,alS,agr]at d;obtain⟨w0,w1⟩:=d;have G:s< (aS t h).length:=(adN.1 hu).1;have w:=q h;simp(disch:=omega) only[go_sem,simprocAttr,af6,he,w1,agB,oq];refine⟨s+1,?_,λi J A=>acG (by omega),rfl⟩;simp only[eK,eJ,alS,agr];exact⟨by rw[acG (by omega)];exact w0,ae1 (by omega)⟩
  ·rintro e he s W p y rfl c k B;simp only[eK,eJ,alS,agr]at k;obtain⟨w0,w1⟩:=k;have l: ∀o,(W.set p o).take N=H:=λo=>(c.set (by omega)).take f
   simp only[F1,go_sem,simprocAttr,he,w1,B,lK,l];rw[TV];refine dk (ahX _ ?_) rfl;unfold depth;rw[aez b];omega
  ·rintro e he ex s W p y F;exact F.elim
def asK{t:aw}(b:ca t)(c:h<4294967296):root t h<4294967296:=by
 unfold root;split
 ·cases e:aS t h with
  |nil=>grind
  |cons a l=>
   have hm: (aS t h).getLastD h∈aS t h:=by grind
   rw[<-e];exact fF (LN b hm)
 ·omega
def xn(t:aw)(r:bT t)(C:ca t)(h:Nat)(m:h<4294967296)(H:List ae)(lo:oN):D X0 (.fn (.func 21) [] []) [.agg (aN t),.int .u32 h] ⟨H,lo⟩=some (.ret (.int .u32 (root t h:Nat)) ⟨H,lo⟩):=by
 refine aH Ks λN f=>?_
 have g:az t.b h=t.az h:=rfl;have a:=eP t.b h m;simp only[g]at a;cases b:t.az h
 ·simp only[F1,go_sem,simprocAttr,Ks,f,a,root,b,agm]
 ·rw[b]at a;have A:=TQ t h (N+2) (H++[.box (aN t) none,.box [.int .u32 h] none]) (by simp[f]) none;simp only[go_sem,simprocAttr,Ks,f,a,A];refine wG (S:=Nat) (λe=>e 3= .ptr (N+1) 0) (by simp only[go_sem,simprocAttr]) (nG t h) f [.box (aN t) none,.box [.int .u32 h] none] (λn=>[.box (aN t) none,.box [.int .u32 (n:Nat)] none]) (nB:=2) (λ_=>rfl) h (λj s=>s=((aS t h).take j).getLastD h) (λ_ _=>False) rfl ?_ (by simp) rfl (λ_ _ h=>h.elim) ?_ ?_ ?_
  ·exact TR t r C h m (N+2)
  ·rintro e he j x s q rfl;obtain⟨u,rfl,hu⟩:=TU q;refine⟨rfl,λW n F w k=>?_⟩;simp only[go_sem,simprocAttr,ij];refine⟨[],by simp,λI B d=>?_⟩;simp only[eK,eJ,alS,agr]at d;obtain⟨w0,w1⟩:=d;simp only[go_sem,simprocAttr,afg,he,w1,agB,oq];refine⟨u,?_,λi G y=>acG (by omega),?_⟩
   ·simp only[eK,eJ,alS,agr];exact⟨by rw[acG (by omega)];exact w0,ae1 (by omega)⟩
   ·rw[agu,hu];simp
  ·rintro e he s W p v rfl c k z;simp only[eK,eJ,alS,agr]at k;obtain⟨w0,w1⟩:=k;have l: ∀o,(W.set p o).take N=H:=λo=>(c.set (by omega)).take f
   simp only[F1,go_sem,simprocAttr,he,w1,z,lK,l];rw[TV,agk];refine dk (ahX _ ?_) rfl;unfold root;rw[aez b]
  ·rintro e he ex s W p v E;exact E.elim
noncomputable def mm:lA->AS->Option aX:=oo X0 (D X0) Lw 46 Kw
noncomputable def X1:Ctx:={X0 with cg:=λf=>if f=46 then some mm else none}
noncomputable def mn:lA->AS->Option aX:=oo X1 (D X1) Lw 19 Kr
noncomputable def X2:Ctx:={X0 with cg:=λf=>if f=46 then some mm else if f=19 then some mn else none}
noncomputable def qk:lA->AS->Option aX:=oo X2 (D X2) Lw 179 FG
noncomputable def X3:Ctx:={X0 with cg:=λf=>if f=46 then some mm else if f=19 then some mn else if f=179 then some qk else none}
noncomputable def rH:lA->AS->Option aX:=oo X3 (D X3) Lw 158 KU
noncomputable def X4:Ctx:={X0 with cg:=λf=>if f=46 then some mm else if f=19 then some mn else if f=179 then some qk else if f=158 then some rH else none}
noncomputable def xo:lA->AS->Option aX:=oo X4 (D X4) Lw 156 KT
noncomputable def X5:Ctx:={X0 with cg:=λf=>if f=46 then some mm else if f=19 then some mn else if f=179 then some qk else if f=158 then some rH else if f=156 then some xo else none}
noncomputable def zY:lA->AS->Option aX:=oo X5 (D X5) Lw 108 KI
noncomputable def X6:Ctx:={X0 with cg:=λf=>if f=46 then some mm else if f=19 then some mn else if f=179 then some qk else if f=158 then some rH else if f=156 then some xo else if f=108 then some zY else none}
noncomputable def Cy:lA->AS->Option aX:=oo X6 (D X6) Lw 73 Ft
noncomputable def X:Ctx:={X0 with cg:=λf=>if f=46 then some mm else if f=19 then some mn else if f=179 then some qk else if f=158 then some rH else if f=156 then some xo else if f=108 then some zY else if f=73 then some Cy else none}
def Gf{P:FuncId->Option (lA->AS->Option aX)}(h: ∀f,kL.contains f=false->P f=none):Ext X0 {X0 with cg:=P}where
 dL:=rfl
 fV:=rfl
 code:=rfl
 cg:=λf=>by
  cases a:kL.contains f
  ·left;exact h f a
  ·right
   refine⟨rfl,?_⟩;show(if kL.contains f then none else zu.lookup f)=none
   grind
def iF{g:FuncId}(h:kL.contains f=false)(a:kL.contains g=true):f≠g:=by grind
def ahO:Ext X0 X2:=Gf λf h=>by rw[aeu (iF h rfl),aeu (iF h rfl)]
def asL:Ext X0 X3:=Gf λf h=>by rw[aeu (iF h rfl),aeu (iF h rfl),aeu (iF h rfl)]
def asM:Ext X0 X4:=Gf λf h=>by rw[aeu (iF h rfl),aeu (iF h rfl),aeu (iF h rfl),aeu (iF h rfl)]
def ahP:Ext X0 X6:=Gf λf h=>by rw[aeu (iF h rfl),aeu (iF h rfl),aeu (iF h rfl),aeu (iF h rfl),aeu (iF h rfl),aeu (iF h rfl)]
def dw:Ext X0 X:=Gf λf h=>by rw[aeu (iF h rfl),aeu (iF h rfl),aeu (iF h rfl),aeu (iF h rfl),aeu (iF h rfl),aeu (iF h rfl),aeu (iF h rfl)]
def asN(p:Nat->Bool)(k:Nat): (List.range (k+1)).filter p=(List.range k).filter p++(if p k then[k]else[]):=by grind [List.range_succ]
def aP.le{N M:Nat}{H:List ae}{ty:TypeId}(h:aP N H v sz ty af)(b:M<=N):aP M H v sz ty af:=by
 obtain⟨a,c⟩:=h;refine⟨a,?_⟩
 grind
def rI(b:cO)(k:Nat):lN:=((List.range k).filter λi=>(b i).fe).map λi=>dg i (b i).gen
def asO(b:cO)(k:Nat):rI b (k+1)=if(b k).fe then rI b k++[dg k (b k).gen]else rI b k:=by
 unfold rI;rw[asN]
 grind
def asP(b:cO)(k:Nat): (rI b k).length<=k:=by
 unfold rI
 grind
def TW(b:cO)(A:hY b)(N:Nat)(H:List ae)(w:H.length=N)(lo:oN): ∃v J,mm [.agg (b9 b)] ⟨H,lo⟩=some (.ret v ⟨H++J,lo⟩)/\aP (N+1) (H++J) v 1 b8 ((bo b).map hC):=by
 suffices h: ∃o,mm [.agg (b9 b)] ⟨H,lo⟩=some o/\ (λo=> ∃v J,o=aX.ret v ⟨H++J,lo⟩/\aP (N+1) (H++J) v 1 b8 ((bo b).map hC)) o by
  obtain⟨o,m,v,J,rfl,B⟩:=h;exact⟨v,J,m,B⟩
 refine wF (X:=X0) Kw rfl λM E=>?_
 obtain rfl:M=N:=by omega
 have u: (H++[ae.box (b9 b) none]).length=M+1:=by simp[w]
 simp only[go_sem,simprocAttr,Kw,w];refine dQ 32 (λk e H'=>(H++[ae.box (b9 b) none])<+:H'/\ (∃v,e 3=v/\aP (M+1) H' v 1 b8 ((rI b k).map hC))/\e 1= .ptr M 0/\e 7= .int .i64 k) 0 (by omega) ?_ ?_
 ·simp only[go_sem,simprocAttr];exact⟨aq8,_,rfl,aP.aq⟩
 rintro k D e H' ⟨⟨L,rfl⟩,⟨v,y,a⟩,m,x⟩ n C;have j: (H++[ae.box (b9 b) none]++L)[M]?=some (.box (b9 b) none):=by rw[aev,dq w];rfl
 have t:=asl b A k (H++(.box (b9 b) none::L)) none;simp only[aev,ahY,ah1]at j;have q:=asP b k;simp only[bO,go_sem,simprocAttr,afn,m,y,x,j,t,atR];refine⟨λh=>?_,λh=>?_⟩
 ·have c:k<32:=by omega
  have d:=asO b k;cases z: (b k).fe
  ·rw[z]at d;simp(disch:=omega) only[go_sem,simprocAttr,c,m,y,x,dT];rw[d];exact⟨⟨L,by simp⟩,v,rfl,by simpa using a⟩
  ·rw[z]at d;simp only[go_sem,simprocAttr,c,y,dT];have i: (H++[ae.box (b9 b) none])<+: (H++(.box (b9 b) none::L)):=⟨L,by simp⟩;have g:aP (M+1) (H++(.box (b9 b) none::L)) v 1 b8 ((rI b k).map hC):=by simpa using a
   refine pE (H0:=H++[ae.box (b9 b) none]) (ys:=[[.int .u32 (dg k (b k).gen:Nat)]]) g i u (by omega) (by intro el s;rw[ae5.1 s];rfl) rfl (by unfold room;simp;omega) λv' F f r=>?_
   simp(disch:=omega) only[go_sem,simprocAttr,m,x];refine⟨c,r,?_⟩;rw[d];have:List.map hC (rI b k++[dg k (b k).gen])=List.map hC (rI b k)++[[.int .u32 (dg k (b k).gen:Nat)]]:=by simp[hC]
   simp only[ahJ];rw[this];exact⟨v',rfl,f⟩
 ·obtain rfl:k=32:=by omega
  have:bo b=rI b 32:=rfl;rw[this];simp only[go_sem,simprocAttr,sq,gu];exact⟨_,_,rfl,by simpa using a⟩
def ql{X:Ctx}{p:lA->AS->Option aX}{args:lA}{E:AS}{r:aX}(a:X.cg f=some p)(h:p args E=some r):D X (.fn (.func f) [] []) args E=some r:=D6 a h
def L6(b:cO)(d:hY b)(N:Nat)(H:List ae)(e:H.length=N)(lo:oN): ∃v J,mn [.agg (b9 b)] ⟨H,lo⟩=some (.ret v ⟨H++J,lo⟩)/\aP (N+1) (H++J) v 1 b8 ((bo b).map hC):=by
 suffices h: ∃a,mn [.agg (b9 b)] ⟨H,lo⟩=some a/\ (λa=> ∃v J,a=aX.ret v ⟨H++J,lo⟩/\aP (N+1) (H++J) v 1 b8 ((bo b).map hC)) a by grind
 refine wF (X:=X1) Kr rfl λM g=>?_
 obtain rfl:M=N:=by omega
 obtain⟨v,J,e1,f⟩:=TW b d (M+1) (H++[.box (b9 b) none]) (by grind) none;have c:D X1 (.fn (.func 46) [] []) [.agg (b9 b)] ⟨H++[.box (b9 b) none],none⟩=some (.ret v ⟨H++[.box (b9 b) none]++J,none⟩):=ql (p:=mm) rfl e1;simp only[go_sem,simprocAttr,Kr,e,c,sq,gu];exact⟨_,_,rfl,(aP.le (M:=M+1) f (by omega)).mono (by simp)⟩
def qm{H:List ae}{o:ae}(h:H[i]?=some o):H.set i o=H:=by
 apply ang
 grind
def ahQ{H:List ae}{id:Nat}{ty:TypeId}(h:H[id]?=some (.row aj 1 ty af))(a:i<af.length)(b: ∀el∈af,el.length=1)(g:v.cq=false)(f:v.cells=[v])(d:v.refs=0):
  kf ⟨H,lo⟩ 1 (.dn id aj i 0) v=some ⟨H.set id (.row aj 1 ty (af.set i [v])),lo⟩:=by
 have c:=b _ (arj a);simp only[kf,h,adQ a];rw[aez ⟨trivial,c,g,by grind,by omega⟩];have e:aJ af[i] 0 v.cells=[v]:=by
  rw[f];simp only[aJ,List.take_zero,ah1,agt,am9,alV]
  grind
 rw[e];simp[AS.set,d]
def Gg{H:List ae}{id:Nat}{ty:TypeId}{c:Bool}(h:H[id]?=some (.row aj 1 ty af))(d:n<=af.length)(b: ∀el∈af,el.length=1):Rd ⟨H,lo⟩ (.ref id aj 1 0 n c) 1 (af.take n):=by
 refine⟨trivial,?_,λel a=>b el (ahZ a)⟩;simp only[Den.elems,h]
 grind
def asQ{id:Nat}(h:i<=n):gw 1 (.ref id aj 1 0 n false) (some (.int .i64 (i:Nat))) none none=some (.ref id aj 1 i (n-i) false):=by
 simp only[gw,gv,lS,lT]
 grind
def ahR{id:Nat}(h:i<=n):gw 1 (.ref id aj 1 0 n false) none (some (.int .i64 (i:Nat))) none=some (.ref id aj 1 0 i false):=by
 simp only[gw,gv,lS,lT]
 grind
def kept(p:Nat->Bool)(l:lN)(k:Nat):lN:=(l.take k).filter λh=>!p h
def gN(p:Nat->Bool)(l:lN)(k:Nat):lN:=kept p l k++l.drop (kept p l k).length
section
variable{p:Nat->Bool}{l:lN}{k:Nat}
def TX: (kept p l k).length<=k:=agD (ahK _ _) (by grind)
def ahS: (kept p l k).length<=l.length:=agD (ahK _ _) (by grind)
def zZ: (gN p l k).length=l.length:=by
 have:=ahS (p:=p) (l:=l) (k:=k);simp only[gN,aeZ,amM];omega
theorem getD_eq(a:k<l.length):l.getD k default=l[k]:=by grind
def Gi(a:k<l.length):kept p l (k+1)=if p (l.getD k default)=true then kept p l k else kept p l k++[l.getD k default]:=by
 have e:l.take (k+1)=l.take k++[l.getD k default]:=by simp_all
 unfold kept
 grind
def asS(a:k<l.length): (gN p l k).getD k default=l.getD k default:=by
 have b:=TX (p:=p) (l:=l) (k:=k);unfold gN
 grind
def asT(b:k<l.length)(a:p (l.getD k default)=false): (gN p l k).set (kept p l k).length (l.getD k default)=gN p l (k+1):=by
 have c:=TX (p:=p) (l:=l) (k:=k);have e:=Gi (p:=p) b;rw[a]at e;unfold gN;have d:l.drop (kept p l k).length=l[(kept p l k).length]'(by omega)::l.drop ((kept p l k).length+1):=aom (by omega)
 grind
def asU(b:k<l.length)(a:p (l.getD k default)=true):gN p l (k+1)=gN p l k:=by
 have e:=Gi (p:=p) b;rw[aez a]at e;unfold gN;rw[e]
def asV(h:l.findIdx? p=some b):b<l.length/\kept p l (b+1)=l.take b:=by
 rw[asI]at h;obtain⟨c,g,f⟩:=h;refine⟨c,?_⟩;rw[Gi c,aez (by grind)];unfold kept;rw[List.filter_eq_self];intro a d;obtain⟨j,e,rfl⟩:=aqN d
 grind
def ahT:kept p l l.length=l.filter λh=>!p h:=by unfold kept;grind
end
def asW{H:List ae}{id off len:Nat}{c:Bool}{ty:TypeId}(h:H[id]?=some (.row aj 1 ty af))(a:off+len<=af.length):
  rX ⟨H,lo⟩ [.int .u32 0] (.ref id aj 1 off len c)=some ⟨H.set id (.row aj 1 ty (af.take off++(List.replicate len [.int .u32 0]++af.drop (off+len)))),lo⟩:=by
 simp only[rX,h];rw[aez ⟨trivial,trivial,rfl,a,rfl⟩];simp[AS.set]
def map_set{β:Type}(g:α->β)(l:List α)(i:Nat)(x:α): (l.map g).set i (g x)=(l.set i x).map g:=by simp
def asX(id aj:Nat)(H:List ae)(l:lN)(hl:l.length<=1000)(i:H[id]?=some (.row aj 1 b8 (l.map hC)))(fv:AV)(p:Nat->Bool)
  (T: ∀af,∀h∈l,D X2 fv [.int .u32 h] ⟨H.set id (.row aj 1 b8 af),none⟩=some (.ret (.bool (p h)) ⟨H.set id (.row aj 1 b8 af),none⟩)) (lo:oN):
  ∃rest,qk [.ref id aj 1 0 l.length false,fv] ⟨H,lo⟩=some (.ret (.ref id aj 1 0 (l.filter λh=>!p h).length false) ⟨H.set id (.row aj 1 b8 ((l.filter λh=>!p h).map hC++rest)),lo⟩)/\ ∀el∈rest,el=[.int .u32 0]:=by
 suffices h: ∃A,qk [.ref id aj 1 0 l.length false,fv] ⟨H,lo⟩=some A/\ (λA=> ∃rest,A=aX.ret (.ref id aj 1 0 (l.filter λh=>!p h).length false) ⟨H.set id (.row aj 1 b8 ((l.filter λh=>!p h).map hC++rest)),lo⟩/\ ∀el∈rest,el=[.int .u32 0]) A by grind
 have J:=(adN.1 i).1;have V: ∀el∈l.map hC,el.length=1:=by intro el f;obtain⟨x,_,rfl⟩:=ago.1 f;rfl
 have Q:=qm i;have O: ∀h∈l,D X2 fv [.int .u32 h] ⟨H,none⟩=some (.ret (.bool (p h)) ⟨H,none⟩):=λh hm=>by
  have:=T (l.map hC) h hm;rwa[Q]at this
 have G:Rd ⟨H,none⟩ (.ref id aj 1 0 l.length false) 1 (l.map hC):=by
  have:=Gg (lo:=none) (c:=false) (n:=l.length) i (by simp) V;rwa[aeE (by simp)]at this
 have w:=ahA ahO (.ref id aj 1 0 l.length false) fv l H G (by omega) p none O;refine wF (X:=X2) FG rfl λM hM=>?_
 cases m:l.findIdx? p with
 |none=>
  have K:kM p l= -1:=by unfold kM;rw[m]
  have N:l.filter (λh=>!p h)=l:=by
   rw[List.filter_eq_self];intro a Z;rw[List.findIdx?_eq_none_iff]at m;simp[m a Z]
  simp only[go_sem,simprocAttr,FG,w,K,sq,gu];exact⟨[],by rw[N,agB,Q],λ_ h=>by cases h⟩
 |some i0=>
  have K:kM p l=(i0:Nat):=by unfold kM;rw[m]
  have u: ((i0:Nat):Int)≠ -1:=by omega
  obtain⟨Y,v⟩:=asV m;have b: ∀af,(H.set id (.row aj 1 b8 af))[id]?=some (.row aj 1 b8 af):=λaf=>ae1 J
  have P:gN p l (i0+1)=l:=by
   have e: (l.take i0).length=i0:=by rw[agw];omega
   unfold gN;rw[v,e,amI]
  simp(disch:=omega) only[go_sem,simprocAttr,FG,w,K,u];refine dQ l.length (λk e H'=>H'=H.set id (.row aj 1 b8 ((gN p l k).map hC))/\e 0= .ref id aj 1 0 l.length false/\e 1=fv/\e 5= .int .i64 (kept p l k).length/\e 6= .int .i64 k) (i0+1) (by omega) ?_ ?_
  ·have e: (kept p l (i0+1)).length=i0:=by rw[v,agw];omega
   rw[P,e];simp only[go_sem,simprocAttr,Q]
  ·rintro k hk e H' ⟨rfl,z,U,y,R⟩ n hn;have q: ∀lo,Rd ⟨H.set id (.row aj 1 b8 ((gN p l k).map hC)),lo⟩ (.ref id aj 1 0 l.length false) 1 ((gN p l k).map hC):=λlo=>by
    have:=Gg (lo:=lo) (c:=false) (n:=l.length) (b ((gN p l k).map hC)) (by rw[ae3,zZ];exact ae0 _) (by intro el f;obtain⟨x,_,rfl⟩:=ago.1 f;rfl);rwa[aeE (by rw[ae3,zZ];exact ae0 _)]at this
   have W:=TX (p:=p) (l:=l) (k:=k);have r:=ahS (p:=p) (l:=l) (k:=k);have j: ∀E,fX E .sl (.ref id aj 1 0 l.length false)=some (.int .i64 l.length):=λE=>rfl
   simp only[bO,go_sem,simprocAttr,afL,z,y,R,j];refine⟨λh=>?_,λh=>?_⟩
   ·have d:k<l.length:=by omega
    have I:k< (gN p l k).length:=by rw[zZ];exact d
    have L:=asS (p:=p) d;have s:=λ (a:Int)=>(q none).bW (k:=.i64) (a:=a)
    have o:=(q none).cp (X:=X2) (off:=0) (n:=1) (agg:=false) I;have g:=T ((gN p l k).map hC) (l.getD k default) (dY d);rw[L]at o;simp only[ef,alV]at o;rw[zZ]at s;cases t:p (l.getD k default)
    ·rw[t]at g;have B:kf ⟨H.set id (.row aj 1 b8 ((gN p l k).map hC)),none⟩ 1 (.dn id aj (kept p l k).length 0) (.int .u32 (l.getD k default))=some ⟨H.set id (.row aj 1 b8 ((gN p l (k+1)).map hC)),none⟩:=by
      rw[ahQ (b _) (by rw[ae3,zZ];omega) (by intro el f;obtain⟨x,_,rfl⟩:=ago.1 f;rfl) rfl rfl rfl,alY];have: ((gN p l k).map hC).set (kept p l k).length [.int .u32 (l.getD k default)]=(gN p l (k+1)).map hC:=by
       rw[<-asT d t,<-map_set];rfl
      rw[this]
     have S: (kept p l (k+1)).length=(kept p l k).length+1:=by rw[Gi d,t];simp
     simp(disch:=omega) only[go_sem,simprocAttr,S,s,o,↓pH,g,B,z,U,y,R,ef];exact⟨by omega,by omega,by omega⟩
    ·rw[t]at g;have S:kept p l (k+1)=kept p l k:=by rw[Gi d,t];simp
     have e6:=asU d t;simp(disch:=omega) only[go_sem,simprocAttr,S,e6,s,o,↓pH,g,z,U,y,R,ef];exact⟨by omega,by omega⟩
   ·obtain rfl:k=l.length:=by omega
    have F:=asQ (id:=id) (aj:=aj) (n:=l.length) r;have C:=ahR (id:=id) (aj:=aj) (n:=l.length) r;have g:=asW (lo:=none) (off:=(kept p l l.length).length) (len:=l.length- (kept p l l.length).length) (c:=false) (b ((gN p l l.length).map hC)) (by rw[ae3,zZ];omega);simp only[go_sem,simprocAttr,z,y,F,C,g,sq,gu];refine⟨List.replicate (l.length- (kept p l l.length).length) [.int .u32 0],?_,λel f=>asG f⟩;rw[alY];have e1:List.take (kept p l l.length).length (List.map hC (gN p l l.length))=(l.filter λh=>!p h).map hC:=by
     unfold gN;rw[agp,aop (by simp),ahT]
    have e2:List.drop ((kept p l l.length).length+(l.length- (kept p l l.length).length)) (List.map hC (gN p l l.length))=[]:=ah2 (by rw[ae3,zZ];omega);rw[e1,e2,agB,ahT]
def asY{X:Ctx}(j:Ext X0 X)(t:aw)(f:bT t)(h x:Nat)(e:x<4294967296)(d a:Nat)(H:List ae)(b:H[d]?=some (.box (aN t) none))(c:H[a]?=some (.box [.int .u32 h] none))(lo:oN):
  D X (.fn (.func 180) [] [.ptr d 0,.ptr a 0]) [.int .u32 x] ⟨H,lo⟩=some (.ret (.bool (decide (bt t x≠h))) ⟨H,lo⟩):=by
 refine up j ?_;refine fj Rs λN i=>?_
 have m: ∀L,(H++L)[a]?=some (.box [.int .u32 h] none):=λL=>bf c
 have g:=ue t f x e;have hu:=ahN t x;simp only[F1,go_sem,simprocAttr,Rs,i,b,m,g,ml,jK,hu];refine dk (ahX AV.bool ?_) rfl
 grind
def ahU(N:Nat)(H:List ae)(v:AV)(ty:TypeId)(af a:List lA):Prop:=
 (∃id aj,N<=id/\v= .ref id aj 1 0 af.length false/\H[id]?=some (.row aj 1 ty (af++a)))/\ ∀el∈a,el.length=1
def asZ(t:aw)(q:bT t)(h:Nat)(r:t.az h=true)(N:Nat)(H:List ae)(K:H.length=N)(lo:oN):
  ∃v J rest,rH [.agg (aN t),.int .u32 h] ⟨H,lo⟩=some (.ret v ⟨H++J,lo⟩)/\ahU (N+2) (H++J) v b8 ((kids t h).map hC) rest:=by
 have E:=fF r
 suffices B: ∃n,rH [.agg (aN t),.int .u32 h] ⟨H,lo⟩=some n/\ (λn=> ∃v J rest,n=aX.ret v ⟨H++J,lo⟩/\ahU (N+2) (H++J) v b8 ((kids t h).map hC) rest) n by
  obtain⟨n,G,v,J,rest,rfl,F⟩:=B;exact⟨v,J,rest,G,F⟩
 refine wF (X:=X3) KU rfl λM s=>?_
 obtain rfl:M=N:=by omega
 have i:=up asL (eP t.b h E (H++[.box (aN t) none,.box [.int .u32 h] none]) none);have u:Go.Proofs.YtcdeobefbpnfeaaGreatDoor.az t.b h=t.az h:=rfl;rw[u]at i;rw[r]at i;obtain⟨v,J,e1,I⟩:=L6 t.b q.b (M+2) (H++[.box (aN t) none,.box [.int .u32 h] none]) (by simp[s]) none;have j:D X3 (.fn (.func 19) [] []) [.agg (b9 t.b)] ⟨H++[.box (aN t) none,.box [.int .u32 h] none],none⟩=some (.ret v ⟨H++[.box (aN t) none,.box [.int .u32 h] none]++J,none⟩):=ql (p:=mn) rfl e1;have f:h∈bo t.b:=(gi q.b).2 r;have g: (bo t.b).filter (λx=>!decide (bt t x≠h))=kids t h:=by
  unfold kids;rw[aez r];refine List.filter_congr λx _=>?_
  by_cases e:bt t x=h<;>simp[e]
 rcases I.2 with⟨_,e⟩| ⟨id,aj,C,rfl,a⟩
 ·rw[aqL.1 e]at f;cases f
 rw[ae3]at j;obtain⟨H1,c⟩: ∃H1,H1=H++[ae.box (aN t) none,.box [.int .u32 h] none]++J:=⟨_,rfl⟩;have b:=dZ a;have z:H1[M]?=some (.box (aN t) none):=by rw[c,aev,dq s];rfl
 have y:H1[M+1]?=some (.box [.int .u32 h] none):=by rw[c,aev,bA s];rfl
 rw[<-c]at a b;obtain⟨rest,d1,d2⟩:=asX id aj H1 (bo t.b) (by have:=lC t.b;omega) a (.fn (.func 180) [] [.ptr M 0,.ptr (M+1) 0]) (λx=>decide (bt t x≠h))
  (λaf x A=>asY ahO t q h x (fF ((gi q.b).1 A)) M (M+1) _ (by rw[acG (by omega)];exact z) (by rw[acG (by omega)];exact y) none) none
 rw[g]at d1;have m:D X3 (.fn (.func 179) [] []) [.ref id aj 1 0 (bo t.b).length false,.fn (.func 180) [] [.ptr M 0,.ptr (M+1) 0]] ⟨H1,none⟩=some _:=ql (p:=qk) rfl d1;rw[c]at m;simp only[aev,ahY,ah1]at m j;simp only[go_sem,simprocAttr,KU,s,i,j,m,sq,gu];have d: ∀L:List ae,∀o,(H++L).set id o=H++L.set (id-H.length) o:=λL o=>aqu _ _ (by omega)
 refine⟨_,_,rest,dk rfl (d _ _),⟨id,aj,by omega,by rw[ae3],?_⟩,λel w=>by rw[d2 el w];rfl⟩;rw[<-d];refine ae1 ?_;rw[c]at b;simpa using b
def iY(l:lN)(k:Nat):lN:=(List.range l.length).map λi=>if i<k\/l.length-k<=i then l.getD (l.length-1-i) default else l.getD i default
section
variable{l:lN}{k:Nat}
def ug: (iY l k).length=l.length:=by simp[iY]
def as0(h:i<l.length): (iY l k).getD i default=if i<k\/l.length-k<=i then l.getD (l.length-1-i) default else l.getD i default:=by
 unfold iY
 grind
def as1:iY l 0=l:=by
 apply ang;unfold iY
 grind
def as2(h:l.length<=2*k+1):iY l k=l.reverse:=by
 apply ang;intro i;unfold iY;by_cases a:i<l.length
 ·rw[agA,apz a]
  grind
 grind
def as3(h:2*k+1<l.length): ((iY l k).set k (l.getD (l.length-1-k) default)).set (l.length-1-k) (l.getD k default)=iY l (k+1):=by
 apply ang;intro i;by_cases a:i<l.length
 ·by_cases e1:l.length-1-k=i
  ·unfold iY
   grind
  ·rw[acG e1];by_cases b:k=i
   ·subst b;rw[ae1 (by rw[ug];omega)];unfold iY;rw[agA,apz a];simp only[agl];rw[aez (by omega)]
   ·rw[acG b];unfold iY;rw[agA,agA,apz a];simp only[agl];by_cases c:i<k\/l.length-k<=i
    ·rw[aez c,aez (by omega)]
    ·rw[aeu c,aeu (by omega)]
 ·rw[alZ (by simp[ug];omega),alZ (by rw[ug];omega)]
end
def as4(id aj:Nat)(H:List ae)(l:lN)(P:l.length<=1000)(b:List lA)(i:H[id]?=some (.row aj 1 b8 (l.map hC++b)))(f: ∀el∈b,el.length=1)(lo:oN):
  D X0 (.fn (.func 159) [] []) [.ref id aj 1 0 l.length false] ⟨H,lo⟩=some (.ret (.ax []) ⟨H.set id (.row aj 1 b8 (l.reverse.map hC++b)),lo⟩):=by
 refine aH Rk λN R=>?_
 have y:=dZ i;have g: ∀E,fX E .sl (.ref id aj 1 0 l.length false)=some (.int .i64 l.length):=λE=>rfl
 have d: ∀af,(H.set id (.row aj 1 b8 af))[id]?=some (.row aj 1 b8 af):=λaf=>ae1 y
 have M: ∀k,∀el∈(iY l k).map hC++b,el.length=1:=λk el p=>by
  rcases ae2.1 p with h|h
  ·obtain⟨x,_,rfl⟩:=ago.1 h;rfl
  ·exact f _ h
 simp(disch:=omega) only[go_sem,simprocAttr,Rk,g];refine dQ l.length (λk e H'=>H'=H.set id (.row aj 1 b8 ((iY l k).map hC++b))/\e 0= .ref id aj 1 0 l.length false/\e 2= .int .i64 k/\e 3= .int .i64 ((l.length:Int)-1-k)) 0 (by omega) ?_ ?_
 ·rw[as1,qm i];simp only[go_sem,simprocAttr];exact ahX _ (by omega)
 rintro k Q e H' ⟨rfl,K,J,I⟩ n O;simp only[bO,F1,go_sem,simprocAttr,afI,K,J,I];refine⟨λh=>?_,λh=>?_⟩
 ·have u:2*k+1<l.length:=by omega
  have w:k<l.length:=by omega
  obtain⟨m,hm⟩: ∃m,m=l.length-1-k:=⟨_,rfl⟩;have t: (l.length:Int)-1-k=(m:Nat):=by omega
  have o:Rd ⟨H.set id (.row aj 1 b8 ((iY l k).map hC++b)),none⟩ (.ref id aj 1 0 l.length false) 1 ((iY l k).map hC):=by
   have:=Gg (lo:=none) (c:=false) (n:=l.length) (d ((iY l k).map hC++b)) (by rw[aeZ,ae3,ug];omega) (M k);rwa[aop (by rw[ae3,ug])]at this
  have C:kg 1 (.ref id aj 1 0 l.length false) (.int .i64 (m:Nat))=some (.dn id aj m 0):=by
   have:=o.bW (k:=.i64) (a:=(m:Nat));rw[ug,aez (by omega)]at this;rw[this];simp[ef]
  have B:kg 1 (.ref id aj 1 0 l.length false) (.int .i64 (k:Nat))=some (.dn id aj k 0):=by
   have:=o.bW (k:=.i64) (a:=(k:Nat));rw[ug,aez (by omega)]at this;rw[this];simp[ef]
  have A: ∀j,j<l.length->cm X0 ⟨H.set id (.row aj 1 b8 ((iY l k).map hC++b)),none⟩ false 1 (.dn id aj j 0)=some (.int .u32 ((iY l k).getD j default:Nat)):=λj F=>by
   have:=o.cp (X:=X0) (j:=j) (off:=0) (n:=1) (agg:=false) (by rw[ug];exact F);simp only[ef,alV]at this;rw[this,pH]
  have s:=A m (by omega);have r:=A k (by omega);rw[as0 (by omega),aeu (by omega)]at s r;have G: ∀ (L:lN) (j v:Nat),L.length=l.length->j<l.length->kf ⟨H.set id (.row aj 1 b8 (L.map hC++b)),none⟩ 1 (.dn id aj j 0) (.int .u32 v)=some ⟨H.set id (.row aj 1 b8 ((L.set j v).map hC++b)),none⟩:=λL j v A F=>by
   rw[ahQ (d _) (by rw[aeZ,ae3];omega) (λel p=>by
    rcases ae2.1 p with h|h
    ·obtain⟨x,_,rfl⟩:=ago.1 h;rfl
    ·exact f _ h) rfl rfl rfl,alY,ard _ _ (by rw[ae3];omega)]
   have: (L.map hC).set j [.int .u32 v]=(L.set j v).map hC:=by rw[<-map_set];rfl
   rw[this]
  have z:=G (iY l k) k (l.getD m default) ug (by omega);have q:=G ((iY l k).set k (l.getD m default)) m (l.getD k default) (by rw[agq,ug]) (by omega);rw[hm,as3 u,<-hm]at q;simp(disch:=omega) only[go_sem,simprocAttr,K,J,I,t,C,B,s,r,z,q];exact⟨w,ahX _ (by omega)⟩
 ·have he:=as2 (l:=l) (k:=k) (by omega);rw[he,aeE (by rw[agq];omega)]
def TY(t:aw)(h:Nat)(N:Nat)(H:List ae)(b:H.length=N)(lo:oN):D X0 (.fn (.func 109) [] []) [.agg (aN t),.int .u32 h] ⟨H,lo⟩=some (.ret (.fn (.func 157) [] [.ptr (N+1) 0,.ptr N 0]) ⟨H++[.box (aN t) none,.box [.int .u32 h] none],lo⟩):=by
 refine aH Q3 λM a=>?_
 obtain rfl:M=N:=by omega
 simp only[go_sem,simprocAttr,Q3,a];rw[zX (by omega)]
def rJ(t:aw)(h:Nat):List lA:=(dC t h).map hC
def TZ(t:aw)(h:Nat): (rJ t h).length=(dC t h).length:=by simp[rJ]
structure as5(W:List ae)(v:AV)(id:Nat)(st:lN):Prop where
 ex: ∃aj rest,v= .ref id aj 1 0 st.length false/\W[id]?=some (.row aj 1 b8 (st.map hC++rest))/\ ∀el∈rest,el.length=1
theorem po{t:aw}: ∀st:lN,st.length<=(st.flatMap (dC t)).length
 | []=>by simp
 |x::xs=>by
  have d:1<=(dC t x).length:=by
   cases e:dC t x with
   |nil=>trivial
   |cons a b=>simp
  have c:=po (t:=t) xs
  grind
def as6{H:List ae}{id:Nat}{ty:TypeId}{ys:List lA}(h:H[id]?=some (.row aj 1 ty af))(f:n<=af.length)(e: ∀el∈ys,el.length=1)(a:cb ys=0)(d: (n+ys.length)*4<=room)(b:ys≠[]):
  dv ⟨H,lo⟩ ty 1 4 (.ref id aj 1 0 n false) ys=some (.ref id (aj+1) 1 0 (n+ys.length) false,⟨H.set id (.row (aj+1) 1 ty (af.take n++ys)),lo⟩):=by
 have c:0<1/\ys.all (λel=>el.length==1)=true:=⟨by omega,by grind⟩;unfold dv;rw[aez c];simp only[h];rw[aez ⟨trivial,trivial,trivial,trivial,by omega,d⟩,aeu (by grind)];simp[AS.set,a]
def as7{H:List ae}{id:Nat}{ty:TypeId}(h:H[id]?=some (.row aj 1 ty af))(a:n<=af.length)(b:n*4<=room):
  dv ⟨H,lo⟩ ty 1 4 (.ref id aj 1 0 n false) []=some (.ref id aj 1 0 n false,⟨H,lo⟩):=by
 unfold dv
 grind
def as8{X Y:Ctx}(a:Ext X Y)(h:X.code f=some pf)(b:X.cg f=none):Y.cg f=none:=by
 rcases a.cg f with e| ⟨_,e⟩
 ·grind
 grind
def as9{X Y:Ctx}(a:Ext X Y)(h:X.code f=some pf):Y.code f=some pf:=by rw[a.code];exact h
def vF{X Y:Ctx}(a:Ext X Y){args:lA}{E:AS}{r:aX}(h:D X v args E=some r):D Y v args E=some r:=aer a _ _ _ _ h
def T0{Y:Ctx}(U:Ext X4 Y)(t:aw)(ht:bT t)(hT:ca t)(h:Nat)(hg:t.az h=true)(a:Nat):
  uM Y (.fn (.func 157) [] [.ptr (a+1) 0,.ptr a 0]) a [.box (aN t) none,.box [.int .u32 h] none] (rJ t h):=by
 intro S V y I J b hV Gj qL W s hP h0 uP C hG lo;have hh:=fF hg;have o: ∀i,V.cH i->i<b:=λi hi=>(Gj i hi).1
 suffices h: ∃cr,D Y (.fn (.func 157) [] [.ptr (a+1) 0,.ptr a 0]) [y] ⟨W,lo⟩=some cr/\
   (λcr=> ∃O P ak,cr=aX.ret (.ax []) ⟨P,ak⟩/\V.P O P/\ (I (rJ t h).length O\/J O)/\b<=P.length/\
     (∀i,i<b-> ¬V.cH i-> ¬(a<=i/\i<a+[ae.box (aN t) none,.box [.int .u32 (h:Nat)] none].length)->P[i]?=W[i]?)/\k7 V.c b lo ak none (V.row O)) cr by
  obtain⟨cr,h1,O,P,ak,rfl,q1,q2,q3,q4,q5⟩:=h;exact⟨O,P,ak,h1,q1,q2,q3,q4,q5⟩
 refine uf Rj (as8 U rfl rfl) (as9 U rfl) rfl λN hN=>?_
 obtain rfl:N=b:=by omega
 have g0:W[a]?=some (.box (aN t) none):=hG 0 (by simp);have g1:W[a+1]?=some (.box [.int .u32 h] none):=hG 1 (by simp);have ha:=dZ g1;have TS: ¬V.cH a:=λq=>(Gj a q).2 ⟨by omega,by simp⟩
 have hul:=Tx hT h;have F: ∀n:Nat,n<=40000000->n*4<=room:=λn hn=>by unfold room;omega
 simp only[go_sem,simprocAttr,Rj,hN,g1];refine gE (dC t h).length (λk e P ak=> ∃O st id,I k O/\ko V N W (λi=>a<=i/\i<a+[ae.box (aN t) none,.box [.int .u32 (h:Nat)] none].length) O P ak/\P[a]?=some (.box (aN t) none)/\as5 P (e 4) id st/\N<=id/\V.row O≠some id/\
  st.reverse.flatMap (dC t)=(dC t h).drop k/\ (∀x∈st,t.az x=true)/\e 0=y/\e 1= .ptr (a+1) 0/\e 2= .ptr a 0) 0 (by omega) ?_ ?_
 ·simp only[go_sem,simprocAttr];refine⟨s,[h],N,h0,?_,?_,?_,ae0 _,?_,by simp,by simpa using hg⟩
  ·exact ko.push hV o ⟨hP,by omega,λ_ _ _ _=>rfl,.inl ⟨rfl,C⟩,λr e=>by rw[C]at e;cases e⟩ _
  ·exact bf g0
  ·exact⟨0,[],rfl,by rw[dq hN];rfl,by simp⟩
  ·rw[C];simp
 rintro k hk e W1 R ⟨s1,st,id,hI,hS,w0,⟨aj,rest,e4,hr,G⟩,hid,ahW,A,gA,e0,e1,e2⟩ n hn;have L4:N<=n:=by have:=hS.len;omega
 have aCC:=dZ hr;have aCD:st.length<=(dC t h).length-k:=by
  have:=po (t:=t) st.reverse;rw[A,List.length_reverse,amM]at this;exact this
 have H: ∀E,fX E .sl (.ref id aj 1 0 st.length false)=some (.int .i64 st.length):=λE=>rfl
 simp(disch:=omega) only[bO,go_sem,simprocAttr,afH,e4,H];refine⟨λhc=>?_,λhc=>?_⟩
 ·obtain⟨d,x,rfl⟩: ∃d x,st=d++[x]:=⟨st.dropLast,st.getLast (by rintro rfl;simp at hc),(List.dropLast_concat_getLast _).symm⟩;have hgx:=gA x (by simp);have hx:=fF hgx;have T: (d++[x]).length=d.length+1:=by simp
  have u: (dC t h).drop k=x:: ((kids t x).flatMap (dC t)++d.reverse.flatMap (dC t)):=by
   rw[<-A,List.reverse_append,amL];show(x:: []).flatMap (dC t)++_=_;rw[ara,List.flatMap_nil,agB,Tv hT x];rfl
  have TT:k< (dC t h).length:=by
   have:=ahX List.length u;rw[amM,agt]at this;omega
  have wB: (rJ t h)[k]?=some [.int .u32 (x:Nat)]:=by
   unfold rJ;rw[agA];have: (dC t h)[k]?=((dC t h).drop k)[0]?:=by rw[al0];rfl
   rw[this,u];rfl
  obtain⟨c,s2,W2,l,p1,p2,p3,p4,p5,p6⟩:=qL k _ s1 wB hI W1 hS.P hS.len R;have L:=hS.step p2 p3 p4 p5;have Gk: ∀i,i<N->V.row s1≠some i:=λi hi q=>by have:=hS.row _ q;omega
  have v0:W2[a]?=some (.box (aN t) none):=by rw[p3.2 a (by omega) TS (Gk _ (by omega))];exact w0
  have vr:W2[id]?=some (.row aj 1 b8 ((d++[x]).map hC++rest)):=by rw[p3.2 id (by omega) (λq=>by have:=o _ q;omega) ahW];exact hr
  have jR:Rd ⟨W1,R⟩ (.ref id aj 1 0 (d++[x]).length false) 1 ((d++[x]).map hC):=by
   have:=Gg (lo:=R) (c:=false) (n:=(d++[x]).length) hr (by simp) (λel g=>by
    rcases ae2.1 g with h|h
    ·obtain⟨x,_,rfl⟩:=ago.1 h;rfl
    ·exact G _ h)
   rwa[aop (by simp)]at this
  have hA:kg 1 (.ref id aj 1 0 (d.length+1) false) (.int .i64 (d.length:Nat))=some (.dn id aj d.length 0):=by
   have:=jR.bW (k:=.i64) (a:=(d.length:Nat));rw[T,aez (by omega)]at this;rw[this];simp[ef]
  have hL:cm Y ⟨W1,R⟩ false 1 (.dn id aj d.length 0)=some (.int .u32 (x:Nat)):=by
   have:=jR.cp (X:=Y) (j:=d.length) (off:=0) (n:=1) (agg:=false) (by simp);simp only[ef,alV]at this;rw[this,pH];simp
  have T1: ((d.length:Nat):Int)+1-1=(d.length:Nat):=by omega
  cases c
  ·obtain⟨M,Cz,q1,q2,q3,q4,q5⟩:=L.fin hV o (dM:=lo);simp only[go_sem,simprocAttr,T1,e0,T,hA,hL,p1,q1];exact⟨s2,M,Cz,rfl,q2,.inr p6,q3,q4,q5⟩
  ·obtain⟨kv,Jk,m,k1,⟨z,v,kid,rfl,Z⟩,k3⟩:=asZ t ht x hgx W2.length W2 rfl l;have hkn:=dZ Z;have kl:=ahn t x;have w:=vF U (ql (X:=X4) (f:=158) (p:=rH) rfl k1);have r1:=vF U<|up asM (as4 z v (W2++Jk) (kids t x) (by omega) m Z k3 l);rw[ae3]at w;have aCF:id≠z:=by have:=dZ vr;omega
   obtain⟨M,K⟩: ∃M,M=(W2++Jk).set z (.row v 1 b8 ((kids t x).reverse.map hC++m)):=⟨_,rfl⟩;rw[<-K]at r1;have Q:M[id]?=some (.row aj 1 b8 ((d++[x]).map hC++rest)):=by rw[K,acG (by omega)];exact bf vr
   have v03:M[a]?=some (.box (aN t) none):=by rw[K,acG (by have:=dZ v0;omega)];exact bf v0
   have g:Den.elems ⟨M,l⟩ 1 (.ref z v 1 0 (kids t x).length false)=some ((kids t x).reverse.map hC):=by
    have h3:M[z]?=some (.row v 1 b8 ((kids t x).reverse.map hC++m)):=by rw[K];exact ae1 hkn
    have:=(Gg (lo:=l) (c:=false) (n:=(kids t x).length) h3 (by simp) (λel g=>by
     rcases ae2.1 g with h|h
     ·obtain⟨x,_,rfl⟩:=ago.1 h;rfl
     ·exact k3 _ h)).eq
    rwa[aop (by simp)]at this
   have hS3:ko V N W (λi=>a<=i/\i<a+[ae.box (aN t) none,.box [.int .u32 (h:Nat)] none].length) s2 M l:=by
    rw[K];exact(L.push hV o Jk).set hV (λq=>by have:=o _ q;have:=L.len;omega) (λq=>by have:=hV.IT L.P q;omega) (.inr (by have:=L.len;omega))
   have wq:=ahR (id:=id) (aj:=aj) (n:=d.length+1) (i:=d.length) (by omega);have B:V.row s2≠some id:=by
    rcases p4 with q| ⟨r,q,hq⟩
    ·rw[q];exact ahW
    ·rw[q];intro e;cases e;omega
   have T2: ((d++(kids t x).reverse).reverse).flatMap (dC t)=(dC t h).drop (k+1):=by
    have:=ahX (List.drop 1) u;rw[ao5]at this;rw[this,List.reverse_append,List.reverse_reverse,amL];rfl
   have ah0: ∀y∈d++(kids t x).reverse,t.az y=true:=λy hy=>by
    rcases ae2.1 hy with h|h
    ·exact gA y (by simp[h])
    ·exact(gi ht.b).1 (LO (List.mem_reverse.1 h)).2.2
   by_cases hke:kids t x=[]
   ·have sf:=as7 (lo:=l) (n:=d.length) Q (by simp) (F _ (by omega));rw[hke]at g w r1 T2 ah0;simp only[am9,List.reverse_nil,avF]at g w r1;simp(disch:=omega) only[go_sem,simprocAttr,T1,e0,e1,e2,e4,T,hA,hL,p1,v0,w,r1,wq,g,sf];refine⟨TT,s2,d,id,p6,hS3,v03,⟨aj,[hC x]++rest,rfl,?_,?_⟩,hid,B,by simpa using T2,λy hy=>gA y (by simp[hy])⟩
    ·rw[Q];simp
    ·intro el g;rcases ae2.1 g with h|h
     ·rw[ae5.1 h];rfl
     ·exact G _ h
   ·have sf:=as6 (lo:=l) (n:=d.length) (ys:=(kids t x).reverse.map hC) Q (by simp) (λel g=>by obtain⟨x,_,rfl⟩:=ago.1 g;rfl) (bB (λ_=>rfl) _) (F _ (by simp;omega)) (by simpa using hke);simp(disch:=omega) only[go_sem,simprocAttr,T1,e0,e1,e2,e4,T,hA,hL,p1,v0,w,r1,wq,g,sf];refine⟨TT,s2,d++(kids t x).reverse,id,p6,?_,?_,⟨aj+1,[],?_,?_,λ_ h=>by cases h⟩,hid,B,T2,ah0⟩
    ·exact hS3.set hV (λq=>by have:=o _ q;omega) B (.inr (by omega))
    ·exact v03
    ·simp
    ·rw[ae1 (dZ Q)];have e:List.take d.length (List.map hC (d++[x])++rest)=List.map hC d:=by
      rw[agp,aev,aop (by simp)]
     rw[e,agp,agB]
 ·obtain⟨M,Cz,q1,q2,q3,q4,q5⟩:=hS.fin hV o (dM:=lo);have atc:st=[]:=by
   have:st.length=0:=by omega
   exact ajM.1 this
  subst atc;have L7:k=(rJ t h).length:=by
   rw[TZ];have:=ahX List.length A;rw[amM]at this;simp at this;omega
  simp only[go_sem,simprocAttr,q1];exact⟨s1,M,Cz,rfl,q2,.inl (L7 ▸ hI),q3,q4,q5⟩
def atd{X:Ctx}{a:List RV}{R:aX->Prop}{e:Env}{p:Nat}{b:lN}{H:List ae}{l:oN}:
  Bg X lo a R .ret ⟨e,p::b⟩ ⟨H,l⟩=match H[p]? with|some .fx=>Bg X lo a R .ret ⟨e,b⟩ ⟨H.set p .dead,l⟩|_=>False:=by
 simp only[Bg,dN];cases c:H[p]? with
 |none=>simp
 |some o=>cases o<;>simp[AS.set]
structure ASt where
 l:lN
 row:oN
def ah3(H:List ae)(N a k:Nat):YV ASt:=⟨λs W=>(∀i,i<N-> ¬(a<=i/\i<a+k)->W[i]?=H[i]?)/\SV N 1 b8 W s.row (s.l.map hC),ASt.row,λi=>i<N+1/\ ¬(a<=i/\i<a+k),N⟩
def ate{H:List ae}{N k:Nat}(h:a+k<=N): (ah3 H N a k).Ok where
 st:=λs W j ⟨g,c⟩ b=>by
  refine⟨λi d f=>?_,c.st (b _ (.inl ⟨aqS _,by omega⟩)) λi d=>b i (.inr d)⟩;rw[b i (.inl ⟨by omega,f⟩)];grind
 lt:=λs W r ⟨_,c⟩ e=>c.row e
def atf(g:AV)(xs:lN)(wB:xs.length<=40000000)(a:Nat)(G:List ae)(C:qH X4 g=true)(A:uM X4 g a G (xs.map hC))(N:Nat)(H:List ae)(hN:H.length=N)(E:a+G.length<=N)
  (hG: ∀i,i<G.length->H[a+i]?=G[i]?) (lo:oN):
  ∃v W ak,xo [.aq,g] ⟨H,lo⟩=some (.ret v ⟨W,ak⟩)/\aP N W v 1 b8 (xs.map hC)/\ (∀i,i<N-> ¬(a<=i/\i<a+G.length)->W[i]?=H[i]?)/\N<=W.length/\ (ak=lo\/ ∃j,N<=j/\ak=cM lo j):=by
 suffices hs: ∃m,xo [.aq,g] ⟨H,lo⟩=some m/\ (λm=> ∃v W ak,m=aX.ret v ⟨W,ak⟩/\aP N W v 1 b8 (xs.map hC)/\ (∀i,i<N-> ¬(a<=i/\i<a+G.length)->W[i]?=H[i]?)/\N<=W.length/\ (ak=lo\/ ∃j,N<=j/\ak=cM lo j)) m by
  obtain⟨m,h1,v,W,ak,rfl,h2⟩:=hs;exact⟨v,W,ak,h1,h2⟩
 refine wF (X:=X4) KT rfl λM I=>?_
 obtain rfl:M=N:=by omega
 have hb:=ahD (H:=H) (lo:=none) (tg:=none) (Rv.aq (sz:=1));simp only[go_sem,simprocAttr,KT,I,hb];obtain⟨W0,c⟩: ∃W0,W0=H++[ae.box [.aq] none]:=⟨_,rfl⟩;rw[<-c];have V:W0.length=M+1:=by rw[c];simp[I]
 have l:SV M 1 b8 W0 none []:=.inl ⟨rfl,rfl,by rw[c,dq I];rfl⟩;generalize d: ((((dj _).set 2 _).set 4 _).set 6 _)=e;have f:e 2= .ptr M 0:=by rw[<-d];rfl
 have Q: (ao.t 6).get e=g:=by rw[<-d];rfl
 clear d;refine PJ (ah3 H M a G.length) (ate E) (xs.map hC) a G W0 ⟨[],none⟩ (by rw[Q];exact C) (by rw[Q];exact A) (λi b=>?_) (by omega) (λi b=>⟨by have:=b.1;omega,b.2⟩) ⟨λi b o=>?_,l⟩ rfl
  (λj s=>s.l=xs.take j) (λ_ _=>False) rfl (λ_ _ h=>h.elim) ?_ ?_ (λ_ _ _ _ h=>h.elim)
 ·rw[c,acK (by omega)];exact hG i b
 ·rw[c,acK (by omega)]
 ·intro j y s S p;rw[agA,agj]at S;obtain⟨x,T,rfl⟩:=S;have hj:=(adN.1 T).1;refine⟨rfl,λW Y uP=>?_⟩;simp only[go_sem,simprocAttr,ij,hC];refine⟨[],by simp,λW2 TL F=>?_⟩;obtain⟨u,n⟩:=F;have wq:s.l.length<=40000000:=by
   have:s.l=xs.take j:=p;rw[this,agw];omega
  obtain⟨vv,v',W3,L,P,a1,a2,a3,a4,a5,Z,a7⟩:=n.append (bytes:=4) (el:=hC x) (by omega) (by omega) rfl rfl (by rw[ae3];unfold room;omega) none;have B:hC x=[.int .u32 (x:Nat)]:=rfl;rw[B]at a2;simp only[go_sem,simprocAttr,afG,f,a1,a2,a3,D8,agB];have k: ∀i,s.row=some i->M<i:=by
   intro i b;rcases n with⟨q,_⟩| ⟨id,aj,q,_,f,q3,q4⟩
   ·rw[q]at b;cases b
   ·rw[q]at b;cases b;exact f
  refine⟨⟨s.l++[x],P⟩,⟨λi b o=>?_,?_⟩,⟨by show W2.length<=L.length;omega,λi b hp hr=>?_⟩,.inr ⟨M,ae0 _,by omega,rfl,?_⟩,?_⟩
  ·show L[i]?=_;rw[Z i (by omega) (by omega) (λq=>by have:=k i q;omega)];exact u i b o
  ·show SV M 1 b8 L P ((s.l++[x]).map hC);rw[agp];exact a4
  ·have w: ¬(i<M+1/\ ¬(a<=i/\i<a+G.length)):=hp;exact Z i b (by rintro rfl;exact w ⟨by omega,by omega⟩) hr
  ·rcases a7 with q| ⟨q,t,f⟩
   ·exact .inl q
   ·exact .inr ⟨q,t,by omega⟩
  ·show s.l++[x]=xs.take (j+1);have:s.l=xs.take j:=p;rw[this,agu,T];rfl
 ·intro O W' ak p Y hl U om z;obtain⟨u,n⟩:=Y;have J:O.l=xs:=by
   have:O.l=xs.take (xs.map hC).length:=p;rw[this,ae3,agk]
  obtain⟨v,o1,R,o3,o4,_⟩:=n.own (N:=M) (ae0 _) (by intro el D;obtain⟨r,_,rfl⟩:=ago.1 D;rfl);rw[J]at R;have ho:aP M (W'.set W0.length .dead) v 1 b8 (xs.map hC):=by
   obtain⟨c1,K⟩:=R;refine⟨c1,?_⟩;rcases K with K| ⟨id,aj,d1,d2,d3⟩
   ·exact .inl K
   ·refine .inr ⟨id,aj,d1,d2,?_⟩;rw[acG];exact d3;rintro rfl;rw[U]at d3;cases d3
  simp only[go_sem,simprocAttr,f,o1,U,atd,sq];refine⟨v,_,_,rfl,ho,λi b o=>?_,by rw[agq];omega,?_⟩
  ·rw[acG (by omega)];exact u i b o
  ·rcases z with⟨rfl,_⟩| ⟨j,t,f,rfl⟩
   ·exact .inl rfl
   ·exact .inr ⟨j,t,rfl⟩
def atg(g:AV)(xs:lN)(c:xs.length<=40000000)(a:Nat)(G:List ae)(e:qH X4 g=true)(d:uM X4 g a G (xs.map hC))(N:Nat)(H:List ae)(s:H.length=N)(f:a+G.length<=N)
  (m: ∀i,i<G.length->H[a+i]?=G[i]?) (lo:oN):
  ∃v W ak,zY [g] ⟨H,lo⟩=some (.ret v ⟨W,ak⟩)/\aP N W v 1 b8 (xs.map hC)/\ (∀i,i<N-> ¬(a<=i/\i<a+G.length)->W[i]?=H[i]?)/\N<=W.length/\ (ak=lo\/ ∃j,N<=j/\ak=cM lo j):=by
 suffices r: ∃b,zY [g] ⟨H,lo⟩=some b/\ (λb=> ∃v W ak,b=aX.ret v ⟨W,ak⟩/\aP N W v 1 b8 (xs.map hC)/\ (∀i,i<N-> ¬(a<=i/\i<a+G.length)->W[i]?=H[i]?)/\N<=W.length/\ (ak=lo\/ ∃j,N<=j/\ak=cM lo j)) b by grind
 refine wF (X:=X5) KI rfl λM l=>?_
 obtain rfl:M=N:=by omega
 obtain⟨v,W,ak,e1,q,e3,o,n⟩:=atf g xs c a G e d M H l f m none;have h:D X5 (.fn (.func 156) [] []) [.aq,g] ⟨H,none⟩=some _:=ql (p:=xo) rfl e1;simp only[go_sem,simprocAttr,KI,h,sq];refine⟨v,W,_,rfl,q,e3,o,?_⟩;rcases n with rfl| ⟨j,k,rfl⟩
 ·exact .inl rfl
 ·exact .inr ⟨j,k,rfl⟩
def ath(t:aw)(q:bT t)(n:ca t)(h:Nat)(s:h<4294967296)(N:Nat)(H:List ae)(B:H.length=N)(lo:oN):
  ∃v J ak,Cy [.agg (aN t),.int .u32 h] ⟨H,lo⟩=some (.ret v ⟨H++J,ak⟩)/\aP N (H++J) v 1 b8 ((under t h).map hC)/\ (ak=lo\/ ∃j,N<=j/\ak=cM lo j):=by
 suffices A: ∃k,Cy [.agg (aN t),.int .u32 h] ⟨H,lo⟩=some k/\ (λk=> ∃v J ak,k=aX.ret v ⟨H++J,ak⟩/\aP N (H++J) v 1 b8 ((under t h).map hC)/\ (ak=lo\/ ∃j,N<=j/\ak=cM lo j)) k by grind
 refine wF (X:=X6) Ft rfl λM e=>?_
 obtain rfl:M=N:=by omega
 have a:=up ahP (eP t.b h s (H++[.box (aN t) none]) none);have l:Go.Proofs.YtcdeobefbpnfeaaGreatDoor.az t.b h=t.az h:=rfl;rw[l]at a;cases d:t.az h with
 |false=>
  rw[d]at a;simp only[go_sem,simprocAttr,Ft,e,a,sq,gu];refine⟨_,_,_,rfl,?_,.inl rfl⟩;unfold under;rw[d];exact aP.aq
 |true=>
  rw[d]at a;have hu:under t h=dC t h:=by unfold under;rw[aez d];rfl
  obtain⟨H1,b⟩: ∃H1,H1=H++[ae.box (aN t) none,.box (aN t) none,.box [.int .u32 h] none]:=⟨_,rfl⟩;have o:=up ahP (TY t h (M+1) (H++[.box (aN t) none]) (by simp[e]) none);have f:H1.length=M+3:=by rw[b];simp[e]
  have m: ∀i,i<2->H1[M+1+i]?=[ae.box (aN t) none,.box [.int .u32 h] none][i]?:=λi r=>by
   rw[b,ags (by omega),show M+1+i-H.length=i+1 by omega];rfl
  obtain⟨v,W,ak,y,x,w,C,u⟩:=atg (.fn (.func 157) [] [.ptr (M+1+1) 0,.ptr (M+1) 0]) (dC t h) (by have:=Tx n h;omega) (M+1) [.box (aN t) none,.box [.int .u32 h] none] rfl (T0 ⟨rfl,rfl,rfl,λ_=>.inl rfl⟩ t q n h d (M+1)) (M+3) H1 f (by simp) m none;have g:D X6 (.fn (.func 108) [] []) [.fn (.func 157) [] [.ptr (M+1+1) 0,.ptr (M+1) 0]] ⟨H1,none⟩=some _:=ql (p:=zY) rfl y;have c:W=H++W.drop M:=by
   have:W.take M=H:=lL e λi r=>by
    rw[w i (by omega) (by omega),b,acK (by omega)]
   rw[<-this];simp
  rw[b]at g;simp only[aev,ahY,ah1]at o;simp only[go_sem,simprocAttr,Ft,e,a,o,g,sq];refine⟨v,W.drop M,_,dk rfl c,?_,?_⟩
  ·rw[<-c,hu];exact aP.le x (by omega)
  ·rcases u with rfl| ⟨j,z,rfl⟩
   ·exact .inl rfl
   ·exact .inr ⟨j,by omega,rfl⟩
def aP.mX{N:Nat}{H:List ae}{ty:TypeId}(h:aP N H v sz ty af){p:Nat}{cs:lA}{tg:Option TypeId}(b:H[p]?=some (.box cs tg)){o:ae}:aP N (H.set p o) v sz ty af:=by
 obtain⟨a,c⟩:=h;refine⟨a,?_⟩
 grind
def iZ{N:Nat}{H:List ae}{ty:TypeId}{g:α->lA}(h:aP N H v sz ty (l.map g))(lo:oN):Rd ⟨H,lo⟩ v sz (l.map g):=h.rd
def Gl(t:aw)(a:bT t)(c:ca t)(h:Nat)(b:h<4294967296)(N:Nat)(H:List ae)(d:H.length=N)(lo:oN):
  ∃v J ak,D X (.fn (.func 73) [] []) [.agg (aN t),.int .u32 h] ⟨H,lo⟩=some (.ret v ⟨H++J,ak⟩)/\aP N (H++J) v 1 b8 ((under t h).map hC)/\ (ak=lo\/ ∃j,N<=j/\ak=cM lo j):=by
 obtain⟨v,J,ak,f,e⟩:=ath t a c h b N H d lo;exact⟨v,J,ak,ql (p:=Cy) rfl f,e⟩
def eA.of{N:Nat}(h:ak=Option.none\/ ∃j,N<=j/\ak=cM Option.none j):eA N ak:=by trivial
def eA.le{N M:Nat}(h:eA N lo)(a:M<=N):eA M lo:=by
 rcases h with h| ⟨j,q,e⟩
 ·exact .inl h
 ·exact .inr ⟨j,by omega,e⟩
def L8{t:aw}(b:bT t)(a:x∈under t h):t.az x=true:=by
 unfold under at a;split at a
 ·rename_i c;exact Cf b.b c a
 grind
def z5{t:aw}(a:ca t)(h:Nat): (under t h).length<=39135393:=by
 unfold under;split
 ·exact Tx a h
 ·simp
def ati:gj dR:=⟨by trivial,by trivial,by trivial,by simp[dR],by trivial,by trivial⟩
def bT.drop{t:aw}(a:bT t)(h:Nat):bT (lr t h).1:=by
 unfold lr;split
 ·refine⟨F8 a.b h,λi=>?_⟩;show gj (au t.r (aR h) dR i);by_cases e:i=aR h
  ·rw[e,cw];exact ati
  ·rw[cR e];exact a.r i
 omega
def kN(t:aw)(l:lN):aw:=l.foldl (λt x=>(lr t x).1) t
theorem ah4{t:aw}(a:bT t): ∀l:lN,bT (kN t l)
 | []=>a
 |x::xs=>ah4 (a.drop x) xs
def atj{t:aw}{l:lN}{k:Nat}(h:k<l.length):kN t (l.take (k+1))=(lr (kN t (l.take k)) (l.getD k default)).1:=by
 unfold kN;rw[agu,adQ h,amG,getD_eq h];rfl
def iG{N:Nat}{H:List ae}(b:eA N ak)(a:v.refs<=N):finish N lo v ⟨H,ak⟩=(v,⟨H.take N,lo⟩):=uO b ((Fz.low (d:=11) a))
def Gm{N:Nat}{H:List ae}{ty:TypeId}(b:eA N ak)(h:aP N H v sz ty af)(a:cb af<=N):finish N lo v ⟨H,ak⟩=(bD v af,⟨H.take N,lo⟩):=
 uO b ((Fz.own (d:=8) h a))
def ah5{N:Nat}{a b:AV}{H:List ae}{ty:TypeId}(e:eA N ak)(h:aP N H v sz ty af)(c:cb af<=N)(g:a.refs<=N)(f:b.refs<=N):
  finish N lo (.ax [a,v,b]) ⟨H,ak⟩=(.ax [a,bD v af,b],⟨H.take N,lo⟩):=
 uO e (Fz.ax (d:=11) (il.cons ((Fz.low (d:=0) g).mono (by omega)) (il.cons ((Fz.own (d:=0) h c).mono (by omega)) (il.cons ((Fz.low (d:=0) f).mono (by omega)) il.nil))))
def atk(t:aw)(y:bT t)(I:ca t)(h:Nat)(P:h<4294967296)(H:List ae)(lo:oN):
  ∃w,D X (.fn (.func 311) [] []) [.agg (aN t),.int .u32 h] ⟨H,lo⟩=some (.ret (.ax [.agg (aN (me t h).1),w,.int .i64 (me t h).2.2]) ⟨H,lo⟩):=by
 suffices O: ∃l,D X (.fn (.func 311) [] []) [.agg (aN t),.int .u32 h] ⟨H,lo⟩=some l/\ (λl=> ∃w,l=aX.ret (.ax [.agg (aN (me t h).1),w,.int .i64 (me t h).2.2]) ⟨H,lo⟩) l by
  obtain⟨l,R,w,rfl⟩:=O;exact⟨w,R⟩
 refine cA Lr λN d=>?_
 obtain⟨v,J,x,r,q,C⟩:=Gl t y I h P (N+2) (H++[.box (aN t) none,.box k9 none]) (by simp[d]) none;have M:=z5 I h;have a:=(iZ q x).bJ;obtain⟨W0,b⟩: ∃W0,W0=H++[ae.box (aN t) none,.box k9 none]++J:=⟨_,rfl⟩;have w0:W0[N]?=some (.box (aN t) none):=by rw[b,aev,dq d];rfl
 have w1:W0[N+1]?=some (.box k9 none):=by rw[b,aev,bA d];rfl
 have c:iR N H W0:=by rw[b,aev];exact iR.app d
 rw[<-b]at r q a;by_cases he:under t h=[]
 ·have e1:me t h=(t,[],4):=by unfold me;rw[aez he]
  have B: ((under t h).length:Int)=0:=by rw[he];rfl
  rw[e1];simp only[go_sem,simprocAttr,Lr,d,r,a,B,w0,w1,cV,cQ w1];rw[iG (eA.le (eA.of C) (by omega)) ?_]
  ·exact⟨_,dk rfl ((c.set (by omega)).take d)⟩
  ·simp[AV.refs,aI,xc]
 ·have B: ¬((under t h).length:Int)=0:=by
    have:=azW.2 he;omega
  simp only[go_sem,simprocAttr,Lr,d,r,a,B];refine gE (under t h).length (λk e p ak=>iR N H p/\p[N]?=some (.box (aN (kN t ((under t h).take k))) none)/\p[N+1]?=some (.box k9 none)/\aP (N+2) p v 1 b8 ((under t h).map hC)/\eA (N+2) ak/\
   e 2= .ptr N 0/\e 4= .ptr (N+1) 0/\e 7=v/\e 17=v/\e 18= .int .i64 (under t h).length/\e 19= .int .i64 k) 0 (by omega) ?_ ?_
  ·simp only[go_sem,simprocAttr];exact⟨c,w0,w1,q,eA.of C⟩
  rintro k U e S u ⟨F,o,m,s,E,L,K,e7,j,i,g⟩ n T;have A:=ah4 y ((under t h).take k);simp only[bO,go_sem,simprocAttr,af7,L,j,i,g];refine⟨λQ=>?_,λQ=>?_⟩
  ·have f:k< (under t h).length:=by omega
   have G:=iZ s u;have z:=λH lo=>up dw<|asp (kN t ((under t h).take k)) A ((under t h).getD k default) (fF (L8 y (dY f))) H lo
   simp(disch:=omega) only[go_sem,simprocAttr,G.bW,G.cp,↓pH,o,z,TD,L,K,e7,j,i,g,<-atj f];exact⟨by omega,f,F.set (by omega),cQ o,m,aP.mX s o,E⟩
  ·simp only[go_sem,simprocAttr,o,m,K,e7,cV,cQ m];obtain rfl:k=(under t h).length:=by omega
   have ho:aP N (S.set (N+1) (ae.box (aN (kN t ((under t h).take (under t h).length))) none)) v 1 b8 ((under t h).map hC):=aP.mX (aP.le s (by omega)) m;rw[ah5 (eA.le E (by omega)) ho ?_ ?_ ?_]
   ·refine⟨bD v ((under t h).map hC),dk ?_ ((F.set (by omega)).take d)⟩;unfold me;rw[aeu he,agk];rfl
   ·rw[bB (λ_=>rfl)];omega
   ·simp[AV.refs,xc]
   ·simp[AV.refs]
def RB(l:List aD):Prop:=l.length<=100/\ ∀x∈l,x.1<4294967296/\x.2<4294967296
def L9{l:List aD}{k:Nat}(h:k<l.length):aL (l.take (k+1))=aL (l.take k)+(l.getD k default).2:=by
 unfold aL;rw[agu,adQ h,agp,List.sum_append,agn,adQ h];simp
def atl{l:List aD}(h: ∀x∈l,x.2<4294967296):aL l<=l.length*4294967296:=by
 exact Tw (λx:aD=>x.2) 4294967296 l λx a=>Nat.le_of_lt (h x a)
def RB.bd{l:List aD}(h:RB l)(k:Nat):aL (l.take k)<=429496729600:=by
 have c:=atl (l:=l.take k) λx a=>(h.2 x (ahZ a)).2
 have b: (l.take k).length<=100:=by have:=h.1;grind
 omega
def RB.je{l:List aD}(h:RB l):aL l<=429496729600:=by
 have:=h.bd l.length;grind
def xp(l:List aD):List lA:=(List.range l.length).map λi=>[.int .i64 (32*aL (l.take i):Nat),.agg (aA (l.getD i default))]
def Gn(l:List aD): (xp l).length=l.length:=by simp[xp]
def T3{l:List aD}(h:j<l.length): (xp l)[j]?=some [.int .i64 (32*aL (l.take j):Nat),.agg (aA (l.getD j default))]:=by
 unfold xp;grind
def ah6(v:AV)(n:Nat)(b:v.refs=0)(N:Nat)(H:List ae)(c:H.length=N)(lo:oN):D X0 (.fn (.func 224) [] []) [.agg [v,.int .i64 n]] ⟨H,lo⟩=some (.ret (.fn (.func 227) [] [.ptr N 0]) ⟨H++[.box [v,.int .i64 n] none],lo⟩):=by
 refine aH RZ λM a=>?_
 obtain rfl:M=N:=by omega
 simp only[go_sem,simprocAttr,RZ,a];rw[zX (by omega)]
def ah7(v:AV)(z:Nat)(l:List aD)(E:Rv v 2 (l.map aA))(H:RB l)(a:Nat):
  uM X0 (.fn (.func 227) [] [.ptr a 0]) a [.box [v,.int .i64 z] none] (xp l):=by
 intro S V y I J b A t F W s hP h0 uP j hG lo;have L0:=H.1;have f: ∀i,V.cH i->i<b:=λi hi=>(t i hi).1
 suffices h: ∃x,D X0 (.fn (.func 227) [] [.ptr a 0]) [y] ⟨W,lo⟩=some x/\
   (λx=> ∃d m ak,x=aX.ret (.ax []) ⟨m,ak⟩/\V.P d m/\ (I (xp l).length d\/J d)/\b<=m.length/\
     (∀i,i<b-> ¬V.cH i-> ¬(a<=i/\i<a+[ae.box [v,.int .i64 z] none].length)->m[i]?=W[i]?)/\k7 V.c b lo ak none (V.row d)) x by
  obtain⟨x,h1,d,m,ak,rfl,q1,q2,Z,Y,X⟩:=h;exact⟨d,m,ak,h1,q1,q2,Z,Y,X⟩
 refine uf R3 rfl rfl rfl λN hN=>?_
 obtain rfl:N=b:=by omega
 have u:W[a]?=some (.box [v,.int .i64 z] none):=hG 0 (by simp);simp only[go_sem,simprocAttr,R3,u,E.bJ];refine gE l.length (λk e m ak=> ∃d,I k d/\ko V N W (λi=>a<=i/\i<a+[ae.box [v,.int .i64 z] none].length) d m ak/\e 0=y/\e 3= .int .i64 (32*aL (l.take k):Nat)/\e 7=v/\e 8= .int .i64 l.length/\e 9= .int .i64 k) 0 (by omega) ?_ ?_
 ·simp only[go_sem,simprocAttr];exact⟨s,h0,⟨hP,by omega,λ_ _ _ _=>rfl,.inl ⟨rfl,j⟩,λr e=>by rw[j]at e;cases e⟩,by simp[aL]⟩
 rintro k hk e W1 C ⟨s1,Q,B,T,e3,e7,e8,R⟩ n P;simp only[bO,go_sem,simprocAttr,afX,e7,e8,R];refine⟨λh=>?_,λh=>?_⟩
 ·have g:k<l.length:=by omega
  have uN:=H.2 _ (dY g);have hpg:=H.bd k;have HL:=L9 g;have hx:=T3 g;generalize G:l.getD k default=r at*;have p:=B.push A f [.box (aA r) none];obtain⟨c,s2,W2,mW,O,p2,M,p4,p5,L⟩:=F k _ s1 hx Q (W1++[.box (aA r) none]) p.P p.len C;have w:=p.step p2 M p4 p5;have L4:N<=n:=by have:=B.len;omega
  have U:W2[n]?=some (.box (aA r) none):=by
   rw[M.2 n (by simp;omega) (λq=>by have:=f _ q;omega) (λq=>by have:=A.IT B.P q;omega)];rw[<-P];simp
  simp(disch:=omega) only[go_sem,simprocAttr,E.bW,E.cp,h,P,T,e3,G];cases c
  ·obtain⟨K,o,f1,f2,f3,f4,f5⟩:=w.fin A f (dM:=lo);simp only[go_sem,simprocAttr,O,f1];exact⟨s2,K,o,rfl,f2,.inr L,f3,f4,f5⟩
  ·simp(disch:=omega) only[go_sem,simprocAttr,T,e3,e7,e8,R,O,U];exact⟨g,s2,L,w,ahX _ (by omega)⟩
 ·obtain⟨K,o,f1,f2,f3,f4,f5⟩:=B.fin A f (dM:=lo);simp only[go_sem,simprocAttr,f1];exact⟨s1,K,o,rfl,f2,.inl (by rw[Gn,show l.length=k by omega];exact Q),f3,f4,f5⟩
theorem Ma{r:aD}:aJ [AV.int .i64 0,.int .i64 0] 0 (aA r)=aA r:=rfl
def Mb(v:AV)(n:Nat)(l:List aD)(w:Rv v 2 (l.map aA))(g:RB l)(H:List ae)(lo:oN):
  D X0 (.fn (.func 279) [] []) [.agg [v,.int .i64 n]] ⟨H,lo⟩=some (.ret (.int .i64 (aL l:Nat)) ⟨H,lo⟩):=by
 refine aH Sl λN u=>?_
 have d:v.refs=0:=cL w (bB (λ_=>rfl) l);have F:=ah6 v n d (N+2) (H++[.box [v,.int .i64 n] none,.box [.int .i64 0] none]) (by grind) none;simp only[go_sem,simprocAttr,Sl,u,F];refine wG (S:=Nat) (λe=>e 3= .ptr (N+1) 0) (by rfl) (xp l) u [.box [v,.int .i64 n] none] (λm=>[.box [v,.int .i64 n] none,.box [.int .i64 (m:Nat)] none]) (nB:=2) (λ_=>rfl) 0 (λj s=>s=aL (l.take j)) (λ_ _=>False) rfl ?_ (by simp) (by rfl) (λ_ _ h=>h.elim) ?_ ?_ ?_
 ·exact ah7 v n l w g (N+2)
 ·rintro e he j x s c rfl;have k:j<l.length:=by
   have:=(adN.1 c).1;rwa[Gn]at this
  rw[T3 k]at c;cases c;have y:=g.2 _ (dY k);have z:=g.bd j;have f:=L9 k;refine⟨rfl,λW I C A q=>?_⟩;simp only[go_sem,simprocAttr,ij,C,Ma];refine⟨[.box (aA (l.getD j default)) none],rfl,λG t b=>?_⟩;simp only[eK,eJ,alS,agr]at b;obtain⟨w0,w1⟩:=b;have f1: ∀L,(G++L)[N+1]?=some (.box [.int .i64 (aL (l.take j):Nat)] none):=λL=>bf w1
  simp(disch:=omega) only[go_sem,simprocAttr,af3,he,f1,t,oq];refine⟨aL (l.take (j+1)),?_,by omega,λi K B=>?_,rfl⟩
  ·simp only[eK,eJ,alS,agr];refine⟨by rw[acG (by omega)];exact bf w0,?_⟩;rw[ae1 (by simp;omega),f,anc]
  ·rw[acG (by omega),acK (by omega)]
 ·rintro e he s W p J rfl a q E;simp only[eK,eJ,alS,agr]at q;obtain⟨w0,w1⟩:=q;have r: ∀o,(W.set p o).take N=H:=λo=>(a.set (by omega)).take u
  simp only[F1,go_sem,simprocAttr,he,w1,E,lK,r];rw[Gn,agk]
 grind
def iC(n:Nat):lA:=[.int .i64 n]
theorem pI:Den.part false 1 (iC n) 0=some (.int .i64 n):=rfl
def atn(v:AV)(l:lN)(b:Rv v 1 (l.map iC))(q:l.length<2^40)(x:Nat)(H:List ae)(lo:oN):
  D X0 (.fn (.func 347) [] []) [v,.int .i64 x] ⟨H,lo⟩=some (.ret (.int .i64 (kM (λy=>decide (x=y)) l)) ⟨H,lo⟩):=by
 refine aH SR λN t=>?_
 simp only[go_sem,simprocAttr,SR,b.bJ];refine dQ l.length (λk e H'=>H'=H/\e 0=v/\e 1= .int .i64 x/\e 7= .int .i64 l.length/\e 8= .int .i64 k/\ ∀j,j<k->decide (x=l.getD j default)=false) 0 (by omega) ?_ ?_
 ·simp only[go_sem,simprocAttr];omega
 ·rintro k r e H' ⟨rfl,o,m,i,g,f⟩ n p;simp(disch:=omega) only[bO,F1,go_sem,simprocAttr,age,o,m,i,g];refine⟨λh=>?_,λh=>?_⟩
  ·have c:k<l.length:=by omega
   by_cases d:x=l.getD k default
   ·have a: ((x:Nat):Int)=((l.getD k default:Nat):Int):=by rw[<-d]
    simp(disch:=omega) only[F1,go_sem,simprocAttr,b.bW,b.cp,↓pI,a];rw[zV c f (aeD d)];exact⟨by omega,rfl⟩
   ·have a: ¬((x:Nat):Int)=((l.getD k default:Nat):Int):=by omega
    simp(disch:=omega) only[go_sem,simprocAttr,b.bW,b.cp,↓pI,a,o,m,i,g];exact⟨by omega,c,nF f (aeC d)⟩
  ·rw[zW (λj s=>f j (by omega))]
def ato(v:AV)(l:lN)(a:Rv v 1 (l.map iC))(b:l.length<2^40)(x:Nat)(H:List ae)(lo:oN):
  D X0 (.fn (.func 338) [] []) [v,.int .i64 x] ⟨H,lo⟩=some (.ret (.bool (l.contains x)) ⟨H,lo⟩):=by
 refine aH SN λN c=>?_
 simp only[F1,go_sem,simprocAttr,SN,atn v l a b x,zU]
 grind
def ah8(a b:Nat)(h:a<2147483648)(g:b<2147483648)(H:List ae)(lo:oN):
  D X0 (.fn (.func 306) [] []) [.int .i64 a,.int .i64 b] ⟨H,lo⟩=some (.ret (.bool (isObj a b)) ⟨H,lo⟩):=by
 refine aH FW λN f=>?_
 have e:=ato (.sl [[.int .i64 1],[.int .i64 2],[.int .i64 4],[.int .i64 8]] true) [1,2,4,8] (.sl (by simp)) (by simp) b H none;by_cases c: (a:Int)>=1
 ·by_cases d: (a:Int)<=128
  ·simp only[F1,go_sem,simprocAttr,FW,c,d,e];unfold isObj
   grind
  ·simp(disch:=omega) only[F1,go_sem,simprocAttr,FW,c,d];refine dk (ahX AV.bool ?_) rfl;unfold isObj;rw[aeC (by omega: ¬a<=128)];simp
 ·simp(disch:=omega) only[F1,go_sem,simprocAttr,FW,c];refine dk (ahX AV.bool ?_) rfl;unfold isObj;rw[aeC (by omega: ¬1<=a)];simp
theorem Gp: ∀ (l:List aD) (x:aD) (put:Bool) (out a:List aD),x.1+x.2<=64->(∀y∈l,y.1+y.2<=64)->(∀y∈out,y.1+y.2<=64)->iz x put out l=some a->
  (∀y∈a,y.1+y.2<=64)/\a.length<=out.length+l.length+(if put then 0 else 1)
 | [],x,put,out,a,e,_,ho,h=>by
   unfold iz at h
   grind
 |y::ys,x,put,out,a,e,g,ho,h=>by
  have i:=g y (alc ..);have b: ∀z∈ys,z.1+z.2<=64:=λz d=>g z (agE _ d)
  unfold iz at h;split at h
  ·obtain⟨c,f⟩:=Gp ys x put _ a e b (λz d=>by grind) h
   grind
  ·split at h
   ·obtain⟨c,f⟩:=Gp ys x true _ a e b (λz d=>by
      rcases ae2.1 d with h|h
      ·rcases ae2.1 h with h|h
       ·exact ho z h
       ·cases put
        ·simp only[agm,ajc]at h;rw[ae5.1 h];exact e
        ·simp at h
      ·rw[ae5.1 h];exact i) h
    refine⟨c,?_⟩;cases put<;>simp only[aeZ,agt,am9,ahJ,ajc,agm]at f⊢ <;>omega
   ·split at h
    ·obtain⟨c,f⟩:=Gp ys _ put out a (by simp;omega) b ho h;exact⟨c,by simp only[agt];omega⟩
    ·split at h
     ·obtain⟨c,f⟩:=Gp ys _ put out a (by simp;omega) b ho h;exact⟨c,by simp only[agt];omega⟩
     ·cases h
def atp{x:aD}(h:lq x=true):1<=x.2/\x.1+x.2<=64:=by
 unfold lq at h;grind
def atq{l a:List aD}{x:aD}(b: ∀y∈l,y.1+y.2<=64)(h:iW l x=some a): (∀y∈a,y.1+y.2<=64)/\a.length<=l.length+1:=by
 unfold iW at h;split at h
 ·rename_i hm;have:=Gp l x false [] a (atp hm).2 b (by simp) h
  grind
 grind
theorem Mc: ∀ (a b all:List aD),mN all (a++b)=(mN all a).bind λm=>mN m b
 | [],b,all=>rfl
 |x::a,b,all=>by
  simp only[ahY,mN];cases iW all x with
  |none=>rfl
  |some m=>exact Mc a b m
def atr{l:List aD}{k:Nat}(h:k<l.length)(a:List aD):mN a (l.take (k+1))=(mN a (l.take k)).bind λm=>iW m (l.getD k default):=by
 rw[agu,adQ h,Mc,agn,adQ h];simp only[Option.toList_some,mN,ala]
 grind
def ats{l:List aD}{k:Nat}{a:List aD}(h:mN a (l.take k)=none):mN a l=none:=by grind [List.take_append_drop,Mc]
def ah9(v:AV)(n:Nat)(l:List aD)(w:n<4294967296)(g:Rv v 2 (l.map aA))(s:RB l)(C:l.length<=65)(H:List ae)(lo:oN):
  D X0 (.fn (.func 244) [] []) [.agg [v,.int .i64 n]] ⟨H,lo⟩=some (.ret (.bool (qd l n)) ⟨H,lo⟩):=by
 refine aH R5 λN E=>?_
 have r:=Mb v n l g s;have B:=s.je;simp only[go_sem,simprocAttr,R5,E,g.bJ];refine dQ l.length (λk e H'=> ∃J A,H'=cat H (.box [v,.int .i64 n] none:: .box [ek A] none::J)/\mN [] (l.take k)=some A/\A.length<=k/\ (∀x∈A,x.1+x.2<=64)/\e 1= .ptr N 0/\e 3= .ptr (N+1) 0/\e 9=v/\e 10= .int .i64 l.length/\e 11= .int .i64 k) 0 (by omega) ?_ ?_
 ·simp only[go_sem,simprocAttr];exact⟨[],[],fz.symm,by simp[mN],by simp,by simp⟩
 rintro k I e H' ⟨J,A,rfl,t,F,o,e1,e3,y,q,p⟩ z w;have d: ∀a b,(cat H (a::b::J)).length=z:=λ_ _=>by rw[<-w,LB,LB];rfl
 simp(disch:=omega) only[bO,go_sem,simprocAttr,afY,e1,y,q,p];refine⟨λh=>?_,λh=>?_⟩
 ·have f:k<l.length:=by omega
  have i:=s.2 _ (dY f);have j:=ahI (ek A) A (mM A) ⟨by omega,o⟩ (l.getD k default) i.1 i.2;have c:=atr f [];rw[t]at c;simp only[ao2]at c;cases m:iW A (l.getD k default)with
  |none=>
   rw[m]at c;have u:qd l n=false:=by unfold qd;rw[ats c];rfl
   simp(disch:=first|omega|apply d) only[F1,go_sem,simprocAttr,g.bW,g.cp,h,d,e3,Ma,j,qj,m,u,Te]
  |some A'=>
   rw[m]at c;obtain⟨G,K⟩:=atq o m;simp(disch:=first|omega|apply d) only[go_sem,simprocAttr,g.bW,g.cp,h,d,e1,e3,y,q,p,Ma,j,qj,m,Te];exact⟨f,_,A',S8,c,by omega,G⟩
 ·obtain rfl:k=l.length:=by omega
  rw[agk]at t;have u:qd l n=decide (n<=aL l*32):=by unfold qd;rw[t];rfl
  simp(disch:=first|omega|apply d) only[F1,go_sem,simprocAttr,r];rw[u];exact dk (ahX AV.bool (agv.2 (by omega))) rfl
def att(a k:Nat)(e:a<4611686018427387904)(g:k<=3): (BitVec.ofInt 64 (a:Int)&&& ~~~ (BitVec.ofInt 64 ((2^k:Nat)-1:Int))).toNat=a/2^k*2^k:=by
 have e1:BitVec.ofInt 64 (a:Int)=BitVec.ofNat 64 a:=by simp
 have f:BitVec.ofInt 64 ((2^k:Nat)-1:Int)=BitVec.ofNat 64 (2^k-1):=by
  have: ((2^k:Nat)-1:Int)=((2^k-1:Nat):Int):=by
   have:=Nat.pow_pos (n:=k) (show 0<2 by omega);omega
  rw[this];simp
 rw[e1,f];apply Nat.eq_of_testBit_eq;intro i;rw[<-Nat.shiftLeft_eq,Nat.testBit_shiftLeft,Nat.testBit_div_two_pow,BitVec.testBit_toNat,BitVec.getLsbD_and,BitVec.getLsbD_not,BitVec.getLsbD_ofNat,BitVec.getLsbD_ofNat,Nat.testBit_two_pow_sub_one];by_cases b:i<64
 ·by_cases c:i<k
  ·simp[b,c];intro d;omega
  ·simp[b,c,show k<=i by omega,show i-k+k=i by omega]
 ·have:a.testBit i=false:=Nat.testBit_lt_two_pow (aie e (by
    have: (4611686018427387904:Nat)=2^62:=by decide
    rw[this];exact Nat.pow_le_pow_right (by omega) (by omega)))
  by_cases c:k<=i
  ·simp[b,c,show i-k+k=i by omega,this]
  ·simp[b,c]
def atu(f:a<4611686018427387904)(h: [1,2,4,8].contains b=true):dp .andNot (.int .i64 (a:Nat)) (.int .i64 ((b:Nat)-1))=some (.int .i64 (a/b*b:Nat)):=by
 have c: ∀k,k<=3->b=2^k->dp .andNot (.int .i64 (a:Nat)) (.int .i64 ((b:Nat)-1))=some (.int .i64 (a/b*b:Nat)):=by
  intro k d e;subst e;rw[O6];have e3:=att a k f d;have g: (BitVec.ofInt IntKind.i64.bits (a:Int)&&& ~~~ (BitVec.ofInt IntKind.i64.bits ((2^k:Nat)-1:Int))).toNat=a/2^k*2^k:=e3;rw[g];have i:a/2^k*2^k<=a:=Nat.div_mul_le_self a _;rw[wrap_i64 (by omega) (by omega)]
 have:b=1\/b=2\/b=4\/b=8:=by grind
 rcases this with e|e|e|e
 ·exact c 0 (by omega) e
 ·exact c 1 (by omega) e
 ·exact c 2 (by omega) e
 ·exact c 3 (by omega) e
def atv(h:isObj b a=true):1<=b/\b<=128/\ [1,2,4,8].contains a=true/\1<=a/\a<=8:=by
 unfold isObj at h
 grind
def xq(l:List aD)(n b a:Nat):AV:=.ax [.int .i64 ((hZ l n b a).getD 0:Nat),.bool (hZ l n b a).isSome]
def aia(v:AV)(n:Nat)(l:List aD)(y:n<4294967296)(o:Rv v 2 (l.map aA))(j:RB l)(c b:Nat)(s:c<2147483648)(r:b<2147483648)(H:List ae)(lo:oN):
  D X0 (.fn (.func 278) [] []) [.agg [v,.int .i64 n],.int .i64 c,.int .i64 b] ⟨H,lo⟩=some (.ret (xq l n c b) ⟨H,lo⟩):=by
 refine aH FR λN i=>?_
 have h:=Mb v n l o j;have p:=j.je;have ho:=ah8 c b s r;cases d:isObj c b with
 |false=>
  have e:hZ l n c b=none:=by unfold hZ;rw[d];rfl
  simp only[F1,go_sem,simprocAttr,FR,i,ho,d,xq,e]
 |true=>
  obtain⟨x,w,m,u,t⟩:=atv d;have g:D X0 (.fn (.func 307) [] [.ptr (N+1) 0]) [.int .i64 n] ⟨H++[.box [v,.int .i64 n] none,.box [.int .i64 b] none],none⟩=some (.ret (.int .i64 ((n+b-1)/b*b:Nat)) ⟨H++[.box [v,.int .i64 n] none,.box [.int .i64 b] none],none⟩):=by
   refine fj Sv λM A=>?_
   have e1: (n:Int)+b-1=((n+b-1:Nat):Int):=by omega
   simp(disch:=omega) only[F1,go_sem,simprocAttr,Sv,e1,atu (a:=n+b-1) (by omega) m]
  have z: (n+b-1)/b*b<=n+b-1:=Nat.div_mul_le_self _ _;have e:hZ l n c b=if(n+b-1)/b*b+c<=aL l*32 then some ((n+b-1)/b*b)else none:=by unfold hZ;rw[d];rfl
  generalize q: (n+b-1)/b*b=at' at*;by_cases k:at'+c<=aL l*32
  ·have f: ¬(at':Int)+c>aL l*32:=by omega
   rw[aez k]at e;simp(disch:=omega) only[F1,go_sem,simprocAttr,FR,i,ho,d,g,h,f,xq,e]
  ·have f: (at':Int)+c>aL l*32:=by omega
   rw[aeu k]at e;simp(disch:=omega) only[F1,go_sem,simprocAttr,FR,i,ho,d,g,h,f,xq,e]
def vG(l:List aD)(n b c:Nat):Nat:=match hZ l n b c with|some a=>a+b|none=>n
def aib(v:AV)(n:Nat)(l:List aD)(k:n<4294967296)(f:Rv v 2 (l.map aA))(g:RB l)(c b:Nat)(o:c<2147483648)(m:b<2147483648)(H:List ae)(lo:oN):
  D X0 (.fn (.func 281) [] []) [.agg [v,.int .i64 n],.int .i64 c,.int .i64 b] ⟨H,lo⟩=some (.ret (.ax [.agg [v,.int .i64 (vG l n c b:Nat)],.int .i64 ((hZ l n c b).getD 0:Nat),.bool (hZ l n c b).isSome]) ⟨H,lo⟩):=by
 refine aH Lg λN i=>?_
 have h:=aia v n l k f g c b o m;have d:v.refs=0:=cL f (bB (λ_=>rfl) l);have j:=g.je;cases e:hZ l n c b with
 |none=>simp only[F1,go_sem,simprocAttr,Lg,i,h,xq,e,vG,d]
 |some a=>
  have p:a<=20000000000000:=by
   unfold hZ at e
   grind
  simp(disch:=omega) only[F1,go_sem,simprocAttr,Lg,i,h,xq,e,vG,d,anc]
def atw(a b:Nat)(f:a<2147483648)(d:b<2147483648)(H:List ae)(lo:oN):
  D X0 (.fn (.func 276) [] []) [.int .i64 a,.int .i64 b] ⟨H,lo⟩=some (.ret (.ax [.int .i64 ((qg a b).getD 0:Nat),.bool (qg a b).isSome]) ⟨H,lo⟩):=by
 refine aH Lf λN g=>?_
 have ho:=ah8 a b f d;cases c:isObj a b with
 |false=>
  have e:qg a b=none:=by unfold qg;grind
  simp(disch:=omega) only[F1,go_sem,simprocAttr,Lf,ho,c,e]
 |true=>
  have e:qg a b=some ((a+31)/32):=by unfold qg;grind
  have e1: ((a:Int)+32-1).tdiv 32=(((a+31)/32:Nat):Int):=by
   rw[Int.tdiv_eq_ediv_of_nonneg (by omega)];omega
  simp(disch:=omega) only[F1,go_sem,simprocAttr,Lf,ho,c,e,e1]
def atx{H:List ae}{bytes:Nat}{ty:TypeId}{ys:List lA}(a:0<sz)(d: ∀el∈ys,el.length=sz)(b:ys≠[])(c:ys.length*bytes<=room):
  dv ⟨H,lo⟩ ty sz bytes .aq ys=some (.ref H.length 0 sz 0 ys.length false,⟨H++[.row 0 sz ty ys],lo⟩):=by
 unfold dv;rw[aez ⟨a,by grind⟩];rw[aeu (by grind),aez c];rfl
def aty{H:List ae}{bytes:Nat}{ty:TypeId}{ys:List lA}(a:0<sz)(e: ∀el∈af,el.length=sz)(d: ∀el∈ys,el.length=sz)(b:ys≠[])(c: (af.length+ys.length)*bytes<=room):
  dv ⟨H,lo⟩ ty sz bytes (.sl af true) ys=some (.ref H.length 0 sz 0 (af.length+ys.length) false,⟨H++[.row 0 sz ty (af++ys)],lo⟩):=by
 unfold dv;rw[aez ⟨a,by grind⟩];simp only;rw[aeu (by grind),aez ⟨c,by grind⟩];rfl
def CA(v:AV):AV:=match v with
 |.sl af _=>.sl af true
 |v=>v
def atz(v:AV)(l:List aD)(d:Rv v 2 (l.map aA))(H:List ae)(lo:oN):
  D X0 (.fn (.func 308) [] []) [v] ⟨H,lo⟩=some (.ret (CA v) ⟨H,lo⟩):=by
 refine aH Lq λN i=>?_
 obtain⟨h,a,j⟩:=d ⟨[],none⟩;have f:=bB (g:=aA) (λ_=>rfl) l;cases v<;>simp only[]at h
 ·have b:gw 2 .aq none (some (.int .i64 0)) (some (.int .i64 0))=some .aq:=by rfl
  simp(disch:=omega) only[F1,go_sem,simprocAttr,Lq,b,CA]
 ·rename_i af c;simp only[Den.elems]at a;split at a
  ·cases a;have e:gw 2 (.sl (l.map aA) c) none (some (.int .i64 (l.length:Nat))) (some (.int .i64 (l.length:Nat)))=some (.sl (l.map aA) true):=by
    simp[gw,gv,lS,lT,aA];exact aeE (by simp)
   simp(disch:=omega) only[F1,go_sem,simprocAttr,Lq,e,ae3,f,ae4,CA]
  grind
 ·simp[Den.elems]at a
def atA(v:AV)(n:Nat)(l:List aD)(k:Rv v 2 (l.map aA))(s:RB l)(r:aD)(H:List ae)(lo:oN):
  D X0 (.fn (.func 280) [] []) [.agg [v,.int .i64 n],.agg (aA r)] ⟨H,lo⟩=some (.ret (.agg [ek (l++[r]),.int .i64 (aL l*32:Nat)]) ⟨H,lo⟩):=by
 refine aH Sm λN m=>?_
 have p:=Mb v n l k s;have w:=s.je;have y:=s.1;have u:v.refs=0:=cL k (bB (λ_=>rfl) l);have z:=atz v l k;obtain⟨id,j⟩: ∃id,(H++[ae.box [v,.int .i64 n] none,.box (aA r) none,.box [.aq,.int .i64 0] none]).length=id:=⟨_,rfl⟩;have t: ∀lo,dv ⟨H++[ae.box [v,.int .i64 n] none,.box (aA r) none,.box [.aq,.int .i64 0] none],lo⟩ eX 2 16 (CA v) [aA r]=some (.ref id 0 2 0 (l.length+1) false,⟨H++[ae.box [v,.int .i64 n] none,.box (aA r) none,.box [.aq,.int .i64 0] none]++[.row 0 2 eX (l.map aA++[aA r])],lo⟩):=by
  intro lo;obtain⟨A,b,B⟩:=k ⟨[],none⟩;rw[<-j];cases v<;>simp only[]at A
  ·simp only[Den.elems]at b;have:l=[]:=by
    have:=(ajL b).symm;exact aqL.1 this
   subst this;rw[show CA .aq= .aq from rfl,atx (by omega) (λel a=>by rw[ae5.1 a];rfl) (by simp) (by simp[room])];rfl
  ·simp only[Den.elems]at b;split at b
   ·cases b;rw[show ∀c,CA (.sl (l.map aA) c)= .sl (l.map aA) true fromλ_=>rfl,aty (by omega) (λel a=>by obtain⟨x,_,rfl⟩:=ago.1 a;rfl) (λel a=>by rw[ae5.1 a];rfl) (by simp) (by simp[room];omega)];simp
   ·cases b
  ·simp[Den.elems]at b
 have i:id=N+3:=by rw[<-j];simp[m]
 subst i;simp(disch:=omega) only[go_sem,simprocAttr,Sm,m,z,t,p];have q:eA N (if N+1<=N then none else cM none (N+2)):=by rw[aeu (by omega)];exact .inr ⟨N+2,by omega,rfl⟩
 have f:aP N (H++[ae.box [v,AV.int IntKind.i64 ↑n] none,ae.box (aA r) none,ae.box [AV.ref (N+3) 0 2 0 (l.length+1) false,AV.int IntKind.i64 (↑(aL l)*32)] none,ae.row 0 2 eX (List.map aA l++[aA r])]) (.ref (N+3) 0 2 0 (l.length+1) false) 2 eX (l.map aA++[aA r]):=by
  refine⟨λel a=>?_,.inr ⟨N+3,0,by omega,by simp,?_⟩⟩
  ·rcases ae2.1 a with h|h
   ·obtain⟨x,_,rfl⟩:=ago.1 h;rfl
   ·rw[ae5.1 h];rfl
  ·rw[bA m];rfl
 have o:cb (l.map aA++[aA r])=0:=by
  have:=bB (g:=aA) (λ_=>rfl) (l++[r]);rwa[agp]at this
 rw[uO q (Fz.agg (d:=11) (il.cons (Fz.mono (Fz.own (d:=0) f (by rw[o];omega)) (by omega)) (il.cons (Fz.mono (Fz.low (d:=0) (v:=.int .i64 (↑(aL l)*32)) (by simp[AV.refs])) (by omega)) il.nil)))];refine dk ?_ (kj m);have e:ek (l++[r])= .sl (l.map aA++[aA r]) false:=by
  unfold ek;have: (l++[r]).isEmpty=false:=by cases l<;>rfl
  rw[this];simp
 rw[e,Int.natCast_mul];rfl
def Md(l:List aD)(x:Nat):AV:=.ax [.int .i64 ((kK l 0 x).getD 0:Nat),.bool (kK l 0 x).isSome]
theorem aic(r:aD)(l:List aD)(b x:Nat):kK (r::l) b x=if b<=x/\x<b+r.2*32 then some (r.1*32+x-b)else kK l (b+r.2*32) x:=rfl
def atB(v:AV)(n:Nat)(l:List aD)(T:Rv v 2 (l.map aA))(M:RB l)(x:Nat)(hx:x<1099511627776)(H:List ae)(lo:oN):
  D X0 (.fn (.func 215) [] []) [.agg [v,.int .i64 n],.int .i64 x] ⟨H,lo⟩=some (.ret (Md l x) ⟨H,lo⟩):=by
 refine aH RR λN F=>?_
 have K:v.refs=0:=cL T (bB (λ_=>rfl) l);have ha:=ah6 v n K (N+4) (H++[.box [v,.int .i64 n] none,.box [.int .i64 x] none,.box [.int .i64 0] none,.box [.bool false] none]) (by simp[F]) none;simp only[go_sem,simprocAttr,RR,F,ha];refine wG (S:=Nat×Bool) (λe=>e 3= .ptr (N+1) 0/\e 4= .ptr (N+2) 0/\e 5= .ptr (N+3) 0) (by simp only[go_sem,simprocAttr]) (xp l) F [.box [v,.int .i64 n] none] (λs=>[.box [v,.int .i64 n] none,.box [.int .i64 x] none,.box [.int .i64 (s.1:Nat)] none,.box [.bool s.2] none]) (nB:=4) (λ_=>rfl) (0,false)
  (λj s=>s=(0,false)/\kK l 0 x=kK (l.drop j) (32*aL (l.take j)) x) (λex s=>ex= .ret/\kK l 0 x=some s.1/\s.2=true) rfl ?_ (by simp) ⟨rfl,by simp[aL]⟩ (λex s h=>?_) ?_ ?_ ?_
 ·exact ah7 v n l T M (N+4)
 ·exact⟨.ret,by rw[h.1];rfl,by rw[h.1];rfl,by rw[h.1];rfl⟩
 ·rintro e ⟨e3,I,G⟩ j y s J ⟨rfl,d⟩;have C:j<l.length:=by
   have:=(adN.1 J).1;rwa[Gn]at this
  rw[T3 C]at J;cases J;have uN:=M.2 _ (dY C);have hpg:=M.bd j;have A:=L9 C;have m:l.drop j=l.getD j default::l.drop (j+1):=by
   rw[aom C,agn,adQ C];rfl
  rw[m,aic]at d;generalize hrg:l.getD j default=r at*;refine⟨rfl,λW n' hn hnl w=>?_⟩;simp only[go_sem,simprocAttr,ij,hn,Ma];refine⟨[.box (aA r) none],rfl,λR q E=>?_⟩;simp only[eK,eJ,alS,agr,Nat.reduceAdd]at E;obtain⟨w0,w1,k,u⟩:=E;have f1: ∀L,(R++L)[N+1]?=some (.box [.int .i64 x] none):=λL=>bf w1
  have f2: ∀L,(R++L)[N+2]?=some (.box [.int .i64 (0:Nat)] none):=λL=>bf k
  have f3: ∀L,(R++L)[N+3]?=some (.box [.bool false] none):=λL=>bf u
  by_cases X:32*aL (l.take j)<=x
  ·have g: (x:Int)>=((32*aL (l.take j):Nat):Int):=by omega
   by_cases V:x<32*aL (l.take j)+r.2*32
   ·have t: (x:Int)< ((32*aL (l.take j):Nat):Int)+r.2*32:=by omega
    rw[aez ⟨X,V⟩]at d;have z: (r.1:Int)*32+x- ((32*aL (l.take j):Nat):Int)=((r.1*32+x-32*aL (l.take j):Nat):Int):=by omega
    simp(disch:=omega) only[go_sem,simprocAttr,K7,e3,I,G,f1,f2,f3,q,g,t,z,IU];refine⟨(r.1*32+x-32*aL (l.take j),true),?_,by omega,λi U B=>?_,d,rfl⟩
    ·simp only[eK,eJ,alS,agr,Nat.reduceAdd];refine⟨?_,?_,?_,?_⟩
     ·rw[acG (by omega),acG (by omega)];exact bf w0
     ·rw[acG (by omega),acG (by omega)];exact f1 _
     ·rw[acG (by omega),ae1 (by simp;omega)]
     ·rw[ae1 (by simp;omega)]
    ·rw[acG (by omega),acG (by omega),acK (by omega)]
   ·have t: ¬(x:Int)< ((32*aL (l.take j):Nat):Int)+r.2*32:=by omega
    rw[aeu (λh=>V h.2)]at d;simp(disch:=omega) only[go_sem,simprocAttr,K7,e3,f1,q,g,t,oq];refine⟨(0,false),?_,by omega,λi U B=>acK (by omega),rfl,?_⟩
    ·simp only[eK,eJ,alS,agr,Nat.reduceAdd];exact⟨bf w0,f1 _,f2 _,f3 _⟩
    ·rw[d,A,Nat.mul_add,Nat.mul_comm 32 r.2]
  ·have g: ¬(x:Int)>=((32*aL (l.take j):Nat):Int):=by omega
   rw[aeu (λh=>X h.1)]at d;simp only[go_sem,simprocAttr,K7,e3,f1,q,g,oq];refine⟨(0,false),?_,by omega,λi U B=>acK (by omega),rfl,?_⟩
   ·simp only[eK,eJ,alS,agr,Nat.reduceAdd];exact⟨bf w0,f1 _,f2 _,f3 _⟩
   ·rw[d,A,Nat.mul_add,Nat.mul_comm 32 r.2]
 ·rintro e ⟨e3,I,G⟩ s W p hp ⟨rfl,d⟩ f w Q;simp only[eK,eJ,alS,agr,Nat.reduceAdd]at w;obtain⟨w0,w1,k,u⟩:=w;rw[Gn,List.drop_length]at d;have e0:kK l 0 x=none:=d;have O: ∀a b c,(((W.set (N+2) a).set (N+3) b).set p c).take N=H:=λa b c=>(((f.set (by omega)).set (by omega)).set (by omega)).take F
  have s2:=cQ (o:=.box [.int .i64 0] none) k;have Y: ∀a b,((W.set (N+2) a).set (N+3) b)[N+3]?=some b:=λa b=>ae1 (by rw[agq];exact dZ u)
  have s2: ∀a b,((W.set (N+2) a).set (N+3) b)[N+2]?=some a:=λa b=>by rw[acG (by omega)];exact cQ k
  simp(disch:=omega) only[F1,go_sem,simprocAttr,I,G,k,u,Q,lK,O,s2,Y,Md,e0]
 ·rintro e ⟨e3,I,G⟩ ex s W p hp ⟨rfl,d,Z⟩ f w Q;simp only[eK,eJ,alS,agr,Nat.reduceAdd]at w;obtain⟨w0,w1,k,u⟩:=w;have P: ∀o,(W.set p o).take N=H:=λo=>(f.set (by omega)).take F
  simp(disch:=omega) only[F1,go_sem,simprocAttr,I,G,k,u,Q,lK,P];refine dk ?_ rfl;unfold Md;rw[d,Z];rfl
def T4(t:aw)(O:bT t)(U:ca t)(a b:Nat)(T:a<4294967296)(K:b<4294967296)(H:List ae)(lo:oN):
  D X0 (.fn (.func 313) [] []) [.agg (aN t),.int .u32 a,.int .u32 b] ⟨H,lo⟩=some (.ret (.bool (kJ t a b)) ⟨H,lo⟩):=by
 refine aH FX λN q=>?_
 have B: ∀h,az t.b h=t.az h:=λh=>rfl
 have f:=eP t.b a T;have g:=eP t.b b K;simp only[B]at f g;cases y:t.az a
 ·rw[y]at f;simp only[F1,go_sem,simprocAttr,FX,q,f,kJ,y,ahM]
 ·rw[y]at f;cases A:t.az b
  ·rw[A]at g;simp only[F1,go_sem,simprocAttr,FX,q,f,g,kJ,y,A,ahM,aqy]
  ·rw[A]at g;have G:=TQ t b (N+3) (H++[.box (aN t) none,.box [.int .u32 a] none,.box [.bool (decide ((a:Int)=b))] none]) (by simp[q]) none;simp only[go_sem,simprocAttr,FX,q,f,g,G];have F:decide ((a:Int)=(b:Int))=decide (a=b):=agv.2 (by omega);refine wG (S:=Bool) (λe=>e 4= .ptr (N+1) 0/\e 7= .ptr (N+2) 0) (by simp only[go_sem,simprocAttr]) (nG t b) q [.box (aN t) none,.box [.int .u32 b] none] (λs=>[.box (aN t) none,.box [.int .u32 a] none,.box [.bool s] none]) (nB:=3) (λ_=>rfl) (decide ((a:Int)=b)) (λj s=>s=(decide (a=b)|| ((aS t b).take j).contains a)) (λ_ _=>False) rfl ?_ (by simp) (by simp[F]) (λ_ _ h=>h.elim) ?_ ?_ ?_
   ·exact TR t O U b K (N+3)
   ·rintro e ⟨I,e7⟩ j x s M X;obtain⟨u,rfl,hu⟩:=TU M;refine⟨rfl,λW n hn Q C=>?_⟩;simp only[go_sem,simprocAttr,ij];refine⟨[],by simp,λL l w=>?_⟩;simp only[eK,eJ,alS,agr,Nat.reduceAdd]at w;obtain⟨w0,w1,m⟩:=w;have d: (decide (a=b)|| ((aS t b).take (j+1)).contains a)=(s||decide ((u:Int)=a)):=by
     rw[X,agu,hu];have:decide ((u:Int)=a)=decide (a=u):=agv.2 (by omega);rw[this];by_cases Z:a=b<;>by_cases Y:a=u<;>simp[Z,Y]
    have k: ∀z,(L.set (N+2) (.box [.bool z] none)).length=n->im (L.set (N+2) (.box [.bool z] none)) N 0 [.box (aN t) none,.box [.int .u32 a] none,.box [.bool z] none]:=λz hl=>by
     simp only[eK,eJ,alS,agr,Nat.reduceAdd];exact⟨by rw[acG (by omega)];exact w0,by rw[acG (by omega)];exact w1,cQ m⟩
    cases s
    ·by_cases c: (u:Int)=a
     ·simp only[go_sem,simprocAttr,Lt,I,e7,w1,m,agB,oq,c];exact⟨_,k _ (by rw[agq];exact l),λi J v=>acG (by omega),by rw[d];simp[c]⟩
     ·simp only[go_sem,simprocAttr,Lt,I,e7,w1,m,agB,oq,c];exact⟨_,k _ (by rw[agq];exact l),λi J v=>acG (by omega),by rw[d];simp[c]⟩
    ·simp only[go_sem,simprocAttr,Lt,e7,m,agB,oq];exact⟨_,k _ (by rw[agq];exact l),λi J v=>acG (by omega),by rw[d];simp⟩
   ·rintro e ⟨I,e7⟩ s W p P rfl r C R;simp only[eK,eJ,alS,agr,Nat.reduceAdd]at C;obtain⟨w0,w1,m⟩:=C;have E: ∀o,(W.set p o).take N=H:=λo=>(r.set (by omega)).take q
    simp only[F1,go_sem,simprocAttr,e7,m,R,lK,E];rw[TV,agk];refine dk (ahX _ ?_) rfl;unfold kJ;rw[y,A];rfl
   ·rintro e he ex s W p P V;exact V.elim
def uh(t:aw)(h:Nat)(r:ds):AV:=.ax [.agg (aN (fP t h r).1),.int .i64 (fP t h r).2]
def T5(t:aw)(u:bT t)(h:Nat)(o:h<4294967296)(r:ds)(q:RB r.runs)(s:r.runs.length<=65)(k:r.len<4294967296)(H:List ae)(lo:oN):
  D X0 (.fn (.func 309) [] []) [.agg (aN t),.int .u32 h,.agg (bS r)] ⟨H,lo⟩=some (.ret (uh t h r) ⟨H,lo⟩):=by
 refine aH B4 λN i=>?_
 have n:=zH h;have l: (aR h:Int)<32:=by omega
 have p:iX h= .ax [.int .i64 (aR h:Nat),.bool (eY h).isSome]:=rfl;have a:=eP t.b h o;have m:az t.b h=t.az h:=rfl;simp only[m]at a;have hm:=ah9 (ek r.runs) r.len r.runs k (mM _) q s;have d:fP t h r=if t.az h=false then(t,4)else if 64<r.dG\/qd r.runs r.len=false then(t,2)else({t with r:=au t.r (aR h) {r with up:=(t.r (aR h)).up}},0):=rfl
 cases g:t.az h with
 |false=>
  rw[g]at a;have e:fP t h r=(t,4):=by rw[d,aez g]
  simp only[F1,go_sem,simprocAttr,B4,i,a,cV,uh,e]
 |true=>
  rw[g]at a;rw[aeu (by rw[g];simp)]at d;have j:=zS r.dG;by_cases f:r.dG<=64
  ·have c:decide (r.dG<=64)=true:=aeD f;cases b:qd r.runs r.len with
   |false=>
    rw[aez (.inr b)]at d;simp only[F1,go_sem,simprocAttr,B4,i,a,cV,j,c,hm,b,uh,d]
   |true=>
    rw[aeu (by rw[b];simp;omega)]at d;simp only[F1,go_sem,simprocAttr,B4,i,a,cV,j,c,hm,b,uh,d,j4 h o,p,l,Tj n,arY,LJ n];omega
  ·have c:decide (r.dG<=64)=false:=aeC f;rw[aez (.inl (by omega))]at d;simp only[F1,go_sem,simprocAttr,B4,i,a,cV,j,c,uh,d]
def vH(t:aw)(h u:Nat):AV:=.ax [.agg (aN (mc t h u).1),.int .i64 (mc t h u).2]
def aif(t:aw)(Z:bT t)(hT:ca t)(h w:Nat)(S:h<4294967296)(Y:w<4294967296)(H:List ae)(lo:oN):
  D X0 (.fn (.func 315) [] []) [.agg (aN t),.int .u32 h,.int .u32 w] ⟨H,lo⟩=some (.ret (vH t h w) ⟨H,lo⟩):=by
 refine aH B5 λN F=>?_
 have X:=zH h;have B: (aR h:Int)<32:=by omega
 have W:iX h= .ax [.int .i64 (aR h:Nat),.bool (eY h).isSome]:=rfl;have b:=eP t.b h S;have g:=eP t.b w Y;have T: ∀h,az t.b h=t.az h:=λh=>rfl
 simp only[T]at b g;have j:mc t h w=if t.az h=false\/ (w≠0/\t.az w=false)then(t,4)else if w≠0/\h∈w::aS t w then(t,12)else({t with r:=au t.r (aR h) {t.r (aR h)with up:=w}},0):=rfl
 cases E:t.az h with
 |false=>
  rw[E]at b;rw[aez (.inl E)]at j;simp only[F1,go_sem,simprocAttr,B5,F,b,cV,vH,j]
 |true=>
  rw[E]at b;by_cases c:w≠0/\t.az w=false
  ·rw[aez (.inr c)]at j;rw[c.2]at g;have y: ¬(w:Int)=0:=by omega
   simp only[F1,go_sem,simprocAttr,B5,F,b,g,y,cV,vH,j]
  ·rw[aeu (by rw[E];simpa using c)]at j;have i:w=0\/ (¬(w:Int)=0/\t.az w=true):=by
    by_cases l:w=0
    ·exact .inl l
    ·refine .inr ⟨by omega,?_⟩;cases I:t.az w
     ·exact absurd ⟨l,I⟩ c
     ·rfl
   obtain⟨L,V⟩: ∃L,L=if w=0 then[]else w::aS t w:=⟨_,rfl⟩
   have o: (w≠0/\h∈w::aS t w)↔h∈L:=by
    rw[V];by_cases l:w=0
    ·simp[l]
    ·rw[aeu l];exact⟨λq=>q.2,λq=>⟨l,q⟩⟩
   have key: ∀Q:bZ,(∀e:Env,e 1= .int .u32 h->e 2= .int .u32 w->e 3= .ptr N 0->e 6= .ptr (N+1) 0->h∉L->Q (.exit 0) ⟨e,[]⟩ ⟨H++[.box (aN t) none,.box k9 none],none⟩)->
     (∀e:Env,e 6= .ptr (N+1) 0->e 7= .int .i64 12->h∈L->Q .ret ⟨e,[]⟩ ⟨H++[.box (aN t) none,.box (aN t) none],none⟩)->
     ∀e:Env,e 1= .int .u32 h/\e 2= .int .u32 w/\e 3= .ptr N 0/\e 6= .ptr (N+1) 0/\e 8= .int .u32 w->wp X0 315 false (PC.loop FY) ⟨e,[]⟩ ⟨H++[.box (aN t) none,.box k9 none],none⟩ Q:=by
    rintro Q I hr e ⟨e1,p,e3,e6,e8⟩;refine dQ L.length (λk e H'=>H'=H++[.box (aN t) none,.box k9 none]/\e 1= .int .u32 h/\e 2= .int .u32 w/\e 3= .ptr N 0/\e 6= .ptr (N+1) 0/\ ∃x,e 8= .int .u32 (x:Nat)/\ (if x=0 then[]else x::aS t x)=L.drop k/\ (x≠0->t.az x=true)/\h∉L.take k) 0 (by omega) ?_ ?_
    ·refine⟨rfl,e1,p,e3,e6,w,e8,by rw[V];simp,λl=>?_,by simp⟩;rcases i with rfl|q
     ·exact absurd rfl l
     ·exact q.2
    rintro k hk e H' ⟨rfl,e1,p,e3,e6,x,e8,z,m,a⟩ n hn;by_cases s:x=0
    ·subst s;have P:L.take k=L:=by
      have:=ahX List.length z;rw[aez rfl,amM]at this;exact aeE (by simp at this;omega)
     rw[P]at a;simp only[go_sem,simprocAttr,FY,e8];exact I _ (by simp only[go_sem,simprocAttr,e1]) (by simp only[go_sem,simprocAttr,p]) (by simp only[go_sem,simprocAttr,e3]) (by simp only[go_sem,simprocAttr,e6]) a
    ·have A: ¬(x:Int)=0:=by omega
     have m:=m s;rw[aeu s]at z;have O:k<L.length:=by
      have:=ahX List.length z;rw[amM,agt]at this;omega
     have M:L.take (k+1)=L.take k++[x]:=by
      rw[agu];have:L[k]?=(L.drop k)[0]?:=by rw[al0];rfl
      rw[this,<-z];rfl
     by_cases G:x=h
     ·have f: (x:Int)=h:=by omega
      have d:h∈L:=by
       rw[<-amI k L,<-z,G];simp
      have R: ¬(h:Int)=0:=by omega
      simp(disch:=omega) only[go_sem,simprocAttr,FY,e1,e3,e6,e8,f,R,cV];exact hr _ (by simp only[go_sem,simprocAttr,e6]) (by simp only[go_sem,simprocAttr]) d
     ·have f: ¬(x:Int)=h:=by omega
      have J:=ahv t Z x (fF m);have v:bt t x=kI t (aR x):=by unfold bt;rw[aez m]
      have U:=qf hT x;simp(disch:=omega) only[go_sem,simprocAttr,FY,e1,p,e3,e6,e8,A,f,J];refine⟨O,kI t (aR x),rfl,?_,λl=>?_,?_⟩
      ·rw[<-v,<-ao5,<-z,apA,amR,U]
      ·exact(F9 (by rw[v];exact l)).1 ▸ (by rw[v])
      ·rw[M];simp[a];omega
   rcases i with rfl| ⟨y,C⟩
   ·rw[aeu (by simp)]at j;simp only[go_sem,simprocAttr,B5,F,b];refine key _ ?_ ?_ _ (by simp only[go_sem,simprocAttr])
    ·intro e e1 p e3 e6 _;have K:aJ (aN t) (96+aR h*12) [.int .u32 0]=aN {t with r:=au t.r (aR h) {t.r (aR h)with up:=0}}:=agW (u:=0) X;simp(disch:=omega) only[F1,go_sem,simprocAttr,e1,p,e3,e6,j4 h S,W,B,K,cV,vH,j];omega
    ·intro e e6 e7 d;rw[V]at d;simp at d
   ·rw[C]at g;simp only[go_sem,simprocAttr,B5,F,b,g,y];refine key _ ?_ ?_ _ (by simp only[go_sem,simprocAttr])
    ·intro e e1 p e3 e6 a;rw[aeu (λq=>a (o.1 q))]at j;simp(disch:=omega) only[F1,go_sem,simprocAttr,e1,p,e3,e6,j4 h S,W,B,agW X,cV,vH,j];omega
    ·intro e e6 e7 d;rw[aez (o.2 d)]at j;simp(disch:=omega) only[F1,go_sem,simprocAttr,e6,e7,vH,j]
def z6(t:aw)(a n:Nat):AV:=.ax [.agg (aN (iB t a n).1),.int .u32 (iB t a n).2.1,.int .i64 (iB t a n).2.2]
def atC(t:aw)(k:bT t)(m:ca t)(a n:Nat)(j:a<4294967296)(H:List ae)(lo:oN):
  D X0 (.fn (.func 273) [] []) [.agg (aN t),.int .u32 a,.int .i64 n] ⟨H,lo⟩=some (.ret (z6 t a n) ⟨H,lo⟩):=by
 refine aH zs λN f=>?_
 have e:=aso t k a n j;have g:=L5 t k m a j;have d:iB t a n=if((mb t a n).2.2=0\/ (mb t a n).2.2=7)/\6<=depth t a then(t,0,8)else mb t a n:=rfl
 by_cases i: (mb t a n).2.2=0\/ (mb t a n).2.2=7
 ·by_cases l:6<=depth t a
  ·rw[aez ⟨i,l⟩]at d;have b: (depth t a:Int)>=6:=by omega
   rcases i with c|c
   ·simp only[F1,go_sem,simprocAttr,zs,f,e,zT,c,g,b,cV,z6,d]
   ·simp only[F1,go_sem,simprocAttr,zs,f,e,zT,c,g,b,cV,z6,d]
  ·rw[aeu (λh=>l h.2)]at d;have b: ¬(depth t a:Int)>=6:=by omega
   rcases i with c|c
   ·simp only[F1,go_sem,simprocAttr,zs,f,e,zT,c,g,b,cV,z6,d]
   ·simp only[F1,go_sem,simprocAttr,zs,f,e,zT,c,g,b,cV,z6,d]
 ·rw[aeu (λh=>i h.1)]at d;have p: ¬((mb t a n).2.2:Int)=0:=by omega
  have o: ¬((mb t a n).2.2:Int)=7:=by omega
  simp only[F1,go_sem,simprocAttr,zs,f,e,zT,p,o,cV,z6,d]
theorem aih:Ext X4 X where
 dL:=rfl
 fV:=rfl
 code:=rfl
 cg:=λf=>by
  show(if f=46 then some mm else if f=19 then some mn else if f=179 then some qk else if f=158 then some rH else if f=156 then some xo else if f=108 then some zY else if f=73 then some Cy else none)=(if f=46 then some mm else if f=19 then some mn else if f=179 then some qk else if f=158 then some rH else none)\/_;by_cases i:f=46
  ·grind
  by_cases h:f=19
  ·grind
  by_cases d:f=179
  ·grind
  by_cases c:f=158
  ·grind
  by_cases j:kL.contains f=true
  ·right
   refine⟨?_,?_⟩
   ·show(if f=46 then some mm else if f=19 then some mn else if f=179 then some qk else if f=158 then some rH else none)=none
    grind
   ·show(if kL.contains f then none else zu.lookup f)=none
    grind
  ·left
   have a:kL.contains f=false:=by grind
   have e: ∀g,kL.contains g=true->f≠g:=λg b=>iF a b
   simp only[aeu i,aeu h,aeu d,aeu c,aeu (e 156 rfl),aeu (e 108 rfl),aeu (e 73 rfl)]
theorem T6: ∀ {l:List aD},(∀x∈l,1<=x.2)->l.length<=aL l
 | [],_=>by simp
 |x::xs,h=>by
  have c:=h x (alc ..);have b:=T6 (l:=xs) λy a=>h y (agE _ a)
  simp only[aL,amF,List.sum_cons,agt]at b⊢;omega
def gj.rb{r:ds}(h:gj r):RB r.runs/\r.runs.length<=64:=by
 have c:=T6 λx a=>(h.runs x a).1
 have b:=h.aL;refine⟨⟨by omega,λx a=>?_⟩,by omega⟩;have:=h.runs x a;omega
def gj.Me{r:ds}(h:gj r)(a:x<4294967296):gj {r with up:=x}:=⟨a,h.dG,h.len,h.cells,h.runs,h.aL⟩
def gj.setCells{r:ds}(h:gj r){f:Nat->Nat}(a: ∀i,f i<4294967296):gj {r with cells:=f}:=⟨h.up,h.dG,h.len,a,h.runs,h.aL⟩
def CB:gj dR:=⟨by trivial,by trivial,by trivial,by simp[dR],by trivial,by trivial⟩
def bT.get{t:aw}(a:bT t)(h:Nat):gj (aM t h).1:=by
 unfold aM;split
 ·exact(a.r _).Me ahm
 ·exact CB
theorem bT.au{t:aw}(a:bT t){i:Nat}{r:ds}(b:gj r):bT {t with r:=au t.r i r}:=⟨a.b,λj=>by
 show gj (Go.Proofs.YtcdeobefbpnfeaaGreatDoor.au t.r i r j);by_cases e:j=i
 ·rw[e,cw];exact b
 ·rw[cR e];exact a.r j⟩
def bT.set{t:aw}(a:bT t){r:ds}(b:gj r):bT (fP t h r).1:=by
 unfold fP;split
 ·omega
 ·split
  ·omega
  ·exact a.au (b.Me (a.r _).up)
def bT.raise{t:aw}(a:bT t)(b:x<4294967296):bT (mc t h x).1:=by
 unfold mc;split
 ·omega
 ·split
  ·omega
  ·exact a.au ((a.r _).Me b)
def ja(t a:aw):Prop:=a.b=t.b/\ ∀i,(a.r i).up=(t.r i).up
theorem ja.refl(t:aw):ja t t:=⟨rfl,λ_=>rfl⟩
theorem ja.trans{a b c:aw}(e:ja a b)(d:ja b c):ja a c:=⟨d.1.trans e.1,λi=>(d.2 i).trans (e.2 i)⟩
theorem ja.az{t a:aw}(h:ja t a)(x:Nat):a.az x=t.az x:=by unfold aw.az;rw[h.1]
theorem ja.bt{t a:aw}(h:ja t a)(x:Nat):bt a x=Go.Proofs.YtcdeobefbpnfeaaGreatDoor.bt t x:=by
 unfold Go.Proofs.YtcdeobefbpnfeaaGreatDoor.bt kI;simp only[h.az,h.2]
theorem ja.eO{t a:aw}(h:ja t a): ∀n x,eO a n x=Go.Proofs.YtcdeobefbpnfeaaGreatDoor.eO t n x
 |0,_=>rfl
 |n+1,x=>by simp only[Go.Proofs.YtcdeobefbpnfeaaGreatDoor.eO,h.bt,h.eO n]
theorem ja.aS{t a:aw}(h:ja t a)(x:Nat):aS a x=Go.Proofs.YtcdeobefbpnfeaaGreatDoor.aS t x:=h.eO 32 x
def ja.tree{t a:aw}(h:ja t a)(b:ca t):ca a:=λx=>by rw[h.aS];exact b x
def ja.set(t:aw)(h:Nat)(r:ds):ja t (fP t h r).1:=by
 unfold fP;split
 ·exact .refl t
 ·split
  ·exact .refl t
  ·refine⟨rfl,λi=>?_⟩;show(au t.r (aR h) _ i).up=_;by_cases e:i=aR h
   ·rw[e,cw]
   ·rw[cR e]
def atD{t:aw}(c:ca t)(a:x∈dC t h):dep t h<=dep t x:=by
 have key: ∀n h,x∈iA t n h->dep t h<=dep t x:=by
  intro n
  induction n with
  |zero=>intro h a;rw[iA,ae5]at a;grind
  |succ n b=>
   intro h a;rcases agF.1 a with rfl|a
   ·simp
   ·grind [Ce]
 exact key 32 h a
def T7{t:aw}(a:t.az h=true):depth t h=1+dep t h:=by unfold depth;rw[aez a];rfl
def atE{t0 t:aw}(a:bT t)(h x:Nat):bT (zF t0 h t x):=by
 refine a.set (gj.setCells (a.get x) λi=>?_);have:=(a.get x).cells i
 grind
def atF(t0 t:aw)(h x:Nat):ja t (zF t0 h t x):=ja.set _ _ _
def xr(t0:aw)(h:Nat)(t:aw)(l:lN):aw:=l.foldl (zF t0 h) t
def T8{t0 t:aw}(a:bT t)(h:Nat): ∀l,bT (xr t0 h t l):=by
 intro l
 induction l generalizing t with
 |nil=>exact a
 |cons x xs b=>exact b (atE a h x)
theorem T9(t0:aw)(h:Nat): ∀ (l:lN) (t:aw),ja t (xr t0 h t l)
 | [],t=>.refl t
 |x::xs,t=>(atF t0 t h x).trans (T9 t0 h xs _)
def atG{t0 t:aw}{l:lN}{k:Nat}(a:l[k]?=some x):xr t0 h t (l.take (k+1))=zF t0 h (xr t0 h t (l.take k)) x:=by
 unfold xr;rw[agu,a,amG];rfl
theorem Ua(t:aw)(h:Nat):jH t h=if t.az h=false then(t,4)else mc (xr t h t (dC t h)) h 0:=rfl
def aii{t:aw}{x:lA}(a: (rJ t h)[j]?=some x): ∃y,x=[.int .u32 (y:Nat)]/\ (dC t h)[j]?=some y:=by
 unfold rJ at a;rw[agA,agj]at a;obtain⟨y,b,rfl⟩:=a;exact⟨y,rfl,b⟩
def atH{t:aw}(a:ca t)(h:Nat):depth t h<=6:=by
 unfold depth;split
 ·have:=a h;omega
 ·omega
theorem aij{f:Nat->Nat}{c:Nat}: ∀ (l:lN) (s:Nat),(∀x∈l,f x<=c)->s<=c->l.foldl (λn x=>max n (f x)) s<=c
 | [],s,_,a=>a
 |x::xs,s,d,a=>aij xs _ (λy b=>d y (agE _ b)) (by grind)
def atI{t:aw}(a:ca t)(h:Nat):sT t h<=7:=by
 exact aij (f:=λx=>depth t x-depth t h+1) _ _ (λx _=>by have:=atH a x;omega) (by omega)
def atJ(t:aw)(m:bT t)(k:ca t)(h:Nat)(a:t.az h=true)(H:List ae)(lo:oN):
  D X (.fn (.func 314) [] []) [.agg (aN t),.int .u32 h] ⟨H,lo⟩=some (.ret (.int .i64 (sT t h:Nat)) ⟨H,lo⟩):=by
 refine aH Sx λN q=>?_
 have K:=up dw (TY t h (N+3) (H++[.box (aN t) none,.box [.int .u32 h] none,.box [.int .i64 0] none]) (by simp[q]) none);simp only[go_sem,simprocAttr,Sx,q,K];refine wG (S:=Nat) (λe=>e 2= .ptr N 0/\e 3= .ptr (N+1) 0/\e 5= .ptr (N+2) 0) (by simp only[go_sem,simprocAttr]) (rJ t h) q [.box (aN t) none,.box [.int .u32 h] none] (λs=>[.box (aN t) none,.box [.int .u32 h] none,.box [.int .i64 (s:Nat)] none]) (nB:=3) (λ_=>rfl) 0
  (λj s=>s=((dC t h).take j).foldl (λn x=>max n (depth t x-depth t h+1)) 0/\s<=100) (λ_ _=>False) rfl ?_ (by simp) ⟨rfl,by omega⟩ (λ_ _ h=>h.elim) ?_ ?_ ?_
 ·exact T0 aih t m k h a (N+3)
 ·rintro e ⟨A,e3,w⟩ j x s B ⟨E,C⟩;obtain⟨y,rfl,z⟩:=aii B;have c:y∈dC t h:=alL z;have f:=Cf m.b a c;have I:=atD k c;have M:=k y;have U:=T7 f;have T:=T7 a;have R:dep t y<=5:=M;have b:=λH lo=>up dw (L5 t m k y (fF f) H lo)
  have v:=λH lo=>up dw (L5 t m k h (fF a) H lo)
  refine⟨rfl,λW n P F u=>?_⟩;simp only[go_sem,simprocAttr,ij];refine⟨[],by simp,λV L g=>?_⟩;simp only[eK,eJ,alS,agr,Nat.reduceAdd]at g;obtain⟨w0,w1,l⟩:=g;have r:max (s:Int) ((depth t y:Int)-depth t h+1)=((max s (depth t y-depth t h+1):Nat):Int):=by omega
  simp(disch:=omega) only[go_sem,simprocAttr,aga,A,e3,w,w0,w1,l,b,v,O8,O7,r,oq];refine⟨max s (depth t y-depth t h+1),?_,λi Q G=>acG (by omega),?_,?_⟩
  ·simp only[eK,eJ,alS,agr,Nat.reduceAdd];exact⟨by rw[acG (by omega)];exact w0,by rw[acG (by omega)];exact w1,cQ l⟩
  ·rw[agu,z,amG,<-E];rfl
  ·omega
 ·rintro e ⟨A,e3,w⟩ s W p O ⟨rfl,_⟩ d u J;simp only[eK,eJ,alS,agr,Nat.reduceAdd]at u;obtain⟨w0,w1,l⟩:=u;have b: ∀o,(W.set p o).take N=H:=λo=>(d.set (by omega)).take q
  simp only[F1,go_sem,simprocAttr,w,l,J,lK,b];rw[TZ,agk];rfl
 grind
def xu(t:aw)(h w:Nat):AV:=.ax [.agg (aN (vu t h w).1),.int .i64 (vu t h w).2]
def atK(t:aw)(k:bT t)(f:ca t)(h w:Nat)(q:h<4294967296)(p:w<4294967296)(H:List ae)(lo:oN):
  D X (.fn (.func 287) [] []) [.agg (aN t),.int .u32 h,.int .u32 w] ⟨H,lo⟩=some (.ret (xu t h w) ⟨H,lo⟩):=by
 refine aH wZ λN i=>?_
 have a:=λH lo=>up dw (eP t.b h q H lo)
 have b:=λH lo=>up dw (eP t.b w p H lo)
 have v: ∀h,az t.b h=t.az h:=λh=>rfl
 simp only[v]at a b;have c:vu t h w=if t.az h=false\/t.az w=false then(t,4)else if root t h≠h\/kJ t h w then(t,12)else if 6<depth t w+sT t h then(t,8)else mc t h w:=rfl
 have d:=λH lo=>up dw (xn t k f h q H lo)
 have e:=λH lo=>up dw (T4 t k f h w q p H lo)
 have l:=λH lo=>up dw (L5 t k f w p H lo)
 have u:=λH lo=>up dw (aif t k f h w q p H lo)
 cases n:t.az h with
 |false=>
  rw[n]at a;rw[aez (.inl n)]at c;simp only[F1,go_sem,simprocAttr,wZ,i,a,cV,xu,c]
 |true=>
  rw[n]at a;have j:=atJ t k f h n;cases m:t.az w with
  |false=>
   rw[m]at b;rw[aez (.inr m)]at c;simp only[F1,go_sem,simprocAttr,wZ,i,a,b,cV,xu,c]
  |true=>
   rw[m]at b;rw[aeu (by rw[n,m];simp)]at c;by_cases s:root t h=h
   ·have o: ((root t h:Nat):Int)=(h:Nat):=by omega
    cases r:kJ t h w with
    |true=>
     rw[aez (.inr r)]at c;rw[r]at e;rw[s]at d;simp only[F1,go_sem,simprocAttr,wZ,i,a,b,d,e,cV,xu,c]
    |false=>
     rw[aeu (by rw[r];simp[s])]at c;rw[r]at e;rw[s]at d;have y:sT t h<=7:=atI f h;have z:depth t w<=100:=by
      have:=f w;rw[T7 m];show 1+(aS t w).length<=100;omega
     by_cases x:6<depth t w+sT t h
     ·have g: (depth t w:Int)+sT t h>6:=by omega
      rw[aez x]at c;simp(disch:=omega) only[F1,go_sem,simprocAttr,wZ,i,a,b,d,e,l,j,g,cV,xu,c]
     ·have g: ¬(depth t w:Int)+sT t h>6:=by omega
      rw[aeu x]at c;simp(disch:=omega) only[F1,go_sem,simprocAttr,wZ,i,a,b,d,e,l,j,g,u,vH,cV,xu,c]
   ·have o: ¬((root t h:Nat):Int)=(h:Nat):=by omega
    rw[aez (.inl s)]at c;simp only[F1,go_sem,simprocAttr,wZ,i,a,b,d,o,cV,xu,c]
def vI(t:aw)(h c:Nat):Bool:=decide (c≠h)&&kJ t c h
def atL(t:aw)(i:bT t)(l:ca t)(h c:Nat)(j:h<4294967296)(k:c<4294967296)(g f:Nat)(H:List ae)(b:H[f]?=some (.box (aN t) none))(a:H[g]?=some (.box [.int .u32 h] none))(lo:oN):
  D X (.fn (.func 340) [] [.ptr g 0,.ptr f 0]) [.int .u32 c] ⟨H,lo⟩=some (.ret (.bool (vI t h c)) ⟨H,lo⟩):=by
 refine fj Ly λN n=>?_
 have d:=λH lo=>up dw (T4 t i l c h k j H lo)
 by_cases e:c=h
 ·simp(disch:=omega) only[F1,go_sem,simprocAttr,Ly,a,vI,e,not_true,dF,ahM]
 ·have m: ¬(c:Int)=h:=by omega
  simp(disch:=omega) only[F1,go_sem,simprocAttr,Ly,b,a,m,d,vI,e]
def ui(t:aw)(h:Nat)(f:Nat->Nat)(k:Nat):Nat->Nat:=λi=>if i<k/\vI t h (f i)=true then 0 else f i
theorem Gq{t:aw}{f:Nat->Nat}{k:Nat}:ui t h f k i=if i<k/\vI t h (f i)=true then 0 else f i:=rfl
def atM(t:aw)(h:Nat)(f:Nat->Nat)(k:Nat):ui t h f (k+1)=if vI t h (f k)=true then au (ui t h f k) k 0 else ui t h f k:=by
 funext i
 by_cases a:vI t h (f k)=true
 ·by_cases e:i=k
  ·simp_all[cw,Gq,aez]
  ·grind [cR,Gq]
 ·rw[aeu a,Gq,Gq]
  grind
def atN(t:aw)(h:Nat)(r:ds):bS {r with cells:=ui t h r.cells 8}=bS {r with cells:=λi=>if r.cells i≠h/\kJ t (r.cells i) h then 0 else r.cells i}:=by
 refine agM (vm λi a=>?_);simp only[ui,vI,a,azs]
 grind
def Mf(t:aw)(h:Nat):AV:=.ax [.agg (aN (jH t h).1),.int .i64 (jH t h).2]
def atO(t:aw)(I:bT t)(hT:ca t)(h:Nat)(hh:h<4294967296)(H:List ae)(lo:oN):
  D X (.fn (.func 312) [] []) [.agg (aN t),.int .u32 h] ⟨H,lo⟩=some (.ret (Mf t h) ⟨H,lo⟩):=by
 refine aH Ls λN U=>?_
 have q:=λH lo=>up dw (eP t.b h hh H lo)
 have hgg: ∀h,az t.b h=t.az h:=λh=>rfl
 simp only[hgg]at q;cases d:t.az h with
 |false=>
  rw[d]at q;have Z:jH t h=(t,4):=by rw[Ua,aez d]
  simp only[F1,go_sem,simprocAttr,Ls,U,q,cV,Mf,Z]
 |true=>
  rw[d]at q;have Z:jH t h=mc (xr t h t (dC t h)) h 0:=by rw[Ua,aeu (by rw[d];simp)]
  have ha:=up dw (TY t h (N+5) (H++[.box (aN t) none,.box [.int .u32 h] none,.box k9 none,.box [.fn (.func 340) [] [.ptr (N+1) 0,.ptr N 0]] none,.box (aN t) none]) (by simp[U]) none);have hmx:max (N+1+1) (N+1)<=N+3+1:=by omega
  simp only[go_sem,simprocAttr,Ls,U,q,cV,ha,hmx];refine wG (S:=aw) (λe=>e 3= .ptr (N+1) 0/\e 4= .ptr (N+2) 0/\e 6= .ptr (N+3) 0/\e 7= .ptr (N+4) 0) (by simp only[go_sem,simprocAttr]) (rJ t h) U [.box (aN t) none,.box [.int .u32 h] none] (λs=>[.box (aN t) none,.box [.int .u32 h] none,.box k9 none,.box [.fn (.func 340) [] [.ptr (N+1) 0,.ptr N 0]] none,.box (aN s) none]) (nB:=5) (λ_=>rfl) t
   (λj s=>s=xr t h t ((dC t h).take j)) (λ_ _=>False) rfl ?_ (by simp) rfl (λ_ _ h=>h.elim) ?_ ?_ ?_
  ·exact T0 aih t I hT h d (N+5)
  ·rintro e ⟨e3,e4,e6,e7⟩ j x s hx A;obtain⟨y,rfl,hy⟩:=aii hx;have hym:y∈dC t h:=alL hy;have P:=Cf I.b d hym;have J:=atG (t0:=t) (t:=t) (h:=h) hy;have b:bT s:=by rw[A];exact T8 I h _
   rw[<-A]at J;have Q:=λH lo=>up dw (ue s b y (fF P) H lo)
   have B:=b.get y;have c:zF t h s y=(fP s y {(aM s y).1 with cells:=λi=>if(aM s y).1.cells i≠h/\kJ t ((aM s y).1.cells i) h then 0 else(aM s y).1.cells i}).1:=rfl;generalize hr: (aM s y).1=r at*;have g:gj {r with cells:=λi=>if r.cells i≠h/\kJ t (r.cells i) h then 0 else r.cells i}:=gj.setCells B λi=>by
    have:=B.cells i;show(if _ then _ else _)<_;split<;>omega
   have K:=λH lo=>up dw (T5 s b y (fF P) _ g.rb.1 (by have:=g.rb.2;omega) (by have:=g.len;omega) H lo)
   refine⟨rfl,λW n hn hnl hg=>?_⟩;simp only[go_sem,simprocAttr,ij];refine⟨[],by simp,λG T R=>?_⟩;simp only[eK,eJ,alS,agr,Nat.reduceAdd]at R;obtain⟨w0,w1,Y,w3,V⟩:=R;have f0: ∀L,(G++L)[N]?=_:=λL=>bf w0
   have f1: ∀L,(G++L)[N+1]?=_:=λL=>bf w1
   have f3: ∀L,(G++L)[N+3]?=_:=λL=>bf w3
   have f4: ∀L,(G++L)[N+4]?=_:=λL=>bf V
   have hpc:Den.part true 8 (bS r) 4=_:=LH (r:=r);simp only[go_sem,simprocAttr,af9,e7,V,Q,ml,hr,jK,T,hpc,agB];refine dQ 8 (λk C H'=>H'=G++[.box (bS {r with cells:=ui t h r.cells k}) none]/\C 6= .ptr (N+3) 0/\C 7= .ptr (N+4) 0/\C 8= .int .u32 y/\C 9= .ptr n 0/\C 33= .agg (arr 8 λi=>[.int .u32 (r.cells i)])/\C 34= .int .i64 k) 0 (by omega) ?_ ?_
   ·simp only[go_sem,simprocAttr,e6,e7];have:ui t h r.cells 0=r.cells:=by funext i;rw[Gq,aeu (by omega)]
    rw[this]
   ·rintro k hk C H' ⟨rfl,a6,a7,a8,a9,F,E⟩ n' HI;simp only[bO,go_sem,simprocAttr,af8,a7,F,E];refine⟨λhc=>?_,λhc=>?_⟩
    ·have l:k<8:=by omega
     have w:qG false 8 1 (.agg (arr 8 λi=>[AV.int .u32 (r.cells i)])) (.int .i64 (k:Nat))=some (.int .u32 (r.cells k)):=
      S7 l (by have:=jG (ag:=false) (m:=1) (n:=8) (k:=1) (i:=k) (o:=0) (f:=λi=>[AV.int .u32 (r.cells i)]) (λ_=>rfl) l (by omega) (by omega);rw[agr]at this;rw[this];rfl)
     have v:=atL t I hT h (r.cells k) hh (B.cells k) (N+1) N (G++[.box (bS {r with cells:=ui t h r.cells k}) none]) (f0 _) (f1 _) none;have c:=atM t h r.cells k;cases ho:vI t h (r.cells k)
     ·rw[ho]at c v;rw[aeu (by simp)]at c;simp(disch:=omega) only[go_sem,simprocAttr,a6,a7,a8,a9,F,E,w,f3,v];rw[c];exact⟨l,rfl⟩
     ·rw[ho]at c v;rw[aez rfl]at c;simp(disch:=omega) only[go_sem,simprocAttr,a6,a7,a8,a9,F,E,w,f3,v];have Mg:=agX (r:={r with cells:=ui t h r.cells k}) (u:=0) l;rw[c];exact⟨by omega,by omega,l,ahX (λz=>G++[ae.box z none]) Mg⟩
    ·obtain rfl:k=8:=by omega
     have Ub:=atN t h r;simp only[go_sem,simprocAttr,a7,a8,a9,f4,Ub,K,uh,oq,T];have gQ:List.drop 480 (aN s)=[]:=ah2 (by rw[iw];omega);rw[gQ,agB];refine⟨zF t h s y,?_,by omega,λi hi HW=>?_,J.symm⟩
     ·simp only[eK,eJ,alS,agr,Nat.reduceAdd];refine⟨?_,?_,?_,?_,?_⟩
      ·rw[acG (by omega)];exact f0 _
      ·rw[acG (by omega)];exact f1 _
      ·rw[acG (by omega)];exact bf Y
      ·rw[acG (by omega)];exact f3 _
      ·rw[c];exact cQ (f4 _)
     ·rw[acG (by omega),acK (by omega)]
  ·rintro e ⟨e3,e4,e6,e7⟩ s W p hp A O hg hd;simp only[eK,eJ,alS,agr,Nat.reduceAdd]at hg;obtain⟨w0,w1,Y,w3,V⟩:=hg;rw[TZ,agk]at A;have b:bT s:=by rw[A];exact T8 I h _
   have hsT:ca s:=by rw[A];exact(T9 t h _ t).tree hT
   have Gk:=λH lo=>up dw (aif s b hsT h 0 hh (by omega) H lo)
   rw[<-A]at Z;have Pp: ∀a o,((W.set (N+2) a).set p o).take N=H:=λa o=>((O.set (by omega)).set (by omega)).take U
   have M: ∀H lo,D X (.fn (.func 315) [] []) [.agg (aN s),.int .u32 h,.int .u32 0] ⟨H,lo⟩=some (.ret (vH s h 0) ⟨H,lo⟩):=Gk;simp(disch:=omega) only[F1,go_sem,simprocAttr,e3,e4,e7,w1,Y,V,M,vH,hd,lK,Pp,cV,cQ Y,Mf,Z]
  ·rintro e he ex s W p hp hJ;exact hJ.elim
structure xv(x:Ow):Prop where
 kind:x.kind<256
 aa:x.aa<256
 hold:x.hold<256
structure fQ(o:bK):Prop where
 root: ∀i,(o i).root<4294967296
 own: ∀i,xv (o i).own
def Uc:xv vx:=⟨by trivial,by trivial,by trivial⟩
def fQ.of{o:bK}(ho:fQ o)(t:aw)(h:Nat):xv (bP o t h):=by
 unfold bP;split
 ·split
  ·exact ho.own _
  ·exact Uc
 ·exact Uc
def fQ.Mh{o:bK}(ho:fQ o){t:aw}{r:Nat}{x:Ow}(b:r<4294967296)(a:xv x):fQ (gh o t r aa x).1:=by
 unfold gh;split
 ·omega
 ·split
  ·omega
  ·split
   ·omega
   ·refine⟨λi=>?_,λi=>?_⟩
    ·show(au o (aR r) ⟨r,x⟩ i).root<_;by_cases e:i=aR r
     ·rw[e,cw];exact b
     ·rw[cR e];exact ho.root i
    ·show xv (au o (aR r) ⟨r,x⟩ i).own;by_cases e:i=aR r
     ·rw[e,cw];exact a
     ·rw[cR e];exact ho.own i
def z7(aa:Nat):iD aa<256:=by
 unfold iD;have:2^(aa % 8)<=2^7:=Nat.pow_le_pow_right (by omega) (by omega);omega
def aCG(b:a<256): (BitVec.ofInt 8 (a:Int)).toNat=a:=by grind
def Mi(d:a<256)(c:b<256):dp .and (.int .u8 (a:Nat)) (.int .u8 (b:Nat))=some (.int .u8 ((a&&&b:Nat):Int)):=by
 rw[D0];have e: (BitVec.ofInt IntKind.u8.bits (a:Int)&&&BitVec.ofInt IntKind.u8.bits (b:Int)).toNat=a&&&b:=by
  show(BitVec.ofInt 8 (a:Int)&&&BitVec.ofInt 8 (b:Int)).toNat=_
  grind
 have f:a&&&b<=a:=Nat.and_le_left;rw[e,wrap_u8 (by omega) (by omega)]
def atU(d:a<256)(c:b<256):dp .xor (.int .u8 (a:Nat)) (.int .u8 (b:Nat))=some (.int .u8 ((a^^^b:Nat):Int)):=by
 rw[O5];have e: (BitVec.ofInt IntKind.u8.bits (a:Int)^^^BitVec.ofInt IntKind.u8.bits (b:Int)).toNat=a^^^b:=by
  show(BitVec.ofInt 8 (a:Int)^^^BitVec.ofInt 8 (b:Int)).toNat=_
  grind
 have f:a^^^b<2^8:=az3 (by omega) (by omega);rw[e,wrap_u8 (by omega) (by omega)]
theorem aik{k:Nat}:x&&&2^k=0↔x.testBit k=false:=by
 constructor
 ·intro h;have: (x&&&2^k).testBit k=false:=by grind
  grind
 ·intro h;apply Nat.eq_of_testBit_eq
  grind
def ail:decide (¬((x&&&iD aa:Nat):Int)=0)=mO x aa:=by
 unfold mO iD;cases h:x.testBit (aa % 8)
 ·rw[aik.2 h];simp
 ·grind [aik]
def Ud(aa:Nat)(f:aa<4611686018427387904)(H:List ae)(lo:oN):D X0 (.fn (.func 106) [] []) [.int .i64 aa] ⟨H,lo⟩=some (.ret (.int .u8 (iD aa:Nat)) ⟨H,lo⟩):=by
 refine aH Q2 λN h=>?_
 have e:dp .and (.int .i64 (aa:Nat)) (.int .i64 7)=some (.int .i64 ((aa % 8:Nat):Int)):=by
  rw[D0];have e: (BitVec.ofInt IntKind.i64.bits (aa:Int)&&&BitVec.ofInt IntKind.i64.bits 7).toNat=aa % 8:=by
   show(BitVec.ofInt 64 (aa:Int)&&&BitVec.ofInt 64 7).toNat=_;have c: (BitVec.ofInt 64 (aa:Int)).toNat=aa:=by grind
   have b: (BitVec.ofInt 64 7).toNat=2^3-1:=by rfl
   rw[BitVec.toNat_and,c,b,aAL]
  rw[e,wrap_i64 (by omega) (by omega)]
 have g:=z7 aa;have d:k0 .shl (.int .u8 1) (.int .i64 ((aa % 8:Nat):Int))=some (.int .u8 (iD aa:Nat)):=by
  rw[A4,aez (by omega)];have: (1:Int)*2^(min ((aa % 8:Nat):Int).toNat IntKind.u8.bits)=(iD aa:Nat):=by
   have a:IntKind.u8.bits=8:=rfl;rw[a,aAH,aqC (by omega),Int.one_mul];unfold iD;simp
  rw[this,wrap_u8 (by omega) (by omega)]
 simp(disch:=omega) only[F1,go_sem,simprocAttr,Q2,e,d]
def z9(o:bK)(ho:fQ o)(t:aw)(p:bT t)(n:ca t)(h:Nat)(m:h<4294967296)(H:List ae)(lo:oN):
  D X0 (.fn (.func 20) [] []) [.agg (cP o),.agg (aN t),.int .u32 h] ⟨H,lo⟩=some (.ret (.agg (jZ (bP o t h))) ⟨H,lo⟩):=by
 refine aH Fl λN k=>?_
 have a:=xn t p n h m;have b:=asK (h:=h) n m;have f:bP o t h=match eY (root t h)with|some i=>if(o i).root=root t h then(o i).own else vx|none=>vx:=rfl
 cases d:eY (root t h)with
 |none=>
  rw[d]at f;have e1:bP o t h=vx:=f;simp only[F1,go_sem,simprocAttr,Fl,k,a,j4 (root t h) b,iX,d,e1];rfl
 |some i=>
  rw[d]at f;have j:=agL d;have e: (i:Int)<32:=by omega
  by_cases l: (o i).root=root t h
  ·have c: (((o i).root:Nat):Int)=(root t h:Nat):=by omega
   have e1:bP o t h=(o i).own:=by rw[f];exact aez l
   have g:jZ (o i).own=[.int .u8 (o i).own.kind,.int .u8 (o i).own.aa,.int .u8 (o i).own.hold]:=rfl;simp only[F1,go_sem,simprocAttr,Fl,k,a,j4 (root t h) b,iX,d,e1,e,ag0 j,c,arZ j,g]
  ·have c: ¬(((o i).root:Nat):Int)=(root t h:Nat):=by omega
   have e1:bP o t h=vx:=by rw[f];exact aeu l
   simp only[F1,go_sem,simprocAttr,Fl,k,a,j4 (root t h) b,iX,d,e1,e,ag0 j,c];rfl
def lM(o:bK)(t:aw)(r aa:Nat)(x:Ow):AV:=.ax [.agg (cP (gh o t r aa x).1),.int .i64 (gh o t r aa x).2]
theorem atV:uS.length=128:=by rfl
theorem atW:List.drop 128 uS=[]:=by rfl
def gO:type_of% atV/\type_of% atW:=by decide
def Gr(o:bK)(t:aw)(v:bT t)(A:ca t)(r:Nat)(k:r<4294967296)(aa:Nat)(u:aa<4611686018427387904)(x:Ow)(H:List ae)(lo:oN):
  D X0 (.fn (.func 316) [] []) [.agg (cP o),.agg (aN t),.int .u32 r,.int .i64 aa,.agg (jZ x)] ⟨H,lo⟩=some (.ret (lM o t r aa x) ⟨H,lo⟩):=by
 refine aH B6 λN i=>?_
 have c:=xn t v A r k;have a:=eP t.b r k;have m: ∀h,az t.b h=t.az h:=λh=>rfl
 simp only[m]at a;have z:=zH r;have l: (aR r:Int)<32:=by omega
 have y:iX r= .ax [.int .i64 (aR r:Nat),.bool (eY r).isSome]:=rfl;have b:gh o t r aa x=if t.az r=false then(o,4)else if root t r≠r then(o,12)else if 8<=aa then(o,2)else(au o (aR r) ⟨r,x⟩,0):=rfl
 have d:jZ x=[.int .u8 x.kind,.int .u8 x.aa,.int .u8 x.hold]:=rfl;cases g:t.az r with
 |false=>
  rw[aez g]at b;rw[g]at a;simp only[F1,go_sem,simprocAttr,B6,i,a,lM,b,gO,d]
 |true=>
  rw[aeu (by rw[g];simp)]at b;rw[g]at a;by_cases q:root t r=r
  ·rw[aeu (by simpa using q)]at b;rw[q]at c;by_cases s:8<=aa
   ·rw[aez s]at b;have f: (aa:Int)>=8:=by omega
    have n: ¬(aa:Int)<0:=by omega
    simp only[F1,go_sem,simprocAttr,B6,i,a,c,f,n,lM,b,gO,d]
   ·rw[aeu s]at b;have f: ¬(aa:Int)>=8:=by omega
    have n: ¬(aa:Int)<0:=by omega
    have e:=ar0 (w:=o) (x:=⟨r,x⟩) z;have j:sQ ⟨r,x⟩=[.int .u32 r,.int .u8 x.kind,.int .u8 x.aa,.int .u8 x.hold]:=rfl;rw[j]at e;simp only[F1,go_sem,simprocAttr,B6,i,a,c,f,n,lM,b,gO,d,j4 r k,y,l,e];omega
  ·rw[aez q]at b;have p: ¬((root t r:Nat):Int)=(r:Nat):=by omega
   simp only[F1,go_sem,simprocAttr,B6,i,a,c,p,lM,b,gO,d]
section
variable(o:bK)(t:aw)(ht:bT t)(hT:ca t)(r:Nat)(hr:r<4294967296)(aa:Nat)(oQ:aa<256)(H:List ae)(lo:oN)
include ht hT hr oQ
theorem atX:D X0 (.fn (.func 305) [] []) [.agg (cP o),.agg (aN t),.int .u32 r,.int .i64 aa] ⟨H,lo⟩=some (.ret (.ax [.agg (cP (rl o t r aa).1),.int .i64 (rl o t r aa).2]) ⟨H,lo⟩):=by
 refine aH Su λN c=>?_
 have b:=Gr o t ht hT r hr aa (by omega) ⟨1,aa % 256,0⟩;have a:jZ ⟨1,aa % 256,0⟩=[.int .u8 1,.int .u8 aa,.int .u8 0]:=by rw[ane oQ];rfl
 rw[a]at b;have d:rl o t r aa=gh o t r aa ⟨1,aa % 256,0⟩:=rfl;simp(disch:=omega) only[F1,go_sem,simprocAttr,Su,c,b,lM,gO,d]
theorem atY:D X0 (.fn (.func 288) [] []) [.agg (cP o),.agg (aN t),.int .u32 r,.int .i64 aa] ⟨H,lo⟩=some (.ret (.ax [.agg (cP (zG o t r aa).1),.int .i64 (zG o t r aa).2]) ⟨H,lo⟩):=by
 refine aH Sq λN d=>?_
 have b:=Gr o t ht hT r hr aa (by omega) ⟨3,0,iD aa⟩;have a:jZ ⟨3,0,iD aa⟩=[.int .u8 3,.int .u8 0,.int .u8 (iD aa)]:=rfl;rw[a]at b;have e:zG o t r aa=gh o t r aa ⟨3,0,iD aa⟩:=rfl;have c:=Ud aa (by omega);simp only[F1,go_sem,simprocAttr,Sq,d,b,c,lM,gO,e]
end
def atZ(o:bK)(t:aw)(ht:bT t)(hT:ca t)(r:Nat)(hr:r<4294967296)(H:List ae)(lo:oN):
  D X0 (.fn (.func 295) [] []) [.agg (cP o),.agg (aN t),.int .u32 r] ⟨H,lo⟩=some (.ret (.ax [.agg (cP (xe o t r).1),.int .i64 (xe o t r).2]) ⟨H,lo⟩):=by
 refine aH Ss λN b=>?_
 have a: ∀H lo,D X0 (.fn (.func 316) [] []) [.agg (cP o),.agg (aN t),.int .u32 r,.int .i64 0,.agg [.int .u8 2,.int .u8 0,.int .u8 0]] ⟨H,lo⟩=_:=Gr o t ht hT r hr 0 (by omega) ⟨2,0,0⟩;have c:xe o t r=gh o t r 0 ⟨2,0,0⟩:=rfl;simp only[F1,go_sem,simprocAttr,Ss,b,a,lM,gO,c]
theorem aim{o:bK}:List.drop 128 (cP o)=[]:=by rfl
def qn(o:bK)(t:aw)(r aa:Nat)(hold:Bool):AV:=.ax [.agg (cP (dH o t r aa hold).1),.int .u8 (dH o t r aa hold).2.1,.int .i64 (dH o t r aa hold).2.2]
def at0{o:bK}{t:aw}{r:Nat}{x y:Ow}(h: (gh o t r aa x).2=0):gh (gh o t r aa x).1 t r aa y=gh o t r aa y:=by
 unfold gh at h⊢;split at h
 ·cases h
 ·simp_all[aeu,sP]
def at1(o:bK)(t:aw)(r aa:Nat)(x:Ow): (gh o t r aa x).2=if t.az r=false then 4 else if root t r≠r then 12 else if 8<=aa then 2 else 0:=by
 unfold gh
 grind
def ain(o:bK)(ho:fQ o)(t:aw)(ht:bT t)(hT:ca t)(r:Nat)(hr:r<4294967296)(aa:Nat)(oQ:aa<256)(hold:Bool)(H:List ae)(lo:oN):
  D X0 (.fn (.func 317) [] []) [.agg (cP o),.agg (aN t),.int .u32 r,.int .i64 aa,.bool hold] ⟨H,lo⟩=some (.ret (qn o t r aa hold) ⟨H,lo⟩):=by
 refine aH rf λN l=>?_
 have c:=z9 o ho t ht hT r hr;have k:=Ud aa (by omega);have d:=xn t ht hT r hr;have b:=eP t.b r hr;have C: ∀h,az t.b h=t.az h:=λh=>rfl
 simp only[C]at b;have s:=ho.of t r;have g:dH o t r aa hold=(let x:=bP o t r
  let e:=(gh o t r aa x).2
  if e=4\/ (t.az r=true/\root t r≠r)then(o,0,e)
  else if x.kind≠3 then(o,0,12)
  else if e≠0 then(o,0,e)
  else if mO x.hold aa&&hold then(o,0,7)
  else if !mO x.hold aa&& !hold then(o,0,5)
  else((gh o t r aa {x with hold:=x.hold^^^iD aa}).1,x.hold^^^iD aa,(gh o t r aa {x with hold:=x.hold^^^iD aa}).2)):=rfl
 generalize G:bP o t r=x at*;have j:=Gr o t ht hT r hr aa (by omega) x;have a:=at1 o t r aa x;have B:jZ x=[.int .u8 x.kind,.int .u8 x.aa,.int .u8 x.hold]:=rfl;have hand:=Mi s.hold (z7 aa);have f:=ail (x:=x.hold) (aa:=aa);rw[B]at j c;simp only at g;cases z:t.az r with
 |false=>
  rw[aez z]at a;rw[a,aez (.inl rfl)]at g;rw[z]at b;simp only[F1,go_sem,simprocAttr,rf,l,c,j,lM,a,k,hand,f,gO,qn,g]
 |true=>
  rw[aeu (by rw[z];simp)]at a;rw[z]at b;by_cases q:root t r=r
  ·rw[aeu (by simpa using q)]at a;rw[q]at d;by_cases E:x.kind=3
   ·have i:decide (¬(x.kind:Int)=3)=false:=aeC (by omega);by_cases A:8<=aa
    ·rw[aez A]at a;rw[a,aeu (by simp[q]),aeu (by simpa using E),aez (by omega)]at g;simp only[F1,go_sem,simprocAttr,rf,l,b,d,c,j,lM,a,k,hand,f,i,gO,qn,g]
    ·rw[aeu A]at a;rw[a,aeu (by simp[q]),aeu (by simpa using E),aeu (by omega)]at g;have p:=Gr (gh o t r aa x).1 t ht hT r hr aa (by omega) {x with hold:=x.hold^^^iD aa};have v:jZ {x with hold:=x.hold^^^iD aa}=[.int .u8 x.kind,.int .u8 x.aa,.int .u8 (x.hold^^^iD aa:Nat)]:=rfl;have u:=at0 (y:={x with hold:=x.hold^^^iD aa}) a;have w: (N+1 !=N)=true:=by simp
     have m:=atU s.hold (z7 aa);rw[v]at p;cases n:mO x.hold aa<;>cases hold
     ·rw[n,aeu (by simp),aez (by simp)]at g;simp only[F1,go_sem,simprocAttr,rf,l,b,d,c,j,lM,a,k,hand,f,n,i,gO,qn,g]
     ·rw[n,aeu (by simp),aeu (by simp)]at g;simp only[F1,go_sem,simprocAttr,rf,l,b,d,c,j,lM,a,k,hand,f,n,i,gO,qn,g,m,p,u,aim,w,aqF]
     ·rw[n,aeu (by simp),aeu (by simp)]at g;simp only[F1,go_sem,simprocAttr,rf,l,b,d,c,j,lM,a,k,hand,f,n,i,gO,qn,g,m,p,u,aim,w,aqF]
     ·rw[n,aez (by simp)]at g;simp only[F1,go_sem,simprocAttr,rf,l,b,d,c,j,lM,a,k,hand,f,n,i,gO,qn,g]
   ·have i: ¬(x.kind:Int)=3:=by omega
    rw[aeu (by rw[a];simp[q];split<;>simp),aez E]at g;by_cases A:8<=aa
    ·rw[aez A]at a;simp only[F1,go_sem,simprocAttr,rf,l,b,d,c,j,lM,a,k,hand,f,i,gO,qn,g]
    ·rw[aeu A]at a;simp only[F1,go_sem,simprocAttr,rf,l,b,d,c,j,lM,a,k,hand,f,i,gO,qn,g]
  ·rw[aez q]at a;have F: ¬((root t r:Nat):Int)=(r:Nat):=by omega
   rw[aez (.inr ⟨z,q⟩),a]at g;simp only[F1,go_sem,simprocAttr,rf,l,b,d,F,c,j,lM,a,k,hand,f,gO,qn,g]
def aio(o:bK)(ho:fQ o)(t:aw)(ht:bT t)(hT:ca t)(r:Nat)(hr:r<4294967296)(aa:Nat)(oQ:aa<256)(H:List ae)(lo:oN):
  D X0 (.fn (.func 291) [] []) [.agg (cP o),.agg (aN t),.int .u32 r,.int .i64 aa] ⟨H,lo⟩=some (.ret (.ax [.agg (cP (dH o t r aa true).1),.int .i64 (dH o t r aa true).2.2]) ⟨H,lo⟩):=by
 refine aH Sr λN b=>?_
 have a:=ain o ho t ht hT r hr aa oQ true;simp only[F1,go_sem,simprocAttr,Sr,b,a,qn,gO]
def Gs(x:Nat):Nat:=(IV.getD x 0).toNat
def at2: ∀x,x<256->(Gs x=0↔x=0):=by decide
def aip{o:bK}(ho:fQ o){t:aw}{r:Nat}{hold:Bool}: (dH o t r aa hold).2.1<256:=by
 unfold dH;simp only;split
 ·simp
 ·split
  ·simp
  ·split
   ·simp
   ·split
    ·simp
    ·split
     ·simp
     ·exact az3 (n:=8) (ho.of t r).hold (z7 aa)
def at3(o:bK)(ho:fQ o)(t:aw)(ht:bT t)(hT:ca t)(r:Nat)(hr:r<4294967296)(aa:Nat)(oQ:aa<256)(H:List ae)(lo:oN):
  D X0 (.fn (.func 318) [] []) [.agg (cP o),.agg (aN t),.int .u32 r,.int .i64 aa] ⟨H,lo⟩=some (.ret (.ax [.agg (cP (dH o t r aa false).1),.int .i64 (Gs (dH o t r aa false).2.1),.int .i64 (dH o t r aa false).2.2]) ⟨H,lo⟩):=by
 refine aH Sy λN b=>?_
 have e:=ain o ho t ht hT r hr aa oQ false;have c:=aip ho (t:=t) (r:=r) (aa:=aa) (hold:=false);have a: ∀H lo,D X0 (.fn (.func 341) [] []) [.int .u8 ((dH o t r aa false).2.1:Nat)] ⟨H,lo⟩=some (.ret (.int .i64 (Gs (dH o t r aa false).2.1:Nat)) ⟨H,lo⟩):=by
  intro H lo;generalize(dH o t r aa false).2.1=x at*;refine aH SO λN b=>?_
  have d:IV.length=256:=by rfl
  have f:=UInt8.toNat_lt (IV.getD x 0);simp(disch:=omega) only[F1,go_sem,simprocAttr,SO,d];exact⟨by omega,rfl⟩
 simp only[F1,go_sem,simprocAttr,Sy,b,e,qn,a,gO]
structure uj(x:Tok):Prop where
 aQ:x.aQ<4294967296
 ji:x.ji<256
 to:x.to<256
 aS:x.aS<4294967296
structure gW(k:bq):Prop where
 b:hY k.b
 lt: ∀i,(k.b i).fe=true->i<16
 t: ∀i,uj (k.t i)
def aiq:uj LM:=⟨by trivial,by trivial,by trivial,by trivial⟩
def gW.get{k:bq}(a:gW k)(h:Nat):uj (cn k h).1:=by
 unfold cn;split
 ·exact a.t _
 ·exact aiq
def gW.slot{k:bq}(a:gW k)(b:az k.b h=true):aR h<16:=by
 obtain⟨_,e,_⟩:=Cc b;exact a.lt _ (by rw[e])
def CD(k:bq)(j:gW k)(h:Nat)(f:h<4294967296)(H:List ae)(lo:oN):
  D X0 (.fn (.func 83) [] []) [.agg (ch k),.int .u32 h] ⟨H,lo⟩=some (.ret (.ax [.agg (fO (cn k h).1),.int .i64 (cn k h).2]) ⟨H,lo⟩):=by
 refine aH KD λN g=>?_
 have a:=eP k.b h f;have i:iX h= .ax [.int .i64 (aR h:Nat),.bool (eY h).isSome]:=rfl;cases d:az k.b h with
 |false=>
  rw[d]at a;have e:cn k h=(LM,4):=by unfold cn;grind
  simp only[F1,go_sem,simprocAttr,KD,g,a,e];rfl
 |true=>
  rw[d]at a;have e:cn k h=(k.t (aR h),0):=by unfold cn;grind
  have l:=j.slot d;have c: (aR h:Int)<16:=by omega
  have b:fO (k.t (aR h))=[.int .u32 (k.t (aR h)).aQ,.int .u8 (k.t (aR h)).ji,.int .u8 (k.t (aR h)).to,.bool (k.t (aR h)).mu,.int .u32 (k.t (aR h)).aS]:=rfl;simp only[F1,go_sem,simprocAttr,KD,g,a,e,j4 h f,i,c,ar2 l,b]
def Ue(k:bq)(h:Nat)(d:h<4294967296)(H:List ae)(lo:oN):
  D X0 (.fn (.func 343) [] []) [.agg (ch k),.int .u32 h] ⟨H,lo⟩=some (.ret (.bool (nv k h)) ⟨H,lo⟩):=by
 refine aH Lz λN c=>?_
 have b:=eP k.b h d;by_cases e:h=0
 ·have a: (h:Int)=0:=by omega
  simp only[F1,go_sem,simprocAttr,Lz,c,a,nv]
  grind
 ·have a: ¬(h:Int)=0:=by omega
  simp only[F1,go_sem,simprocAttr,Lz,c,a,b,nv]
  grind
def air{N:Nat}{A A' P M:List ae}{ty:TypeId}(h:aP N (A++P) v sz ty af)(b:A'.length=A.length)(c:A.length<=N):aP N (A'++(P++M)) v sz ty af:=by
 obtain⟨a,d⟩:=h;refine⟨a,?_⟩
 grind
def vJ(k:bq)(p:Tok->Bool)(n:Nat):lN:=((bo k.b).take n).filter λh=>p (cn k h).1
def at4{k:bq}{p:Tok->Bool}(h:n< (bo k.b).length):vJ k p (n+1)=if p (cn k ((bo k.b).getD n default)).1 then vJ k p n++[(bo k.b).getD n default]else vJ k p n:=by
 unfold vJ;rw[agu,adQ h,aoU,getD_eq h]
 grind
def at5{k:bq}{p:Tok->Bool}: (vJ k p n).length<=n:=agD (ahK _ _) (by grind)
def jL{S:Type}(k:bq)(f:S->Tok->S)(s:S)(n:Nat):S:=((bo k.b).take n).foldl (λs h=>f s (cn k h).1) s
def at6{S:Type}{k:bq}{f:S->Tok->S}{s:S}(h:n< (bo k.b).length):jL k f s (n+1)=f (jL k f s n) (cn k ((bo k.b).getD n default)).1:=by
 unfold jL;rw[agu,adQ h,amG,getD_eq h];rfl
def Mj{S:Type}(k:bq)(W:gW k)(fv:AV)(p:Tok->Bool)(f:S->Tok->S)(c:S)(N:Nat)(b:S->List ae)(r: ∀s,(b s).length=N)
  (hf: ∀s x L,uj x->D X fv [.agg (fO x)] ⟨b s++L,none⟩=some (.ret (.bool (p x)) ⟨b (f s x)++L,none⟩)) (lo:oN):
  ∃w,D X (.fn (.func 50) [] []) [.agg (ch k),fv] ⟨b c,lo⟩=some (.ret w ⟨b (jL k f c (bo k.b).length),lo⟩)/\Rv w 1 ((sU k p).map hC)/\w.refs=0:=by
 suffices hs: ∃V,D X (.fn (.func 50) [] []) [.agg (ch k),fv] ⟨b c,lo⟩=some V/\ (λV=> ∃w,V=aX.ret w ⟨b (jL k f c (bo k.b).length),lo⟩/\Rv w 1 ((sU k p).map hC)/\w.refs=0) V by
  obtain⟨V,h1,w,rfl,h2⟩:=hs;exact⟨w,h1,h2⟩
 refine cA QG λM hM=>?_
 obtain rfl:M=N:=by rw[<-hM,r]
 obtain⟨v,J,e1,Y⟩:=TW k.b W.b (M+1) (b c++[.box (ch k) none]) (by simp[r]) none;have F:D X (.fn (.func 46) [] []) [.agg (b9 k.b)] ⟨b c++[.box (ch k) none],none⟩=some _:=ql (p:=mm) rfl e1;have g:=(iZ Y none).bJ;have sd:=lC k.b;rw[aev]at F Y g;obtain⟨j,U⟩: ∃j,j=[ae.box (ch k) none]++J:=⟨_,rfl⟩;have T: ∀s L,(b s++(j++L))[M]?=some (.box (ch k) none):=λs L=>by rw[dq (r s),U];rfl
 rw[<-U]at F Y g;simp only[go_sem,simprocAttr,QG,hM,F,g];refine dQ (bo k.b).length (λn e H'=> ∃L,H'=b (jL k f c n)++(j++L)/\ (∃G,e 5=G/\aP (M+j.length) H' G 1 b8 ((vJ k p n).map hC))/\e 1=fv/\e 2= .ptr M 0/\e 12=v/\e 13= .int .i64 (bo k.b).length/\e 14= .int .i64 n) 0 (by omega) ?_ ?_
 ·simp only[go_sem,simprocAttr];exact⟨[],by simp[jL],_,rfl,aP.aq⟩
 rintro n hn e H' ⟨L,rfl,⟨G,e5,i⟩,e1,A,E,C,B⟩ n' u;have R:=T (jL k f c n);simp only[bO,go_sem,simprocAttr,afo,e5,E,C,B];refine⟨λhc=>?_,λhc=>?_⟩
 ·have l:n< (bo k.b).length:=by omega
  have O:=dY l;have gA:=(gi W.b).1 O;have q:=at4 (p:=p) l;have I:=at6 (f:=f) (s:=c) l;have K:Rd ⟨b (jL k f c n)++(j++L),none⟩ v 1 ((bo k.b).map hC):=iZ (air Y (by rw[r,r]) (by rw[r];omega)) none;have y:=λH lo=>up dw (CD k W ((bo k.b).getD n default) (fF gA) H lo)
  have Z:=W.get ((bo k.b).getD n default);have m:=hf (jL k f c n) (cn k ((bo k.b).getD n default)).1 (j++(L++[.box (fO (cn k ((bo k.b).getD n default)).1) none])) Z;generalize hh: (bo k.b).getD n default=h at*;generalize hx: (cn k h).1=x at*;have t:fO x=[.int .u32 x.aQ,.int .u8 x.ji,.int .u8 x.to,.bool x.mu,.int .u32 x.aS]:=rfl;have sc:=at5 (k:=k) (p:=p) (n:=n);have hA:=λ (a:Int)=>K.bW (k:=.i64) (a:=a)
  have hL:=K.cp (X:=X) (off:=0) (n:=1) (agg:=false) l;rw[hh,pH]at hL;have Q: ∀o,(b (jL k f c n)++(j++(L++[o])))[n']?=some o:=λo=>by rw[<-u,<-aev j,<-aev (b _)];simp
  have P: ∀o o',(b (jL k f c n)++(j++(L++[o]))).set n' o'=b (jL k f c n)++(j++(L++[o'])):=λo o'=>by
   have e: ∀o:ae,b (jL k f c n)++(j++(L++[o]))=(b (jL k f c n)++(j++L))++[o]:=λo=>by simp
   rw[e,e,<-u,aqu _ _ (ae0 _)];simp
  have d:aP (M+j.length) (b (f (jL k f c n) x)++(j++(L++[.box (fO x) none]))) G 1 b8 ((vJ k p n).map hC):=by
   have:=air (A':=b (f (jL k f c n) x)) (M:=[.box (fO x) none]) i (by rw[r,r]) (by rw[r];omega);rwa[aev]at this
  cases hp:p x
  ·rw[hp]at m q;rw[t]at m d;simp(disch:=omega) only[go_sem,simprocAttr,e1,A,e5,E,C,B,hA,hL,R,y,u,t,Q,P,m,aev,q,I];exact⟨by omega,l,_,rfl,G,rfl,d⟩
  ·rw[hp]at m q;rw[t]at m d;simp only[go_sem,simprocAttr,e1,A,e5,hA,hL,R,y,u,t,Q,P,m,aev];refine⟨by omega,pE (H0:=b (f (jL k f c n) x)++j) (ys:=[[.int .u32 (h:Nat)]]) d ⟨_,aev _ _ _⟩ (by simp[r]) (by omega) (by intro el pt;rw[ae5.1 pt];rfl) rfl (by unfold room;simp;omega) λv' H2 z yI=>?_⟩;obtain⟨L2,rfl⟩:=yI;simp(disch:=omega) only[go_sem,simprocAttr,e1,A,E,C,B];rw[aez rfl]at q;refine⟨l,L2,by rw[I],v',rfl,?_⟩;rw[q,agp];rwa[aev]at z
 ·obtain rfl:n=(bo k.b).length:=by omega
  have ht:vJ k p (bo k.b).length=sU k p:=by unfold vJ sU;rw[agk]
  rw[ht]at i;have h0:cb ((sU k p).map hC)=0:=bB (λ_=>rfl) _;rw[aP.D5 (aP.le i (by omega)) (by omega)];refine⟨_,dk rfl (aop (r _)),i.pG,cL i.pG h0⟩
theorem nH(x:Tok):fO x=[.int .u32 x.aQ,.int .u8 x.ji,.int .u8 x.to,.bool x.mu,.int .u32 x.aS]:=rfl
theorem oR{N:Nat}{H:List ae}(h:v.refs=0):finish N lo v ⟨H,none⟩=(v,⟨H.take N,lo⟩):=iG (.inl rfl) (by omega)
def at7(aQ:Nat)(x:Tok)(p:Nat)(H:List ae)(a:H[p]?=some (.box [.int .u32 (aQ:Nat)] none))(lo:oN):
  D X (.fn (.func 346) [] [.ptr p 0]) [.agg (fO x)] ⟨H,lo⟩=some (.ret (.bool (decide (x.aQ=aQ))) ⟨H,lo⟩):=by
 refine fj SQ λN b=>?_
 have c: ∀L,(H++L)[p]?=_:=λL=>bf a
 simp only[F1,go_sem,simprocAttr,SQ,b,nH,c];exact dk (ahX AV.bool (agv.2 (by omega))) rfl
def aua(aa:Nat)(x:Tok)(a:uj x)(p:Nat)(H:List ae)(b:H[p]?=some (.box [.int .i64 (aa:Nat)] none))(lo:oN):
  D X (.fn (.func 51) [] [.ptr p 0]) [.agg (fO x)] ⟨H,lo⟩=some (.ret (.bool (decide (x.to=aa))) ⟨H,lo⟩):=by
 refine fj QH λN c=>?_
 have d: ∀L,(H++L)[p]?=_:=λL=>bf b
 have:=a.to;simp(disch:=omega) only[F1,go_sem,simprocAttr,QH,c,nH,d];exact dk (ahX AV.bool (agv.2 (by omega))) rfl
def Uf(k:bq)(hk:gW k)(aQ:Nat)(H:List ae)(lo:oN):
  ∃w,D X (.fn (.func 336) [] []) [.agg (ch k),.int .u32 aQ] ⟨H,lo⟩=some (.ret w ⟨H,lo⟩)/\Rv w 1 ((nw k aQ).map hC)/\w.refs=0:=by
 obtain⟨N,c⟩: ∃N,H.length=N:=⟨_,rfl⟩;obtain⟨w,e1,b,e3⟩:=Mj (S:=Unit) k hk (.fn (.func 346) [] [.ptr (N+1) 0]) (λx=>decide (x.aQ=aQ)) (λs _=>s) () (N+2) (λ_=>H++[.box (ch k) none,.box [.int .u32 aQ] none]) (λ_=>by grind)
  (λs x L _=>at7 aQ x (N+1) _ (by grind) none) none
 refine⟨w,?_,b,e3⟩;refine aH SJ λM a=>?_
 obtain rfl:M=N:=by omega
 simp only[go_sem,simprocAttr,SJ,a,e1];rw[oR e3,kj a]
def Ug(k:bq)(hk:gW k)(aa:Nat)(H:List ae)(lo:oN):
  ∃w,D X (.fn (.func 22) [] []) [.agg (ch k),.int .i64 aa] ⟨H,lo⟩=some (.ret w ⟨H,lo⟩)/\Rv w 1 ((sX k aa).map hC)/\w.refs=0:=by
 obtain⟨N,d⟩: ∃N,H.length=N:=⟨_,rfl⟩;obtain⟨w,e1,c,e3⟩:=Mj (S:=Unit) k hk (.fn (.func 51) [] [.ptr (N+1) 0]) (λx=>decide (x.to=aa)) (λs _=>s) () (N+2) (λ_=>H++[.box (ch k) none,.box [.int .i64 aa] none]) (λ_=>by grind)
  (λs x L b=>aua aa x b (N+1) _ (by grind) none) none
 refine⟨w,?_,c,e3⟩;refine aH Qw λM a=>?_
 obtain rfl:M=N:=by omega
 simp only[go_sem,simprocAttr,Qw,a,e1];rw[oR e3,kj a]
theorem ais{α:Type}(q:α->Bool): ∀ (l:List α) (s:Bool),l.foldl (λs x=>s||q x) s=(s||l.any q)
 | [],s=>by simp
 |x::xs,s=>by rw[ayG,ais q xs,List.any_cons,Bool.or_assoc]
def aub(k:bq)(aQ ab:Nat)(s:Bool)(x:Tok)(N:Nat)(H:List ae)(h:H.length=N)(L:List ae):
  D X (.fn (.func 348) [] [.ptr (N+1) 0,.ptr (N+2) 0,.ptr (N+3) 0]) [.agg (fO x)] ⟨H++[.box (ch k) none,.box [.int .u32 aQ] none,.box [.int .u32 ab] none,.box [.bool s] none]++L,none⟩=
    some (.ret (.bool (isRight aQ ab x)) ⟨H++[.box (ch k) none,.box [.int .u32 aQ] none,.box [.int .u32 ab] none,.box [.bool (s|| (isRight aQ ab x&&x.mu))] none]++L,none⟩):=by
 refine fj w9 λM p=>?_
 rw[aev]at p⊢;have m:M=N+4+L.length:=by rw[<-p];simp[h];omega
 have g1: ∀a b c d f,(H++(a::b::c::d::f))[N+1]?=some b:=λa b c d f=>by rw[bA h];rfl
 have g2: ∀a b c d f,(H++(a::b::c::d::f))[N+2]?=some c:=λa b c d f=>by rw[bA h];rfl
 have j: ∀a b c d f,(H++(a::b::c::d::f))[N+3]?=some d:=λa b c d f=>by rw[bA h];rfl
 have gm: ∀a b c d o,(H++(a::b::c::d:: (L++[o])))[M]?=some o:=λa b c d o=>by
  have:H++(a::b::c::d:: (L++[o]))=(H++(a::b::c::d::L))++[o]:=by simp
  rw[this,show M=(H++(a::b::c::d::L)).length by rw[m,aeZ,h];simp only[agt];omega];simp
 have i: ∀a b c d f o,(H++(a::b::c::d::f)).set (N+3) o=H++(a::b::c::o::f):=λa b c d f o=>by rw[mC h];rfl
 have tk: ∀a b c d o,(H++(a::b::c::d:: (L++[o]))).take M=H++(a::b::c::d::L):=λa b c d o=>by
  have:H++(a::b::c::d:: (L++[o]))=(H++(a::b::c::d::L))++[o]:=by simp
  rw[this];exact aop (by simp[h,m];omega)
 have q:isRight aQ ab x=(decide (x.aQ=aQ)&&decide (x.aS=ab)):=rfl;rw[q];by_cases l:x.aQ=aQ
 ·have e: (x.aQ:Int)=aQ:=by omega
  by_cases n:x.aS=ab
  ·have g: (x.aS:Int)=ab:=by omega
   cases s
   ·simp only[F1,go_sem,simprocAttr,w9,nH,g1,g2,j,i,tk,e,g,aev,ahY,ah1];simp[l,n]
   ·simp only[F1,go_sem,simprocAttr,w9,nH,g1,g2,j,i,tk,e,g,aev,ahY,ah1];simp[l,n]
  ·have g: ¬(x.aS:Int)=ab:=by omega
   cases s
   ·simp only[F1,go_sem,simprocAttr,w9,nH,g1,g2,j,i,tk,e,g,aev,ahY,ah1];simp[l,n]
   ·simp only[F1,go_sem,simprocAttr,w9,nH,g1,g2,j,i,tk,e,g,aev,ahY,ah1];simp[l,n]
 ·have e: ¬(x.aQ:Int)=aQ:=by omega
  cases s
  ·simp only[F1,go_sem,simprocAttr,w9,nH,g1,j,i,tk,e,aev,ahY,ah1];simp[l]
  ·simp only[F1,go_sem,simprocAttr,w9,nH,g1,j,i,tk,e,aev,ahY,ah1];simp[l]
def Uh(k:bq)(hk:gW k)(aQ ab:Nat)(H:List ae)(lo:oN):
  D X (.fn (.func 342) [] []) [.agg (ch k),.int .u32 aQ,.int .u32 ab] ⟨H,lo⟩=some (.ret (.ax [.int .i64 (Cb k aQ ab:Nat),.bool (sV k aQ ab)]) ⟨H,lo⟩):=by
 obtain⟨N,a⟩: ∃N,H.length=N:=⟨_,rfl⟩;obtain⟨w,e1,c,e3⟩:=Mj (S:=Bool) k hk (.fn (.func 348) [] [.ptr (N+1) 0,.ptr (N+2) 0,.ptr (N+3) 0]) (isRight aQ ab) (λs x=>s|| (isRight aQ ab x&&x.mu)) false (N+4)
  (λs=>H++[.box (ch k) none,.box [.int .u32 aQ] none,.box [.int .u32 ab] none,.box [.bool s] none]) (λ_=>by grind) (λs x L _=>aub k aQ ab s x N H a L) none
 have hm:jL k (λs x=>s|| (isRight aQ ab x&&x.mu)) false (bo k.b).length=sV k aQ ab:=by
  unfold jL sV;rw[agk,ais (λh=>isRight aQ ab (cn k h).1&& (cn k h).1.mu),aqR]
 rw[hm]at e1;refine aH SP λM b=>?_
 obtain rfl:M=N:=by rw[<-b,a]
 simp only[F1,go_sem,simprocAttr,SP,b,e1,c.bJ];rfl
section
variable(k:bq)(hk:gW k)(aQ ab:Nat)(ha:ab<4294967296)(H:List ae)(lo:oN)
include hk ha
theorem ait:D X (.fn (.func 330) [] []) [.agg (ch k),.int .u32 aQ,.int .u32 ab] ⟨H,lo⟩=some (.ret (.bool (xf k aQ ab)) ⟨H,lo⟩):=by
 refine aH Lu λN e=>?_
 have d:=Uh k hk aQ ab;have b:=λH lo=>up dw (Ue k ab ha H lo)
 have c:xf k aQ ab=(nv k ab&& !sV k aQ ab):=rfl;cases a:nv k ab
 ·rw[a]at b c;simp only[F1,go_sem,simprocAttr,Lu,e,d,b,c,ahM]
 ·rw[a]at b c;simp only[F1,go_sem,simprocAttr,Lu,e,d,b,c,alk]
theorem aiu:D X (.fn (.func 332) [] []) [.agg (ch k),.int .u32 aQ,.int .u32 ab] ⟨H,lo⟩=some (.ret (.bool (zI k aQ ab)) ⟨H,lo⟩):=by
 refine aH Lv λN e=>?_
 have d:=Uh k hk aQ ab;have b:=λH lo=>up dw (Ue k ab ha H lo)
 have c:zI k aQ ab=(nv k ab&&decide (Cb k aQ ab=0)):=rfl;cases a:nv k ab
 ·rw[a]at b c;simp only[F1,go_sem,simprocAttr,Lv,e,d,b,c,ahM]
 ·rw[a]at b c;simp only[F1,go_sem,simprocAttr,Lv,e,d,b,c,alk];simp_all
end
section
set_option maxHeartbeats 2000000
def auc(k:bq)(B:gW k)(x:Tok)(C:uj x)(H:List ae)(lo:oN):
  D X (.fn (.func 319) [] []) [.agg (ch k),.agg (fO x)] ⟨H,lo⟩=some (.ret (.int .i64 (qe k x:Nat)) ⟨H,lo⟩):=by
 refine aH jX λN p=>?_
 have j:=Uh k B x.aQ x.aS;have m:=λH lo=>up dw (Ue k x.aS C.aS H lo)
 have a:=λH lo=>up dw (CD k B x.aS C.aS H lo)
 have E:=B.get x.aS;have b:qe k x=if nv k x.aS=false then 4
  else if 8<=x.ji\/8<=x.to\/x.ji=x.to\/x.aQ=0 then 2
  else if x.aS≠0/\ ((cn k x.aS).1.aQ≠x.aQ\/ (cn k x.aS).1.to≠x.ji\/ (x.mu=true/\ (cn k x.aS).1.mu=false))then 12
  else if sV k x.aQ x.aS=true\/ (x.mu=true/\0<Cb k x.aQ x.aS)then 5
  else 0:=rfl
 generalize hu: (cn k x.aS).1=w at*;generalize K:Cb k x.aQ x.aS=n at*;have A:=nH w;have z:=nH x;rw[A]at a;rw[z];cases s:nv k x.aS with
 |false=>
  rw[aez s]at b;rw[s]at m;simp only[F1,go_sem,simprocAttr,jX,p,j,m,a,b]
 |true=>
  rw[aeu (by rw[s];simp)]at b;rw[s]at m;by_cases J:8<=x.ji
  ·rw[aez (.inl J)]at b;have d: (x.ji:Int)>=8:=by omega
   simp only[F1,go_sem,simprocAttr,jX,p,j,m,a,b,d]
  ·have d: ¬(x.ji:Int)>=8:=by omega
   by_cases I:8<=x.to
   ·rw[aez (.inr (.inl I))]at b;have e: (x.to:Int)>=8:=by omega
    simp only[F1,go_sem,simprocAttr,jX,p,j,m,a,b,d,e]
   ·have e: ¬(x.to:Int)>=8:=by omega
    by_cases G:x.ji=x.to
    ·rw[aez (.inr (.inr (.inl G)))]at b;have f:decide ((x.ji:Int)=x.to)=true:=aeD (by omega);simp only[F1,go_sem,simprocAttr,jX,p,j,m,a,b,d,e,f]
    ·have f: ¬(x.ji:Int)=x.to:=by omega
     by_cases F:x.aQ=0
     ·rw[aez (.inr (.inr (.inr F)))]at b;have g:decide ((x.aQ:Int)=0)=true:=aeD (by omega);simp only[F1,go_sem,simprocAttr,jX,p,j,m,a,b,d,e,f,g]
     ·have g: ¬(x.aQ:Int)=0:=by omega
      rw[aeu (by omega)]at b;by_cases u:x.aS=0
      ·have i:decide (¬(x.aS:Int)=0)=false:=aeC (by omega);rw[aeu (λh=>h.1 u)]at b;cases hm:sV k x.aQ x.aS
       ·rw[hm]at j b;cases r:x.mu
        ·rw[r,aeu (by simp)]at b;simp only[F1,go_sem,simprocAttr,jX,p,j,m,a,b,d,e,f,g,i]
        ·rw[r]at b;by_cases c:0<n
         ·have t: (n:Int)>0:=by omega
          rw[aez (.inr ⟨rfl,c⟩)]at b;simp only[F1,go_sem,simprocAttr,jX,p,j,m,a,b,d,e,f,g,i,t]
         ·have t: ¬(n:Int)>0:=by omega
          rw[aeu (by simp;omega)]at b;simp only[F1,go_sem,simprocAttr,jX,p,j,m,a,b,d,e,f,g,i,t]
       ·rw[hm]at j b;rw[aez (.inl rfl)]at b;simp only[F1,go_sem,simprocAttr,jX,p,j,m,a,b,d,e,f,g,i]
      ·have i: ¬(x.aS:Int)=0:=by omega
       by_cases y:w.aQ=x.aQ
       ·have l:decide (¬(w.aQ:Int)=x.aQ)=false:=aeC (by omega);by_cases v:w.to=x.ji
        ·have o:decide (¬(w.to:Int)=x.ji)=false:=aeC (by omega);cases r:x.mu
         ·rw[r,aeu (by simp[y,v])]at b;cases hm:sV k x.aQ x.aS
          ·rw[hm,aeu (by simp)]at b;rw[hm]at j;simp only[F1,go_sem,simprocAttr,jX,p,j,m,a,b,d,e,f,g,i,l,o]
          ·rw[hm]at j b;rw[aez (.inl rfl)]at b;simp only[F1,go_sem,simprocAttr,jX,p,j,m,a,b,d,e,f,g,i,l,o]
         ·cases q:w.mu
          ·rw[r,q,aez (by simp[u])]at b;simp only[F1,go_sem,simprocAttr,jX,p,j,m,a,b,d,e,f,g,i,l,o,q]
          ·rw[r,q,aeu (by simp[y,v])]at b;cases hm:sV k x.aQ x.aS
           ·rw[hm]at j b;by_cases c:0<n
            ·have t: (n:Int)>0:=by omega
             rw[aez (.inr ⟨rfl,c⟩)]at b;simp only[F1,go_sem,simprocAttr,jX,p,j,m,a,b,d,e,f,g,i,l,o,q,t]
            ·have t: ¬(n:Int)>0:=by omega
             rw[aeu (by simp;omega)]at b;simp only[F1,go_sem,simprocAttr,jX,p,j,m,a,b,d,e,f,g,i,l,o,q,t]
           ·rw[hm]at j b;rw[aez (.inl rfl)]at b;simp only[F1,go_sem,simprocAttr,jX,p,j,m,a,b,d,e,f,g,i,l,o,q]
        ·have o: ¬(w.to:Int)=x.ji:=by omega
         rw[aez ⟨u,.inr (.inl v)⟩]at b;simp only[F1,go_sem,simprocAttr,jX,p,j,m,a,b,d,e,f,g,i,l,o]
       ·have l: ¬(w.aQ:Int)=x.aQ:=by omega
        rw[aez ⟨u,.inl y⟩]at b;simp only[F1,go_sem,simprocAttr,jX,p,j,m,a,b,d,e,f,g,i,l]
end
theorem aiv:sr.length=176:=by rfl
theorem aiw:List.drop 176 sr=[]:=by rfl
theorem aix{k:bq}:List.drop 176 (ch k)=[]:=by rfl
def qo:type_of% aiv/\type_of% aiw/\type_of% @aix/\type_of% LS/\type_of% LU:=⟨aiv,aiw,@aix,LS,LU⟩
def aud(k:bq)(q:gW k)(x:Tok)(w:uj x)(H:List ae)(lo:oN):
  D X (.fn (.func 293) [] []) [.agg (ch k),.agg (fO x)] ⟨H,lo⟩=some (.ret (.ax [.agg (ch (lu k x).1),.int .u32 (lu k x).2.1,.int .i64 (lu k x).2.2]) ⟨H,lo⟩):=by
 refine aH B3 λN r=>?_
 have hm:=auc k q x w;have e:=λH lo=>up dw (ahs k.b q.b H lo)
 have a:=nH x;have d:lu k x=if qe k x≠0 then(k,0,qe k x)
  else match nu k.b with
  |some i=>if i<16 then({b:=au k.b i {k.b i with fe:=true},t:=au k.t i x},dg i (k.b i).gen,0)else(k,0,7)
  |none=>(k,0,7):=rfl
 by_cases c:qe k x=0
 ·rw[aeu (by omega)]at d;have p:decide (¬(qe k x:Int)=0)=false:=aeC (by omega);cases j:nu k.b with
  |none=>
   rw[j]at d;simp only at d;have s:=λH lo=>up dw (j4 0 (by omega) H lo)
   have m: ∀H lo,D X (.fn (.func 47) [] []) [.int .u32 0] ⟨H,lo⟩=some (.ret (iX 0) ⟨H,lo⟩):=s;have u:iX 0= .ax [.int .i64 0,.bool false]:=rfl;rw[a]at hm;rw[a];simp only[F1,go_sem,simprocAttr,B3,r,hm,p,e,ud,qc,j,m,u,qo,d]
  |some i=>
   rw[j]at d;simp only at d;obtain⟨n,A,z,y⟩:=sW j;have v:eY (dg i (k.b i).gen)=some i:=Td n (q.b i).1;have l:=λH lo=>up dw (j4 (dg i (k.b i).gen) (F7 n (q.b i).1) H lo)
   by_cases h:i<16
   ·rw[aez h]at d;have f: ¬(i:Int)>=16:=by omega
    have o: (i:Int)<16:=by omega
    have g:=ar3 (k:={k with b:=au k.b i {k.b i with fe:=true}}) (x:=x) h;rw[a]at hm g;rw[a];simp only[F1,go_sem,simprocAttr,B3,r,hm,p,e,ud,qc,j,l,iX,v,f,o,qo,ag2,g,d];exact⟨by simp,by omega⟩
   ·rw[aeu h]at d;have f: (i:Int)>=16:=by omega
    rw[a]at hm;rw[a];simp only[F1,go_sem,simprocAttr,B3,r,hm,p,e,ud,qc,j,l,iX,v,f,qo,d]
 ·rw[aez c]at d;have p: ¬(qe k x:Int)=0:=by omega
  rw[a]at hm;rw[a];simp only[F1,go_sem,simprocAttr,B3,r,hm,p,qo,d]
def aiy{k:bq}(a:gW k): ∀l,gW (ny k l):=by
 intro l
 induction l generalizing k with
 |nil=>exact a
 |cons h l b=>
  refine b ⟨F8 a.b h,λi c=>?_,a.t⟩;refine a.lt i ?_;revert c;show((eN k.b h).1 i).fe=true->_;unfold eN;split
  ·show(au k.b (aR h) (rk (k.b (aR h))) i).fe=true->_;by_cases e:i=aR h
   ·rw[e,cw];unfold rk;grind
   ·rw[cR e];exact id
  grind
def aue{k:bq}{l:lN}(h:n<l.length):ny k (l.take (n+1))={ny k (l.take n)with b:=(eN (ny k (l.take n)).b (l.getD n default)).1}:=by
 unfold ny;rw[agu,adQ h,amG,getD_eq h];rfl
def aiz(k:bq)(r:gW k)(w:AV)(l:lN)(H:List ae)(c:Rd ⟨H,none⟩ w 1 (l.map hC))(q: ∀h∈l,h<4294967296)(p:l.length<2^40)(lo:oN):
  D X (.fn (.func 323) [] []) [.agg (ch k),w] ⟨H,lo⟩=some (.ret (.agg (ch (ny k l))) ⟨H,lo⟩):=by
 refine aH SC λN t=>?_
 have a: ∀L lo,fX ⟨H++L,lo⟩ .sl w=some (.int .i64 l.length):=λL lo=>(c.ext (L:=L) (ak:=lo)).bJ
 simp only[go_sem,simprocAttr,SC,t,a];refine dQ l.length (λn e H'=>H'=H++[.box (ch (ny k (l.take n))) none,.box sr none]/\e 2= .ptr N 0/\e 4= .ptr (N+1) 0/\e 7=w/\e 8= .int .i64 l.length/\e 9= .int .i64 n) 0 (by omega) ?_ ?_
 ·trivial
 rintro n x e H' ⟨rfl,j,i,e7,e8,g⟩ v o;simp(disch:=omega) only[bO,F1,go_sem,simprocAttr,agd,j,i,e7,e8,g];refine⟨λs=>?_,λs=>?_⟩
 ·have b:n<l.length:=by omega
  have f:=aiy r (l.take n);have m:=λH lo=>up dw (aht (ny k (l.take n)).b f.b (l.getD n default) (q _ (dY b)) H lo)
  have d:=aue (k:=k) b;have u: ∀L lo,cm X ⟨H++L,lo⟩ false 1 (ef w n 0)=some (.int .u32 (l.getD n default:Nat)):=λL lo=>by rw[(c.ext (L:=L) (ak:=lo)).cp b,pH]
  simp(disch:=omega) only[go_sem,simprocAttr,c.bW,u,m,zR,ag2,j,i,e7,e8,g];exact⟨by omega,b,by rw[d]⟩
 ·obtain rfl:n=l.length:=by omega
  rw[agk];simp only[go_sem,simprocAttr,qo]
def auf(k:bq)(c:gW k)(a:Nat)(H:List ae)(lo:oN):
  D X (.fn (.func 310) [] []) [.agg (ch k),.int .u32 a] ⟨H,lo⟩=some (.ret (.agg (ch (LP k a))) ⟨H,lo⟩):=by
 refine aH Sw λN d=>?_
 obtain⟨w,e1,e,e3⟩:=Uf k c a (H++[.box (ch k) none,.box sr none]) none;have b:=λH lo=>aiz k c w (nw k a) H (e _) (λh hm=>fF ((gi c.b).1 (agy.1 hm).1)) (by have:=lC k.b;have: (nw k a).length<=_:=ahK _ _;omega) lo
 have f:ny k (nw k a)=LP k a:=rfl;simp only[F1,go_sem,simprocAttr,Sw,d,e1,b,qo,f]
def nI(h:Nat):AV×AV:=(.int .u32 h,.bool true)
def mY(a:lN)(k:Nat):lN:=if k∈a then a else a++[k]
def aiA(a b:Nat):o9 (.int .u32 a) (.int .u32 b)=some (decide (a=b)):=by
 have h:o9 (.int .u32 (a:Nat)) (.int .u32 (b:Nat))=some ((a:Int)==(b:Int)):=rfl;rw[h]
 congr 1
 grind
theorem aiB(k:Nat): ∀b:lN,eu (.int .u32 k) (b.map nI)=some (if k∈b then some (.bool true)else none)
 | []=>rfl
 |a::b=>by
  simp only[amF,nI,eu,aiA];by_cases h:k=a
  ·grind
  ·simp only[h,ax4,agF,false_or];exact aiB k b
theorem aiC(k:Nat): ∀b:lN,lU (.int .u32 k) (.bool true) (b.map nI)=some ((mY b k).map nI)
 | []=>rfl
 |a::b=>by
  simp only[amF,nI,lU,aiA];unfold mY;by_cases h:k=a
  ·subst h;simp[nI]
  ·simp only[h,ax4,agF,false_or];rw[aiC k b];unfold mY;split<;>rfl
def aug{gm:Nat->Option (List (AV×AV))}{H:List ae}{id:Nat}{a:lN}(h:H[id]?=some (.map (a.map nI)))(k:Nat):jx gm ⟨H,lo⟩ .int (.bool false) (.mp id) (.int .u32 k) false=some (.bool (a.contains k)):=by
 unfold jx;rw[aez (show kR .int (.int .u32 (k:Nat))=true from rfl)];simp only[mapOf,h,aiB]
 grind
def auh{H:List ae}{id:Nat}{a:lN}(h:H[id]?=some (.map (a.map nI)))(k:Nat):mw ⟨H,lo⟩ .int (.mp id) (.int .u32 k) (.bool true)=some ⟨H.set id (.map ((mY a k).map nI)),lo⟩:=by
 unfold mw;simp only[h,aiC];rfl
theorem aui{a:lN}{k:Nat}:x∈mY a k↔x=k\/x∈a:=by
 unfold mY
 grind
def auj{l:lN}: ∀ {b:lN} {x:Nat},x∈l.foldl mY b↔x∈l\/x∈b:=by
 induction l with
 |nil=>simp
 |cons a l c=>grind [aui]
def xw(k:bq):Nat->Nat->Prop
 |0,_=>False
 |n+1,h=> ∀x∈Ty k h,xw k n x
def dx(k:bq)(N:Nat)(H:List ae)(m:lN):List ae:=H++[.box (ch k) none,.box sr none,.map (m.map nI),.box [.mp (N+2)] none,.box [.fn (.func 321) [] [.ptr (N+3) 0,.ptr N 0,.ptr (N+4) 0]] none]
def CE{k:bq}{N:Nat}{H:List ae}(a:H.length=N)(m:lN): (dx k N H m).length=N+5:=by simp[dx,a]
def auk(h:Nat)(x:Tok)(p:Nat)(H:List ae)(a:H[p]?=some (.box [.int .u32 (h:Nat)] none))(lo:oN):
  D X (.fn (.func 322) [] [.ptr p 0]) [.agg (fO x)] ⟨H,lo⟩=some (.ret (.bool (decide (x.aS=h))) ⟨H,lo⟩):=by
 refine fj SB λN b=>?_
 have c: ∀L,(H++L)[p]?=_:=λL=>bf a
 simp only[F1,go_sem,simprocAttr,SB,b,nH,c];exact dk (ahX AV.bool (agv.2 (by omega))) rfl
def aul(k:bq)(A:gW k)(N:Nat)(H:List ae)(d:H.length=N): ∀ (n h:Nat),h<4294967296->xw k n h-> ∀ (m:lN) (L:List ae),
  D X (.fn (.func 321) [] [.ptr (N+3) 0,.ptr N 0,.ptr (N+4) 0]) [.int .u32 h] ⟨dx k N H m++L,none⟩=some (.ret (.ax []) ⟨dx k N H ((nz k n h).foldl mY m)++L,none⟩):=by
 intro n
 induction n with
 |zero=>intro h _ u;exact u.elim
 |succ n C=>
  intro h R u m L;refine fj SA λM B=>?_
  have g:M=N+5+L.length:=by rw[<-B,aeZ,CE d]
  have O: ∀m a,(dx k N H m++a)[N]?=some (.box (ch k) none):=λm a=>by unfold dx;rw[aev,dq d];rfl
  have g2: ∀m a,(dx k N H m++a)[N+2]?=some (.map (m.map nI)):=λm a=>by unfold dx;rw[aev,bA d];rfl
  have K: ∀m a,(dx k N H m++a)[N+3]?=some (.box [.mp (N+2)] none):=λm a=>by unfold dx;rw[aev,bA d];rfl
  have J: ∀m a,(dx k N H m++a)[N+4]?=some (.box [.fn (.func 321) [] [.ptr (N+3) 0,.ptr N 0,.ptr (N+4) 0]] none):=λm a=>by unfold dx;rw[aev,bA d];rfl
  have gm: ∀m o,(dx k N H m++(L++[o]))[M]?=some o:=λm o=>by
   have:M=(dx k N H m++L).length:=by rw[g,aeZ,CE d]
   rw[<-aev,this];simp
  have s2: ∀m m' a,(dx k N H m++a).set (N+2) (.map (m'.map nI))=dx k N H m'++a:=λm m' a=>by unfold dx;rw[aev,mC d,aev];rfl
  have tk: ∀m o,(dx k N H m++(L++[o])).take M=dx k N H m++L:=λm o=>by
   rw[<-aev];exact aop (by rw[g,aeZ,CE d])
  have v: ∀m a lo,mw ⟨dx k N H m++a,lo⟩ .int (.mp (N+2)) (.int .u32 (h:Nat)) (.bool true)=some ⟨dx k N H (mY m h)++a,lo⟩:=λm a lo=>by rw[auh (g2 m a),s2]
  obtain⟨w,e1,r,e3⟩:=Mj (S:=Unit) k A (.fn (.func 322) [] [.ptr M 0]) (λx=>decide (x.aS=h)) (λs _=>s) () (M+1) (λ_=>dx k N H (mY m h)++(L++[.box [.int .u32 h] none])) (λ_=>by rw[g,aeZ,CE d];simp;omega)
   (λs x a _=>auk h x M _ (bf (gm _ _)) none) none
  simp only[go_sem,simprocAttr,SA,B,O,K,gm,v,e1,r.bJ,aev];obtain⟨b,c⟩: ∃b,b=Ty k h:=⟨_,rfl⟩;have i:sU k (λx=>decide (x.aS=h))=b:=c.symm;rw[i]at r⊢;have F:b.length<=32:=by rw[c];exact agD (ahK _ _) (lC k.b)
  have z: ∀j,j<b.length->(b.take (j+1)).flatMap (nz k n)=(b.take j).flatMap (nz k n)++nz k n (b.getD j default):=λj y=>by
   rw[agu,adQ y,amL,getD_eq y];simp
  refine dQ b.length (λj e H'=>H'=dx k N H (((b.take j).flatMap (nz k n)).foldl mY (mY m h))++(L++[.box [.int .u32 h] none])/\e 3= .ptr (N+4) 0/\e 11=w/\e 12= .int .i64 b.length/\e 13= .int .i64 j) 0 (by omega) ?_ ?_
  ·simp only[go_sem,simprocAttr];simp
  rintro j y e H' ⟨rfl,P,q,p,l⟩ Q E;simp only[bO,F1,go_sem,simprocAttr,agc,q,p,l];refine⟨λI=>?_,λI=>?_⟩
  ·have f:j<b.length:=by omega
   have hm:=dY f;have t:az k.b (b.getD j default)=true:=(gi A.b).1 (by rw[c]at hm⊢;exact(agy.1 hm).1);have G:=C (b.getD j default) (fF t) (u _ (by rw[c]at hm⊢;exact hm)) (((b.take j).flatMap (nz k n)).foldl mY (mY m h)) (L++[.box [.int .u32 h] none]);simp(disch:=omega) only[go_sem,simprocAttr,r.bW,r.cp,↓pH,P,q,p,l,J,G];refine⟨by omega,f,?_⟩;rw[z j f,amG]
  ·obtain rfl:j=b.length:=by omega
   rw[agk];simp only[go_sem,simprocAttr,tk];rw[c];rfl
def xx(k:bq)(h n:Nat):lN:=((bo k.b).take n).filter λx=>(nz k 16 h).contains x
def aum{k:bq}(a:n< (bo k.b).length):xx k h (n+1)=if(nz k 16 h).contains ((bo k.b).getD n default)then xx k h n++[(bo k.b).getD n default]else xx k h n:=by
 unfold xx;rw[agu,adQ a,aoU,getD_eq a]
 grind
def aun{k:bq}: (xx k h n).length<=n:=agD (ahK _ _) (by grind)
def aiD(k:bq)(A:gW k)(h:Nat)(Y:h<4294967296)(ht:az k.b h=true->xw k 16 h)(H:List ae)(lo:oN):
  ∃w,D X (.fn (.func 294) [] []) [.agg (ch k),.int .u32 h] ⟨H,lo⟩=some (.ret (.ax [.agg (ch (mP k h).1),w,.int .i64 (mP k h).2.2]) ⟨H,lo⟩):=by
 suffices hs: ∃z,D X (.fn (.func 294) [] []) [.agg (ch k),.int .u32 h] ⟨H,lo⟩=some z/\ (λz=> ∃w,z=aX.ret (.ax [.agg (ch (mP k h).1),w,.int .i64 (mP k h).2.2]) ⟨H,lo⟩) z by
  obtain⟨z,h1,w,rfl⟩:=hs;exact⟨w,h1⟩
 refine cA Lm λN c=>?_
 have j:=λH lo=>up dw (eP k.b h Y H lo)
 cases y:az k.b h with
 |false=>
  rw[y]at j;have V:mP k h=(k,[],4):=by unfold mP;rw[y];rfl
  simp only[F1,go_sem,simprocAttr,Lm,c,j,qo,V];exact⟨_,rfl⟩
 |true=>
  rw[y]at j;have V:mP k h=(ny k (rm k h),rm k h,0):=by unfold mP;rw[y];rfl
  have B:=aul k A N H c 16 h Y (ht y) [] [];have F: ∀m,dx k N H m=H++[.box (ch k) none,.box sr none,.map (m.map nI),.box [.mp (N+2)] none,.box [.fn (.func 321) [] [.ptr (N+3) 0,.ptr N 0,.ptr (N+4) 0]] none]:=λ_=>rfl
  rw[agB,agB,F []]at B;obtain⟨m,hm⟩: ∃m,m=(nz k 16 h).foldl mY []:=⟨_,rfl⟩;rw[<-hm]at B;obtain⟨v,J,i1,i2⟩:=TW k.b A.b (N+5) (dx k N H m) (CE c m) none;have C:D X (.fn (.func 46) [] []) [.agg (b9 k.b)] ⟨dx k N H m,none⟩=some _:=ql (p:=mm) rfl i1;have g0: ∀d,(dx k N H m++d)[N]?=some (.box (ch k) none):=λd=>by unfold dx;rw[aev,dq c];rfl
  have g:=(iZ i2 none).bJ;have I:max (N+3+1) (max (N+1) (N+4+1))<=N+4+1:=by omega
  simp only[avF]at B;have P:N<=N+1:=azV N;have R: (dx k N H m)[N]?=some (.box (ch k) none):=by have:=g0 [];rwa[agB]at this
  simp only[go_sem,simprocAttr,Lm,c,j,B,C,g,I,P,R];have g1: ∀d,(dx k N H m++d)[N+1]?=some (.box sr none):=λd=>by unfold dx;rw[aev,bA c];rfl
  have g2: ∀d,(dx k N H m++d)[N+2]?=some (.map (m.map nI)):=λd=>by unfold dx;rw[aev,bA c];rfl
  have Z: ∀d,(dx k N H m++d)[N+3]?=some (.box [.mp (N+2)] none):=λd=>by unfold dx;rw[aev,bA c];rfl
  have K: ∀x,m.contains x=(nz k 16 h).contains x:=λx=>by
   rw[aon,ata,ata,hm,auj];simp
  have sd:=lC k.b;refine dQ (bo k.b).length (λn e H'=> ∃L,H'=dx k N H m++(J++L)/\ (∃l,e 9=l/\aP (N+5+J.length) H' l 1 b8 ((xx k h n).map hC))/\e 2= .ptr N 0/\e 4= .ptr (N+1) 0/\e 7= .ptr (N+3) 0/\e 25=v/\e 26= .int .i64 (bo k.b).length/\e 27= .int .i64 n) 0 (by omega) ?_ ?_
  ·simp only[go_sem,simprocAttr];exact⟨[],by simp,_,rfl,aP.aq⟩
  rintro n hn e H' ⟨L,rfl,⟨l,S,a⟩,U,T,e7,t,s,r⟩ n' HI;simp only[bO,go_sem,simprocAttr,af5,U,t,s,r];refine⟨λhc=>?_,λhc=>?_⟩
  ·have i:n< (bo k.b).length:=by omega
   have b:=aum (k:=k) (h:=h) i;have o:Rd ⟨dx k N H m++(J++L),none⟩ v 1 ((bo k.b).map hC):=iZ (by have:=i2.ext (L:=L);rwa[aev]at this) none;have Q:=o.cp (X:=X) (off:=0) (n:=1) (agg:=false) i;rw[pH]at Q;generalize(bo k.b).getD n default=x at*;have f: ∀gm,jx gm ⟨dx k N H m++(J++L),none⟩ .int (.bool false) (.mp (N+2)) (.int .u32 (x:Nat)) false=some (.bool ((nz k 16 h).contains x)):=λgm=>by rw[aug (g2 _),K]
   have sc:=aun (k:=k) (h:=h) (n:=n);cases W: (nz k 16 h).contains x
   ·rw[W]at f b;simp(disch:=omega) only[go_sem,simprocAttr,U,T,e7,S,t,s,r,o.bW,Q,Z,f];rw[aeu (by simp)]at b;exact⟨by omega,i,L,rfl,l,rfl,by rw[b];exact a⟩
   ·rw[W]at f b;simp only[go_sem,simprocAttr,e7,S,o.bW,Q,Z,f];refine⟨by omega,pE (H0:=dx k N H m++J) (ys:=[[.int .u32 (x:Nat)]]) a ⟨_,aev _ _ _⟩ (by rw[aeZ,CE c]) (by omega) (by intro el O;rw[ae5.1 O];rfl) rfl (by unfold room;simp;omega) λv' H2 q G=>?_⟩;obtain⟨L2,rfl⟩:=G;simp(disch:=omega) only[go_sem,simprocAttr,U,T,e7,t,s,r];rw[aez rfl]at b;refine⟨i,L2,by simp,v',rfl,?_⟩;rw[b,agp];rwa[aev]at q
  ·obtain rfl:n=(bo k.b).length:=by omega
   have M:xx k h (bo k.b).length=rm k h:=by unfold xx rm;rw[agk]
   rw[M]at a;have E:=aiz k A l (rm k h) (dx k N H m++(J++L)) (iZ a none) (λx hx=>fF ((gi A.b).1 (agy.1 hx).1)) (by have: (rm k h).length<=_:=ahK _ _;omega) none;simp only[go_sem,simprocAttr,T,S,g0,g1,E,qo,cQ (g1 _)];have u:iR N H (dx k N H m++(J++L)):=by unfold dx;rw[aev];exact iR.app c
   have ho:aP N ((dx k N H m++(J++L)).set (N+1) (ae.box (ch (ny k (rm k h))) none)) l 1 b8 ((rm k h).map hC):=aP.mX (aP.le a (by omega)) (g1 _);rw[V,ah5 (.inl rfl) ho ?_ ?_ ?_]
   ·exact⟨bD l ((rm k h).map hC),dk rfl ((u.set (by omega)).take c)⟩
   ·rw[bB (λ_=>rfl)];omega
   ·simp[AV.refs,LF]
   ·simp[AV.refs]
end Go.Proofs.YtcdeobefbpnfeaaGreatDoor
