/- What functions do; conditions as stated. -/
import Derived.Test.YteplichagkpciaaGreatDoorC
import Derived.Test.YteplichagkpciaaGreatDoorD2
set_option linter.all false
set_option maxRecDepth 10000
set_option maxHeartbeats 1000000
namespace Go.Proofs.YteplichagkpciaaGreatDoor
open Go Go.Den
variable{α:Type}{f:FuncId}{i j n sz h a x p ak b aa:Nat}{v:AV}{l:List α}{pf:PF}{lo aj:oN}{af:List lA}{M:List ae}
def aeq:=@decide_eq_false
def aet:=@decide_eq_true
def afC:=@List.mem_singleton
def afR:=@decide_eq_decide
def ahi:=@List.mem_cons_self
def aho:=@Bool.false_and
def akZ:=@List.length_filter_le
def ak7:=@List.set_set
def amz:=@List.foldl_append
def anW:=@Int.natCast_add
def aoo:=@Bool.eq_iff_iff
def apO:=@Int.cast_ofNat_Int
def ap7:=@List.findIdx?_eq_some_iff_getElem
def aqh:=@List.map_eq_nil_iff
def aqw:=@Bool.and_false
def aqz:=@List.prefix_rfl
def ar8:=@List.getElem_of_mem
def axK:=@Option.isSome_some
def axL:=@Option.isSome_none
def axS:=@Bool.not_false
def aAQ:=@List.length_pos_iff
def aBb:=@Nat.xor_lt_two_pow
def aBd:=@List.filter_append
def aBg:=@eq_true
def aCe:=@Nat.and_two_pow_sub_one_eq_mod
def ar{α:Type}(f:Nat->α)(i:Nat)(x:α):Nat->α:=λj=>if j=i then x else f j
theorem cF{f:Nat->α}{x:α}:ar f i x i=x:=adY rfl
theorem da{f:Nat->α}{x:α}(h:j≠i):ar f i x j=f j:=adU h
def nb{f:Nat->α}:ar f i (f i)=f:=by
 unfold ar;grind
def rJ{f:Nat->α}{x y:α}:ar (ar f i x) i y=ar f i y:=by
 unfold ar;grind
def oS{β:Type}(g:α->β)(f:Nat->α)(i:Nat)(x:α): (λj=>g (ar f i x j))=ar (λj=>g (f j)) i (g x):=by
 unfold ar;grind
def arr(n:Nat)(f:Nat->lA):lA:=(List.range n).flatMap f
theorem zU(n:Nat)(f:Nat->lA):arr (n+1) f=arr n f++f n:=by
 simp[arr,aog]
theorem Cg{k:Nat}{f:Nat->lA}(h: ∀i,(f i).length=k): ∀n,(arr n f).length=n*k
 |0=>by simp[arr]
 |n+1=>by rw[zU,aer,Cg h n,h,ap2]
theorem FN{f g:Nat->lA}: ∀ {n:Nat},(∀i,i<n->f i=g i)->arr n f=arr n g
 |0,_=>rfl
 |n+1,h=>by rw[zU,zU,FN (n:=n) λi j=>h i (by omega),h n (by omega)]
def aq9(n m:Nat)(f:Nat->lA):arr (n+m) f=arr n f++arr m (λj=>f (n+j)):=by
 induction m with
 |zero=>simp[arr]
 |succ m h=>grind [Nat.add_assoc,zU,List.append_assoc]
def Su{f:Nat->lA}(h:i<n):arr n f=arr i f++(f i++arr (n-i-1) λj=>f (i+1+j)):=by
 obtain⟨m,rfl⟩: ∃m,n=i+1+m:=⟨n-i-1,by omega⟩;rw[aq9,zU,adV,show i+1+m-i-1=m by omega]
theorem K7{f:Nat->lA}(h: ∀i,aK (f i)=0): ∀n,aK (arr n f)=0
 |0=>rfl
 |n+1=>by
  rw[zU];have: ∀a b:lA,aK (a++b)=max (aK a) (aK b):=by
   intro a b
   induction a with
   |nil=>rfl
   |cons x a j=>simp[aK,j,Nat.max_assoc]
  rw[this,K7 h n,h];rfl
def FO(a b:lA):aK (a++b)=max (aK a) (aK b):=by
 induction a with
 |nil=>rfl
 |cons x a f=>simp[aK,f,Nat.max_assoc]
section
variable{ag:Bool}{m off:Nat}{a r vs:lA}
theorem jZ(h:a.length<=off):Den.part ag m (a++r) off=Den.part ag m r (off-a.length):=by
 unfold Den.part;cases ag
 ·grind
 ·grind [List.drop_append,List.drop_eq_nil_of_le,List.length_append]
theorem nc(h:off+m<=a.length)(f:0<m):Den.part ag m (a++r) off=Den.part ag m a off:=by
 unfold Den.part
 grind
theorem FQ(h:a.length=m):Den.part true m a 0=some (.agg a):=by
 unfold Den.part
 grind
def kH{k o:Nat}{f:Nat->lA}(h: ∀i,(f i).length=k)(j:i<n)(ho:o+m<=k)(l:0<m):Den.part ag m (arr n f) (i*k+o)=Den.part ag m (f i) o:=by
 rw[Su j,jZ (by rw[Cg h];omega),Cg h,show i*k+o-i*k=o by omega,nc (by grind) l]
def gX(h:a.length<=off):aM (a++r) off vs=a++aM r (off-a.length) vs:=by
 unfold aM;rw[axZ,aes h,aw4,ahp (by omega),ahm,adV,show off+vs.length-a.length=off-a.length+vs.length by omega]
def rK(h:off+vs.length<=a.length):aM (a++r) off vs=aM a off vs++r:=by
 unfold aM
 grind
def nQ(h:a.length=vs.length):aM a 0 vs=vs:=by
 unfold aM
 grind
def nR{k o:Nat}{f:Nat->lA}(h: ∀i,(f i).length=k)(l:i<n)(ho:o+vs.length<=k):aM (arr n f) (i*k+o) vs=arr n (ar f i (aM (f i) o vs)):=by
 have e1:arr i (ar f i (aM (f i) o vs))=arr i f:=FN λj q=>da (by omega)
 have p: (arr (n-i-1) λj=>ar f i (aM (f i) o vs) (i+1+j))=arr (n-i-1) λj=>f (i+1+j):=FN λj _=>da (by omega)
 rw[Su (f:=ar f i (aM (f i) o vs)) l,cF,e1,p];rw[Su l,gX (by rw[Cg h];omega),Cg h,show i*k+o-i*k=o by omega,rK (by grind)]
end
def Sv{ag:Bool}{k:Nat}{cs:lA}(f:k<n)(h:Den.part ag sz cs (k*sz)=some v):qV ag n sz (.agg cs) (.int .i64 k)=some v:=by
 have:qV ag n sz (.agg cs) (.int .i64 k)=if 0<=(k:Int)/\ (k:Int)<n then Den.part ag sz cs ((k:Int).toNat*sz)else none:=rfl
 grind
theorem afy{id off:Nat}:Den.pY n (.ptr id off)= .rd id off (Nat.max n 1):=rfl
theorem afz{id off:Nat}:Ia n (.ptr id off)= .wr id off n:=rfl
@[irreducible]def cat (H L:List ae):List ae:=H++L
section
variable{H L M:List ae}{a b c d e g x:ae}{n:Nat}
theorem eo:cat H L=H++L:=by unfold cat;rfl
def FR: (cat H L).length=H.length+L.length:=by rw[eo,aer]
def Sw:cat H L++M=cat H (L++M):=by rw[eo,eo,adV]
def ct2(h:H.length=n): (cat H L++M).take n=H:=by rw[eo,adV];grind
def ct1(h:H.length=n): (cat H L).take n=H:=by rw[eo];grind
def cg0(h:H.length=n): (cat H (a::L)++M)[n]?=some a:=by rw[eo,adV,dB h];rfl
def OU(h:H.length=n): (cat H (a::L)++M).set n x=cat H (x::L)++M:=by grind [eo,List.append_assoc,DO]
def cp0(h:H.length=n): (cat H (a::L))[n]?=some a:=by rw[eo,dB h];rfl
def cq0(h:H.length=n): (cat H (a::L)).set n x=cat H (x::L):=by grind [eo,DO]
def cg1(h:H.length=n): (cat H (a::b::L)++M)[n+1]?=some b:=by rw[eo,adV,bE h];rfl
def cs1(h:H.length=n): (cat H (a::b::L)++M).set (n+1) x=cat H (a::x::L)++M:=by grind [eo,List.append_assoc,nD]
def cp1(h:H.length=n): (cat H (a::b::L))[n+1]?=some b:=by rw[eo,bE h];rfl
def cq1(h:H.length=n): (cat H (a::b::L)).set (n+1) x=cat H (a::x::L):=by grind [eo,nD]
def cg2(h:H.length=n): (cat H (a::b::c::L)++M)[n+2]?=some c:=by rw[eo,adV,bE h];rfl
def cs2(h:H.length=n): (cat H (a::b::c::L)++M).set (n+2) x=cat H (a::b::x::L)++M:=by grind [eo,List.append_assoc,nD]
def cp2(h:H.length=n): (cat H (a::b::c::L))[n+2]?=some c:=by rw[eo,bE h];rfl
def cq2(h:H.length=n): (cat H (a::b::c::L)).set (n+2) x=cat H (a::b::x::L):=by grind [eo,nD]
def cg3(h:H.length=n): (cat H (a::b::c::d::L)++M)[n+3]?=some d:=by rw[eo,adV,bE h];rfl
def cs3(h:H.length=n): (cat H (a::b::c::d::L)++M).set (n+3) x=cat H (a::b::c::x::L)++M:=by grind [eo,List.append_assoc,nD]
def cp3(h:H.length=n): (cat H (a::b::c::d::L))[n+3]?=some d:=by rw[eo,bE h];rfl
def cq3(h:H.length=n): (cat H (a::b::c::d::L)).set (n+3) x=cat H (a::b::c::x::L):=by grind [eo,nD]
def cg4(h:H.length=n): (cat H (a::b::c::d::e::L)++M)[n+4]?=some e:=by rw[eo,adV,bE h];rfl
def cs4(h:H.length=n): (cat H (a::b::c::d::e::L)++M).set (n+4) x=cat H (a::b::c::d::x::L)++M:=by grind [eo,List.append_assoc,nD]
def cp4(h:H.length=n): (cat H (a::b::c::d::e::L))[n+4]?=some e:=by rw[eo,bE h];rfl
def cq4(h:H.length=n): (cat H (a::b::c::d::e::L)).set (n+4) x=cat H (a::b::c::d::x::L):=by grind [eo,nD]
def cg5(h:H.length=n): (cat H (a::b::c::d::e::g::L)++M)[n+5]?=some g:=by rw[eo,adV,bE h];rfl
def cs5(h:H.length=n): (cat H (a::b::c::d::e::g::L)++M).set (n+5) x=cat H (a::b::c::d::e::x::L)++M:=by grind [eo,List.append_assoc,nD]
def cp5(h:H.length=n): (cat H (a::b::c::d::e::g::L))[n+5]?=some g:=by rw[eo,bE h];rfl
def cq5(h:H.length=n): (cat H (a::b::c::d::e::g::L)).set (n+5) x=cat H (a::b::c::d::e::x::L):=by grind [eo,nD]
end
structure Slot where
 gen:Nat
 dc:Bool
 ret:Bool
 deriving DecidableEq,Inhabited
abbrev cO:=Nat->Slot
def jh(s:Slot):lA:=[.int .u32 s.gen,.bool s.dc,.bool s.ret]
def bU(b:cO):lA:=arr 32 λi=>jh (b i)
theorem K8(s:Slot): (jh s).length=3:=rfl
theorem oT(b:cO): (bU b).length=96:=by rfl
theorem Sx(b:cO):aK (bU b)=0:=by rfl
section
variable{b:cO}{i:Nat}
theorem Sy:Den.part true 96 (bU b) 0=some (.agg (bU b)):=by rfl
def afZ(h:i<32):Den.part true 3 (bU b) (i*3)=some (.agg (jh (b i))):=kH (k:=3) (o:=0) (f:=λi=>jh (b i)) (λi=>K8 (b i)) h (by omega) (by omega)
def Sz(h:i<32):qV true 32 3 (.agg (bU b)) (.int .i64 i)=some (.agg (jh (b i))):=Sv h (afZ h)
def af0(h:i<32):Den.part false 1 (bU b) (i*3)=some (.int .u32 (b i).gen):=kH (k:=3) (o:=0) (f:=λi=>jh (b i)) (λi=>K8 (b i)) h (by omega) (by omega)
def af1(h:i<32):Den.part false 1 (bU b) (i*3+1)=some (.bool (b i).dc):=kH (k:=3) (o:=1) (f:=λi=>jh (b i)) (λi=>K8 (b i)) h (by omega) (by omega)
def SA{s:Slot}{o:Nat}{vs:lA}(h:i<32)(ho:o+vs.length<=3)(j:aM (jh (b i)) o vs=jh s):aM (bU b) (i*3+o) vs=bU (ar b i s):=by
 unfold bU;rw[nR (k:=3) (f:=λi=>jh (b i)) (λi=>K8 (b i)) h ho,j,oS]
theorem ara{g:Nat}(h:i<32):aM (bU b) (i*3) [.int .u32 g]=bU (ar b i {b i with gen:=g}):=SA (o:=0) h (by simp) rfl
def arb{g:Nat}(h:i<32):aM (bU b) (i*3) [.int .u32 ((g:Int)+1)]=bU (ar b i {b i with gen:=g+1}):=ara (g:=g+1) h
theorem af2{v:Bool}(h:i<32):aM (bU b) (i*3+1) [.bool v]=bU (ar b i {b i with dc:=v}):=SA (o:=1) h (by simp) rfl
theorem arc{v:Bool}(h:i<32):aM (bU b) (i*3+2) [.bool v]=bU (ar b i {b i with ret:=v}):=SA (o:=2) h (by simp) rfl
theorem af3: (bU b).take 96=bU b:=by rfl
end
def fb(h:Nat):oN:=if 1<=h % 256/\h % 256<=32/\h/256<=8388607 then some (h % 256-1)else none
def dh(i f:Nat):Nat:=f*256+i+1
def af4(e:fb h=some i):i<32:=by
 unfold fb at e;grind
def K9{f:Nat}(h:i<32)(j:f<=8388607):fb (dh i f)=some i:=by
 unfold fb dh
 grind
def af5{a b c:lA}(h:b=c):a++b=a++c:=by rw[h]
def aC3{a b c:lA}(h:b=c):b++a=c++a:=by rw[h]
abbrev aC:=Nat×Nat
structure cP where
 up:Nat
 di:Nat
 runs:List aC
 len:Nat
 cells:Nat->Nat
structure av where
 b:cO
 r:Nat->cP
structure Ow where
 kind:Nat
 aa:Nat
 hold:Nat
 deriving DecidableEq
structure Sd where
 root:Nat
 own:Ow
 deriving DecidableEq
abbrev bO:=Nat->Sd
structure Tok where
 aO:Nat
 jn:Nat
 to:Nat
 mu:Bool
 aT:Nat
 deriving DecidableEq
structure bo where
 b:cO
 t:Nat->Tok
structure kI where
 fr:Nat
 word:Nat
 aO:Nat
 share:Bool
 deriving DecidableEq
structure c8 where
 ring:Nat->kI
 fr:Nat
 n:Nat
 closed:Bool
structure bD where
 T:av
 O:bO
 K:bo
 de:Nat->c8
 alive:Nat->Bool
 born:Nat->Bool
structure cq where
 op:Nat
 r:Nat
 s:Nat
 a:Nat
 b:Nat
 v:Nat
 deriving DecidableEq
structure bA where
 e:Nat
 v:Nat
 w:Nat
 deriving DecidableEq
def aA(r:aC):lA:=[.int .i64 (r.1:Nat),.int .i64 (r.2:Nat)]
def ed(l:List aC):AV:=if l.isEmpty then .aq else .sl (l.map aA) false
def bM(r:cP):lA:=[.int .u32 r.up,.int .i64 r.di,ed r.runs,.int .i64 r.len]++arr 8 λi=>[.int .u32 (r.cells i)]
def xL(f:Nat->cP):lA:=arr 32 λi=>bM (f i)
def aN(t:av):lA:=bU t.b++xL t.r
def j0(o:Ow):lA:=[.int .u8 o.kind,.int .u8 o.aa,.int .u8 o.hold]
def ur(x:Sd):lA:=[.int .u32 x.root,.int .u8 x.own.kind,.int .u8 x.own.aa,.int .u8 x.own.hold]
def cQ(o:bO):lA:=arr 32 λi=>ur (o i)
def fT(x:Tok):lA:=[.int .u32 x.aO,.int .u8 x.jn,.int .u8 x.to,.bool x.mu,.int .u32 x.aT]
def FT(f:Nat->Tok):lA:=arr 16 λi=>fT (f i)
def bZ(k:bo):lA:=bU k.b++FT k.t
def eO(m:kI):lA:=[.int .u8 m.fr,.int .u64 m.word,.int .u32 m.aO,.bool m.share]
def La(f:Nat->kI):lA:=arr 4 λi=>eO (f i)
def cx(b:c8):lA:=La b.ring++[.int .i64 b.fr,.int .i64 b.n,.bool b.closed]
def zV(f:Nat->c8):lA:=arr 8 λi=>cx (f i)
def oU(f:Nat->Bool):lA:=arr 8 λi=>[.bool (f i)]
def gL(T:av)(O:bO)(K:bo):lA:=aN T++(cQ O++bZ K)
def bw(s:bD):lA:=aN s.T++(cQ s.O++(bZ s.K++(zV s.de++(oU s.alive++oU s.born))))
def bn(c:cq):lA:=[.int .u8 c.op,.int .u32 c.r,.int .u32 c.s,.int .u32 c.a,.int .u32 c.b,.int .u64 c.v]
def bF(r:bA):lA:=[.int .i64 r.e,.int .u64 r.v,.int .u32 r.w]
theorem zW(r:cP): (bM r).length=12:=by rfl
theorem aC4(f:Nat->cP): (xL f).length=384:=by rfl
theorem iA(t:av): (aN t).length=480:=by rfl
theorem uu(o:bO): (cQ o).length=128:=by rfl
theorem aC5(f:Nat->Tok): (FT f).length=80:=by rfl
theorem zX(k:bo): (bZ k).length=176:=by rfl
theorem af6(f:Nat->kI): (La f).length=16:=by rfl
theorem zY(b:c8): (cx b).length=19:=by rfl
theorem oV(f:Nat->c8): (zV f).length=152:=by rfl
theorem Ch(f:Nat->Bool): (oU f).length=8:=by rfl
theorem j4(T:av)(O:bO)(K:bo): (gL T O K).length=784:=by simp only[gL,aer,iA,uu,zX]
def ep(s:bD): (bw s).length=952:=by simp only[bw,aer,iA,uu,zX,oV,Ch]
def SB(l:List aC): (ed l).refs=0:=by
 unfold ed;split
 ·rfl
 ·exact bB (λ_=>rfl) l
def ard{g:Nat->AV}(h: ∀i,(g i).refs=0)(n:Nat):aK (arr n λi=>[g i])=0:=K7 (λi=>by simp[aK,h]) n
def SC(r:cP):aK (bM r)=0:=by
 rw[bM,FO,ard (λ_=>rfl)];simp[aK,AV.refs,SB]
def are(f:Nat->cP):aK (xL f)=0:=K7 (λi=>SC (f i)) 32
def xM(t:av):aK (aN t)=0:=by rw[aN,FO,Sx,are];rfl
theorem SD(o:bO):aK (cQ o)=0:=by rfl
theorem Lb(k:bo):aK (bZ k)=0:=by rfl
theorem af7(b:c8):aK (cx b)=0:=by rfl
theorem arf(f:Nat->c8):aK (zV f)=0:=by rfl
theorem arh(f:Nat->Bool):aK (oU f)=0:=by rfl
def oW(s:bD):aK (bw s)=0:=by simp only[bw,FO,xM,SD,Lb,arf,arh];rfl
def mz(l:List aC):Rv (ed l) 2 (l.map aA):=by
 cases l with
 |nil=>exact .aq
 |cons a l=>exact .sl (by intro el h;obtain⟨x,_,rfl⟩:=afH.1 h;rfl)
def Lc{ag:Bool}{m:Nat}{a b r:lA}{off:Nat}(c:a.length=off):Den.part ag m (a++r) off=Den.part ag m r 0:=by grind [jZ]
theorem wa{m:Nat}{a r:lA}(c:a.length=m)(b:0<m):Den.part true m (a++r) 0=some (.agg a):=by grind [nc,FQ]
section
variable{ag:Bool}{m o i:Nat}
theorem af8{r:cP}:Den.part false 1 (bM r) 0=some (.int .u32 r.up):=rfl
theorem af9{r:cP}:Den.part false 1 (bM r) 1=some (.int .i64 r.di):=rfl
theorem aga{r:cP}:Den.part false 1 (bM r) 2=some (ed r.runs):=rfl
theorem agb{r:cP}:Den.part false 1 (bM r) 3=some (.int .i64 r.len):=rfl
theorem agc{r:cP}:Den.part true 2 (bM r) 2=some (.agg [ed r.runs,.int .i64 r.len]):=rfl
theorem Ld{r:cP}:Den.part true 8 (bM r) 4=some (.agg (arr 8 λi=>[.int .u32 (r.cells i)])):=by rfl
theorem SF{t:av}:Den.part true 96 (aN t) 0=some (.agg (bU t.b)):=by rfl
theorem agd{t:av}:Den.part true 480 (aN t) 0=some (.agg (aN t)):=by rfl
def age{t:av}(h:i<32)(ho:o+m<=12)(a:0<m):Den.part ag m (aN t) (96+i*12+o)=Den.part ag m (bM (t.r i)) o:=by
 unfold aN;rw[jZ (by rw[oT];omega),oT,show 96+i*12+o-96=i*12+o by omega];exact kH (k:=12) (f:=λi=>bM (t.r i)) (λi=>zW _) h ho a
def ari{t:av}(h:i<32):Den.part true 12 (aN t) (96+i*12)=some (.agg (bM (t.r i))):=by
 have:=age (ag:=true) (m:=12) (o:=0) (t:=t) h (by omega) (by omega);rw[afM]at this;rw[this,FQ (zW _)]
def SG{t:av}(h:i<32):Den.part false 1 (aN t) (96+i*12)=some (.int .u32 (t.r i).up):=age (o:=0) h (by omega) (by omega)
def Le{t:av}{r:cP}(h:i<32):aM (aN t) (96+i*12) (bM r)=aN {t with r:=ar t.r i r}:=by
 unfold aN;rw[gX (by rw[oT];omega),oT,show 96+i*12-96=i*12+0 by omega];unfold xL;rw[nR (k:=12) (f:=λi=>bM (t.r i)) (λi=>zW _) h (by rw[zW];omega),nQ (by rfl),oS]
def agf{t:av}{u:Nat}(h:i<32):aM (aN t) (96+i*12) [.int .u32 u]=aN {t with r:=ar t.r i {t.r i with up:=u}}:=by
 unfold aN;rw[gX (by rw[oT];omega),oT,show 96+i*12-96=i*12+0 by omega];unfold xL;rw[nR (k:=12) (f:=λi=>bM (t.r i)) (λi=>zW _) h (by simp),oS];rfl
theorem arj{r:cP}{u:Nat}:aM (bM r) 0 [.int .u32 u]=bM {r with up:=u}:=rfl
def agh{r:cP}{u:Nat}(h:i<8):aM (bM r) (4+i) [.int .u32 u]=bM {r with cells:=ar r.cells i u}:=by
 unfold bM;rw[gX (by simp)];refine af5 ?_;have:=nR (n:=8) (k:=1) (i:=i) (o:=0) (vs:=[AV.int .u32 u]) (f:=λi=>[AV.int .u32 (r.cells i)]) (λ_=>rfl) h (by simp);rw[show 4+i- [AV.int .u32 r.up,.int .i64 r.di,ed r.runs,.int .i64 r.len].length=i*1+0 by simp,this];exact ahl (arr 8) (oS (λu:Nat=>[AV.int .u32 u]) r.cells i u).symm
def agi{w:bO}(h:i<32)(ho:o+m<=4)(a:0<m):Den.part ag m (cQ w) (i*4+o)=Den.part ag m (ur (w i)) o:=
 kH (k:=4) (f:=λi=>ur (w i)) (λ_=>rfl) h ho a
theorem agj{w:bO}:Den.part true 128 (cQ w) 0=some (.agg (cQ w)):=by rfl
def agk{w:bO}(h:i<32):Den.part false 1 (cQ w) (i*4)=some (.int .u32 (w i).root):=agi (o:=0) h (by omega) (by omega)
def ark{w:bO}(h:i<32):Den.part true 3 (cQ w) (i*4+1)=some (.agg (j0 (w i).own)):=agi (o:=1) h (by omega) (by omega)
def arl{w:bO}{x:Sd}(h:i<32):aM (cQ w) (i*4) (ur x)=cQ (ar w i x):=by
 have:=nR (n:=32) (k:=4) (i:=i) (o:=0) (vs:=ur x) (f:=λi=>ur (w i)) (λ_=>rfl) h (by simp[ur]);unfold cQ;rw[show i*4=i*4+0 by omega,this,nQ (a:=ur (w i)) (vs:=ur x) rfl,oS]
theorem agl{k:bo}:Den.part true 96 (bZ k) 0=some (.agg (bU k.b)):=by rfl
theorem SH{k:bo}:Den.part true 176 (bZ k) 0=some (.agg (bZ k)):=by rfl
def arn{f:Nat->Tok}(h:i<16):Den.part true 5 (FT f) (i*5)=some (.agg (fT (f i))):=
 kH (k:=5) (o:=0) (f:=λi=>fT (f i)) (λ_=>rfl) h (by omega) (by omega)
def aro{k:bo}(h:i<16):Den.part true 5 (bZ k) (96+i*5)=some (.agg (fT (k.t i))):=by
 unfold bZ;rw[jZ (by rw[oT];omega),oT,show 96+i*5-96=i*5 by omega];exact arn h
theorem agm{k:bo}{b:cO}:aM (bZ k) 0 (bU b)=bZ {k with b:=b}:=by rfl
def arp{k:bo}{x:Tok}(h:i<16):aM (bZ k) (96+i*5) (fT x)=bZ {k with t:=ar k.t i x}:=by
 unfold bZ;rw[gX (by rw[oT];omega),oT,show 96+i*5-96=i*5+0 by omega];unfold FT;rw[nR (k:=5) (f:=λi=>fT (k.t i)) (λ_=>rfl) h (by simp[fT]),nQ (a:=fT (k.t i)) (vs:=fT x) rfl,oS]
def arq{f:Nat->kI}(h:i<4):Den.part true 4 (La f) (i*4)=some (.agg (eO (f i))):=
 kH (k:=4) (o:=0) (f:=λi=>eO (f i)) (λ_=>rfl) h (by omega) (by omega)
theorem rL{b:c8}:Den.part true 19 (cx b) 0=some (.agg (cx b)):=by rfl
def agn{b:c8}(h:i<4):Den.part true 4 (cx b) (i*4)=some (.agg (eO (b.ring i))):=by
 unfold cx;rw[nc (by rw[af6];omega) (by omega)];exact arq h
theorem ago{b:c8}:Den.part false 1 (cx b) 16=some (.int .i64 b.fr):=by rfl
theorem Ci{b:c8}:Den.part false 1 (cx b) 17=some (.int .i64 b.n):=by rfl
theorem zZ{b:c8}:Den.part false 1 (cx b) 18=some (.bool b.closed):=by rfl
def ars{b:c8}{x:kI}(h:i<4):aM (cx b) (i*4) (eO x)=cx {b with ring:=ar b.ring i x}:=by
 unfold cx;rw[rK (by rw[af6];simp[eO];omega)];unfold La;rw[show i*4=i*4+0 by omega,nR (k:=4) (f:=λi=>eO (b.ring i)) (λ_=>rfl) h (by simp[eO]),nQ (a:=eO (b.ring i)) (vs:=eO x) rfl,oS]
theorem art{b:c8}:aM (cx b) 16 [.int .i64 x]=cx {b with fr:=x}:=by rfl
theorem agp{b:c8}:aM (cx b) 17 [.int .i64 x]=cx {b with n:=x}:=by rfl
theorem aru{b:c8}{x:Bool}:aM (cx b) 18 [.bool x]=cx {b with closed:=x}:=by rfl
def agq{f:Nat->Bool}(h:i<8):Den.part false 1 (oU f) i=some (.bool (f i)):=by
 have:=kH (ag:=false) (m:=1) (n:=8) (k:=1) (i:=i) (o:=0) (f:=λi=>[AV.bool (f i)]) (λ_=>rfl) h (by omega) (by omega);rw[show i*1+0=i by omega]at this;exact this
def arv{f:Nat->c8}(h:i<8):Den.part true 19 (zV f) (i*19)=some (.agg (cx (f i))):=by
 have:=kH (ag:=true) (m:=19) (n:=8) (k:=19) (i:=i) (o:=0) (f:=λi=>cx (f i)) (λ_=>zY _) h (by omega) (by omega);exact this.trans rL
def qs{T:av}{O:bO}{K:bo}:Den.part true 480 (gL T O K) 0=some (.agg (aN T)):=wa (iA _) (by omega)
theorem qt{T:av}{O:bO}{K:bo}:Den.part true 128 (gL T O K) 480=some (.agg (cQ O)):=by
 unfold gL;rw[Lc (b:=[]) (iA _)];exact wa (uu _) (by omega)
theorem rM{T:av}{O:bO}{K:bo}:Den.part true 176 (gL T O K) 608=some (.agg (bZ K)):=by
 unfold gL;rw[jZ (by rw[iA];omega),iA,Lc (b:=[]) (uu _)];exact SH
theorem nS(s:bD):bw s=gL s.T s.O s.K++(zV s.de++(oU s.alive++oU s.born)):=by simp[bw,gL]
theorem SI{s:bD}:Den.part true 784 (bw s) 0=some (.agg (gL s.T s.O s.K)):=by grind [nS,wa,j4]
theorem SJ{s:bD}:Den.part true 952 (bw s) 0=some (.agg (bw s)):=FQ (ep s)
theorem Lf{s:bD}:Den.part true 480 (bw s) 0=some (.agg (aN s.T)):=wa (iA _) (by omega)
theorem SM{s:bD}:Den.part true 128 (bw s) 480=some (.agg (cQ s.O)):=by grind [nS,nc,j4,qt]
theorem SN{s:bD}:Den.part true 176 (bw s) 608=some (.agg (bZ s.K)):=by grind [nS,nc,j4,rM]
theorem arw{s:bD}(h:i<8):Den.part true 19 (bw s) (784+i*19)=some (.agg (cx (s.de i))):=by
 rw[nS,jZ (by rw[j4];omega),j4,show 784+i*19-784=i*19 by omega,nc (by rw[oV];omega) (by omega)];exact arv h
def aC6{s:bD}:Den.part true 152 (bw s) 784=some (.agg (zV s.de)):=by
 rw[nS,Lc (b:=[]) (j4 _ _ _)];exact wa (oV _) (by omega)
theorem SO{s:bD}(h:i<8):Den.part false 1 (bw s) (936+i)=some (.bool (s.alive i)):=by
 rw[nS,jZ (by rw[j4];omega),j4,jZ (by rw[oV];omega),oV,show 936+i-784-152=i by omega,nc (by trivial) (by omega)];exact agq h
def agr{s:bD}:Den.part true 8 (bw s) 936=some (.agg (oU s.alive)):=by
 rw[nS,jZ (by rw[j4];omega),j4,Lc (b:=[]) (oV _)];exact wa (Ch _) (by omega)
theorem arx{s:bD}(h:i<8):Den.part false 1 (bw s) (944+i)=some (.bool (s.born i)):=by
 rw[nS,jZ (by rw[j4];omega),j4,jZ (by rw[oV];omega),oV,jZ (by rw[Ch];omega),Ch,show 944+i-784-152-8=i by omega];exact agq h
def ary{s:bD}{t:av}:aM (bw s) 0 (aN t)=bw {s with T:=t}:=by
 unfold bw;rw[rK (by grind [iA]),nQ (by rw[iA,iA])]
def arz{s:bD}{w:bO}:aM (bw s) 480 (cQ w)=bw {s with O:=w}:=by
 unfold bw;rw[gX (by rw[iA];omega),iA,rK (by grind [uu]),nQ (by rfl)]
def arA{s:bD}{k:bo}:aM (bw s) 608 (bZ k)=bw {s with K:=k}:=by
 unfold bw;rw[gX (by rw[iA];omega),iA,gX (by rw[uu];omega),uu,rK (by rw[zX,zX];omega),nQ (by rfl)]
def arB{s:bD}{b:c8}(h:i<8):aM (bw s) (784+i*19) (cx b)=bw {s with de:=ar s.de i b}:=by
 rw[nS,gX (by rw[j4];omega),j4,show 784+i*19-784=i*19+0 by omega,rK (by rw[oV,zY];omega),nS];unfold zV;rw[nR (k:=19) (f:=λi=>cx (s.de i)) (λ_=>zY _) h (by rw[zY];omega),nQ (by rfl),oS]
def ags{f:Nat->Bool}{v:Bool}(h:i<8):aM (oU f) i [.bool v]=oU (ar f i v):=by
 have:=nR (n:=8) (k:=1) (i:=i) (o:=0) (vs:=[AV.bool v]) (f:=λi=>[AV.bool (f i)]) (λ_=>rfl) h (by simp);rw[show i*1+0=i by omega]at this;unfold oU;rw[this];exact ahl (arr 8) (oS (λv:Bool=>[AV.bool v]) f i v).symm
def agt{s:bD}{v:Bool}(h:i<8):aM (bw s) (936+i) [.bool v]=bw {s with alive:=ar s.alive i v}:=by
 rw[nS,gX (by rw[j4];omega),j4,gX (by rw[oV];omega),oV,show 936+i-784-152=i by omega,rK (by trivial),ags h,nS]
def agu{s:bD}{v:Bool}(h:i<8):aM (bw s) (944+i) [.bool v]=bw {s with born:=ar s.born i v}:=by
 rw[nS,gX (by rw[j4];omega),j4,gX (by rw[oV];omega),oV,gX (by rw[Ch];omega),Ch,show 944+i-784-152-8=i by omega,ags h,nS]
end
theorem agv{t:av}: (aN t).take 480=aN t:=by rfl
theorem agw{k:bo}: (bZ k).take 176=bZ k:=by rfl
theorem agx{r:cP}:Den.part true 12 (bM r) 0=some (.agg (bM r)):=by rfl
theorem agy{t:av}:List.drop 96 (aN t)=xL t.r:=by rfl
theorem agz{b:cO}{r:Nat->cP}:bU b++xL r=aN ⟨b,r⟩:=rfl
theorem agA{u:Nat}{r:cP}:AV.int .u32 (u:Nat)::List.drop 1 (bM r)=bM {r with up:=u}:=rfl
theorem agB{b:cO}{f:Nat->Tok}:bU b++FT f=bZ ⟨b,f⟩:=rfl
theorem SP(r:aC): (aA r).length=2:=rfl
theorem agC{r:aC}:Den.part false 1 (aA r) 0=some (.int .i64 (r.1:Nat)):=rfl
theorem agD{r:aC}:Den.part false 1 (aA r) 1=some (.int .i64 (r.2:Nat)):=rfl
theorem SQ{r:aC}:Den.part true 2 (aA r) 0=some (.agg (aA r)):=rfl
theorem agE{r:aC}: (aA r).take 2=aA r:=rfl
theorem agF{r:aC}: (aA r).drop 2=[]:=rfl
theorem agG(r:aC):aK (aA r)=0:=rfl
def ML:=gG @SP<|gG @agE<|gG @agF<|gG @agG<|gG @agy<|gG @agz<|gG @agA<|gG @agB<|gG @af3<|gG @oT<|gG @Sx<|gG @agv<|gG @iA<|gG @xM<|gG @zW<|gG @SC<|gG @uu<|gG @SD<|gG @agw<|gG @zX @Lb
def MP:=gG @agC<|gG @agD<|gG @SQ<|gG @Sy<|gG @af8<|gG @af9<|gG @aga<|gG @agb<|gG @agc<|gG @agx<|gG @SF<|gG @agd<|gG @agj<|gG @agl @SH
def Zz:type_of% @R2/\type_of% @C1/\type_of% @P1/\type_of% @N1/\type_of% @O1/\type_of% @V1/\type_of% @V2/\type_of% @V3/\type_of% @wrap_i64/\type_of% @wrap_u64/\type_of% @wrap_u8/\type_of% @wrap_u16/\type_of% @wrap_u32/\type_of% @wrap_i32/\type_of% @dB/\type_of% @bE/\type_of% @DO/\type_of% @nD/\type_of% @m5/\type_of% @Zs/\type_of% @adH/\type_of% @Option.isSome_some.{0}/\type_of% @Option.isSome_none.{0}/\type_of% @Option.getD_some.{0}/\type_of% @Option.getD_none.{0}/\type_of% @Bool.not_true/\type_of% @Bool.not_false/\type_of% @cg0/\type_of% @cg1/\type_of% @cg2/\type_of% @cg3/\type_of% @cg4/\type_of% @cg5/\type_of% @OU/\type_of% @cs1/\type_of% @cs2/\type_of% @cs3/\type_of% @cs4/\type_of% @cs5/\type_of% @ct2/\type_of% @ct1/\type_of% @cp0/\type_of% @cp1/\type_of% @cp2/\type_of% @cp3/\type_of% @cp4/\type_of% @cp5/\type_of% @cq0/\type_of% @cq1/\type_of% @cq2/\type_of% @cq3/\type_of% @cq4/\type_of% @cq5/\type_of% @List.getElem?_set_ne.{0}/\type_of% @Q1/\type_of% @G1/\type_of% @Ib/\type_of% @Ic/\type_of% @Ie/\type_of% @Ig/\type_of% @Ih/\type_of% @Ii/\type_of% @Ij/\type_of% @Ik/\type_of% @Il/\type_of% @Im/\type_of% @ML/\type_of% @List.length_take.{0}/\type_of% @Nat.min_self/\type_of% @List.append_nil.{0}/\type_of% @Nat.zero_le/\type_of% @Nat.add_zero/\type_of% @Nat.zero_add/\type_of% @Nat.le_refl/\type_of% @and_true/\type_of% @true_and/\type_of% @if_true.{1}:=
 ⟨@R2,@C1,@P1,@N1,@O1,@V1,@V2,@V3,@wrap_i64,@wrap_u64,@wrap_u8,@wrap_u16,@wrap_u32,@wrap_i32,@dB,@bE,@DO,@nD,@m5,@Zs,@adH,@axK.{0},@axL.{0},@ak0.{0},@axY.{0},@atj,@axS,@cg0,@cg1,@cg2,@cg3,@cg4,@cg5,@OU,@cs1,@cs2,@cs3,@cs4,@cs5,@ct2,@ct1,@cp0,@cp1,@cp2,@cp3,@cp4,@cp5,@cq0,@cq1,@cq2,@cq3,@cq4,@cq5,@adb.{0},@Q1,@G1,@Ib,@Ic,@Ie,@Ig,@Ih,@Ii,@Ij,@Ik,@Il,@Im,@ML,@afS.{0},@azC,@afW.{0},@aeu,@afM,@ak4,@afA,@anX,@aAz,@ag6.{1}⟩
attribute [go_sem] Zz afy afz
attribute [go_sem ↓] R1 MP Int.cast_ofNat_Int
def az(b:cO)(h:Nat):Bool:=match fb h with
 |some i=>decide (b i=⟨h/256,true,false⟩)
 |none=>false
def aL(h:Nat):Nat:=(fb h).getD 0
def nT(b:cO)(i:Nat):Bool:=!(b i).dc&& !(b i).ret
def nU(b:cO):oN:=(List.range 32).find? (nT b)
def qu(b:cO):cO×Nat×Bool:=match nU b with
 |some i=>(ar b i {b i with dc:=true},dh i (b i).gen,true)
 |none=>(b,0,false)
def oX(s:Slot):Slot:=if s.gen=8388607 then⟨s.gen,false,true⟩else⟨s.gen+1,false,s.ret⟩
def dN(b:cO)(h:Nat):cO×Bool:=if az b h then(ar b (aL h) (oX (b (aL h))),true)else(b,false)
def ba(b:cO):lN:=((List.range 32).filter λi=>(b i).dc).map λi=>dh i (b i).gen
def j5(r:aC):Bool:=decide (1<=r.2)&&decide (r.1+r.2<=64)
def gu(x:aC)(b:Bool)(a:List aC):List aC->Option (List aC)
 | []=>some (if b then a else a++[x])
 |y::ys=>
  if y.1+y.2<x.1 then gu x b (a++[y]) ys
  else if x.1+x.2<y.1 then gu x true (a++(if b then[]else[x])++[y]) ys
  else if y.1+y.2=x.1 then gu (y.1,y.2+x.2) b a ys
  else if y.1=x.1+x.2 then gu (x.1,x.2+y.2) b a ys
  else none
def gM(l:List aC)(x:aC):Option (List aC):=if j5 x then gu x false [] l else none
def nd:List aC->List aC->Option (List aC)
 |all,[]=>some all
 |all,x::xs=>match gM all x with
  |some a=>nd a xs
  |none=>none
def aI(l:List aC):Nat:=(l.map (·.2)).sum
def qw(a:List aC)(len:Nat):Bool:=(nd [] a).isSome&&decide (len<=aI a*32)
def df:cP:=⟨0,0,[],0,λ_=>0⟩
def av.az(t:av)(h:Nat):Bool:=Go.Proofs.YteplichagkpciaaGreatDoor.az t.b h
def kJ(t:av)(i:Nat):Nat:=if t.az (t.r i).up then(t.r i).up else 0
def aG(t:av)(h:Nat):cP×Nat:=if t.az h then({t.r (aL h)with up:=kJ t (aL h)},0)else(df,4)
def kK(t:av)(up n:Nat):av×Nat×Nat:=
 if up≠0/\t.az up=false then(t,0,4)
 else if 64<n then(t,0,2)
 else match nU t.b with
  |some i=>({b:=ar t.b i {t.b i with dc:=true},r:=ar t.r i {df with up:=up,di:=n}},dh i (t.b i).gen,0)
  |none=>(t,0,7)
def gv(t:av)(h:Nat):av×Nat:=
 if t.az h then({b:=(dN t.b h).1,r:=ar t.r (aL h) df},0)else(t,4)
def eu(t:av)(h:Nat)(r:cP):av×Nat:=
 if t.az h=false then(t,4)
 else if 64<r.di\/qw r.runs r.len=false then(t,2)
 else({t with r:=ar t.r (aL h) {r with up:=(t.r (aL h)).up}},0)
def bI(t:av)(h:Nat):Nat:=if t.az h then kJ t (aL h)else 0
def eP(t:av):Nat->Nat->lN
 |0,_=>[]
 |n+1,h=>if bI t h=0 then[]else bI t h::eP t n (bI t h)
def aT(t:av)(h:Nat):lN:=eP t 32 h
def kM(t:av)(h up:Nat):av×Nat:=
 if t.az h=false\/ (up≠0/\t.az up=false)then(t,4)
 else if up≠0/\h∈up::aT t up then(t,12)
 else({t with r:=ar t.r (aL h) {t.r (aL h)with up:=up}},0)
def depth(t:av)(h:Nat):Nat:=if t.az h then 1+(aT t h).length else 0
def root(t:av)(h:Nat):Nat:=if t.az h then(aT t h).getLastD h else 0
def kN(t:av)(a b:Nat):Bool:=t.az a&&t.az b&& (decide (a=b)|| (aT t b).contains a)
def kids(t:av)(h:Nat):lN:=if t.az h then(ba t.b).filter (λx=>bI t x=h)else[]
def iB(t:av):Nat->Nat->lN
 |0,h=>[h]
 |n+1,h=>h:: (kids t h).flatMap (iB t n)
def under(t:av)(h:Nat):lN:=if t.az h then iB t 32 h else[]
def gN(t:av)(a n:Nat):av×Nat×Nat:=
 let x:=kK t a n
 if(x.2.2=0\/x.2.2=7)/\6<=depth t a then(t,0,8)else x
def wb(t0:av)(h:Nat)(t:av)(x:Nat):av:=
 let r:=(aG t x).1
 (eu t x {r with cells:=λi=>if r.cells i≠h/\kN t0 (r.cells i) h then 0 else r.cells i}).1
def iT(t:av)(h:Nat):av×Nat:=
 if t.az h=false then(t,4)else kM ((iB t 32 h).foldl (wb t h) t) h 0
def uv(t:av)(h:Nat):Nat:=(iB t 32 h).foldl (λn x=>max n (depth t x-depth t h+1)) 0
def rN(t:av)(h a:Nat):av×Nat:=
 if t.az h=false\/t.az a=false then(t,4)
 else if root t h≠h\/kN t h a then(t,12)
 else if 6<depth t a+uv t h then(t,8)
 else kM t h a
def j6(t:av)(h:Nat):av×lN×Nat:=
 if under t h=[]then(t,[],4)else((under t h).foldl (λt x=>(gv t x).1) t,under t h,0)
def xN:Ow:=⟨0,0,0⟩
def ca(o:bO)(t:av)(h:Nat):Ow:=match fb (root t h)with
 |some i=>if(o i).root=root t h then(o i).own else xN
 |none=>xN
def gw(o:bO)(t:av)(r:Nat)(aa:Nat)(x:Ow):bO×Nat:=
 if t.az r=false then(o,4)
 else if root t r≠r then(o,12)
 else if 8<=aa then(o,2)
 else(ar o (aL r) ⟨r,x⟩,0)
def rO(o:bO)(t:av)(r aa:Nat):bO×Nat:=gw o t r aa ⟨1,aa % 256,0⟩
def xO(o:bO)(t:av)(r:Nat):bO×Nat:=gw o t r 0 ⟨2,0,0⟩
def iD(aa:Nat):Nat:=2^(aa % 8)
def Cj(o:bO)(t:av)(r aa:Nat):bO×Nat:=gw o t r aa ⟨3,0,iD aa⟩
def oY(x aa:Nat):Bool:=x.testBit (aa % 8)
def dC(o:bO)(t:av)(r aa:Nat)(hold:Bool):bO×Nat×Nat:=
 let x:=ca o t r
 let e:=(gw o t r aa x).2
 if e=4\/ (t.az r=true/\root t r≠r)then(o,0,e)
 else if x.kind≠3 then(o,0,12)
 else if e≠0 then(o,0,e)
 else if oY x.hold aa&&hold then(o,0,7)
 else if !oY x.hold aa&& !hold then(o,0,5)
 else((gw o t r aa {x with hold:=x.hold^^^iD aa}).1,x.hold^^^iD aa,(gw o t r aa {x with hold:=x.hold^^^iD aa}).2)
def Lg:Tok:=⟨0,0,0,false,0⟩
def cb(k:bo)(h:Nat):Tok×Nat:=if az k.b h then(k.t (aL h),0)else(Lg,4)
def uw(k:bo)(p:Tok->Bool):lN:=(ba k.b).filter λh=>p (cb k h).1
def isRight(b a:Nat)(x:Tok):Bool:=decide (x.aO=b)&&decide (x.aT=a)
def Ck(k:bo)(b a:Nat):Nat:=(uw k (isRight b a)).length
def ux(k:bo)(b a:Nat):Bool:=(ba k.b).any λh=>isRight b a (cb k h).1&& (cb k h).1.mu
def nV(k:bo)(h:Nat):Bool:=decide (h=0)||az k.b h
def qx(k:bo)(x:Tok):Nat:=
 if nV k x.aT=false then 4
 else if 8<=x.jn\/8<=x.to\/x.jn=x.to\/x.aO=0 then 2
 else if x.aT≠0/\ ((cb k x.aT).1.aO≠x.aO\/ (cb k x.aT).1.to≠x.jn\/ (x.mu=true/\ (cb k x.aT).1.mu=false))then 12
 else if ux k x.aO x.aT=true\/ (x.mu=true/\0<Ck k x.aO x.aT)then 5
 else 0
def lR(k:bo)(x:Tok):bo×Nat×Nat:=
 if qx k x≠0 then(k,0,qx k x)
 else match nU k.b with
  |some i=>if i<16 then({b:=ar k.b i {k.b i with dc:=true},t:=ar k.t i x},dh i (k.b i).gen,0)else(k,0,7)
  |none=>(k,0,7)
def fC(b:cO):Prop:= ∀i,(b i).gen<=8388607/\ ((b i).dc=true->(b i).ret=false)
def FU(e:fb h=some i):i<32/\h/256<=8388607/\h % 256=i+1/\h<2147483648:=by
 unfold fb at e;grind
def wc(h:Nat):aL h<32:=by
 unfold aL;cases e:fb h with
 |none=>simp
 |some i=>exact(FU e).1
theorem Cl(e:fb h=some i):aL h=i:=by simp[aL,e]
theorem SR(e:fb h=some i):dh i (h/256)=h:=by
 have:=FU e;unfold dh;omega
theorem lS{b:cO}:az b h=true↔ ∃i,fb h=some i/\b i=⟨h/256,true,false⟩:=by
 unfold az
 grind
def fU{b:cO}(a:az b h=true):h<4294967296:=by
 obtain⟨i,e,_⟩:=lS.1 a;have:=FU e;omega
def SS{b:cO}(a:az b h=true):h≠0:=by
 obtain⟨i,e,_⟩:=lS.1 a;have:=FU e;omega
def z5{b:cO}(a:az b h=true):fb h=some (aL h)/\b (aL h)=⟨h/256,true,false⟩/\dh (aL h) (h/256)=h:=by grind [lS,Cl,SR]
theorem Lh{b:cO}(d:fC b)(c:i<32):az b (dh i (b i).gen)=(b i).dc:=by
 obtain⟨j,h⟩:=d i;have e:=K9 c j;have f:dh i (b i).gen/256=(b i).gen:=by unfold dh;omega
 unfold az;rw[e];simp only[f];revert h;generalize b i=s;obtain⟨g,a,r⟩:=s;simp_all
theorem iE{b:cO}(d:fC b):h∈ba b↔az b h=true:=by
 unfold ba;simp only[afH,afY,alI];constructor
 ·grind [Lh]
 ·intro c;obtain⟨i,e,a⟩:=lS.1 c;refine⟨i,⟨(FU e).1,by grind⟩,?_⟩;rw[a];exact SR e
theorem mA(b:cO): (ba b).length<=32:=by
 unfold ba
 grind
def FV{g:Nat}(a:i<32)(b:g<=8388607):dh i g<4294967296:=by unfold dh;omega
theorem rP{b:cO}(e:nU b=some i):i<32/\ (b i).dc=false/\ (b i).ret=false/\ ∀j,j<i->nT b j=false:=by
 unfold nU at e;rw[List.find?_range_eq_some]at e;obtain⟨a,d,c⟩:=e;unfold nT at a
 grind
theorem SU{b:cO}(a:fC b)(e:nU b=some i):fC (ar b i {b i with dc:=true}):=by
 intro j;by_cases h:j=i
 ·subst h;rw[cF];exact⟨(a j).1,λ_=>(rP e).2.2.1⟩
 ·rw[da h];exact a j
theorem FW{b:cO}(a:fC b)(h:Nat):fC (dN b h).1:=by
 unfold dN;split
 ·intro j;by_cases e:j=aL h
  ·subst e;simp only[cF];have:=(a (aL h)).1;unfold oX;grind
  ·simp only[da e];exact a j
 omega
structure gh(r:cP):Prop where
 up:r.up<4294967296
 di:r.di<=64
 len:r.len<=2048
 cells: ∀i,r.cells i<4294967296
 runs: ∀x∈r.runs,1<=x.2/\x.1+x.2<=64
 aI:aI r.runs<=64
structure bP(t:av):Prop where
 b:fC t.b
 r: ∀i,gh (t.r i)
def cu(t:av):Prop:= ∀h,(aT t h).length<=5
def agH{t:av}:kJ t i<4294967296:=by
 unfold kJ;split
 ·rename_i h;exact fU h
 ·omega
def arC{t:av}:bI t h<4294967296:=by
 unfold bI;split
 ·exact agH
 ·omega
theorem FX{t:av}(a:bI t h≠0):t.az (bI t h)=true/\t.az h=true:=by
 unfold bI at*;split at a
 ·unfold kJ at*
  grind
 omega
theorem SW{t:av}: ∀ (n:Nat) (h:Nat),(eP t n h).length<n-> ∀m,n<=m->eP t m h=eP t n h
 |0,_,a,_,_=>by omega
 |n+1,h,a,m,hm=>by
  obtain⟨m,rfl⟩: ∃k,m=k+1:=⟨m-1,by omega⟩;simp only[eP]at a⊢;by_cases hu:bI t h=0
  ·grind
  ·rw[adU hu]at a;simp only[afL]at a;rw[SW n _ (by omega) m (by omega)]
def uy{t:av}(a:cu t)(h:Nat):aT t h=if bI t h=0 then[]else bI t h::aT t (bI t h):=by
 unfold aT;by_cases hu:bI t h=0
 ·rw[adY hu,eP,adY hu]
 ·have e:eP t 33 h=eP t 32 h:=SW 32 h (by have:=a h;unfold aT at this;omega) 33 (by omega);rw[<-e,eP,adU hu]
def arD{t:av}(c:cu t)(a:x∈aT t h):t.az x=true:=by
 have key: ∀ (n h:Nat),(aT t h).length<=n->x∈aT t h->t.az x=true:=by
  intro n
  induction n with
  |zero=>grind
  |succ n d=>
   intro h b a;rw[uy c]at a b;by_cases hu:bI t h=0
   ·grind
   ·rw[adU hu]at a b;rcases ag7.1 a with rfl|a
    ·exact(FX hu).1
    grind
 exact key _ h (afA _) a
def dep(t:av)(h:Nat):Nat:=(aT t h).length
theorem Cm{t:av}(b:cu t)(a:bI t h≠0):dep t h=dep t (bI t h)+1:=by
 unfold dep;rw[uy b,adU a];rfl
def Lk{t:av}(a:x∈kids t h):t.az h=true/\bI t x=h/\x∈ba t.b:=by
 unfold kids at a
 grind
theorem Cn{t:av}(a:cu t)(b:x∈kids t h):dep t x=dep t h+1:=by
 obtain⟨d,c,_⟩:=Lk b;have:=Cm a (h:=x) (by rw[c];exact SS d)
 grind
def agI(t:av)(h:Nat): (kids t h).length<=32:=by
 unfold kids;split
 ·grind [Nat.le_trans,List.length_filter_le,mA]
 ·simp
theorem SX{α β:Type}{f g:α->List β}: ∀ {l:List α},(∀x∈l,f x=g x)->l.flatMap f=l.flatMap g
 | [],_=>rfl
 |x::xs,h=>by
  rw[aoX,aoX,h x (ahi ..),SX λy a=>h y (afO _ a)]
theorem SY{t:av}(a:cu t): ∀ (n h:Nat),5<=n+dep t h-> ∀m,n<=m->iB t m h=iB t n h
 |0,h,d,m,_=>by
  have c:kids t h=[]:=by
   cases e:kids t h with
   |nil=>rfl
   |cons x xs=>
    have:=Cn a (h:=h) (x:=x) (by grind);have f:=a x;unfold dep at*;omega
  cases m with
  |zero=>rfl
  |succ m=>rw[iB,iB,c];rfl
 |n+1,h,d,m,hm=>by
  obtain⟨m,rfl⟩: ∃k,m=k+1:=⟨m-1,by omega⟩;refine ahl (h:: ·) (SX λx b=>?_);exact SY a n x (by have:=Cn a b;omega) m (by omega)
def dO(t:av)(h:Nat):lN:=iB t 32 h
def SZ{t:av}(a:cu t)(h:Nat):dO t h=h:: (kids t h).flatMap (dO t):=by
 unfold dO;rw[<-SY a 32 h (by omega) 33 (by omega),iB]
theorem S0{α:Type}(f:α->Nat)(c:Nat): ∀l:List α,(∀x∈l,f x<=c)->(l.map f).sum<=l.length*c
 | [],_=>by simp
 |x::xs,h=>by
  have d:=h x (ahi ..);have b:=S0 f c xs λy a=>h y (afO _ a)
  simp only[ak9,List.sum_cons,afL,ap2];omega
theorem agJ(t:av): ∀ (n h:Nat),(iB t n h).length<=33^n
 |0,h=>by simp[iB]
 |n+1,h=>by
  rw[iB,afL,List.length_flatMap];have c:=S0 (λx=>(iB t n x).length) (33^n) (kids t h) λx _=>agJ t n x
  have a:=agI t h;have b: (kids t h).length*33^n<=32*33^n:=aml _ a
  grind
def S1{t:av}(a:cu t)(h:Nat): (dO t h).length<=39135393:=by
 have:=agJ t 5 h;unfold dO;rw[SY a 5 h (by omega) 32 (by omega)];omega
def aC7{t:av}(h:Nat):dO t h≠[]:=by unfold dO;rw[iB];simp
def Co{t:av}(f:fC t.b)(b:t.az h=true)(a:x∈dO t h):t.az x=true:=by
 have key: ∀ (n h:Nat),t.az h=true->x∈iB t n h->t.az x=true:=by
  intro n
  induction n with
  |zero=>intro h b a;rw[iB,afC]at a;grind
  |succ n c=>
   intro h b a;rcases ag7.1 a with rfl|a
   ·omega
   ·obtain⟨y,d,e⟩:=apS.1 a;exact c y ((iE f).1 (Lk d).2.2) e
 exact key 32 h b a
def nW(k:bo)(a:Nat):lN:=uw k λx=>decide (x.aO=a)
def we(k:bo)(aa:Nat):lN:=uw k λx=>decide (x.to=aa)
def nX(k:bo)(l:lN):bo:=l.foldl (λk h=>{k with b:=(dN k.b h).1}) k
def Ll(k:bo)(a:Nat):bo:=nX k (nW k a)
def S2(k:bo)(h:Nat):lN:=uw k λx=>decide (x.aT=h)
def nY(k:bo):Nat->Nat->lN
 |0,h=>[h]
 |n+1,h=>h:: (S2 k h).flatMap (nY k n)
def rQ(k:bo)(h:Nat):lN:=(ba k.b).filter λx=>(nY k 16 h).contains x
def mB(k:bo)(h:Nat):bo×lN×Nat:=if az k.b h then(nX k (rQ k h),rQ k h,0)else(k,[],4)
def xP(k:bo)(b a:Nat):Bool:=nV k a&& !ux k b a
def z6(k:bo)(b a:Nat):Bool:=nV k a&&decide (Ck k b a=0)
def FY(T:av)(K:bo)(h a:Nat):Bool:=
 if a=0 then xP K h 0 else if a=1 then z6 K h 0 else if a=2 then !((under T h).any λx=>decide (0< (nW K x).length))else false
def FZ(K:bo)(aa h a:Nat):Bool:=(nW K h).any λt=>
 decide ((cb K t).1.to=aa)&& ((decide (a=0)&&xP K h t)|| (decide (a=1)&& (cb K t).1.mu&&z6 K h t))
def xQ(T:av)(O:bO)(K:bo)(aa h a:Nat):Nat:=
 if T.az h=false then 4
 else if(ca O T h).kind=3 then(if a=0/\aa<8/\ (ca O T h).hold.testBit aa=true then 0 else 5)
 else if(ca O T h).kind=1 then(if((ca O T h).aa=aa/\FY T K h a=true)\/FZ K aa h a=true then 0 else 5)
 else 5
def z7:kI:=⟨0,0,0,false⟩
def mC(b:c8)(i:Nat):Nat:=(b.fr+i) % 4
def nf(b:c8)(m:kI):c8×Nat:=
 if b.closed then(b,11)else if b.n=4 then(b,7)else({b with ring:=ar b.ring (mC b b.n) m,n:=b.n+1},0)
def mD(b:c8):c8×kI×Nat:=
 if b.n=0 then(b,z7,if b.closed then 11 else 10)else({b with fr:=mC b 1,n:=b.n-1},b.ring b.fr,0)
def wg(b:c8):c8×Nat:=if b.closed then(b,11)else({b with closed:=true},0)
def gx(b:c8):List kI:=(List.range b.n).map λi=>b.ring (mC b i)
def z8:c8:=⟨λ_=>z7,0,0,true⟩
def mE(t:av)(r a to:Nat)(b:Bool):av×Nat:=
 if t.az r=false\/ (to≠0/\t.az to=false)then(t,4)
 else if 8<=a then(t,2)
 else if to≠0/\b=false/\kN t to r=false then(t,5)
 else
  let x:=(aG t r).1
  let n:=eu t r {x with cells:=ar x.cells a to}
  if n.2=0 then n else(t,n.2)
def uz(t:av)(r a:Nat):Nat×Nat:=
 if t.az r=false then(0,4)
 else if 8<=a then(0,2)
 else
  let to:=(aG t r).1.cells a
  if to=0 then(0,10)else if t.az to=false then(0,4)else(to,0)
structure au where
 s:bD
 aa:Nat
 c:cq
 run:aC
 lT:Nat
 asks:Bool
 back:List aC
abbrev R(α:Type):=Except Nat α
def ask(b:Bool)(e:Nat):R Unit:=if b then .ok ()else .error e
def bg(e:Nat):R Unit:=if e=0 then .ok ()else .error e
def au.t(x:au)(T:av):au:={x with s:={x.s with T:=T}}
def au.o(x:au)(O:bO):au:={x with s:={x.s with O:=O}}
def au.k(x:au)(K:bo):au:={x with s:={x.s with K:=K}}
def au.bx(x:au)(i:Nat)(b:c8):au:={x with s:={x.s with de:=ar x.s.de i b}}
def fV(x:au)(h a:Nat):R Unit:=bg (xQ x.s.T x.s.O x.s.K x.aa h a)
def mF(x:au)(aa:Nat):R Unit:=ask (decide (aa<8)&&x.s.alive aa) 2
def gO(x:au)(y:Nat):au:={x.k (Ll x.s.K y)with back:=x.back++(aG x.s.T y).1.runs}
def gi(x:au)(h:Nat):au:=let y:=(under x.s.T h).foldl gO x;y.t (j6 y.s.T h).1
def uA(x:au)(h:Nat):R au:=do bg (iT x.s.T h).2;return x.t (iT x.s.T h).1
def mG(x:au)(h aa:Nat):R au:=do bg (rO x.s.O x.s.T h aa).2;return x.o (rO x.s.O x.s.T h aa).1
def ng(x:au)(h:Nat)(r:cP):R au:=do bg (eu x.s.T h r).2;return x.t (eu x.s.T h r).1
def bL:bA:=⟨0,0,0⟩
def nZ(x:au):R (au×bA):=do
 if x.c.r≠0 then fV x x.c.r 1
 let n:=gN x.s.T x.c.r (min x.c.a 65)
 bg n.2.2
 let y:=x.t n.1
 let y<-if x.c.r=0 then mG y n.2.1 x.aa else pure y
 return (y,{bL with w:=n.2.1})
def isObj(a b:Nat):Bool:=decide (1<=a)&&decide (a<=128)&& [1,2,4,8].contains b
def gy(c:List aC)(len b a:Nat):oN:=
 if isObj b a then(let at':=(len+a-1)/a*a;if at'+b<=aI c*32 then some at' else none)else none
def nh(a b:Nat):oN:=if isObj a b then some ((a+31)/32)else none
def kO(a:List aC):Nat->Nat->oN:=match a with
 | []=>λ_ _=>none
 |r::rs=>λbase at'=>if base<=at'/\at'<base+r.2*32 then some (r.1*32+at'-base)else kO rs (base+r.2*32) at'
def ic(x:au):R (au×bA):=do
 let size:=min x.c.a 129
 let align:=min x.c.b 9
 let n<-match nh size align with|some n=>pure n|none=>.error 2
 fV x x.c.r 1
 bg (aG x.s.T x.c.r).2
 let r:=(aG x.s.T x.c.r).1
 match gy r.runs r.len size align with
 |some at'=>do
  let y<-ng x x.c.r {r with len:=at'+size}
  return (y,{bL with v:=at'})
 |none=>do
  ask (decide (aI r.runs+n<=r.di)) 6
  let x:={x with lT:=n}
  if x.asks then return (x,bL)
  let runs:=r.runs++[x.run]
  let len:=aI r.runs*32
  ask (decide (x.run.2=n)&&qw runs len) 2
  let at':=(gy runs len size align).getD 0
  let b:=match gy runs len size align with|some a=>a+size|none=>len
  let y<-ng x x.c.r {r with runs:=runs,len:=b}
  return (y,{bL with v:=at'})
def qy(x:au)(a:Nat):R (au×bA):=do
 ask (decide (1<=x.c.b)&&decide (x.c.b<=8)) 2
 fV x x.c.r a
 bg (aG x.s.T x.c.r).2
 ask (decide (x.c.a+x.c.b<=(aG x.s.T x.c.r).1.len)) 9
 return (x,bL)
def rR(x:au):R (au×bA):=do
 fV x x.c.r 1
 bg (aG x.s.T x.c.r).2
 let r:=(aG x.s.T x.c.r).1
 let y<-ng {x with back:=x.back++r.runs} x.c.r {df with di:=r.di}
 return (y,bL)
def rS(x:au):R (au×bA):=do
 fV x x.c.r 2
 return (gi x x.c.r,bL)
def uB(x:au):R (au×bA):=do
 fV x x.c.r 2
 ask (decide (root x.s.T x.c.r≠x.c.r)) 12
 let y<-uA x x.c.r
 let y<-mG y x.c.r x.aa
 return (y,bL)
def uD(x:au):R (au×bA):=do
 fV x x.c.r 2
 fV x x.c.s 1
 let t:=rN x.s.T x.c.r x.c.s
 bg t.2
 return (x.t t.1,bL)
def uE(x:au):R (au×bA):=do
 fV x x.c.r 2
 let y<-uA x x.c.r
 let o:=Cj y.s.O y.s.T x.c.r x.aa
 bg o.2
 return (y.o o.1,bL)
def xR(x:au)(h:Nat):R Unit:=do
 ask (x.s.T.az h) 4
 let o:=ca x.s.O x.s.T h
 ask (decide (root x.s.T h=h)&&decide (o.kind=3)) 12
 ask (o.hold.testBit x.aa) 5
def Cp(x:au)(h aa:Nat):bO×Nat:=((dC x.s.O x.s.T h aa true).1,(dC x.s.O x.s.T h aa true).2.2)
def rT(x:au):R (au×bA):=do
 mF x x.c.a
 xR x x.c.r
 let o:=Cp x x.c.r x.c.a
 bg o.2
 return (x.o o.1,bL)
def jH(x:au)(h aa:Nat):R au:=do
 let o:=dC x.s.O x.s.T h aa false
 bg o.2.2
 let y:=x.o o.1
 return if o.2.1=0 then gi y h else y
def uF(x:au):R (au×bA):=do
 xR x x.c.r
 return (<-jH x x.c.r x.aa,bL)
def oZ(x:au):R (au×bA):=do
 mF x x.c.a
 ask (decide (x.c.b<=1)) 2
 ask (x.s.T.az x.c.r) 4
 if x.c.s=0 then ask (decide ((ca x.s.O x.s.T x.c.r).kind=1)&&decide ((ca x.s.O x.s.T x.c.r).aa=x.aa)) 5
 else do
  bg (cb x.s.K x.c.s).2
  ask (decide ((cb x.s.K x.c.s).1.to=x.aa)&&decide ((cb x.s.K x.c.s).1.aO=x.c.r)) 5
 let k:=lR x.s.K ⟨x.c.r,x.aa % 256,x.c.a % 256,decide (x.c.b=1),x.c.s⟩
 bg k.2.2
 return (x.k k.1,{bL with w:=k.2.1})
def uG(x:au):R (au×bA):=do
 bg (cb x.s.K x.c.s).2
 ask (decide ((cb x.s.K x.c.s).1.to=x.aa)) 5
 return (x.k (mB x.s.K x.c.s).1,bL)
def mH(x:au):R (au×bA):=do
 mF x x.c.a
 ask (decide (x.c.b<=1)) 2
 let share:=decide (x.c.r≠0)&&decide (x.c.b=1)
 let y<-if share then do
     xR x x.c.r
     pure (if(Cp x x.c.r x.c.a).2=0 then x.o (Cp x x.c.r x.c.a).1 else x)
  else if x.c.r≠0 then do
   fV x x.c.r 2
   let y<-uA x x.c.r
   let o:=xO y.s.O y.s.T x.c.r
   bg o.2
   pure (y.o o.1)
  else pure x
 let b:=nf (y.s.de x.c.a) ⟨x.aa % 256,x.c.v,x.c.r,share⟩
 bg b.2
 return (y.bx x.c.a b.1,bL)
def ni(x:au):R (au×bA):=do
 let b:=mD (x.s.de x.aa)
 bg b.2.2
 let y:=x.bx x.aa b.1
 let m:=b.2.1
 let y<-if m.aO≠0/\m.share=false then mG y m.aO x.aa else pure y
 return (y,{bL with v:=m.word,w:=m.aO})
def uH(x:au):R (au×bA):=do
 let b:=wg (x.s.de x.aa)
 bg b.2
 return (x.bx x.aa b.1,bL)
def oc(x:au):R (au×bA):=do
 fV x x.c.r 1
 if x.c.s≠0 then fV x x.c.s 0
 let t:=mE x.s.T x.c.r (min x.c.a 8) x.c.s (decide ((ca x.s.O x.s.T x.c.s).kind=3))
 bg t.2
 return (x.t t.1,bL)
def uI(x:au):R (au×bA):=do
 fV x x.c.r 0
 let t:=uz x.s.T x.c.r (min x.c.a 8)
 bg t.2
 return (x,{bL with w:=t.1})
def mI(x:au)(aa:Nat):R au:=do
 let l:=gx (x.s.de aa)
 let y:=x.bx aa z8
 let y:={y with s:={y.s with alive:=ar y.s.alive aa false}}
 let y<-l.foldlM (λy m=>if m.aO=0\/m.share=true then pure y else if y.s.alive m.fr then mG y m.aO m.fr else pure (gi y m.aO)) y
 let y:=(we y.s.K aa).foldl (λy h=>y.k (mB y.s.K h).1) y
 let y:=((ba y.s.T.b).filter λh=>decide (root y.s.T h=h)&&decide ((ca y.s.O y.s.T h).kind=1)&&decide ((ca y.s.O y.s.T h).aa=aa)).foldl gi y
 ((ba y.s.T.b).filter λh=>decide (root y.s.T h=h)&&decide ((ca y.s.O y.s.T h).kind=3)&& (decide (aa<8)&&oY (ca y.s.O y.s.T h).hold aa)).foldlM (λy h=>jH y h aa) y
def wi(x:au):R (au×bA):=do
 mF x x.c.a
 return (<-mI x x.c.a,bL)
def qz(x:au):R (au×bA):=do
 ask (decide (x.c.a<8)&& !x.s.born (x.c.a % 8)) 2
 return ({x with s:={x.s with alive:=ar x.s.alive x.c.a true,born:=ar x.s.born x.c.a true}},bL)
def ie(x:au):R (au×bA):=match x.c.op with
 |1=>nZ x|2=>ic x|3=>qy x 0|4=>qy x 1|5=>rR x|6=>rS x|7=>uB x|8=>uD x|9=>uE x|10=>rT x
 |11=>uF x|12=>oZ x|13=>uG x|14=>mH x|15=>ni x|16=>ni x|17=>uH x|18=>oc x|19=>uI x
 |20=>do return (<-mI x x.aa,bL)
 |21=>wi x|22=>qz x
 |_=>.error 2
def iF(x:au):R (au×bA):=do
 ask (decide (x.aa<8)&&x.s.alive x.aa) 12
 ie x
def ds(s:bD)(aa:Nat)(c:cq)(run:aC):bD×bA×List aC:=match iF ⟨s,aa,c,run,0,false,[]⟩with
 |.ok (x,r)=>if r.e=0 then(x.s,r,x.back)else(s,r,[])
 |.error e=>(s,{bL with e:=e},[])
def dY(s:bD)(aa:Nat)(c:cq):Nat:=if c.op≠2 then 0 else match iF ⟨s,aa,c,(0,0),0,true,[]⟩with
 |.ok (x,_)=>x.lT
 |.error _=>0
def iG(s:bD)(c:cq):lN×Nat:=
 if(aG s.T c.r).2≠0 then([],(aG s.T c.r).2)
 else if(c.op≠3/\c.op≠4)\/c.b<1\/8<c.b then([],2)
 else if(aG s.T c.r).1.len<c.a+c.b then([],9)
 else((List.range c.b).map λi=>(kO (aG s.T c.r).1.runs 0 (c.a+i)).getD 0,0)
def o5(s:bD)(aa:Nat)(c:cq):Nat:=if 0<dY s aa c then 0 else(ds s aa c (0,0)).2.1.e
def Lm(s:bD)(aa:Nat)(c:cq):Bool:=decide (c.op=15)&&decide (o5 s aa c=10)
def o6(s:bD)(h:Nat):lN:=if s.T.az h then[h]else[]
def uJ(s:bD)(c:cq):lN:=
 if[1,2,3,4,5,10,12,18,19].contains c.op then o6 s c.r
 else if[6,7,9,11].contains c.op then under s.T c.r
 else if c.op=8 then
  (if under s.T c.r=[]\/s.T.az c.s=false then[]else if(under s.T c.r).contains c.s then under s.T c.r else under s.T c.r++[c.s])
 else if c.op=13 then(if(cb s.K c.s).2=0 then o6 s (cb s.K c.s).1.aO else[])
 else if c.op=14 then(if c.b=1 then o6 s c.r else under s.T c.r)
 else[]
structure fD where
 has:Nat
 n:Nat
 wait:Nat->Nat
abbrev Marks:=Nat->fD
def xS:fD:=⟨0,0,λ_=>0⟩
def rU(l:fD)(aa:Nat):oN:=(List.range l.n).find? λi=>decide (l.wait i=aa % 256)
def S3(l:fD)(i:Nat):fD:={l with n:=l.n-1,wait:=ar (λj=>if i<=j/\j<7 then l.wait (j+1)else l.wait j) (l.n-1) 0}
def xT(l:fD)(aa:Nat):fD:=match rU l aa with
 |none=>l
 |some i=>S3 l i
def jo(a aa:Nat):Bool:=decide (a<32)&&decide (aa<8)
def iU(m:Marks)(a aa:Nat):Marks×Bool:=
 if jo a aa=false then(m,false)
 else if(m a).has=aa+1 then(m,true)
 else if(m a).has=0/\ ((m a).n=0\/rU (m a) aa=some 0)then(ar m a {xT (m a) aa with has:=aa+1},true)
 else if rU (m a) aa=none then(ar m a {m a with n:=(m a).n+1,wait:=ar (m a).wait (m a).n aa},false)
 else(m,false)
def Cq(l:fD)(aa:Nat):fD:=if l.has=aa+1 then{l with has:=0}else l
def rV(m:Marks)(aa:Nat):Marks:=λi=>if jo i aa then xT (Cq (m i) aa) aa else m i
structure cy where
 n:Nat
 free:List aC
 bytes:Nat->Nat->Nat
 cD:Bool
def nj(l:List aC)(x:aC):Option (List aC):=
 if j5 x=false then none
 else match l.findIdx? λy=>decide (x=y)|| (decide (y.1<=x.1)&&decide (x.1+x.2<=y.1+y.2))with
  |none=>none
  |some i=>
   let y:=l.getD i (0,0)
   some (l.take i++((if y.1<x.1 then[(y.1,x.1-y.1)]else[])++(if x.1+x.2<y.1+y.2 then[(x.1+x.2,y.1+y.2- (x.1+x.2))]else[]))++l.drop (i+1))
def F0(l:List aC)(k:Nat):Bool:=decide (k<64)&&l.any λy=>decide ((k,1)=y)|| (decide (y.1<=k)&&decide (k+1<=y.1+y.2))
def fW(p:cy)(n:Nat):cy×Nat×Nat:=
 if n<1 then(p,0,2)
 else match p.free.find? λx=>decide (1<=n)&&decide (n<=x.2)with
  |none=>(p,0,6)
  |some x=>(match nj p.free (x.1,n)with
   |some l=>{p with free:=l,cD:=false}
   |none=>p,x.1,0)
def gj(p:cy)(a:Nat):Nat:=if p.n<=a then 2 else if F0 p.free a then 12 else 0
def od(p:cy)(a:Nat):cy:=if gj p a=0 then{p with bytes:=ar p.bytes a λ_=>0}else p
def Cr(p:cy)(a:Nat):cy:=match gM p.free (a,1)with
 |some l=>{p with free:=l,cD:=false}
 |none=>p
def mJ(p:cy)(a:Nat):cy:=if gj p a=0 then Cr p a else p
def uK(p:cy)(at':Nat):Nat:=if gj p (at'/32)=0 then p.bytes (at'/32) (at' % 32)else 0
def mK(p:cy)(at' b:Nat):cy:=if gj p (at'/32)=0 then{p with bytes:=ar p.bytes (at'/32) (ar (p.bytes (at'/32)) (at' % 32) b)}else p
structure Core where
 S:bD
 P:cy
 M:Marks
 Q:lN
structure Call where
 aa:Nat
 c:cq
 checked:Bool
 aW:lN
 run:aC
 fw:Nat
def fg(r:aC):lN:=(List.range r.2).map λi=>r.1+i
def ch(x:Core)(r:aC):Core:={x with Q:=x.Q++fg r}
def o7(x:Core)(c:Call):Core:={ch x c.run with M:=rV x.M c.aa}
structure bG where
 x:Core
 c:Call
 r:bA
 ended:Bool
def o8(s:bG)(r:bA):bG:={s with r:=r,ended:=true,x:=o7 s.x s.c}
def jq(s:bG):bG×Bool:=
 if s.c.checked then(s,false)
 else if Lm s.x.S s.c.aa s.c.c then(s,true)
 else if o5 s.x.S s.c.aa s.c.c≠0 then(o8 s {bL with e:=o5 s.x.S s.c.aa s.c.c},true)
 else({s with c:={s.c with checked:=true,aW:=uJ s.x.S s.c.c}},true)
def jr(s:bG):bG×Bool:=match s.c.aW with
 | []=>(s,false)
 |h::a=>
  let m:=iU s.x.M (aL h) s.c.aa
  ({s with x:={s.x with M:=m.1},c:=if m.2 then{s.c with aW:=a}else s.c},true)
def jI(s:bG):bG×Bool:=
 let n:=dY s.x.S s.c.aa s.c.c
 if n=0\/0<s.c.run.2 then(s,false)
 else
  let p:=fW s.x.P n
  if p.2.2≠0 then(o8 {s with x:={s.x with P:=p.1}} {bL with e:=p.2.2},true)
  else({s with x:={s.x with P:=p.1},c:={s.c with run:=(p.2.1,n)}},true)
def kQ(s:bG):bG×Bool:=
 if s.c.run.2<=s.c.fw then(s,false)
 else({s with x:={s.x with P:=od s.x.P (s.c.run.1+s.c.fw)},c:={s.c with fw:=s.c.fw+1}},true)
def byteOf(v i:Nat):Nat:=v/2^(8*i) % 256
def rW(s:bG):bG:=
 let s:=if 0<s.c.run.2/\dY s.x.S s.c.aa s.c.c≠s.c.run.2 then{s with x:=ch s.x s.c.run,c:={s.c with run:=(0,0)}}else s
 let places:=(iG s.x.S s.c.c).1
 let d:=ds s.x.S s.c.aa s.c.c s.c.run
 if d.2.1.e≠0 then o8 s d.2.1
 else
  let P:=if s.c.c.op=4 then(List.range places.length).foldl (λP i=>mK P (places.getD i 0) (byteOf s.c.c.v i)) s.x.P else s.x.P
  let v:=if s.c.c.op=3 then(List.range places.length).foldl (λv i=>v|||uK s.x.P (places.getD i 0)*2^(8*i)) d.2.1.v else d.2.1.v
  let x:=d.2.2.foldl ch {s.x with S:=d.1,P:=P}
  o8 {s with x:=x,c:={s.c with run:=(0,0)}} {d.2.1 with v:=v}
def fE(x:Core)(c:Call):bG:=
 let d:bG:=⟨x,c,bL,false⟩
 let s1:=jq d
 if s1.2 then s1.1 else
 let s2:=jr s1.1
 if s2.2 then s2.1 else
 let b:=jI s2.1
 if b.2 then b.1 else
 let a:=kQ b.1
 if a.2 then a.1 else rW a.1
def iV(x:Core):Core×Bool:=match x.Q with
 | []=>(x,false)
 |q::a=>({x with P:=mJ x.P q,Q:=a},true)
structure ee where
 op:Nat
 a:Nat
 b:Nat
 c:Nat
 n:Nat
 deriving DecidableEq,Inhabited
def rX(x:ee)(n:Nat):Bool:=
 (decide (x.op<=6)|| (decide (16<x.op)&&decide (x.op<=38)))&&decide (x.a<8/\x.b<8/\x.c<8)&& (!(decide (x.op=5)||decide (x.op=6))||decide (x.n<n))
def qA(l:List ee):Bool:=decide (l.length<=64)&&l.all λx=>rX x l.length
def rY:lB->List ee
 |a::b::c::d::e::f::r=>⟨a.toNat,b.toNat,c.toNat,d.toNat,e.toNat+256*f.toNat⟩::rY r
 |_=>[]
def decode(s:lB):Option (List ee):=
 if s.length % 6≠0\/384<s.length then none else if qA (rY s)then some (rY s)else none
structure Task where
 code:List ee
 next:Nat
 aW:Nat->Nat
def mL:Nat:=18446744073709551616
def rZ(t:Task):Option ee:=t.code[t.next]?
def mM:cq:=⟨0,0,0,0,0,0⟩
def iW(t:Task):cq×Bool:=match rZ t with
 |none=>({mM with op:=20},true)
 |some x=>
  if x.op=0 then({mM with op:=20},true)
  else if x.op<=16 then(mM,false)
  else(⟨x.op-16,t.aW (x.b % 8) % 4294967296,t.aW (x.c % 8) % 4294967296,t.aW 6 % 4294967296,x.n,t.aW 5⟩,true)
def qB(t:Task):Task:=
 if(iW t).2 then t
 else match rZ t with
  |none=>t
  |some x=>
   let b:=t.aW (x.b % 8)
   let c:=t.aW (x.c % 8)
   let put:=λv=>{t with aW:=ar t.aW (x.a % 8) v,next:=t.next+1}
   if x.op=1 then put x.n
   else if x.op=2 then put ((b+c) % mL)
   else if x.op=3 then put ((b+mL-c) % mL)
   else if x.op=4 then put (b*2^x.n % mL)
   else if x.op=5 then{t with next:=x.n}
   else if x.op=6 then{t with next:=if t.aW (x.a % 8)≠0 then x.n else t.next+1}
   else{t with next:=t.next+1}
def uL(t:Task)(r:bA):Task:=match rZ t with
 |none=>t
 |some x=>if(iW t).2 then{t with aW:=ar (ar (ar t.aW (x.a % 8) r.v) 4 r.w) 7 r.e,next:=t.next+1}else t
structure Runner where
 t:Task
 c:Call
 busy:Bool
 fr:Nat
structure Event where
 aa:Nat
 c:cq
 run:aC
 r:bA
 fr:Nat
 to:Nat
structure aV where
 ai:Core
 aB:Nat->Runner
 now:Nat
 cU:List Event
def gk:Call:=⟨0,mM,false,[],(0,0),0⟩
def uM:Task:=⟨[],0,λ_=>0⟩
def Cs:Runner:=⟨uM,gk,false,0⟩
def Ct(m:aV)(t:Nat):Bool:=decide (t<8)&&m.ai.S.alive t
def mN(m:aV)(i:Nat):aV:=
 if(m.aB i).busy=true/\Ct m i=false then{m with ai:=o7 m.ai (m.aB i).c,aB:=ar m.aB i {m.aB i with busy:=false,c:=gk}}else m
def mO(m:aV):aV:=(List.range 8).foldl mN m
def handed(b:aC)(a c:Nat):aC:=if b.2<=c-a/\0<b.2 then(0,0)else b
def Ln(m:aV)(t:Nat)(c:Call)(run:aC)(r:bA):aV:=
 {m with cU:=m.cU++[⟨t,c.c,run,r,(m.aB t).fr,m.now⟩],aB:=ar m.aB t {m.aB t with t:=uL (m.aB t).t r,busy:=false,c:=gk}}
def uN(m:aV)(t:Nat):aV:=
 let c:=(m.aB t).c
 let s:=fE m.ai c
 let m':={m with ai:=s.x,aB:=ar m.aB t {m.aB t with c:=s.c}}
 if s.ended then
  let run:=if s.r.e≠0\/s.c.c.op≠2 then(0,0)else c.run
  Ln m' t s.c (handed run m.ai.Q.length s.x.Q.length) s.r
 else m'
def wj(m:aV)(t:Nat):aV:=
 let x:=m.aB t
 if x.busy then uN m t
 else if(iW x.t).2 then uN {m with aB:=ar m.aB t {x with c:={gk with aa:=t,c:=(iW x.t).1},busy:=true,fr:=m.now}} t
 else{m with aB:=ar m.aB t {x with t:=qB x.t}}
def xU(m:aV)(t:Nat):aV:=
 let c:={mM with op:=20}
 let d:=ds m.ai.S t c (0,0)
 {m with ai:={d.2.2.foldl ch m.ai with S:=d.1},cU:=m.cU++[⟨t,c,(0,0),d.2.1,m.now,m.now⟩]}
def j7(m:aV)(b:Nat):aV×Nat:=
 let t:=b % 8
 if(8<b/\b<16)\/24<=b then(m,2)
 else if b=8 then(if(iV m.ai).2 then(mO {m with ai:=(iV m.ai).1,now:=m.now+1},0)else(m,10))
 else if Ct m t=false then(m,12)
 else if 16<=b then(mO (xU {m with now:=m.now+1} t),0)
 else(mO (wj {m with now:=m.now+1} t),0)
def o9(m:aV)(t:Nat):Option Call:=if t<8/\ (m.aB t).busy=true then some (m.aB t).c else none
structure S4 where
 aI:Int
 aD:List lB
 bb:lN
def lU(b:Nat):Bool:=decide (b<8)||decide (b=8)|| (decide (16<=b)&&decide (b<24))
def og(s:S4):Bool:=
 decide (1<=s.aI/\s.aI<=64/\1<=s.aD.length/\s.aD.length<=8/\s.bb.length<=4000)&&s.aD.all (λp=>(decode p).isSome)&&s.bb.all lU
def mP:bD:=⟨⟨λ_=>⟨0,false,false⟩,λ_=>df⟩,λ_=>⟨0,xN⟩,⟨λ_=>⟨0,false,false⟩,λ_=>Lg⟩,λ_=>⟨λ_=>z7,0,0,false⟩,λi=>decide (i=0),λi=>decide (i=0)⟩
def S5(s:S4):aV:=⟨⟨mP,⟨s.aI.toNat,[(0,s.aI.toNat)],λ_ _=>0,true⟩,λ_=>xS,[]⟩,λi=>{Cs with t:={uM with code:=((s.aD[i]?).bind decode).getD []}},0,[]⟩
def F2(s:S4):aV×lN:=s.bb.foldl (λp b=>((j7 p.1 b).1,p.2++[(j7 p.1 b).2])) (S5 s,[])
def kL:lN:=[56,19,193,190,188,182,167,166]
noncomputable def X0:Ctx:={dR:=λg=>(Cf.lookup g).map λ_=>[.mb g],code:=λf=>if kL.contains f then none else zT.lookup f,bW:=λ_=>none,fZ:=λg=>(Cf.lookup g).map sT}
def arE(h:Nat)(c:h<4294967296):dA .and (.int .u32 h) (.int .u32 255)=some (.int .u32 ((h % 256:Nat):Int)):=by
 rw[DQ];have e: (BitVec.ofInt IntKind.u32.bits (h:Int)&&&BitVec.ofInt IntKind.u32.bits 255).toNat=h % 256:=by
  show(BitVec.ofInt 32 (h:Int)&&&BitVec.ofInt 32 255).toNat=h % 256;rw[BitVec.toNat_and];have b: (BitVec.ofInt 32 (h:Int)).toNat=h:=by grind
  have a: (BitVec.ofInt 32 255).toNat=2^8-1:=by rfl
  rw[b,a,aCe]
 rw[e,wrap_u32 (by omega) (by omega)]
theorem p8: (2:Int)^min 8 IntKind.u32.bits=256:=by rfl
def agK: ((a:Nat):Int).fdiv 256=((a/256:Nat):Int):=by grind
def arF(s:Slot)(g:Nat)(a c:Bool):dy (.agg [.int,.bool,.bool]) (.agg (jh s)) (.agg [.int .u32 g,.bool a,.bool c])=some (decide (s=⟨g,a,c⟩)):=by
 obtain⟨b,a',d⟩:=s;simp only[dy,jh,afL,anJ,OZ,aql,O0,ag6,and_self,Slot.mk.injEq,Int.natCast_inj]
 grind
def iX(h:Nat):AV:=.aw [.int .i64 ((fb h).getD 0:Nat),.bool (fb h).isSome]
def j8(h:Nat)(b:h<4294967296)(H:List ae)(lo:oN):D X0 (.fn (.func 82) [] []) [.int .u32 h] ⟨H,lo⟩=some (.ret (iX h) ⟨H,lo⟩):=by
 refine aH Qi λN c=>?_
 simp(disch:=omega) only[↓R1,Zz,simprocAttr,Qi,arE h b];refine w8 19 (.bool (!(fb h).isSome)) [4] rfl rfl ?_ λd=>?_
 ·simp only[R4,↓R1,Zz,simprocAttr,p8,agK]
  (repeat' (first|apply And.intro|intro _))
  all_goals(refine ahl AV.bool ?_;unfold fb;split<;>simp<;>omega)
 cases a:fb h with
 |none=>simp(disch:=omega) only[F1,↓R1,Zz,simprocAttr,iX,a]
 |some i=>
  have: (h % 256:Nat)- (1:Int)=(i:Nat):=by
   unfold fb at a;split at a<;>cases a;omega
  simp(disch:=omega) only[F1,↓R1,Zz,simprocAttr,iX,a,this]
def agL(i g:Nat)(a:i<32)(b:g<=8388607)(H:List ae)(lo:oN):D X0 (.fn (.func 117) [] []) [.int .i64 i,.int .u32 g] ⟨H,lo⟩=some (.ret (.int .u32 (dh i g)) ⟨H,lo⟩):=by
 refine aH Qw λN c=>?_
 simp(disch:=omega) only[F1,↓R1,Zz,simprocAttr,Qw,p8];exact du (ahl _ (by rfl)) rfl
def eU(b:cO)(h:Nat)(e:h<4294967296)(H:List ae)(lo:oN):D X0 (.fn (.func 50) [] []) [.agg (bU b),.int .u32 h] ⟨H,lo⟩=some (.ret (.bool (az b h)) ⟨H,lo⟩):=by
 refine aH P5 λN f=>?_
 simp only[↓R1,Zz,simprocAttr,P5,f,j8 h e,iX];cases a:fb h with
 |none=>simp(disch:=omega) only[F1,↓R1,Zz,simprocAttr,az,a]
 |some i=>
  have d:=af4 a;have c: (i:Int)<32:=by omega
  simp(disch:=omega) only[F1,↓apO,↓R1,Zz,simprocAttr,az,a,afZ d,c,p8,agK,arF]
def pa{p:Nat->Prop}{k:Nat}(h: ∀j,j<k->p j)(a:p k): ∀j,j<k+1->p j:=by grind
def arG{p:Nat->Bool}{k:Nat}(b:k<n)(a:p k=true)(h: ∀j,j<k->p j=false): (List.range n).find? p=some k:=by simp_all
def arH{p:Nat->Bool}(h: ∀j,j<n->p j=false): (List.range n).find? p=none:=by grind
def uO(b:cO):AV:=.aw [.agg (bU (qu b).1),.int .u32 (qu b).2.1,.bool (qu b).2.2]
theorem Lo:xf.length=96:=by rfl
theorem Lp:List.drop 96 xf=[]:=by rfl
def Lq:type_of% Lo/\type_of% Lp:=by decide
def agM(b:cO)(r:fC b)(H:List ae)(lo:oN):D X0 (.fn (.func 302) [] []) [.agg (bU b)] ⟨H,lo⟩=some (.ret (uO b) ⟨H,lo⟩):=by
 refine aH RS λN s=>?_
 simp only[go_sem,simprocAttr,RS,s,↓Sy];refine eG 32 (λk e H'=> ∃J,H'=cat H (.box (bU b) none:: .box xf none::J)/\e 1= .ptr N 0/\e 2= .ptr (N+1) 0/\e 8= .agg (bU b)/\e 9= .int .i64 k/\ ∀j,j<k->nT b j=false) 0 (by omega) ?_ ?_
 ·simp only[go_sem,simprocAttr];exact⟨[],eo.symm,by simp⟩
 rintro k t e H' ⟨J,rfl,m,l,p,o,f⟩ n q;have d: ∀a b,(cat H (a::b::J)).length=n:=λ_ _=>by rw[<-q,FR,FR];rfl
 simp(disch:=omega) only[bX,F1,go_sem,simprocAttr,afr,m,l,p,o];refine⟨λh=>?_,λh=>?_⟩
 ·have c:k<32:=by omega
  cases g: (b k).dc
  ·cases i: (b k).ret
   ·simp(disch:=first|omega|apply d) only[F1,go_sem,simprocAttr,h,d,Sz c,jh,g,i,m,l,af2 c,agL k (b k).gen c (r k).1,Lq];have e:nU b=some k:=arG c (by simp[nT,g,i]) f;exact⟨by omega,by simp[uO,qu,e,i]⟩
   ·simp(disch:=first|omega|apply d) only[go_sem,simprocAttr,h,d,Sz c,jh,g,i,m,l,p,o];exact⟨c,_,Sw,pa f (by simp[nT,i])⟩
  ·simp(disch:=first|omega|apply d) only[go_sem,simprocAttr,h,d,Sz c,jh,g,m,l,p,o];exact⟨c,_,Sw,pa f (by simp[nT,g])⟩
 ·simp(disch:=first|omega|apply d) only[go_sem,simprocAttr,Lq];have e:nU b=none:=arH λj u=>f j (by omega)
  simp[uO,qu,e]
def atR(b:cO)(k:Nat):AV:=.aw [.int .u32 (if k<32/\ (b k).dc=true then dh k (b k).gen else 0:Nat),.bool (decide (k<32)&& (b k).dc)]
def arI(b:cO)(h:fC b)(k:Nat)(H:List ae)(lo:oN):D X0 (.fn (.func 92) [] []) [.agg (bU b),.int .i64 k] ⟨H,lo⟩=some (.ret (atR b k) ⟨H,lo⟩):=by
 refine aH Ff λN d=>?_
 have e: ¬(k:Int)<0:=by omega
 by_cases a:k<32
 ·have c: ¬(k:Int)>=32:=by omega
  have g: (k:Int)<32:=by omega
  cases f: (b k).dc
  ·simp only[F1,go_sem,simprocAttr,Ff,d,e,c,g,af1 a,f,atR,a]
  ·simp only[F1,go_sem,simprocAttr,Ff,d,e,c,g,af1 a,af0 a,f,agL k (b k).gen a (h k).1,atR,a]
 ·have c: (k:Int)>=32:=by omega
  simp only[F1,go_sem,simprocAttr,Ff,d,e,c,atR,a,false_and,aho]
def z9(b:cO)(h:Nat):AV:=.aw [.agg (bU (dN b h).1),.bool (dN b h).2]
def agN(b:cO)(l:fC b)(h:Nat)(f:h<4294967296)(H:List ae)(lo:oN):D X0 (.fn (.func 330) [] []) [.agg (bU b),.int .u32 h] ⟨H,lo⟩=some (.ret (z9 b h) ⟨H,lo⟩):=by
 refine aH K6 λN g=>?_
 cases c:az b h with
 |false=>
  simp only[F1,go_sem,simprocAttr,K6,g,eU b h f,c,Lq,z9,dN]
 |true=>
  obtain⟨e1,m,e3⟩:=z5 c;have d:=wc h;have e: (aL h:Int)<32:=by omega
  generalize a:aL h=i at*;have k:=(l i).1;simp(disch:=omega) only[bX,F1,go_sem,simprocAttr,K6,g,eU b h f,c,Lq,j8 h f,iX,e1,e,af2 d,arc d,arb d,af0 d,rJ,cF];refine⟨by omega,λj=>⟨by omega,?_⟩,λj=>⟨by omega,?_⟩⟩
  ·simp[z9,dN,c,a,oX,show(b i).gen=8388607 by omega]
  ·simp[z9,dN,c,a,oX,show¬(b i).gen=8388607 by omega]
theorem Cu:lE.length=480:=by rfl
theorem arJ:List.drop 480 lE=[]:=by rfl
def c9:type_of% Cu/\type_of% arJ/\type_of% Lo/\type_of% Lp:=by decide
def Aa(n:Nat)(H:List ae)(lo:oN):D X0 (.fn (.func 322) [] []) [.int .i64 n] ⟨H,lo⟩=some (.ret (.bool (decide (n<=64))) ⟨H,lo⟩):=by
 refine aH R9 λN b=>?_
 have a: (n:Int)>=0:=by omega
 simp(disch:=omega) only[F1,go_sem,simprocAttr,R9,a];exact du (ahl AV.bool (aoo.2 (by grind))) rfl
theorem agO:bM df=[.int .u32 0,.int .i64 0,.aq,.int .i64 0,.int .u32 0,.int .u32 0,.int .u32 0,.int .u32 0,.int .u32 0,.int .u32 0,.int .u32 0,.int .u32 0]:=rfl
def agP(t:av)(j:bP t)(h:Nat)(d:h<4294967296)(H:List ae)(lo:oN):D X0 (.fn (.func 83) [] []) [.agg (aN t),.int .u32 h] ⟨H,lo⟩=some (.ret (.int .u32 (kJ t (aL h))) ⟨H,lo⟩):=by
 refine aH Ka λN g=>?_
 have c:=wc h;have a: (aL h:Int)<32:=by omega
 have e:iX h= .aw [.int .i64 (aL h:Nat),.bool (fb h).isSome]:=rfl;have hu:=(j.r (aL h)).up;generalize aL h=i at*;have f:az t.b (t.r i).up=t.az (t.r i).up:=rfl;cases b:t.az (t.r i).up
 ·simp only[F1,go_sem,simprocAttr,Ka,g,j8 h d,e,a,SG c,eU t.b (t.r i).up hu,f,b,kJ,afE]
 ·simp only[F1,go_sem,simprocAttr,Ka,g,j8 h d,e,a,SG c,eU t.b (t.r i).up hu,f,b,kJ]
def lV(t:av)(h:Nat):AV:=.aw [.agg (bM (aG t h).1),.int .i64 (aG t h).2]
def r6(t:av)(j:bP t)(h:Nat)(c:h<4294967296)(H:List ae)(lo:oN):D X0 (.fn (.func 44) [] []) [.agg (aN t),.int .u32 h] ⟨H,lo⟩=some (.ret (lV t h) ⟨H,lo⟩):=by
 refine aH J4 λN i=>?_
 have k:=wc h;have f: (aL h:Int)<32:=by omega
 have e:iX h= .aw [.int .i64 (aL h:Nat),.bool (fb h).isSome]:=rfl;have d:=agP t j h c;have b:aG t h=if t.az h then({t.r (aL h)with up:=kJ t (aL h)},0)else(df,4):=rfl
 unfold lV;rw[b];have g:az t.b h=t.az h:=rfl;cases a:t.az h
 ·simp only[F1,go_sem,simprocAttr,J4,i,eU t.b h c,g,a,agO,afE]
 ·simp only[F1,go_sem,simprocAttr,J4,i,j8 h c,e,f,ari k,eU t.b h c,g,a,d]
def Ab(t:av)(a n:Nat):AV:=.aw [.agg (aN (kK t a n).1),.int .u32 (kK t a n).2.1,.int .i64 (kK t a n).2.2]
theorem agQ: [AV.int .u32 0,.int .i64 n,.aq,.int .i64 0,.int .u32 0,.int .u32 0,.int .u32 0,.int .u32 0,.int .u32 0,.int .u32 0,.int .u32 0,.int .u32 0]=bM {df with up:=0,di:=n}:=rfl
theorem arK{u:Nat}: [AV.int .u32 (u:Nat),.int .i64 n,.aq,.int .i64 0,.int .u32 0,.int .u32 0,.int .u32 0,.int .u32 0,.int .u32 0,.int .u32 0,.int .u32 0,.int .u32 0]=bM {df with up:=u,di:=n}:=rfl
def arL(t:av)(o:bP t)(a n:Nat)(m:a<4294967296)(H:List ae)(lo:oN):D X0 (.fn (.func 284) [] []) [.agg (aN t),.int .u32 a,.int .i64 n] ⟨H,lo⟩=some (.ret (Ab t a n) ⟨H,lo⟩):=by
 refine aH v9 λN j=>?_
 have p:az t.b a=t.az a:=rfl;have d:=agM t.b o.b;unfold Ab kK;by_cases e:a≠0/\t.az a=false
 ·rw[adY e];have b: ¬(a:Int)=0:=by omega
  simp only[F1,go_sem,simprocAttr,v9,j,b,eU t.b a m,p,e.2,c9]
 ·rw[adU e];have c:a=0\/ (¬(a:Int)=0/\t.az a=true):=by
   by_cases s:a=0
   ·exact .inl s
   ·refine .inr ⟨by omega,?_⟩;cases u:t.az a
    ·exact absurd ⟨s,u⟩ e
    ·rfl
  by_cases r:64<n
  ·rw[adY r];have h:decide (n<=64)=false:=by simp;omega
   rcases c with rfl| ⟨b,g⟩
   ·simp only[F1,go_sem,simprocAttr,v9,j,Aa,h,c9]
   ·simp only[F1,go_sem,simprocAttr,v9,j,b,eU t.b a m,p,g,Aa,h,c9]
  ·rw[adU r];have h:decide (n<=64)=true:=by simp;omega
   cases l:nU t.b with
   |none=>
    rcases c with rfl| ⟨b,g⟩
    ·simp only[F1,go_sem,simprocAttr,v9,j,Aa,h,c9,d,uO,qu,l]
    ·simp only[F1,go_sem,simprocAttr,v9,j,b,eU t.b a m,p,g,Aa,h,c9,d,uO,qu,l]
   |some i=>
    obtain⟨f,x,w,v⟩:=rP l;have k: (i:Int)<32:=by omega
    have q:fb (dh i (t.b i).gen)=some i:=K9 f (o.b i).1;rcases c with rfl| ⟨b,g⟩
    ·simp only[F1,go_sem,simprocAttr,v9,j,Aa,h,c9,d,uO,qu,l,k,j8 (dh i (t.b i).gen) (FV f (o.b i).1),iX,q,agQ,Le f];omega
    ·simp only[F1,go_sem,simprocAttr,v9,j,b,eU t.b a m,p,g,Aa,h,c9,d,uO,qu,l,k,j8 (dh i (t.b i).gen) (FV f (o.b i).1),iX,q,arK,Le f];omega
def S6(t:av)(h:Nat):AV:=.aw [.agg (aN (gv t h).1),.int .i64 (gv t h).2]
def arM(t:av)(i:bP t)(h:Nat)(f:h<4294967296)(H:List ae)(lo:oN):D X0 (.fn (.func 324) [] []) [.agg (aN t),.int .u32 h] ⟨H,lo⟩=some (.ret (S6 t h) ⟨H,lo⟩):=by
 refine aH K3 λN g=>?_
 have j:=wc h;have a: (aL h:Int)<32:=by omega
 have e:iX h= .aw [.int .i64 (aL h:Nat),.bool (fb h).isSome]:=rfl;have d:=agN t.b i.b h f;have k:az t.b h=t.az h:=rfl;unfold S6 gv;cases b:t.az h
 ·have c:dN t.b h=(t.b,false):=by unfold dN;grind
  simp only[F1,go_sem,simprocAttr,K3,g,d,z9,c,c9,afE]
 ·have c: (dN t.b h).2=true:=by unfold dN;rw[k,b];rfl
  simp only[F1,go_sem,simprocAttr,K3,g,d,z9,c,c9,j8 h f,e,a,<-agO,Le j];omega
def fx[Inhabited α]{k:Nat}(h:k<l.length):l.getD k default∈l:=by grind
def j9{α:Type}(p:α->Bool)(l:List α):Int:=match l.findIdx? p with
 |some i=>i
 |none=> -1
def Ac(p:α->Bool)(l:List α):decide (0<=j9 p l)=l.any p:=by
 unfold j9
 grind
def Ad[Inhabited α]{p:α->Bool}{k:Nat}(b:k<l.length)(h: ∀j,j<k->p (l.getD j default)=false)(a:p (l.getD k default)=true):j9 p l=k:=by
 have:l.findIdx? p=some k:=by grind [List.findIdx?_eq_some_iff_getElem]
 unfold j9;rw[this]
def Ae[Inhabited α]{p:α->Bool}(h: ∀j,j<l.length->p (l.getD j default)=false):j9 p l= -1:=by
 have:l.findIdx? p=none:=by grind [List.findIdx?_eq_none_iff,List.getElem_of_mem]
 unfold j9;rw[this]
def hC(h:Nat):lA:=[.int .u32 h]
theorem pH:Den.part false 1 (hC h) 0=some (.int .u32 h):=rfl
def bC(b:UInt8):lA:=[.int .u8 b.toNat]
theorem pB{b:UInt8}:Den.part false 1 (bC b) 0=some (.int .u8 b.toNat):=rfl
def sC(s:lB):lA:=[S s]
theorem pS{s:lB}:Den.part false 1 (sC s) 0=some (S s):=rfl
structure Instr where
 op:Nat
 a:Nat
 b:Nat
 c:Nat
 n:Nat
 deriving DecidableEq,Inhabited
def agR(v fv:AV)(l:List aC)(b:Rv v 2 (l.map aA))(r:l.length<2^40)(p:aC->Bool)(H:List ae)(lo:oN)
  (o: ∀x∈l,D X0 fv [.agg (aA x)] ⟨H,none⟩=some (.ret (.bool (p x)) ⟨H,none⟩)):D X0 (.fn (.func 112) [] []) [v,fv] ⟨H,lo⟩=some (.ret (.int .i64 (j9 p l)) ⟨H,lo⟩):=by
 refine aH Qt λN u=>?_
 simp only[go_sem,simprocAttr,Qt,b.bS];refine eG l.length (λk e H'=>H'=H/\e 0=v/\e 1=fv/\e 7= .int .i64 l.length/\e 8= .int .i64 k/\ ∀j,j<k->p (l.getD j default)=false) 0 (by omega) ?_ ?_
 ·simp only[go_sem,simprocAttr];omega
 ·rintro k s e H' ⟨rfl,i,g,f,d,c⟩ n q;simp(disch:=omega) only[bX,F1,go_sem,simprocAttr,aeS,i,g,f,d];refine⟨λh=>?_,λh=>?_⟩
  ·have a:k<l.length:=by omega
   simp(disch:=omega) only[go_sem,simprocAttr,b.cp,b.c7,↓SQ,o _ (fx a)];refine⟨by omega,?_⟩;cases m:p (l.getD k default)
   ·simp(disch:=omega) only[go_sem,simprocAttr,i,g,f,d]
    grind
   ·simp(disch:=omega) only[F1,go_sem,simprocAttr];rw[Ad a c m]
  ·rw[Ae (λj t=>c j (by omega))]
def arN(v fv:AV)(l:List aC)(a:Rv v 2 (l.map aA))(b:l.length<2^40)(p:aC->Bool)(H:List ae)(lo:oN)
  (c: ∀x∈l,D X0 fv [.agg (aA x)] ⟨H,none⟩=some (.ret (.bool (p x)) ⟨H,none⟩)):D X0 (.fn (.func 79) [] []) [v,fv] ⟨H,lo⟩=some (.ret (.bool (l.any p)) ⟨H,lo⟩):=by
 refine aH Qg λN d=>?_
 simp(disch:=omega) only[F1,go_sem,simprocAttr,Qg,agR v fv l a b p H none c,Ac]
def agS{X:Ctx}(a:Ext X0 X)(h:X0.code f=some pf)(b:X0.bW f=none):X.bW f=none:=by
 rcases a.bW f with e| ⟨_,e⟩
 ·grind
 grind
def agT{X:Ctx}(a:Ext X0 X)(h:X0.code f=some pf):X.code f=some pf:=by rw[a.code];exact h
def up{X:Ctx}(a:Ext X0 X){args:lA}{E:AS}{r:aU}(h:D X0 v args E=some r):D X v args E=some r:=adQ a _ _ _ _ h
def agU{X:Ctx}(f:Ext X0 X)(v fv:AV)(l:lN)(H:List ae)(b:Rd ⟨H,none⟩ v 1 (l.map hC))(s:l.length<2^40)(p:Nat->Bool)(lo:oN)
  (q: ∀x∈l,D X fv [.int .u32 x] ⟨H,none⟩=some (.ret (.bool (p x)) ⟨H,none⟩)):D X (.fn (.func 195) [] []) [v,fv] ⟨H,lo⟩=some (.ret (.int .i64 (j9 p l)) ⟨H,lo⟩):=by
 refine Ol Rc (agS f rfl rfl) (agT f rfl) rfl λN w=>?_
 simp only[go_sem,simprocAttr,Rc,b.bS];refine eG l.length (λk e H'=>H'=H/\e 0=v/\e 1=fv/\e 7= .int .i64 l.length/\e 8= .int .i64 k/\ ∀j,j<k->p (l.getD j default)=false) 0 (by omega) ?_ ?_
 ·simp only[go_sem,simprocAttr];omega
 ·rintro k t e H' ⟨rfl,o,m,i,g,c⟩ n r;simp(disch:=omega) only[bX,F1,go_sem,simprocAttr,afb,o,m,i,g];refine⟨λh=>?_,λh=>?_⟩
  ·have a:k<l.length:=by omega
   simp(disch:=omega) only[go_sem,simprocAttr,b.cp,b.c7,↓pH,q _ (fx a)];refine⟨by omega,?_⟩;cases d:p (l.getD k default)
   ·simp(disch:=omega) only[go_sem,simprocAttr,o,m,i,g];exact⟨a,pa c d⟩
   ·simp(disch:=omega) only[F1,go_sem,simprocAttr];rw[Ad a c d]
  ·rw[Ae (λj u=>c j (by omega))]
def agV{X:Ctx}(a:Ext X0 X)(v fv:AV)(l:lN)(H:List ae)(b:Rd ⟨H,none⟩ v 1 (l.map hC))(c:l.length<2^40)(p:Nat->Bool)(lo:oN)
  (d: ∀x∈l,D X fv [.int .u32 x] ⟨H,none⟩=some (.ret (.bool (p x)) ⟨H,none⟩)):D X (.fn (.func 319) [] []) [v,fv] ⟨H,lo⟩=some (.ret (.bool (l.any p)) ⟨H,lo⟩):=by
 refine Ol R6 (agS a rfl rfl) (agT a rfl) rfl λN e=>?_
 simp(disch:=omega) only[F1,go_sem,simprocAttr,R6,agU a v fv l H b c p none d,Ac]
def arO(v fv:AV)(l:lB)(b:Rv v 1 (l.map bC))(r:l.length<2^40)(p:UInt8->Bool)(H:List ae)(lo:oN)
  (o: ∀x∈l,D X0 fv [.int .u8 x.toNat] ⟨H,none⟩=some (.ret (.bool (p x)) ⟨H,none⟩)):D X0 (.fn (.func 136) [] []) [v,fv] ⟨H,lo⟩=some (.ret (.int .i64 (j9 p l)) ⟨H,lo⟩):=by
 refine aH QI λN u=>?_
 simp only[go_sem,simprocAttr,QI,b.bS];refine eG l.length (λk e H'=>H'=H/\e 0=v/\e 1=fv/\e 7= .int .i64 l.length/\e 8= .int .i64 k/\ ∀j,j<k->p (l.getD j default)=false) 0 (by omega) ?_ ?_
 ·simp only[go_sem,simprocAttr];omega
 ·rintro k s e H' ⟨rfl,m,i,g,f,c⟩ n q;simp(disch:=omega) only[bX,F1,go_sem,simprocAttr,aeY,m,i,g,f];refine⟨λh=>?_,λh=>?_⟩
  ·have a:k<l.length:=by omega
   simp(disch:=omega) only[go_sem,simprocAttr,b.cp,b.c7,↓pB,o _ (fx a)];refine⟨by omega,?_⟩;cases d:p (l.getD k default)
   ·simp(disch:=omega) only[go_sem,simprocAttr,m,i,g,f];exact⟨a,pa c d⟩
   ·simp(disch:=omega) only[F1,go_sem,simprocAttr];rw[Ad a c d]
  ·rw[Ae (λj t=>c j (by omega))]
def arP(v fv:AV)(l:lB)(a:Rv v 1 (l.map bC))(b:l.length<2^40)(p:UInt8->Bool)(H:List ae)(lo:oN)
  (c: ∀x∈l,D X0 fv [.int .u8 x.toNat] ⟨H,none⟩=some (.ret (.bool (p x)) ⟨H,none⟩)):D X0 (.fn (.func 101) [] []) [v,fv] ⟨H,lo⟩=some (.ret (.bool (l.any p)) ⟨H,lo⟩):=by
 refine aH Qn λN d=>?_
 simp(disch:=omega) only[F1,go_sem,simprocAttr,Qn,arO v fv l a b p H none c,Ac]
def arQ(v fv:AV)(l:List lB)(b:Rv v 1 (l.map sC))(r:l.length<2^40)(p: lB->Bool)(H:List ae)(lo:oN)
  (o: ∀x∈l,D X0 fv [S x] ⟨H,none⟩=some (.ret (.bool (p x)) ⟨H,none⟩)):D X0 (.fn (.func 135) [] []) [v,fv] ⟨H,lo⟩=some (.ret (.int .i64 (j9 p l)) ⟨H,lo⟩):=by
 refine aH QH λN u=>?_
 simp only[go_sem,simprocAttr,QH,b.bS];refine eG l.length (λk e H'=>H'=H/\e 0=v/\e 1=fv/\e 7= .int .i64 l.length/\e 8= .int .i64 k/\ ∀j,j<k->p (l.getD j default)=false) 0 (by omega) ?_ ?_
 ·simp only[go_sem,simprocAttr];omega
 ·rintro k s e H' ⟨rfl,m,i,g,f,c⟩ n q;simp(disch:=omega) only[bX,F1,go_sem,simprocAttr,aeX,m,i,g,f];refine⟨λh=>?_,λh=>?_⟩
  ·have a:k<l.length:=by omega
   simp(disch:=omega) only[go_sem,simprocAttr,b.cp,b.c7,↓pS,o _ (fx a)];refine⟨by omega,?_⟩;cases d:p (l.getD k default)
   ·simp(disch:=omega) only[go_sem,simprocAttr,m,i,g,f];exact⟨a,pa c d⟩
   ·simp(disch:=omega) only[F1,go_sem,simprocAttr];rw[Ad a c d]
  ·rw[Ae (λj t=>c j (by omega))]
def arR(v fv:AV)(l:List lB)(a:Rv v 1 (l.map sC))(b:l.length<2^40)(p: lB->Bool)(H:List ae)(lo:oN)
  (c: ∀x∈l,D X0 fv [S x] ⟨H,none⟩=some (.ret (.bool (p x)) ⟨H,none⟩)):D X0 (.fn (.func 100) [] []) [v,fv] ⟨H,lo⟩=some (.ret (.bool (l.any p)) ⟨H,lo⟩):=by
 refine aH Qm λN d=>?_
 simp(disch:=omega) only[F1,go_sem,simprocAttr,Qm,arQ v fv l a b p H none c,Ac]
def Cv(r:aC)(b:r.1+r.2<4294967296)(H:List ae)(lo:oN):D X0 (.fn (.func 113) [] []) [.agg (aA r)] ⟨H,lo⟩=some (.ret (.int .i64 (r.1+r.2:Nat)) ⟨H,lo⟩):=by
 refine aH Qu λN a=>?_
 simp(disch:=omega) only[F1,go_sem,simprocAttr,Qu,a,aA,anW]
def S7(r:aC)(c:r.1<4294967296)(b:r.2<4294967296)(H:List ae)(lo:oN):D X0 (.fn (.func 78) [] []) [.agg (aA r)] ⟨H,lo⟩=some (.ret (.bool (j5 r)) ⟨H,lo⟩):=by
 refine aH Qf λN a=>?_
 simp(disch:=omega) only[R4,F1,go_sem,simprocAttr,Qf,a,aA,j5]
 (repeat' (first|apply And.intro|intro _))
 all_goals(first|omega| (refine du (ahl AV.bool (aoo.2 ?_)) rfl;grind))
def holds(y x:aC):Bool:=decide (x=y)|| (decide (y.1<=x.1)&&decide (x.1+x.2<=y.1+y.2))
def run_eq(a b:aC):dy (.agg [.int,.int]) (.agg (aA a)) (.agg (aA b))=some (decide (a=b)):=by
 obtain⟨f,e⟩:=a;obtain⟨d,c⟩:=b;simp only[dy,aA,afL,anJ,OZ,O0,ag6,and_self,ap1,Int.natCast_inj]
 grind
def agW(y x:aC)(d:y.1+y.2<4294967296)(e:x.1+x.2<4294967296)(H:List ae)(lo:oN):D X0 (.fn (.func 81) [] []) [.agg (aA y),.agg (aA x)] ⟨H,lo⟩=some (.ret (.bool (holds y x)) ⟨H,lo⟩):=by
 refine aH Fe λN b=>?_
 have f:=Cv y d;have ex:=Cv x e;by_cases he:x=y
 ·simp only[F1,go_sem,simprocAttr,Fe,b,run_eq,he,holds]
 ·by_cases c:y.1<=x.1
  ·have a: (y.1:Int)<=x.1:=by omega
   simp only[F1,go_sem,simprocAttr,Fe,b,run_eq,he,holds,c,a,f,ex,anW];refine du (ahl AV.bool (aoo.2 ?_)) rfl
   grind
  ·have a: ¬(y.1:Int)<=x.1:=by omega
   simp only[F1,go_sem,simprocAttr,Fe,b,run_eq,he,holds,c,a,aho,auu]
def Af(l:List aC):Prop:=l.length<=64/\ ∀x∈l,x.1+x.2<=64
def arS(x y:aC)(c:x.1+x.2<4294967296)(b:y.1+y.2<4294967296)(p:Nat)(H:List ae)(lo:oN)(e:H[p]?=some (.box (aA x) none)):
  D X0 (.fn (.func 80) [] [.ptr p 0]) [.agg (aA y)] ⟨H,lo⟩=some (.ret (.bool (holds y x)) ⟨H,lo⟩):=by
 refine fB Qh λN d=>?_
 have a: ∀L,(H++L)[p]?=some (.box (aA x) none):=λL=>by grind
 simp only[F1,go_sem,simprocAttr,Qh,d,a,agW y x b c]
def uP(l:List aC)(k:Nat):Bool:=decide (k<64)&&l.any λy=>holds y (k,1)
def agX(v:AV)(l:List aC)(f:Rv v 2 (l.map aA))(b:Af l)(k:Nat)(i:k<2147483648)(H:List ae)(lo:oN):
  D X0 (.fn (.func 43) [] []) [.agg [v],.int .i64 k] ⟨H,lo⟩=some (.ret (.bool (uP l k)) ⟨H,lo⟩):=by
 refine aH J3 λN a=>?_
 have hm:=S7 (k,1) (by omega) (by simp);have c:=arN v (.fn (.func 80) [] [.ptr (N+1) 0]) l f (by have:=b.1;omega) (λy=>holds y (k,1)) (H++[.box [v] none,.box (aA (k,1)) none]) none (λy d=>arS (k,1) y (by omega) (by have:=b.2 y d;omega) (N+1) _ none (by rw[bE a];rfl));have g:aA (k,1)=[.int .i64 (k:Nat),.int .i64 1]:=rfl;rw[g]at hm c;by_cases h:k<64
 ·have e:j5 (k,1)=true:=by simp[j5];omega
  simp only[F1,go_sem,simprocAttr,J3,a,hm,e,c];simp[uP,h]
 ·have e:j5 (k,1)=false:=by simp[j5];omega
  simp only[F1,go_sem,simprocAttr,J3,a,hm,e];simp[uP,h]
def r7{X:Ctx}(pf:PF){args cap:lA}{H:List ae}{R:aU->Prop}(b:X.bW f=none)(d:X.code f=some pf)(c:Nat.ble (args++cap).length pf.ntmps=true)
 (h: ∀n,H.length=n->wp X f false pf.body ⟨dq (args++cap),[]⟩ ⟨H,none⟩ (dW X n lo pf.results R)): ∃a,D X (.fn (.func f) [] cap) args ⟨H,lo⟩=some a/\R a:=by simp_all[ap6,Oj]
def uQ(l:List aC):List lA:=(List.range l.length).map λi=>[.int .i64 (i:Nat),.agg (aA (l.getD i default))]
def Ag(l:List aC): (uQ l).length=l.length:=by simp[uQ]
def Lr{l:List aC}(h:j<l.length): (uQ l)[j]?=some [.int .i64 (j:Nat),.agg (aA (l.getD j default))]:=by
 unfold uQ;grind
def Ah{N id o:Nat}{f:Fn}{L:lA}{H:List ae}(h:N<=id):finish N lo (.fn f [] (.ptr id o::L)) ⟨H,none⟩=(.fn f [] (.ptr id o::L),⟨H,lo⟩):=by
 have a: ¬(AV.fn f [] (.ptr id o::L)).refs<=N:=by simp only[AV.refs,aK];omega
 refine adk a ?_;unfold Den.freeze;simp[a]
def agY(a:Rv v sz af){H:List ae}{tg:Option TypeId}:oH ⟨H,lo⟩ v tg=some (.ptr H.length 0,⟨H++[.box [v] tg],lo⟩):=by
 obtain⟨h,_,_⟩:=a ⟨[],none⟩;cases v<;>first|rfl|grind
def cY(b:Rv v sz af)(c:b9 af=0):v.refs=0:=by
 obtain⟨d,a,e⟩:=b ⟨[],none⟩;cases v<;>simp only[]at d
 ·rfl
 ·simp only[Den.elems]at a;split at a
  ·cases a;simpa only[AV.refs]using c
  grind
 ·trivial
def agZ(v:AV)(l:List aC)(d:Rv v 2 (l.map aA))(N:Nat)(H:List ae)(c:H.length=N)(lo:oN):
  D X0 (.fn (.func 74) [] []) [.agg [v]] ⟨H,lo⟩=some (.ret (.fn (.func 138) [] [.ptr (N+1) 0]) ⟨H++[.box [v] none,.box [v] none],lo⟩):=by
 have e:=λH'=>agY (H:=H') (lo:=none) (tg:=none) d
 have e1:D X0 (.fn (.func 108) [] []) [v] ⟨H++[.box [v] none],none⟩=some (.ret (.fn (.func 138) [] [.ptr (N+1) 0]) ⟨H++[.box [v] none,.box [v] none],none⟩):=by
  refine aH Qs λM a=>?_
  have b:M=N+1:=by rw[<-a];simp[c]
  subst b;simp only[go_sem,simprocAttr,Qs,a,e];rw[Ah (by omega)]
 refine aH Qe λM a=>?_
 obtain rfl:M=N:=by rw[<-a,c]
 simp only[go_sem,simprocAttr,Qe,a,e1];rw[Ah (by omega)]
def arT(v:AV)(l:List aC)(w:Rv v 2 (l.map aA))(O:Af l)(a:Nat)(o:ae):
  adX X0 (.fn (.func 138) [] [.ptr (a+1) 0]) a [o,.box [v] none] (uQ l):=by
 intro y I J x A M B S lo;have K:l.length<=64:=O.1
 suffices h: ∃p,D X0 (.fn (.func 138) [] [.ptr (a+1) 0]) [y] ⟨A++([o,.box [v] none]++M),lo⟩=some p/\
   (λp=> ∃A' c,A'.length=a/\c.length=M.length/\p=aU.ret (.aw []) ⟨A'++([o,.box [v] none]++c),lo⟩/\ (I (uQ l).length A' c\/J A' c)) p by
  obtain⟨p,R,A',c,f,r,rfl,q⟩:=h;exact⟨A',[o,.box [v] none],c,f,rfl,r,R,q⟩
 refine r7 Fj rfl rfl rfl λN Q=>?_
 have z:N=a+(2+M.length):=by rw[<-Q];simp[B];omega
 have P: ∀ (A' c:List ae),A'.length=a->(A'++(o:: .box [v] none::c))[a+1]?=some (.box [v] none):=by
  intro A' c h;rw[bE h];rfl
 simp only[go_sem,simprocAttr,Fj,P A M B,w.bS];refine eG l.length (λk e H'=> ∃A' c L,A'.length=a/\c.length=M.length/\H'=A'++([o,.box [v] none]++(c++L))/\I k A' c/\e 0=y/\e 5=v/\e 6= .int .i64 l.length/\e 7= .int .i64 k) 0 (by omega) ?_ ?_
 ·simp only[go_sem,simprocAttr];exact⟨A,M,[],B,rfl,by simp,S⟩
 rintro k U e H' ⟨A',c,L,f,r,m,q,F,E,e6,e7⟩ n H;have g: ∀ (d M2 s:List ae),d.length=a->M2.length=M.length->(d++([o,.box [v] none]++(M2++s))).take N=d++([o,.box [v] none]++M2):=by
  intro d M2 s g1 g2;have:d++([o,.box [v] none]++(M2++s))=(d++([o,.box [v] none]++M2))++s:=by simp
  rw[this];exact aof (by simp[g1,g2,z];omega)
 simp only[bX,F1,go_sem,simprocAttr,QK,E,e6,e7];refine⟨λh=>?_,λh=>?_⟩
 ·have j:k<l.length:=by omega
  obtain⟨b,d,M2,u,T,G,C⟩:=x k _ (Lr j) A' c q f [o,.box [v] none] (L++[.box (aA (l.getD k default)) none]) none rfl;have t:D X0 y [.int .i64 k,.agg (aA (l.getD k default))] ⟨H'++[.box (aA (l.getD k default)) none],none⟩=some (.ret (.bool b) ⟨d++([o,.box [v] none]++(M2++(L++[.box (aA (l.getD k default)) none]))),none⟩):=by
   rw[<-G,m];simp
  simp(disch:=omega) only[go_sem,simprocAttr,w.cp,w.c7,h,H,F,t];cases b
  ·simp only[F1,go_sem,simprocAttr];refine⟨d,M2,u,by omega,?_,.inr C⟩;have i:=g d M2 (L++[.box (aA (l.getD k default)) none]) u (by omega);simp only[ahq,ahm]at i;exact du rfl i
  ·simp(disch:=omega) only[go_sem,simprocAttr,F,E,e6,e7];exact⟨j,d,M2,L++[.box (aA (l.getD k default)) none],u,by omega,rfl,C⟩
 ·subst m;refine⟨A',c,f,r,?_,.inl ?_⟩
  ·have i:=g A' c L f r;simp only[ahq,ahm]at i;exact du rfl i
  ·rw[Ag,show l.length=k by omega];exact q
def nm{X:Ctx}{a:List RV}{R:aU->Prop}{e:Env}{b:lN}{H:List ae}{l:oN}:
  dW X n lo a R .ret ⟨e,p::b⟩ ⟨H,l⟩=match H[p]? with|some .bt=>dW X n lo a R .ret ⟨e,b⟩ ⟨H.set p .dead,l⟩|_=>False:=by
 simp only[zh,dU];cases c:H[p]? with
 |none=>simp
 |some o=>cases o<;>simp[AS.set]
def arU{H B G:List ae}{o:ae}{N:Nat}(b:H.length=N)(a:N+(B.length+G.length)=p): (cat H (B++(G++[.bt,o]))++M)[p]?=some .bt:=by grind [eo]
def arV{H B G:List ae}{o:ae}{N:Nat}(b:H.length=N)(a:N+(B.length+G.length)=p): (cat H (B++(G++[.bt,o]))++M).set p .dead=cat H (B++(G++[.dead,o]))++M:=by grind [eo,DO]
def ag0{H B G:List ae}{o:ae}{N:Nat}(b:H.length=N)(a:N+(B.length+G.length)=p): (cat H (B++(G++[.bt,o])))[p]?=some .bt:=by
 have:=arU (M:=[]) (o:=o) b a;grind
def ag1{H B G:List ae}{o:ae}{N:Nat}(b:H.length=N)(a:N+(B.length+G.length)=p): (cat H (B++(G++[.bt,o]))).set p .dead=cat H (B++(G++[.dead,o])):=by
 have:=arV (M:=[]) (o:=o) b a;grind
def ag2(a:Ex)(I:List ae->Prop)(J:Ex->List ae->Prop)(A:List ae):Prop:=match a with|.normal=>I A|.panic _=>False|a=>J a A
def arW{b:Fr}{H B R:List ae}{I:List ae->Prop}{J:Ex->List ae->Prop}{a:Ex}(c:H.length+B.length=n)(h:ag2 a I J (H++B)):O7 n R I J a b ⟨cat H (B++R)++M,none⟩:=
 ⟨rfl,H++B,M,by rw[eo];simp,by grind,h⟩
def S8{g:Fr}{H R:List ae}{a b c d:ae}{I:List ae->Prop}{J:Ex->List ae->Prop}{e:Ex}(f:H.length+4=n)(h:ag2 e I J (H++[a,b,c,d])):O7 n R I J e g ⟨cat H (a::b::c::d::R)++M,none⟩:=arW (B:=[a,b,c,d]) f h
def fits(n:Nat)(x:aC):Bool:=decide (1<=n)&&decide (n<=x.2)
def Ls(l:List aC)(n:Nat):AV:=match l.find? (fits n)with
 |some x=>.aw [.int .i64 (x.1:Nat),.bool true]
 |none=>.aw [.int .i64 0,.bool false]
def arX[Inhabited α]{p:α->Bool}{k:Nat}(b:k<l.length)(h: ∀j,j<k->p (l.getD j default)=false)(a:p (l.getD k default)=true):l.find? p=some (l.getD k default):=by grind [List.find?_eq_some_iff_getElem]
def arY[Inhabited α]{p:α->Bool}(h: ∀j,j<l.length->p (l.getD j default)=false):l.find? p=none:=by grind [List.find?_eq_none,List.getElem_of_mem]
def arZ(v:AV)(l:List aC)(P:Rv v 2 (l.map aA))(V:Af l)(m:Nat)(H:List ae)(lo:oN):
  D X0 (.fn (.func 173) [] []) [.agg [v],.int .i64 m] ⟨H,lo⟩=some (.ret (Ls l m) ⟨H,lo⟩):=by
 refine aH QX λN r=>?_
 have he:=agZ v l P (N+4) (H++[.box [v] none,.box [.int .i64 m] none,.box [.int .i64 0] none,.box [.bool false] none]) (by simp[r]) none;simp only[go_sem,simprocAttr,QX,r,he];have K:H++[ae.box [v] none,.box [.int .i64 m] none,.box [.int .i64 0] none,.box [.bool false] none,.box [v] none,.box [v] none]=(H++[ae.box [v] none,.box [.int .i64 m] none,.box [.int .i64 0] none,.box [.bool false] none])++[.box [v] none,.box [v] none]:=by simp
 rw[K];generalize q: ((((((dq [AV.agg [v],AV.int .i64 m]).set 2 (AV.ptr N 0)).set 3 (AV.ptr (N+1) 0)).set 4 (AV.ptr (N+2) 0)).set 5 (AV.ptr (N+3) 0)).set 8 (AV.agg [v])).set 9 (AV.fn (Fn.func 138) [] [AV.ptr (N+4+1) 0])=e;have G:e 3= .ptr (N+1) 0:=by rw[<-q];rfl
 have F:e 4= .ptr (N+2) 0:=by rw[<-q];rfl
 have E:e 5= .ptr (N+3) 0:=by rw[<-q];rfl
 have O: (ao.t 9).get e= .fn (.func 138) [] [.ptr (N+4+1) 0]:=by rw[<-q];rfl
 clear q;have Z: (H++[ae.box [v] none,.box [.int .i64 m] none,.box [.int .i64 0] none,.box [.bool false] none]).length=N+4:=by simp[r]
 refine aqA (uQ l) _ _ (by rw[O];rfl) (by rw[O,Z];exact arT v l P V (N+4) _)
  (λj C=>C=H++[.box [v] none,.box [.int .i64 m] none,.box [.int .i64 0] none,.box [.bool false] none]/\ ∀i,i<j->fits m (l.getD i default)=false)
  (λex C=>ex= .ret/\ ∃x,l.find? (fits m)=some x/\C=H++[.box [v] none,.box [.int .i64 m] none,.box [.int .i64 (x.1:Nat)] none,.box [.bool true] none])
  ⟨rfl,λi W=>absurd W (apN i)⟩ ?_ ?_ ?_
 ·intro j x y;have S:j<l.length:=by
   have:=(adg.1 y).1;rwa[Ag]at this
  rw[Lr S]at y;cases y;refine⟨rfl,?_⟩;rintro C Y ⟨rfl,f⟩ R;obtain⟨n,Q⟩: ∃n,H.length+(R.length+1+1+1+1)=n:=⟨_,rfl⟩;simp only[go_sem,simprocAttr,hU];simp only[Q];refine⟨[.box (aA (l.getD j default)) none],rfl,λM X=>?_⟩;have t: ∀a b c d:ae,(cat H (a::b::c::d::M)).length=n:=λa b c d=>by rw[<-Q,FR];simp[X]
  have z: ∀a b c d e:ae,H++(a::b::c::d:: (M++[e]))=cat H (a::b::c::d::M)++[e]:=λa b c d e=>by rw[eo];simp
  rw[z];by_cases U:1<=m
  ·have s: (m:Int)>=1:=by omega
   by_cases T:m<=(l.getD j default).2
   ·have w: ((l.getD j default).2:Int)>=m:=by omega
    simp(disch:=first|omega|apply t) only[go_sem,simprocAttr,Ky,G,F,E,s,w];exact S8 (by simp) ⟨rfl,_,arX S f (by unfold fits;rw[ag9];exact⟨aet U,aet T⟩),rfl⟩
   ·have w: ¬((l.getD j default).2:Int)>=m:=by omega
    simp(disch:=first|omega|apply t) only[go_sem,simprocAttr,Ky,G,s,w];exact S8 (by simp) ⟨rfl,pa f (by unfold fits;rw[Bool.and_eq_false_iff];exact .inr (aeq T))⟩
  ·have s: ¬(m:Int)>=1:=by omega
   simp(disch:=first|omega|apply t) only[go_sem,simprocAttr,Ky,G,s];exact S8 (by simp) ⟨rfl,pa f (by unfold fits;rw[Bool.and_eq_false_iff];exact .inl (aeq U))⟩
 ·rintro A' g o L u ⟨rfl,f⟩;obtain⟨p,A⟩: ∃p,(H++[ae.box [v] none,.box [.int .i64 m] none,.box [.int .i64 0] none,.box [.bool false] none]++[ae.box [v] none,.box [v] none]).length=p:=⟨_,rfl⟩;have k:N+(4+g.length)=p:=by rw[<-A];simp[r,u]
  have h:H++[ae.box [v] none,.box [.int .i64 m] none,.box [.int .i64 0] none,.box [.bool false] none]++(g++[.bt,o])=cat H ([ae.box [v] none,.box [.int .i64 m] none,.box [.int .i64 0] none,.box [.bool false] none]++(g++[.bt,o])):=by rw[eo];simp
  have J: ∀a b c d:ae,(cat H (a::b::c::d:: (g++[.bt,o])))[p]?=some .bt:=λa b c d=>ag0 (B:=[a,b,c,d]) r k
  have I: ∀a b c d:ae,(cat H (a::b::c::d:: (g++[.bt,o]))).set p .dead=cat H (a::b::c::d:: (g++[.dead,o])):=λa b c d=>ag1 (B:=[a,b,c,d]) r k
  rw[A,h];simp(disch:=omega) only[F1,go_sem,simprocAttr,F,E,nm,J,I];rw[Ag]at f;simp[Ls,arY f]
 ·rintro ex A' g o L u ⟨rfl,x,y,rfl⟩;obtain⟨p,A⟩: ∃p,(H++[ae.box [v] none,.box [.int .i64 m] none,.box [.int .i64 0] none,.box [.bool false] none]++[ae.box [v] none,.box [v] none]).length=p:=⟨_,rfl⟩;have k:N+(4+g.length)=p:=by rw[<-A];simp[r,u]
  have h:H++[ae.box [v] none,.box [.int .i64 m] none,.box [.int .i64 (x.1:Nat)] none,.box [.bool true] none]++(g++[.bt,o])=cat H ([ae.box [v] none,.box [.int .i64 m] none,.box [.int .i64 (x.1:Nat)] none,.box [.bool true] none]++(g++[.bt,o])):=by rw[eo];simp
  have J: ∀a b c d:ae,(cat H (a::b::c::d:: (g++[.bt,o])))[p]?=some .bt:=λa b c d=>ag0 (B:=[a,b,c,d]) r k
  have I: ∀a b c d:ae,(cat H (a::b::c::d:: (g++[.bt,o]))).set p .dead=cat H (a::b::c::d:: (g++[.dead,o])):=λa b c d=>ag1 (B:=[a,b,c,d]) r k
  rw[A,h];simp(disch:=omega) only[F1,go_sem,simprocAttr,F,E,nm,J,I];simp[Ls,y]
def ar0(v:AV)(l:List aC)(A:Rv v 2 (l.map aA))(Y:Af l)(a:Nat)(o:ae):
  vI X0 (.fn (.func 138) [] [.ptr (a+1) 0]) a [o,.box [v] none] (uQ l):=by
 intro S V y I J b C q B W s hP h0 vL d hG lo;have X:l.length<=64:=Y.1;have j: ∀i,V.cA i->i<b:=λi Z=>(q i Z).1
 suffices h: ∃x,D X0 (.fn (.func 138) [] [.ptr (a+1) 0]) [y] ⟨W,lo⟩=some x/\
  (λx=> ∃f p aj,x=aU.ret (.aw []) ⟨p,aj⟩/\V.P f p/\ (I (uQ l).length f\/J f)/\b<=p.length/\
    (∀i,i<b-> ¬V.cA i-> ¬(a<=i/\i<a+[o,ae.box [v] none].length)->p[i]?=W[i]?)/\lD V.c b lo aj none (V.row f)) x by grind
 refine r7 Fj rfl rfl rfl λN hN=>?_
 obtain rfl:N=b:=by omega
 have u:W[a+1]?=some (.box [v] none):=hG 1 (by simp);simp only[go_sem,simprocAttr,Fj,u,A.bS];refine iq l.length (λk e p aj=> ∃f,I k f/\kx V N W (λi=>a<=i/\i<a+[o,ae.box [v] none].length) f p aj/\e 0=y/\e 5=v/\e 6= .int .i64 l.length/\e 7= .int .i64 k) 0 (by omega) ?_ ?_
 ·simp only[go_sem,simprocAttr];exact⟨s,h0,⟨hP,by omega,λ_ _ _ _=>rfl,.inl ⟨rfl,d⟩,λr e=>by rw[d]at e;cases e⟩⟩
 rintro k hk e W1 z ⟨s1,H,G,L,K,e6,e7⟩ n U;simp only[bX,go_sem,simprocAttr,QK,K,e6,e7];refine⟨λh=>?_,λh=>?_⟩
 ·have t:k<l.length:=by omega
  have m:=G.push C j [.box (aA (l.getD k default)) none];obtain⟨c,s2,W2,T,R,Q,P,O,M,F⟩:=B k _ s1 (Lr t) H (W1++[.box (aA (l.getD k default)) none]) m.P m.len z;have w:=m.step Q P O M;simp(disch:=omega) only[go_sem,simprocAttr,A.cp,A.c7,h,U,L,R];cases c
  ·obtain⟨E,g,f1,f2,f3,f4,f5⟩:=w.fin C j (dS:=lo);simp only[go_sem,simprocAttr,f1];exact⟨s2,E,g,rfl,f2,.inr F,f3,f4,f5⟩
  ·simp(disch:=omega) only[go_sem,simprocAttr,L,K,e6,e7];exact⟨t,s2,F,w⟩
 ·obtain⟨E,g,f1,f2,f3,f4,f5⟩:=G.fin C j (dS:=lo);simp only[go_sem,simprocAttr,f1];exact⟨s1,E,g,rfl,f2,.inl (by rw[Ag,show l.length=k by omega];exact H),f3,f4,f5⟩
def aZ{H L:List ae}{o:ae}(h:H[i]?=some o): (H++L)[i]?=some o:=by grind
def cG{H:List ae}{x o:ae}(h:H[p]?=some x): (H.set p o)[p]?=some o:=by grind
def ew{H:List ae}{o:ae}(h:H[i]?=some o):i<H.length:=by grind
def lW{W H:List ae}{N:Nat}(a:H.length=N)(h: ∀i,i<N->W[i]?=H[i]?):W.take N=H:=by
 apply anZ
 grind
structure Cw where
 x:aC
 put:Bool
 out:List aC
 row:oN
 res:AV
 ok:Bool
def ag3(H:List ae)(N:Nat)(v:AV)(s:Cw)(W:List ae):Prop:=
 (∀i,i<N->W[i]?=H[i]?)/\W[N]?=some (.box [v] none)/\W[N+1]?=some (.box [s.res] none)/\W[N+2]?=some (.box [.bool s.ok] none)/\W[N+3]?=some (.box (aA s.x) none)/\
   W[N+5]?=some (.box [.bool s.put] none)/\SV (N+4) 2 eZ W s.row (s.out.map aA)
def S9(H:List ae)(N:Nat)(v:AV):YV Cw:=⟨ag3 H N v,Cw.row,λi=>i<N+6,N⟩
def ar1(H:List ae)(N:Nat)(v:AV): (S9 H N v).Ok where
 st:=λs W e ⟨m,l,k,j,g,f,b⟩ h=>by
  have d: ∀i,i<N+6->e[i]?=W[i]?:=λi a=>h i (.inl a)
  exact⟨λi a=>by grind,by grind,by grind,by grind,
   by grind,by grind,b.st (d _ (by omega)) λi a=>h i (.inr a)⟩
 lt:=λs W r ⟨_,_,_,_,_,_,b⟩ c=>b.row c
def Ta(l:List aC)(a:aC)(v:AV)(j:Nat)(s:Cw):Prop:=
 gu a false [] l=gu s.x s.put s.out (l.drop j)/\s.x.1+s.x.2<=64/\s.out.length<=2*j/\s.res= .aq/\s.ok=false
def ag4(l:List aC)(a:aC)(v:AV)(b:Ex)(s:Cw):Prop:=b= .ret/\gu a false [] l=none/\s.res=v/\s.ok=false
def qC(v:AV)(l:List aC)(x:aC):AV:=match gM l x with
 |some a=>.aw [.agg [ed a],.bool true]
 |none=>.aw [.agg [v],.bool false]
def ag5(v:AV)(l:List aC)(hv:Rv v 2 (l.map aA))(hl:Af l)(x:aC)(Tb:x.1<4294967296)(Tc:x.2<4294967296)(H:List ae)(lo:oN):
  D X0 (.fn (.func 120) [] []) [.agg [v],.int .i64 (x.1:Nat),.int .i64 (x.2:Nat)] ⟨H,lo⟩=some (.ret (qC v l x) ⟨H,lo⟩):=by
 refine aH Ki λN hN=>?_
 have hm:=S7 x Tb Tc;have hr:aA x=[.int .i64 (x.1:Nat),.int .i64 (x.2:Nat)]:=rfl;rw[hr]at hm;have Td:v.refs=0:=cY hv (bB (λ_=>rfl) l);cases m:j5 x with
 |false=>
  simp(disch:=omega) only[F1,go_sem,simprocAttr,Ki,hN,hm,m,Td];have e1:qC v l x= .aw [.agg [v],.bool false]:=by unfold qC gM;rw[m];rfl
  rw[e1]
 |true=>
  have he:=agZ v l hv (N+6) (H++[.box [v] none,.box [.aq] none,.box [.bool false] none,.box (aA x) none,.box [.aq] none,.box [.bool false] none]) (by simp[hN]) none;rw[hr]at he;simp(disch:=omega) only[go_sem,simprocAttr,Ki,hN,hm,m,he];rw[<-hr];generalize F: ((((((((((((((dq _).set 3 _).set 6 _).set 7 _).set 13 _).set 14 _).set 15 _).set 8 _).set 16 _).set 17 _).set 18 _).set 9 _).set 10 _).set 20 _).set 21 _=e;have G:e 3= .ptr N 0:=by rw[<-F];rfl
  have q6:e 6= .ptr (N+1) 0:=by rw[<-F];rfl
  have q7:e 7= .ptr (N+2) 0:=by rw[<-F];rfl
  have q8:e 8= .ptr (N+3) 0:=by rw[<-F];rfl
  have q9:e 9= .ptr (N+4) 0:=by rw[<-F];rfl
  have Lt:e 10= .ptr (N+5) 0:=by rw[<-F];rfl
  have q21: (ao.t 21).get e= .fn (.func 138) [] [.ptr (N+6+1) 0]:=by rw[<-F];rfl
  clear F;obtain⟨W0,F3⟩: ∃W0,W0=H++[ae.box [v] none,.box [.aq] none,.box [.bool false] none,.box (aA x) none,.box [.aq] none,.box [.bool false] none,.box [v] none,.box [v] none]:=⟨_,rfl⟩;have ar2:W0.length=N+8:=by rw[F3];simp[hN]
  rw[<-F3];have t: ∀k,W0[N+k]?=[ae.box [v] none,.box [.aq] none,.box [.bool false] none,.box (aA x) none,.box [.aq] none,.box [.bool false] none,.box [v] none,.box [v] none][k]?:=λk=>by rw[F3,bE hN]
  have ar3:W0[N]?=some (.box [v] none):=by rw[F3,dB hN];rfl
  have D3:ag3 H N v ⟨x,false,[],none,.aq,false⟩ W0:=by
   refine⟨λi b=>by rw[F3,adf (by omega)],ar3,t 1,t 2,t 3,t 5,.inl ⟨rfl,rfl,t 4⟩⟩
  have re:x.1+x.2<=64:=by unfold j5 at m;simp at m;omega
  refine Pe (S9 H N v) (ar1 H N v) (uQ l) (N+6) [.box [v] none,.box [v] none] W0 ⟨x,false,[],none,.aq,false⟩ (by rw[q21];rfl) (by rw[q21];exact ar0 v l hv hl (N+6) _)
   (λi b=>?_) (by simp[ar2]) (λi b=>?_) D3 rfl (Ta l x v) (ag4 l x v) ⟨rfl,re,by simp,rfl,rfl⟩ (λex s h=>?_) ?_ ?_ ?_
  ·match i,b with
   |0,_=>exact t 6
   |1,_=>exact t 7
  ·have:i<N+6:=b;simp only[afL,anJ];omega
  ·exact⟨.ret,by rw[h.1];rfl,by rw[h.1];rfl,by rw[h.1];rfl⟩
  ·intro j y s hy hI;have hj:j<l.length:=by
    have:=(adg.1 hy).1;rwa[Ag]at this
   rw[Lr hj]at hy;cases hy;have ar4:l.drop j=l.getD j default::l.drop (j+1):=by
    rw[anc hj,afQ,aep hj];rfl
   have hym:=hl.2 _ (fx hj);generalize l.getD j default=y at*;refine⟨rfl,λW hP vL=>?_⟩;obtain⟨n,hn⟩: ∃n,W.length=n:=⟨_,rfl⟩;simp(disch:=omega) only[go_sem,simprocAttr,hU,hn];refine⟨[.box (aA y) none],rfl,λP Te Pd=>?_⟩;obtain⟨g1,g2,g3,g4⟩:=hI;rw[ar4]at g1;obtain⟨p0,p1,p2,p3,p4,p5,X⟩:=Pd;have w:P.length=n:=by omega
   have f3: ∀L,(P++L)[N+3]?=some (.box (aA s.x) none):=λL=>aZ p4
   have f5: ∀L,(P++L)[N+5]?=some (.box [.bool s.put] none):=λL=>aZ p5
   have f0: ∀L,(P++L)[N]?=some (.box [v] none):=λL=>aZ p1
   have f1: ∀L,(P++L)[N+1]?=some (.box [s.res] none):=λL=>aZ p2
   have f2: ∀L,(P++L)[N+2]?=some (.box [.bool s.ok] none):=λL=>aZ p3
   have hnN:N+10<=n:=by omega
   have Lu:=hl.1;have ey:=Cv y (by omega);have ex:=Cv s.x (by omega);have K:SV (N+4) 2 eZ (P++[.box (aA y) none]) s.row (s.out.map aA):=X.st (by rw[adf (by omega)]) λi b=>by
    obtain⟨_,_,_,_,q⟩:=X.row b;rw[adf (ew q)]
   have f: ∀i,s.row=some i->N+6<=i:=by
    intro i b;rcases X with⟨q,_⟩| ⟨id,ak,q,_,J,G,R⟩
    ·rw[q]at b;cases b
    ·rw[q]at b;cases b;have:i≠N+5:=by rintro rfl;rw[p5]at R;cases R
     omega
   have NX: (P++[ae.box (aA y) none]).length=n+1:=by simp[w]
   have fin: ∀ (A:List ae) (g:Cw) (Lv:oN) (fr:Fr),(∀i,i<n->i≠N+3->i≠N+4->i≠N+5->s.row≠some i->A[i]?=P[i]?)->A[N+3]?=some (.box (aA g.x) none)->A[N+5]?=some (.box [.bool g.put] none)->
     SV (N+4) 2 eZ A g.row (g.out.map aA)->g.res=s.res->g.ok=s.ok->n<=A.length->((Lv=none/\g.row=s.row)\/ (∃j,N<=j/\j<N+10/\Lv=some j/\ (g.row=s.row\/ ∃r,g.row=some r/\n<=r)))->Ta l x v (j+1) g->
     Pa (S9 H N v) (W0.length+2) s P (Ta l x v (j+1)) (ag4 l x v) .normal fr ⟨A,Lv⟩:=by
    intro A g Lv fr h1 h2 h3 h4 h5 h6 h7 h8 h9;have S: ∀i,i<N+3->A[i]?=P[i]?:=λi b=>h1 i (by omega) (by omega) (by omega) (by omega) (λe=>by have:=f i e;omega)
    refine⟨g,⟨λi b=>by rw[S i (by omega)];exact p0 i b,by rw[S N (by omega)];exact p1,by rw[S (N+1) (by omega),h5];exact p2,by rw[S (N+2) (by omega),h6];exact p3,h2,h3,h4⟩,⟨by show P.length<=A.length;omega,λi b hp hr=>?_⟩,?_,h9⟩
    ·have oE: ¬i<N+6:=hp;exact h1 i (by omega) (by omega) (by omega) (by omega) hr
    ·rcases h8 with h8| ⟨j,C,J,G,R⟩
     ·exact .inl h8
     ·refine .inr ⟨j,C,by omega,G,?_⟩;rw[w];exact R
   have E: ∀af:List lA,af.length<=200->(af.length+1)*16<=room:=λaf h=>by unfold room;omega
   by_cases c1:y.1+y.2<s.x.1
   ·have M: (y.1:Int)+y.2<s.x.1:=by omega
    obtain⟨Q,v',W3,A,r',a1,a2,a3,a4,a5,O,a7⟩:=K.append (bytes:=16) (el:=aA y) (by omega) (by omega) rfl rfl (E _ (by simp;omega)) none;simp(disch:=omega) only[go_sem,simprocAttr,zN,q8,q9,w,f3,ey,M,a1,a2,a3,D2,anW];refine fin A {s with out:=s.out++[y],row:=r'} _ _ (λi C J G R q5=>?_) ?_ ?_ (by rw[afI];exact a4) rfl rfl (by omega) (.inr ⟨N+4,by omega,by omega,rfl,?_⟩) ⟨?_,g2,by simp;omega,g4⟩
    ·rw[O i (by omega) G q5,adf (by omega)]
    ·rw[O _ (by omega) (by omega) (λq=>by have:=f _ q;omega)];exact f3 _
    ·rw[O _ (by omega) (by omega) (λq=>by have:=f _ q;omega)];exact f5 _
    ·rcases a7 with q| ⟨q,C,J⟩
     ·exact .inl q
     ·exact .inr ⟨q,C,by omega⟩
    ·rw[g1,gu,adY c1]
   have M: ¬(y.1:Int)+y.2<s.x.1:=by omega
   by_cases c2:s.x.1+s.x.2<y.1
   ·have V: (y.1:Int)>s.x.1+s.x.2:=by omega
    cases c:s.put
    ·obtain⟨Q,v',W3,A,r',a1,a2,a3,a4,a5,O,a7⟩:=K.append (bytes:=16) (el:=aA s.x) (by omega) (by omega) rfl rfl (E _ (by simp;omega)) none;have Z: ∀i,r'=some i->N+6<=i:=by
      intro i b;rcases a7 with q| ⟨q,C,J⟩
      ·rw[q]at b;exact f i b
      ·rw[C]at b;cases b;omega
     have u5:A[N+5]?=some (.box [.bool false] none):=by
      rw[O _ (by omega) (by omega) (λq=>by have:=f _ q;omega),<-c];exact f5 _
     have un:A[n]?=some (.box (aA y) none):=by
      rw[O _ (by omega) (by omega) (λq=>?_),<-w]
      ·simp
      ·rcases X with⟨z,_⟩| ⟨id,ak,z,_,z2,z3,z4⟩
       ·rw[z]at q;cases q
       ·rw[z]at q;cases q;have:=ew z4;omega
     have ar5:SV (N+4) 2 eZ (A.set (N+5) (.box [.bool true] none)) r' ((s.out++[s.x]).map aA):=by
      rw[afI];exact SV.st a4 (adb (by omega)) λi b=>adb (by have:=Z i b;omega)
     obtain⟨vw,v2,U,W6,r2,b1,b2,b3,b4,b5,b6,b7⟩:=ar5.append (bytes:=16) (el:=aA y) (by rw[afN];omega) (by omega) rfl rfl (E _ (by simp;omega)) (some (N+4));have b1':A[N+4]?=some (.box [vw] none):=by rw[<-b1,adb (by omega)]
     have ag8:cJ (some (N+4)) (N+4)=some (N+4):=by simp[cJ]
     simp(disch:=omega) only[go_sem,simprocAttr,zN,q8,q9,Lt,w,f3,f5,ey,ex,M,V,a1,a2,a3,D2,anW,c,u5,un,b1',b2,b3,ag8];refine fin W6 {s with put:=true,out:=s.out++[s.x]++[y],row:=r2} _ _ (λi C J G R q5=>?_) ?_ ?_ (by rw[afI];exact b4) rfl rfl (by rw[afN]at b5;omega) (.inr ⟨N+4,by omega,by omega,rfl,?_⟩) ⟨?_,g2,by simp;omega,g4⟩
     ·have OS:r'≠some i:=by
        intro q;rcases a7 with z| ⟨z,z1,z2⟩
        ·rw[z]at q;exact q5 q
        ·rw[z1]at q;cases q;omega
      rw[b6 i (by rw[afN];omega) G OS,adb (by omega),O i (by omega) G q5,adf (by omega)]
     ·rw[b6 _ (by rw[afN];omega) (by omega) (λq=>by have:=Z _ q;omega),adb (by omega),O _ (by omega) (by omega) (λq=>by have:=f _ q;omega)];exact f3 _
     ·rw[b6 _ (by rw[afN];omega) (by omega) (λq=>by have:=Z _ q;omega)];exact afD (by omega)
     ·rcases b7 with q| ⟨q,C,J⟩
      ·rcases a7 with z| ⟨z,z1,z2⟩
       ·exact .inl (q.trans z)
       ·exact .inr ⟨z,q.trans z1,by omega⟩
      ·rw[afN]at J;exact .inr ⟨q,C,by omega⟩
     ·rw[g1,gu,adU c1,adY c2,c];simp
    ·obtain⟨Q,v',W3,A,r',a1,a2,a3,a4,a5,O,a7⟩:=K.append (bytes:=16) (el:=aA y) (by omega) (by omega) rfl rfl (E _ (by simp;omega)) none;simp(disch:=omega) only[go_sem,simprocAttr,zN,q8,q9,Lt,w,f3,f5,ey,ex,M,V,a1,a2,a3,D2,anW,c];refine fin A {s with out:=s.out++[y],row:=r'} _ _ (λi C J G R q5=>?_) ?_ ?_ (by rw[afI];exact a4) rfl rfl (by omega) (.inr ⟨N+4,by omega,by omega,rfl,?_⟩) ⟨?_,g2,by simp;omega,g4⟩
     ·rw[O i (by omega) G q5,adf (by omega)]
     ·rw[O _ (by omega) (by omega) (λq=>by have:=f _ q;omega)];exact f3 _
     ·rw[O _ (by omega) (by omega) (λq=>by have:=f _ q;omega)];exact f5 _
     ·rcases a7 with q| ⟨q,C,J⟩
      ·exact .inl q
      ·exact .inr ⟨q,C,by omega⟩
     ·rw[g1,gu,adU c1,adY c2,c];simp
   have V: ¬(y.1:Int)>s.x.1+s.x.2:=by omega
   by_cases c3:y.1+y.2=s.x.1
   ·have Lx: ((y.1:Int)+y.2=s.x.1)=True:=aBg (by omega);simp(disch:=omega) only[go_sem,simprocAttr,zN,q8,w,f3,ey,ex,M,V,Lx,anW];refine fin _ {s with x:=(y.1,y.2+s.x.2)} _ _ (λi C J G R q5=>?_) ?_ ?_ (K.st (adb (by omega)) λi b=>adb (by have:=f _ b;omega)) rfl rfl (by rw[afN];omega) (.inl ⟨rfl,rfl⟩) ⟨?_,by simp;omega,by simp;omega,g4⟩
    ·rw[adb (by omega),adf (by omega)]
    ·rw[afD (by omega)];rfl
    ·rw[adb (by omega)];exact f5 _
    ·rw[g1,gu,adU c1,adU c2,adY c3]
   have Lx: ¬(y.1:Int)+y.2=s.x.1:=by omega
   by_cases c4:y.1=s.x.1+s.x.2
   ·have Tf: ((y.1:Int)=s.x.1+s.x.2)=True:=aBg (by omega);simp(disch:=omega) only[go_sem,simprocAttr,zN,q8,w,f3,ey,ex,M,V,Lx,Tf,anW];refine fin _ {s with x:=(s.x.1,s.x.2+y.2)} _ _ (λi C J G R q5=>?_) ?_ ?_ (K.st (adb (by omega)) λi b=>adb (by have:=f _ b;omega)) rfl rfl (by rw[afN];omega) (.inl ⟨rfl,rfl⟩) ⟨?_,by simp;omega,by simp;omega,g4⟩
    ·rw[adb (by omega),adf (by omega)]
    ·rw[afD (by omega)];rfl
    ·rw[adb (by omega)];exact f5 _
    ·rw[g1,gu,adU c1,adU c2,adU c3,adY c4]
   ·have Tf: ¬(y.1:Int)=s.x.1+s.x.2:=by omega
    simp(disch:=omega) only[go_sem,simprocAttr,zN,G,q6,q7,q8,w,f0,f1,f2,f3,ey,ex,M,V,Lx,Tf,anW,Td];obtain⟨Wf,F4⟩: ∃Wf,Wf=((P++[ae.box (aA y) none]).set (N+1) (ae.box [v] none)).set (N+2) (ae.box [AV.bool false] none):=⟨_,rfl⟩;rw[<-F4];have hk: ∀i,i<n->i≠N+1->i≠N+2->Wf[i]?=P[i]?:=λi C J G=>by
     rw[F4,adb (by omega),adb (by omega),adf (by omega)]
    have k1:Wf[N+1]?=some (.box [v] none):=by
     rw[F4,adb (by omega)];exact afD (by omega)
    have k2:Wf[N+2]?=some (.box [.bool false] none):=by
     rw[F4];exact afD (by rw[afN];omega)
    have kl:Wf.length=n+1:=by rw[F4];simp[w]
    refine⟨{s with res:=v,ok:=false},⟨λi b=>?_,?_,k1,k2,?_,?_,?_⟩,⟨?_,λi b hp hr=>?_⟩,.inl ⟨rfl,rfl⟩,rfl,?_,rfl,rfl⟩
    ·show Wf[i]?=_;rw[hk i (by omega) (by omega) (by omega)];exact p0 i b
    ·show Wf[N]?=_;rw[hk N (by omega) (by omega) (by omega)];exact p1
    ·show Wf[N+3]?=_;rw[hk _ (by omega) (by omega) (by omega)];exact p4
    ·show Wf[N+5]?=_;rw[hk _ (by omega) (by omega) (by omega)];exact p5
    ·exact X.st (hk _ (by omega) (by omega) (by omega)) λi b=>by
      obtain⟨_,_,_,_,q⟩:=X.row b;have:=ew q;have:=f i b;exact hk i (by omega) (by omega) (by omega)
    ·show P.length<=Wf.length;omega
    ·have oE: ¬i<N+6:=hp;exact hk i (by omega) (by omega) (by omega)
    ·rw[g1,gu,adU c1,adU c2,adU c3,adU c4]
  ·intro g W' aj hI hP Bo hd mn Tg;obtain⟨p0,p1,p2,p3,p4,p5,X⟩:=hP;obtain⟨g1,g2,g3,g4,g5⟩:=hI;rw[Ag,List.drop_length]at g1;rw[Ag]at g3;have Lu:=hl.1;have T:eH N aj:=by
    rcases Tg with⟨rfl,_⟩| ⟨q,C,J,rfl⟩
    ·exact .inl rfl
    ·exact .inr ⟨q,C,rfl⟩
   have f: ∀i,g.row=some i->N+6<=i/\i≠W0.length:=by
    intro i b;rcases X with⟨q,_⟩| ⟨id,ak,q,_,J,G,R⟩
    ·rw[q]at b;cases b
    ·rw[q]at b;cases b;have:i≠N+5:=by rintro rfl;rw[p5]at R;cases R
     exact⟨by omega,by rintro rfl;rw[hd]at R;cases R⟩
   obtain⟨B,hB⟩: ∃B,B=((PC.aO [o 83 (I.load false 1 (ao.t 9)),o 84 (I.build [AV.aq] [(0,1,ao.t 83)]),u (I.store 1 (ao.t 6) (ao.t 84)),u (I.store 1 (ao.t 7) (ao.c (AV.bool true)))]).seq PC.ret):=⟨_,rfl⟩;rw[<-hB];have fin: ∀ (U:List ae) (Y:oN) (fr:Env) (out:List aC) (r5:oN),(∀i,i<N->U[i]?=H[i]?)->SV (N+4) 2 eZ U r5 (out.map aA)->(∃z,U[N+1]?=some (.box [z] none))->(∃z,U[N+2]?=some (.box [z] none))->
     U[W0.length]?=some .bt->eH N Y->gu x false [] l=some out->fr 9= .ptr (N+4) 0->fr 6= .ptr (N+1) 0->fr 7= .ptr (N+2) 0->
     wp X0 120 false B ⟨fr,[W0.length]⟩ ⟨U,Y⟩
      (dW X0 N lo [RV.cell 6 true 1,RV.cell 7 false 1] λx_1=>x_1=aU.ret (qC v l x) ⟨H,lo⟩):=by
    intro U Y fr out r5 h1 h2 ⟨z1,h3⟩ ⟨z2,h4⟩ h5 h6 h7 h9 h10 za;obtain⟨Q,b1,b2,b3,b4,b5⟩:=h2.own (N:=N) (by omega) (by intro el qY;obtain⟨r,_,rfl⟩:=afH.1 qY;rfl);have hl5:W0.length<U.length:=ew h5;have s1: (U.set (N+1) (ae.box [Q] none))[N+1]?=some (.box [Q] none):=afD (by omega);have s2: ((U.set (N+1) (ae.box [Q] none)).set (N+2) (ae.box [AV.bool true] none))[N+2]?=some (.box [.bool true] none):=afD (by rw[afN];omega);have e1:qC v l x= .aw [.agg [ed out],.bool true]:=by unfold qC gM;rw[adY m,h7]
    have Ix:b9 (out.map aA)=0:=bB (λ_=>rfl) out;have mn:bu Q (out.map aA)=ed out:=by
     rcases b2.2 with⟨rfl,q⟩| ⟨id,ak,_,rfl,_⟩
     ·have:out=[]:=aqh.1 q;subst this;rfl
     ·unfold ed;cases out with
      |nil=>
       rcases h2 with⟨_,_,q⟩| ⟨_,_,_,q,_⟩
       ·rw[q]at b1;cases b1
       ·exact absurd rfl q
      |cons a l2=>rfl
    rw[hB];simp(disch:=omega) only[go_sem,simprocAttr,h9,h10,za,b1,b3,b4,h3,h4,h5,s1,s2,nm];have Th: ∀Ti,Fz ⟨((U.set (N+1) (ae.box [Q] none)).set (N+2) (ae.box [AV.bool true] none)).set W0.length ae.dead,Ti⟩ N 12 (.aw [.agg [Q],.bool true]) (.aw [.agg [ed out],.bool true]):=by
     intro Ti;have ar9:aQ N (((U.set (N+1) (ae.box [Q] none)).set (N+2) (ae.box [AV.bool true] none)).set W0.length ae.dead) Q 2 eZ (out.map aA):=by
      obtain⟨c1,c2⟩:=b2;refine⟨c1,?_⟩;rcases c2 with c2| ⟨id,ak,c3,c4,c5⟩
      ·exact .inl c2
      ·have d1:id≠N+1:=by rintro rfl;rw[h3]at c5;cases c5
       have d2:id≠N+2:=by rintro rfl;rw[h4]at c5;cases c5
       have d3:id≠W0.length:=by rintro rfl;rw[h5]at c5;cases c5
       exact .inr ⟨id,ak,c3,c4,by rw[adb (by omega),adb (by omega),adb (by omega)];exact c5⟩
     have f1:=Fz.own (d:=0) (lo:=Ti) ar9 (by omega);rw[mn]at f1;exact(Fz.aw (.cons (Fz.agg (.cons f1 .nil)) (.cons ((Fz.low (d:=0) (by simp[AV.refs])).mono (by omega)) .nil))).mono (by omega)
    have pn: (((U.set (N+1) (ae.box [Q] none)).set (N+2) (ae.box [AV.bool true] none)).set W0.length ae.dead).take N=H:=lW hN λi b=>by
     rw[adb (by omega),adb (by omega),adb (by omega)];exact h1 i b
    have hl6:eH N (if Q.refs<=N+1+1 then Y else cJ Y (N+1)):=by
     split
     ·exact h6
     ·exact h6.min (p:=N+1) (by omega) (.inr rfl)
    rw[vK hl6 (Th _),pn,e1]
   have p0': ∀i,i<N->W'[i]?=H[i]?:=p0;have p1':W'[N+1]?=some (.box [g.res] none):=p2;cases c:g.put
   ·have K:SV (N+4) 2 eZ W' g.row (g.out.map aA):=X;obtain⟨Q,v',W3,A,r',a1,a2,a3,a4,a5,O,a7⟩:=K.append (bytes:=16) (el:=aA g.x) (by omega) (by omega) rfl rfl (by unfold room;simp;omega) aj;have k: ∀i,i<N+4->A[i]?=W'[i]?:=λi b=>O i (by omega) (by omega) (λq=>by have:=(f _ q).1;omega)
    simp(disch:=omega) only[go_sem,simprocAttr,q8,q9,Lt,p4,p5,c,a1,a2,a3];refine fin A _ _ (g.out++[g.x]) r' (λi b=>by rw[k i (by omega)];exact p0' i b) (by rw[afI];exact a4) ⟨_,by rw[k (N+1) (by omega)];exact p2⟩ ⟨_,by rw[k (N+2) (by omega)];exact p3⟩ ?_ (T.min (p:=N+4) (by omega) (.inr rfl)) ?_ q9 q6 q7
    ·rw[O W0.length (by omega) (by omega) (λq=>(f _ q).2 rfl)];exact hd
    ·rw[g1,gu,c];rfl
   ·simp(disch:=omega) only[go_sem,simprocAttr,Lt,p5,c];refine fin W' _ _ g.out g.row p0' X ⟨_,p2⟩ ⟨_,p3⟩ hd T ?_ q9 q6 q7;rw[g1,gu,c];rfl
  ·intro ex g W' aj hJ hP Bo hd mn Tg;obtain⟨p0,p1,p2,p3,p4,p5,X⟩:=hP;obtain⟨rfl,g1,g2,g3⟩:=hJ;have T:eH N aj:=by
    rcases Tg with⟨rfl,_⟩| ⟨q,C,J,rfl⟩
    ·exact .inl rfl
    ·exact .inr ⟨q,C,rfl⟩
   rw[g2]at p2;rw[g3]at p3;have e1:qC v l x= .aw [.agg [v],.bool false]:=by unfold qC gM;rw[adY m,g1]
   have Th:Fz ⟨W'.set W0.length ae.dead,aj⟩ N 12 (.aw [.agg [v],.bool false]) (.aw [.agg [v],.bool false]):=Fz.low (by simp[AV.refs,aK,Td]);have pn: (W'.set W0.length ae.dead).take N=H:=lW hN λi b=>by rw[adb (by omega)];exact p0 i b
   simp(disch:=omega) only[go_sem,simprocAttr,q6,q7,nm,hd,p2,p3];rw[vK T Th,pn,e1]
def aha(t:av)(x:Nat): (aG t x).1.up=bI t x:=by unfold aG bI;split<;>rfl
theorem jt{r:cP}:aM [AV.int .u32 0,.int .i64 0,.aq,.int .i64 0,.int .u32 0,.int .u32 0,.int .u32 0,.int .u32 0,.int .u32 0,.int .u32 0,.int .u32 0,.int .u32 0] 0 (bM r)=bM r:=by rfl
def Tj(t:av)(h:Nat)(N:Nat)(H:List ae)(b:H.length=N)(lo:oN):D X0 (.fn (.func 293) [] []) [.agg (aN t),.int .u32 h] ⟨H,lo⟩=some (.ret (.fn (.func 325) [] [.ptr N 0,.ptr (N+1) 0]) ⟨H++[.box (aN t) none,.box [.int .u32 h] none],lo⟩):=by
 refine aH RP λM a=>?_
 obtain rfl:M=N:=by omega
 simp only[go_sem,simprocAttr,RP,a];rw[Ah (by omega)]
def oh(t:av)(h:Nat):List lA:=(aT t h).map λx=>[.int .u32 (x:Nat)]
def Tk(t:av)(ht:bP t)(hT:cu t)(h:Nat)(hh:h<4294967296)(a:Nat):
  vI X0 (.fn (.func 325) [] [.ptr a 0,.ptr (a+1) 0]) a [.box (aN t) none,.box [.int .u32 h] none] (oh t h):=by
 intro S V y I J b P m vE W s hP h0 vL z hG lo;have o: ∀i,V.cA i->i<b:=λi hi=>(m i hi).1
 suffices h: ∃Y,D X0 (.fn (.func 325) [] [.ptr a 0,.ptr (a+1) 0]) [y] ⟨W,lo⟩=some Y/\
   (λY=> ∃v u aj,Y=aU.ret (.aw []) ⟨u,aj⟩/\V.P v u/\ (I (oh t h).length v\/J v)/\b<=u.length/\
     (∀i,i<b-> ¬V.cA i-> ¬(a<=i/\i<a+[ae.box (aN t) none,.box [.int .u32 (h:Nat)] none].length)->u[i]?=W[i]?)/\lD V.c b lo aj none (V.row v)) Y by
  obtain⟨Y,h1,v,u,aj,rfl,q1,q2,q3,q4,q5⟩:=h;exact⟨v,u,aj,h1,q1,q2,q3,q4,q5⟩
 refine r7 Sb rfl rfl rfl λN hN=>?_
 obtain rfl:N=b:=by omega
 have g0:W[a]?=some (.box (aN t) none):=hG 0 (by simp);have g1:W[a+1]?=some (.box [.int .u32 h] none):=hG 1 (by simp);have ha:=ew g1;have Tl: ¬V.cA a:=λq=>(m a q).2 ⟨by omega,by simp⟩
 have A: ¬V.cA (a+1):=λq=>(m _ q).2 ⟨by omega,by simp⟩
 simp only[go_sem,simprocAttr,Sb];refine iq ((aT t h).length+1) (λk e u aj=> ∃v x,I k v/\kx V N W (λi=>a<=i/\i<a+[ae.box (aN t) none,.box [.int .u32 (h:Nat)] none].length) v u aj/\u[a]?=some (.box (aN t) none)/\u[a+1]?=some (.box [.int .u32 (x:Nat)] none)/\x<4294967296/\k<=(aT t h).length/\aT t x=(aT t h).drop k/\e 0=y/\e 1= .ptr a 0/\e 2= .ptr (a+1) 0) 0 (by omega) ?_ ?_
 ·simp only[go_sem,simprocAttr];exact⟨s,h,h0,⟨hP,by omega,λ_ _ _ _=>rfl,.inl ⟨rfl,z⟩,λr e=>by rw[z]at e;cases e⟩,g0,g1,hh,rfl⟩
 rintro k hk e W1 Q ⟨s1,x,hI,X,w0,w1,hx,Tm,p,e0,e1,e2⟩ n U;have g:=uy hT x;have Ly:N<=n:=by have:=X.len;omega
 have f0: ∀L,(W1++L)[a]?=some (.box (aN t) none):=λL=>aZ w0
 have f1: ∀L,(W1++L)[a+1]?=some (.box [.int .u32 x] none):=λL=>aZ w1
 have Z:=r6 t ht x hx;have hu:=aha t x;have f: (aG t x).2=if t.az x then 0 else 4:=by unfold aG;split<;>rfl
 have B: ∀L,bI t x=0-> ∃j d,finish N lo (.aw []) ⟨W1++L,Q⟩=(.aw [],⟨j,d⟩)/\V.P s1 j/\ (I (oh t h).length s1\/J s1)/\N<=j.length/\ (∀i,i<N-> ¬V.cA i-> ¬(a<=i/\i<a+[ae.box (aN t) none,.box [.int .u32 (h:Nat)] none].length)->j[i]?=W[i]?)/\lD V.c N lo d none (V.row s1):=by
  intro L G;obtain⟨j,d,w,F,l,E,C⟩:=(X.push P o L).fin P o (dS:=lo);refine⟨j,d,w,F,.inl ?_,l,E,C⟩;rw[adY G]at g;rw[g]at p;have:=ahl List.length p;rw[amy]at this;have e: (oh t h).length=(aT t h).length:=by simp[oh]
  simp only[anJ]at this;rw[e,show(aT t h).length=k by omega];exact hI
 cases H:t.az x
 ·rw[H]at f;have G:bI t x=0:=by unfold bI;rw[H];rfl
  obtain⟨j,d,w,F,l,E,C,O⟩:=B [.box (bM (aG t x).1) none] G;simp only[go_sem,simprocAttr,FL,e1,e2,w0,w1,Z,lV,jt,f,U,w];exact⟨s1,j,d,rfl,F,l,E,C,O⟩
 ·rw[H]at f;by_cases G:bI t x=0
  ·obtain⟨j,d,w,F,l,E,C,O⟩:=B [.box (bM (aG t x).1) none] G;simp only[go_sem,simprocAttr,FL,e1,e2,w0,w1,Z,lV,jt,f,U,hu,G,w];exact⟨s1,j,d,rfl,F,l,E,C,O⟩
  ·have R: ¬((bI t x:Nat):Int)=0:=by omega
   rw[adU G]at g;have Tn:k< (aT t h).length:=by
    have:=ahl List.length (g ▸ p);rw[amy]at this;simp only[afL]at this;omega
   have xa: (oh t h)[k]?=some [.int .u32 (bI t x:Nat)]:=by
    unfold oh;rw[afU];have: (aT t h)[k]?=((aT t h).drop k)[0]?:=by rw[alH];rfl
    rw[this,<-p,g];rfl
   have M:=X.push P o [.box (bM (aG t x).1) none];obtain⟨c,s2,W2,m6,w,F,l,E,C,O⟩:=vE k _ s1 xa hI (W1++[.box (bM (aG t x).1) none]) M.P M.len Q;have K:=M.step F l E C;have T: ∀i,i<N->V.row s1≠some i:=λi hi q=>by have:=X.row _ q;omega
   have v0:W2[a]?=some (.box (aN t) none):=by rw[l.2 a (by simp;omega) Tl (T _ (by omega))];exact f0 _
   have v1:W2[a+1]?=some (.box [.int .u32 x] none):=by rw[l.2 (a+1) (by simp;omega) A (T _ (by omega))];exact f1 _
   have hWn:n+1<=W2.length:=by have:=l.1;simp at this;omega
   have vn:W2[n]?=some (.box (bM (aG t x).1) none):=by
    rw[l.2 n (by simp;omega) (λq=>by have:=o _ q;omega) (λq=>by have:=P.ID X.P q;omega)];rw[<-U];simp
   cases c
   ·obtain⟨j,d,q1,q2,q3,q4,q5⟩:=K.fin P o (dS:=lo);simp only[go_sem,simprocAttr,FL,e0,e1,e2,w0,w1,Z,lV,jt,f,U,hu,R,w,q1];exact⟨s2,j,d,rfl,q2,.inr O,q3,q4,q5⟩
   ·simp(disch:=omega) only[go_sem,simprocAttr,FL,e0,e1,e2,w0,w1,Z,lV,jt,f,U,hu,R,w,v0,v1,vn];refine⟨by omega,s2,bI t x,O,?_,?_,arC,by omega,?_⟩
    ·exact K.set P A (λq=>by have:=K.row _ q;omega) (.inl ⟨by omega,by simp⟩)
    ·exact afD (by omega)
    ·have:=ahl (List.drop 1) (g ▸ p);rw[apU]at this;simpa using this
def To{t:av}{x:lA}(a: (oh t h)[j]?=some x): ∃u,x=[.int .u32 (u:Nat)]/\ (aT t h)[j]?=some u:=by
 unfold oh at a
 grind
def Tp(t:av)(h:Nat): (oh t h).length=(aT t h).length:=by simp[oh]
def Lz(t:av)(v:bP t)(q:cu t)(h:Nat)(m:h<4294967296)(H:List ae)(lo:oN):D X0 (.fn (.func 285) [] []) [.agg (aN t),.int .u32 h] ⟨H,lo⟩=some (.ret (.int .i64 (depth t h:Nat)) ⟨H,lo⟩):=by
 refine aH KV λN f=>?_
 have g:az t.b h=t.az h:=rfl;have a:=eU t.b h m;simp only[g]at a;cases b:t.az h
 ·simp only[F1,go_sem,simprocAttr,KV,f,a,depth,b,afE]
 ·rw[b]at a;have C:=Tj t h (N+2) (H++[.box (aN t) none,.box [.int .i64 1] none]) (by simp[f]) none;simp only[go_sem,simprocAttr,KV,f,a,C];refine zk (S:=Nat) (λe=>e 5= .ptr (N+1) 0) (by simp only[go_sem,simprocAttr]) (oh t h) f [.box (aN t) none,.box [.int .u32 h] none] (λn=>[.box (aN t) none,.box [.int .i64 (n+1:Nat)] none]) (nB:=2) (λ_=>rfl) 0 (λj s=>s=j) (λ_ _=>False) rfl ?_ (by simp) rfl (λ_ _ h=>h.elim) ?_ ?_ ?_
  ·exact Tk t v q h m (N+2)
  ·rintro e he j x s r rfl;obtain⟨u,rfl,hu⟩:=To r;refine⟨rfl,λW n I z k=>?_⟩;simp only[go_sem,simprocAttr,hU];refine⟨[],by simp,λK E d=>?_⟩;simp only[gr,gq,anX,afM]at d;obtain⟨w0,w1⟩:=d;have G:s< (aT t h).length:=(adg.1 hu).1;have w:=q h;simp(disch:=omega) only[go_sem,simprocAttr,afm,he,w1,afW,rq];refine⟨s+1,?_,λi J A=>adb (by omega),rfl⟩;simp only[gr,gq,anX,afM];exact⟨by rw[adb (by omega)];exact w0,afD (by omega)⟩
  ·rintro e he s W p y rfl c k B;simp only[gr,gq,anX,afM]at k;obtain⟨w0,w1⟩:=k;have l: ∀o,(W.set p o).take N=H:=λo=>(c.set (by omega)).take f
   simp only[F1,go_sem,simprocAttr,he,w1,B,nm,l];rw[Tp];refine du (ahl _ ?_) rfl;unfold depth;rw[adY b];omega
  ·rintro e he ex s W p y F;exact F.elim
def asb{t:av}(b:cu t)(c:h<4294967296):root t h<4294967296:=by
 unfold root;split
 ·cases e:aT t h with
  |nil=>grind
  |cons a l=>
   have hm: (aT t h).getLastD h∈aT t h:=by grind
   rw[<-e];exact fU (arD b hm)
 ·omega
def Ai(t:av)(r:bP t)(C:cu t)(h:Nat)(m:h<4294967296)(H:List ae)(lo:oN):D X0 (.fn (.func 259) [] []) [.agg (aN t),.int .u32 h] ⟨H,lo⟩=some (.ret (.int .u32 (root t h:Nat)) ⟨H,lo⟩):=by
 refine aH KO λN f=>?_
 have g:az t.b h=t.az h:=rfl;have a:=eU t.b h m;simp only[g]at a;cases b:t.az h
 ·simp only[F1,go_sem,simprocAttr,KO,f,a,root,b,afE]
 ·rw[b]at a;have A:=Tj t h (N+2) (H++[.box (aN t) none,.box [.int .u32 h] none]) (by simp[f]) none;simp only[go_sem,simprocAttr,KO,f,a,A];refine zk (S:=Nat) (λe=>e 3= .ptr (N+1) 0) (by simp only[go_sem,simprocAttr]) (oh t h) f [.box (aN t) none,.box [.int .u32 h] none] (λn=>[.box (aN t) none,.box [.int .u32 (n:Nat)] none]) (nB:=2) (λ_=>rfl) h (λj s=>s=((aT t h).take j).getLastD h) (λ_ _=>False) rfl ?_ (by simp) rfl (λ_ _ h=>h.elim) ?_ ?_ ?_
  ·exact Tk t r C h m (N+2)
  ·rintro e he j x s q rfl;obtain⟨u,rfl,hu⟩:=To q;refine⟨rfl,λW n F w k=>?_⟩;simp only[go_sem,simprocAttr,hU];refine⟨[],by simp,λI B d=>?_⟩;simp only[gr,gq,anX,afM]at d;obtain⟨w0,w1⟩:=d;simp only[go_sem,simprocAttr,afi,he,w1,afW,rq];refine⟨u,?_,λi G y=>adb (by omega),?_⟩
   ·simp only[gr,gq,anX,afM];exact⟨by rw[adb (by omega)];exact w0,afD (by omega)⟩
   ·rw[afX,hu];simp
  ·rintro e he s W p v rfl c k z;simp only[gr,gq,anX,afM]at k;obtain⟨w0,w1⟩:=k;have l: ∀o,(W.set p o).take N=H:=λo=>(c.set (by omega)).take f
   simp only[F1,go_sem,simprocAttr,he,w1,z,nm,l];rw[Tp,afK];refine du (ahl _ ?_) rfl;unfold root;rw[adY b]
  ·rintro e he ex s W p v E;exact E.elim
noncomputable def mQ:lA->AS->Option aU:=oL X0 (D X0) Lw 56 J5
noncomputable def X1:Ctx:={X0 with bW:=λf=>if f=56 then some mQ else none}
noncomputable def mR:lA->AS->Option aU:=oL X1 (D X1) Lw 19 J0
noncomputable def X2:Ctx:={X0 with bW:=λf=>if f=56 then some mQ else if f=19 then some mR else none}
noncomputable def qD:lA->AS->Option aU:=oL X2 (D X2) Lw 193 Fv
noncomputable def X3:Ctx:={X0 with bW:=λf=>if f=56 then some mQ else if f=19 then some mR else if f=193 then some qD else none}
noncomputable def r8:lA->AS->Option aU:=oL X3 (D X3) Lw 190 KD
noncomputable def X4:Ctx:={X0 with bW:=λf=>if f=56 then some mQ else if f=19 then some mR else if f=193 then some qD else if f=190 then some r8 else none}
noncomputable def xV:lA->AS->Option aU:=oL X4 (D X4) Lw 188 KC
noncomputable def X5:Ctx:={X0 with bW:=λf=>if f=56 then some mQ else if f=19 then some mR else if f=193 then some qD else if f=190 then some r8 else if f=188 then some xV else none}
noncomputable def Aj:lA->AS->Option aU:=oL X5 (D X5) Lw 182 KB
noncomputable def X6:Ctx:={X0 with bW:=λf=>if f=56 then some mQ else if f=19 then some mR else if f=193 then some qD else if f=190 then some r8 else if f=188 then some xV else if f=182 then some Aj else none}
noncomputable def Cx:lA->AS->Option aU:=oL X6 (D X6) Lw 167 Fs
noncomputable def X:Ctx:={X0 with bW:=λf=>if f=56 then some mQ else if f=19 then some mR else if f=193 then some qD else if f=190 then some r8 else if f=188 then some xV else if f=182 then some Aj else if f=167 then some Cx else none}
def F5{P:FuncId->Option (lA->AS->Option aU)}(h: ∀f,kL.contains f=false->P f=none):Ext X0 {X0 with bW:=P}where
 dR:=rfl
 fZ:=rfl
 code:=rfl
 bW:=λf=>by
  cases a:kL.contains f
  ·left;exact h f a
  ·right
   refine⟨rfl,?_⟩;show(if kL.contains f then none else zT.lookup f)=none
   grind
def iH{g:FuncId}(h:kL.contains f=false)(a:kL.contains g=true):f≠g:=by grind
def ahb:Ext X0 X2:=F5 λf h=>by rw[adU (iH h rfl),adU (iH h rfl)]
def asc:Ext X0 X3:=F5 λf h=>by rw[adU (iH h rfl),adU (iH h rfl),adU (iH h rfl)]
def asd:Ext X0 X4:=F5 λf h=>by rw[adU (iH h rfl),adU (iH h rfl),adU (iH h rfl),adU (iH h rfl)]
def ahc:Ext X0 X6:=F5 λf h=>by rw[adU (iH h rfl),adU (iH h rfl),adU (iH h rfl),adU (iH h rfl),adU (iH h rfl),adU (iH h rfl)]
def dD:Ext X0 X:=F5 λf h=>by rw[adU (iH h rfl),adU (iH h rfl),adU (iH h rfl),adU (iH h rfl),adU (iH h rfl),adU (iH h rfl),adU (iH h rfl)]
def ase(p:Nat->Bool)(k:Nat): (List.range (k+1)).filter p=(List.range k).filter p++(if p k then[k]else[]):=by grind [List.range_succ]
def aQ.le{N M:Nat}{H:List ae}{ty:TypeId}(h:aQ N H v sz ty af)(b:M<=N):aQ M H v sz ty af:=by
 obtain⟨a,c⟩:=h;refine⟨a,?_⟩
 grind
def r9(b:cO)(k:Nat):lN:=((List.range k).filter λi=>(b i).dc).map λi=>dh i (b i).gen
def asf(b:cO)(k:Nat):r9 b (k+1)=if(b k).dc then r9 b k++[dh k (b k).gen]else r9 b k:=by
 unfold r9;rw[ase]
 grind
def asg(b:cO)(k:Nat): (r9 b k).length<=k:=by
 unfold r9
 grind
def Tq(b:cO)(A:fC b)(N:Nat)(H:List ae)(w:H.length=N)(lo:oN): ∃v J,mQ [.agg (bU b)] ⟨H,lo⟩=some (.ret v ⟨H++J,lo⟩)/\aQ (N+1) (H++J) v 1 bY ((ba b).map hC):=by
 suffices h: ∃o,mQ [.agg (bU b)] ⟨H,lo⟩=some o/\ (λo=> ∃v J,o=aU.ret v ⟨H++J,lo⟩/\aQ (N+1) (H++J) v 1 bY ((ba b).map hC)) o by
  obtain⟨o,m,v,J,rfl,B⟩:=h;exact⟨v,J,m,B⟩
 refine xe (X:=X0) J5 rfl λM E=>?_
 obtain rfl:M=N:=by omega
 have u: (H++[ae.box (bU b) none]).length=M+1:=by simp[w]
 simp only[go_sem,simprocAttr,J5,w];refine eG 32 (λk e H'=>(H++[ae.box (bU b) none])<+:H'/\ (∃v,e 3=v/\aQ (M+1) H' v 1 bY ((r9 b k).map hC))/\e 1= .ptr M 0/\e 7= .int .i64 k) 0 (by omega) ?_ ?_
 ·simp only[go_sem,simprocAttr];exact⟨aqz,_,rfl,aQ.aq⟩
 rintro k D e H' ⟨⟨L,rfl⟩,⟨v,y,a⟩,m,x⟩ n C;have j: (H++[ae.box (bU b) none]++L)[M]?=some (.box (bU b) none):=by rw[adV,dB w];rfl
 have t:=arI b A k (H++(.box (bU b) none::L)) none;simp only[adV,ahq,ahm]at j;have q:=asg b k;simp only[bX,go_sem,simprocAttr,aeH,m,y,x,j,t,atR];refine⟨λh=>?_,λh=>?_⟩
 ·have c:k<32:=by omega
  have d:=asf b k;cases z: (b k).dc
  ·rw[z]at d;simp(disch:=omega) only[go_sem,simprocAttr,c,m,y,x,dT];rw[d];exact⟨⟨L,by simp⟩,v,rfl,by simpa using a⟩
  ·rw[z]at d;simp only[go_sem,simprocAttr,c,y,dT];have i: (H++[ae.box (bU b) none])<+: (H++(.box (bU b) none::L)):=⟨L,by simp⟩;have g:aQ (M+1) (H++(.box (bU b) none::L)) v 1 bY ((r9 b k).map hC):=by simpa using a
   refine rm (H0:=H++[ae.box (bU b) none]) (ys:=[[.int .u32 (dh k (b k).gen:Nat)]]) g i u (by omega) (by intro el s;rw[afC.1 s];rfl) rfl (by unfold room;simp;omega) λv' F f r=>?_
   simp(disch:=omega) only[go_sem,simprocAttr,m,x];refine⟨c,r,?_⟩;rw[d];have:List.map hC (r9 b k++[dh k (b k).gen])=List.map hC (r9 b k)++[[.int .u32 (dh k (b k).gen:Nat)]]:=by simp[hC]
   simp only[ag6];rw[this];exact⟨v',rfl,f⟩
 ·obtain rfl:k=32:=by omega
  have:ba b=r9 b 32:=rfl;rw[this];simp only[go_sem,simprocAttr,sV,gB];exact⟨_,_,rfl,by simpa using a⟩
def qE{X:Ctx}{p:lA->AS->Option aU}{args:lA}{E:AS}{r:aU}(a:X.bW f=some p)(h:p args E=some r):D X (.fn (.func f) [] []) args E=some r:=DX a h
def LA(b:cO)(d:fC b)(N:Nat)(H:List ae)(e:H.length=N)(lo:oN): ∃v J,mR [.agg (bU b)] ⟨H,lo⟩=some (.ret v ⟨H++J,lo⟩)/\aQ (N+1) (H++J) v 1 bY ((ba b).map hC):=by
 suffices h: ∃a,mR [.agg (bU b)] ⟨H,lo⟩=some a/\ (λa=> ∃v J,a=aU.ret v ⟨H++J,lo⟩/\aQ (N+1) (H++J) v 1 bY ((ba b).map hC)) a by grind
 refine xe (X:=X1) J0 rfl λM g=>?_
 obtain rfl:M=N:=by omega
 obtain⟨v,J,e1,f⟩:=Tq b d (M+1) (H++[.box (bU b) none]) (by grind) none;have c:D X1 (.fn (.func 56) [] []) [.agg (bU b)] ⟨H++[.box (bU b) none],none⟩=some (.ret v ⟨H++[.box (bU b) none]++J,none⟩):=qE (p:=mQ) rfl e1;simp only[go_sem,simprocAttr,J0,e,c,sV,gB];exact⟨_,_,rfl,(aQ.le (M:=M+1) f (by omega)).mono (by simp)⟩
def qF{H:List ae}{o:ae}(h:H[i]?=some o):H.set i o=H:=by
 apply anZ
 grind
def ahd{H:List ae}{id:Nat}{ty:TypeId}(h:H[id]?=some (.row ak 1 ty af))(a:i<af.length)(b: ∀el∈af,el.length=1)(g:v.ck=false)(f:v.cells=[v])(d:v.refs=0):
  km ⟨H,lo⟩ 1 (.dw id ak i 0) v=some ⟨H.set id (.row ak 1 ty (af.set i [v])),lo⟩:=by
 have c:=b _ (ar6 a);simp only[km,h,aep a];rw[adY ⟨trivial,c,g,by grind,by omega⟩];have e:aM af[i] 0 v.cells=[v]:=by
  rw[f];simp only[aM,List.take_zero,ahm,afL,anJ,ak4]
  grind
 rw[e];simp[AS.set,d]
def F6{H:List ae}{id:Nat}{ty:TypeId}{c:Bool}(h:H[id]?=some (.row ak 1 ty af))(d:n<=af.length)(b: ∀el∈af,el.length=1):Rd ⟨H,lo⟩ (.ref id ak 1 0 n c) 1 (af.take n):=by
 refine⟨trivial,?_,λel a=>b el (aiy a)⟩;simp only[Den.elems,h]
 grind
def ash{id:Nat}(h:i<=n):gE 1 (.ref id ak 1 0 n false) (some (.int .i64 (i:Nat))) none none=some (.ref id ak 1 i (n-i) false):=by
 simp only[gE,gC,mc,me]
 grind
def ahe{id:Nat}(h:i<=n):gE 1 (.ref id ak 1 0 n false) none (some (.int .i64 (i:Nat))) none=some (.ref id ak 1 0 i false):=by
 simp only[gE,gC,mc,me]
 grind
def kept(p:Nat->Bool)(l:lN)(k:Nat):lN:=(l.take k).filter λh=>!p h
def gP(p:Nat->Bool)(l:lN)(k:Nat):lN:=kept p l k++l.drop (kept p l k).length
section
variable{p:Nat->Bool}{l:lN}{k:Nat}
def Tr: (kept p l k).length<=k:=ahk (akZ _ _) (by grind)
def ahf: (kept p l k).length<=l.length:=ahk (akZ _ _) (by grind)
def Ak: (gP p l k).length=l.length:=by
 have:=ahf (p:=p) (l:=l) (k:=k);simp only[gP,aer,amy];omega
theorem getD_eq(a:k<l.length):l.getD k default=l[k]:=by grind
def F7(a:k<l.length):kept p l (k+1)=if p (l.getD k default)=true then kept p l k else kept p l k++[l.getD k default]:=by
 have e:l.take (k+1)=l.take k++[l.getD k default]:=by simp_all
 unfold kept
 grind
def asi(a:k<l.length): (gP p l k).getD k default=l.getD k default:=by
 have b:=Tr (p:=p) (l:=l) (k:=k);unfold gP
 grind
def asj(b:k<l.length)(a:p (l.getD k default)=false): (gP p l k).set (kept p l k).length (l.getD k default)=gP p l (k+1):=by
 have c:=Tr (p:=p) (l:=l) (k:=k);have e:=F7 (p:=p) b;rw[a]at e;unfold gP;have d:l.drop (kept p l k).length=l[(kept p l k).length]'(by omega)::l.drop ((kept p l k).length+1):=anc (by omega)
 grind
def asl(b:k<l.length)(a:p (l.getD k default)=true):gP p l (k+1)=gP p l k:=by
 have e:=F7 (p:=p) b;rw[adY a]at e;unfold gP;rw[e]
def asm(h:l.findIdx? p=some b):b<l.length/\kept p l (b+1)=l.take b:=by
 rw[ap7]at h;obtain⟨c,g,f⟩:=h;refine⟨c,?_⟩;rw[F7 c,adY (by grind)];unfold kept;rw[List.filter_eq_self];intro a d;obtain⟨j,e,rfl⟩:=ar8 d
 grind
def ahg:kept p l l.length=l.filter λh=>!p h:=by unfold kept;grind
end
def asn{H:List ae}{id off len:Nat}{c:Bool}{ty:TypeId}(h:H[id]?=some (.row ak 1 ty af))(a:off+len<=af.length):
  sA ⟨H,lo⟩ [.int .u32 0] (.ref id ak 1 off len c)=some ⟨H.set id (.row ak 1 ty (af.take off++(List.replicate len [.int .u32 0]++af.drop (off+len)))),lo⟩:=by
 simp only[sA,h];rw[adY ⟨trivial,trivial,rfl,a,rfl⟩];simp[AS.set]
def map_set{β:Type}(g:α->β)(l:List α)(i:Nat)(x:α): (l.map g).set i (g x)=(l.set i x).map g:=by simp
def aso(id ak:Nat)(H:List ae)(l:lN)(hl:l.length<=1000)(i:H[id]?=some (.row ak 1 bY (l.map hC)))(fv:AV)(p:Nat->Bool)
  (T: ∀af,∀h∈l,D X2 fv [.int .u32 h] ⟨H.set id (.row ak 1 bY af),none⟩=some (.ret (.bool (p h)) ⟨H.set id (.row ak 1 bY af),none⟩)) (lo:oN):
  ∃rest,qD [.ref id ak 1 0 l.length false,fv] ⟨H,lo⟩=some (.ret (.ref id ak 1 0 (l.filter λh=>!p h).length false) ⟨H.set id (.row ak 1 bY ((l.filter λh=>!p h).map hC++rest)),lo⟩)/\ ∀el∈rest,el=[.int .u32 0]:=by
 suffices h: ∃A,qD [.ref id ak 1 0 l.length false,fv] ⟨H,lo⟩=some A/\ (λA=> ∃rest,A=aU.ret (.ref id ak 1 0 (l.filter λh=>!p h).length false) ⟨H.set id (.row ak 1 bY ((l.filter λh=>!p h).map hC++rest)),lo⟩/\ ∀el∈rest,el=[.int .u32 0]) A by grind
 have J:=(adg.1 i).1;have V: ∀el∈l.map hC,el.length=1:=by intro el f;obtain⟨x,_,rfl⟩:=afH.1 f;rfl
 have Q:=qF i;have O: ∀h∈l,D X2 fv [.int .u32 h] ⟨H,none⟩=some (.ret (.bool (p h)) ⟨H,none⟩):=λh hm=>by
  have:=T (l.map hC) h hm;rwa[Q]at this
 have G:Rd ⟨H,none⟩ (.ref id ak 1 0 l.length false) 1 (l.map hC):=by
  have:=F6 (lo:=none) (c:=false) (n:=l.length) i (by simp) V;rwa[aes (by simp)]at this
 have w:=agU ahb (.ref id ak 1 0 l.length false) fv l H G (by omega) p none O;refine xe (X:=X2) Fv rfl λM hM=>?_
 cases m:l.findIdx? p with
 |none=>
  have K:j9 p l= -1:=by unfold j9;rw[m]
  have N:l.filter (λh=>!p h)=l:=by
   rw[List.filter_eq_self];intro a Z;rw[List.findIdx?_eq_none_iff]at m;simp[m a Z]
  simp only[go_sem,simprocAttr,Fv,w,K,sV,gB];exact⟨[],by rw[N,afW,Q],λ_ h=>by cases h⟩
 |some i0=>
  have K:j9 p l=(i0:Nat):=by unfold j9;rw[m]
  have u: ((i0:Nat):Int)≠ -1:=by omega
  obtain⟨Y,v⟩:=asm m;have b: ∀af,(H.set id (.row ak 1 bY af))[id]?=some (.row ak 1 bY af):=λaf=>afD J
  have P:gP p l (i0+1)=l:=by
   have e: (l.take i0).length=i0:=by rw[afS];omega
   unfold gP;rw[v,e,ai7]
  simp(disch:=omega) only[go_sem,simprocAttr,Fv,w,K,u];refine eG l.length (λk e H'=>H'=H.set id (.row ak 1 bY ((gP p l k).map hC))/\e 0= .ref id ak 1 0 l.length false/\e 1=fv/\e 5= .int .i64 (kept p l k).length/\e 6= .int .i64 k) (i0+1) (by omega) ?_ ?_
  ·have e: (kept p l (i0+1)).length=i0:=by rw[v,afS];omega
   rw[P,e];simp only[go_sem,simprocAttr,Q]
  ·rintro k hk e H' ⟨rfl,z,U,y,R⟩ n hn;have q: ∀lo,Rd ⟨H.set id (.row ak 1 bY ((gP p l k).map hC)),lo⟩ (.ref id ak 1 0 l.length false) 1 ((gP p l k).map hC):=λlo=>by
    have:=F6 (lo:=lo) (c:=false) (n:=l.length) (b ((gP p l k).map hC)) (by rw[afB,Ak];exact afA _) (by intro el f;obtain⟨x,_,rfl⟩:=afH.1 f;rfl);rwa[aes (by rw[afB,Ak];exact afA _)]at this
   have W:=Tr (p:=p) (l:=l) (k:=k);have r:=ahf (p:=p) (l:=l) (k:=k);have j: ∀E,gl E .sl (.ref id ak 1 0 l.length false)=some (.int .i64 l.length):=λE=>rfl
   simp only[bX,go_sem,simprocAttr,afa,z,y,R,j];refine⟨λh=>?_,λh=>?_⟩
   ·have d:k<l.length:=by omega
    have I:k< (gP p l k).length:=by rw[Ak];exact d
    have L:=asi (p:=p) d;have s:=λ (a:Int)=>(q none).cp (k:=.i64) (a:=a)
    have o:=(q none).c7 (X:=X2) (off:=0) (n:=1) (agg:=false) I;have g:=T ((gP p l k).map hC) (l.getD k default) (fx d);rw[L]at o;simp only[gg,ak4]at o;rw[Ak]at s;cases t:p (l.getD k default)
    ·rw[t]at g;have B:km ⟨H.set id (.row ak 1 bY ((gP p l k).map hC)),none⟩ 1 (.dw id ak (kept p l k).length 0) (.int .u32 (l.getD k default))=some ⟨H.set id (.row ak 1 bY ((gP p l (k+1)).map hC)),none⟩:=by
      rw[ahd (b _) (by rw[afB,Ak];omega) (by intro el f;obtain⟨x,_,rfl⟩:=afH.1 f;rfl) rfl rfl rfl,ak7];have: ((gP p l k).map hC).set (kept p l k).length [.int .u32 (l.getD k default)]=(gP p l (k+1)).map hC:=by
       rw[<-asj d t,<-map_set];rfl
      rw[this]
     have S: (kept p l (k+1)).length=(kept p l k).length+1:=by rw[F7 d,t];simp
     simp(disch:=omega) only[go_sem,simprocAttr,S,s,o,↓pH,g,B,z,U,y,R,gg];exact⟨by omega,by omega,by omega⟩
    ·rw[t]at g;have S:kept p l (k+1)=kept p l k:=by rw[F7 d,t];simp
     have e6:=asl d t;simp(disch:=omega) only[go_sem,simprocAttr,S,e6,s,o,↓pH,g,z,U,y,R,gg];exact⟨by omega,by omega⟩
   ·obtain rfl:k=l.length:=by omega
    have F:=ash (id:=id) (ak:=ak) (n:=l.length) r;have C:=ahe (id:=id) (ak:=ak) (n:=l.length) r;have g:=asn (lo:=none) (off:=(kept p l l.length).length) (len:=l.length- (kept p l l.length).length) (c:=false) (b ((gP p l l.length).map hC)) (by rw[afB,Ak];omega);simp only[go_sem,simprocAttr,z,y,F,C,g,sV,gB];refine⟨List.replicate (l.length- (kept p l l.length).length) [.int .u32 0],?_,λel f=>asR f⟩;rw[ak7];have e1:List.take (kept p l l.length).length (List.map hC (gP p l l.length))=(l.filter λh=>!p h).map hC:=by
     unfold gP;rw[afI,aof (by simp),ahg]
    have e2:List.drop ((kept p l l.length).length+(l.length- (kept p l l.length).length)) (List.map hC (gP p l l.length))=[]:=ahp (by rw[afB,Ak];omega);rw[e1,e2,afW,ahg]
def asp{X:Ctx}(j:Ext X0 X)(t:av)(f:bP t)(h x:Nat)(e:x<4294967296)(d a:Nat)(H:List ae)(b:H[d]?=some (.box (aN t) none))(c:H[a]?=some (.box [.int .u32 h] none))(lo:oN):
  D X (.fn (.func 194) [] [.ptr d 0,.ptr a 0]) [.int .u32 x] ⟨H,lo⟩=some (.ret (.bool (decide (bI t x≠h))) ⟨H,lo⟩):=by
 refine up j ?_;refine fB Rb λN i=>?_
 have m: ∀L,(H++L)[a]?=some (.box [.int .u32 h] none):=λL=>aZ c
 have g:=r6 t f x e;have hu:=aha t x;simp only[F1,go_sem,simprocAttr,Rb,i,b,m,g,lV,jt,hu];refine du (ahl AV.bool ?_) rfl
 grind
def ahh(N:Nat)(H:List ae)(v:AV)(ty:TypeId)(af a:List lA):Prop:=
 (∃id ak,N<=id/\v= .ref id ak 1 0 af.length false/\H[id]?=some (.row ak 1 ty (af++a)))/\ ∀el∈a,el.length=1
def asq(t:av)(q:bP t)(h:Nat)(r:t.az h=true)(N:Nat)(H:List ae)(K:H.length=N)(lo:oN):
  ∃v J rest,r8 [.agg (aN t),.int .u32 h] ⟨H,lo⟩=some (.ret v ⟨H++J,lo⟩)/\ahh (N+2) (H++J) v bY ((kids t h).map hC) rest:=by
 have E:=fU r
 suffices B: ∃n,r8 [.agg (aN t),.int .u32 h] ⟨H,lo⟩=some n/\ (λn=> ∃v J rest,n=aU.ret v ⟨H++J,lo⟩/\ahh (N+2) (H++J) v bY ((kids t h).map hC) rest) n by
  obtain⟨n,G,v,J,rest,rfl,F⟩:=B;exact⟨v,J,rest,G,F⟩
 refine xe (X:=X3) KD rfl λM s=>?_
 obtain rfl:M=N:=by omega
 have i:=up asc (eU t.b h E (H++[.box (aN t) none,.box [.int .u32 h] none]) none);have u:Go.Proofs.YteplichagkpciaaGreatDoor.az t.b h=t.az h:=rfl;rw[u]at i;rw[r]at i;obtain⟨v,J,e1,I⟩:=LA t.b q.b (M+2) (H++[.box (aN t) none,.box [.int .u32 h] none]) (by simp[s]) none;have j:D X3 (.fn (.func 19) [] []) [.agg (bU t.b)] ⟨H++[.box (aN t) none,.box [.int .u32 h] none],none⟩=some (.ret v ⟨H++[.box (aN t) none,.box [.int .u32 h] none]++J,none⟩):=qE (p:=mR) rfl e1;have f:h∈ba t.b:=(iE q.b).2 r;have g: (ba t.b).filter (λx=>!decide (bI t x≠h))=kids t h:=by
  unfold kids;rw[adY r];refine List.filter_congr λx _=>?_
  by_cases e:bI t x=h<;>simp[e]
 rcases I.2 with⟨_,e⟩| ⟨id,ak,C,rfl,a⟩
 ·rw[aqh.1 e]at f;cases f
 rw[afB]at j;obtain⟨H1,c⟩: ∃H1,H1=H++[ae.box (aN t) none,.box [.int .u32 h] none]++J:=⟨_,rfl⟩;have b:=ew a;have z:H1[M]?=some (.box (aN t) none):=by rw[c,adV,dB s];rfl
 have y:H1[M+1]?=some (.box [.int .u32 h] none):=by rw[c,adV,bE s];rfl
 rw[<-c]at a b;obtain⟨rest,d1,d2⟩:=aso id ak H1 (ba t.b) (by have:=mA t.b;omega) a (.fn (.func 194) [] [.ptr M 0,.ptr (M+1) 0]) (λx=>decide (bI t x≠h))
  (λaf x A=>asp ahb t q h x (fU ((iE q.b).1 A)) M (M+1) _ (by rw[adb (by omega)];exact z) (by rw[adb (by omega)];exact y) none) none
 rw[g]at d1;have m:D X3 (.fn (.func 193) [] []) [.ref id ak 1 0 (ba t.b).length false,.fn (.func 194) [] [.ptr M 0,.ptr (M+1) 0]] ⟨H1,none⟩=some _:=qE (p:=qD) rfl d1;rw[c]at m;simp only[adV,ahq,ahm]at m j;simp only[go_sem,simprocAttr,KD,s,i,j,m,sV,gB];have d: ∀L:List ae,∀o,(H++L).set id o=H++L.set (id-H.length) o:=λL o=>aoq _ _ (by omega)
 refine⟨_,_,rest,du rfl (d _ _),⟨id,ak,by omega,by rw[afB],?_⟩,λel w=>by rw[d2 el w];rfl⟩;rw[<-d];refine afD ?_;rw[c]at b;simpa using b
def iY(l:lN)(k:Nat):lN:=(List.range l.length).map λi=>if i<k\/l.length-k<=i then l.getD (l.length-1-i) default else l.getD i default
section
variable{l:lN}{k:Nat}
def uR: (iY l k).length=l.length:=by simp[iY]
def asr(h:i<l.length): (iY l k).getD i default=if i<k\/l.length-k<=i then l.getD (l.length-1-i) default else l.getD i default:=by
 unfold iY
 grind
def ass:iY l 0=l:=by
 apply anZ;unfold iY
 grind
def ast(h:l.length<=2*k+1):iY l k=l.reverse:=by
 apply anZ;intro i;unfold iY;by_cases a:i<l.length
 ·rw[afU,apW a]
  grind
 grind
def asu(h:2*k+1<l.length): ((iY l k).set k (l.getD (l.length-1-k) default)).set (l.length-1-k) (l.getD k default)=iY l (k+1):=by
 apply anZ;intro i;by_cases a:i<l.length
 ·by_cases e1:l.length-1-k=i
  ·unfold iY
   grind
  ·rw[adb e1];by_cases b:k=i
   ·subst b;rw[afD (by rw[uR];omega)];unfold iY;rw[afU,apW a];simp only[afG];rw[adY (by omega)]
   ·rw[adb b];unfold iY;rw[afU,afU,apW a];simp only[afG];by_cases c:i<k\/l.length-k<=i
    ·rw[adY c,adY (by omega)]
    ·rw[adU c,adU (by omega)]
 ·rw[alG (by simp[uR];omega),alG (by rw[uR];omega)]
end
def asv(id ak:Nat)(H:List ae)(l:lN)(P:l.length<=1000)(b:List lA)(i:H[id]?=some (.row ak 1 bY (l.map hC++b)))(f: ∀el∈b,el.length=1)(lo:oN):
  D X0 (.fn (.func 191) [] []) [.ref id ak 1 0 l.length false] ⟨H,lo⟩=some (.ret (.aw []) ⟨H.set id (.row ak 1 bY (l.reverse.map hC++b)),lo⟩):=by
 refine aH Ra λN R=>?_
 have y:=ew i;have g: ∀E,gl E .sl (.ref id ak 1 0 l.length false)=some (.int .i64 l.length):=λE=>rfl
 have d: ∀af,(H.set id (.row ak 1 bY af))[id]?=some (.row ak 1 bY af):=λaf=>afD y
 have M: ∀k,∀el∈(iY l k).map hC++b,el.length=1:=λk el p=>by
  rcases aev.1 p with h|h
  ·obtain⟨x,_,rfl⟩:=afH.1 h;rfl
  ·exact f _ h
 simp(disch:=omega) only[go_sem,simprocAttr,Ra,g];refine eG l.length (λk e H'=>H'=H.set id (.row ak 1 bY ((iY l k).map hC++b))/\e 0= .ref id ak 1 0 l.length false/\e 2= .int .i64 k/\e 3= .int .i64 ((l.length:Int)-1-k)) 0 (by omega) ?_ ?_
 ·rw[ass,qF i];simp only[go_sem,simprocAttr];exact ahl _ (by omega)
 rintro k Q e H' ⟨rfl,K,J,I⟩ n O;simp only[bX,F1,go_sem,simprocAttr,ae9,K,J,I];refine⟨λh=>?_,λh=>?_⟩
 ·have u:2*k+1<l.length:=by omega
  have w:k<l.length:=by omega
  obtain⟨m,hm⟩: ∃m,m=l.length-1-k:=⟨_,rfl⟩;have t: (l.length:Int)-1-k=(m:Nat):=by omega
  have o:Rd ⟨H.set id (.row ak 1 bY ((iY l k).map hC++b)),none⟩ (.ref id ak 1 0 l.length false) 1 ((iY l k).map hC):=by
   have:=F6 (lo:=none) (c:=false) (n:=l.length) (d ((iY l k).map hC++b)) (by rw[aer,afB,uR];omega) (M k);rwa[aof (by rw[afB,uR])]at this
  have C:kn 1 (.ref id ak 1 0 l.length false) (.int .i64 (m:Nat))=some (.dw id ak m 0):=by
   have:=o.cp (k:=.i64) (a:=(m:Nat));rw[uR,adY (by omega)]at this;rw[this];simp[gg]
  have B:kn 1 (.ref id ak 1 0 l.length false) (.int .i64 (k:Nat))=some (.dw id ak k 0):=by
   have:=o.cp (k:=.i64) (a:=(k:Nat));rw[uR,adY (by omega)]at this;rw[this];simp[gg]
  have A: ∀j,j<l.length->cm X0 ⟨H.set id (.row ak 1 bY ((iY l k).map hC++b)),none⟩ false 1 (.dw id ak j 0)=some (.int .u32 ((iY l k).getD j default:Nat)):=λj F=>by
   have:=o.c7 (X:=X0) (j:=j) (off:=0) (n:=1) (agg:=false) (by rw[uR];exact F);simp only[gg,ak4]at this;rw[this,pH]
  have s:=A m (by omega);have r:=A k (by omega);rw[asr (by omega),adU (by omega)]at s r;have G: ∀ (L:lN) (j v:Nat),L.length=l.length->j<l.length->km ⟨H.set id (.row ak 1 bY (L.map hC++b)),none⟩ 1 (.dw id ak j 0) (.int .u32 v)=some ⟨H.set id (.row ak 1 bY ((L.set j v).map hC++b)),none⟩:=λL j v A F=>by
   rw[ahd (d _) (by rw[aer,afB];omega) (λel p=>by
    rcases aev.1 p with h|h
    ·obtain⟨x,_,rfl⟩:=afH.1 h;rfl
    ·exact f _ h) rfl rfl rfl,ak7,aqG _ _ (by rw[afB];omega)]
   have: (L.map hC).set j [.int .u32 v]=(L.set j v).map hC:=by rw[<-map_set];rfl
   rw[this]
  have z:=G (iY l k) k (l.getD m default) uR (by omega);have q:=G ((iY l k).set k (l.getD m default)) m (l.getD k default) (by rw[afN,uR]) (by omega);rw[hm,asu u,<-hm]at q;simp(disch:=omega) only[go_sem,simprocAttr,K,J,I,t,C,B,s,r,z,q];exact⟨w,ahl _ (by omega)⟩
 ·have he:=ast (l:=l) (k:=k) (by omega);rw[he,aes (by rw[afN];omega)]
def Ts(t:av)(h:Nat)(N:Nat)(H:List ae)(b:H.length=N)(lo:oN):D X0 (.fn (.func 183) [] []) [.agg (aN t),.int .u32 h] ⟨H,lo⟩=some (.ret (.fn (.func 189) [] [.ptr (N+1) 0,.ptr N 0]) ⟨H++[.box (aN t) none,.box [.int .u32 h] none],lo⟩):=by
 refine aH Q4 λM a=>?_
 obtain rfl:M=N:=by omega
 simp only[go_sem,simprocAttr,Q4,a];rw[Ah (by omega)]
def sa(t:av)(h:Nat):List lA:=(dO t h).map hC
def Tt(t:av)(h:Nat): (sa t h).length=(dO t h).length:=by simp[sa]
structure asw(W:List ae)(v:AV)(id:Nat)(st:lN):Prop where
 ex: ∃ak rest,v= .ref id ak 1 0 st.length false/\W[id]?=some (.row ak 1 bY (st.map hC++rest))/\ ∀el∈rest,el.length=1
theorem pU{t:av}: ∀st:lN,st.length<=(st.flatMap (dO t)).length
 | []=>by simp
 |x::xs=>by
  have d:1<=(dO t x).length:=by
   cases e:dO t x with
   |nil=>trivial
   |cons a b=>simp
  have c:=pU (t:=t) xs
  grind
def asx{H:List ae}{id:Nat}{ty:TypeId}{ys:List lA}(h:H[id]?=some (.row ak 1 ty af))(f:n<=af.length)(e: ∀el∈ys,el.length=1)(a:b9 ys=0)(d: (n+ys.length)*4<=room)(b:ys≠[]):
  dJ ⟨H,lo⟩ ty 1 4 (.ref id ak 1 0 n false) ys=some (.ref id (ak+1) 1 0 (n+ys.length) false,⟨H.set id (.row (ak+1) 1 ty (af.take n++ys)),lo⟩):=by
 have c:0<1/\ys.all (λel=>el.length==1)=true:=⟨by omega,by grind⟩;unfold dJ;rw[adY c];simp only[h];rw[adY ⟨trivial,trivial,trivial,trivial,by omega,d⟩,adU (by grind)];simp[AS.set,a]
def asy{H:List ae}{id:Nat}{ty:TypeId}(h:H[id]?=some (.row ak 1 ty af))(a:n<=af.length)(b:n*4<=room):
  dJ ⟨H,lo⟩ ty 1 4 (.ref id ak 1 0 n false) []=some (.ref id ak 1 0 n false,⟨H,lo⟩):=by
 unfold dJ
 grind
def asz{X Y:Ctx}(a:Ext X Y)(h:X.code f=some pf)(b:X.bW f=none):Y.bW f=none:=by
 rcases a.bW f with e| ⟨_,e⟩
 ·grind
 grind
def asA{X Y:Ctx}(a:Ext X Y)(h:X.code f=some pf):Y.code f=some pf:=by rw[a.code];exact h
def wk{X Y:Ctx}(a:Ext X Y){args:lA}{E:AS}{r:aU}(h:D X v args E=some r):D Y v args E=some r:=adQ a _ _ _ _ h
def Tu{Y:Ctx}(U:Ext X4 Y)(t:av)(ht:bP t)(hT:cu t)(h:Nat)(hg:t.az h=true)(a:Nat):
  vI Y (.fn (.func 189) [] [.ptr (a+1) 0,.ptr a 0]) a [.box (aN t) none,.box [.int .u32 h] none] (sa t h):=by
 intro S V y I J b hV F8 vE W s hP h0 vL C hG lo;have hh:=fU hg;have o: ∀i,V.cA i->i<b:=λi hi=>(F8 i hi).1
 suffices h: ∃cr,D Y (.fn (.func 189) [] [.ptr (a+1) 0,.ptr a 0]) [y] ⟨W,lo⟩=some cr/\
   (λcr=> ∃O P aj,cr=aU.ret (.aw []) ⟨P,aj⟩/\V.P O P/\ (I (sa t h).length O\/J O)/\b<=P.length/\
     (∀i,i<b-> ¬V.cA i-> ¬(a<=i/\i<a+[ae.box (aN t) none,.box [.int .u32 (h:Nat)] none].length)->P[i]?=W[i]?)/\lD V.c b lo aj none (V.row O)) cr by
  obtain⟨cr,h1,O,P,aj,rfl,q1,q2,q3,q4,q5⟩:=h;exact⟨O,P,aj,h1,q1,q2,q3,q4,q5⟩
 refine r7 Q9 (asz U rfl rfl) (asA U rfl) rfl λN hN=>?_
 obtain rfl:N=b:=by omega
 have g0:W[a]?=some (.box (aN t) none):=hG 0 (by simp);have g1:W[a+1]?=some (.box [.int .u32 h] none):=hG 1 (by simp);have ha:=ew g1;have Tl: ¬V.cA a:=λq=>(F8 a q).2 ⟨by omega,by simp⟩
 have hul:=S1 hT h;have F: ∀n:Nat,n<=40000000->n*4<=room:=λn hn=>by unfold room;omega
 simp only[go_sem,simprocAttr,Q9,hN,g1];refine iq (dO t h).length (λk e P aj=> ∃O st id,I k O/\kx V N W (λi=>a<=i/\i<a+[ae.box (aN t) none,.box [.int .u32 (h:Nat)] none].length) O P aj/\P[a]?=some (.box (aN t) none)/\asw P (e 4) id st/\N<=id/\V.row O≠some id/\
  st.reverse.flatMap (dO t)=(dO t h).drop k/\ (∀x∈st,t.az x=true)/\e 0=y/\e 1= .ptr (a+1) 0/\e 2= .ptr a 0) 0 (by omega) ?_ ?_
 ·simp only[go_sem,simprocAttr];refine⟨s,[h],N,h0,?_,?_,?_,afA _,?_,by simp,by simpa using hg⟩
  ·exact kx.push hV o ⟨hP,by omega,λ_ _ _ _=>rfl,.inl ⟨rfl,C⟩,λr e=>by rw[C]at e;cases e⟩ _
  ·exact aZ g0
  ·exact⟨0,[],rfl,by rw[dB hN];rfl,by simp⟩
  ·rw[C];simp
 rintro k hk e W1 R ⟨s1,st,id,hI,hS,w0,⟨ak,rest,e4,hr,G⟩,hid,ahj,A,gd,e0,e1,e2⟩ n hn;have Ly:N<=n:=by have:=hS.len;omega
 have aDc:=ew hr;have aDd:st.length<=(dO t h).length-k:=by
  have:=pU (t:=t) st.reverse;rw[A,List.length_reverse,amy]at this;exact this
 have H: ∀E,gl E .sl (.ref id ak 1 0 st.length false)=some (.int .i64 st.length):=λE=>rfl
 simp(disch:=omega) only[bX,go_sem,simprocAttr,ae8,e4,H];refine⟨λhc=>?_,λhc=>?_⟩
 ·obtain⟨d,x,rfl⟩: ∃d x,st=d++[x]:=⟨st.dropLast,st.getLast (by rintro rfl;simp at hc),(List.dropLast_concat_getLast _).symm⟩;have hgx:=gd x (by simp);have hx:=fU hgx;have T: (d++[x]).length=d.length+1:=by simp
  have u: (dO t h).drop k=x:: ((kids t x).flatMap (dO t)++d.reverse.flatMap (dO t)):=by
   rw[<-A,List.reverse_append,ak1];show(x:: []).flatMap (dO t)++_=_;rw[aoX,List.flatMap_nil,afW,SZ hT x];rfl
  have Tm:k< (dO t h).length:=by
   have:=ahl List.length u;rw[amy,afL]at this;omega
  have xa: (sa t h)[k]?=some [.int .u32 (x:Nat)]:=by
   unfold sa;rw[afU];have: (dO t h)[k]?=((dO t h).drop k)[0]?:=by rw[alH];rfl
   rw[this,u];rfl
  obtain⟨c,s2,W2,l,p1,p2,p3,p4,p5,p6⟩:=vE k _ s1 xa hI W1 hS.P hS.len R;have L:=hS.step p2 p3 p4 p5;have Tv: ∀i,i<N->V.row s1≠some i:=λi hi q=>by have:=hS.row _ q;omega
  have v0:W2[a]?=some (.box (aN t) none):=by rw[p3.2 a (by omega) Tl (Tv _ (by omega))];exact w0
  have vr:W2[id]?=some (.row ak 1 bY ((d++[x]).map hC++rest)):=by rw[p3.2 id (by omega) (λq=>by have:=o _ q;omega) ahj];exact hr
  have lr:Rd ⟨W1,R⟩ (.ref id ak 1 0 (d++[x]).length false) 1 ((d++[x]).map hC):=by
   have:=F6 (lo:=R) (c:=false) (n:=(d++[x]).length) hr (by simp) (λel g=>by
    rcases aev.1 g with h|h
    ·obtain⟨x,_,rfl⟩:=afH.1 h;rfl
    ·exact G _ h)
   rwa[aof (by simp)]at this
  have hA:kn 1 (.ref id ak 1 0 (d.length+1) false) (.int .i64 (d.length:Nat))=some (.dw id ak d.length 0):=by
   have:=lr.cp (k:=.i64) (a:=(d.length:Nat));rw[T,adY (by omega)]at this;rw[this];simp[gg]
  have hL:cm Y ⟨W1,R⟩ false 1 (.dw id ak d.length 0)=some (.int .u32 (x:Nat)):=by
   have:=lr.c7 (X:=Y) (j:=d.length) (off:=0) (n:=1) (agg:=false) (by simp);simp only[gg,ak4]at this;rw[this,pH];simp
  have Tw: ((d.length:Nat):Int)+1-1=(d.length:Nat):=by omega
  cases c
  ·obtain⟨M,LB,q1,q2,q3,q4,q5⟩:=L.fin hV o (dS:=lo);simp only[go_sem,simprocAttr,Tw,e0,T,hA,hL,p1,q1];exact⟨s2,M,LB,rfl,q2,.inr p6,q3,q4,q5⟩
  ·obtain⟨kv,Jk,m,k1,⟨z,v,kid,rfl,Z⟩,k3⟩:=asq t ht x hgx W2.length W2 rfl l;have hkn:=ew Z;have kl:=agI t x;have w:=wk U (qE (X:=X4) (f:=190) (p:=r8) rfl k1);have r1:=wk U<|up asd (asv z v (W2++Jk) (kids t x) (by omega) m Z k3 l);rw[afB]at w;have aDf:id≠z:=by have:=ew vr;omega
   obtain⟨M,K⟩: ∃M,M=(W2++Jk).set z (.row v 1 bY ((kids t x).reverse.map hC++m)):=⟨_,rfl⟩;rw[<-K]at r1;have Q:M[id]?=some (.row ak 1 bY ((d++[x]).map hC++rest)):=by rw[K,adb (by omega)];exact aZ vr
   have v03:M[a]?=some (.box (aN t) none):=by rw[K,adb (by have:=ew v0;omega)];exact aZ v0
   have g:Den.elems ⟨M,l⟩ 1 (.ref z v 1 0 (kids t x).length false)=some ((kids t x).reverse.map hC):=by
    have h3:M[z]?=some (.row v 1 bY ((kids t x).reverse.map hC++m)):=by rw[K];exact afD hkn
    have:=(F6 (lo:=l) (c:=false) (n:=(kids t x).length) h3 (by simp) (λel g=>by
     rcases aev.1 g with h|h
     ·obtain⟨x,_,rfl⟩:=afH.1 h;rfl
     ·exact k3 _ h)).eq
    rwa[aof (by simp)]at this
   have hS3:kx V N W (λi=>a<=i/\i<a+[ae.box (aN t) none,.box [.int .u32 (h:Nat)] none].length) s2 M l:=by
    rw[K];exact(L.push hV o Jk).set hV (λq=>by have:=o _ q;have:=L.len;omega) (λq=>by have:=hV.ID L.P q;omega) (.inr (by have:=L.len;omega))
   have wY:=ahe (id:=id) (ak:=ak) (n:=d.length+1) (i:=d.length) (by omega);have B:V.row s2≠some id:=by
    rcases p4 with q| ⟨r,q,hq⟩
    ·rw[q];exact ahj
    ·rw[q];intro e;cases e;omega
   have Tx: ((d++(kids t x).reverse).reverse).flatMap (dO t)=(dO t h).drop (k+1):=by
    have:=ahl (List.drop 1) u;rw[apU]at this;rw[this,List.reverse_append,List.reverse_reverse,ak1];rfl
   have ahn: ∀y∈d++(kids t x).reverse,t.az y=true:=λy hy=>by
    rcases aev.1 hy with h|h
    ·exact gd y (by simp[h])
    ·exact(iE ht.b).1 (Lk (List.mem_reverse.1 h)).2.2
   by_cases hke:kids t x=[]
   ·have sO:=asy (lo:=l) (n:=d.length) Q (by simp) (F _ (by omega));rw[hke]at g w r1 Tx ahn;simp only[anJ,List.reverse_nil,asC]at g w r1;simp(disch:=omega) only[go_sem,simprocAttr,Tw,e0,e1,e2,e4,T,hA,hL,p1,v0,w,r1,wY,g,sO];refine⟨Tm,s2,d,id,p6,hS3,v03,⟨ak,[hC x]++rest,rfl,?_,?_⟩,hid,B,by simpa using Tx,λy hy=>gd y (by simp[hy])⟩
    ·rw[Q];simp
    ·intro el g;rcases aev.1 g with h|h
     ·rw[afC.1 h];rfl
     ·exact G _ h
   ·have sO:=asx (lo:=l) (n:=d.length) (ys:=(kids t x).reverse.map hC) Q (by simp) (λel g=>by obtain⟨x,_,rfl⟩:=afH.1 g;rfl) (bB (λ_=>rfl) _) (F _ (by simp;omega)) (by simpa using hke);simp(disch:=omega) only[go_sem,simprocAttr,Tw,e0,e1,e2,e4,T,hA,hL,p1,v0,w,r1,wY,g,sO];refine⟨Tm,s2,d++(kids t x).reverse,id,p6,?_,?_,⟨ak+1,[],?_,?_,λ_ h=>by cases h⟩,hid,B,Tx,ahn⟩
    ·exact hS3.set hV (λq=>by have:=o _ q;omega) B (.inr (by omega))
    ·exact v03
    ·simp
    ·rw[afD (ew Q)];have e:List.take d.length (List.map hC (d++[x])++rest)=List.map hC d:=by
      rw[afI,adV,aof (by simp)]
     rw[e,afI,afW]
 ·obtain⟨M,LB,q1,q2,q3,q4,q5⟩:=hS.fin hV o (dS:=lo);have asD:st=[]:=by
   have:st.length=0:=by omega
   exact akU.1 this
  subst asD;have hk2:k=(sa t h).length:=by
   rw[Tt];have:=ahl List.length A;rw[amy]at this;simp at this;omega
  simp only[go_sem,simprocAttr,q1];exact⟨s1,M,LB,rfl,q2,.inl (hk2 ▸ hI),q3,q4,q5⟩
def asE{X:Ctx}{a:List RV}{R:aU->Prop}{e:Env}{b:lN}{H:List ae}{l:oN}:
  Bt X lo a R .ret ⟨e,p::b⟩ ⟨H,l⟩=match H[p]? with|some .bt=>Bt X lo a R .ret ⟨e,b⟩ ⟨H.set p .dead,l⟩|_=>False:=by
 simp only[Bt,dU];cases c:H[p]? with
 |none=>simp
 |some o=>cases o<;>simp[AS.set]
structure ASt where
 l:lN
 row:oN
def ahr(H:List ae)(N a k:Nat):YV ASt:=⟨λs W=>(∀i,i<N-> ¬(a<=i/\i<a+k)->W[i]?=H[i]?)/\SV N 1 bY W s.row (s.l.map hC),ASt.row,λi=>i<N+1/\ ¬(a<=i/\i<a+k),N⟩
def asF{H:List ae}{N k:Nat}(h:a+k<=N): (ahr H N a k).Ok where
 st:=λs W j ⟨g,c⟩ b=>by
  refine⟨λi d f=>?_,c.st (b _ (.inl ⟨aw2 _,by omega⟩)) λi d=>b i (.inr d)⟩;rw[b i (.inl ⟨by omega,f⟩)];grind
 lt:=λs W r ⟨_,c⟩ e=>c.row e
def asG(g:AV)(xs:lN)(xa:xs.length<=40000000)(a:Nat)(G:List ae)(C:pP X4 g=true)(A:vI X4 g a G (xs.map hC))(N:Nat)(H:List ae)(hN:H.length=N)(E:a+G.length<=N)
  (hG: ∀i,i<G.length->H[a+i]?=G[i]?) (lo:oN):
  ∃v W aj,xV [.aq,g] ⟨H,lo⟩=some (.ret v ⟨W,aj⟩)/\aQ N W v 1 bY (xs.map hC)/\ (∀i,i<N-> ¬(a<=i/\i<a+G.length)->W[i]?=H[i]?)/\N<=W.length/\ (aj=lo\/ ∃j,N<=j/\aj=cJ lo j):=by
 suffices hs: ∃m,xV [.aq,g] ⟨H,lo⟩=some m/\ (λm=> ∃v W aj,m=aU.ret v ⟨W,aj⟩/\aQ N W v 1 bY (xs.map hC)/\ (∀i,i<N-> ¬(a<=i/\i<a+G.length)->W[i]?=H[i]?)/\N<=W.length/\ (aj=lo\/ ∃j,N<=j/\aj=cJ lo j)) m by
  obtain⟨m,h1,v,W,aj,rfl,h2⟩:=hs;exact⟨v,W,aj,h1,h2⟩
 refine xe (X:=X4) KC rfl λM I=>?_
 obtain rfl:M=N:=by omega
 have hb:=agY (H:=H) (lo:=none) (tg:=none) (Rv.aq (sz:=1));simp only[go_sem,simprocAttr,KC,I,hb];obtain⟨W0,c⟩: ∃W0,W0=H++[ae.box [.aq] none]:=⟨_,rfl⟩;rw[<-c];have V:W0.length=M+1:=by rw[c];simp[I]
 have l:SV M 1 bY W0 none []:=.inl ⟨rfl,rfl,by rw[c,dB I];rfl⟩;generalize d: ((((dq _).set 2 _).set 4 _).set 6 _)=e;have f:e 2= .ptr M 0:=by rw[<-d];rfl
 have Q: (ao.t 6).get e=g:=by rw[<-d];rfl
 clear d;refine Pe (ahr H M a G.length) (asF E) (xs.map hC) a G W0 ⟨[],none⟩ (by rw[Q];exact C) (by rw[Q];exact A) (λi b=>?_) (by omega) (λi b=>⟨by have:=b.1;omega,b.2⟩) ⟨λi b o=>?_,l⟩ rfl
  (λj s=>s.l=xs.take j) (λ_ _=>False) rfl (λ_ _ h=>h.elim) ?_ ?_ (λ_ _ _ _ h=>h.elim)
 ·rw[c,adf (by omega)];exact hG i b
 ·rw[c,adf (by omega)]
 ·intro j y s S p;rw[afU,afF]at S;obtain⟨x,T,rfl⟩:=S;have hj:=(adg.1 T).1;refine⟨rfl,λW Y vL=>?_⟩;simp only[go_sem,simprocAttr,hU,hC];refine⟨[],by simp,λW2 Te F=>?_⟩;obtain⟨u,n⟩:=F;have wY:s.l.length<=40000000:=by
   have:s.l=xs.take j:=p;rw[this,afS];omega
  obtain⟨vv,v',W3,L,P,a1,a2,a3,a4,a5,Z,a7⟩:=n.append (bytes:=4) (el:=hC x) (by omega) (by omega) rfl rfl (by rw[afB];unfold room;omega) none;have B:hC x=[.int .u32 (x:Nat)]:=rfl;rw[B]at a2;simp only[go_sem,simprocAttr,ae7,f,a1,a2,a3,D2,afW];have k: ∀i,s.row=some i->M<i:=by
   intro i b;rcases n with⟨q,_⟩| ⟨id,ak,q,_,f,q3,q4⟩
   ·rw[q]at b;cases b
   ·rw[q]at b;cases b;exact f
  refine⟨⟨s.l++[x],P⟩,⟨λi b o=>?_,?_⟩,⟨by show W2.length<=L.length;omega,λi b hp hr=>?_⟩,.inr ⟨M,afA _,by omega,rfl,?_⟩,?_⟩
  ·show L[i]?=_;rw[Z i (by omega) (by omega) (λq=>by have:=k i q;omega)];exact u i b o
  ·show SV M 1 bY L P ((s.l++[x]).map hC);rw[afI];exact a4
  ·have w: ¬(i<M+1/\ ¬(a<=i/\i<a+G.length)):=hp;exact Z i b (by rintro rfl;exact w ⟨by omega,by omega⟩) hr
  ·rcases a7 with q| ⟨q,t,f⟩
   ·exact .inl q
   ·exact .inr ⟨q,t,by omega⟩
  ·show s.l++[x]=xs.take (j+1);have:s.l=xs.take j:=p;rw[this,afX,T];rfl
 ·intro O W' aj p Y hl U mn z;obtain⟨u,n⟩:=Y;have J:O.l=xs:=by
   have:O.l=xs.take (xs.map hC).length:=p;rw[this,afB,afK]
  obtain⟨v,o1,R,o3,o4,_⟩:=n.own (N:=M) (afA _) (by intro el D;obtain⟨r,_,rfl⟩:=afH.1 D;rfl);rw[J]at R;have ho:aQ M (W'.set W0.length .dead) v 1 bY (xs.map hC):=by
   obtain⟨c1,K⟩:=R;refine⟨c1,?_⟩;rcases K with K| ⟨id,ak,d1,d2,d3⟩
   ·exact .inl K
   ·refine .inr ⟨id,ak,d1,d2,?_⟩;rw[adb];exact d3;rintro rfl;rw[U]at d3;cases d3
  simp only[go_sem,simprocAttr,f,o1,U,asE,sV];refine⟨v,_,_,rfl,ho,λi b o=>?_,by rw[afN];omega,?_⟩
  ·rw[adb (by omega)];exact u i b o
  ·rcases z with⟨rfl,_⟩| ⟨j,t,f,rfl⟩
   ·exact .inl rfl
   ·exact .inr ⟨j,t,rfl⟩
def asH(g:AV)(xs:lN)(c:xs.length<=40000000)(a:Nat)(G:List ae)(e:pP X4 g=true)(d:vI X4 g a G (xs.map hC))(N:Nat)(H:List ae)(s:H.length=N)(f:a+G.length<=N)
  (m: ∀i,i<G.length->H[a+i]?=G[i]?) (lo:oN):
  ∃v W aj,Aj [g] ⟨H,lo⟩=some (.ret v ⟨W,aj⟩)/\aQ N W v 1 bY (xs.map hC)/\ (∀i,i<N-> ¬(a<=i/\i<a+G.length)->W[i]?=H[i]?)/\N<=W.length/\ (aj=lo\/ ∃j,N<=j/\aj=cJ lo j):=by
 suffices r: ∃b,Aj [g] ⟨H,lo⟩=some b/\ (λb=> ∃v W aj,b=aU.ret v ⟨W,aj⟩/\aQ N W v 1 bY (xs.map hC)/\ (∀i,i<N-> ¬(a<=i/\i<a+G.length)->W[i]?=H[i]?)/\N<=W.length/\ (aj=lo\/ ∃j,N<=j/\aj=cJ lo j)) b by grind
 refine xe (X:=X5) KB rfl λM l=>?_
 obtain rfl:M=N:=by omega
 obtain⟨v,W,aj,e1,q,e3,o,n⟩:=asG g xs c a G e d M H l f m none;have h:D X5 (.fn (.func 188) [] []) [.aq,g] ⟨H,none⟩=some _:=qE (p:=xV) rfl e1;simp only[go_sem,simprocAttr,KB,h,sV];refine⟨v,W,_,rfl,q,e3,o,?_⟩;rcases n with rfl| ⟨j,k,rfl⟩
 ·exact .inl rfl
 ·exact .inr ⟨j,k,rfl⟩
def asI(t:av)(q:bP t)(n:cu t)(h:Nat)(s:h<4294967296)(N:Nat)(H:List ae)(B:H.length=N)(lo:oN):
  ∃v J aj,Cx [.agg (aN t),.int .u32 h] ⟨H,lo⟩=some (.ret v ⟨H++J,aj⟩)/\aQ N (H++J) v 1 bY ((under t h).map hC)/\ (aj=lo\/ ∃j,N<=j/\aj=cJ lo j):=by
 suffices A: ∃k,Cx [.agg (aN t),.int .u32 h] ⟨H,lo⟩=some k/\ (λk=> ∃v J aj,k=aU.ret v ⟨H++J,aj⟩/\aQ N (H++J) v 1 bY ((under t h).map hC)/\ (aj=lo\/ ∃j,N<=j/\aj=cJ lo j)) k by grind
 refine xe (X:=X6) Fs rfl λM e=>?_
 obtain rfl:M=N:=by omega
 have a:=up ahc (eU t.b h s (H++[.box (aN t) none]) none);have l:Go.Proofs.YteplichagkpciaaGreatDoor.az t.b h=t.az h:=rfl;rw[l]at a;cases d:t.az h with
 |false=>
  rw[d]at a;simp only[go_sem,simprocAttr,Fs,e,a,sV,gB];refine⟨_,_,_,rfl,?_,.inl rfl⟩;unfold under;rw[d];exact aQ.aq
 |true=>
  rw[d]at a;have hu:under t h=dO t h:=by unfold under;rw[adY d];rfl
  obtain⟨H1,b⟩: ∃H1,H1=H++[ae.box (aN t) none,.box (aN t) none,.box [.int .u32 h] none]:=⟨_,rfl⟩;have o:=up ahc (Ts t h (M+1) (H++[.box (aN t) none]) (by simp[e]) none);have f:H1.length=M+3:=by rw[b];simp[e]
  have m: ∀i,i<2->H1[M+1+i]?=[ae.box (aN t) none,.box [.int .u32 h] none][i]?:=λi r=>by
   rw[b,afJ (by omega),show M+1+i-H.length=i+1 by omega];rfl
  obtain⟨v,W,aj,y,x,w,C,u⟩:=asH (.fn (.func 189) [] [.ptr (M+1+1) 0,.ptr (M+1) 0]) (dO t h) (by have:=S1 n h;omega) (M+1) [.box (aN t) none,.box [.int .u32 h] none] rfl (Tu ⟨rfl,rfl,rfl,λ_=>.inl rfl⟩ t q n h d (M+1)) (M+3) H1 f (by simp) m none;have g:D X6 (.fn (.func 182) [] []) [.fn (.func 189) [] [.ptr (M+1+1) 0,.ptr (M+1) 0]] ⟨H1,none⟩=some _:=qE (p:=Aj) rfl y;have c:W=H++W.drop M:=by
   have:W.take M=H:=lW e λi r=>by
    rw[w i (by omega) (by omega),b,adf (by omega)]
   rw[<-this];simp
  rw[b]at g;simp only[adV,ahq,ahm]at o;simp only[go_sem,simprocAttr,Fs,e,a,o,g,sV];refine⟨v,W.drop M,_,du rfl c,?_,?_⟩
  ·rw[<-c,hu];exact aQ.le x (by omega)
  ·rcases u with rfl| ⟨j,z,rfl⟩
   ·exact .inl rfl
   ·exact .inr ⟨j,by omega,rfl⟩
def aQ.nq{N:Nat}{H:List ae}{ty:TypeId}(h:aQ N H v sz ty af){cs:lA}{tg:Option TypeId}(b:H[p]?=some (.box cs tg)){o:ae}:aQ N (H.set p o) v sz ty af:=by
 obtain⟨a,c⟩:=h;refine⟨a,?_⟩
 grind
def jJ{N:Nat}{H:List ae}{ty:TypeId}{g:α->lA}(h:aQ N H v sz ty (l.map g))(lo:oN):Rd ⟨H,lo⟩ v sz (l.map g):=h.rd
def LC(t:av)(a:bP t)(c:cu t)(h:Nat)(b:h<4294967296)(N:Nat)(H:List ae)(d:H.length=N)(lo:oN):
  ∃v J aj,D X (.fn (.func 167) [] []) [.agg (aN t),.int .u32 h] ⟨H,lo⟩=some (.ret v ⟨H++J,aj⟩)/\aQ N (H++J) v 1 bY ((under t h).map hC)/\ (aj=lo\/ ∃j,N<=j/\aj=cJ lo j):=by
 obtain⟨v,J,aj,f,e⟩:=asI t a c h b N H d lo;exact⟨v,J,aj,qE (p:=Cx) rfl f,e⟩
def eH.of{N:Nat}(h:aj=Option.none\/ ∃j,N<=j/\aj=cJ Option.none j):eH N aj:=by trivial
def eH.le{N M:Nat}(h:eH N lo)(a:M<=N):eH M lo:=by
 rcases h with h| ⟨j,q,e⟩
 ·exact .inl h
 ·exact .inr ⟨j,by omega,e⟩
def LD{t:av}(b:bP t)(a:x∈under t h):t.az x=true:=by
 unfold under at a;split at a
 ·rename_i c;exact Co b.b c a
 grind
def F9{t:av}(a:cu t)(h:Nat): (under t h).length<=39135393:=by
 unfold under;split
 ·exact S1 a h
 ·simp
def asJ:gh df:=⟨by trivial,by trivial,by trivial,by simp[df],by trivial,by trivial⟩
def bP.drop{t:av}(a:bP t)(h:Nat):bP (gv t h).1:=by
 unfold gv;split
 ·refine⟨FW a.b h,λi=>?_⟩;show gh (ar t.r (aL h) df i);by_cases e:i=aL h
  ·rw[e,cF];exact asJ
  ·rw[da e];exact a.r i
 omega
def iZ(t:av)(l:lN):av:=l.foldl (λt x=>(gv t x).1) t
theorem ahs{t:av}(a:bP t): ∀l:lN,bP (iZ t l)
 | []=>a
 |x::xs=>ahs (a.drop x) xs
def asK{t:av}{l:lN}{k:Nat}(h:k<l.length):iZ t (l.take (k+1))=(gv (iZ t (l.take k)) (l.getD k default)).1:=by
 unfold iZ;rw[afX,aep h,amz,getD_eq h];rfl
def ju{N:Nat}{H:List ae}(b:eH N aj)(a:v.refs<=N):finish N lo v ⟨H,aj⟩=(v,⟨H.take N,lo⟩):=vK b ((Fz.low (d:=11) a))
def Ga{N:Nat}{H:List ae}{ty:TypeId}(b:eH N aj)(h:aQ N H v sz ty af)(a:b9 af<=N):finish N lo v ⟨H,aj⟩=(bu v af,⟨H.take N,lo⟩):=
 vK b ((Fz.own (d:=8) h a))
def aht{N:Nat}{a b:AV}{H:List ae}{ty:TypeId}(e:eH N aj)(h:aQ N H v sz ty af)(c:b9 af<=N)(g:a.refs<=N)(f:b.refs<=N):
  finish N lo (.aw [a,v,b]) ⟨H,aj⟩=(.aw [a,bu v af,b],⟨H.take N,lo⟩):=
 vK e (Fz.aw (d:=11) (ir.cons ((Fz.low (d:=0) g).mono (by omega)) (ir.cons ((Fz.own (d:=0) h c).mono (by omega)) (ir.cons ((Fz.low (d:=0) f).mono (by omega)) ir.nil))))
def asL(t:av)(y:bP t)(I:cu t)(h:Nat)(P:h<4294967296)(H:List ae)(lo:oN):
  ∃w,D X (.fn (.func 292) [] []) [.agg (aN t),.int .u32 h] ⟨H,lo⟩=some (.ret (.aw [.agg (aN (j6 t h).1),w,.int .i64 (j6 t h).2.2]) ⟨H,lo⟩):=by
 suffices O: ∃l,D X (.fn (.func 292) [] []) [.agg (aN t),.int .u32 h] ⟨H,lo⟩=some l/\ (λl=> ∃w,l=aU.ret (.aw [.agg (aN (j6 t h).1),w,.int .i64 (j6 t h).2.2]) ⟨H,lo⟩) l by
  obtain⟨l,R,w,rfl⟩:=O;exact⟨w,R⟩
 refine cE KX λN d=>?_
 obtain⟨v,J,x,r,q,C⟩:=LC t y I h P (N+2) (H++[.box (aN t) none,.box lE none]) (by simp[d]) none;have M:=F9 I h;have a:=(jJ q x).bS;obtain⟨W0,b⟩: ∃W0,W0=H++[ae.box (aN t) none,.box lE none]++J:=⟨_,rfl⟩;have w0:W0[N]?=some (.box (aN t) none):=by rw[b,adV,dB d];rfl
 have w1:W0[N+1]?=some (.box lE none):=by rw[b,adV,bE d];rfl
 have c:iQ N H W0:=by rw[b,adV];exact iQ.app d
 rw[<-b]at r q a;by_cases he:under t h=[]
 ·have e1:j6 t h=(t,[],4):=by unfold j6;rw[adY he]
  have B: ((under t h).length:Int)=0:=by rw[he];rfl
  rw[e1];simp only[go_sem,simprocAttr,KX,d,r,a,B,w0,w1,c9,cG w1];rw[ju (eH.le (eH.of C) (by omega)) ?_]
  ·exact⟨_,du rfl ((c.set (by omega)).take d)⟩
  ·simp[AV.refs,aK,xM]
 ·have B: ¬((under t h).length:Int)=0:=by
    have:=aAQ.2 he;omega
  simp only[go_sem,simprocAttr,KX,d,r,a,B];refine iq (under t h).length (λk e p aj=>iQ N H p/\p[N]?=some (.box (aN (iZ t ((under t h).take k))) none)/\p[N+1]?=some (.box lE none)/\aQ (N+2) p v 1 bY ((under t h).map hC)/\eH (N+2) aj/\
   e 2= .ptr N 0/\e 4= .ptr (N+1) 0/\e 7=v/\e 17=v/\e 18= .int .i64 (under t h).length/\e 19= .int .i64 k) 0 (by omega) ?_ ?_
  ·simp only[go_sem,simprocAttr];exact⟨c,w0,w1,q,eH.of C⟩
  rintro k U e S u ⟨F,o,m,s,E,L,K,e7,j,i,g⟩ n T;have A:=ahs y ((under t h).take k);simp only[bX,go_sem,simprocAttr,afn,L,j,i,g];refine⟨λQ=>?_,λQ=>?_⟩
  ·have f:k< (under t h).length:=by omega
   have G:=jJ s u;have z:=λH lo=>up dD<|arM (iZ t ((under t h).take k)) A ((under t h).getD k default) (fU (LD y (fx f))) H lo
   simp(disch:=omega) only[go_sem,simprocAttr,G.cp,G.c7,↓pH,o,z,S6,L,K,e7,j,i,g,<-asK f];exact⟨by omega,f,F.set (by omega),cG o,m,aQ.nq s o,E⟩
  ·simp only[go_sem,simprocAttr,o,m,K,e7,c9,cG m];obtain rfl:k=(under t h).length:=by omega
   have ho:aQ N (S.set (N+1) (ae.box (aN (iZ t ((under t h).take (under t h).length))) none)) v 1 bY ((under t h).map hC):=aQ.nq (aQ.le s (by omega)) m;rw[aht (eH.le E (by omega)) ho ?_ ?_ ?_]
   ·refine⟨bu v ((under t h).map hC),du ?_ ((F.set (by omega)).take d)⟩;unfold j6;rw[adU he,afK];rfl
   ·rw[bB (λ_=>rfl)];omega
   ·simp[AV.refs,xM]
   ·simp[AV.refs]
def RB(l:List aC):Prop:=l.length<=100/\ ∀x∈l,x.1<4294967296/\x.2<4294967296
def LF{l:List aC}{k:Nat}(h:k<l.length):aI (l.take (k+1))=aI (l.take k)+(l.getD k default).2:=by
 unfold aI;rw[afX,aep h,afI,List.sum_append,afQ,aep h];simp
def asM{l:List aC}(h: ∀x∈l,x.2<4294967296):aI l<=l.length*4294967296:=by
 exact S0 (λx:aC=>x.2) 4294967296 l λx a=>Nat.le_of_lt (h x a)
def RB.bd{l:List aC}(h:RB l)(k:Nat):aI (l.take k)<=429496729600:=by
 have c:=asM (l:=l.take k) λx a=>(h.2 x (aiy a)).2
 have b: (l.take k).length<=100:=by have:=h.1;grind
 omega
def RB.jg{l:List aC}(h:RB l):aI l<=429496729600:=by
 have:=h.bd l.length;grind
def xW(l:List aC):List lA:=(List.range l.length).map λi=>[.int .i64 (32*aI (l.take i):Nat),.agg (aA (l.getD i default))]
def Gb(l:List aC): (xW l).length=l.length:=by simp[xW]
def Ty{l:List aC}(h:j<l.length): (xW l)[j]?=some [.int .i64 (32*aI (l.take j):Nat),.agg (aA (l.getD j default))]:=by
 unfold xW;grind
def ahu(v:AV)(n:Nat)(b:v.refs=0)(N:Nat)(H:List ae)(c:H.length=N)(lo:oN):D X0 (.fn (.func 84) [] []) [.agg [v,.int .i64 n]] ⟨H,lo⟩=some (.ret (.fn (.func 114) [] [.ptr N 0]) ⟨H++[.box [v,.int .i64 n] none],lo⟩):=by
 refine aH Qj λM a=>?_
 obtain rfl:M=N:=by omega
 simp only[go_sem,simprocAttr,Qj,a];rw[Ah (by omega)]
def ahv(v:AV)(z:Nat)(l:List aC)(E:Rv v 2 (l.map aA))(H:RB l)(a:Nat):
  vI X0 (.fn (.func 114) [] [.ptr a 0]) a [.box [v,.int .i64 z] none] (xW l):=by
 intro S V y I J b A t F W s hP h0 vL j hG lo;have Lu:=H.1;have f: ∀i,V.cA i->i<b:=λi hi=>(t i hi).1
 suffices h: ∃x,D X0 (.fn (.func 114) [] [.ptr a 0]) [y] ⟨W,lo⟩=some x/\
   (λx=> ∃d m aj,x=aU.ret (.aw []) ⟨m,aj⟩/\V.P d m/\ (I (xW l).length d\/J d)/\b<=m.length/\
     (∀i,i<b-> ¬V.cA i-> ¬(a<=i/\i<a+[ae.box [v,.int .i64 z] none].length)->m[i]?=W[i]?)/\lD V.c b lo aj none (V.row d)) x by
  obtain⟨x,h1,d,m,aj,rfl,q1,q2,Z,Y,X⟩:=h;exact⟨d,m,aj,h1,q1,q2,Z,Y,X⟩
 refine r7 Qv rfl rfl rfl λN hN=>?_
 obtain rfl:N=b:=by omega
 have u:W[a]?=some (.box [v,.int .i64 z] none):=hG 0 (by simp);simp only[go_sem,simprocAttr,Qv,u,E.bS];refine iq l.length (λk e m aj=> ∃d,I k d/\kx V N W (λi=>a<=i/\i<a+[ae.box [v,.int .i64 z] none].length) d m aj/\e 0=y/\e 3= .int .i64 (32*aI (l.take k):Nat)/\e 7=v/\e 8= .int .i64 l.length/\e 9= .int .i64 k) 0 (by omega) ?_ ?_
 ·simp only[go_sem,simprocAttr];exact⟨s,h0,⟨hP,by omega,λ_ _ _ _=>rfl,.inl ⟨rfl,j⟩,λr e=>by rw[j]at e;cases e⟩,by simp[aI]⟩
 rintro k hk e W1 C ⟨s1,Q,B,T,e3,e7,e8,R⟩ n P;simp only[bX,go_sem,simprocAttr,aeT,e7,e8,R];refine⟨λh=>?_,λh=>?_⟩
 ·have g:k<l.length:=by omega
  have vJ:=H.2 _ (fx g);have Tz:=H.bd k;have HA:=LF g;have hx:=Ty g;generalize G:l.getD k default=r at*;have p:=B.push A f [.box (aA r) none];obtain⟨c,s2,W2,m6,O,p2,M,p4,p5,L⟩:=F k _ s1 hx Q (W1++[.box (aA r) none]) p.P p.len C;have w:=p.step p2 M p4 p5;have Ly:N<=n:=by have:=B.len;omega
  have U:W2[n]?=some (.box (aA r) none):=by
   rw[M.2 n (by simp;omega) (λq=>by have:=f _ q;omega) (λq=>by have:=A.ID B.P q;omega)];rw[<-P];simp
  simp(disch:=omega) only[go_sem,simprocAttr,E.cp,E.c7,h,P,T,e3,G];cases c
  ·obtain⟨K,o,f1,f2,f3,f4,f5⟩:=w.fin A f (dS:=lo);simp only[go_sem,simprocAttr,O,f1];exact⟨s2,K,o,rfl,f2,.inr L,f3,f4,f5⟩
  ·simp(disch:=omega) only[go_sem,simprocAttr,T,e3,e7,e8,R,O,U];exact⟨g,s2,L,w,ahl _ (by omega)⟩
 ·obtain⟨K,o,f1,f2,f3,f4,f5⟩:=B.fin A f (dS:=lo);simp only[go_sem,simprocAttr,f1];exact⟨s1,K,o,rfl,f2,.inl (by rw[Gb,show l.length=k by omega];exact Q),f3,f4,f5⟩
theorem LG{r:aC}:aM [AV.int .i64 0,.int .i64 0] 0 (aA r)=aA r:=rfl
def Gc(v:AV)(n:Nat)(l:List aC)(w:Rv v 2 (l.map aA))(g:RB l)(H:List ae)(lo:oN):
  D X0 (.fn (.func 45) [] []) [.agg [v,.int .i64 n]] ⟨H,lo⟩=some (.ret (.int .i64 (aI l:Nat)) ⟨H,lo⟩):=by
 refine aH P3 λN u=>?_
 have d:v.refs=0:=cY w (bB (λ_=>rfl) l);have F:=ahu v n d (N+2) (H++[.box [v,.int .i64 n] none,.box [.int .i64 0] none]) (by grind) none;simp only[go_sem,simprocAttr,P3,u,F];refine zk (S:=Nat) (λe=>e 3= .ptr (N+1) 0) (by rfl) (xW l) u [.box [v,.int .i64 n] none] (λm=>[.box [v,.int .i64 n] none,.box [.int .i64 (m:Nat)] none]) (nB:=2) (λ_=>rfl) 0 (λj s=>s=aI (l.take j)) (λ_ _=>False) rfl ?_ (by simp) (by rfl) (λ_ _ h=>h.elim) ?_ ?_ ?_
 ·exact ahv v n l w g (N+2)
 ·rintro e he j x s c rfl;have k:j<l.length:=by
   have:=(adg.1 c).1;rwa[Gb]at this
  rw[Ty k]at c;cases c;have y:=g.2 _ (fx k);have z:=g.bd j;have f:=LF k;refine⟨rfl,λW I C A q=>?_⟩;simp only[go_sem,simprocAttr,hU,C,LG];refine⟨[.box (aA (l.getD j default)) none],rfl,λG t b=>?_⟩;simp only[gr,gq,anX,afM]at b;obtain⟨w0,w1⟩:=b;have f1: ∀L,(G++L)[N+1]?=some (.box [.int .i64 (aI (l.take j):Nat)] none):=λL=>aZ w1
  simp(disch:=omega) only[go_sem,simprocAttr,aeE,he,f1,t,rq];refine⟨aI (l.take (j+1)),?_,by omega,λi K B=>?_,rfl⟩
  ·simp only[gr,gq,anX,afM];refine⟨by rw[adb (by omega)];exact aZ w0,?_⟩;rw[afD (by simp;omega),f,anW]
  ·rw[adb (by omega),adf (by omega)]
 ·rintro e he s W p J rfl a q E;simp only[gr,gq,anX,afM]at q;obtain⟨w0,w1⟩:=q;have r: ∀o,(W.set p o).take N=H:=λo=>(a.set (by omega)).take u
  simp only[F1,go_sem,simprocAttr,he,w1,E,nm,r];rw[Gb,afK]
 grind
def iC(n:Nat):lA:=[.int .i64 n]
theorem pI:Den.part false 1 (iC n) 0=some (.int .i64 n):=rfl
def asN(v:AV)(l:lN)(b:Rv v 1 (l.map iC))(q:l.length<2^40)(x:Nat)(H:List ae)(lo:oN):
  D X0 (.fn (.func 335) [] []) [v,.int .i64 x] ⟨H,lo⟩=some (.ret (.int .i64 (j9 (λy=>decide (x=y)) l)) ⟨H,lo⟩):=by
 refine aH Sh λN t=>?_
 simp only[go_sem,simprocAttr,Sh,b.bS];refine eG l.length (λk e H'=>H'=H/\e 0=v/\e 1= .int .i64 x/\e 7= .int .i64 l.length/\e 8= .int .i64 k/\ ∀j,j<k->decide (x=l.getD j default)=false) 0 (by omega) ?_ ?_
 ·simp only[go_sem,simprocAttr];omega
 ·rintro k r e H' ⟨rfl,o,m,i,g,f⟩ n p;simp(disch:=omega) only[bX,F1,go_sem,simprocAttr,afv,o,m,i,g];refine⟨λh=>?_,λh=>?_⟩
  ·have c:k<l.length:=by omega
   by_cases d:x=l.getD k default
   ·have a: ((x:Nat):Int)=((l.getD k default:Nat):Int):=by rw[<-d]
    simp(disch:=omega) only[F1,go_sem,simprocAttr,b.cp,b.c7,↓pI,a];rw[Ad c f (aet d)];exact⟨by omega,rfl⟩
   ·have a: ¬((x:Nat):Int)=((l.getD k default:Nat):Int):=by omega
    simp(disch:=omega) only[go_sem,simprocAttr,b.cp,b.c7,↓pI,a,o,m,i,g];exact⟨by omega,c,pa f (aeq d)⟩
  ·rw[Ae (λj s=>f j (by omega))]
def asO(v:AV)(l:lN)(a:Rv v 1 (l.map iC))(b:l.length<2^40)(x:Nat)(H:List ae)(lo:oN):
  D X0 (.fn (.func 323) [] []) [v,.int .i64 x] ⟨H,lo⟩=some (.ret (.bool (l.contains x)) ⟨H,lo⟩):=by
 refine aH Sa λN c=>?_
 simp only[F1,go_sem,simprocAttr,Sa,asN v l a b x,Ac]
 grind
def ahw(a b:Nat)(h:a<2147483648)(g:b<2147483648)(H:List ae)(lo:oN):
  D X0 (.fn (.func 287) [] []) [.int .i64 a,.int .i64 b] ⟨H,lo⟩=some (.ret (.bool (isObj a b)) ⟨H,lo⟩):=by
 refine aH FH λN f=>?_
 have e:=asO (.sl [[.int .i64 1],[.int .i64 2],[.int .i64 4],[.int .i64 8]] true) [1,2,4,8] (.sl (by simp)) (by simp) b H none;by_cases c: (a:Int)>=1
 ·by_cases d: (a:Int)<=128
  ·simp only[F1,go_sem,simprocAttr,FH,c,d,e];unfold isObj
   grind
  ·simp(disch:=omega) only[F1,go_sem,simprocAttr,FH,c,d];refine du (ahl AV.bool ?_) rfl;unfold isObj;rw[aeq (by omega: ¬a<=128)];simp
 ·simp(disch:=omega) only[F1,go_sem,simprocAttr,FH,c];refine du (ahl AV.bool ?_) rfl;unfold isObj;rw[aeq (by omega: ¬1<=a)];simp
theorem Gd: ∀ (l:List aC) (x:aC) (put:Bool) (out a:List aC),x.1+x.2<=64->(∀y∈l,y.1+y.2<=64)->(∀y∈out,y.1+y.2<=64)->gu x put out l=some a->
  (∀y∈a,y.1+y.2<=64)/\a.length<=out.length+l.length+(if put then 0 else 1)
 | [],x,put,out,a,e,_,ho,h=>by
   unfold gu at h
   grind
 |y::ys,x,put,out,a,e,g,ho,h=>by
  have i:=g y (ahi ..);have b: ∀z∈ys,z.1+z.2<=64:=λz d=>g z (afO _ d)
  unfold gu at h;split at h
  ·obtain⟨c,f⟩:=Gd ys x put _ a e b (λz d=>by grind) h
   grind
  ·split at h
   ·obtain⟨c,f⟩:=Gd ys x true _ a e b (λz d=>by
      rcases aev.1 d with h|h
      ·rcases aev.1 h with h|h
       ·exact ho z h
       ·cases put
        ·simp only[afE,ai5]at h;rw[afC.1 h];exact e
        ·simp at h
      ·rw[afC.1 h];exact i) h
    refine⟨c,?_⟩;cases put<;>simp only[aer,afL,anJ,ag6,ai5,afE]at f⊢ <;>omega
   ·split at h
    ·obtain⟨c,f⟩:=Gd ys _ put out a (by simp;omega) b ho h;exact⟨c,by simp only[afL];omega⟩
    ·split at h
     ·obtain⟨c,f⟩:=Gd ys _ put out a (by simp;omega) b ho h;exact⟨c,by simp only[afL];omega⟩
     ·cases h
def asP{x:aC}(h:j5 x=true):1<=x.2/\x.1+x.2<=64:=by
 unfold j5 at h;grind
def asQ{l a:List aC}{x:aC}(b: ∀y∈l,y.1+y.2<=64)(h:gM l x=some a): (∀y∈a,y.1+y.2<=64)/\a.length<=l.length+1:=by
 unfold gM at h;split at h
 ·rename_i hm;have:=Gd l x false [] a (asP hm).2 b (by simp) h
  grind
 grind
theorem LH: ∀ (a b all:List aC),nd all (a++b)=(nd all a).bind λm=>nd m b
 | [],b,all=>rfl
 |x::a,b,all=>by
  simp only[ahq,nd];cases gM all x with
  |none=>rfl
  |some m=>exact LH a b m
def asS{l:List aC}{k:Nat}(h:k<l.length)(a:List aC):nd a (l.take (k+1))=(nd a (l.take k)).bind λm=>gM m (l.getD k default):=by
 rw[afX,aep h,LH,afQ,aep h];simp only[Option.toList_some,nd,ak0]
 grind
def asT{l:List aC}{k:Nat}{a:List aC}(h:nd a (l.take k)=none):nd a l=none:=by grind [List.take_append_drop,LH]
def ahx(v:AV)(n:Nat)(l:List aC)(w:n<4294967296)(g:Rv v 2 (l.map aA))(s:RB l)(C:l.length<=65)(H:List ae)(lo:oN):
  D X0 (.fn (.func 212) [] []) [.agg [v,.int .i64 n]] ⟨H,lo⟩=some (.ret (.bool (qw l n)) ⟨H,lo⟩):=by
 refine aH Re λN E=>?_
 have r:=Gc v n l g s;have B:=s.jg;simp only[go_sem,simprocAttr,Re,E,g.bS];refine eG l.length (λk e H'=> ∃J A,H'=cat H (.box [v,.int .i64 n] none:: .box [ed A] none::J)/\nd [] (l.take k)=some A/\A.length<=k/\ (∀x∈A,x.1+x.2<=64)/\e 1= .ptr N 0/\e 3= .ptr (N+1) 0/\e 9=v/\e 10= .int .i64 l.length/\e 11= .int .i64 k) 0 (by omega) ?_ ?_
 ·simp only[go_sem,simprocAttr];exact⟨[],[],eo.symm,by simp[nd],by simp,by simp⟩
 rintro k I e H' ⟨J,A,rfl,t,F,o,e1,e3,y,q,p⟩ z w;have d: ∀a b,(cat H (a::b::J)).length=z:=λ_ _=>by rw[<-w,FR,FR];rfl
 simp(disch:=omega) only[bX,go_sem,simprocAttr,afc,e1,y,q,p];refine⟨λh=>?_,λh=>?_⟩
 ·have f:k<l.length:=by omega
  have i:=s.2 _ (fx f);have j:=ag5 (ed A) A (mz A) ⟨by omega,o⟩ (l.getD k default) i.1 i.2;have c:=asS f [];rw[t]at c;simp only[apP]at c;cases m:gM A (l.getD k default)with
  |none=>
   rw[m]at c;have u:qw l n=false:=by unfold qw;rw[asT c];rfl
   simp(disch:=first|omega|apply d) only[F1,go_sem,simprocAttr,g.cp,g.c7,h,d,e3,LG,j,qC,m,u,SB]
  |some A'=>
   rw[m]at c;obtain⟨G,K⟩:=asQ o m;simp(disch:=first|omega|apply d) only[go_sem,simprocAttr,g.cp,g.c7,h,d,e1,e3,y,q,p,LG,j,qC,m,SB];exact⟨f,_,A',Sw,c,by omega,G⟩
 ·obtain rfl:k=l.length:=by omega
  rw[afK]at t;have u:qw l n=decide (n<=aI l*32):=by unfold qw;rw[t];rfl
  simp(disch:=first|omega|apply d) only[F1,go_sem,simprocAttr,r];rw[u];exact du (ahl AV.bool (afR.2 (by omega))) rfl
def asU(a k:Nat)(e:a<4611686018427387904)(g:k<=3): (BitVec.ofInt 64 (a:Int)&&& ~~~ (BitVec.ofInt 64 ((2^k:Nat)-1:Int))).toNat=a/2^k*2^k:=by
 have e1:BitVec.ofInt 64 (a:Int)=BitVec.ofNat 64 a:=by simp
 have f:BitVec.ofInt 64 ((2^k:Nat)-1:Int)=BitVec.ofNat 64 (2^k-1):=by
  have: ((2^k:Nat)-1:Int)=((2^k-1:Nat):Int):=by
   have:=Nat.pow_pos (n:=k) (show 0<2 by omega);omega
  rw[this];simp
 rw[e1,f];apply Nat.eq_of_testBit_eq;intro i;rw[<-Nat.shiftLeft_eq,Nat.testBit_shiftLeft,Nat.testBit_div_two_pow,BitVec.testBit_toNat,BitVec.getLsbD_and,BitVec.getLsbD_not,BitVec.getLsbD_ofNat,BitVec.getLsbD_ofNat,Nat.testBit_two_pow_sub_one];by_cases b:i<64
 ·by_cases c:i<k
  ·simp[b,c];intro d;omega
  ·simp[b,c,show k<=i by omega,show i-k+k=i by omega]
 ·have:a.testBit i=false:=Nat.testBit_lt_two_pow (ai6 e (by
    have: (4611686018427387904:Nat)=2^62:=by decide
    rw[this];exact Nat.pow_le_pow_right (by omega) (by omega)))
  by_cases c:k<=i
  ·simp[b,c,show i-k+k=i by omega,this]
  ·simp[b,c]
def asV(f:a<4611686018427387904)(h: [1,2,4,8].contains b=true):dA .andNot (.int .i64 (a:Nat)) (.int .i64 ((b:Nat)-1))=some (.int .i64 (a/b*b:Nat)):=by
 have c: ∀k,k<=3->b=2^k->dA .andNot (.int .i64 (a:Nat)) (.int .i64 ((b:Nat)-1))=some (.int .i64 (a/b*b:Nat)):=by
  intro k d e;subst e;rw[Oz];have e3:=asU a k f d;have g: (BitVec.ofInt IntKind.i64.bits (a:Int)&&& ~~~ (BitVec.ofInt IntKind.i64.bits ((2^k:Nat)-1:Int))).toNat=a/2^k*2^k:=e3;rw[g];have i:a/2^k*2^k<=a:=Nat.div_mul_le_self a _;rw[wrap_i64 (by omega) (by omega)]
 have:b=1\/b=2\/b=4\/b=8:=by grind
 rcases this with e|e|e|e
 ·exact c 0 (by omega) e
 ·exact c 1 (by omega) e
 ·exact c 2 (by omega) e
 ·exact c 3 (by omega) e
def asW(h:isObj b a=true):1<=b/\b<=128/\ [1,2,4,8].contains a=true/\1<=a/\a<=8:=by
 unfold isObj at h
 grind
def xX(l:List aC)(n b a:Nat):AV:=.aw [.int .i64 ((gy l n b a).getD 0:Nat),.bool (gy l n b a).isSome]
def ahy(v:AV)(n:Nat)(l:List aC)(y:n<4294967296)(o:Rv v 2 (l.map aA))(j:RB l)(c b:Nat)(s:c<2147483648)(r:b<2147483648)(H:List ae)(lo:oN):
  D X0 (.fn (.func 252) [] []) [.agg [v,.int .i64 n],.int .i64 c,.int .i64 b] ⟨H,lo⟩=some (.ret (xX l n c b) ⟨H,lo⟩):=by
 refine aH FB λN i=>?_
 have h:=Gc v n l o j;have p:=j.jg;have ho:=ahw c b s r;cases d:isObj c b with
 |false=>
  have e:gy l n c b=none:=by unfold gy;rw[d];rfl
  simp only[F1,go_sem,simprocAttr,FB,i,ho,d,xX,e]
 |true=>
  obtain⟨x,w,m,u,t⟩:=asW d;have g:D X0 (.fn (.func 288) [] [.ptr (N+1) 0]) [.int .i64 n] ⟨H++[.box [v,.int .i64 n] none,.box [.int .i64 b] none],none⟩=some (.ret (.int .i64 ((n+b-1)/b*b:Nat)) ⟨H++[.box [v,.int .i64 n] none,.box [.int .i64 b] none],none⟩):=by
   refine fB RM λM A=>?_
   have e1: (n:Int)+b-1=((n+b-1:Nat):Int):=by omega
   simp(disch:=omega) only[F1,go_sem,simprocAttr,RM,e1,asV (a:=n+b-1) (by omega) m]
  have z: (n+b-1)/b*b<=n+b-1:=Nat.div_mul_le_self _ _;have e:gy l n c b=if(n+b-1)/b*b+c<=aI l*32 then some ((n+b-1)/b*b)else none:=by unfold gy;rw[d];rfl
  generalize q: (n+b-1)/b*b=at' at*;by_cases k:at'+c<=aI l*32
  ·have f: ¬(at':Int)+c>aI l*32:=by omega
   rw[adY k]at e;simp(disch:=omega) only[F1,go_sem,simprocAttr,FB,i,ho,d,g,h,f,xX,e]
  ·have f: (at':Int)+c>aI l*32:=by omega
   rw[adU k]at e;simp(disch:=omega) only[F1,go_sem,simprocAttr,FB,i,ho,d,g,h,f,xX,e]
def wm(l:List aC)(n b c:Nat):Nat:=match gy l n b c with|some a=>a+b|none=>n
def ahz(v:AV)(n:Nat)(l:List aC)(k:n<4294967296)(f:Rv v 2 (l.map aA))(g:RB l)(c b:Nat)(o:c<2147483648)(m:b<2147483648)(H:List ae)(lo:oN):
  D X0 (.fn (.func 254) [] []) [.agg [v,.int .i64 n],.int .i64 c,.int .i64 b] ⟨H,lo⟩=some (.ret (.aw [.agg [v,.int .i64 (wm l n c b:Nat)],.int .i64 ((gy l n c b).getD 0:Nat),.bool (gy l n c b).isSome]) ⟨H,lo⟩):=by
 refine aH KM λN i=>?_
 have h:=ahy v n l k f g c b o m;have d:v.refs=0:=cY f (bB (λ_=>rfl) l);have j:=g.jg;cases e:gy l n c b with
 |none=>simp only[F1,go_sem,simprocAttr,KM,i,h,xX,e,wm,d]
 |some a=>
  have p:a<=20000000000000:=by
   unfold gy at e
   grind
  simp(disch:=omega) only[F1,go_sem,simprocAttr,KM,i,h,xX,e,wm,d,anW]
def asX(a b:Nat)(f:a<2147483648)(d:b<2147483648)(H:List ae)(lo:oN):
  D X0 (.fn (.func 250) [] []) [.int .i64 a,.int .i64 b] ⟨H,lo⟩=some (.ret (.aw [.int .i64 ((nh a b).getD 0:Nat),.bool (nh a b).isSome]) ⟨H,lo⟩):=by
 refine aH KK λN g=>?_
 have ho:=ahw a b f d;cases c:isObj a b with
 |false=>
  have e:nh a b=none:=by unfold nh;grind
  simp(disch:=omega) only[F1,go_sem,simprocAttr,KK,ho,c,e]
 |true=>
  have e:nh a b=some ((a+31)/32):=by unfold nh;grind
  have e1: ((a:Int)+32-1).tdiv 32=(((a+31)/32:Nat):Int):=by
   rw[Int.tdiv_eq_ediv_of_nonneg (by omega)];omega
  simp(disch:=omega) only[F1,go_sem,simprocAttr,KK,ho,c,e,e1]
def asY{H:List ae}{bytes:Nat}{ty:TypeId}{ys:List lA}(a:0<sz)(d: ∀el∈ys,el.length=sz)(b:ys≠[])(c:ys.length*bytes<=room):
  dJ ⟨H,lo⟩ ty sz bytes .aq ys=some (.ref H.length 0 sz 0 ys.length false,⟨H++[.row 0 sz ty ys],lo⟩):=by
 unfold dJ;rw[adY ⟨a,by grind⟩];rw[adU (by grind),adY c];rfl
def asZ{H:List ae}{bytes:Nat}{ty:TypeId}{ys:List lA}(a:0<sz)(e: ∀el∈af,el.length=sz)(d: ∀el∈ys,el.length=sz)(b:ys≠[])(c: (af.length+ys.length)*bytes<=room):
  dJ ⟨H,lo⟩ ty sz bytes (.sl af true) ys=some (.ref H.length 0 sz 0 (af.length+ys.length) false,⟨H++[.row 0 sz ty (af++ys)],lo⟩):=by
 unfold dJ;rw[adY ⟨a,by grind⟩];simp only;rw[adU (by grind),adY ⟨c,by grind⟩];rfl
def Cy(v:AV):AV:=match v with
 |.sl af _=>.sl af true
 |v=>v
def as0(v:AV)(l:List aC)(d:Rv v 2 (l.map aA))(H:List ae)(lo:oN):
  D X0 (.fn (.func 289) [] []) [v] ⟨H,lo⟩=some (.ret (Cy v) ⟨H,lo⟩):=by
 refine aH KW λN i=>?_
 obtain⟨h,a,j⟩:=d ⟨[],none⟩;have f:=bB (g:=aA) (λ_=>rfl) l;cases v<;>simp only[]at h
 ·have b:gE 2 .aq none (some (.int .i64 0)) (some (.int .i64 0))=some .aq:=by rfl
  simp(disch:=omega) only[F1,go_sem,simprocAttr,KW,b,Cy]
 ·rename_i af c;simp only[Den.elems]at a;split at a
  ·cases a;have e:gE 2 (.sl (l.map aA) c) none (some (.int .i64 (l.length:Nat))) (some (.int .i64 (l.length:Nat)))=some (.sl (l.map aA) true):=by
    simp[gE,gC,mc,me,aA];exact aes (by simp)
   simp(disch:=omega) only[F1,go_sem,simprocAttr,KW,e,afB,f,aeu,Cy]
  grind
 ·simp[Den.elems]at a
def as1(v:AV)(n:Nat)(l:List aC)(k:Rv v 2 (l.map aA))(s:RB l)(r:aC)(H:List ae)(lo:oN):
  D X0 (.fn (.func 253) [] []) [.agg [v,.int .i64 n],.agg (aA r)] ⟨H,lo⟩=some (.ret (.agg [ed (l++[r]),.int .i64 (aI l*32:Nat)]) ⟨H,lo⟩):=by
 refine aH Rw λN m=>?_
 have p:=Gc v n l k s;have w:=s.jg;have y:=s.1;have u:v.refs=0:=cY k (bB (λ_=>rfl) l);have z:=as0 v l k;obtain⟨id,j⟩: ∃id,(H++[ae.box [v,.int .i64 n] none,.box (aA r) none,.box [.aq,.int .i64 0] none]).length=id:=⟨_,rfl⟩;have t: ∀lo,dJ ⟨H++[ae.box [v,.int .i64 n] none,.box (aA r) none,.box [.aq,.int .i64 0] none],lo⟩ eZ 2 16 (Cy v) [aA r]=some (.ref id 0 2 0 (l.length+1) false,⟨H++[ae.box [v,.int .i64 n] none,.box (aA r) none,.box [.aq,.int .i64 0] none]++[.row 0 2 eZ (l.map aA++[aA r])],lo⟩):=by
  intro lo;obtain⟨A,b,B⟩:=k ⟨[],none⟩;rw[<-j];cases v<;>simp only[]at A
  ·simp only[Den.elems]at b;have:l=[]:=by
    have:=(akn b).symm;exact aqh.1 this
   subst this;rw[show Cy .aq= .aq from rfl,asY (by omega) (λel a=>by rw[afC.1 a];rfl) (by simp) (by simp[room])];rfl
  ·simp only[Den.elems]at b;split at b
   ·cases b;rw[show ∀c,Cy (.sl (l.map aA) c)= .sl (l.map aA) true fromλ_=>rfl,asZ (by omega) (λel a=>by obtain⟨x,_,rfl⟩:=afH.1 a;rfl) (λel a=>by rw[afC.1 a];rfl) (by simp) (by simp[room];omega)];simp
   ·cases b
  ·simp[Den.elems]at b
 have i:id=N+3:=by rw[<-j];simp[m]
 subst i;simp(disch:=omega) only[go_sem,simprocAttr,Rw,m,z,t,p];have q:eH N (if N+1<=N then none else cJ none (N+2)):=by rw[adU (by omega)];exact .inr ⟨N+2,by omega,rfl⟩
 have f:aQ N (H++[ae.box [v,AV.int IntKind.i64 ↑n] none,ae.box (aA r) none,ae.box [AV.ref (N+3) 0 2 0 (l.length+1) false,AV.int IntKind.i64 (↑(aI l)*32)] none,ae.row 0 2 eZ (List.map aA l++[aA r])]) (.ref (N+3) 0 2 0 (l.length+1) false) 2 eZ (l.map aA++[aA r]):=by
  refine⟨λel a=>?_,.inr ⟨N+3,0,by omega,by simp,?_⟩⟩
  ·rcases aev.1 a with h|h
   ·obtain⟨x,_,rfl⟩:=afH.1 h;rfl
   ·rw[afC.1 h];rfl
  ·rw[bE m];rfl
 have o:b9 (l.map aA++[aA r])=0:=by
  have:=bB (g:=aA) (λ_=>rfl) (l++[r]);rwa[afI]at this
 rw[vK q (Fz.agg (d:=11) (ir.cons (Fz.mono (Fz.own (d:=0) f (by rw[o];omega)) (by omega)) (ir.cons (Fz.mono (Fz.low (d:=0) (v:=.int .i64 (↑(aI l)*32)) (by simp[AV.refs])) (by omega)) ir.nil)))];refine du ?_ (m5 m);have e:ed (l++[r])= .sl (l.map aA++[aA r]) false:=by
  unfold ed;have: (l++[r]).isEmpty=false:=by cases l<;>rfl
  rw[this];simp
 rw[e,Int.natCast_mul];rfl
def LJ(l:List aC)(x:Nat):AV:=.aw [.int .i64 ((kO l 0 x).getD 0:Nat),.bool (kO l 0 x).isSome]
theorem ahA(r:aC)(l:List aC)(b x:Nat):kO (r::l) b x=if b<=x/\x<b+r.2*32 then some (r.1*32+x-b)else kO l (b+r.2*32) x:=rfl
def as2(v:AV)(n:Nat)(l:List aC)(T:Rv v 2 (l.map aA))(M:RB l)(x:Nat)(hx:x<1099511627776)(H:List ae)(lo:oN):
  D X0 (.fn (.func 176) [] []) [.agg [v,.int .i64 n],.int .i64 x] ⟨H,lo⟩=some (.ret (LJ l x) ⟨H,lo⟩):=by
 refine aH QZ λN F=>?_
 have K:v.refs=0:=cY T (bB (λ_=>rfl) l);have ha:=ahu v n K (N+4) (H++[.box [v,.int .i64 n] none,.box [.int .i64 x] none,.box [.int .i64 0] none,.box [.bool false] none]) (by simp[F]) none;simp only[go_sem,simprocAttr,QZ,F,ha];refine zk (S:=Nat×Bool) (λe=>e 3= .ptr (N+1) 0/\e 4= .ptr (N+2) 0/\e 5= .ptr (N+3) 0) (by simp only[go_sem,simprocAttr]) (xW l) F [.box [v,.int .i64 n] none] (λs=>[.box [v,.int .i64 n] none,.box [.int .i64 x] none,.box [.int .i64 (s.1:Nat)] none,.box [.bool s.2] none]) (nB:=4) (λ_=>rfl) (0,false)
  (λj s=>s=(0,false)/\kO l 0 x=kO (l.drop j) (32*aI (l.take j)) x) (λex s=>ex= .ret/\kO l 0 x=some s.1/\s.2=true) rfl ?_ (by simp) ⟨rfl,by simp[aI]⟩ (λex s h=>?_) ?_ ?_ ?_
 ·exact ahv v n l T M (N+4)
 ·exact⟨.ret,by rw[h.1];rfl,by rw[h.1];rfl,by rw[h.1];rfl⟩
 ·rintro e ⟨e3,I,G⟩ j y s J ⟨rfl,d⟩;have C:j<l.length:=by
   have:=(adg.1 J).1;rwa[Gb]at this
  rw[Ty C]at J;cases J;have vJ:=M.2 _ (fx C);have Tz:=M.bd j;have A:=LF C;have m:l.drop j=l.getD j default::l.drop (j+1):=by
   rw[anc C,afQ,aep C];rfl
  rw[m,ahA]at d;generalize hrg:l.getD j default=r at*;refine⟨rfl,λW n' hn hnl w=>?_⟩;simp only[go_sem,simprocAttr,hU,hn,LG];refine⟨[.box (aA r) none],rfl,λR q E=>?_⟩;simp only[gr,gq,anX,afM,Nat.reduceAdd]at E;obtain⟨w0,w1,k,u⟩:=E;have f1: ∀L,(R++L)[N+1]?=some (.box [.int .i64 x] none):=λL=>aZ w1
  have f2: ∀L,(R++L)[N+2]?=some (.box [.int .i64 (0:Nat)] none):=λL=>aZ k
  have f3: ∀L,(R++L)[N+3]?=some (.box [.bool false] none):=λL=>aZ u
  by_cases X:32*aI (l.take j)<=x
  ·have g: (x:Int)>=((32*aI (l.take j):Nat):Int):=by omega
   by_cases V:x<32*aI (l.take j)+r.2*32
   ·have t: (x:Int)< ((32*aI (l.take j):Nat):Int)+r.2*32:=by omega
    rw[adY ⟨X,V⟩]at d;have z: (r.1:Int)*32+x- ((32*aI (l.take j):Nat):Int)=((r.1*32+x-32*aI (l.take j):Nat):Int):=by omega
    simp(disch:=omega) only[go_sem,simprocAttr,Kz,e3,I,G,f1,f2,f3,q,g,t,z,aqP];refine⟨(r.1*32+x-32*aI (l.take j),true),?_,by omega,λi U B=>?_,d,rfl⟩
    ·simp only[gr,gq,anX,afM,Nat.reduceAdd];refine⟨?_,?_,?_,?_⟩
     ·rw[adb (by omega),adb (by omega)];exact aZ w0
     ·rw[adb (by omega),adb (by omega)];exact f1 _
     ·rw[adb (by omega),afD (by simp;omega)]
     ·rw[afD (by simp;omega)]
    ·rw[adb (by omega),adb (by omega),adf (by omega)]
   ·have t: ¬(x:Int)< ((32*aI (l.take j):Nat):Int)+r.2*32:=by omega
    rw[adU (λh=>V h.2)]at d;simp(disch:=omega) only[go_sem,simprocAttr,Kz,e3,f1,q,g,t,rq];refine⟨(0,false),?_,by omega,λi U B=>adf (by omega),rfl,?_⟩
    ·simp only[gr,gq,anX,afM,Nat.reduceAdd];exact⟨aZ w0,f1 _,f2 _,f3 _⟩
    ·rw[d,A,Nat.mul_add,Nat.mul_comm 32 r.2]
  ·have g: ¬(x:Int)>=((32*aI (l.take j):Nat):Int):=by omega
   rw[adU (λh=>X h.1)]at d;simp only[go_sem,simprocAttr,Kz,e3,f1,q,g,rq];refine⟨(0,false),?_,by omega,λi U B=>adf (by omega),rfl,?_⟩
   ·simp only[gr,gq,anX,afM,Nat.reduceAdd];exact⟨aZ w0,f1 _,f2 _,f3 _⟩
   ·rw[d,A,Nat.mul_add,Nat.mul_comm 32 r.2]
 ·rintro e ⟨e3,I,G⟩ s W p hp ⟨rfl,d⟩ f w Q;simp only[gr,gq,anX,afM,Nat.reduceAdd]at w;obtain⟨w0,w1,k,u⟩:=w;rw[Gb,List.drop_length]at d;have e0:kO l 0 x=none:=d;have O: ∀a b c,(((W.set (N+2) a).set (N+3) b).set p c).take N=H:=λa b c=>(((f.set (by omega)).set (by omega)).set (by omega)).take F
  have s2:=cG (o:=.box [.int .i64 0] none) k;have Y: ∀a b,((W.set (N+2) a).set (N+3) b)[N+3]?=some b:=λa b=>afD (by rw[afN];exact ew u)
  have s2: ∀a b,((W.set (N+2) a).set (N+3) b)[N+2]?=some a:=λa b=>by rw[adb (by omega)];exact cG k
  simp(disch:=omega) only[F1,go_sem,simprocAttr,I,G,k,u,Q,nm,O,s2,Y,LJ,e0]
 ·rintro e ⟨e3,I,G⟩ ex s W p hp ⟨rfl,d,Z⟩ f w Q;simp only[gr,gq,anX,afM,Nat.reduceAdd]at w;obtain⟨w0,w1,k,u⟩:=w;have P: ∀o,(W.set p o).take N=H:=λo=>(f.set (by omega)).take F
  simp(disch:=omega) only[F1,go_sem,simprocAttr,I,G,k,u,Q,nm,P];refine du ?_ rfl;unfold LJ;rw[d,Z];rfl
def TA(t:av)(O:bP t)(U:cu t)(a b:Nat)(T:a<4294967296)(K:b<4294967296)(H:List ae)(lo:oN):
  D X0 (.fn (.func 295) [] []) [.agg (aN t),.int .u32 a,.int .u32 b] ⟨H,lo⟩=some (.ret (.bool (kN t a b)) ⟨H,lo⟩):=by
 refine aH FI λN q=>?_
 have B: ∀h,az t.b h=t.az h:=λh=>rfl
 have f:=eU t.b a T;have g:=eU t.b b K;simp only[B]at f g;cases y:t.az a
 ·rw[y]at f;simp only[F1,go_sem,simprocAttr,FI,q,f,kN,y,aho]
 ·rw[y]at f;cases A:t.az b
  ·rw[A]at g;simp only[F1,go_sem,simprocAttr,FI,q,f,g,kN,y,A,aho,aqw]
  ·rw[A]at g;have G:=Tj t b (N+3) (H++[.box (aN t) none,.box [.int .u32 a] none,.box [.bool (decide ((a:Int)=b))] none]) (by simp[q]) none;simp only[go_sem,simprocAttr,FI,q,f,g,G];have F:decide ((a:Int)=(b:Int))=decide (a=b):=afR.2 (by omega);refine zk (S:=Bool) (λe=>e 4= .ptr (N+1) 0/\e 7= .ptr (N+2) 0) (by simp only[go_sem,simprocAttr]) (oh t b) q [.box (aN t) none,.box [.int .u32 b] none] (λs=>[.box (aN t) none,.box [.int .u32 a] none,.box [.bool s] none]) (nB:=3) (λ_=>rfl) (decide ((a:Int)=b)) (λj s=>s=(decide (a=b)|| ((aT t b).take j).contains a)) (λ_ _=>False) rfl ?_ (by simp) (by simp[F]) (λ_ _ h=>h.elim) ?_ ?_ ?_
   ·exact Tk t O U b K (N+3)
   ·rintro e ⟨I,e7⟩ j x s M X;obtain⟨u,rfl,hu⟩:=To M;refine⟨rfl,λW n hn Q C=>?_⟩;simp only[go_sem,simprocAttr,hU];refine⟨[],by simp,λL l w=>?_⟩;simp only[gr,gq,anX,afM,Nat.reduceAdd]at w;obtain⟨w0,w1,m⟩:=w;have d: (decide (a=b)|| ((aT t b).take (j+1)).contains a)=(s||decide ((u:Int)=a)):=by
     rw[X,afX,hu];have:decide ((u:Int)=a)=decide (a=u):=afR.2 (by omega);rw[this];by_cases Z:a=b<;>by_cases Y:a=u<;>simp[Z,Y]
    have k: ∀z,(L.set (N+2) (.box [.bool z] none)).length=n->iP (L.set (N+2) (.box [.bool z] none)) N 0 [.box (aN t) none,.box [.int .u32 a] none,.box [.bool z] none]:=λz hl=>by
     simp only[gr,gq,anX,afM,Nat.reduceAdd];exact⟨by rw[adb (by omega)];exact w0,by rw[adb (by omega)];exact w1,cG m⟩
    cases s
    ·by_cases c: (u:Int)=a
     ·simp only[go_sem,simprocAttr,KZ,I,e7,w1,m,afW,rq,c];exact⟨_,k _ (by rw[afN];exact l),λi J v=>adb (by omega),by rw[d];simp[c]⟩
     ·simp only[go_sem,simprocAttr,KZ,I,e7,w1,m,afW,rq,c];exact⟨_,k _ (by rw[afN];exact l),λi J v=>adb (by omega),by rw[d];simp[c]⟩
    ·simp only[go_sem,simprocAttr,KZ,e7,m,afW,rq];exact⟨_,k _ (by rw[afN];exact l),λi J v=>adb (by omega),by rw[d];simp⟩
   ·rintro e ⟨I,e7⟩ s W p P rfl r C R;simp only[gr,gq,anX,afM,Nat.reduceAdd]at C;obtain⟨w0,w1,m⟩:=C;have E: ∀o,(W.set p o).take N=H:=λo=>(r.set (by omega)).take q
    simp only[F1,go_sem,simprocAttr,e7,m,R,nm,E];rw[Tp,afK];refine du (ahl _ ?_) rfl;unfold kN;rw[y,A];rfl
   ·rintro e he ex s W p P V;exact V.elim
def uS(t:av)(h:Nat)(r:cP):AV:=.aw [.agg (aN (eu t h r).1),.int .i64 (eu t h r).2]
def TB(t:av)(u:bP t)(h:Nat)(o:h<4294967296)(r:cP)(q:RB r.runs)(s:r.runs.length<=65)(k:r.len<4294967296)(H:List ae)(lo:oN):
  D X0 (.fn (.func 290) [] []) [.agg (aN t),.int .u32 h,.agg (bM r)] ⟨H,lo⟩=some (.ret (uS t h r) ⟨H,lo⟩):=by
 refine aH Cc λN i=>?_
 have n:=wc h;have l: (aL h:Int)<32:=by omega
 have p:iX h= .aw [.int .i64 (aL h:Nat),.bool (fb h).isSome]:=rfl;have a:=eU t.b h o;have m:az t.b h=t.az h:=rfl;simp only[m]at a;have hm:=ahx (ed r.runs) r.len r.runs k (mz _) q s;have d:eu t h r=if t.az h=false then(t,4)else if 64<r.di\/qw r.runs r.len=false then(t,2)else({t with r:=ar t.r (aL h) {r with up:=(t.r (aL h)).up}},0):=rfl
 cases g:t.az h with
 |false=>
  rw[g]at a;have e:eu t h r=(t,4):=by rw[d,adY g]
  simp only[F1,go_sem,simprocAttr,Cc,i,a,c9,uS,e]
 |true=>
  rw[g]at a;rw[adU (by rw[g];simp)]at d;have j:=Aa r.di;by_cases f:r.di<=64
  ·have c:decide (r.di<=64)=true:=aet f;cases b:qw r.runs r.len with
   |false=>
    rw[adY (.inr b)]at d;simp only[F1,go_sem,simprocAttr,Cc,i,a,c9,j,c,hm,b,uS,d]
   |true=>
    rw[adU (by rw[b];simp;omega)]at d;simp only[F1,go_sem,simprocAttr,Cc,i,a,c9,j,c,hm,b,uS,d,j8 h o,p,l,SG n,arj,Le n];omega
  ·have c:decide (r.di<=64)=false:=aeq f;rw[adY (.inl (by omega))]at d;simp only[F1,go_sem,simprocAttr,Cc,i,a,c9,j,c,uS,d]
def wo(t:av)(h u:Nat):AV:=.aw [.agg (aN (kM t h u).1),.int .i64 (kM t h u).2]
def ahC(t:av)(Z:bP t)(hT:cu t)(h w:Nat)(S:h<4294967296)(Y:w<4294967296)(H:List ae)(lo:oN):
  D X0 (.fn (.func 297) [] []) [.agg (aN t),.int .u32 h,.int .u32 w] ⟨H,lo⟩=some (.ret (wo t h w) ⟨H,lo⟩):=by
 refine aH Cd λN F=>?_
 have X:=wc h;have B: (aL h:Int)<32:=by omega
 have W:iX h= .aw [.int .i64 (aL h:Nat),.bool (fb h).isSome]:=rfl;have b:=eU t.b h S;have g:=eU t.b w Y;have T: ∀h,az t.b h=t.az h:=λh=>rfl
 simp only[T]at b g;have j:kM t h w=if t.az h=false\/ (w≠0/\t.az w=false)then(t,4)else if w≠0/\h∈w::aT t w then(t,12)else({t with r:=ar t.r (aL h) {t.r (aL h)with up:=w}},0):=rfl
 cases E:t.az h with
 |false=>
  rw[E]at b;rw[adY (.inl E)]at j;simp only[F1,go_sem,simprocAttr,Cd,F,b,c9,wo,j]
 |true=>
  rw[E]at b;by_cases c:w≠0/\t.az w=false
  ·rw[adY (.inr c)]at j;rw[c.2]at g;have y: ¬(w:Int)=0:=by omega
   simp only[F1,go_sem,simprocAttr,Cd,F,b,g,y,c9,wo,j]
  ·rw[adU (by rw[E];simpa using c)]at j;have i:w=0\/ (¬(w:Int)=0/\t.az w=true):=by
    by_cases l:w=0
    ·exact .inl l
    ·refine .inr ⟨by omega,?_⟩;cases I:t.az w
     ·exact absurd ⟨l,I⟩ c
     ·rfl
   obtain⟨L,V⟩: ∃L,L=if w=0 then[]else w::aT t w:=⟨_,rfl⟩
   have o: (w≠0/\h∈w::aT t w)↔h∈L:=by
    rw[V];by_cases l:w=0
    ·simp[l]
    ·rw[adU l];exact⟨λq=>q.2,λq=>⟨l,q⟩⟩
   have key: ∀Q:bQ,(∀e:Env,e 1= .int .u32 h->e 2= .int .u32 w->e 3= .ptr N 0->e 6= .ptr (N+1) 0->h∉L->Q (.exit 0) ⟨e,[]⟩ ⟨H++[.box (aN t) none,.box lE none],none⟩)->
     (∀e:Env,e 6= .ptr (N+1) 0->e 7= .int .i64 12->h∈L->Q .ret ⟨e,[]⟩ ⟨H++[.box (aN t) none,.box (aN t) none],none⟩)->
     ∀e:Env,e 1= .int .u32 h/\e 2= .int .u32 w/\e 3= .ptr N 0/\e 6= .ptr (N+1) 0/\e 8= .int .u32 w->wp X0 297 false (PC.loop FJ) ⟨e,[]⟩ ⟨H++[.box (aN t) none,.box lE none],none⟩ Q:=by
    rintro Q I hr e ⟨e1,p,e3,e6,e8⟩;refine eG L.length (λk e H'=>H'=H++[.box (aN t) none,.box lE none]/\e 1= .int .u32 h/\e 2= .int .u32 w/\e 3= .ptr N 0/\e 6= .ptr (N+1) 0/\ ∃x,e 8= .int .u32 (x:Nat)/\ (if x=0 then[]else x::aT t x)=L.drop k/\ (x≠0->t.az x=true)/\h∉L.take k) 0 (by omega) ?_ ?_
    ·refine⟨rfl,e1,p,e3,e6,w,e8,by rw[V];simp,λl=>?_,by simp⟩;rcases i with rfl|q
     ·exact absurd rfl l
     ·exact q.2
    rintro k hk e H' ⟨rfl,e1,p,e3,e6,x,e8,z,m,a⟩ n hn;by_cases s:x=0
    ·subst s;have P:L.take k=L:=by
      have:=ahl List.length z;rw[adY rfl,amy]at this;exact aes (by simp at this;omega)
     rw[P]at a;simp only[go_sem,simprocAttr,FJ,e8];exact I _ (by simp only[go_sem,simprocAttr,e1]) (by simp only[go_sem,simprocAttr,p]) (by simp only[go_sem,simprocAttr,e3]) (by simp only[go_sem,simprocAttr,e6]) a
    ·have A: ¬(x:Int)=0:=by omega
     have m:=m s;rw[adU s]at z;have O:k<L.length:=by
      have:=ahl List.length z;rw[amy,afL]at this;omega
     have M:L.take (k+1)=L.take k++[x]:=by
      rw[afX];have:L[k]?=(L.drop k)[0]?:=by rw[alH];rfl
      rw[this,<-z];rfl
     by_cases G:x=h
     ·have f: (x:Int)=h:=by omega
      have d:h∈L:=by
       rw[<-ai7 k L,<-z,G];simp
      have R: ¬(h:Int)=0:=by omega
      simp(disch:=omega) only[go_sem,simprocAttr,FJ,e1,e3,e6,e8,f,R,c9];exact hr _ (by simp only[go_sem,simprocAttr,e6]) (by simp only[go_sem,simprocAttr]) d
     ·have f: ¬(x:Int)=h:=by omega
      have J:=agP t Z x (fU m);have v:bI t x=kJ t (aL x):=by unfold bI;rw[adY m]
      have U:=uy hT x;simp(disch:=omega) only[go_sem,simprocAttr,FJ,e1,p,e3,e6,e8,A,f,J];refine⟨O,kJ t (aL x),rfl,?_,λl=>?_,?_⟩
      ·rw[<-v,<-apU,<-z,apY,amA,U]
      ·exact(FX (by rw[v];exact l)).1 ▸ (by rw[v])
      ·rw[M];simp[a];omega
   rcases i with rfl| ⟨y,C⟩
   ·rw[adU (by simp)]at j;simp only[go_sem,simprocAttr,Cd,F,b];refine key _ ?_ ?_ _ (by simp only[go_sem,simprocAttr])
    ·intro e e1 p e3 e6 _;have K:aM (aN t) (96+aL h*12) [.int .u32 0]=aN {t with r:=ar t.r (aL h) {t.r (aL h)with up:=0}}:=agf (u:=0) X;simp(disch:=omega) only[F1,go_sem,simprocAttr,e1,p,e3,e6,j8 h S,W,B,K,c9,wo,j];omega
    ·intro e e6 e7 d;rw[V]at d;simp at d
   ·rw[C]at g;simp only[go_sem,simprocAttr,Cd,F,b,g,y];refine key _ ?_ ?_ _ (by simp only[go_sem,simprocAttr])
    ·intro e e1 p e3 e6 a;rw[adU (λq=>a (o.1 q))]at j;simp(disch:=omega) only[F1,go_sem,simprocAttr,e1,p,e3,e6,j8 h S,W,B,agf X,c9,wo,j];omega
    ·intro e e6 e7 d;rw[adY (o.2 d)]at j;simp(disch:=omega) only[F1,go_sem,simprocAttr,e6,e7,wo,j]
def Al(t:av)(a n:Nat):AV:=.aw [.agg (aN (gN t a n).1),.int .u32 (gN t a n).2.1,.int .i64 (gN t a n).2.2]
def as3(t:av)(k:bP t)(m:cu t)(a n:Nat)(j:a<4294967296)(H:List ae)(lo:oN):
  D X0 (.fn (.func 247) [] []) [.agg (aN t),.int .u32 a,.int .i64 n] ⟨H,lo⟩=some (.ret (Al t a n) ⟨H,lo⟩):=by
 refine aH zR λN f=>?_
 have e:=arL t k a n j;have g:=Lz t k m a j;have d:gN t a n=if((kK t a n).2.2=0\/ (kK t a n).2.2=7)/\6<=depth t a then(t,0,8)else kK t a n:=rfl
 by_cases i: (kK t a n).2.2=0\/ (kK t a n).2.2=7
 ·by_cases l:6<=depth t a
  ·rw[adY ⟨i,l⟩]at d;have b: (depth t a:Int)>=6:=by omega
   rcases i with c|c
   ·simp only[F1,go_sem,simprocAttr,zR,f,e,Ab,c,g,b,c9,Al,d]
   ·simp only[F1,go_sem,simprocAttr,zR,f,e,Ab,c,g,b,c9,Al,d]
  ·rw[adU (λh=>l h.2)]at d;have b: ¬(depth t a:Int)>=6:=by omega
   rcases i with c|c
   ·simp only[F1,go_sem,simprocAttr,zR,f,e,Ab,c,g,b,c9,Al,d]
   ·simp only[F1,go_sem,simprocAttr,zR,f,e,Ab,c,g,b,c9,Al,d]
 ·rw[adU (λh=>i h.1)]at d;have p: ¬((kK t a n).2.2:Int)=0:=by omega
  have o: ¬((kK t a n).2.2:Int)=7:=by omega
  simp only[F1,go_sem,simprocAttr,zR,f,e,Ab,p,o,c9,Al,d]
theorem ahD:Ext X4 X where
 dR:=rfl
 fZ:=rfl
 code:=rfl
 bW:=λf=>by
  show(if f=56 then some mQ else if f=19 then some mR else if f=193 then some qD else if f=190 then some r8 else if f=188 then some xV else if f=182 then some Aj else if f=167 then some Cx else none)=(if f=56 then some mQ else if f=19 then some mR else if f=193 then some qD else if f=190 then some r8 else none)\/_;by_cases i:f=56
  ·grind
  by_cases h:f=19
  ·grind
  by_cases d:f=193
  ·grind
  by_cases c:f=190
  ·grind
  by_cases j:kL.contains f=true
  ·right
   refine⟨?_,?_⟩
   ·show(if f=56 then some mQ else if f=19 then some mR else if f=193 then some qD else if f=190 then some r8 else none)=none
    grind
   ·show(if kL.contains f then none else zT.lookup f)=none
    grind
  ·left
   have a:kL.contains f=false:=by grind
   have e: ∀g,kL.contains g=true->f≠g:=λg b=>iH a b
   simp only[adU i,adU h,adU d,adU c,adU (e 188 rfl),adU (e 182 rfl),adU (e 167 rfl)]
theorem TC: ∀ {l:List aC},(∀x∈l,1<=x.2)->l.length<=aI l
 | [],_=>by simp
 |x::xs,h=>by
  have c:=h x (ahi ..);have b:=TC (l:=xs) λy a=>h y (afO _ a)
  simp only[aI,ak9,List.sum_cons,afL]at b⊢;omega
def gh.rb{r:cP}(h:gh r):RB r.runs/\r.runs.length<=64:=by
 have c:=TC λx a=>(h.runs x a).1
 have b:=h.aI;refine⟨⟨by omega,λx a=>?_⟩,by omega⟩;have:=h.runs x a;omega
def gh.LK{r:cP}(h:gh r)(a:x<4294967296):gh {r with up:=x}:=⟨a,h.di,h.len,h.cells,h.runs,h.aI⟩
def gh.setCells{r:cP}(h:gh r){f:Nat->Nat}(a: ∀i,f i<4294967296):gh {r with cells:=f}:=⟨h.up,h.di,h.len,a,h.runs,h.aI⟩
def Cz:gh df:=⟨by trivial,by trivial,by trivial,by simp[df],by trivial,by trivial⟩
def bP.get{t:av}(a:bP t)(h:Nat):gh (aG t h).1:=by
 unfold aG;split
 ·exact(a.r _).LK agH
 ·exact Cz
theorem bP.ar{t:av}(a:bP t){i:Nat}{r:cP}(b:gh r):bP {t with r:=ar t.r i r}:=⟨a.b,λj=>by
 show gh (Go.Proofs.YteplichagkpciaaGreatDoor.ar t.r i r j);by_cases e:j=i
 ·rw[e,cF];exact b
 ·rw[da e];exact a.r j⟩
def bP.set{t:av}(a:bP t){r:cP}(b:gh r):bP (eu t h r).1:=by
 unfold eu;split
 ·omega
 ·split
  ·omega
  ·exact a.ar (b.LK (a.r _).up)
def bP.raise{t:av}(a:bP t)(b:x<4294967296):bP (kM t h x).1:=by
 unfold kM;split
 ·omega
 ·split
  ·omega
  ·exact a.ar ((a.r _).LK b)
def ja(t t':av):Prop:=t'.b=t.b/\ ∀i,(t'.r i).up=(t.r i).up
theorem ja.refl(t:av):ja t t:=⟨rfl,λ_=>rfl⟩
theorem ja.trans{a b c:av}(e:ja a b)(d:ja b c):ja a c:=⟨d.1.trans e.1,λi=>(d.2 i).trans (e.2 i)⟩
theorem ja.az{t t':av}(h:ja t t')(x:Nat):t'.az x=t.az x:=by unfold av.az;rw[h.1]
theorem ja.bI{t t':av}(h:ja t t')(x:Nat):bI t' x=Go.Proofs.YteplichagkpciaaGreatDoor.bI t x:=by
 unfold Go.Proofs.YteplichagkpciaaGreatDoor.bI kJ;simp only[h.az,h.2]
theorem ja.eP{t t':av}(h:ja t t'): ∀n x,eP t' n x=Go.Proofs.YteplichagkpciaaGreatDoor.eP t n x
 |0,_=>rfl
 |n+1,x=>by simp only[Go.Proofs.YteplichagkpciaaGreatDoor.eP,h.bI,h.eP n]
theorem ja.aT{t t':av}(h:ja t t')(x:Nat):aT t' x=Go.Proofs.YteplichagkpciaaGreatDoor.aT t x:=h.eP 32 x
def ja.tree{t t':av}(h:ja t t')(a:cu t):cu t':=λx=>by rw[h.aT];exact a x
def ja.set(t:av)(h:Nat)(r:cP):ja t (eu t h r).1:=by
 unfold eu;split
 ·exact .refl t
 ·split
  ·exact .refl t
  ·refine⟨rfl,λi=>?_⟩;show(ar t.r (aL h) _ i).up=_;by_cases e:i=aL h
   ·rw[e,cF]
   ·rw[da e]
def as4{t:av}(c:cu t)(a:x∈dO t h):dep t h<=dep t x:=by
 have key: ∀n h,x∈iB t n h->dep t h<=dep t x:=by
  intro n
  induction n with
  |zero=>intro h a;rw[iB,afC]at a;grind
  |succ n b=>
   intro h a;rcases ag7.1 a with rfl|a
   ·simp
   ·grind [Cn]
 exact key 32 h a
def TD{t:av}(a:t.az h=true):depth t h=1+dep t h:=by unfold depth;rw[adY a];rfl
def as5{t0 t:av}(a:bP t)(h x:Nat):bP (wb t0 h t x):=by
 refine a.set (gh.setCells (a.get x) λi=>?_);have:=(a.get x).cells i
 grind
def as6(t0 t:av)(h x:Nat):ja t (wb t0 h t x):=ja.set _ _ _
def xY(t0:av)(h:Nat)(t:av)(l:lN):av:=l.foldl (wb t0 h) t
def TE{t0 t:av}(a:bP t)(h:Nat): ∀l,bP (xY t0 h t l):=by
 intro l
 induction l generalizing t with
 |nil=>exact a
 |cons x xs b=>exact b (as5 a h x)
theorem TF(t0:av)(h:Nat): ∀ (l:lN) (t:av),ja t (xY t0 h t l)
 | [],t=>.refl t
 |x::xs,t=>(as6 t0 t h x).trans (TF t0 h xs _)
def as7{t0 t:av}{l:lN}{k:Nat}(a:l[k]?=some x):xY t0 h t (l.take (k+1))=wb t0 h (xY t0 h t (l.take k)) x:=by
 unfold xY;rw[afX,a,amz];rfl
theorem TG(t:av)(h:Nat):iT t h=if t.az h=false then(t,4)else kM (xY t h t (dO t h)) h 0:=rfl
def ahE{t:av}{x:lA}(a: (sa t h)[j]?=some x): ∃y,x=[.int .u32 (y:Nat)]/\ (dO t h)[j]?=some y:=by
 unfold sa at a;rw[afU,afF]at a;obtain⟨y,b,rfl⟩:=a;exact⟨y,rfl,b⟩
def as8{t:av}(a:cu t)(h:Nat):depth t h<=6:=by
 unfold depth;split
 ·have:=a h;omega
 ·omega
theorem ahF{f:Nat->Nat}{c:Nat}: ∀ (l:lN) (s:Nat),(∀x∈l,f x<=c)->s<=c->l.foldl (λn x=>max n (f x)) s<=c
 | [],s,_,a=>a
 |x::xs,s,d,a=>ahF xs _ (λy b=>d y (afO _ b)) (by grind)
def as9{t:av}(a:cu t)(h:Nat):uv t h<=7:=by
 exact ahF (f:=λx=>depth t x-depth t h+1) _ _ (λx _=>by have:=as8 a x;omega) (by omega)
def ata(t:av)(m:bP t)(k:cu t)(h:Nat)(a:t.az h=true)(H:List ae)(lo:oN):
  D X (.fn (.func 296) [] []) [.agg (aN t),.int .u32 h] ⟨H,lo⟩=some (.ret (.int .i64 (uv t h:Nat)) ⟨H,lo⟩):=by
 refine aH RQ λN q=>?_
 have K:=up dD (Ts t h (N+3) (H++[.box (aN t) none,.box [.int .u32 h] none,.box [.int .i64 0] none]) (by simp[q]) none);simp only[go_sem,simprocAttr,RQ,q,K];refine zk (S:=Nat) (λe=>e 2= .ptr N 0/\e 3= .ptr (N+1) 0/\e 5= .ptr (N+2) 0) (by simp only[go_sem,simprocAttr]) (sa t h) q [.box (aN t) none,.box [.int .u32 h] none] (λs=>[.box (aN t) none,.box [.int .u32 h] none,.box [.int .i64 (s:Nat)] none]) (nB:=3) (λ_=>rfl) 0
  (λj s=>s=((dO t h).take j).foldl (λn x=>max n (depth t x-depth t h+1)) 0/\s<=100) (λ_ _=>False) rfl ?_ (by simp) ⟨rfl,by omega⟩ (λ_ _ h=>h.elim) ?_ ?_ ?_
 ·exact Tu ahD t m k h a (N+3)
 ·rintro e ⟨A,e3,w⟩ j x s B ⟨E,C⟩;obtain⟨y,rfl,z⟩:=ahE B;have c:y∈dO t h:=amm z;have f:=Co m.b a c;have I:=as4 k c;have M:=k y;have U:=TD f;have T:=TD a;have R:dep t y<=5:=M;have b:=λH lo=>up dD (Lz t m k y (fU f) H lo)
  have v:=λH lo=>up dD (Lz t m k h (fU a) H lo)
  refine⟨rfl,λW n P F u=>?_⟩;simp only[go_sem,simprocAttr,hU];refine⟨[],by simp,λV L g=>?_⟩;simp only[gr,gq,anX,afM,Nat.reduceAdd]at g;obtain⟨w0,w1,l⟩:=g;have r:max (s:Int) ((depth t y:Int)-depth t h+1)=((max s (depth t y-depth t h+1):Nat):Int):=by omega
  simp(disch:=omega) only[go_sem,simprocAttr,afq,A,e3,w,w0,w1,l,b,v,OB,OA,r,rq];refine⟨max s (depth t y-depth t h+1),?_,λi Q G=>adb (by omega),?_,?_⟩
  ·simp only[gr,gq,anX,afM,Nat.reduceAdd];exact⟨by rw[adb (by omega)];exact w0,by rw[adb (by omega)];exact w1,cG l⟩
  ·rw[afX,z,amz,<-E];rfl
  ·omega
 ·rintro e ⟨A,e3,w⟩ s W p O ⟨rfl,_⟩ d u J;simp only[gr,gq,anX,afM,Nat.reduceAdd]at u;obtain⟨w0,w1,l⟩:=u;have b: ∀o,(W.set p o).take N=H:=λo=>(d.set (by omega)).take q
  simp only[F1,go_sem,simprocAttr,w,l,J,nm,b];rw[Tt,afK];rfl
 grind
def xZ(t:av)(h w:Nat):AV:=.aw [.agg (aN (rN t h w).1),.int .i64 (rN t h w).2]
def atb(t:av)(k:bP t)(f:cu t)(h w:Nat)(q:h<4294967296)(p:w<4294967296)(H:List ae)(lo:oN):
  D X (.fn (.func 261) [] []) [.agg (aN t),.int .u32 h,.int .u32 w] ⟨H,lo⟩=some (.ret (xZ t h w) ⟨H,lo⟩):=by
 refine aH xF λN i=>?_
 have a:=λH lo=>up dD (eU t.b h q H lo)
 have b:=λH lo=>up dD (eU t.b w p H lo)
 have v: ∀h,az t.b h=t.az h:=λh=>rfl
 simp only[v]at a b;have c:rN t h w=if t.az h=false\/t.az w=false then(t,4)else if root t h≠h\/kN t h w then(t,12)else if 6<depth t w+uv t h then(t,8)else kM t h w:=rfl
 have d:=λH lo=>up dD (Ai t k f h q H lo)
 have e:=λH lo=>up dD (TA t k f h w q p H lo)
 have l:=λH lo=>up dD (Lz t k f w p H lo)
 have u:=λH lo=>up dD (ahC t k f h w q p H lo)
 cases n:t.az h with
 |false=>
  rw[n]at a;rw[adY (.inl n)]at c;simp only[F1,go_sem,simprocAttr,xF,i,a,c9,xZ,c]
 |true=>
  rw[n]at a;have j:=ata t k f h n;cases m:t.az w with
  |false=>
   rw[m]at b;rw[adY (.inr m)]at c;simp only[F1,go_sem,simprocAttr,xF,i,a,b,c9,xZ,c]
  |true=>
   rw[m]at b;rw[adU (by rw[n,m];simp)]at c;by_cases s:root t h=h
   ·have o: ((root t h:Nat):Int)=(h:Nat):=by omega
    cases r:kN t h w with
    |true=>
     rw[adY (.inr r)]at c;rw[r]at e;rw[s]at d;simp only[F1,go_sem,simprocAttr,xF,i,a,b,d,e,c9,xZ,c]
    |false=>
     rw[adU (by rw[r];simp[s])]at c;rw[r]at e;rw[s]at d;have y:uv t h<=7:=as9 f h;have z:depth t w<=100:=by
      have:=f w;rw[TD m];show 1+(aT t w).length<=100;omega
     by_cases x:6<depth t w+uv t h
     ·have g: (depth t w:Int)+uv t h>6:=by omega
      rw[adY x]at c;simp(disch:=omega) only[F1,go_sem,simprocAttr,xF,i,a,b,d,e,l,j,g,c9,xZ,c]
     ·have g: ¬(depth t w:Int)+uv t h>6:=by omega
      rw[adU x]at c;simp(disch:=omega) only[F1,go_sem,simprocAttr,xF,i,a,b,d,e,l,j,g,u,wo,c9,xZ,c]
   ·have o: ¬((root t h:Nat):Int)=(h:Nat):=by omega
    rw[adY (.inl s)]at c;simp only[F1,go_sem,simprocAttr,xF,i,a,b,d,o,c9,xZ,c]
def wq(t:av)(h c:Nat):Bool:=decide (c≠h)&&kN t c h
def atc(t:av)(i:bP t)(l:cu t)(h c:Nat)(j:h<4294967296)(k:c<4294967296)(g f:Nat)(H:List ae)(b:H[f]?=some (.box (aN t) none))(a:H[g]?=some (.box [.int .u32 h] none))(lo:oN):
  D X (.fn (.func 326) [] [.ptr g 0,.ptr f 0]) [.int .u32 c] ⟨H,lo⟩=some (.ret (.bool (wq t h c)) ⟨H,lo⟩):=by
 refine fB K4 λN n=>?_
 have d:=λH lo=>up dD (TA t i l c h k j H lo)
 by_cases e:c=h
 ·simp(disch:=omega) only[F1,go_sem,simprocAttr,K4,a,wq,e,not_true,dF,aho]
 ·have m: ¬(c:Int)=h:=by omega
  simp(disch:=omega) only[F1,go_sem,simprocAttr,K4,b,a,m,d,wq,e]
def uT(t:av)(h:Nat)(f:Nat->Nat)(k:Nat):Nat->Nat:=λi=>if i<k/\wq t h (f i)=true then 0 else f i
theorem Ge{t:av}{f:Nat->Nat}{k:Nat}:uT t h f k i=if i<k/\wq t h (f i)=true then 0 else f i:=rfl
def atd(t:av)(h:Nat)(f:Nat->Nat)(k:Nat):uT t h f (k+1)=if wq t h (f k)=true then ar (uT t h f k) k 0 else uT t h f k:=by
 funext i
 by_cases a:wq t h (f k)=true
 ·by_cases e:i=k
  ·simp_all[cF,Ge,adY]
  ·grind [da,Ge]
 ·rw[adU a,Ge,Ge]
  grind
def ate(t:av)(h:Nat)(r:cP):bM {r with cells:=uT t h r.cells 8}=bM {r with cells:=λi=>if r.cells i≠h/\kN t (r.cells i) h then 0 else r.cells i}:=by
 refine af5 (FN λi a=>?_);simp only[uT,wq,a,aAz]
 grind
def LM(t:av)(h:Nat):AV:=.aw [.agg (aN (iT t h).1),.int .i64 (iT t h).2]
def atf(t:av)(I:bP t)(hT:cu t)(h:Nat)(hh:h<4294967296)(H:List ae)(lo:oN):
  D X (.fn (.func 294) [] []) [.agg (aN t),.int .u32 h] ⟨H,lo⟩=some (.ret (LM t h) ⟨H,lo⟩):=by
 refine aH KY λN U=>?_
 have q:=λH lo=>up dD (eU t.b h hh H lo)
 have hgg: ∀h,az t.b h=t.az h:=λh=>rfl
 simp only[hgg]at q;cases d:t.az h with
 |false=>
  rw[d]at q;have Z:iT t h=(t,4):=by rw[TG,adY d]
  simp only[F1,go_sem,simprocAttr,KY,U,q,c9,LM,Z]
 |true=>
  rw[d]at q;have Z:iT t h=kM (xY t h t (dO t h)) h 0:=by rw[TG,adU (by rw[d];simp)]
  have ha:=up dD (Ts t h (N+5) (H++[.box (aN t) none,.box [.int .u32 h] none,.box lE none,.box [.fn (.func 326) [] [.ptr (N+1) 0,.ptr N 0]] none,.box (aN t) none]) (by simp[U]) none);have hmx:max (N+1+1) (N+1)<=N+3+1:=by omega
  simp only[go_sem,simprocAttr,KY,U,q,c9,ha,hmx];refine zk (S:=av) (λe=>e 3= .ptr (N+1) 0/\e 4= .ptr (N+2) 0/\e 6= .ptr (N+3) 0/\e 7= .ptr (N+4) 0) (by simp only[go_sem,simprocAttr]) (sa t h) U [.box (aN t) none,.box [.int .u32 h] none] (λs=>[.box (aN t) none,.box [.int .u32 h] none,.box lE none,.box [.fn (.func 326) [] [.ptr (N+1) 0,.ptr N 0]] none,.box (aN s) none]) (nB:=5) (λ_=>rfl) t
   (λj s=>s=xY t h t ((dO t h).take j)) (λ_ _=>False) rfl ?_ (by simp) rfl (λ_ _ h=>h.elim) ?_ ?_ ?_
  ·exact Tu ahD t I hT h d (N+5)
  ·rintro e ⟨e3,e4,e6,e7⟩ j x s hx A;obtain⟨y,rfl,hy⟩:=ahE hx;have hym:y∈dO t h:=amm hy;have P:=Co I.b d hym;have J:=as7 (t0:=t) (t:=t) (h:=h) hy;have b:bP s:=by rw[A];exact TE I h _
   rw[<-A]at J;have Q:=λH lo=>up dD (r6 s b y (fU P) H lo)
   have B:=b.get y;have c:wb t h s y=(eu s y {(aG s y).1 with cells:=λi=>if(aG s y).1.cells i≠h/\kN t ((aG s y).1.cells i) h then 0 else(aG s y).1.cells i}).1:=rfl;generalize hr: (aG s y).1=r at*;have g:gh {r with cells:=λi=>if r.cells i≠h/\kN t (r.cells i) h then 0 else r.cells i}:=gh.setCells B λi=>by
    have:=B.cells i;show(if _ then _ else _)<_;split<;>omega
   have K:=λH lo=>up dD (TB s b y (fU P) _ g.rb.1 (by have:=g.rb.2;omega) (by have:=g.len;omega) H lo)
   refine⟨rfl,λW n hn hnl hg=>?_⟩;simp only[go_sem,simprocAttr,hU];refine⟨[],by simp,λG T R=>?_⟩;simp only[gr,gq,anX,afM,Nat.reduceAdd]at R;obtain⟨w0,w1,Y,w3,V⟩:=R;have f0: ∀L,(G++L)[N]?=_:=λL=>aZ w0
   have f1: ∀L,(G++L)[N+1]?=_:=λL=>aZ w1
   have f3: ∀L,(G++L)[N+3]?=_:=λL=>aZ w3
   have f4: ∀L,(G++L)[N+4]?=_:=λL=>aZ V
   have hpc:Den.part true 8 (bM r) 4=_:=Ld (r:=r);simp only[go_sem,simprocAttr,afp,e7,V,Q,lV,hr,jt,T,hpc,afW];refine eG 8 (λk C H'=>H'=G++[.box (bM {r with cells:=uT t h r.cells k}) none]/\C 6= .ptr (N+3) 0/\C 7= .ptr (N+4) 0/\C 8= .int .u32 y/\C 9= .ptr n 0/\C 33= .agg (arr 8 λi=>[.int .u32 (r.cells i)])/\C 34= .int .i64 k) 0 (by omega) ?_ ?_
   ·simp only[go_sem,simprocAttr,e6,e7];have:uT t h r.cells 0=r.cells:=by funext i;rw[Ge,adU (by omega)]
    rw[this]
   ·rintro k hk C H' ⟨rfl,a6,a7,a8,a9,F,E⟩ n' Hx;simp only[bX,go_sem,simprocAttr,afo,a7,F,E];refine⟨λhc=>?_,λhc=>?_⟩
    ·have l:k<8:=by omega
     have w:qV false 8 1 (.agg (arr 8 λi=>[AV.int .u32 (r.cells i)])) (.int .i64 (k:Nat))=some (.int .u32 (r.cells k)):=
      Sv l (by have:=kH (ag:=false) (m:=1) (n:=8) (k:=1) (i:=k) (o:=0) (f:=λi=>[AV.int .u32 (r.cells i)]) (λ_=>rfl) l (by omega) (by omega);rw[afM]at this;rw[this];rfl)
     have v:=atc t I hT h (r.cells k) hh (B.cells k) (N+1) N (G++[.box (bM {r with cells:=uT t h r.cells k}) none]) (f0 _) (f1 _) none;have c:=atd t h r.cells k;cases ho:wq t h (r.cells k)
     ·rw[ho]at c v;rw[adU (by simp)]at c;simp(disch:=omega) only[go_sem,simprocAttr,a6,a7,a8,a9,F,E,w,f3,v];rw[c];exact⟨l,rfl⟩
     ·rw[ho]at c v;rw[adY rfl]at c;simp(disch:=omega) only[go_sem,simprocAttr,a6,a7,a8,a9,F,E,w,f3,v];have Am:=agh (r:={r with cells:=uT t h r.cells k}) (u:=0) l;rw[c];exact⟨by omega,by omega,l,ahl (λz=>G++[ae.box z none]) Am⟩
    ·obtain rfl:k=8:=by omega
     have TH:=ate t h r;simp only[go_sem,simprocAttr,a7,a8,a9,f4,TH,K,uS,rq,T];have gT:List.drop 480 (aN s)=[]:=ahp (by rw[iA];omega);rw[gT,afW];refine⟨wb t h s y,?_,by omega,λi hi HK=>?_,J.symm⟩
     ·simp only[gr,gq,anX,afM,Nat.reduceAdd];refine⟨?_,?_,?_,?_,?_⟩
      ·rw[adb (by omega)];exact f0 _
      ·rw[adb (by omega)];exact f1 _
      ·rw[adb (by omega)];exact aZ Y
      ·rw[adb (by omega)];exact f3 _
      ·rw[c];exact cG (f4 _)
     ·rw[adb (by omega),adf (by omega)]
  ·rintro e ⟨e3,e4,e6,e7⟩ s W p hp A O hg hd;simp only[gr,gq,anX,afM,Nat.reduceAdd]at hg;obtain⟨w0,w1,Y,w3,V⟩:=hg;rw[Tt,afK]at A;have b:bP s:=by rw[A];exact TE I h _
   have hsT:cu s:=by rw[A];exact(TF t h _ t).tree hT
   have Tv:=λH lo=>up dD (ahC s b hsT h 0 hh (by omega) H lo)
   rw[<-A]at Z;have OT: ∀a o,((W.set (N+2) a).set p o).take N=H:=λa o=>((O.set (by omega)).set (by omega)).take U
   have M: ∀H lo,D X (.fn (.func 297) [] []) [.agg (aN s),.int .u32 h,.int .u32 0] ⟨H,lo⟩=some (.ret (wo s h 0) ⟨H,lo⟩):=Tv;simp(disch:=omega) only[F1,go_sem,simprocAttr,e3,e4,e7,w1,Y,V,M,wo,hd,nm,OT,c9,cG Y,LM,Z]
  ·rintro e he ex s W p hp hJ;exact hJ.elim
structure x0(x:Ow):Prop where
 kind:x.kind<256
 aa:x.aa<256
 hold:x.hold<256
structure fX(o:bO):Prop where
 root: ∀i,(o i).root<4294967296
 own: ∀i,x0 (o i).own
def TI:x0 xN:=⟨by trivial,by trivial,by trivial⟩
def fX.of{o:bO}(ho:fX o)(t:av)(h:Nat):x0 (ca o t h):=by
 unfold ca;split
 ·split
  ·exact ho.own _
  ·exact TI
 ·exact TI
def fX.LN{o:bO}(ho:fX o){t:av}{r:Nat}{x:Ow}(b:r<4294967296)(a:x0 x):fX (gw o t r aa x).1:=by
 unfold gw;split
 ·omega
 ·split
  ·omega
  ·split
   ·omega
   ·refine⟨λi=>?_,λi=>?_⟩
    ·show(ar o (aL r) ⟨r,x⟩ i).root<_;by_cases e:i=aL r
     ·rw[e,cF];exact b
     ·rw[da e];exact ho.root i
    ·show x0 (ar o (aL r) ⟨r,x⟩ i).own;by_cases e:i=aL r
     ·rw[e,cF];exact a
     ·rw[da e];exact ho.own i
def An(aa:Nat):iD aa<256:=by
 unfold iD;have:2^(aa % 8)<=2^7:=Nat.pow_le_pow_right (by omega) (by omega);omega
def aDh(b:a<256): (BitVec.ofInt 8 (a:Int)).toNat=a:=by grind
def LO(d:a<256)(c:b<256):dA .and (.int .u8 (a:Nat)) (.int .u8 (b:Nat))=some (.int .u8 ((a&&&b:Nat):Int)):=by
 rw[DQ];have e: (BitVec.ofInt IntKind.u8.bits (a:Int)&&&BitVec.ofInt IntKind.u8.bits (b:Int)).toNat=a&&&b:=by
  show(BitVec.ofInt 8 (a:Int)&&&BitVec.ofInt 8 (b:Int)).toNat=_
  grind
 have f:a&&&b<=a:=Nat.and_le_left;rw[e,wrap_u8 (by omega) (by omega)]
def atk(d:a<256)(c:b<256):dA .xor (.int .u8 (a:Nat)) (.int .u8 (b:Nat))=some (.int .u8 ((a^^^b:Nat):Int)):=by
 rw[Oy];have e: (BitVec.ofInt IntKind.u8.bits (a:Int)^^^BitVec.ofInt IntKind.u8.bits (b:Int)).toNat=a^^^b:=by
  show(BitVec.ofInt 8 (a:Int)^^^BitVec.ofInt 8 (b:Int)).toNat=_
  grind
 have f:a^^^b<2^8:=aBb (by omega) (by omega);rw[e,wrap_u8 (by omega) (by omega)]
theorem ahG{k:Nat}:x&&&2^k=0↔x.testBit k=false:=by
 constructor
 ·intro h;have: (x&&&2^k).testBit k=false:=by grind
  grind
 ·intro h;apply Nat.eq_of_testBit_eq
  grind
def ahH:decide (¬((x&&&iD aa:Nat):Int)=0)=oY x aa:=by
 unfold oY iD;cases h:x.testBit (aa % 8)
 ·rw[ahG.2 h];simp
 ·grind [ahG]
def TJ(aa:Nat)(f:aa<4611686018427387904)(H:List ae)(lo:oN):D X0 (.fn (.func 280) [] []) [.int .i64 aa] ⟨H,lo⟩=some (.ret (.int .u8 (iD aa:Nat)) ⟨H,lo⟩):=by
 refine aH RI λN h=>?_
 have e:dA .and (.int .i64 (aa:Nat)) (.int .i64 7)=some (.int .i64 ((aa % 8:Nat):Int)):=by
  rw[DQ];have e: (BitVec.ofInt IntKind.i64.bits (aa:Int)&&&BitVec.ofInt IntKind.i64.bits 7).toNat=aa % 8:=by
   show(BitVec.ofInt 64 (aa:Int)&&&BitVec.ofInt 64 7).toNat=_;have c: (BitVec.ofInt 64 (aa:Int)).toNat=aa:=by grind
   have b: (BitVec.ofInt 64 7).toNat=2^3-1:=by rfl
   rw[BitVec.toNat_and,c,b,aCe]
  rw[e,wrap_i64 (by omega) (by omega)]
 have g:=An aa;have d:lu .shl (.int .u8 1) (.int .i64 ((aa % 8:Nat):Int))=some (.int .u8 (iD aa:Nat)):=by
  rw[Bf,adY (by omega)];have: (1:Int)*2^(min ((aa % 8:Nat):Int).toNat IntKind.u8.bits)=(iD aa:Nat):=by
   have a:IntKind.u8.bits=8:=rfl;rw[a,aBn,aqe (by omega),Int.one_mul];unfold iD;simp
  rw[this,wrap_u8 (by omega) (by omega)]
 simp(disch:=omega) only[F1,go_sem,simprocAttr,RI,e,d]
def CA(o:bO)(ho:fX o)(t:av)(p:bP t)(n:cu t)(h:Nat)(m:h<4294967296)(H:List ae)(lo:oN):
  D X0 (.fn (.func 267) [] []) [.agg (cQ o),.agg (aN t),.int .u32 h] ⟨H,lo⟩=some (.ret (.agg (j0 (ca o t h))) ⟨H,lo⟩):=by
 refine aH FD λN k=>?_
 have a:=Ai t p n h m;have b:=asb (h:=h) n m;have f:ca o t h=match fb (root t h)with|some i=>if(o i).root=root t h then(o i).own else xN|none=>xN:=rfl
 cases d:fb (root t h)with
 |none=>
  rw[d]at f;have e1:ca o t h=xN:=f;simp only[F1,go_sem,simprocAttr,FD,k,a,j8 (root t h) b,iX,d,e1];rfl
 |some i=>
  rw[d]at f;have j:=af4 d;have e: (i:Int)<32:=by omega
  by_cases l: (o i).root=root t h
  ·have c: (((o i).root:Nat):Int)=(root t h:Nat):=by omega
   have e1:ca o t h=(o i).own:=by rw[f];exact adY l
   have g:j0 (o i).own=[.int .u8 (o i).own.kind,.int .u8 (o i).own.aa,.int .u8 (o i).own.hold]:=rfl;simp only[F1,go_sem,simprocAttr,FD,k,a,j8 (root t h) b,iX,d,e1,e,agk j,c,ark j,g]
  ·have c: ¬(((o i).root:Nat):Int)=(root t h:Nat):=by omega
   have e1:ca o t h=xN:=by rw[f];exact adU l
   simp only[F1,go_sem,simprocAttr,FD,k,a,j8 (root t h) b,iX,d,e1,e,agk j,c];rfl
def lY(o:bO)(t:av)(r aa:Nat)(x:Ow):AV:=.aw [.agg (cQ (gw o t r aa x).1),.int .i64 (gw o t r aa x).2]
theorem atl:vP.length=128:=by rfl
theorem atm:List.drop 128 vP=[]:=by rfl
def gQ:type_of% atl/\type_of% atm:=by decide
def Gf(o:bO)(t:av)(v:bP t)(A:cu t)(r:Nat)(k:r<4294967296)(aa:Nat)(u:aa<4611686018427387904)(x:Ow)(H:List ae)(lo:oN):
  D X0 (.fn (.func 298) [] []) [.agg (cQ o),.agg (aN t),.int .u32 r,.int .i64 aa,.agg (j0 x)] ⟨H,lo⟩=some (.ret (lY o t r aa x) ⟨H,lo⟩):=by
 refine aH Ce λN i=>?_
 have c:=Ai t v A r k;have a:=eU t.b r k;have m: ∀h,az t.b h=t.az h:=λh=>rfl
 simp only[m]at a;have z:=wc r;have l: (aL r:Int)<32:=by omega
 have y:iX r= .aw [.int .i64 (aL r:Nat),.bool (fb r).isSome]:=rfl;have b:gw o t r aa x=if t.az r=false then(o,4)else if root t r≠r then(o,12)else if 8<=aa then(o,2)else(ar o (aL r) ⟨r,x⟩,0):=rfl
 have d:j0 x=[.int .u8 x.kind,.int .u8 x.aa,.int .u8 x.hold]:=rfl;cases g:t.az r with
 |false=>
  rw[adY g]at b;rw[g]at a;simp only[F1,go_sem,simprocAttr,Ce,i,a,lY,b,gQ,d]
 |true=>
  rw[adU (by rw[g];simp)]at b;rw[g]at a;by_cases q:root t r=r
  ·rw[adU (by simpa using q)]at b;rw[q]at c;by_cases s:8<=aa
   ·rw[adY s]at b;have f: (aa:Int)>=8:=by omega
    have n: ¬(aa:Int)<0:=by omega
    simp only[F1,go_sem,simprocAttr,Ce,i,a,c,f,n,lY,b,gQ,d]
   ·rw[adU s]at b;have f: ¬(aa:Int)>=8:=by omega
    have n: ¬(aa:Int)<0:=by omega
    have e:=arl (w:=o) (x:=⟨r,x⟩) z;have j:ur ⟨r,x⟩=[.int .u32 r,.int .u8 x.kind,.int .u8 x.aa,.int .u8 x.hold]:=rfl;rw[j]at e;simp only[F1,go_sem,simprocAttr,Ce,i,a,c,f,n,lY,b,gQ,d,j8 r k,y,l,e];omega
  ·rw[adY q]at b;have p: ¬((root t r:Nat):Int)=(r:Nat):=by omega
   simp only[F1,go_sem,simprocAttr,Ce,i,a,c,p,lY,b,gQ,d]
section
variable(o:bO)(t:av)(ht:bP t)(hT:cu t)(r:Nat)(hr:r<4294967296)(aa:Nat)(pn:aa<256)(H:List ae)(lo:oN)
include ht hT hr pn
theorem atn:D X0 (.fn (.func 286) [] []) [.agg (cQ o),.agg (aN t),.int .u32 r,.int .i64 aa] ⟨H,lo⟩=some (.ret (.aw [.agg (cQ (rO o t r aa).1),.int .i64 (rO o t r aa).2]) ⟨H,lo⟩):=by
 refine aH RL λN c=>?_
 have b:=Gf o t ht hT r hr aa (by omega) ⟨1,aa % 256,0⟩;have a:j0 ⟨1,aa % 256,0⟩=[.int .u8 1,.int .u8 aa,.int .u8 0]:=by rw[aop pn];rfl
 rw[a]at b;have d:rO o t r aa=gw o t r aa ⟨1,aa % 256,0⟩:=rfl;simp(disch:=omega) only[F1,go_sem,simprocAttr,RL,c,b,lY,gQ,d]
theorem ato:D X0 (.fn (.func 262) [] []) [.agg (cQ o),.agg (aN t),.int .u32 r,.int .i64 aa] ⟨H,lo⟩=some (.ret (.aw [.agg (cQ (Cj o t r aa).1),.int .i64 (Cj o t r aa).2]) ⟨H,lo⟩):=by
 refine aH RA λN d=>?_
 have b:=Gf o t ht hT r hr aa (by omega) ⟨3,0,iD aa⟩;have a:j0 ⟨3,0,iD aa⟩=[.int .u8 3,.int .u8 0,.int .u8 (iD aa)]:=rfl;rw[a]at b;have e:Cj o t r aa=gw o t r aa ⟨3,0,iD aa⟩:=rfl;have c:=TJ aa (by omega);simp only[F1,go_sem,simprocAttr,RA,d,b,c,lY,gQ,e]
end
def atp(o:bO)(t:av)(ht:bP t)(hT:cu t)(r:Nat)(hr:r<4294967296)(H:List ae)(lo:oN):
  D X0 (.fn (.func 270) [] []) [.agg (cQ o),.agg (aN t),.int .u32 r] ⟨H,lo⟩=some (.ret (.aw [.agg (cQ (xO o t r).1),.int .i64 (xO o t r).2]) ⟨H,lo⟩):=by
 refine aH RE λN b=>?_
 have a: ∀H lo,D X0 (.fn (.func 298) [] []) [.agg (cQ o),.agg (aN t),.int .u32 r,.int .i64 0,.agg [.int .u8 2,.int .u8 0,.int .u8 0]] ⟨H,lo⟩=_:=Gf o t ht hT r hr 0 (by omega) ⟨2,0,0⟩;have c:xO o t r=gw o t r 0 ⟨2,0,0⟩:=rfl;simp only[F1,go_sem,simprocAttr,RE,b,a,lY,gQ,c]
theorem ahI{o:bO}:List.drop 128 (cQ o)=[]:=by rfl
def qG(o:bO)(t:av)(r aa:Nat)(hold:Bool):AV:=.aw [.agg (cQ (dC o t r aa hold).1),.int .u8 (dC o t r aa hold).2.1,.int .i64 (dC o t r aa hold).2.2]
def atq{o:bO}{t:av}{r:Nat}{x y:Ow}(h: (gw o t r aa x).2=0):gw (gw o t r aa x).1 t r aa y=gw o t r aa y:=by
 unfold gw at h⊢;split at h
 ·cases h
 ·simp_all[adU,rJ]
def atr(o:bO)(t:av)(r aa:Nat)(x:Ow): (gw o t r aa x).2=if t.az r=false then 4 else if root t r≠r then 12 else if 8<=aa then 2 else 0:=by
 unfold gw
 grind
def ahJ(o:bO)(ho:fX o)(t:av)(ht:bP t)(hT:cu t)(r:Nat)(hr:r<4294967296)(aa:Nat)(pn:aa<256)(hold:Bool)(H:List ae)(lo:oN):
  D X0 (.fn (.func 299) [] []) [.agg (cQ o),.agg (aN t),.int .u32 r,.int .i64 aa,.bool hold] ⟨H,lo⟩=some (.ret (qG o t r aa hold) ⟨H,lo⟩):=by
 refine aH rH λN l=>?_
 have c:=CA o ho t ht hT r hr;have k:=TJ aa (by omega);have d:=Ai t ht hT r hr;have b:=eU t.b r hr;have C: ∀h,az t.b h=t.az h:=λh=>rfl
 simp only[C]at b;have s:=ho.of t r;have g:dC o t r aa hold=(let x:=ca o t r
  let e:=(gw o t r aa x).2
  if e=4\/ (t.az r=true/\root t r≠r)then(o,0,e)
  else if x.kind≠3 then(o,0,12)
  else if e≠0 then(o,0,e)
  else if oY x.hold aa&&hold then(o,0,7)
  else if !oY x.hold aa&& !hold then(o,0,5)
  else((gw o t r aa {x with hold:=x.hold^^^iD aa}).1,x.hold^^^iD aa,(gw o t r aa {x with hold:=x.hold^^^iD aa}).2)):=rfl
 generalize G:ca o t r=x at*;have j:=Gf o t ht hT r hr aa (by omega) x;have a:=atr o t r aa x;have B:j0 x=[.int .u8 x.kind,.int .u8 x.aa,.int .u8 x.hold]:=rfl;have hand:=LO s.hold (An aa);have f:=ahH (x:=x.hold) (aa:=aa);rw[B]at j c;simp only at g;cases z:t.az r with
 |false=>
  rw[adY z]at a;rw[a,adY (.inl rfl)]at g;rw[z]at b;simp only[F1,go_sem,simprocAttr,rH,l,c,j,lY,a,k,hand,f,gQ,qG,g]
 |true=>
  rw[adU (by rw[z];simp)]at a;rw[z]at b;by_cases q:root t r=r
  ·rw[adU (by simpa using q)]at a;rw[q]at d;by_cases E:x.kind=3
   ·have i:decide (¬(x.kind:Int)=3)=false:=aeq (by omega);by_cases A:8<=aa
    ·rw[adY A]at a;rw[a,adU (by simp[q]),adU (by simpa using E),adY (by omega)]at g;simp only[F1,go_sem,simprocAttr,rH,l,b,d,c,j,lY,a,k,hand,f,i,gQ,qG,g]
    ·rw[adU A]at a;rw[a,adU (by simp[q]),adU (by simpa using E),adU (by omega)]at g;have p:=Gf (gw o t r aa x).1 t ht hT r hr aa (by omega) {x with hold:=x.hold^^^iD aa};have v:j0 {x with hold:=x.hold^^^iD aa}=[.int .u8 x.kind,.int .u8 x.aa,.int .u8 (x.hold^^^iD aa:Nat)]:=rfl;have u:=atq (y:={x with hold:=x.hold^^^iD aa}) a;have w: (N+1 !=N)=true:=by simp
     have m:=atk s.hold (An aa);rw[v]at p;cases n:oY x.hold aa<;>cases hold
     ·rw[n,adU (by simp),adY (by simp)]at g;simp only[F1,go_sem,simprocAttr,rH,l,b,d,c,j,lY,a,k,hand,f,n,i,gQ,qG,g]
     ·rw[n,adU (by simp),adU (by simp)]at g;simp only[F1,go_sem,simprocAttr,rH,l,b,d,c,j,lY,a,k,hand,f,n,i,gQ,qG,g,m,p,u,ahI,w,ath]
     ·rw[n,adU (by simp),adU (by simp)]at g;simp only[F1,go_sem,simprocAttr,rH,l,b,d,c,j,lY,a,k,hand,f,n,i,gQ,qG,g,m,p,u,ahI,w,ath]
     ·rw[n,adY (by simp)]at g;simp only[F1,go_sem,simprocAttr,rH,l,b,d,c,j,lY,a,k,hand,f,n,i,gQ,qG,g]
   ·have i: ¬(x.kind:Int)=3:=by omega
    rw[adU (by rw[a];simp[q];split<;>simp),adY E]at g;by_cases A:8<=aa
    ·rw[adY A]at a;simp only[F1,go_sem,simprocAttr,rH,l,b,d,c,j,lY,a,k,hand,f,i,gQ,qG,g]
    ·rw[adU A]at a;simp only[F1,go_sem,simprocAttr,rH,l,b,d,c,j,lY,a,k,hand,f,i,gQ,qG,g]
  ·rw[adY q]at a;have F: ¬((root t r:Nat):Int)=(r:Nat):=by omega
   rw[adY (.inr ⟨z,q⟩),a]at g;simp only[F1,go_sem,simprocAttr,rH,l,b,d,F,c,j,lY,a,k,hand,f,gQ,qG,g]
def ahK(o:bO)(ho:fX o)(t:av)(ht:bP t)(hT:cu t)(r:Nat)(hr:r<4294967296)(aa:Nat)(pn:aa<256)(H:List ae)(lo:oN):
  D X0 (.fn (.func 265) [] []) [.agg (cQ o),.agg (aN t),.int .u32 r,.int .i64 aa] ⟨H,lo⟩=some (.ret (.aw [.agg (cQ (dC o t r aa true).1),.int .i64 (dC o t r aa true).2.2]) ⟨H,lo⟩):=by
 refine aH RC λN b=>?_
 have a:=ahJ o ho t ht hT r hr aa pn true;simp only[F1,go_sem,simprocAttr,RC,b,a,qG,gQ]
def Gg(x:Nat):Nat:=(IE.getD x 0).toNat
def ats: ∀x,x<256->(Gg x=0↔x=0):=by decide
def ahL{o:bO}(ho:fX o){t:av}{r:Nat}{hold:Bool}: (dC o t r aa hold).2.1<256:=by
 unfold dC;simp only;split
 ·simp
 ·split
  ·simp
  ·split
   ·simp
   ·split
    ·simp
    ·split
     ·simp
     ·exact aBb (n:=8) (ho.of t r).hold (An aa)
def att(o:bO)(ho:fX o)(t:av)(ht:bP t)(hT:cu t)(r:Nat)(hr:r<4294967296)(aa:Nat)(pn:aa<256)(H:List ae)(lo:oN):
  D X0 (.fn (.func 300) [] []) [.agg (cQ o),.agg (aN t),.int .u32 r,.int .i64 aa] ⟨H,lo⟩=some (.ret (.aw [.agg (cQ (dC o t r aa false).1),.int .i64 (Gg (dC o t r aa false).2.1),.int .i64 (dC o t r aa false).2.2]) ⟨H,lo⟩):=by
 refine aH RR λN b=>?_
 have e:=ahJ o ho t ht hT r hr aa pn false;have c:=ahL ho (t:=t) (r:=r) (aa:=aa) (hold:=false);have a: ∀H lo,D X0 (.fn (.func 327) [] []) [.int .u8 ((dC o t r aa false).2.1:Nat)] ⟨H,lo⟩=some (.ret (.int .i64 (Gg (dC o t r aa false).2.1:Nat)) ⟨H,lo⟩):=by
  intro H lo;generalize(dC o t r aa false).2.1=x at*;refine aH Sc λN b=>?_
  have d:IE.length=256:=by rfl
  have f:=UInt8.toNat_lt (IE.getD x 0);simp(disch:=omega) only[F1,go_sem,simprocAttr,Sc,d];exact⟨by omega,rfl⟩
 simp only[F1,go_sem,simprocAttr,RR,b,e,qG,a,gQ]
structure uU(x:Tok):Prop where
 aO:x.aO<4294967296
 jn:x.jn<256
 to:x.to<256
 aT:x.aT<4294967296
structure gY(k:bo):Prop where
 b:fC k.b
 lt: ∀i,(k.b i).dc=true->i<16
 t: ∀i,uU (k.t i)
def ahM:uU Lg:=⟨by trivial,by trivial,by trivial,by trivial⟩
def gY.get{k:bo}(a:gY k)(h:Nat):uU (cb k h).1:=by
 unfold cb;split
 ·exact a.t _
 ·exact ahM
def gY.slot{k:bo}(a:gY k)(b:az k.b h=true):aL h<16:=by
 obtain⟨_,e,_⟩:=z5 b;exact a.lt _ (by rw[e])
def CB(k:bo)(j:gY k)(h:Nat)(f:h<4294967296)(H:List ae)(lo:oN):
  D X0 (.fn (.func 171) [] []) [.agg (bZ k),.int .u32 h] ⟨H,lo⟩=some (.ret (.aw [.agg (fT (cb k h).1),.int .i64 (cb k h).2]) ⟨H,lo⟩):=by
 refine aH Kw λN g=>?_
 have a:=eU k.b h f;have i:iX h= .aw [.int .i64 (aL h:Nat),.bool (fb h).isSome]:=rfl;cases d:az k.b h with
 |false=>
  rw[d]at a;have e:cb k h=(Lg,4):=by unfold cb;grind
  simp only[F1,go_sem,simprocAttr,Kw,g,a,e];rfl
 |true=>
  rw[d]at a;have e:cb k h=(k.t (aL h),0):=by unfold cb;grind
  have l:=j.slot d;have c: (aL h:Int)<16:=by omega
  have b:fT (k.t (aL h))=[.int .u32 (k.t (aL h)).aO,.int .u8 (k.t (aL h)).jn,.int .u8 (k.t (aL h)).to,.bool (k.t (aL h)).mu,.int .u32 (k.t (aL h)).aT]:=rfl;simp only[F1,go_sem,simprocAttr,Kw,g,a,e,j8 h f,i,c,aro l,b]
def TL(k:bo)(h:Nat)(d:h<4294967296)(H:List ae)(lo:oN):
  D X0 (.fn (.func 329) [] []) [.agg (bZ k),.int .u32 h] ⟨H,lo⟩=some (.ret (.bool (nV k h)) ⟨H,lo⟩):=by
 refine aH K5 λN c=>?_
 have b:=eU k.b h d;by_cases e:h=0
 ·have a: (h:Int)=0:=by omega
  simp only[F1,go_sem,simprocAttr,K5,c,a,nV]
  grind
 ·have a: ¬(h:Int)=0:=by omega
  simp only[F1,go_sem,simprocAttr,K5,c,a,b,nV]
  grind
def ahN{N:Nat}{A A' P:List ae}{ty:TypeId}(h:aQ N (A++P) v sz ty af)(b:A'.length=A.length)(c:A.length<=N):aQ N (A'++(P++M)) v sz ty af:=by
 obtain⟨a,d⟩:=h;refine⟨a,?_⟩
 grind
def wu(k:bo)(p:Tok->Bool)(n:Nat):lN:=((ba k.b).take n).filter λh=>p (cb k h).1
def atu{k:bo}{p:Tok->Bool}(h:n< (ba k.b).length):wu k p (n+1)=if p (cb k ((ba k.b).getD n default)).1 then wu k p n++[(ba k.b).getD n default]else wu k p n:=by
 unfold wu;rw[afX,aep h,aBd,getD_eq h]
 grind
def atv{k:bo}{p:Tok->Bool}: (wu k p n).length<=n:=ahk (akZ _ _) (by grind)
def jK{S:Type}(k:bo)(f:S->Tok->S)(s:S)(n:Nat):S:=((ba k.b).take n).foldl (λs h=>f s (cb k h).1) s
def atw{S:Type}{k:bo}{f:S->Tok->S}{s:S}(h:n< (ba k.b).length):jK k f s (n+1)=f (jK k f s n) (cb k ((ba k.b).getD n default)).1:=by
 unfold jK;rw[afX,aep h,amz,getD_eq h];rfl
def LP{S:Type}(k:bo)(W:gY k)(fv:AV)(p:Tok->Bool)(f:S->Tok->S)(c:S)(N:Nat)(b:S->List ae)(r: ∀s,(b s).length=N)
  (hf: ∀s x L,uU x->D X fv [.agg (fT x)] ⟨b s++L,none⟩=some (.ret (.bool (p x)) ⟨b (f s x)++L,none⟩)) (lo:oN):
  ∃w,D X (.fn (.func 281) [] []) [.agg (bZ k),fv] ⟨b c,lo⟩=some (.ret w ⟨b (jK k f c (ba k.b).length),lo⟩)/\Rv w 1 ((uw k p).map hC)/\w.refs=0:=by
 suffices hs: ∃V,D X (.fn (.func 281) [] []) [.agg (bZ k),fv] ⟨b c,lo⟩=some V/\ (λV=> ∃w,V=aU.ret w ⟨b (jK k f c (ba k.b).length),lo⟩/\Rv w 1 ((uw k p).map hC)/\w.refs=0) V by
  obtain⟨V,h1,w,rfl,h2⟩:=hs;exact⟨w,h1,h2⟩
 refine cE RJ λM hM=>?_
 obtain rfl:M=N:=by rw[<-hM,r]
 obtain⟨v,J,e1,Y⟩:=Tq k.b W.b (M+1) (b c++[.box (bZ k) none]) (by simp[r]) none;have F:D X (.fn (.func 56) [] []) [.agg (bU k.b)] ⟨b c++[.box (bZ k) none],none⟩=some _:=qE (p:=mQ) rfl e1;have g:=(jJ Y none).bS;have rf:=mA k.b;rw[adV]at F Y g;obtain⟨j,U⟩: ∃j,j=[ae.box (bZ k) none]++J:=⟨_,rfl⟩;have T: ∀s L,(b s++(j++L))[M]?=some (.box (bZ k) none):=λs L=>by rw[dB (r s),U];rfl
 rw[<-U]at F Y g;simp only[go_sem,simprocAttr,RJ,hM,F,g];refine eG (ba k.b).length (λn e H'=> ∃L,H'=b (jK k f c n)++(j++L)/\ (∃G,e 5=G/\aQ (M+j.length) H' G 1 bY ((wu k p n).map hC))/\e 1=fv/\e 2= .ptr M 0/\e 12=v/\e 13= .int .i64 (ba k.b).length/\e 14= .int .i64 n) 0 (by omega) ?_ ?_
 ·simp only[go_sem,simprocAttr];exact⟨[],by simp[jK],_,rfl,aQ.aq⟩
 rintro n hn e H' ⟨L,rfl,⟨G,e5,i⟩,e1,A,E,C,B⟩ n' u;have R:=T (jK k f c n);simp only[bX,go_sem,simprocAttr,afl,e5,E,C,B];refine⟨λhc=>?_,λhc=>?_⟩
 ·have l:n< (ba k.b).length:=by omega
  have O:=fx l;have gd:=(iE W.b).1 O;have q:=atu (p:=p) l;have I:=atw (f:=f) (s:=c) l;have K:Rd ⟨b (jK k f c n)++(j++L),none⟩ v 1 ((ba k.b).map hC):=jJ (ahN Y (by rw[r,r]) (by rw[r];omega)) none;have y:=λH lo=>up dD (CB k W ((ba k.b).getD n default) (fU gd) H lo)
  have Z:=W.get ((ba k.b).getD n default);have m:=hf (jK k f c n) (cb k ((ba k.b).getD n default)).1 (j++(L++[.box (fT (cb k ((ba k.b).getD n default)).1) none])) Z;generalize hh: (ba k.b).getD n default=h at*;generalize hx: (cb k h).1=x at*;have t:fT x=[.int .u32 x.aO,.int .u8 x.jn,.int .u8 x.to,.bool x.mu,.int .u32 x.aT]:=rfl;have sL:=atv (k:=k) (p:=p) (n:=n);have hA:=λ (a:Int)=>K.cp (k:=.i64) (a:=a)
  have hL:=K.c7 (X:=X) (off:=0) (n:=1) (agg:=false) l;rw[hh,pH]at hL;have Q: ∀o,(b (jK k f c n)++(j++(L++[o])))[n']?=some o:=λo=>by rw[<-u,<-adV j,<-adV (b _)];simp
  have P: ∀o o',(b (jK k f c n)++(j++(L++[o]))).set n' o'=b (jK k f c n)++(j++(L++[o'])):=λo o'=>by
   have e: ∀o:ae,b (jK k f c n)++(j++(L++[o]))=(b (jK k f c n)++(j++L))++[o]:=λo=>by simp
   rw[e,e,<-u,aoq _ _ (afA _)];simp
  have d:aQ (M+j.length) (b (f (jK k f c n) x)++(j++(L++[.box (fT x) none]))) G 1 bY ((wu k p n).map hC):=by
   have:=ahN (A':=b (f (jK k f c n) x)) (M:=[.box (fT x) none]) i (by rw[r,r]) (by rw[r];omega);rwa[adV]at this
  cases hp:p x
  ·rw[hp]at m q;rw[t]at m d;simp(disch:=omega) only[go_sem,simprocAttr,e1,A,e5,E,C,B,hA,hL,R,y,u,t,Q,P,m,adV,q,I];exact⟨by omega,l,_,rfl,G,rfl,d⟩
  ·rw[hp]at m q;rw[t]at m d;simp only[go_sem,simprocAttr,e1,A,e5,hA,hL,R,y,u,t,Q,P,m,adV];refine⟨by omega,rm (H0:=b (f (jK k f c n) x)++j) (ys:=[[.int .u32 (h:Nat)]]) d ⟨_,adV _ _ _⟩ (by simp[r]) (by omega) (by intro el qY;rw[afC.1 qY];rfl) rfl (by unfold room;simp;omega) λv' H2 z Bp=>?_⟩;obtain⟨L2,rfl⟩:=Bp;simp(disch:=omega) only[go_sem,simprocAttr,e1,A,E,C,B];rw[adY rfl]at q;refine⟨l,L2,by rw[I],v',rfl,?_⟩;rw[q,afI];rwa[adV]at z
 ·obtain rfl:n=(ba k.b).length:=by omega
  have ht:wu k p (ba k.b).length=uw k p:=by unfold wu uw;rw[afK]
  rw[ht]at i;have h0:b9 ((uw k p).map hC)=0:=bB (λ_=>rfl) _;rw[aQ.OY (aQ.le i (by omega)) (by omega)];refine⟨_,du rfl (aof (r _)),i.sR,cY i.sR h0⟩
theorem oi(x:Tok):fT x=[.int .u32 x.aO,.int .u8 x.jn,.int .u8 x.to,.bool x.mu,.int .u32 x.aT]:=rfl
theorem sb{N:Nat}{H:List ae}(h:v.refs=0):finish N lo v ⟨H,none⟩=(v,⟨H.take N,lo⟩):=ju (.inl rfl) (by omega)
def atx(aO:Nat)(x:Tok)(p:Nat)(H:List ae)(a:H[p]?=some (.box [.int .u32 (aO:Nat)] none))(lo:oN):
  D X (.fn (.func 334) [] [.ptr p 0]) [.agg (fT x)] ⟨H,lo⟩=some (.ret (.bool (decide (x.aO=aO))) ⟨H,lo⟩):=by
 refine fB Sg λN b=>?_
 have c: ∀L,(H++L)[p]?=_:=λL=>aZ a
 simp only[F1,go_sem,simprocAttr,Sg,b,oi,c];exact du (ahl AV.bool (afR.2 (by omega))) rfl
def aty(aa:Nat)(x:Tok)(a:uU x)(p:Nat)(H:List ae)(b:H[p]?=some (.box [.int .i64 (aa:Nat)] none))(lo:oN):
  D X (.fn (.func 282) [] [.ptr p 0]) [.agg (fT x)] ⟨H,lo⟩=some (.ret (.bool (decide (x.to=aa))) ⟨H,lo⟩):=by
 refine fB RK λN c=>?_
 have d: ∀L,(H++L)[p]?=_:=λL=>aZ b
 have:=a.to;simp(disch:=omega) only[F1,go_sem,simprocAttr,RK,c,oi,d];exact du (ahl AV.bool (afR.2 (by omega))) rfl
def TM(k:bo)(hk:gY k)(aO:Nat)(H:List ae)(lo:oN):
  ∃w,D X (.fn (.func 321) [] []) [.agg (bZ k),.int .u32 aO] ⟨H,lo⟩=some (.ret w ⟨H,lo⟩)/\Rv w 1 ((nW k aO).map hC)/\w.refs=0:=by
 obtain⟨N,c⟩: ∃N,H.length=N:=⟨_,rfl⟩;obtain⟨w,e1,b,e3⟩:=LP (S:=Unit) k hk (.fn (.func 334) [] [.ptr (N+1) 0]) (λx=>decide (x.aO=aO)) (λs _=>s) () (N+2) (λ_=>H++[.box (bZ k) none,.box [.int .u32 aO] none]) (λ_=>by grind)
  (λs x L _=>atx aO x (N+1) _ (by grind) none) none
 refine⟨w,?_,b,e3⟩;refine aH R8 λM a=>?_
 obtain rfl:M=N:=by omega
 simp only[go_sem,simprocAttr,R8,a,e1];rw[sb e3,m5 a]
def atz(k:bo)(hk:gY k)(aa:Nat)(H:List ae)(lo:oN):
  ∃w,D X (.fn (.func 214) [] []) [.agg (bZ k),.int .i64 aa] ⟨H,lo⟩=some (.ret w ⟨H,lo⟩)/\Rv w 1 ((we k aa).map hC)/\w.refs=0:=by
 obtain⟨N,d⟩: ∃N,H.length=N:=⟨_,rfl⟩;obtain⟨w,e1,c,e3⟩:=LP (S:=Unit) k hk (.fn (.func 282) [] [.ptr (N+1) 0]) (λx=>decide (x.to=aa)) (λs _=>s) () (N+2) (λ_=>H++[.box (bZ k) none,.box [.int .i64 aa] none]) (λ_=>by grind)
  (λs x L b=>aty aa x b (N+1) _ (by grind) none) none
 refine⟨w,?_,c,e3⟩;refine aH Rg λM a=>?_
 obtain rfl:M=N:=by omega
 simp only[go_sem,simprocAttr,Rg,a,e1];rw[sb e3,m5 a]
theorem ahO{α:Type}(q:α->Bool): ∀ (l:List α) (s:Bool),l.foldl (λs x=>s||q x) s=(s||l.any q)
 | [],s=>by simp
 |x::xs,s=>by rw[aqD,ahO q xs,List.any_cons,Bool.or_assoc]
def atA(k:bo)(aO ab:Nat)(s:Bool)(x:Tok)(N:Nat)(H:List ae)(h:H.length=N)(L:List ae):
  D X (.fn (.func 336) [] [.ptr (N+1) 0,.ptr (N+2) 0,.ptr (N+3) 0]) [.agg (fT x)] ⟨H++[.box (bZ k) none,.box [.int .u32 aO] none,.box [.int .u32 ab] none,.box [.bool s] none]++L,none⟩=
    some (.ret (.bool (isRight aO ab x)) ⟨H++[.box (bZ k) none,.box [.int .u32 aO] none,.box [.int .u32 ab] none,.box [.bool (s|| (isRight aO ab x&&x.mu))] none]++L,none⟩):=by
 refine fB xJ λM p=>?_
 rw[adV]at p⊢;have m:M=N+4+L.length:=by rw[<-p];simp[h];omega
 have g1: ∀a b c d f,(H++(a::b::c::d::f))[N+1]?=some b:=λa b c d f=>by rw[bE h];rfl
 have g2: ∀a b c d f,(H++(a::b::c::d::f))[N+2]?=some c:=λa b c d f=>by rw[bE h];rfl
 have j: ∀a b c d f,(H++(a::b::c::d::f))[N+3]?=some d:=λa b c d f=>by rw[bE h];rfl
 have gm: ∀a b c d o,(H++(a::b::c::d:: (L++[o])))[M]?=some o:=λa b c d o=>by
  have:H++(a::b::c::d:: (L++[o]))=(H++(a::b::c::d::L))++[o]:=by simp
  rw[this,show M=(H++(a::b::c::d::L)).length by rw[m,aer,h];simp only[afL];omega];simp
 have i: ∀a b c d f o,(H++(a::b::c::d::f)).set (N+3) o=H++(a::b::c::o::f):=λa b c d f o=>by rw[nD h];rfl
 have tk: ∀a b c d o,(H++(a::b::c::d:: (L++[o]))).take M=H++(a::b::c::d::L):=λa b c d o=>by
  have:H++(a::b::c::d:: (L++[o]))=(H++(a::b::c::d::L))++[o]:=by simp
  rw[this];exact aof (by simp[h,m];omega)
 have q:isRight aO ab x=(decide (x.aO=aO)&&decide (x.aT=ab)):=rfl;rw[q];by_cases l:x.aO=aO
 ·have e: (x.aO:Int)=aO:=by omega
  by_cases n:x.aT=ab
  ·have g: (x.aT:Int)=ab:=by omega
   cases s
   ·simp only[F1,go_sem,simprocAttr,xJ,oi,g1,g2,j,i,tk,e,g,adV,ahq,ahm];simp[l,n]
   ·simp only[F1,go_sem,simprocAttr,xJ,oi,g1,g2,j,i,tk,e,g,adV,ahq,ahm];simp[l,n]
  ·have g: ¬(x.aT:Int)=ab:=by omega
   cases s
   ·simp only[F1,go_sem,simprocAttr,xJ,oi,g1,g2,j,i,tk,e,g,adV,ahq,ahm];simp[l,n]
   ·simp only[F1,go_sem,simprocAttr,xJ,oi,g1,g2,j,i,tk,e,g,adV,ahq,ahm];simp[l,n]
 ·have e: ¬(x.aO:Int)=aO:=by omega
  cases s
  ·simp only[F1,go_sem,simprocAttr,xJ,oi,g1,j,i,tk,e,adV,ahq,ahm];simp[l]
  ·simp only[F1,go_sem,simprocAttr,xJ,oi,g1,j,i,tk,e,adV,ahq,ahm];simp[l]
def TN(k:bo)(hk:gY k)(aO ab:Nat)(H:List ae)(lo:oN):
  D X (.fn (.func 328) [] []) [.agg (bZ k),.int .u32 aO,.int .u32 ab] ⟨H,lo⟩=some (.ret (.aw [.int .i64 (Ck k aO ab:Nat),.bool (ux k aO ab)]) ⟨H,lo⟩):=by
 obtain⟨N,a⟩: ∃N,H.length=N:=⟨_,rfl⟩;obtain⟨w,e1,c,e3⟩:=LP (S:=Bool) k hk (.fn (.func 336) [] [.ptr (N+1) 0,.ptr (N+2) 0,.ptr (N+3) 0]) (isRight aO ab) (λs x=>s|| (isRight aO ab x&&x.mu)) false (N+4)
  (λs=>H++[.box (bZ k) none,.box [.int .u32 aO] none,.box [.int .u32 ab] none,.box [.bool s] none]) (λ_=>by grind) (λs x L _=>atA k aO ab s x N H a L) none
 have hm:jK k (λs x=>s|| (isRight aO ab x&&x.mu)) false (ba k.b).length=ux k aO ab:=by
  unfold jK ux;rw[afK,ahO (λh=>isRight aO ab (cb k h).1&& (cb k h).1.mu),auu]
 rw[hm]at e1;refine aH Se λM b=>?_
 obtain rfl:M=N:=by rw[<-b,a]
 simp only[F1,go_sem,simprocAttr,Se,b,e1,c.bS];rfl
section
variable(k:bo)(hk:gY k)(aO ab:Nat)(ha:ab<4294967296)(H:List ae)(lo:oN)
include hk ha
theorem ahP:D X (.fn (.func 315) [] []) [.agg (bZ k),.int .u32 aO,.int .u32 ab] ⟨H,lo⟩=some (.ret (.bool (xP k aO ab)) ⟨H,lo⟩):=by
 refine aH K1 λN e=>?_
 have d:=TN k hk aO ab;have b:=λH lo=>up dD (TL k ab ha H lo)
 have c:xP k aO ab=(nV k ab&& !ux k aO ab):=rfl;cases a:nV k ab
 ·rw[a]at b c;simp only[F1,go_sem,simprocAttr,K1,e,d,b,c,aho]
 ·rw[a]at b c;simp only[F1,go_sem,simprocAttr,K1,e,d,b,c,amq]
theorem ahQ:D X (.fn (.func 317) [] []) [.agg (bZ k),.int .u32 aO,.int .u32 ab] ⟨H,lo⟩=some (.ret (.bool (z6 k aO ab)) ⟨H,lo⟩):=by
 refine aH K2 λN e=>?_
 have d:=TN k hk aO ab;have b:=λH lo=>up dD (TL k ab ha H lo)
 have c:z6 k aO ab=(nV k ab&&decide (Ck k aO ab=0)):=rfl;cases a:nV k ab
 ·rw[a]at b c;simp only[F1,go_sem,simprocAttr,K2,e,d,b,c,aho]
 ·rw[a]at b c;simp only[F1,go_sem,simprocAttr,K2,e,d,b,c,amq];simp_all
end
section
set_option maxHeartbeats 2000000
def atB(k:bo)(B:gY k)(x:Tok)(C:uU x)(H:List ae)(lo:oN):
  D X (.fn (.func 301) [] []) [.agg (bZ k),.agg (fT x)] ⟨H,lo⟩=some (.ret (.int .i64 (qx k x:Nat)) ⟨H,lo⟩):=by
 refine aH jY λN p=>?_
 have j:=TN k B x.aO x.aT;have m:=λH lo=>up dD (TL k x.aT C.aT H lo)
 have a:=λH lo=>up dD (CB k B x.aT C.aT H lo)
 have E:=B.get x.aT;have b:qx k x=if nV k x.aT=false then 4
  else if 8<=x.jn\/8<=x.to\/x.jn=x.to\/x.aO=0 then 2
  else if x.aT≠0/\ ((cb k x.aT).1.aO≠x.aO\/ (cb k x.aT).1.to≠x.jn\/ (x.mu=true/\ (cb k x.aT).1.mu=false))then 12
  else if ux k x.aO x.aT=true\/ (x.mu=true/\0<Ck k x.aO x.aT)then 5
  else 0:=rfl
 generalize hu: (cb k x.aT).1=w at*;generalize K:Ck k x.aO x.aT=n at*;have A:=oi w;have z:=oi x;rw[A]at a;rw[z];cases s:nV k x.aT with
 |false=>
  rw[adY s]at b;rw[s]at m;simp only[F1,go_sem,simprocAttr,jY,p,j,m,a,b]
 |true=>
  rw[adU (by rw[s];simp)]at b;rw[s]at m;by_cases J:8<=x.jn
  ·rw[adY (.inl J)]at b;have d: (x.jn:Int)>=8:=by omega
   simp only[F1,go_sem,simprocAttr,jY,p,j,m,a,b,d]
  ·have d: ¬(x.jn:Int)>=8:=by omega
   by_cases I:8<=x.to
   ·rw[adY (.inr (.inl I))]at b;have e: (x.to:Int)>=8:=by omega
    simp only[F1,go_sem,simprocAttr,jY,p,j,m,a,b,d,e]
   ·have e: ¬(x.to:Int)>=8:=by omega
    by_cases G:x.jn=x.to
    ·rw[adY (.inr (.inr (.inl G)))]at b;have f:decide ((x.jn:Int)=x.to)=true:=aet (by omega);simp only[F1,go_sem,simprocAttr,jY,p,j,m,a,b,d,e,f]
    ·have f: ¬(x.jn:Int)=x.to:=by omega
     by_cases F:x.aO=0
     ·rw[adY (.inr (.inr (.inr F)))]at b;have g:decide ((x.aO:Int)=0)=true:=aet (by omega);simp only[F1,go_sem,simprocAttr,jY,p,j,m,a,b,d,e,f,g]
     ·have g: ¬(x.aO:Int)=0:=by omega
      rw[adU (by omega)]at b;by_cases u:x.aT=0
      ·have i:decide (¬(x.aT:Int)=0)=false:=aeq (by omega);rw[adU (λh=>h.1 u)]at b;cases hm:ux k x.aO x.aT
       ·rw[hm]at j b;cases r:x.mu
        ·rw[r,adU (by simp)]at b;simp only[F1,go_sem,simprocAttr,jY,p,j,m,a,b,d,e,f,g,i]
        ·rw[r]at b;by_cases c:0<n
         ·have t: (n:Int)>0:=by omega
          rw[adY (.inr ⟨rfl,c⟩)]at b;simp only[F1,go_sem,simprocAttr,jY,p,j,m,a,b,d,e,f,g,i,t]
         ·have t: ¬(n:Int)>0:=by omega
          rw[adU (by simp;omega)]at b;simp only[F1,go_sem,simprocAttr,jY,p,j,m,a,b,d,e,f,g,i,t]
       ·rw[hm]at j b;rw[adY (.inl rfl)]at b;simp only[F1,go_sem,simprocAttr,jY,p,j,m,a,b,d,e,f,g,i]
      ·have i: ¬(x.aT:Int)=0:=by omega
       by_cases y:w.aO=x.aO
       ·have l:decide (¬(w.aO:Int)=x.aO)=false:=aeq (by omega);by_cases v:w.to=x.jn
        ·have o:decide (¬(w.to:Int)=x.jn)=false:=aeq (by omega);cases r:x.mu
         ·rw[r,adU (by simp[y,v])]at b;cases hm:ux k x.aO x.aT
          ·rw[hm,adU (by simp)]at b;rw[hm]at j;simp only[F1,go_sem,simprocAttr,jY,p,j,m,a,b,d,e,f,g,i,l,o]
          ·rw[hm]at j b;rw[adY (.inl rfl)]at b;simp only[F1,go_sem,simprocAttr,jY,p,j,m,a,b,d,e,f,g,i,l,o]
         ·cases q:w.mu
          ·rw[r,q,adY (by simp[u])]at b;simp only[F1,go_sem,simprocAttr,jY,p,j,m,a,b,d,e,f,g,i,l,o,q]
          ·rw[r,q,adU (by simp[y,v])]at b;cases hm:ux k x.aO x.aT
           ·rw[hm]at j b;by_cases c:0<n
            ·have t: (n:Int)>0:=by omega
             rw[adY (.inr ⟨rfl,c⟩)]at b;simp only[F1,go_sem,simprocAttr,jY,p,j,m,a,b,d,e,f,g,i,l,o,q,t]
            ·have t: ¬(n:Int)>0:=by omega
             rw[adU (by simp;omega)]at b;simp only[F1,go_sem,simprocAttr,jY,p,j,m,a,b,d,e,f,g,i,l,o,q,t]
           ·rw[hm]at j b;rw[adY (.inl rfl)]at b;simp only[F1,go_sem,simprocAttr,jY,p,j,m,a,b,d,e,f,g,i,l,o,q]
        ·have o: ¬(w.to:Int)=x.jn:=by omega
         rw[adY ⟨u,.inr (.inl v)⟩]at b;simp only[F1,go_sem,simprocAttr,jY,p,j,m,a,b,d,e,f,g,i,l,o]
       ·have l: ¬(w.aO:Int)=x.aO:=by omega
        rw[adY ⟨u,.inl y⟩]at b;simp only[F1,go_sem,simprocAttr,jY,p,j,m,a,b,d,e,f,g,i,l]
end
theorem ahR:sW.length=176:=by rfl
theorem ahS:List.drop 176 sW=[]:=by rfl
theorem ahT{k:bo}:List.drop 176 (bZ k)=[]:=by rfl
def qH:type_of% ahR/\type_of% ahS/\type_of% @ahT/\type_of% Lo/\type_of% Lp:=⟨ahR,ahS,@ahT,Lo,Lp⟩
def atC(k:bo)(q:gY k)(x:Tok)(w:uU x)(H:List ae)(lo:oN):
  D X (.fn (.func 268) [] []) [.agg (bZ k),.agg (fT x)] ⟨H,lo⟩=some (.ret (.aw [.agg (bZ (lR k x).1),.int .u32 (lR k x).2.1,.int .i64 (lR k x).2.2]) ⟨H,lo⟩):=by
 refine aH Cb λN r=>?_
 have hm:=atB k q x w;have e:=λH lo=>up dD (agM k.b q.b H lo)
 have a:=oi x;have d:lR k x=if qx k x≠0 then(k,0,qx k x)
  else match nU k.b with
  |some i=>if i<16 then({b:=ar k.b i {k.b i with dc:=true},t:=ar k.t i x},dh i (k.b i).gen,0)else(k,0,7)
  |none=>(k,0,7):=rfl
 by_cases c:qx k x=0
 ·rw[adU (by omega)]at d;have p:decide (¬(qx k x:Int)=0)=false:=aeq (by omega);cases j:nU k.b with
  |none=>
   rw[j]at d;simp only at d;have s:=λH lo=>up dD (j8 0 (by omega) H lo)
   have m: ∀H lo,D X (.fn (.func 82) [] []) [.int .u32 0] ⟨H,lo⟩=some (.ret (iX 0) ⟨H,lo⟩):=s;have u:iX 0= .aw [.int .i64 0,.bool false]:=rfl;rw[a]at hm;rw[a];simp only[F1,go_sem,simprocAttr,Cb,r,hm,p,e,uO,qu,j,m,u,qH,d]
  |some i=>
   rw[j]at d;simp only at d;obtain⟨n,A,z,y⟩:=rP j;have v:fb (dh i (k.b i).gen)=some i:=K9 n (q.b i).1;have l:=λH lo=>up dD (j8 (dh i (k.b i).gen) (FV n (q.b i).1) H lo)
   by_cases h:i<16
   ·rw[adY h]at d;have f: ¬(i:Int)>=16:=by omega
    have o: (i:Int)<16:=by omega
    have g:=arp (k:={k with b:=ar k.b i {k.b i with dc:=true}}) (x:=x) h;rw[a]at hm g;rw[a];simp only[F1,go_sem,simprocAttr,Cb,r,hm,p,e,uO,qu,j,l,iX,v,f,o,qH,agm,g,d];exact⟨by simp,by omega⟩
   ·rw[adU h]at d;have f: (i:Int)>=16:=by omega
    rw[a]at hm;rw[a];simp only[F1,go_sem,simprocAttr,Cb,r,hm,p,e,uO,qu,j,l,iX,v,f,qH,d]
 ·rw[adY c]at d;have p: ¬(qx k x:Int)=0:=by omega
  rw[a]at hm;rw[a];simp only[F1,go_sem,simprocAttr,Cb,r,hm,p,qH,d]
def ahU{k:bo}(a:gY k): ∀l,gY (nX k l):=by
 intro l
 induction l generalizing k with
 |nil=>exact a
 |cons h l b=>
  refine b ⟨FW a.b h,λi c=>?_,a.t⟩;refine a.lt i ?_;revert c;show((dN k.b h).1 i).dc=true->_;unfold dN;split
  ·show(ar k.b (aL h) (oX (k.b (aL h))) i).dc=true->_;by_cases e:i=aL h
   ·rw[e,cF];unfold oX;grind
   ·rw[da e];exact id
  grind
def atD{k:bo}{l:lN}(h:n<l.length):nX k (l.take (n+1))={nX k (l.take n)with b:=(dN (nX k (l.take n)).b (l.getD n default)).1}:=by
 unfold nX;rw[afX,aep h,amz,getD_eq h];rfl
def ahV(k:bo)(r:gY k)(w:AV)(l:lN)(H:List ae)(c:Rd ⟨H,none⟩ w 1 (l.map hC))(q: ∀h∈l,h<4294967296)(p:l.length<2^40)(lo:oN):
  D X (.fn (.func 305) [] []) [.agg (bZ k),w] ⟨H,lo⟩=some (.ret (.agg (bZ (nX k l))) ⟨H,lo⟩):=by
 refine aH RW λN t=>?_
 have a: ∀L lo,gl ⟨H++L,lo⟩ .sl w=some (.int .i64 l.length):=λL lo=>(c.ext (L:=L) (aj:=lo)).bS
 simp only[go_sem,simprocAttr,RW,t,a];refine eG l.length (λn e H'=>H'=H++[.box (bZ (nX k (l.take n))) none,.box sW none]/\e 2= .ptr N 0/\e 4= .ptr (N+1) 0/\e 7=w/\e 8= .int .i64 l.length/\e 9= .int .i64 n) 0 (by omega) ?_ ?_
 ·trivial
 rintro n x e H' ⟨rfl,j,i,e7,e8,g⟩ v o;simp(disch:=omega) only[bX,F1,go_sem,simprocAttr,aft,j,i,e7,e8,g];refine⟨λs=>?_,λs=>?_⟩
 ·have b:n<l.length:=by omega
  have f:=ahU r (l.take n);have m:=λH lo=>up dD (agN (nX k (l.take n)).b f.b (l.getD n default) (q _ (fx b)) H lo)
  have d:=atD (k:=k) b;have u: ∀L lo,cm X ⟨H++L,lo⟩ false 1 (gg w n 0)=some (.int .u32 (l.getD n default:Nat)):=λL lo=>by rw[(c.ext (L:=L) (aj:=lo)).c7 b,pH]
  simp(disch:=omega) only[go_sem,simprocAttr,c.cp,u,m,z9,agm,j,i,e7,e8,g];exact⟨by omega,b,by rw[d]⟩
 ·obtain rfl:n=l.length:=by omega
  rw[afK];simp only[go_sem,simprocAttr,qH]
def atE(k:bo)(c:gY k)(a:Nat)(H:List ae)(lo:oN):
  D X (.fn (.func 291) [] []) [.agg (bZ k),.int .u32 a] ⟨H,lo⟩=some (.ret (.agg (bZ (Ll k a))) ⟨H,lo⟩):=by
 refine aH RN λN d=>?_
 obtain⟨w,e1,e,e3⟩:=TM k c a (H++[.box (bZ k) none,.box sW none]) none;have b:=λH lo=>ahV k c w (nW k a) H (e _) (λh hm=>fU ((iE c.b).1 (afY.1 hm).1)) (by have:=mA k.b;have: (nW k a).length<=_:=akZ _ _;omega) lo
 have f:nX k (nW k a)=Ll k a:=rfl;simp only[F1,go_sem,simprocAttr,RN,d,e1,b,qH,f]
def om(h:Nat):AV×AV:=(.int .u32 h,.bool true)
def nr(a:lN)(k:Nat):lN:=if k∈a then a else a++[k]
def ahW(a b:Nat):pO (.int .u32 a) (.int .u32 b)=some (decide (a=b)):=by
 have h:pO (.int .u32 (a:Nat)) (.int .u32 (b:Nat))=some ((a:Int)==(b:Int)):=rfl;rw[h]
 congr 1
 grind
theorem ahX(k:Nat): ∀b:lN,eC (.int .u32 k) (b.map om)=some (if k∈b then some (.bool true)else none)
 | []=>rfl
 |a::b=>by
  simp only[ak9,om,eC,ahW];by_cases h:k=a
  ·grind
  ·simp only[h,aCd,ag7,false_or];exact ahX k b
theorem ahY(k:Nat): ∀b:lN,mf (.int .u32 k) (.bool true) (b.map om)=some ((nr b k).map om)
 | []=>rfl
 |a::b=>by
  simp only[ak9,om,mf,ahW];unfold nr;by_cases h:k=a
  ·subst h;simp[om]
  ·simp only[h,aCd,ag7,false_or];rw[ahY k b];unfold nr;split<;>rfl
def atF{gm:Nat->Option (List (AV×AV))}{H:List ae}{id:Nat}{a:lN}(h:H[id]?=some (.map (a.map om)))(k:Nat):jz gm ⟨H,lo⟩ .int (.bool false) (.mp id) (.int .u32 k) false=some (.bool (a.contains k)):=by
 unfold jz;rw[adY (show lj .int (.int .u32 (k:Nat))=true from rfl)];simp only[mapOf,h,ahX]
 grind
def atG{H:List ae}{id:Nat}{a:lN}(h:H[id]?=some (.map (a.map om)))(k:Nat):mY ⟨H,lo⟩ .int (.mp id) (.int .u32 k) (.bool true)=some ⟨H.set id (.map ((nr a k).map om)),lo⟩:=by
 unfold mY;simp only[h,ahY];rfl
theorem atH{a:lN}{k:Nat}:x∈nr a k↔x=k\/x∈a:=by
 unfold nr
 grind
def atI{l:lN}: ∀ {b:lN} {x:Nat},x∈l.foldl nr b↔x∈l\/x∈b:=by
 induction l with
 |nil=>simp
 |cons a l c=>grind [atH]
def x5(k:bo):Nat->Nat->Prop
 |0,_=>False
 |n+1,h=> ∀x∈S2 k h,x5 k n x
def dE(k:bo)(N:Nat)(H:List ae)(m:lN):List ae:=H++[.box (bZ k) none,.box sW none,.map (m.map om),.box [.mp (N+2)] none,.box [.fn (.func 303) [] [.ptr (N+3) 0,.ptr N 0,.ptr (N+4) 0]] none]
def CD{k:bo}{N:Nat}{H:List ae}(a:H.length=N)(m:lN): (dE k N H m).length=N+5:=by simp[dE,a]
def atJ(h:Nat)(x:Tok)(p:Nat)(H:List ae)(a:H[p]?=some (.box [.int .u32 (h:Nat)] none))(lo:oN):
  D X (.fn (.func 304) [] [.ptr p 0]) [.agg (fT x)] ⟨H,lo⟩=some (.ret (.bool (decide (x.aT=h))) ⟨H,lo⟩):=by
 refine fB RU λN b=>?_
 have c: ∀L,(H++L)[p]?=_:=λL=>aZ a
 simp only[F1,go_sem,simprocAttr,RU,b,oi,c];exact du (ahl AV.bool (afR.2 (by omega))) rfl
def atK(k:bo)(A:gY k)(N:Nat)(H:List ae)(d:H.length=N): ∀ (n h:Nat),h<4294967296->x5 k n h-> ∀ (m:lN) (L:List ae),
  D X (.fn (.func 303) [] [.ptr (N+3) 0,.ptr N 0,.ptr (N+4) 0]) [.int .u32 h] ⟨dE k N H m++L,none⟩=some (.ret (.aw []) ⟨dE k N H ((nY k n h).foldl nr m)++L,none⟩):=by
 intro n
 induction n with
 |zero=>intro h _ u;exact u.elim
 |succ n C=>
  intro h R u m L;refine fB RT λM B=>?_
  have g:M=N+5+L.length:=by rw[<-B,aer,CD d]
  have O: ∀m a,(dE k N H m++a)[N]?=some (.box (bZ k) none):=λm a=>by unfold dE;rw[adV,dB d];rfl
  have g2: ∀m a,(dE k N H m++a)[N+2]?=some (.map (m.map om)):=λm a=>by unfold dE;rw[adV,bE d];rfl
  have K: ∀m a,(dE k N H m++a)[N+3]?=some (.box [.mp (N+2)] none):=λm a=>by unfold dE;rw[adV,bE d];rfl
  have J: ∀m a,(dE k N H m++a)[N+4]?=some (.box [.fn (.func 303) [] [.ptr (N+3) 0,.ptr N 0,.ptr (N+4) 0]] none):=λm a=>by unfold dE;rw[adV,bE d];rfl
  have gm: ∀m o,(dE k N H m++(L++[o]))[M]?=some o:=λm o=>by
   have:M=(dE k N H m++L).length:=by rw[g,aer,CD d]
   rw[<-adV,this];simp
  have s2: ∀m m' a,(dE k N H m++a).set (N+2) (.map (m'.map om))=dE k N H m'++a:=λm m' a=>by unfold dE;rw[adV,nD d,adV];rfl
  have tk: ∀m o,(dE k N H m++(L++[o])).take M=dE k N H m++L:=λm o=>by
   rw[<-adV];exact aof (by rw[g,aer,CD d])
  have v: ∀m a lo,mY ⟨dE k N H m++a,lo⟩ .int (.mp (N+2)) (.int .u32 (h:Nat)) (.bool true)=some ⟨dE k N H (nr m h)++a,lo⟩:=λm a lo=>by rw[atG (g2 m a),s2]
  obtain⟨w,e1,r,e3⟩:=LP (S:=Unit) k A (.fn (.func 304) [] [.ptr M 0]) (λx=>decide (x.aT=h)) (λs _=>s) () (M+1) (λ_=>dE k N H (nr m h)++(L++[.box [.int .u32 h] none])) (λ_=>by rw[g,aer,CD d];simp;omega)
   (λs x a _=>atJ h x M _ (aZ (gm _ _)) none) none
  simp only[go_sem,simprocAttr,RT,B,O,K,gm,v,e1,r.bS,adV];obtain⟨b,c⟩: ∃b,b=S2 k h:=⟨_,rfl⟩;have i:uw k (λx=>decide (x.aT=h))=b:=c.symm;rw[i]at r⊢;have F:b.length<=32:=by rw[c];exact ahk (akZ _ _) (mA k.b)
  have z: ∀j,j<b.length->(b.take (j+1)).flatMap (nY k n)=(b.take j).flatMap (nY k n)++nY k n (b.getD j default):=λj y=>by
   rw[afX,aep y,ak1,getD_eq y];simp
  refine eG b.length (λj e H'=>H'=dE k N H (((b.take j).flatMap (nY k n)).foldl nr (nr m h))++(L++[.box [.int .u32 h] none])/\e 3= .ptr (N+4) 0/\e 11=w/\e 12= .int .i64 b.length/\e 13= .int .i64 j) 0 (by omega) ?_ ?_
  ·simp only[go_sem,simprocAttr];simp
  rintro j y e H' ⟨rfl,P,q,p,l⟩ Q E;simp only[bX,F1,go_sem,simprocAttr,afs,q,p,l];refine⟨λI=>?_,λI=>?_⟩
  ·have f:j<b.length:=by omega
   have hm:=fx f;have t:az k.b (b.getD j default)=true:=(iE A.b).1 (by rw[c]at hm⊢;exact(afY.1 hm).1);have G:=C (b.getD j default) (fU t) (u _ (by rw[c]at hm⊢;exact hm)) (((b.take j).flatMap (nY k n)).foldl nr (nr m h)) (L++[.box [.int .u32 h] none]);simp(disch:=omega) only[go_sem,simprocAttr,r.cp,r.c7,↓pH,P,q,p,l,J,G];refine⟨by omega,f,?_⟩;rw[z j f,amz]
  ·obtain rfl:j=b.length:=by omega
   rw[afK];simp only[go_sem,simprocAttr,tk];rw[c];rfl
def x6(k:bo)(h n:Nat):lN:=((ba k.b).take n).filter λx=>(nY k 16 h).contains x
def atL{k:bo}(a:n< (ba k.b).length):x6 k h (n+1)=if(nY k 16 h).contains ((ba k.b).getD n default)then x6 k h n++[(ba k.b).getD n default]else x6 k h n:=by
 unfold x6;rw[afX,aep a,aBd,getD_eq a]
 grind
def atM{k:bo}: (x6 k h n).length<=n:=ahk (akZ _ _) (by grind)
def ahZ(k:bo)(A:gY k)(h:Nat)(Y:h<4294967296)(ht:az k.b h=true->x5 k 16 h)(H:List ae)(lo:oN):
  ∃w,D X (.fn (.func 269) [] []) [.agg (bZ k),.int .u32 h] ⟨H,lo⟩=some (.ret (.aw [.agg (bZ (mB k h).1),w,.int .i64 (mB k h).2.2]) ⟨H,lo⟩):=by
 suffices hs: ∃z,D X (.fn (.func 269) [] []) [.agg (bZ k),.int .u32 h] ⟨H,lo⟩=some z/\ (λz=> ∃w,z=aU.ret (.aw [.agg (bZ (mB k h).1),w,.int .i64 (mB k h).2.2]) ⟨H,lo⟩) z by
  obtain⟨z,h1,w,rfl⟩:=hs;exact⟨w,h1⟩
 refine cE KR λN c=>?_
 have j:=λH lo=>up dD (eU k.b h Y H lo)
 cases y:az k.b h with
 |false=>
  rw[y]at j;have V:mB k h=(k,[],4):=by unfold mB;rw[y];rfl
  simp only[F1,go_sem,simprocAttr,KR,c,j,qH,V];exact⟨_,rfl⟩
 |true=>
  rw[y]at j;have V:mB k h=(nX k (rQ k h),rQ k h,0):=by unfold mB;rw[y];rfl
  have B:=atK k A N H c 16 h Y (ht y) [] [];have F: ∀m,dE k N H m=H++[.box (bZ k) none,.box sW none,.map (m.map om),.box [.mp (N+2)] none,.box [.fn (.func 303) [] [.ptr (N+3) 0,.ptr N 0,.ptr (N+4) 0]] none]:=λ_=>rfl
  rw[afW,afW,F []]at B;obtain⟨m,hm⟩: ∃m,m=(nY k 16 h).foldl nr []:=⟨_,rfl⟩;rw[<-hm]at B;obtain⟨v,J,i1,i2⟩:=Tq k.b A.b (N+5) (dE k N H m) (CD c m) none;have C:D X (.fn (.func 56) [] []) [.agg (bU k.b)] ⟨dE k N H m,none⟩=some _:=qE (p:=mQ) rfl i1;have g0: ∀d,(dE k N H m++d)[N]?=some (.box (bZ k) none):=λd=>by unfold dE;rw[adV,dB c];rfl
  have g:=(jJ i2 none).bS;have I:max (N+3+1) (max (N+1) (N+4+1))<=N+4+1:=by omega
  simp only[asC]at B;have P:N<=N+1:=Nat.le_succ N;have R: (dE k N H m)[N]?=some (.box (bZ k) none):=by have:=g0 [];rwa[afW]at this
  simp only[go_sem,simprocAttr,KR,c,j,B,C,g,I,P,R];have g1: ∀d,(dE k N H m++d)[N+1]?=some (.box sW none):=λd=>by unfold dE;rw[adV,bE c];rfl
  have g2: ∀d,(dE k N H m++d)[N+2]?=some (.map (m.map om)):=λd=>by unfold dE;rw[adV,bE c];rfl
  have Z: ∀d,(dE k N H m++d)[N+3]?=some (.box [.mp (N+2)] none):=λd=>by unfold dE;rw[adV,bE c];rfl
  have K: ∀x,m.contains x=(nY k 16 h).contains x:=λx=>by
   rw[aoo,awn,awn,hm,atI];simp
  have rf:=mA k.b;refine eG (ba k.b).length (λn e H'=> ∃L,H'=dE k N H m++(J++L)/\ (∃l,e 9=l/\aQ (N+5+J.length) H' l 1 bY ((x6 k h n).map hC))/\e 2= .ptr N 0/\e 4= .ptr (N+1) 0/\e 7= .ptr (N+3) 0/\e 25=v/\e 26= .int .i64 (ba k.b).length/\e 27= .int .i64 n) 0 (by omega) ?_ ?_
  ·simp only[go_sem,simprocAttr];exact⟨[],by simp,_,rfl,aQ.aq⟩
  rintro n hn e H' ⟨L,rfl,⟨l,S,a⟩,U,T,e7,t,s,r⟩ n' Hx;simp only[bX,go_sem,simprocAttr,afj,U,t,s,r];refine⟨λhc=>?_,λhc=>?_⟩
  ·have i:n< (ba k.b).length:=by omega
   have b:=atL (k:=k) (h:=h) i;have o:Rd ⟨dE k N H m++(J++L),none⟩ v 1 ((ba k.b).map hC):=jJ (by have:=i2.ext (L:=L);rwa[adV]at this) none;have Q:=o.c7 (X:=X) (off:=0) (n:=1) (agg:=false) i;rw[pH]at Q;generalize(ba k.b).getD n default=x at*;have f: ∀gm,jz gm ⟨dE k N H m++(J++L),none⟩ .int (.bool false) (.mp (N+2)) (.int .u32 (x:Nat)) false=some (.bool ((nY k 16 h).contains x)):=λgm=>by rw[atF (g2 _),K]
   have sL:=atM (k:=k) (h:=h) (n:=n);cases W: (nY k 16 h).contains x
   ·rw[W]at f b;simp(disch:=omega) only[go_sem,simprocAttr,U,T,e7,S,t,s,r,o.cp,Q,Z,f];rw[adU (by simp)]at b;exact⟨by omega,i,L,rfl,l,rfl,by rw[b];exact a⟩
   ·rw[W]at f b;simp only[go_sem,simprocAttr,e7,S,o.cp,Q,Z,f];refine⟨by omega,rm (H0:=dE k N H m++J) (ys:=[[.int .u32 (x:Nat)]]) a ⟨_,adV _ _ _⟩ (by rw[aer,CD c]) (by omega) (by intro el O;rw[afC.1 O];rfl) rfl (by unfold room;simp;omega) λv' H2 q G=>?_⟩;obtain⟨L2,rfl⟩:=G;simp(disch:=omega) only[go_sem,simprocAttr,U,T,e7,t,s,r];rw[adY rfl]at b;refine⟨i,L2,by simp,v',rfl,?_⟩;rw[b,afI];rwa[adV]at q
  ·obtain rfl:n=(ba k.b).length:=by omega
   have M:x6 k h (ba k.b).length=rQ k h:=by unfold x6 rQ;rw[afK]
   rw[M]at a;have E:=ahV k A l (rQ k h) (dE k N H m++(J++L)) (jJ a none) (λx hx=>fU ((iE A.b).1 (afY.1 hx).1)) (by have: (rQ k h).length<=_:=akZ _ _;omega) none;simp only[go_sem,simprocAttr,T,S,g0,g1,E,qH,cG (g1 _)];have u:iQ N H (dE k N H m++(J++L)):=by unfold dE;rw[adV];exact iQ.app c
   have ho:aQ N ((dE k N H m++(J++L)).set (N+1) (ae.box (bZ (nX k (rQ k h))) none)) l 1 bY ((rQ k h).map hC):=aQ.nq (aQ.le a (by omega)) (g1 _);rw[V,aht (.inl rfl) ho ?_ ?_ ?_]
   ·exact⟨bu l ((rQ k h).map hC),du rfl ((u.set (by omega)).take c)⟩
   ·rw[bB (λ_=>rfl)];omega
   ·simp[AV.refs,Lb]
   ·simp[AV.refs]
end Go.Proofs.YteplichagkpciaaGreatDoor
