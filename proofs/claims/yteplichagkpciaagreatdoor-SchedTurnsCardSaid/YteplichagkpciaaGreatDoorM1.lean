/- What functions do; conditions as stated. -/
import Derived.Test.YteplichagkpciaaGreatDoorC
import Derived.Test.YteplichagkpciaaGreatDoorD2
set_option linter.all false
set_option maxRecDepth 10000
set_option maxHeartbeats 1000000
namespace Go.Proofs.YteplichagkpciaaGreatDoor
open Go Go.Den
variable{α:Type}{f:FuncId}{i j n sz h a x p aj b aa:Nat}{v:AV}{l:List α}{pf:PF}{lo ak:oN}{af:List lA}{M:List ae}
def ag7:=@decide_eq_false
def ag9:=@decide_eq_true
def ahe:=@List.mem_singleton
def aht:=@decide_eq_decide
def akI:=@Bool.false_and
def amL:=@List.length_filter_le
def amM:=@List.mem_cons_self
def anu:=@List.set_set
def ao4:=@List.foldl_append
def apM:=@Int.natCast_add
def apN:=@Bool.eq_iff_iff
def apP:=@List.length_pos_iff
def arb:=@List.findIdx?_eq_some_iff_getElem
def arl:=@Int.cast_ofNat_Int
def arT:=@List.prefix_rfl
def arX:=@List.map_eq_nil_iff
def atO:=@Bool.and_false
def aul:=@List.getElem_of_mem
def ayQ:=@Option.isSome_some
def ayY:=@Option.isSome_none
def azt:=@List.filter_append
def aCU:=@Bool.not_false
def aC4:=@Nat.xor_lt_two_pow
def aC9:=@eq_true
def aDy:=@Nat.and_two_pow_sub_one_eq_mod
def aq{α:Type}(f:Nat->α)(i:Nat)(x:α):Nat->α:=λj=>if j=i then x else f j
theorem cT{f:Nat->α}{x:α}:aq f i x i=x:=afJ rfl
theorem dj{f:Nat->α}{x:α}(h:j≠i):aq f i x j=f j:=afB h
def mH{f:Nat->α}:aq f i (f i)=f:=by
 unfold aq;grind
def sI{f:Nat->α}{x y:α}:aq (aq f i x) i y=aq f i y:=by
 unfold aq;grind
def pT{β:Type}(g:α->β)(f:Nat->α)(i:Nat)(x:α): (λj=>g (aq f i x j))=aq (λj=>g (f j)) i (g x):=by
 unfold aq;grind
def arr(n:Nat)(f:Nat->lA):lA:=(List.range n).flatMap f
theorem zp(n:Nat)(f:Nat->lA):arr (n+1) f=arr n f++f n:=by
 simp[arr,ary]
theorem zq{k:Nat}{f:Nat->lA}(h: ∀i,(f i).length=k): ∀n,(arr n f).length=n*k
 |0=>by simp[arr]
 |n+1=>by rw[zp,ahc,zq h n,h,arq]
theorem zr{f g:Nat->lA}: ∀ {n:Nat},(∀i,i<n->f i=g i)->arr n f=arr n g
 |0,_=>rfl
 |n+1,h=>by rw[zp,zp,zr (n:=n) λi j=>h i (by omega),h n (by omega)]
def asV(n m:Nat)(f:Nat->lA):arr (n+m) f=arr n f++arr m (λj=>f (n+j)):=by
 induction m with
 |zero=>simp[arr]
 |succ m h=>grind [Nat.add_assoc,zp,List.append_assoc]
def Ur{f:Nat->lA}(h:i<n):arr n f=arr i f++(f i++arr (n-i-1) λj=>f (i+1+j)):=by
 obtain⟨m,rfl⟩: ∃m,n=i+1+m:=⟨n-i-1,by omega⟩;rw[asV,zp,afL,show i+1+m-i-1=m by omega]
theorem Mb{f:Nat->lA}(h: ∀i,aG (f i)=0): ∀n,aG (arr n f)=0
 |0=>rfl
 |n+1=>by
  rw[zp];have: ∀a b:lA,aG (a++b)=max (aG a) (aG b):=by
   intro a b
   induction a with
   |nil=>rfl
   |cons x a j=>simp[aG,j,Nat.max_assoc]
  rw[this,Mb h n,h];rfl
def F7(a b:lA):aG (a++b)=max (aG a) (aG b):=by
 induction a with
 |nil=>rfl
 |cons x a f=>simp[aG,f,Nat.max_assoc]
section
variable{ag:Bool}{m off:Nat}{a r vs:lA}
theorem kh(h:a.length<=off):Den.part ag m (a++r) off=Den.part ag m r (off-a.length):=by
 unfold Den.part;cases ag
 ·grind
 ·grind [List.drop_append,List.drop_eq_nil_of_le,List.length_append]
theorem rh(h:off+m<=a.length)(f:0<m):Den.part ag m (a++r) off=Den.part ag m a off:=by
 unfold Den.part
 grind
theorem F8(h:a.length=m):Den.part true m a 0=some (.agg a):=by
 unfold Den.part
 grind
def ki{k o:Nat}{f:Nat->lA}(h: ∀i,(f i).length=k)(j:i<n)(ho:o+m<=k)(l:0<m):Den.part ag m (arr n f) (i*k+o)=Den.part ag m (f i) o:=by
 rw[Ur j,kh (by rw[zq h];omega),zq h,show i*k+o-i*k=o by omega,rh (by grind) l]
def gr(h:a.length<=off):aH (a++r) off vs=a++aH r (off-a.length) vs:=by
 unfold aH;rw[azJ,ag8 h,awD,al6 (by omega),aj8,afL,show off+vs.length-a.length=off-a.length+vs.length by omega]
def ri(h:off+vs.length<=a.length):aH (a++r) off vs=aH a off vs++r:=by
 unfold aH
 grind
def rj(h:a.length=vs.length):aH a 0 vs=vs:=by
 unfold aH
 grind
def nf{k o:Nat}{f:Nat->lA}(h: ∀i,(f i).length=k)(l:i<n)(ho:o+vs.length<=k):aH (arr n f) (i*k+o) vs=arr n (aq f i (aH (f i) o vs)):=by
 have e1:arr i (aq f i (aH (f i) o vs))=arr i f:=zr λj q=>dj (by omega)
 have p: (arr (n-i-1) λj=>aq f i (aH (f i) o vs) (i+1+j))=arr (n-i-1) λj=>f (i+1+j):=zr λj _=>dj (by omega)
 rw[Ur (f:=aq f i (aH (f i) o vs)) l,cT,e1,p];rw[Ur l,gr (by rw[zq h];omega),zq h,show i*k+o-i*k=o by omega,ri (by grind)]
end
def Us{ag:Bool}{k:Nat}{cs:lA}(f:k<n)(h:Den.part ag sz cs (k*sz)=some v):qz ag n sz (.agg cs) (.int .i64 k)=some v:=by
 have:qz ag n sz (.agg cs) (.int .i64 k)=if 0<=(k:Int)/\ (k:Int)<n then Den.part ag sz cs ((k:Int).toNat*sz)else none:=rfl
 grind
theorem ag4{id off:Nat}:Den.uJ n (.ptr id off)= .rd id off (Nat.max n 1):=rfl
theorem ag5{id off:Nat}:Ii n (.ptr id off)= .wr id off n:=rfl
@[irreducible]def cat (H L:List ae):List ae:=H++L
section
variable{H L M:List ae}{a b c d e g x:ae}{n:Nat}
theorem dQ:cat H L=H++L:=by unfold cat;rfl
def F9: (cat H L).length=H.length+L.length:=by rw[dQ,ahc]
def Ut:cat H L++M=cat H (L++M):=by rw[dQ,dQ,afL]
def ct2(h:H.length=n): (cat H L++M).take n=H:=by rw[dQ,afL];grind
def ct1(h:H.length=n): (cat H L).take n=H:=by rw[dQ];grind
def cg0(h:H.length=n): (cat H (a::L)++M)[n]?=some a:=by rw[dQ,afL,di h];rfl
def PH(h:H.length=n): (cat H (a::L)++M).set n x=cat H (x::L)++M:=by grind [dQ,List.append_assoc,DO]
def cp0(h:H.length=n): (cat H (a::L))[n]?=some a:=by rw[dQ,di h];rfl
def cq0(h:H.length=n): (cat H (a::L)).set n x=cat H (x::L):=by grind [dQ,DO]
def cg1(h:H.length=n): (cat H (a::b::L)++M)[n+1]?=some b:=by rw[dQ,afL,bA h];rfl
def cs1(h:H.length=n): (cat H (a::b::L)++M).set (n+1) x=cat H (a::x::L)++M:=by grind [dQ,List.append_assoc,mZ]
def cp1(h:H.length=n): (cat H (a::b::L))[n+1]?=some b:=by rw[dQ,bA h];rfl
def cq1(h:H.length=n): (cat H (a::b::L)).set (n+1) x=cat H (a::x::L):=by grind [dQ,mZ]
def cg2(h:H.length=n): (cat H (a::b::c::L)++M)[n+2]?=some c:=by rw[dQ,afL,bA h];rfl
def cs2(h:H.length=n): (cat H (a::b::c::L)++M).set (n+2) x=cat H (a::b::x::L)++M:=by grind [dQ,List.append_assoc,mZ]
def cp2(h:H.length=n): (cat H (a::b::c::L))[n+2]?=some c:=by rw[dQ,bA h];rfl
def cq2(h:H.length=n): (cat H (a::b::c::L)).set (n+2) x=cat H (a::b::x::L):=by grind [dQ,mZ]
def cg3(h:H.length=n): (cat H (a::b::c::d::L)++M)[n+3]?=some d:=by rw[dQ,afL,bA h];rfl
def cs3(h:H.length=n): (cat H (a::b::c::d::L)++M).set (n+3) x=cat H (a::b::c::x::L)++M:=by grind [dQ,List.append_assoc,mZ]
def cp3(h:H.length=n): (cat H (a::b::c::d::L))[n+3]?=some d:=by rw[dQ,bA h];rfl
def cq3(h:H.length=n): (cat H (a::b::c::d::L)).set (n+3) x=cat H (a::b::c::x::L):=by grind [dQ,mZ]
def cg4(h:H.length=n): (cat H (a::b::c::d::e::L)++M)[n+4]?=some e:=by rw[dQ,afL,bA h];rfl
def cs4(h:H.length=n): (cat H (a::b::c::d::e::L)++M).set (n+4) x=cat H (a::b::c::d::x::L)++M:=by grind [dQ,List.append_assoc,mZ]
def cp4(h:H.length=n): (cat H (a::b::c::d::e::L))[n+4]?=some e:=by rw[dQ,bA h];rfl
def cq4(h:H.length=n): (cat H (a::b::c::d::e::L)).set (n+4) x=cat H (a::b::c::d::x::L):=by grind [dQ,mZ]
def cg5(h:H.length=n): (cat H (a::b::c::d::e::g::L)++M)[n+5]?=some g:=by rw[dQ,afL,bA h];rfl
def cs5(h:H.length=n): (cat H (a::b::c::d::e::g::L)++M).set (n+5) x=cat H (a::b::c::d::e::x::L)++M:=by grind [dQ,List.append_assoc,mZ]
def cp5(h:H.length=n): (cat H (a::b::c::d::e::g::L))[n+5]?=some g:=by rw[dQ,bA h];rfl
def cq5(h:H.length=n): (cat H (a::b::c::d::e::g::L)).set (n+5) x=cat H (a::b::c::d::e::x::L):=by grind [dQ,mZ]
end
structure Slot where
 gen:Nat
 eH:Bool
 ret:Bool
 deriving DecidableEq,Inhabited
abbrev cE:=Nat->Slot
def iG(s:Slot):lA:=[.int .u32 s.gen,.bool s.eH,.bool s.ret]
def bY(b:cE):lA:=arr 32 λi=>iG (b i)
theorem Mc(s:Slot): (iG s).length=3:=rfl
theorem ow(b:cE): (bY b).length=96:=by rfl
theorem Uu(b:cE):aG (bY b)=0:=by rfl
section
variable{b:cE}{i:Nat}
theorem Uv:Den.part true 96 (bY b) 0=some (.agg (bY b)):=by rfl
theorem ahv(h:i<32):Den.part true 3 (bY b) (i*3)=some (.agg (iG (b i))):=ki (k:=3) (o:=0) (f:=λi=>iG (b i)) (λi=>Mc (b i)) h (by omega) (by omega)
theorem Uw(h:i<32):qz true 32 3 (.agg (bY b)) (.int .i64 i)=some (.agg (iG (b i))):=Us h (ahv h)
theorem ahw(h:i<32):Den.part false 1 (bY b) (i*3)=some (.int .u32 (b i).gen):=ki (k:=3) (o:=0) (f:=λi=>iG (b i)) (λi=>Mc (b i)) h (by omega) (by omega)
theorem ahx(h:i<32):Den.part false 1 (bY b) (i*3+1)=some (.bool (b i).eH):=ki (k:=3) (o:=1) (f:=λi=>iG (b i)) (λi=>Mc (b i)) h (by omega) (by omega)
def Ux{s:Slot}{o:Nat}{vs:lA}(h:i<32)(ho:o+vs.length<=3)(j:aH (iG (b i)) o vs=iG s):aH (bY b) (i*3+o) vs=bY (aq b i s):=by
 unfold bY;rw[nf (k:=3) (f:=λi=>iG (b i)) (λi=>Mc (b i)) h ho,j,pT]
theorem asW{g:Nat}(h:i<32):aH (bY b) (i*3) [.int .u32 g]=bY (aq b i {b i with gen:=g}):=Ux (o:=0) h (by simp) rfl
theorem asX{g:Nat}(h:i<32):aH (bY b) (i*3) [.int .u32 ((g:Int)+1)]=bY (aq b i {b i with gen:=g+1}):=asW (g:=g+1) h
theorem ahy{v:Bool}(h:i<32):aH (bY b) (i*3+1) [.bool v]=bY (aq b i {b i with eH:=v}):=Ux (o:=1) h (by simp) rfl
theorem asY{v:Bool}(h:i<32):aH (bY b) (i*3+2) [.bool v]=bY (aq b i {b i with ret:=v}):=Ux (o:=2) h (by simp) rfl
theorem ahz: (bY b).take 96=bY b:=by rfl
end
def eC(h:Nat):oN:=if 1<=h % 256/\h % 256<=32/\h/256<=8388607 then some (h % 256-1)else none
def c7(i f:Nat):Nat:=f*256+i+1
def ahA(e:eC h=some i):i<32:=by
 unfold eC at e;grind
def Uy{f:Nat}(h:i<32)(j:f<=8388607):eC (c7 i f)=some i:=by
 unfold eC c7
 grind
def ahB{a b c:lA}(h:b=c):a++b=a++c:=by rw[h]
def aDI{a b c:lA}(h:b=c):b++a=c++a:=by rw[h]
abbrev aE:=Nat×Nat
structure dc where
 up:Nat
 dt:Nat
 runs:List aE
 len:Nat
 cells:Nat->Nat
structure aw where
 b:cE
 r:Nat->dc
structure Ow where
 kind:Nat
 aa:Nat
 hold:Nat
 deriving DecidableEq
structure Sd where
 root:Nat
 own:Ow
 deriving DecidableEq
abbrev bM:=Nat->Sd
structure Tok where
 aL:Nat
 iM:Nat
 to:Nat
 mu:Bool
 aR:Nat
 deriving DecidableEq
structure bg where
 b:cE
 t:Nat->Tok
structure kj where
 fr:Nat
 word:Nat
 aL:Nat
 share:Bool
 deriving DecidableEq
structure cK where
 ring:Nat->kj
 fr:Nat
 n:Nat
 closed:Bool
structure bG where
 T:aw
 O:bM
 K:bg
 c8:Nat->cK
 alive:Nat->Bool
 born:Nat->Bool
structure cp where
 op:Nat
 r:Nat
 s:Nat
 a:Nat
 b:Nat
 v:Nat
 deriving DecidableEq
structure bE where
 e:Nat
 v:Nat
 w:Nat
 deriving DecidableEq
def ay(r:aE):lA:=[.int .i64 (r.1:Nat),.int .i64 (r.2:Nat)]
def eg(l:List aE):AV:=if l.isEmpty then .ai else .sl (l.map ay) false
def bS(r:dc):lA:=[.int .u32 r.up,.int .i64 r.dt,eg r.runs,.int .i64 r.len]++arr 8 λi=>[.int .u32 (r.cells i)]
def xg(f:Nat->dc):lA:=arr 32 λi=>bS (f i)
def aJ(t:aw):lA:=bY t.b++xg t.r
def jK(o:Ow):lA:=[.int .u8 o.kind,.int .u8 o.aa,.int .u8 o.hold]
def sJ(x:Sd):lA:=[.int .u32 x.root,.int .u8 x.own.kind,.int .u8 x.own.aa,.int .u8 x.own.hold]
def cF(o:bM):lA:=arr 32 λi=>sJ (o i)
def fC(x:Tok):lA:=[.int .u32 x.aL,.int .u8 x.iM,.int .u8 x.to,.bool x.mu,.int .u32 x.aR]
def Ga(f:Nat->Tok):lA:=arr 16 λi=>fC (f i)
def bW(k:bg):lA:=bY k.b++Ga k.t
def eh(m:kj):lA:=[.int .u8 m.fr,.int .u64 m.word,.int .u32 m.aL,.bool m.share]
def Md(f:Nat->kj):lA:=arr 4 λi=>eh (f i)
def cq(b:cK):lA:=Md b.ring++[.int .i64 b.fr,.int .i64 b.n,.bool b.closed]
def zs(f:Nat->cK):lA:=arr 8 λi=>cq (f i)
def sK(f:Nat->Bool):lA:=arr 8 λi=>[.bool (f i)]
def gd(T:aw)(O:bM)(K:bg):lA:=aJ T++(cF O++bW K)
def bz(s:bG):lA:=aJ s.T++(cF s.O++(bW s.K++(zs s.c8++(sK s.alive++sK s.born))))
def bf(c:cp):lA:=[.int .u8 c.op,.int .u32 c.r,.int .u32 c.s,.int .u32 c.a,.int .u32 c.b,.int .u64 c.v]
def bF(r:bE):lA:=[.int .i64 r.e,.int .u64 r.v,.int .u32 r.w]
theorem zt(r:dc): (bS r).length=12:=by rfl
theorem aDJ(f:Nat->dc): (xg f).length=384:=by rfl
theorem iq(t:aw): (aJ t).length=480:=by rfl
theorem sL(o:bM): (cF o).length=128:=by rfl
theorem aDK(f:Nat->Tok): (Ga f).length=80:=by rfl
theorem zu(k:bg): (bW k).length=176:=by rfl
theorem ahC(f:Nat->kj): (Md f).length=16:=by rfl
theorem zv(b:cK): (cq b).length=19:=by rfl
theorem pV(f:Nat->cK): (zs f).length=152:=by rfl
theorem Gb(f:Nat->Bool): (sK f).length=8:=by rfl
theorem lj(T:aw)(O:bM)(K:bg): (gd T O K).length=784:=by simp only[gd,ahc,iq,sL,zu]
def eU(s:bG): (bz s).length=952:=by simp only[bz,ahc,iq,sL,zu,pV,Gb]
def Uz(l:List aE): (eg l).refs=0:=by
 unfold eg;split
 ·rfl
 ·exact bD (λ_=>rfl) l
theorem asZ{g:Nat->AV}(h: ∀i,(g i).refs=0)(n:Nat):aG (arr n λi=>[g i])=0:=Mb (λi=>by simp[aG,h]) n
def UA(r:dc):aG (bS r)=0:=by
 rw[bS,F7,asZ (λ_=>rfl)];simp[aG,AV.refs,Uz]
theorem as0(f:Nat->dc):aG (xg f)=0:=Mb (λi=>UA (f i)) 32
def xh(t:aw):aG (aJ t)=0:=by rw[aJ,F7,Uu,as0];rfl
theorem UB(o:bM):aG (cF o)=0:=by rfl
theorem Me(k:bg):aG (bW k)=0:=by rfl
theorem ahD(b:cK):aG (cq b)=0:=by rfl
theorem as1(f:Nat->cK):aG (zs f)=0:=by rfl
theorem as2(f:Nat->Bool):aG (sK f)=0:=by rfl
def ox(s:bG):aG (bz s)=0:=by simp only[bz,F7,xh,UB,Me,as1,as2];rfl
def ng(l:List aE):Rv (eg l) 2 (l.map ay):=by
 cases l with
 |nil=>exact .ai
 |cons a l=>exact .sl (by intro el h;obtain⟨x,_,rfl⟩:=ahk.1 h;rfl)
def UC{ag:Bool}{m:Nat}{a b r:lA}{off:Nat}(c:a.length=off):Den.part ag m (a++r) off=Den.part ag m r 0:=by grind [kh]
theorem xi{m:Nat}{a r:lA}(c:a.length=m)(b:0<m):Den.part true m (a++r) 0=some (.agg a):=by grind [rh,F8]
section
variable{ag:Bool}{m o i:Nat}
theorem ahE{r:dc}:Den.part false 1 (bS r) 0=some (.int .u32 r.up):=rfl
theorem ahF{r:dc}:Den.part false 1 (bS r) 1=some (.int .i64 r.dt):=rfl
theorem ahG{r:dc}:Den.part false 1 (bS r) 2=some (eg r.runs):=rfl
theorem ahH{r:dc}:Den.part false 1 (bS r) 3=some (.int .i64 r.len):=rfl
theorem ahI{r:dc}:Den.part true 2 (bS r) 2=some (.agg [eg r.runs,.int .i64 r.len]):=rfl
theorem Mf{r:dc}:Den.part true 8 (bS r) 4=some (.agg (arr 8 λi=>[.int .u32 (r.cells i)])):=by rfl
theorem ahJ{t:aw}:Den.part true 96 (aJ t) 0=some (.agg (bY t.b)):=by rfl
theorem ahK{t:aw}:Den.part true 480 (aJ t) 0=some (.agg (aJ t)):=by rfl
def ahL{t:aw}(h:i<32)(ho:o+m<=12)(a:0<m):Den.part ag m (aJ t) (96+i*12+o)=Den.part ag m (bS (t.r i)) o:=by
 unfold aJ;rw[kh (by rw[ow];omega),ow,show 96+i*12+o-96=i*12+o by omega];exact ki (k:=12) (f:=λi=>bS (t.r i)) (λi=>zt _) h ho a
def as3{t:aw}(h:i<32):Den.part true 12 (aJ t) (96+i*12)=some (.agg (bS (t.r i))):=by
 have:=ahL (ag:=true) (m:=12) (o:=0) (t:=t) h (by omega) (by omega);rw[ahu]at this;rw[this,F8 (zt _)]
theorem UD{t:aw}(h:i<32):Den.part false 1 (aJ t) (96+i*12)=some (.int .u32 (t.r i).up):=ahL (o:=0) h (by omega) (by omega)
def Mg{t:aw}{r:dc}(h:i<32):aH (aJ t) (96+i*12) (bS r)=aJ {t with r:=aq t.r i r}:=by
 unfold aJ;rw[gr (by rw[ow];omega),ow,show 96+i*12-96=i*12+0 by omega];unfold xg;rw[nf (k:=12) (f:=λi=>bS (t.r i)) (λi=>zt _) h (by rw[zt];omega),rj (by rfl),pT]
def ahM{t:aw}{u:Nat}(h:i<32):aH (aJ t) (96+i*12) [.int .u32 u]=aJ {t with r:=aq t.r i {t.r i with up:=u}}:=by
 unfold aJ;rw[gr (by rw[ow];omega),ow,show 96+i*12-96=i*12+0 by omega];unfold xg;rw[nf (k:=12) (f:=λi=>bS (t.r i)) (λi=>zt _) h (by simp),pT];rfl
theorem as4{r:dc}{u:Nat}:aH (bS r) 0 [.int .u32 u]=bS {r with up:=u}:=rfl
def ahN{r:dc}{u:Nat}(h:i<8):aH (bS r) (4+i) [.int .u32 u]=bS {r with cells:=aq r.cells i u}:=by
 unfold bS;rw[gr (by simp)];refine ahB ?_;have:=nf (n:=8) (k:=1) (i:=i) (o:=0) (vs:=[AV.int .u32 u]) (f:=λi=>[AV.int .u32 (r.cells i)]) (λ_=>rfl) h (by simp);rw[show 4+i- [AV.int .u32 r.up,.int .i64 r.dt,eg r.runs,.int .i64 r.len].length=i*1+0 by simp,this];exact akG (arr 8) (pT (λu:Nat=>[AV.int .u32 u]) r.cells i u).symm
theorem ahO{w:bM}(h:i<32)(ho:o+m<=4)(a:0<m):Den.part ag m (cF w) (i*4+o)=Den.part ag m (sJ (w i)) o:=
 ki (k:=4) (f:=λi=>sJ (w i)) (λ_=>rfl) h ho a
theorem ahP{w:bM}:Den.part true 128 (cF w) 0=some (.agg (cF w)):=by rfl
theorem ahQ{w:bM}(h:i<32):Den.part false 1 (cF w) (i*4)=some (.int .u32 (w i).root):=ahO (o:=0) h (by omega) (by omega)
theorem as5{w:bM}(h:i<32):Den.part true 3 (cF w) (i*4+1)=some (.agg (jK (w i).own)):=ahO (o:=1) h (by omega) (by omega)
def as6{w:bM}{x:Sd}(h:i<32):aH (cF w) (i*4) (sJ x)=cF (aq w i x):=by
 have:=nf (n:=32) (k:=4) (i:=i) (o:=0) (vs:=sJ x) (f:=λi=>sJ (w i)) (λ_=>rfl) h (by simp[sJ]);unfold cF;rw[show i*4=i*4+0 by omega,this,rj (a:=sJ (w i)) (vs:=sJ x) rfl,pT]
theorem ahR{k:bg}:Den.part true 96 (bW k) 0=some (.agg (bY k.b)):=by rfl
theorem UE{k:bg}:Den.part true 176 (bW k) 0=some (.agg (bW k)):=by rfl
theorem as7{f:Nat->Tok}(h:i<16):Den.part true 5 (Ga f) (i*5)=some (.agg (fC (f i))):=
 ki (k:=5) (o:=0) (f:=λi=>fC (f i)) (λ_=>rfl) h (by omega) (by omega)
def as8{k:bg}(h:i<16):Den.part true 5 (bW k) (96+i*5)=some (.agg (fC (k.t i))):=by
 unfold bW;rw[kh (by rw[ow];omega),ow,show 96+i*5-96=i*5 by omega];exact as7 h
theorem ahS{k:bg}{b:cE}:aH (bW k) 0 (bY b)=bW {k with b:=b}:=by rfl
def as9{k:bg}{x:Tok}(h:i<16):aH (bW k) (96+i*5) (fC x)=bW {k with t:=aq k.t i x}:=by
 unfold bW;rw[gr (by rw[ow];omega),ow,show 96+i*5-96=i*5+0 by omega];unfold Ga;rw[nf (k:=5) (f:=λi=>fC (k.t i)) (λ_=>rfl) h (by simp[fC]),rj (a:=fC (k.t i)) (vs:=fC x) rfl,pT]
theorem ata{f:Nat->kj}(h:i<4):Den.part true 4 (Md f) (i*4)=some (.agg (eh (f i))):=
 ki (k:=4) (o:=0) (f:=λi=>eh (f i)) (λ_=>rfl) h (by omega) (by omega)
theorem rk{b:cK}:Den.part true 19 (cq b) 0=some (.agg (cq b)):=by rfl
def ahT{b:cK}(h:i<4):Den.part true 4 (cq b) (i*4)=some (.agg (eh (b.ring i))):=by
 unfold cq;rw[rh (by rw[ahC];omega) (by omega)];exact ata h
theorem ahU{b:cK}:Den.part false 1 (cq b) 16=some (.int .i64 b.fr):=by rfl
theorem B9{b:cK}:Den.part false 1 (cq b) 17=some (.int .i64 b.n):=by rfl
theorem zw{b:cK}:Den.part false 1 (cq b) 18=some (.bool b.closed):=by rfl
def atb{b:cK}{x:kj}(h:i<4):aH (cq b) (i*4) (eh x)=cq {b with ring:=aq b.ring i x}:=by
 unfold cq;rw[ri (by rw[ahC];simp[eh];omega)];unfold Md;rw[show i*4=i*4+0 by omega,nf (k:=4) (f:=λi=>eh (b.ring i)) (λ_=>rfl) h (by simp[eh]),rj (a:=eh (b.ring i)) (vs:=eh x) rfl,pT]
theorem atc{b:cK}:aH (cq b) 16 [.int .i64 x]=cq {b with fr:=x}:=by rfl
theorem ahV{b:cK}:aH (cq b) 17 [.int .i64 x]=cq {b with n:=x}:=by rfl
theorem atd{b:cK}{x:Bool}:aH (cq b) 18 [.bool x]=cq {b with closed:=x}:=by rfl
def ahW{f:Nat->Bool}(h:i<8):Den.part false 1 (sK f) i=some (.bool (f i)):=by
 have:=ki (ag:=false) (m:=1) (n:=8) (k:=1) (i:=i) (o:=0) (f:=λi=>[AV.bool (f i)]) (λ_=>rfl) h (by omega) (by omega);rw[show i*1+0=i by omega]at this;exact this
def ate{f:Nat->cK}(h:i<8):Den.part true 19 (zs f) (i*19)=some (.agg (cq (f i))):=by
 have:=ki (ag:=true) (m:=19) (n:=8) (k:=19) (i:=i) (o:=0) (f:=λi=>cq (f i)) (λ_=>zv _) h (by omega) (by omega);exact this.trans rk
theorem pW{T:aw}{O:bM}{K:bg}:Den.part true 480 (gd T O K) 0=some (.agg (aJ T)):=xi (iq _) (by omega)
theorem pX{T:aw}{O:bM}{K:bg}:Den.part true 128 (gd T O K) 480=some (.agg (cF O)):=by
 unfold gd;rw[UC (b:=[]) (iq _)];exact xi (sL _) (by omega)
theorem rl{T:aw}{O:bM}{K:bg}:Den.part true 176 (gd T O K) 608=some (.agg (bW K)):=by
 unfold gd;rw[kh (by rw[iq];omega),iq,UC (b:=[]) (sL _)];exact UE
theorem oy(s:bG):bz s=gd s.T s.O s.K++(zs s.c8++(sK s.alive++sK s.born)):=by simp[bz,gd]
theorem UF{s:bG}:Den.part true 784 (bz s) 0=some (.agg (gd s.T s.O s.K)):=by grind [oy,xi,lj]
theorem UG{s:bG}:Den.part true 952 (bz s) 0=some (.agg (bz s)):=F8 (eU s)
theorem UH{s:bG}:Den.part true 480 (bz s) 0=some (.agg (aJ s.T)):=xi (iq _) (by omega)
theorem UI{s:bG}:Den.part true 128 (bz s) 480=some (.agg (cF s.O)):=by grind [oy,rh,lj,pX]
theorem UJ{s:bG}:Den.part true 176 (bz s) 608=some (.agg (bW s.K)):=by grind [oy,rh,lj,rl]
theorem atf{s:bG}(h:i<8):Den.part true 19 (bz s) (784+i*19)=some (.agg (cq (s.c8 i))):=by
 rw[oy,kh (by rw[lj];omega),lj,show 784+i*19-784=i*19 by omega,rh (by rw[pV];omega) (by omega)];exact ate h
def aDL{s:bG}:Den.part true 152 (bz s) 784=some (.agg (zs s.c8)):=by
 rw[oy,UC (b:=[]) (lj _ _ _)];exact xi (pV _) (by omega)
theorem ahX{s:bG}(h:i<8):Den.part false 1 (bz s) (936+i)=some (.bool (s.alive i)):=by
 rw[oy,kh (by rw[lj];omega),lj,kh (by rw[pV];omega),pV,show 936+i-784-152=i by omega,rh (by trivial) (by omega)];exact ahW h
theorem atg{s:bG}(h:i<8):Den.part false 1 (bz s) (944+i)=some (.bool (s.born i)):=by
 rw[oy,kh (by rw[lj];omega),lj,kh (by rw[pV];omega),pV,kh (by rw[Gb];omega),Gb,show 944+i-784-152-8=i by omega];exact ahW h
def ath{s:bG}{t:aw}:aH (bz s) 0 (aJ t)=bz {s with T:=t}:=by
 unfold bz;rw[ri (by grind [iq]),rj (by rw[iq,iq])]
def ati{s:bG}{w:bM}:aH (bz s) 480 (cF w)=bz {s with O:=w}:=by
 unfold bz;rw[gr (by rw[iq];omega),iq,ri (by grind [sL]),rj (by rfl)]
def atj{s:bG}{k:bg}:aH (bz s) 608 (bW k)=bz {s with K:=k}:=by
 unfold bz;rw[gr (by rw[iq];omega),iq,gr (by rw[sL];omega),sL,ri (by rw[zu,zu];omega),rj (by rfl)]
def atk{s:bG}{b:cK}(h:i<8):aH (bz s) (784+i*19) (cq b)=bz {s with c8:=aq s.c8 i b}:=by
 rw[oy,gr (by rw[lj];omega),lj,show 784+i*19-784=i*19+0 by omega,ri (by rw[pV,zv];omega),oy];unfold zs;rw[nf (k:=19) (f:=λi=>cq (s.c8 i)) (λ_=>zv _) h (by rw[zv];omega),rj (by rfl),pT]
def ahY{f:Nat->Bool}{v:Bool}(h:i<8):aH (sK f) i [.bool v]=sK (aq f i v):=by
 have:=nf (n:=8) (k:=1) (i:=i) (o:=0) (vs:=[AV.bool v]) (f:=λi=>[AV.bool (f i)]) (λ_=>rfl) h (by simp);rw[show i*1+0=i by omega]at this;unfold sK;rw[this];exact akG (arr 8) (pT (λv:Bool=>[AV.bool v]) f i v).symm
def ahZ{s:bG}{v:Bool}(h:i<8):aH (bz s) (936+i) [.bool v]=bz {s with alive:=aq s.alive i v}:=by
 rw[oy,gr (by rw[lj];omega),lj,gr (by rw[pV];omega),pV,show 936+i-784-152=i by omega,ri (by trivial),ahY h,oy]
def ah0{s:bG}{v:Bool}(h:i<8):aH (bz s) (944+i) [.bool v]=bz {s with born:=aq s.born i v}:=by
 rw[oy,gr (by rw[lj];omega),lj,gr (by rw[pV];omega),pV,gr (by rw[Gb];omega),Gb,show 944+i-784-152-8=i by omega,ahY h,oy]
end
theorem ah1{t:aw}: (aJ t).take 480=aJ t:=by rfl
theorem ah2{k:bg}: (bW k).take 176=bW k:=by rfl
theorem ah3{r:dc}:Den.part true 12 (bS r) 0=some (.agg (bS r)):=by rfl
theorem ah4{t:aw}:List.drop 96 (aJ t)=xg t.r:=by rfl
theorem ah5{b:cE}{r:Nat->dc}:bY b++xg r=aJ ⟨b,r⟩:=rfl
theorem ah6{u:Nat}{r:dc}:AV.int .u32 (u:Nat)::List.drop 1 (bS r)=bS {r with up:=u}:=rfl
theorem ah7{b:cE}{f:Nat->Tok}:bY b++Ga f=bW ⟨b,f⟩:=rfl
theorem UK(r:aE): (ay r).length=2:=rfl
theorem ah8{r:aE}:Den.part false 1 (ay r) 0=some (.int .i64 (r.1:Nat)):=rfl
theorem ah9{r:aE}:Den.part false 1 (ay r) 1=some (.int .i64 (r.2:Nat)):=rfl
theorem UL{r:aE}:Den.part true 2 (ay r) 0=some (.agg (ay r)):=rfl
theorem aia{r:aE}: (ay r).take 2=ay r:=rfl
theorem aib{r:aE}: (ay r).drop 2=[]:=rfl
theorem aic(r:aE):aG (ay r)=0:=rfl
def ML:=gG @UK<|gG @aia<|gG @aib<|gG @aic<|gG @ah4<|gG @ah5<|gG @ah6<|gG @ah7<|gG @ahz<|gG @ow<|gG @Uu<|gG @ah1<|gG @iq<|gG @xh<|gG @zt<|gG @UA<|gG @sL<|gG @UB<|gG @ah2<|gG @zu @Me
def MP:=gG @ah8<|gG @ah9<|gG @UL<|gG @Uv<|gG @ahE<|gG @ahF<|gG @ahG<|gG @ahH<|gG @ahI<|gG @ah3<|gG @ahJ<|gG @ahK<|gG @ahP<|gG @ahR @UE
theorem Zz:type_of% @R2/\type_of% @C1/\type_of% @P1/\type_of% @N1/\type_of% @O1/\type_of% @V1/\type_of% @V2/\type_of% @V3/\type_of% @wrap_i64/\type_of% @wrap_u64/\type_of% @wrap_u8/\type_of% @wrap_u16/\type_of% @wrap_u32/\type_of% @wrap_i32/\type_of% @di/\type_of% @bA/\type_of% @DO/\type_of% @mZ/\type_of% @mr/\type_of% @aa9/\type_of% @afm/\type_of% @Option.isSome_some.{0}/\type_of% @Option.isSome_none.{0}/\type_of% @Option.getD_some.{0}/\type_of% @Option.getD_none.{0}/\type_of% @Bool.not_true/\type_of% @Bool.not_false/\type_of% @cg0/\type_of% @cg1/\type_of% @cg2/\type_of% @cg3/\type_of% @cg4/\type_of% @cg5/\type_of% @PH/\type_of% @cs1/\type_of% @cs2/\type_of% @cs3/\type_of% @cs4/\type_of% @cs5/\type_of% @ct2/\type_of% @ct1/\type_of% @cp0/\type_of% @cp1/\type_of% @cp2/\type_of% @cp3/\type_of% @cp4/\type_of% @cp5/\type_of% @cq0/\type_of% @cq1/\type_of% @cq2/\type_of% @cq3/\type_of% @cq4/\type_of% @cq5/\type_of% @List.getElem?_set_ne.{0}/\type_of% @Q1/\type_of% @G1/\type_of% @Ij/\type_of% @Ik/\type_of% @Il/\type_of% @Im/\type_of% @Io/\type_of% @Ip/\type_of% @Iq/\type_of% @Ir/\type_of% @Is/\type_of% @It/\type_of% @ML/\type_of% @List.length_take.{0}/\type_of% @Nat.min_self/\type_of% @List.append_nil.{0}/\type_of% @Nat.zero_le/\type_of% @Nat.add_zero/\type_of% @Nat.zero_add/\type_of% @Nat.le_refl/\type_of% @and_true/\type_of% @true_and/\type_of% @if_true.{1}:=
 ⟨@R2,@C1,@P1,@N1,@O1,@V1,@V2,@V3,@wrap_i64,@wrap_u64,@wrap_u8,@wrap_u16,@wrap_u32,@wrap_i32,@di,@bA,@DO,@mZ,@mr,@aa9,@afm,@ayQ.{0},@ayY.{0},@anc.{0},@azI.{0},@ayM,@aCU,@cg0,@cg1,@cg2,@cg3,@cg4,@cg5,@PH,@cs1,@cs2,@cs3,@cs4,@cs5,@ct2,@ct1,@cp0,@cp1,@cp2,@cp3,@cp4,@cp5,@cq0,@cq1,@cq2,@cq3,@cq4,@cq5,@aeR.{0},@Q1,@G1,@Ij,@Ik,@Il,@Im,@Io,@Ip,@Iq,@Ir,@Is,@It,@ML,@ai1.{0},@aBh,@aiH.{0},@aha,@ahu,@ans,@ahd,@aq8,@aBV,@aiZ.{1}⟩
attribute [go_sem] Zz ag4 ag5
attribute [go_sem ↓] R1 MP Int.cast_ofNat_Int
def ax(b:cE)(h:Nat):Bool:=match eC h with
 |some i=>decide (b i=⟨h/256,true,false⟩)
 |none=>false
def aN(h:Nat):Nat:=(eC h).getD 0
def nh(b:cE)(i:Nat):Bool:=!(b i).eH&& !(b i).ret
def ni(b:cE):oN:=(List.range 32).find? (nh b)
def pY(b:cE):cE×Nat×Bool:=match ni b with
 |some i=>(aq b i {b i with eH:=true},c7 i (b i).gen,true)
 |none=>(b,0,false)
def rm(s:Slot):Slot:=if s.gen=8388607 then⟨s.gen,false,true⟩else⟨s.gen+1,false,s.ret⟩
def ek(b:cE)(h:Nat):cE×Bool:=if ax b h then(aq b (aN h) (rm (b (aN h))),true)else(b,false)
def bm(b:cE):lN:=((List.range 32).filter λi=>(b i).eH).map λi=>c7 i (b i).gen
def lk(r:aE):Bool:=decide (1<=r.2)&&decide (r.1+r.2<=64)
def gY(x:aE)(b:Bool)(a:List aE):List aE->Option (List aE)
 | []=>some (if b then a else a++[x])
 |y::ys=>
  if y.1+y.2<x.1 then gY x b (a++[y]) ys
  else if x.1+x.2<y.1 then gY x true (a++(if b then[]else[x])++[y]) ys
  else if y.1+y.2=x.1 then gY (y.1,y.2+x.2) b a ys
  else if y.1=x.1+x.2 then gY (x.1,x.2+y.2) b a ys
  else none
def ir(l:List aE)(x:aE):Option (List aE):=if lk x then gY x false [] l else none
def mI:List aE->List aE->Option (List aE)
 |all,[]=>some all
 |all,x::xs=>match ir all x with
  |some a=>mI a xs
  |none=>none
def aM(l:List aE):Nat:=(l.map (·.2)).sum
def pZ(a:List aE)(len:Nat):Bool:=(mI [] a).isSome&&decide (len<=aM a*32)
def dC:dc:=⟨0,0,[],0,λ_=>0⟩
def aw.ax(t:aw)(h:Nat):Bool:=Go.Proofs.YteplichagkpciaaGreatDoor.ax t.b h
def km(t:aw)(i:Nat):Nat:=if t.ax (t.r i).up then(t.r i).up else 0
def aK(t:aw)(h:Nat):dc×Nat:=if t.ax h then({t.r (aN h)with up:=km t (aN h)},0)else(dC,4)
def l5(t:aw)(up n:Nat):aw×Nat×Nat:=
 if up≠0/\t.ax up=false then(t,0,4)
 else if 64<n then(t,0,2)
 else match ni t.b with
  |some i=>({b:=aq t.b i {t.b i with eH:=true},r:=aq t.r i {dC with up:=up,dt:=n}},c7 i (t.b i).gen,0)
  |none=>(t,0,7)
def ll(t:aw)(h:Nat):aw×Nat:=
 if t.ax h then({b:=(ek t.b h).1,r:=aq t.r (aN h) dC},0)else(t,4)
def fD(t:aw)(h:Nat)(r:dc):aw×Nat:=
 if t.ax h=false then(t,4)
 else if 64<r.dt\/pZ r.runs r.len=false then(t,2)
 else({t with r:=aq t.r (aN h) {r with up:=(t.r (aN h)).up}},0)
def bI(t:aw)(h:Nat):Nat:=if t.ax h then km t (aN h)else 0
def en(t:aw):Nat->Nat->lN
 |0,_=>[]
 |n+1,h=>if bI t h=0 then[]else bI t h::en t n (bI t h)
def aR(t:aw)(h:Nat):lN:=en t 32 h
def l6(t:aw)(h up:Nat):aw×Nat:=
 if t.ax h=false\/ (up≠0/\t.ax up=false)then(t,4)
 else if up≠0/\h∈up::aR t up then(t,12)
 else({t with r:=aq t.r (aN h) {t.r (aN h)with up:=up}},0)
def depth(t:aw)(h:Nat):Nat:=if t.ax h then 1+(aR t h).length else 0
def root(t:aw)(h:Nat):Nat:=if t.ax h then(aR t h).getLastD h else 0
def kn(t:aw)(a b:Nat):Bool:=t.ax a&&t.ax b&& (decide (a=b)|| (aR t b).contains a)
def kids(t:aw)(h:Nat):lN:=if t.ax h then(bm t.b).filter (λx=>bI t x=h)else[]
def gZ(t:aw):Nat->Nat->lN
 |0,h=>[h]
 |n+1,h=>h:: (kids t h).flatMap (gZ t n)
def under(t:aw)(h:Nat):lN:=if t.ax h then gZ t 32 h else[]
def hH(t:aw)(a n:Nat):aw×Nat×Nat:=
 let x:=l5 t a n
 if(x.2.2=0\/x.2.2=7)/\6<=depth t a then(t,0,8)else x
def zx(t0:aw)(h:Nat)(t:aw)(x:Nat):aw:=
 let r:=(aK t x).1
 (fD t x {r with cells:=λi=>if r.cells i≠h/\kn t0 (r.cells i) h then 0 else r.cells i}).1
def jl(t:aw)(h:Nat):aw×Nat:=
 if t.ax h=false then(t,4)else l6 ((gZ t 32 h).foldl (zx t h) t) h 0
def sM(t:aw)(h:Nat):Nat:=(gZ t 32 h).foldl (λn x=>max n (depth t x-depth t h+1)) 0
def vi(t:aw)(h a:Nat):aw×Nat:=
 if t.ax h=false\/t.ax a=false then(t,4)
 else if root t h≠h\/kn t h a then(t,12)
 else if 6<depth t a+sM t h then(t,8)
 else l6 t h a
def l7(t:aw)(h:Nat):aw×lN×Nat:=
 if under t h=[]then(t,[],4)else((under t h).foldl (λt x=>(ll t x).1) t,under t h,0)
def xj:Ow:=⟨0,0,0⟩
def b0(o:bM)(t:aw)(h:Nat):Ow:=match eC (root t h)with
 |some i=>if(o i).root=root t h then(o i).own else xj
 |none=>xj
def fO(o:bM)(t:aw)(r:Nat)(aa:Nat)(x:Ow):bM×Nat:=
 if t.ax r=false then(o,4)
 else if root t r≠r then(o,12)
 else if 8<=aa then(o,2)
 else(aq o (aN r) ⟨r,x⟩,0)
def rn(o:bM)(t:aw)(r aa:Nat):bM×Nat:=fO o t r aa ⟨1,aa % 256,0⟩
def zy(o:bM)(t:aw)(r:Nat):bM×Nat:=fO o t r 0 ⟨2,0,0⟩
def hO(aa:Nat):Nat:=2^(aa % 8)
def Ca(o:bM)(t:aw)(r aa:Nat):bM×Nat:=fO o t r aa ⟨3,0,hO aa⟩
def oz(x aa:Nat):Bool:=x.testBit (aa % 8)
def du(o:bM)(t:aw)(r aa:Nat)(hold:Bool):bM×Nat×Nat:=
 let x:=b0 o t r
 let e:=(fO o t r aa x).2
 if e=4\/ (t.ax r=true/\root t r≠r)then(o,0,e)
 else if x.kind≠3 then(o,0,12)
 else if e≠0 then(o,0,e)
 else if oz x.hold aa&&hold then(o,0,7)
 else if !oz x.hold aa&& !hold then(o,0,5)
 else((fO o t r aa {x with hold:=x.hold^^^hO aa}).1,x.hold^^^hO aa,(fO o t r aa {x with hold:=x.hold^^^hO aa}).2)
def Mh:Tok:=⟨0,0,0,false,0⟩
def b9(k:bg)(h:Nat):Tok×Nat:=if ax k.b h then(k.t (aN h),0)else(Mh,4)
def sO(k:bg)(p:Tok->Bool):lN:=(bm k.b).filter λh=>p (b9 k h).1
def isRight(b a:Nat)(x:Tok):Bool:=decide (x.aL=b)&&decide (x.aR=a)
def Cb(k:bg)(b a:Nat):Nat:=(sO k (isRight b a)).length
def sP(k:bg)(b a:Nat):Bool:=(bm k.b).any λh=>isRight b a (b9 k h).1&& (b9 k h).1.mu
def nj(k:bg)(h:Nat):Bool:=decide (h=0)||ax k.b h
def p7(k:bg)(x:Tok):Nat:=
 if nj k x.aR=false then 4
 else if 8<=x.iM\/8<=x.to\/x.iM=x.to\/x.aL=0 then 2
 else if x.aR≠0/\ ((b9 k x.aR).1.aL≠x.aL\/ (b9 k x.aR).1.to≠x.iM\/ (x.mu=true/\ (b9 k x.aR).1.mu=false))then 12
 else if sP k x.aL x.aR=true\/ (x.mu=true/\0<Cb k x.aL x.aR)then 5
 else 0
def ln(k:bg)(x:Tok):bg×Nat×Nat:=
 if p7 k x≠0 then(k,0,p7 k x)
 else match ni k.b with
  |some i=>if i<16 then({b:=aq k.b i {k.b i with eH:=true},t:=aq k.t i x},c7 i (k.b i).gen,0)else(k,0,7)
  |none=>(k,0,7)
def gL(b:cE):Prop:= ∀i,(b i).gen<=8388607/\ ((b i).eH=true->(b i).ret=false)
def Gc(e:eC h=some i):i<32/\h/256<=8388607/\h % 256=i+1/\h<2147483648:=by
 unfold eC at e;grind
def zA(h:Nat):aN h<32:=by
 unfold aN;cases e:eC h with
 |none=>simp
 |some i=>exact(Gc e).1
theorem Gd(e:eC h=some i):aN h=i:=by simp[aN,e]
theorem UM(e:eC h=some i):c7 i (h/256)=h:=by
 have:=Gc e;unfold c7;omega
theorem lp{b:cE}:ax b h=true↔ ∃i,eC h=some i/\b i=⟨h/256,true,false⟩:=by
 unfold ax
 grind
def gg{b:cE}(a:ax b h=true):h<4294967296:=by
 obtain⟨i,e,_⟩:=lp.1 a;have:=Gc e;omega
def UN{b:cE}(a:ax b h=true):h≠0:=by
 obtain⟨i,e,_⟩:=lp.1 a;have:=Gc e;omega
def Cc{b:cE}(a:ax b h=true):eC h=some (aN h)/\b (aN h)=⟨h/256,true,false⟩/\c7 (aN h) (h/256)=h:=by grind [lp,Gd,UM]
theorem UO{b:cE}(d:gL b)(c:i<32):ax b (c7 i (b i).gen)=(b i).eH:=by
 obtain⟨j,h⟩:=d i;have e:=Uy c j;have f:c7 i (b i).gen/256=(b i).gen:=by unfold c7;omega
 unfold ax;rw[e];simp only[f];revert h;generalize b i=s;obtain⟨g,a,r⟩:=s;simp_all
theorem jm{b:cE}(d:gL b):h∈bm b↔ax b h=true:=by
 unfold bm;simp only[ahk,aiJ,aq9];constructor
 ·grind [UO]
 ·intro c;obtain⟨i,e,a⟩:=lp.1 c;refine⟨i,⟨(Gc e).1,by grind⟩,?_⟩;rw[a];exact UM e
theorem nm(b:cE): (bm b).length<=32:=by
 unfold bm
 grind
def Ge{g:Nat}(a:i<32)(b:g<=8388607):c7 i g<4294967296:=by unfold c7;omega
theorem sQ{b:cE}(e:ni b=some i):i<32/\ (b i).eH=false/\ (b i).ret=false/\ ∀j,j<i->nh b j=false:=by
 unfold ni at e;rw[List.find?_range_eq_some]at e;obtain⟨a,d,c⟩:=e;unfold nh at a
 grind
theorem UP{b:cE}(a:gL b)(e:ni b=some i):gL (aq b i {b i with eH:=true}):=by
 intro j;by_cases h:j=i
 ·subst h;rw[cT];exact⟨(a j).1,λ_=>(sQ e).2.2.1⟩
 ·rw[dj h];exact a j
theorem Gf{b:cE}(a:gL b)(h:Nat):gL (ek b h).1:=by
 unfold ek;split
 ·intro j;by_cases e:j=aN h
  ·subst e;simp only[cT];have:=(a (aN h)).1;unfold rm;grind
  ·simp only[dj e];exact a j
 omega
structure fP(r:dc):Prop where
 up:r.up<4294967296
 dt:r.dt<=64
 len:r.len<=2048
 cells: ∀i,r.cells i<4294967296
 runs: ∀x∈r.runs,1<=x.2/\x.1+x.2<=64
 aM:aM r.runs<=64
structure bN(t:aw):Prop where
 b:gL t.b
 r: ∀i,fP (t.r i)
def cm(t:aw):Prop:= ∀h,(aR t h).length<=5
def aid{t:aw}:km t i<4294967296:=by
 unfold km;split
 ·rename_i h;exact gg h
 ·omega
def atl{t:aw}:bI t h<4294967296:=by
 unfold bI;split
 ·exact aid
 ·omega
theorem Gg{t:aw}(a:bI t h≠0):t.ax (bI t h)=true/\t.ax h=true:=by
 unfold bI at*;split at a
 ·unfold km at*
  grind
 omega
theorem UQ{t:aw}: ∀ (n:Nat) (h:Nat),(en t n h).length<n-> ∀m,n<=m->en t m h=en t n h
 |0,_,a,_,_=>by omega
 |n+1,h,a,m,hm=>by
  obtain⟨m,rfl⟩: ∃k,m=k+1:=⟨m-1,by omega⟩;simp only[en]at a⊢;by_cases hu:bI t h=0
  ·grind
  ·rw[afB hu]at a;simp only[aho]at a;rw[UQ n _ (by omega) m (by omega)]
def sR{t:aw}(a:cm t)(h:Nat):aR t h=if bI t h=0 then[]else bI t h::aR t (bI t h):=by
 unfold aR;by_cases hu:bI t h=0
 ·rw[afJ hu,en,afJ hu]
 ·have e:en t 33 h=en t 32 h:=UQ 32 h (by have:=a h;unfold aR at this;omega) 33 (by omega);rw[<-e,en,afB hu]
def atm{t:aw}(c:cm t)(a:x∈aR t h):t.ax x=true:=by
 have key: ∀ (n h:Nat),(aR t h).length<=n->x∈aR t h->t.ax x=true:=by
  intro n
  induction n with
  |zero=>grind
  |succ n d=>
   intro h b a;rw[sR c]at a b;by_cases hu:bI t h=0
   ·grind
   ·rw[afB hu]at a b;rcases ai2.1 a with rfl|a
    ·exact(Gg hu).1
    grind
 exact key _ h (ahd _) a
def dep(t:aw)(h:Nat):Nat:=(aR t h).length
theorem Cd{t:aw}(b:cm t)(a:bI t h≠0):dep t h=dep t (bI t h)+1:=by
 unfold dep;rw[sR b,afB a];rfl
def Mi{t:aw}(a:x∈kids t h):t.ax h=true/\bI t x=h/\x∈bm t.b:=by
 unfold kids at a
 grind
theorem Ce{t:aw}(a:cm t)(b:x∈kids t h):dep t x=dep t h+1:=by
 obtain⟨d,c,_⟩:=Mi b;have:=Cd a (h:=x) (by rw[c];exact UN d)
 grind
def aie(t:aw)(h:Nat): (kids t h).length<=32:=by
 unfold kids;split
 ·grind [Nat.le_trans,List.length_filter_le,nm]
 ·simp
theorem aif{α β:Type}{f g:α->List β}: ∀ {l:List α},(∀x∈l,f x=g x)->l.flatMap f=l.flatMap g
 | [],_=>rfl
 |x::xs,h=>by
  rw[ar9,ar9,h x (amM ..),aif λy a=>h y (aiF _ a)]
theorem UR{t:aw}(a:cm t): ∀ (n h:Nat),5<=n+dep t h-> ∀m,n<=m->gZ t m h=gZ t n h
 |0,h,d,m,_=>by
  have c:kids t h=[]:=by
   cases e:kids t h with
   |nil=>rfl
   |cons x xs=>
    have:=Ce a (h:=h) (x:=x) (by grind);have f:=a x;unfold dep at*;omega
  cases m with
  |zero=>rfl
  |succ m=>rw[gZ,gZ,c];rfl
 |n+1,h,d,m,hm=>by
  obtain⟨m,rfl⟩: ∃k,m=k+1:=⟨m-1,by omega⟩;refine akG (h:: ·) (aif λx b=>?_);exact UR a n x (by have:=Ce a b;omega) m (by omega)
def dv(t:aw)(h:Nat):lN:=gZ t 32 h
def US{t:aw}(a:cm t)(h:Nat):dv t h=h:: (kids t h).flatMap (dv t):=by
 unfold dv;rw[<-UR a 32 h (by omega) 33 (by omega),gZ]
theorem UT{α:Type}(f:α->Nat)(c:Nat): ∀l:List α,(∀x∈l,f x<=c)->(l.map f).sum<=l.length*c
 | [],_=>by simp
 |x::xs,h=>by
  have d:=h x (amM ..);have b:=UT f c xs λy a=>h y (aiF _ a)
  simp only[aoZ,List.sum_cons,aho,arq];omega
theorem aih(t:aw): ∀ (n h:Nat),(gZ t n h).length<=33^n
 |0,h=>by simp[gZ]
 |n+1,h=>by
  rw[gZ,aho,List.length_flatMap];have c:=UT (λx=>(gZ t n x).length) (33^n) (kids t h) λx _=>aih t n x
  have a:=aie t h;have b: (kids t h).length*33^n<=32*33^n:=anU _ a
  grind
def UU{t:aw}(a:cm t)(h:Nat): (dv t h).length<=39135393:=by
 have:=aih t 5 h;unfold dv;rw[UR a 5 h (by omega) 32 (by omega)];omega
def aDM{t:aw}(h:Nat):dv t h≠[]:=by unfold dv;rw[gZ];simp
def Gi{t:aw}(f:gL t.b)(b:t.ax h=true)(a:x∈dv t h):t.ax x=true:=by
 have key: ∀ (n h:Nat),t.ax h=true->x∈gZ t n h->t.ax x=true:=by
  intro n
  induction n with
  |zero=>intro h b a;rw[gZ,ahe]at a;grind
  |succ n c=>
   intro h b a;rcases ai2.1 a with rfl|a
   ·omega
   ·obtain⟨y,d,e⟩:=arC.1 a;exact c y ((jm f).1 (Mi d).2.2) e
 exact key 32 h b a
def nq(k:bg)(a:Nat):lN:=sO k λx=>decide (x.aL=a)
def xk(k:bg)(aa:Nat):lN:=sO k λx=>decide (x.to=aa)
def nr(k:bg)(l:lN):bg:=l.foldl (λk h=>{k with b:=(ek k.b h).1}) k
def Mj(k:bg)(a:Nat):bg:=nr k (nq k a)
def UW(k:bg)(h:Nat):lN:=sO k λx=>decide (x.aR=h)
def ns(k:bg):Nat->Nat->lN
 |0,h=>[h]
 |n+1,h=>h:: (UW k h).flatMap (ns k n)
def rp(k:bg)(h:Nat):lN:=(bm k.b).filter λx=>(ns k 16 h).contains x
def mJ(k:bg)(h:Nat):bg×lN×Nat:=if ax k.b h then(nr k (rp k h),rp k h,0)else(k,[],4)
def xl(k:bg)(b a:Nat):Bool:=nj k a&& !sP k b a
def zD(k:bg)(b a:Nat):Bool:=nj k a&&decide (Cb k b a=0)
def Gj(T:aw)(K:bg)(h a:Nat):Bool:=
 if a=0 then xl K h 0 else if a=1 then zD K h 0 else if a=2 then !((under T h).any λx=>decide (0< (nq K x).length))else false
def Gk(K:bg)(aa h a:Nat):Bool:=(nq K h).any λt=>
 decide ((b9 K t).1.to=aa)&& ((decide (a=0)&&xl K h t)|| (decide (a=1)&& (b9 K t).1.mu&&zD K h t))
def xm(T:aw)(O:bM)(K:bg)(aa h a:Nat):Nat:=
 if T.ax h=false then 4
 else if(b0 O T h).kind=3 then(if a=0/\aa<8/\ (b0 O T h).hold.testBit aa=true then 0 else 5)
 else if(b0 O T h).kind=1 then(if((b0 O T h).aa=aa/\Gj T K h a=true)\/Gk K aa h a=true then 0 else 5)
 else 5
def zE:kj:=⟨0,0,0,false⟩
def l8(b:cK)(i:Nat):Nat:=(b.fr+i) % 4
def oA(b:cK)(m:kj):cK×Nat:=
 if b.closed then(b,11)else if b.n=4 then(b,7)else({b with ring:=aq b.ring (l8 b b.n) m,n:=b.n+1},0)
def mK(b:cK):cK×kj×Nat:=
 if b.n=0 then(b,zE,if b.closed then 11 else 10)else({b with fr:=l8 b 1,n:=b.n-1},b.ring b.fr,0)
def vk(b:cK):cK×Nat:=if b.closed then(b,11)else({b with closed:=true},0)
def fQ(b:cK):List kj:=(List.range b.n).map λi=>b.ring (l8 b i)
def zF:cK:=⟨λ_=>zE,0,0,true⟩
def nu(t:aw)(r a to:Nat)(b:Bool):aw×Nat:=
 if t.ax r=false\/ (to≠0/\t.ax to=false)then(t,4)
 else if 8<=a then(t,2)
 else if to≠0/\b=false/\kn t to r=false then(t,5)
 else
  let x:=(aK t r).1
  let n:=fD t r {x with cells:=aq x.cells a to}
  if n.2=0 then n else(t,n.2)
def sS(t:aw)(r a:Nat):Nat×Nat:=
 if t.ax r=false then(0,4)
 else if 8<=a then(0,2)
 else
  let to:=(aK t r).1.cells a
  if to=0 then(0,10)else if t.ax to=false then(0,4)else(to,0)
structure ar where
 s:bG
 aa:Nat
 c:cp
 run:aE
 mL:Nat
 asks:Bool
 back:List aE
abbrev R(α:Type):=Except Nat α
def ask(b:Bool)(e:Nat):R Unit:=if b then .ok ()else .error e
def bb(e:Nat):R Unit:=if e=0 then .ok ()else .error e
def ar.t(x:ar)(T:aw):ar:={x with s:={x.s with T:=T}}
def ar.o(x:ar)(O:bM):ar:={x with s:={x.s with O:=O}}
def ar.k(x:ar)(K:bg):ar:={x with s:={x.s with K:=K}}
def ar.bx(x:ar)(i:Nat)(b:cK):ar:={x with s:={x.s with c8:=aq x.s.c8 i b}}
def fE(x:ar)(h a:Nat):R Unit:=bb (xm x.s.T x.s.O x.s.K x.aa h a)
def l9(x:ar)(aa:Nat):R Unit:=ask (decide (aa<8)&&x.s.alive aa) 2
def iN(x:ar)(y:Nat):ar:={x.k (Mj x.s.K y)with back:=x.back++(aK x.s.T y).1.runs}
def gu(x:ar)(h:Nat):ar:=let y:=(under x.s.T h).foldl iN x;y.t (l7 y.s.T h).1
def vl(x:ar)(h:Nat):R ar:=do bb (jl x.s.T h).2;return x.t (jl x.s.T h).1
def mM(x:ar)(h aa:Nat):R ar:=do bb (rn x.s.O x.s.T h aa).2;return x.o (rn x.s.O x.s.T h aa).1
def nv(x:ar)(h:Nat)(r:dc):R ar:=do bb (fD x.s.T h r).2;return x.t (fD x.s.T h r).1
def bX:bE:=⟨0,0,0⟩
def p9(x:ar):R (ar×bE):=do
 if x.c.r≠0 then fE x x.c.r 1
 let n:=hH x.s.T x.c.r (min x.c.a 65)
 bb n.2.2
 let y:=x.t n.1
 let y<-if x.c.r=0 then mM y n.2.1 x.aa else pure y
 return (y,{bX with w:=n.2.1})
def isObj(a b:Nat):Bool:=decide (1<=a)&&decide (a<=128)&& [1,2,4,8].contains b
def gM(c:List aE)(len b a:Nat):oN:=
 if isObj b a then(let at':=(len+a-1)/a*a;if at'+b<=aM c*32 then some at' else none)else none
def qa(a b:Nat):oN:=if isObj a b then some ((a+31)/32)else none
def ko(a:List aE):Nat->Nat->oN:=match a with
 | []=>λ_ _=>none
 |r::rs=>λbase at'=>if base<=at'/\at'<base+r.2*32 then some (r.1*32+at'-base)else ko rs (base+r.2*32) at'
def jL(x:ar):R (ar×bE):=do
 let size:=min x.c.a 129
 let align:=min x.c.b 9
 let n<-match qa size align with|some n=>pure n|none=>.error 2
 fE x x.c.r 1
 bb (aK x.s.T x.c.r).2
 let r:=(aK x.s.T x.c.r).1
 match gM r.runs r.len size align with
 |some at'=>do
  let y<-nv x x.c.r {r with len:=at'+size}
  return (y,{bX with v:=at'})
 |none=>do
  ask (decide (aM r.runs+n<=r.dt)) 6
  let x:={x with mL:=n}
  if x.asks then return (x,bX)
  let runs:=r.runs++[x.run]
  let len:=aM r.runs*32
  ask (decide (x.run.2=n)&&pZ runs len) 2
  let at':=(gM runs len size align).getD 0
  let b:=match gM runs len size align with|some a=>a+size|none=>len
  let y<-nv x x.c.r {r with runs:=runs,len:=b}
  return (y,{bX with v:=at'})
def rq(x:ar)(a:Nat):R (ar×bE):=do
 ask (decide (1<=x.c.b)&&decide (x.c.b<=8)) 2
 fE x x.c.r a
 bb (aK x.s.T x.c.r).2
 ask (decide (x.c.a+x.c.b<=(aK x.s.T x.c.r).1.len)) 9
 return (x,bX)
def sT(x:ar):R (ar×bE):=do
 fE x x.c.r 1
 bb (aK x.s.T x.c.r).2
 let r:=(aK x.s.T x.c.r).1
 let y<-nv {x with back:=x.back++r.runs} x.c.r {dC with dt:=r.dt}
 return (y,bX)
def sU(x:ar):R (ar×bE):=do
 fE x x.c.r 2
 return (gu x x.c.r,bX)
def vm(x:ar):R (ar×bE):=do
 fE x x.c.r 2
 ask (decide (root x.s.T x.c.r≠x.c.r)) 12
 let y<-vl x x.c.r
 let y<-mM y x.c.r x.aa
 return (y,bX)
def vo(x:ar):R (ar×bE):=do
 fE x x.c.r 2
 fE x x.c.s 1
 let t:=vi x.s.T x.c.r x.c.s
 bb t.2
 return (x.t t.1,bX)
def vq(x:ar):R (ar×bE):=do
 fE x x.c.r 2
 let y<-vl x x.c.r
 let o:=Ca y.s.O y.s.T x.c.r x.aa
 bb o.2
 return (y.o o.1,bX)
def xn(x:ar)(h:Nat):R Unit:=do
 ask (x.s.T.ax h) 4
 let o:=b0 x.s.O x.s.T h
 ask (decide (root x.s.T h=h)&&decide (o.kind=3)) 12
 ask (o.hold.testBit x.aa) 5
def Cf(x:ar)(h aa:Nat):bM×Nat:=((du x.s.O x.s.T h aa true).1,(du x.s.O x.s.T h aa true).2.2)
def sV(x:ar):R (ar×bE):=do
 l9 x x.c.a
 xn x x.c.r
 let o:=Cf x x.c.r x.c.a
 bb o.2
 return (x.o o.1,bX)
def jM(x:ar)(h aa:Nat):R ar:=do
 let o:=du x.s.O x.s.T h aa false
 bb o.2.2
 let y:=x.o o.1
 return if o.2.1=0 then gu y h else y
def vt(x:ar):R (ar×bE):=do
 xn x x.c.r
 return (<-jM x x.c.r x.aa,bX)
def qb(x:ar):R (ar×bE):=do
 l9 x x.c.a
 ask (decide (x.c.b<=1)) 2
 ask (x.s.T.ax x.c.r) 4
 if x.c.s=0 then ask (decide ((b0 x.s.O x.s.T x.c.r).kind=1)&&decide ((b0 x.s.O x.s.T x.c.r).aa=x.aa)) 5
 else do
  bb (b9 x.s.K x.c.s).2
  ask (decide ((b9 x.s.K x.c.s).1.to=x.aa)&&decide ((b9 x.s.K x.c.s).1.aL=x.c.r)) 5
 let k:=ln x.s.K ⟨x.c.r,x.aa % 256,x.c.a % 256,decide (x.c.b=1),x.c.s⟩
 bb k.2.2
 return (x.k k.1,{bX with w:=k.2.1})
def vu(x:ar):R (ar×bE):=do
 bb (b9 x.s.K x.c.s).2
 ask (decide ((b9 x.s.K x.c.s).1.to=x.aa)) 5
 return (x.k (mJ x.s.K x.c.s).1,bX)
def nw(x:ar):R (ar×bE):=do
 l9 x x.c.a
 ask (decide (x.c.b<=1)) 2
 let share:=decide (x.c.r≠0)&&decide (x.c.b=1)
 let y<-if share then do
     xn x x.c.r
     pure (if(Cf x x.c.r x.c.a).2=0 then x.o (Cf x x.c.r x.c.a).1 else x)
  else if x.c.r≠0 then do
   fE x x.c.r 2
   let y<-vl x x.c.r
   let o:=zy y.s.O y.s.T x.c.r
   bb o.2
   pure (y.o o.1)
  else pure x
 let b:=oA (y.s.c8 x.c.a) ⟨x.aa % 256,x.c.v,x.c.r,share⟩
 bb b.2
 return (y.bx x.c.a b.1,bX)
def oB(x:ar):R (ar×bE):=do
 let b:=mK (x.s.c8 x.aa)
 bb b.2.2
 let y:=x.bx x.aa b.1
 let m:=b.2.1
 let y<-if m.aL≠0/\m.share=false then mM y m.aL x.aa else pure y
 return (y,{bX with v:=m.word,w:=m.aL})
def vx(x:ar):R (ar×bE):=do
 let b:=vk (x.s.c8 x.aa)
 bb b.2
 return (x.bx x.aa b.1,bX)
def oC(x:ar):R (ar×bE):=do
 fE x x.c.r 1
 if x.c.s≠0 then fE x x.c.s 0
 let t:=nu x.s.T x.c.r (min x.c.a 8) x.c.s (decide ((b0 x.s.O x.s.T x.c.s).kind=3))
 bb t.2
 return (x.t t.1,bX)
def vy(x:ar):R (ar×bE):=do
 fE x x.c.r 0
 let t:=sS x.s.T x.c.r (min x.c.a 8)
 bb t.2
 return (x,{bX with w:=t.1})
def ny(x:ar)(aa:Nat):R ar:=do
 let l:=fQ (x.s.c8 aa)
 let y:=x.bx aa zF
 let y:={y with s:={y.s with alive:=aq y.s.alive aa false}}
 let y<-l.foldlM (λy m=>if m.aL=0\/m.share=true then pure y else if y.s.alive m.fr then mM y m.aL m.fr else pure (gu y m.aL)) y
 let y:=(xk y.s.K aa).foldl (λy h=>y.k (mJ y.s.K h).1) y
 let y:=((bm y.s.T.b).filter λh=>decide (root y.s.T h=h)&&decide ((b0 y.s.O y.s.T h).kind=1)&&decide ((b0 y.s.O y.s.T h).aa=aa)).foldl gu y
 ((bm y.s.T.b).filter λh=>decide (root y.s.T h=h)&&decide ((b0 y.s.O y.s.T h).kind=3)&& (decide (aa<8)&&oz (b0 y.s.O y.s.T h).hold aa)).foldlM (λy h=>jM y h aa) y
def xo(x:ar):R (ar×bE):=do
 l9 x x.c.a
 return (<-ny x x.c.a,bX)
def rr(x:ar):R (ar×bE):=do
 ask (decide (x.c.a<8)&& !x.s.born (x.c.a % 8)) 2
 return ({x with s:={x.s with alive:=aq x.s.alive x.c.a true,born:=aq x.s.born x.c.a true}},bX)
def kp(x:ar):R (ar×bE):=match x.c.op with
 |1=>p9 x|2=>jL x|3=>rq x 0|4=>rq x 1|5=>sT x|6=>sU x|7=>vm x|8=>vo x|9=>vq x|10=>sV x
 |11=>vt x|12=>qb x|13=>vu x|14=>nw x|15=>oB x|16=>oB x|17=>vx x|18=>oC x|19=>vy x
 |20=>do return (<-ny x x.aa,bX)
 |21=>xo x|22=>rr x
 |_=>.error 2
def jn(x:ar):R (ar×bE):=do
 ask (decide (x.aa<8)&&x.s.alive x.aa) 12
 kp x
def dJ(s:bG)(aa:Nat)(c:cp)(run:aE):bG×bE×List aE:=match jn ⟨s,aa,c,run,0,false,[]⟩with
 |.ok (x,r)=>if r.e=0 then(x.s,r,x.back)else(s,r,[])
 |.error e=>(s,{bX with e:=e},[])
def eV(s:bG)(aa:Nat)(c:cp):Nat:=if c.op≠2 then 0 else match jn ⟨s,aa,c,(0,0),0,true,[]⟩with
 |.ok (x,_)=>x.mL
 |.error _=>0
def iO(s:bG)(c:cp):lN×Nat:=
 if(aK s.T c.r).2≠0 then([],(aK s.T c.r).2)
 else if(c.op≠3/\c.op≠4)\/c.b<1\/8<c.b then([],2)
 else if(aK s.T c.r).1.len<c.a+c.b then([],9)
 else((List.range c.b).map λi=>(ko (aK s.T c.r).1.runs 0 (c.a+i)).getD 0,0)
def oD(s:bG)(aa:Nat)(c:cp):Nat:=if 0<eV s aa c then 0 else(dJ s aa c (0,0)).2.1.e
def Cg(s:bG)(aa:Nat)(c:cp):Bool:=decide (c.op=15)&&decide (oD s aa c=10)
def oE(s:bG)(h:Nat):lN:=if s.T.ax h then[h]else[]
def sW(s:bG)(c:cp):lN:=
 if[1,2,3,4,5,10,12,18,19].contains c.op then oE s c.r
 else if[6,7,9,11].contains c.op then under s.T c.r
 else if c.op=8 then
  (if under s.T c.r=[]\/s.T.ax c.s=false then[]else if(under s.T c.r).contains c.s then under s.T c.r else under s.T c.r++[c.s])
 else if c.op=13 then(if(b9 s.K c.s).2=0 then oE s (b9 s.K c.s).1.aL else[])
 else if c.op=14 then(if c.b=1 then oE s c.r else under s.T c.r)
 else[]
structure fh where
 has:Nat
 n:Nat
 wait:Nat->Nat
abbrev Marks:=Nat->fh
def xp:fh:=⟨0,0,λ_=>0⟩
def ru(l:fh)(aa:Nat):oN:=(List.range l.n).find? λi=>decide (l.wait i=aa % 256)
def UX(l:fh)(i:Nat):fh:={l with n:=l.n-1,wait:=aq (λj=>if i<=j/\j<7 then l.wait (j+1)else l.wait j) (l.n-1) 0}
def xq(l:fh)(aa:Nat):fh:=match ru l aa with
 |none=>l
 |some i=>UX l i
def iP(a aa:Nat):Bool:=decide (a<32)&&decide (aa<8)
def iQ(m:Marks)(a aa:Nat):Marks×Bool:=
 if iP a aa=false then(m,false)
 else if(m a).has=aa+1 then(m,true)
 else if(m a).has=0/\ ((m a).n=0\/ru (m a) aa=some 0)then(aq m a {xq (m a) aa with has:=aa+1},true)
 else if ru (m a) aa=none then(aq m a {m a with n:=(m a).n+1,wait:=aq (m a).wait (m a).n aa},false)
 else(m,false)
def Ch(l:fh)(aa:Nat):fh:=if l.has=aa+1 then{l with has:=0}else l
def ry(m:Marks)(aa:Nat):Marks:=λi=>if iP i aa then xq (Ch (m i) aa) aa else m i
structure cN where
 n:Nat
 free:List aE
 bytes:Nat->Nat->Nat
 cx:Bool
def rA(l:List aE)(x:aE):Option (List aE):=
 if lk x=false then none
 else match l.findIdx? λy=>decide (x=y)|| (decide (y.1<=x.1)&&decide (x.1+x.2<=y.1+y.2))with
  |none=>none
  |some i=>
   let y:=l.getD i (0,0)
   some (l.take i++((if y.1<x.1 then[(y.1,x.1-y.1)]else[])++(if x.1+x.2<y.1+y.2 then[(x.1+x.2,y.1+y.2- (x.1+x.2))]else[]))++l.drop (i+1))
def UY(l:List aE)(k:Nat):Bool:=decide (k<64)&&l.any λy=>decide ((k,1)=y)|| (decide (y.1<=k)&&decide (k+1<=y.1+y.2))
def jo(p:cN)(n:Nat):cN×Nat×Nat:=
 if n<1 then(p,0,2)
 else match p.free.find? λx=>decide (1<=n)&&decide (n<=x.2)with
  |none=>(p,0,6)
  |some x=>(match rA p.free (x.1,n)with
   |some l=>{p with free:=l,cx:=false}
   |none=>p,x.1,0)
def gh(p:cN)(a:Nat):Nat:=if p.n<=a then 2 else if UY p.free a then 12 else 0
def rB(p:cN)(a:Nat):cN:=if gh p a=0 then{p with bytes:=aq p.bytes a λ_=>0}else p
def Mk(p:cN)(a:Nat):cN:=match ir p.free (a,1)with
 |some l=>{p with free:=l,cx:=false}
 |none=>p
def rC(p:cN)(a:Nat):cN:=if gh p a=0 then Mk p a else p
def sX(p:cN)(at':Nat):Nat:=if gh p (at'/32)=0 then p.bytes (at'/32) (at' % 32)else 0
def vz(p:cN)(at' b:Nat):cN:=if gh p (at'/32)=0 then{p with bytes:=aq p.bytes (at'/32) (aq (p.bytes (at'/32)) (at' % 32) b)}else p
structure Core where
 S:bG
 P:cN
 M:Marks
 Q:lN
structure Call where
 aa:Nat
 c:cp
 checked:Bool
 aT:lN
 run:aE
 eW:Nat
def iR(r:aE):lN:=(List.range r.2).map λi=>r.1+i
def cU(x:Core)(r:aE):Core:={x with Q:=x.Q++iR r}
def vA(x:Core)(c:Call):Core:={cU x c.run with M:=ry x.M c.aa}
structure bT where
 x:Core
 c:Call
 r:bE
 ended:Bool
def rD(s:bT)(r:bE):bT:={s with r:=r,ended:=true,x:=vA s.x s.c}
def oF(s:bT):bT×Bool:=
 if s.c.checked then(s,false)
 else if Cg s.x.S s.c.aa s.c.c then(s,true)
 else if oD s.x.S s.c.aa s.c.c≠0 then(rD s {bX with e:=oD s.x.S s.c.aa s.c.c},true)
 else({s with c:={s.c with checked:=true,aT:=sW s.x.S s.c.c}},true)
def oG(s:bT):bT×Bool:=match s.c.aT with
 | []=>(s,false)
 |h::hs=>
  let m:=iQ s.x.M (aN h) s.c.aa
  ({s with x:={s.x with M:=m.1},c:=if m.2 then{s.c with aT:=hs}else s.c},true)
def oH(s:bT):bT×Bool:=
 let n:=eV s.x.S s.c.aa s.c.c
 if n=0\/0<s.c.run.2 then(s,false)
 else
  let p:=jo s.x.P n
  if p.2.2≠0 then(rD {s with x:={s.x with P:=p.1}} {bX with e:=p.2.2},true)
  else({s with x:={s.x with P:=p.1},c:={s.c with run:=(p.2.1,n)}},true)
def oI(s:bT):bT×Bool:=
 if s.c.run.2<=s.c.eW then(s,false)
 else({s with x:={s.x with P:=rB s.x.P (s.c.run.1+s.c.eW)},c:={s.c with eW:=s.c.eW+1}},true)
def byteOf(v i:Nat):Nat:=v/2^(8*i) % 256
def zG(s:bT):bT:=
 let s:=if 0<s.c.run.2/\eV s.x.S s.c.aa s.c.c≠s.c.run.2 then{s with x:=cU s.x s.c.run,c:={s.c with run:=(0,0)}}else s
 let places:=(iO s.x.S s.c.c).1
 let d:=dJ s.x.S s.c.aa s.c.c s.c.run
 if d.2.1.e≠0 then rD s d.2.1
 else
  let P:=if s.c.c.op=4 then(List.range places.length).foldl (λP i=>vz P (places.getD i 0) (byteOf s.c.c.v i)) s.x.P else s.x.P
  let v:=if s.c.c.op=3 then(List.range places.length).foldl (λv i=>v|||sX s.x.P (places.getD i 0)*2^(8*i)) d.2.1.v else d.2.1.v
  let x:=d.2.2.foldl cU {s.x with S:=d.1,P:=P}
  rD {s with x:=x,c:={s.c with run:=(0,0)}} {d.2.1 with v:=v}
def gv(x:Core)(c:Call):bT:=
 let d:bT:=⟨x,c,bX,false⟩
 let s1:=oF d
 if s1.2 then s1.1 else
 let s2:=oG s1.1
 if s2.2 then s2.1 else
 let b:=oH s2.1
 if b.2 then b.1 else
 let a:=oI b.1
 if a.2 then a.1 else zG a.1
def iS(x:Core):Core×Bool:=match x.Q with
 | []=>(x,false)
 |q::a=>({x with P:=rC x.P q,Q:=a},true)
structure dG where
 op:Nat
 a:Nat
 b:Nat
 c:Nat
 n:Nat
 deriving DecidableEq,Inhabited
def rE(x:dG)(n:Nat):Bool:=
 (decide (x.op<=6)|| (decide (16<x.op)&&decide (x.op<=38)))&&decide (x.a<8/\x.b<8/\x.c<8)&& (!(decide (x.op=5)||decide (x.op=6))||decide (x.n<n))
def qc(l:List dG):Bool:=decide (l.length<=64)&&l.all λx=>rE x l.length
def rF:lB->List dG
 |a::b::c::d::e::f::r=>⟨a.toNat,b.toNat,c.toNat,d.toNat,e.toNat+256*f.toNat⟩::rF r
 |_=>[]
def decode(s:lB):Option (List dG):=
 if s.length % 6≠0\/384<s.length then none else if qc (rF s)then some (rF s)else none
structure Task where
 code:List dG
 next:Nat
 aT:Nat->Nat
def ma:Nat:=18446744073709551616
def rG(t:Task):Option dG:=t.code[t.next]?
def nz:cp:=⟨0,0,0,0,0,0⟩
def iu(t:Task):cp×Bool:=match rG t with
 |none=>({nz with op:=20},true)
 |some x=>
  if x.op=0 then({nz with op:=20},true)
  else if x.op<=16 then(nz,false)
  else(⟨x.op-16,t.aT (x.b % 8) % 4294967296,t.aT (x.c % 8) % 4294967296,t.aT 6 % 4294967296,x.n,t.aT 5⟩,true)
def rH(t:Task):Task:=
 if(iu t).2 then t
 else match rG t with
  |none=>t
  |some x=>
   let b:=t.aT (x.b % 8)
   let c:=t.aT (x.c % 8)
   let put:=λv=>{t with aT:=aq t.aT (x.a % 8) v,next:=t.next+1}
   if x.op=1 then put x.n
   else if x.op=2 then put ((b+c) % ma)
   else if x.op=3 then put ((b+ma-c) % ma)
   else if x.op=4 then put (b*2^x.n % ma)
   else if x.op=5 then{t with next:=x.n}
   else if x.op=6 then{t with next:=if t.aT (x.a % 8)≠0 then x.n else t.next+1}
   else{t with next:=t.next+1}
def sY(t:Task)(r:bE):Task:=match rG t with
 |none=>t
 |some x=>if(iu t).2 then{t with aT:=aq (aq (aq t.aT (x.a % 8) r.v) 4 r.w) 7 r.e,next:=t.next+1}else t
structure Runner where
 t:Task
 c:Call
 busy:Bool
 fr:Nat
structure Event where
 aa:Nat
 c:cp
 run:aE
 r:bE
 fr:Nat
 to:Nat
structure aX where
 az:Core
 aA:Nat->Runner
 now:Nat
 cH:List Event
def gw:Call:=⟨0,nz,false,[],(0,0),0⟩
def sZ:Task:=⟨[],0,λ_=>0⟩
def Ci:Runner:=⟨sZ,gw,false,0⟩
def qd(m:aX)(t:Nat):Bool:=decide (t<8)&&m.az.S.alive t
def nA(m:aX)(i:Nat):aX:=
 if(m.aA i).busy=true/\qd m i=false then{m with az:=vA m.az (m.aA i).c,aA:=aq m.aA i {m.aA i with busy:=false,c:=gw}}else m
def mN(m:aX):aX:=(List.range 8).foldl nA m
def handed(b:aE)(a c:Nat):aE:=if b.2<=c-a/\0<b.2 then(0,0)else b
def Ml(m:aX)(t:Nat)(c:Call)(run:aE)(r:bE):aX:=
 {m with cH:=m.cH++[⟨t,c.c,run,r,(m.aA t).fr,m.now⟩],aA:=aq m.aA t {m.aA t with t:=sY (m.aA t).t r,busy:=false,c:=gw}}
def xr(m:aX)(t:Nat):aX:=
 let c:=(m.aA t).c
 let s:=gv m.az c
 let m':={m with az:=s.x,aA:=aq m.aA t {m.aA t with c:=s.c}}
 if s.ended then
  let run:=if s.r.e≠0\/s.c.c.op≠2 then(0,0)else c.run
  Ml m' t s.c (handed run m.az.Q.length s.x.Q.length) s.r
 else m'
def zH(m:aX)(t:Nat):aX:=
 let x:=m.aA t
 if x.busy then xr m t
 else if(iu x.t).2 then xr {m with aA:=aq m.aA t {x with c:={gw with aa:=t,c:=(iu x.t).1},busy:=true,fr:=m.now}} t
 else{m with aA:=aq m.aA t {x with t:=rH x.t}}
def Cj(m:aX)(t:Nat):aX:=
 let c:={nz with op:=20}
 let d:=dJ m.az.S t c (0,0)
 {m with az:={d.2.2.foldl cU m.az with S:=d.1},cH:=m.cH++[⟨t,c,(0,0),d.2.1,m.now,m.now⟩]}
def gx(m:aX)(b:Nat):aX×Nat:=
 let t:=b % 8
 if(8<b/\b<16)\/24<=b then(m,2)
 else if b=8 then(if(iS m.az).2 then(mN {m with az:=(iS m.az).1,now:=m.now+1},0)else(m,10))
 else if qd m t=false then(m,12)
 else if 16<=b then(mN (Cj {m with now:=m.now+1} t),0)
 else(mN (zH {m with now:=m.now+1} t),0)
def rI(m:aX)(t:Nat):Option Call:=if t<8/\ (m.aA t).busy=true then some (m.aA t).c else none
def Ck(m:aX)(t:Nat):Bool:=match rI m t with
 |none=>false
 |some c=>qd m t&& !c.checked&&Cg m.az.S t c.c
def iT(m:aX)(t:Nat):Bool:=decide (t<8)&&qd m t&& !Ck m t
structure UZ where
 aM:Int
 aC:List lB
 aW:lN
def lq(b:Nat):Bool:=decide (b<8)||decide (b=8)|| (decide (16<=b)&&decide (b<24))
def nC(s:UZ):Bool:=
 decide (1<=s.aM/\s.aM<=64/\1<=s.aC.length/\s.aC.length<=8/\s.aW.length<=4000)&&s.aC.all (λp=>(decode p).isSome)&&s.aW.all lq
def oJ:bG:=⟨⟨λ_=>⟨0,false,false⟩,λ_=>dC⟩,λ_=>⟨0,xj⟩,⟨λ_=>⟨0,false,false⟩,λ_=>Mh⟩,λ_=>⟨λ_=>zE,0,0,false⟩,λi=>decide (i=0),λi=>decide (i=0)⟩
def U0(s:UZ):aX:=⟨⟨oJ,⟨s.aM.toNat,[(0,s.aM.toNat)],λ_ _=>0,true⟩,λ_=>xp,[]⟩,λi=>{Ci with t:={sZ with code:=((s.aC[i]?).bind decode).getD []}},0,[]⟩
def Mm(s:UZ):aX×lN:=s.aW.foldl (λp b=>((gx p.1 b).1,p.2++[(gx p.1 b).2])) (U0 s,[])
def kL:lN:=[iH,j9,mw,m6,qP,sr,pC,pA]
noncomputable def X0:Ctx:={dg:=λg=>(B8.lookup g).map λ_=>[.jb g],code:=λf=>if kL.contains f then none else zo.lookup f,bU:=λ_=>none,fb:=λg=>(B8.lookup g).map qM}
def atn(h:Nat)(c:h<4294967296):dh .and (.int .u32 h) (.int .u32 255)=some (.int .u32 ((h % 256:Nat):Int)):=by
 rw[DQ];have e: (BitVec.ofInt IntKind.u32.bits (h:Int)&&&BitVec.ofInt IntKind.u32.bits 255).toNat=h % 256:=by
  show(BitVec.ofInt 32 (h:Int)&&&BitVec.ofInt 32 255).toNat=h % 256;rw[BitVec.toNat_and];have b: (BitVec.ofInt 32 (h:Int)).toNat=h:=by grind
  have a: (BitVec.ofInt 32 255).toNat=2^8-1:=by rfl
  rw[b,a,aDy]
 rw[e,wrap_u32 (by omega) (by omega)]
theorem p8: (2:Int)^min 8 IntKind.u32.bits=256:=by rfl
def aii: ((a:Nat):Int).fdiv 256=((a/256:Nat):Int):=by grind
def ato(s:Slot)(g:Nat)(a c:Bool):ed (.agg [.int,.bool,.bool]) (.agg (iG s)) (.agg [.int .u32 g,.bool a,.bool c])=some (decide (s=⟨g,a,c⟩)):=by
 obtain⟨b,a',d⟩:=s;simp only[ed,iG,aho,apt,aeX,arL,aeY,aiZ,and_self,Slot.mk.injEq,Int.natCast_inj]
 grind
def iv(h:Nat):AV:=.au [.int .i64 ((eC h).getD 0:Nat),.bool (eC h).isSome]
def jN(h:Nat)(a:h<4294967296)(H:List ae)(lo:oN):D X0 (.fn (.func lT) [] []) [.int .u32 h] ⟨H,lo⟩=some (.ret (iv h) ⟨H,lo⟩):=by
 refine aF RX λN b=>?_
 simp(disch:=omega) only[↓R1,Zz,simprocAttr,RX,atn h a];refine uI 19 (.bool (!(eC h).isSome)) [4] rfl rfl ?_ λc=>?_
 ·simp only[R4,↓R1,Zz,simprocAttr,p8,aii]
  (repeat' (first|apply And.intro|intro _))
  all_goals(refine akG AV.bool ?_;unfold eC;split<;>simp<;>omega)
 cases hs:eC h with
 |none=>simp(disch:=omega) only[F1,↓R1,Zz,simprocAttr,iv,hs]
 |some i=>
  have: (h % 256:Nat)- (1:Int)=(i:Nat):=by
   unfold eC at hs;split at hs<;>cases hs;omega
  simp(disch:=omega) only[F1,↓R1,Zz,simprocAttr,iv,hs,this]
def aij(i g:Nat)(a:i<32)(b:g<=8388607)(H:List ae)(lo:oN):D X0 (.fn (.func I1) [] []) [.int .i64 i,.int .u32 g] ⟨H,lo⟩=some (.ret (.int .u32 (c7 i g)) ⟨H,lo⟩):=by
 refine aF Sc λN c=>?_
 simp(disch:=omega) only[F1,↓R1,Zz,simprocAttr,Sc,p8];exact da (akG _ (by rfl)) rfl
def eo(b:cE)(h:Nat)(d:h<4294967296)(H:List ae)(lo:oN):D X0 (.fn (.func lS) [] []) [.agg (bY b),.int .u32 h] ⟨H,lo⟩=some (.ret (.bool (ax b h)) ⟨H,lo⟩):=by
 refine aF RK λN e=>?_
 simp only[↓R1,Zz,simprocAttr,RK,e,jN h d,iv];cases hs:eC h with
 |none=>simp(disch:=omega) only[F1,↓R1,Zz,simprocAttr,ax,hs]
 |some i=>
  have c:=ahA hs;have a: (i:Int)<32:=by omega
  simp(disch:=omega) only[F1,↓arl,↓R1,Zz,simprocAttr,ax,hs,ahv c,a,p8,aii,ato]
def mO{p:Nat->Prop}{k:Nat}(h: ∀j,j<k->p j)(a:p k): ∀j,j<k+1->p j:=by grind
def atp{p:Nat->Bool}{k:Nat}(b:k<n)(a:p k=true)(h: ∀j,j<k->p j=false): (List.range n).find? p=some k:=by simp_all
def atq{p:Nat->Bool}(h: ∀j,j<n->p j=false): (List.range n).find? p=none:=by grind
def s5(b:cE):AV:=.au [.agg (bY (pY b).1),.int .u32 (pY b).2.1,.bool (pY b).2.2]
theorem Mo:Bv.length=96:=by rfl
theorem Mp:List.drop 96 Bv=[]:=by rfl
def Mr:type_of% Mo/\type_of% Mp:=by decide
def aik(b:cE)(p:gL b)(H:List ae)(lo:oN):D X0 (.fn (.func JQ) [] []) [.agg (bY b)] ⟨H,lo⟩=some (.ret (s5 b) ⟨H,lo⟩):=by
 refine aF TD λN q=>?_
 simp only[go_sem,simprocAttr,TD,q,↓Uv];refine dV 32 (λk e H'=> ∃J,H'=cat H (.box (bY b) none:: .box Bv none::J)/\e 1= .ptr N 0/\e 2= .ptr (N+1) 0/\e 8= .agg (bY b)/\e 9= .int .i64 k/\ ∀j,j<k->nh b j=false) 0 (by omega) ?_ ?_
 ·simp only[go_sem,simprocAttr];exact⟨[],dQ.symm,by simp⟩
 rintro k r e H' ⟨J,rfl,i,g,m,l,f⟩ n o;have d: ∀a b,(cat H (a::b::J)).length=n:=λ_ _=>by rw[<-o,F9,F9];rfl
 simp(disch:=omega) only[bR,F1,go_sem,simprocAttr,agX,i,g,m,l];refine⟨λh=>?_,λh=>?_⟩
 ·have c:k<32:=by omega
  cases hs: (b k).eH
  ·cases hr: (b k).ret
   ·simp(disch:=first|omega|apply d) only[F1,go_sem,simprocAttr,h,d,Uw c,iG,hs,hr,i,g,ahy c,aij k (b k).gen c (p k).1,Mr];have e:ni b=some k:=atp c (by simp[nh,hs,hr]) f;exact⟨by omega,by simp[s5,pY,e,hr]⟩
   ·simp(disch:=first|omega|apply d) only[go_sem,simprocAttr,h,d,Uw c,iG,hs,hr,i,g,m,l];exact⟨c,_,Ut,mO f (by simp[nh,hr])⟩
  ·simp(disch:=first|omega|apply d) only[go_sem,simprocAttr,h,d,Uw c,iG,hs,i,g,m,l];exact⟨c,_,Ut,mO f (by simp[nh,hs])⟩
 ·simp(disch:=first|omega|apply d) only[go_sem,simprocAttr,Mr];have e:ni b=none:=atq λj s=>f j (by omega)
  simp[s5,pY,e]
def atR(b:cE)(k:Nat):AV:=.au [.int .u32 (if k<32/\ (b k).eH=true then c7 k (b k).gen else 0:Nat),.bool (decide (k<32)&& (b k).eH)]
def atr(b:cE)(g:gL b)(k:Nat)(H:List ae)(lo:oN):D X0 (.fn (.func Qq) [] []) [.agg (bY b),.int .i64 k] ⟨H,lo⟩=some (.ret (atR b k) ⟨H,lo⟩):=by
 refine aF Fy λN d=>?_
 have e: ¬(k:Int)<0:=by omega
 by_cases a:k<32
 ·have c: ¬(k:Int)>=32:=by omega
  have f: (k:Int)<32:=by omega
  cases hs: (b k).eH
  ·simp only[F1,go_sem,simprocAttr,Fy,d,e,c,f,ahx a,hs,atR,a]
  ·simp only[F1,go_sem,simprocAttr,Fy,d,e,c,f,ahx a,ahw a,hs,aij k (b k).gen a (g k).1,atR,a]
 ·have c: (k:Int)>=32:=by omega
  simp only[F1,go_sem,simprocAttr,Fy,d,e,c,atR,a,false_and,akI]
def zI(b:cE)(h:Nat):AV:=.au [.agg (bY (ek b h).1),.bool (ek b h).2]
def ail(b:cE)(l:gL b)(h:Nat)(f:h<4294967296)(H:List ae)(lo:oN):D X0 (.fn (.func JY) [] []) [.agg (bY b),.int .u32 h] ⟨H,lo⟩=some (.ret (zI b h) ⟨H,lo⟩):=by
 refine aF Ma λN g=>?_
 cases c:ax b h with
 |false=>
  simp only[F1,go_sem,simprocAttr,Ma,g,eo b h f,c,Mr,zI,ek]
 |true=>
  obtain⟨e1,m,e3⟩:=Cc c;have d:=zA h;have e: (aN h:Int)<32:=by omega
  generalize a:aN h=i at*;have k:=(l i).1;simp(disch:=omega) only[bR,F1,go_sem,simprocAttr,Ma,g,eo b h f,c,Mr,jN h f,iv,e1,e,ahy d,asY d,asX d,ahw d,sI,cT];refine⟨by omega,λj=>⟨by omega,?_⟩,λj=>⟨by omega,?_⟩⟩
  ·simp[zI,ek,c,a,rm,show(b i).gen=8388607 by omega]
  ·simp[zI,ek,c,a,rm,show¬(b i).gen=8388607 by omega]
theorem Cl:jD.length=480:=by rfl
theorem ats:List.drop 480 jD=[]:=by rfl
def cL:type_of% Cl/\type_of% ats/\type_of% Mo/\type_of% Mp:=by decide
def zJ(n:Nat)(H:List ae)(lo:oN):D X0 (.fn (.func JX) [] []) [.int .i64 n] ⟨H,lo⟩=some (.ret (.bool (decide (n<=64))) ⟨H,lo⟩):=by
 refine aF TR λN b=>?_
 have a: (n:Int)>=0:=by omega
 simp(disch:=omega) only[F1,go_sem,simprocAttr,TR,a];exact da (akG AV.bool (apN.2 (by grind))) rfl
theorem aim:bS dC=[.int .u32 0,.int .i64 0,.ai,.int .i64 0,.int .u32 0,.int .u32 0,.int .u32 0,.int .u32 0,.int .u32 0,.int .u32 0,.int .u32 0,.int .u32 0]:=rfl
def ain(t:aw)(j:bN t)(h:Nat)(d:h<4294967296)(H:List ae)(lo:oN):D X0 (.fn (.func IT) [] []) [.agg (aJ t),.int .u32 h] ⟨H,lo⟩=some (.ret (.int .u32 (km t (aN h))) ⟨H,lo⟩):=by
 refine aF La λN g=>?_
 have c:=zA h;have a: (aN h:Int)<32:=by omega
 have e:iv h= .au [.int .i64 (aN h:Nat),.bool (eC h).isSome]:=rfl;have hu:=(j.r (aN h)).up;generalize aN h=i at*;have f:ax t.b (t.r i).up=t.ax (t.r i).up:=rfl;cases b:t.ax (t.r i).up
 ·simp only[F1,go_sem,simprocAttr,La,g,jN h d,e,a,UD c,eo t.b (t.r i).up hu,f,b,km,ahf]
 ·simp only[F1,go_sem,simprocAttr,La,g,jN h d,e,a,UD c,eo t.b (t.r i).up hu,f,b,km]
def nD(t:aw)(h:Nat):AV:=.au [.agg (bS (aK t h).1),.int .i64 (aK t h).2]
def vB(t:aw)(j:bN t)(h:Nat)(c:h<4294967296)(H:List ae)(lo:oN):D X0 (.fn (.func uN) [] []) [.agg (aJ t),.int .u32 h] ⟨H,lo⟩=some (.ret (nD t h) ⟨H,lo⟩):=by
 refine aF K4 λN i=>?_
 have k:=zA h;have f: (aN h:Int)<32:=by omega
 have e:iv h= .au [.int .i64 (aN h:Nat),.bool (eC h).isSome]:=rfl;have d:=ain t j h c;have b:aK t h=if t.ax h then({t.r (aN h)with up:=km t (aN h)},0)else(dC,4):=rfl
 unfold nD;rw[b];have g:ax t.b h=t.ax h:=rfl;cases a:t.ax h
 ·simp only[F1,go_sem,simprocAttr,K4,i,eo t.b h c,g,a,aim,ahf]
 ·simp only[F1,go_sem,simprocAttr,K4,i,jN h c,e,f,as3 k,eo t.b h c,g,a,d]
def zK(t:aw)(a n:Nat):AV:=.au [.agg (aJ (l5 t a n).1),.int .u32 (l5 t a n).2.1,.int .i64 (l5 t a n).2.2]
theorem aio: [AV.int .u32 0,.int .i64 n,.ai,.int .i64 0,.int .u32 0,.int .u32 0,.int .u32 0,.int .u32 0,.int .u32 0,.int .u32 0,.int .u32 0,.int .u32 0]=bS {dC with up:=0,dt:=n}:=rfl
theorem att{u:Nat}: [AV.int .u32 (u:Nat),.int .i64 n,.ai,.int .i64 0,.int .u32 0,.int .u32 0,.int .u32 0,.int .u32 0,.int .u32 0,.int .u32 0,.int .u32 0,.int .u32 0]=bS {dC with up:=u,dt:=n}:=rfl
def atu(t:aw)(o:bN t)(a n:Nat)(m:a<4294967296)(H:List ae)(lo:oN):D X0 (.fn (.func Ri) [] []) [.agg (aJ t),.int .u32 a,.int .i64 n] ⟨H,lo⟩=some (.ret (zK t a n) ⟨H,lo⟩):=by
 refine aF vh λN j=>?_
 have p:ax t.b a=t.ax a:=rfl;have d:=aik t.b o.b;unfold zK l5;by_cases e:a≠0/\t.ax a=false
 ·rw[afJ e];have b: ¬(a:Int)=0:=by omega
  simp only[F1,go_sem,simprocAttr,vh,j,b,eo t.b a m,p,e.2,cL]
 ·rw[afB e];have c:a=0\/ (¬(a:Int)=0/\t.ax a=true):=by
   by_cases r:a=0
   ·exact .inl r
   ·refine .inr ⟨by omega,?_⟩;cases s:t.ax a
    ·exact absurd ⟨r,s⟩ e
    ·rfl
  by_cases q:64<n
  ·rw[afJ q];have h:decide (n<=64)=false:=by simp;omega
   rcases c with rfl| ⟨b,g⟩
   ·simp only[F1,go_sem,simprocAttr,vh,j,zJ,h,cL]
   ·simp only[F1,go_sem,simprocAttr,vh,j,b,eo t.b a m,p,g,zJ,h,cL]
  ·rw[afB q];have h:decide (n<=64)=true:=by simp;omega
   cases l:ni t.b with
   |none=>
    rcases c with rfl| ⟨b,g⟩
    ·simp only[F1,go_sem,simprocAttr,vh,j,zJ,h,cL,d,s5,pY,l]
    ·simp only[F1,go_sem,simprocAttr,vh,j,b,eo t.b a m,p,g,zJ,h,cL,d,s5,pY,l]
   |some i=>
    obtain⟨f,w,v,u⟩:=sQ l;have k: (i:Int)<32:=by omega
    have hs:eC (c7 i (t.b i).gen)=some i:=Uy f (o.b i).1;rcases c with rfl| ⟨b,g⟩
    ·simp only[F1,go_sem,simprocAttr,vh,j,zJ,h,cL,d,s5,pY,l,k,jN (c7 i (t.b i).gen) (Ge f (o.b i).1),iv,hs,aio,Mg f];omega
    ·simp only[F1,go_sem,simprocAttr,vh,j,b,eo t.b a m,p,g,zJ,h,cL,d,s5,pY,l,k,jN (c7 i (t.b i).gen) (Ge f (o.b i).1),iv,hs,att,Mg f];omega
def U1(t:aw)(h:Nat):AV:=.au [.agg (aJ (ll t h).1),.int .i64 (ll t h).2]
def atv(t:aw)(i:bN t)(h:Nat)(f:h<4294967296)(H:List ae)(lo:oN):D X0 (.fn (.func Rt) [] []) [.agg (aJ t),.int .u32 h] ⟨H,lo⟩=some (.ret (U1 t h) ⟨H,lo⟩):=by
 refine aF L7 λN g=>?_
 have j:=zA h;have a: (aN h:Int)<32:=by omega
 have e:iv h= .au [.int .i64 (aN h:Nat),.bool (eC h).isSome]:=rfl;have d:=ail t.b i.b h f;have k:ax t.b h=t.ax h:=rfl;unfold U1 ll;cases b:t.ax h
 ·have c:ek t.b h=(t.b,false):=by unfold ek;grind
  simp only[F1,go_sem,simprocAttr,L7,g,d,zI,c,cL,ahf]
 ·have c: (ek t.b h).2=true:=by unfold ek;rw[k,b];rfl
  simp only[F1,go_sem,simprocAttr,L7,g,d,zI,c,cL,jN h f,e,a,<-aim,Mg j];omega
def eX[Inhabited α]{k:Nat}(h:k<l.length):l.getD k default∈l:=by grind
def fR{α:Type}(p:α->Bool)(l:List α):Int:=match l.findIdx? p with
 |some i=>i
 |none=> -1
def xu(p:α->Bool)(l:List α):decide (0<=fR p l)=l.any p:=by
 unfold fR
 grind
def vC[Inhabited α]{p:α->Bool}{k:Nat}(b:k<l.length)(h: ∀j,j<k->p (l.getD j default)=false)(a:p (l.getD k default)=true):fR p l=k:=by
 have:l.findIdx? p=some k:=by grind [List.findIdx?_eq_some_iff_getElem]
 unfold fR;rw[this]
def vD[Inhabited α]{p:α->Bool}(h: ∀j,j<l.length->p (l.getD j default)=false):fR p l= -1:=by
 have:l.findIdx? p=none:=by grind [List.findIdx?_eq_none_iff,List.getElem_of_mem]
 unfold fR;rw[this]
def hC(h:Nat):lA:=[.int .u32 h]
theorem pH:Den.part false 1 (hC h) 0=some (.int .u32 h):=rfl
def bC(b:UInt8):lA:=[.int .u8 b.toNat]
theorem pB{b:UInt8}:Den.part false 1 (bC b) 0=some (.int .u8 b.toNat):=rfl
def sC(s:lB):lA:=[S s]
theorem pS{s:lB}:Den.part false 1 (sC s) 0=some (S s):=rfl
structure Instr where
 op:Nat
 a:Nat
 b:Nat
 c:Nat
 n:Nat
 deriving DecidableEq,Inhabited
def aip(v fv:AV)(l:List aE)(b:Rv v 2 (l.map ay))(r:l.length<2^40)(p:aE->Bool)(H:List ae)(lo:oN)
  (o: ∀x∈l,D X0 fv [.agg (ay x)] ⟨H,none⟩=some (.ret (.bool (p x)) ⟨H,none⟩)):D X0 (.fn (.func I0) [] []) [v,fv] ⟨H,lo⟩=some (.ret (.int .i64 (fR p l)) ⟨H,lo⟩):=by
 refine aF R9 λN u=>?_
 simp only[go_sem,simprocAttr,R9,b.bL];refine dV l.length (λk e H'=>H'=H/\e 0=v/\e 1=fv/\e 7= .int .i64 l.length/\e 8= .int .i64 k/\ ∀j,j<k->p (l.getD j default)=false) 0 (by omega) ?_ ?_
 ·simp only[go_sem,simprocAttr];omega
 ·rintro k s e H' ⟨rfl,i,g,f,d,c⟩ n q;simp(disch:=omega) only[bR,F1,go_sem,simprocAttr,agp,i,g,f,d];refine⟨λh=>?_,λh=>?_⟩
  ·have a:k<l.length:=by omega
   simp(disch:=omega) only[go_sem,simprocAttr,b.ck,b.cD,↓UL,o _ (eX a)];refine⟨by omega,?_⟩;cases m:p (l.getD k default)
   ·simp(disch:=omega) only[go_sem,simprocAttr,i,g,f,d]
    grind
   ·simp(disch:=omega) only[F1,go_sem,simprocAttr];rw[vC a c m]
  ·rw[vD (λj t=>c j (by omega))]
def atw(v fv:AV)(l:List aE)(a:Rv v 2 (l.map ay))(b:l.length<2^40)(p:aE->Bool)(H:List ae)(lo:oN)
  (c: ∀x∈l,D X0 fv [.agg (ay x)] ⟨H,none⟩=some (.ret (.bool (p x)) ⟨H,none⟩)):D X0 (.fn (.func Qn) [] []) [v,fv] ⟨H,lo⟩=some (.ret (.bool (l.any p)) ⟨H,lo⟩):=by
 refine aF RU λN d=>?_
 simp(disch:=omega) only[F1,go_sem,simprocAttr,RU,aip v fv l a b p H none c,xu]
def aiq{X:Ctx}(a:Ext X0 X)(h:X0.code f=some pf)(b:X0.bU f=none):X.bU f=none:=by
 rcases a.bU f with e| ⟨_,e⟩
 ·grind
 grind
def air{X:Ctx}(a:Ext X0 X)(h:X0.code f=some pf):X.code f=some pf:=by rw[a.code];exact h
theorem up{X:Ctx}(a:Ext X0 X){args:lA}{E:AS}{r:aS}(h:D X0 v args E=some r):D X v args E=some r:=afw a _ _ _ _ h
def ais{X:Ctx}(f:Ext X0 X)(v fv:AV)(l:lN)(H:List ae)(b:Rd ⟨H,none⟩ v 1 (l.map hC))(s:l.length<2^40)(p:Nat->Bool)(lo:oN)
  (q: ∀x∈l,D X fv [.int .u32 x] ⟨H,none⟩=some (.ret (.bool (p x)) ⟨H,none⟩)):D X (.fn (.func Jh) [] []) [v,fv] ⟨H,lo⟩=some (.ret (.int .i64 (fR p l)) ⟨H,lo⟩):=by
 refine Pa SX (aiq f rfl rfl) (air f rfl) rfl λN w=>?_
 simp only[go_sem,simprocAttr,SX,b.bL];refine dV l.length (λk e H'=>H'=H/\e 0=v/\e 1=fv/\e 7= .int .i64 l.length/\e 8= .int .i64 k/\ ∀j,j<k->p (l.getD j default)=false) 0 (by omega) ?_ ?_
 ·simp only[go_sem,simprocAttr];omega
 ·rintro k t e H' ⟨rfl,o,m,i,g,c⟩ n r;simp(disch:=omega) only[bR,F1,go_sem,simprocAttr,agG,o,m,i,g];refine⟨λh=>?_,λh=>?_⟩
  ·have a:k<l.length:=by omega
   simp(disch:=omega) only[go_sem,simprocAttr,b.ck,b.cD,↓pH,q _ (eX a)];refine⟨by omega,?_⟩;cases d:p (l.getD k default)
   ·simp(disch:=omega) only[go_sem,simprocAttr,o,m,i,g];exact⟨a,mO c d⟩
   ·simp(disch:=omega) only[F1,go_sem,simprocAttr];rw[vC a c d]
  ·rw[vD (λj u=>c j (by omega))]
def ait{X:Ctx}(a:Ext X0 X)(v fv:AV)(l:lN)(H:List ae)(b:Rd ⟨H,none⟩ v 1 (l.map hC))(c:l.length<2^40)(p:Nat->Bool)(lo:oN)
  (d: ∀x∈l,D X fv [.int .u32 x] ⟨H,none⟩=some (.ret (.bool (p x)) ⟨H,none⟩)):D X (.fn (.func JV) [] []) [v,fv] ⟨H,lo⟩=some (.ret (.bool (l.any p)) ⟨H,lo⟩):=by
 refine Pa TO (aiq a rfl rfl) (air a rfl) rfl λN e=>?_
 simp(disch:=omega) only[F1,go_sem,simprocAttr,TO,ais a v fv l H b c p none d,xu]
def atx(v fv:AV)(l:lB)(b:Rv v 1 (l.map bC))(r:l.length<2^40)(p:UInt8->Bool)(H:List ae)(lo:oN)
  (o: ∀x∈l,D X0 fv [.int .u8 x.toNat] ⟨H,none⟩=some (.ret (.bool (p x)) ⟨H,none⟩)):D X0 (.fn (.func Ed) [] []) [v,fv] ⟨H,lo⟩=some (.ret (.int .i64 (fR p l)) ⟨H,lo⟩):=by
 refine aF FD λN u=>?_
 simp only[go_sem,simprocAttr,FD,b.bL];refine dV l.length (λk e H'=>H'=H/\e 0=v/\e 1=fv/\e 7= .int .i64 l.length/\e 8= .int .i64 k/\ ∀j,j<k->p (l.getD j default)=false) 0 (by omega) ?_ ?_
 ·simp only[go_sem,simprocAttr];omega
 ·rintro k s e H' ⟨rfl,m,i,g,f,c⟩ n q;simp(disch:=omega) only[bR,F1,go_sem,simprocAttr,Sp,m,i,g,f];refine⟨λh=>?_,λh=>?_⟩
  ·have a:k<l.length:=by omega
   simp(disch:=omega) only[go_sem,simprocAttr,b.ck,b.cD,↓pB,o _ (eX a)];refine⟨by omega,?_⟩;cases d:p (l.getD k default)
   ·simp(disch:=omega) only[go_sem,simprocAttr,m,i,g,f];exact⟨a,mO c d⟩
   ·simp(disch:=omega) only[F1,go_sem,simprocAttr];rw[vC a c d]
  ·rw[vD (λj t=>c j (by omega))]
def aty(v fv:AV)(l:lB)(a:Rv v 1 (l.map bC))(b:l.length<2^40)(p:UInt8->Bool)(H:List ae)(lo:oN)
  (c: ∀x∈l,D X0 fv [.int .u8 x.toNat] ⟨H,none⟩=some (.ret (.bool (p x)) ⟨H,none⟩)):D X0 (.fn (.func Qu) [] []) [v,fv] ⟨H,lo⟩=some (.ret (.bool (l.any p)) ⟨H,lo⟩):=by
 refine aF R3 λN d=>?_
 simp(disch:=omega) only[F1,go_sem,simprocAttr,R3,atx v fv l a b p H none c,xu]
def atz(v fv:AV)(l:List lB)(b:Rv v 1 (l.map sC))(r:l.length<2^40)(p: lB->Bool)(H:List ae)(lo:oN)
  (o: ∀x∈l,D X0 fv [S x] ⟨H,none⟩=some (.ret (.bool (p x)) ⟨H,none⟩)):D X0 (.fn (.func QC) [] []) [v,fv] ⟨H,lo⟩=some (.ret (.int .i64 (fR p l)) ⟨H,lo⟩):=by
 refine aF So λN u=>?_
 simp only[go_sem,simprocAttr,So,b.bL];refine dV l.length (λk e H'=>H'=H/\e 0=v/\e 1=fv/\e 7= .int .i64 l.length/\e 8= .int .i64 k/\ ∀j,j<k->p (l.getD j default)=false) 0 (by omega) ?_ ?_
 ·simp only[go_sem,simprocAttr];omega
 ·rintro k s e H' ⟨rfl,m,i,g,f,c⟩ n q;simp(disch:=omega) only[bR,F1,go_sem,simprocAttr,agu,m,i,g,f];refine⟨λh=>?_,λh=>?_⟩
  ·have a:k<l.length:=by omega
   simp(disch:=omega) only[go_sem,simprocAttr,b.ck,b.cD,↓pS,o _ (eX a)];refine⟨by omega,?_⟩;cases d:p (l.getD k default)
   ·simp(disch:=omega) only[go_sem,simprocAttr,m,i,g,f];exact⟨a,mO c d⟩
   ·simp(disch:=omega) only[F1,go_sem,simprocAttr];rw[vC a c d]
  ·rw[vD (λj t=>c j (by omega))]
def atA(v fv:AV)(l:List lB)(a:Rv v 1 (l.map sC))(b:l.length<2^40)(p: lB->Bool)(H:List ae)(lo:oN)
  (c: ∀x∈l,D X0 fv [S x] ⟨H,none⟩=some (.ret (.bool (p x)) ⟨H,none⟩)):D X0 (.fn (.func Qt) [] []) [v,fv] ⟨H,lo⟩=some (.ret (.bool (l.any p)) ⟨H,lo⟩):=by
 refine aF R0 λN d=>?_
 simp(disch:=omega) only[F1,go_sem,simprocAttr,R0,atz v fv l a b p H none c,xu]
def Cm(r:aE)(b:r.1+r.2<4294967296)(H:List ae)(lo:oN):D X0 (.fn (.func oi) [] []) [.agg (ay r)] ⟨H,lo⟩=some (.ret (.int .i64 (r.1+r.2:Nat)) ⟨H,lo⟩):=by
 refine aF Sa λN a=>?_
 simp(disch:=omega) only[F1,go_sem,simprocAttr,Sa,a,ay,apM]
def U2(r:aE)(c:r.1<4294967296)(b:r.2<4294967296)(H:List ae)(lo:oN):D X0 (.fn (.func D5) [] []) [.agg (ay r)] ⟨H,lo⟩=some (.ret (.bool (lk r)) ⟨H,lo⟩):=by
 refine aF RT λN a=>?_
 simp(disch:=omega) only[R4,F1,go_sem,simprocAttr,RT,a,ay,lk]
 (repeat' (first|apply And.intro|intro _))
 all_goals(first|omega| (refine da (akG AV.bool (apN.2 ?_)) rfl;grind))
def holds(y x:aE):Bool:=decide (x=y)|| (decide (y.1<=x.1)&&decide (x.1+x.2<=y.1+y.2))
def run_eq(a b:aE):ed (.agg [.int,.int]) (.agg (ay a)) (.agg (ay b))=some (decide (a=b)):=by
 obtain⟨f,e⟩:=a;obtain⟨d,c⟩:=b;simp only[ed,ay,aho,apt,aeX,aeY,aiZ,and_self,arE,Int.natCast_inj]
 grind
def aiu(y x:aE)(d:y.1+y.2<4294967296)(e:x.1+x.2<4294967296)(H:List ae)(lo:oN):D X0 (.fn (.func IS) [] []) [.agg (ay y),.agg (ay x)] ⟨H,lo⟩=some (.ret (.bool (holds y x)) ⟨H,lo⟩):=by
 refine aF Fx λN b=>?_
 have f:=Cm y d;have ex:=Cm x e;by_cases he:x=y
 ·simp only[F1,go_sem,simprocAttr,Fx,b,run_eq,he,holds]
 ·by_cases c:y.1<=x.1
  ·have a: (y.1:Int)<=x.1:=by omega
   simp only[F1,go_sem,simprocAttr,Fx,b,run_eq,he,holds,c,a,f,ex,apM];refine da (akG AV.bool (apN.2 ?_)) rfl
   grind
  ·have a: ¬(y.1:Int)<=x.1:=by omega
   simp only[F1,go_sem,simprocAttr,Fx,b,run_eq,he,holds,c,a,akI,au3]
def zL(l:List aE):Prop:=l.length<=64/\ ∀x∈l,x.1+x.2<=64
def atB(x y:aE)(c:x.1+x.2<4294967296)(b:y.1+y.2<4294967296)(p:Nat)(H:List ae)(lo:oN)(e:H[p]?=some (.box (ay x) none)):
  D X0 (.fn (.func IQ) [] [.ptr p 0]) [.agg (ay y)] ⟨H,lo⟩=some (.ret (.bool (holds y x)) ⟨H,lo⟩):=by
 refine eP RW λN d=>?_
 have a: ∀L,(H++L)[p]?=some (.box (ay x) none):=λL=>by grind
 simp only[F1,go_sem,simprocAttr,RW,d,a,aiu y x b c]
def Ms(l:List aE)(k:Nat):Bool:=decide (k<64)&&l.any λy=>holds y (k,1)
def atC(v:AV)(l:List aE)(f:Rv v 2 (l.map ay))(b:zL l)(k:Nat)(g:k<2147483648)(H:List ae)(lo:oN):
  D X0 (.fn (.func Qa) [] []) [.agg [v],.int .i64 k] ⟨H,lo⟩=some (.ret (.bool (Ms l k)) ⟨H,lo⟩):=by
 refine aF K3 λN a=>?_
 have hm:=U2 (k,1) (by omega) (by simp);have c:=atw v (.fn (.func IQ) [] [.ptr (N+1) 0]) l f (by have:=b.1;omega) (λy=>holds y (k,1)) (H++[.box [v] none,.box (ay (k,1)) none]) none (λy d=>atB (k,1) y (by omega) (by have:=b.2 y d;omega) (N+1) _ none (by rw[bA a];rfl));have hr:ay (k,1)=[.int .i64 (k:Nat),.int .i64 1]:=rfl;rw[hr]at hm c;by_cases h:k<64
 ·have e:lk (k,1)=true:=by simp[lk];omega
  simp only[F1,go_sem,simprocAttr,K3,a,hm,e,c];simp[Ms,h]
 ·have e:lk (k,1)=false:=by simp[lk];omega
  simp only[F1,go_sem,simprocAttr,K3,a,hm,e];simp[Ms,h]
def vE{X:Ctx}(pf:PF){args cap:lA}{H:List ae}{R:aS->Prop}(b:X.bU f=none)(d:X.code f=some pf)(c:Nat.ble (args++cap).length pf.ntmps=true)
 (h: ∀n,H.length=n->wp X f false pf.body ⟨cZ (args++cap),[]⟩ ⟨H,none⟩ (dp X n lo pf.results R)): ∃a,D X (.fn (.func f) [] cap) args ⟨H,lo⟩=some a/\R a:=by simp_all[arF,O9]
def s6(l:List aE):List lA:=(List.range l.length).map λi=>[.int .i64 (i:Nat),.agg (ay (l.getD i default))]
def zM(l:List aE): (s6 l).length=l.length:=by simp[s6]
def Mt{l:List aE}(h:j<l.length): (s6 l)[j]?=some [.int .i64 (j:Nat),.agg (ay (l.getD j default))]:=by
 unfold s6;grind
def Cn{N id o:Nat}{f:Fn}{L:lA}{H:List ae}(h:N<=id):finish N lo (.fn f [] (.ptr id o::L)) ⟨H,none⟩=(.fn f [] (.ptr id o::L),⟨H,lo⟩):=by
 have a: ¬(AV.fn f [] (.ptr id o::L)).refs<=N:=by simp only[AV.refs,aG];omega
 refine aeZ a ?_;unfold Den.freeze;simp[a]
def aiv(a:Rv v sz af){H:List ae}{tg:Option TypeId}:qJ ⟨H,lo⟩ v tg=some (.ptr H.length 0,⟨H++[.box [v] tg],lo⟩):=by
 obtain⟨h,_,_⟩:=a ⟨[],none⟩;cases v<;>first|rfl|grind
def cO(b:Rv v sz af)(c:b8 af=0):v.refs=0:=by
 obtain⟨d,a,e⟩:=b ⟨[],none⟩;cases v<;>simp only[]at d
 ·rfl
 ·simp only[Den.elems]at a;split at a
  ·cases a;simpa only[AV.refs]using c
  grind
 ·trivial
def aiw(v:AV)(l:List aE)(d:Rv v 2 (l.map ay))(N:Nat)(H:List ae)(c:H.length=N)(lo:oN):
  D X0 (.fn (.func IN) [] []) [.agg [v]] ⟨H,lo⟩=some (.ret (.fn (.func qO) [] [.ptr (N+1) 0]) ⟨H++[.box [v] none,.box [v] none],lo⟩):=by
 have e:=λH'=>aiv (H:=H') (lo:=none) (tg:=none) d
 have e1:D X0 (.fn (.func Qx) [] []) [v] ⟨H++[.box [v] none],none⟩=some (.ret (.fn (.func qO) [] [.ptr (N+1) 0]) ⟨H++[.box [v] none,.box [v] none],none⟩):=by
  refine aF R8 λM a=>?_
  have b:M=N+1:=by rw[<-a];simp[c]
  subst b;simp only[go_sem,simprocAttr,R8,a,e];rw[Cn (by omega)]
 refine aF RS λM a=>?_
 obtain rfl:M=N:=by rw[<-a,c]
 simp only[go_sem,simprocAttr,RS,a,e1];rw[Cn (by omega)]
def atD(v:AV)(l:List aE)(w:Rv v 2 (l.map ay))(O:zL l)(a:Nat)(o:ae):
  afD X0 (.fn (.func qO) [] [.ptr (a+1) 0]) a [o,.box [v] none] (s6 l):=by
 intro y I J x A M B S lo;have K:l.length<=64:=O.1
 suffices h: ∃p,D X0 (.fn (.func qO) [] [.ptr (a+1) 0]) [y] ⟨A++([o,.box [v] none]++M),lo⟩=some p/\
   (λp=> ∃A' c,A'.length=a/\c.length=M.length/\p=aS.ret (.au []) ⟨A'++([o,.box [v] none]++c),lo⟩/\ (I (s6 l).length A' c\/J A' c)) p by
  obtain⟨p,R,A',c,f,r,rfl,q⟩:=h;exact⟨A',[o,.box [v] none],c,f,rfl,r,R,q⟩
 refine vE FE rfl rfl rfl λN Q=>?_
 have z:N=a+(2+M.length):=by rw[<-Q];simp[B];omega
 have P: ∀ (A' c:List ae),A'.length=a->(A'++(o:: .box [v] none::c))[a+1]?=some (.box [v] none):=by
  intro A' c h;rw[bA h];rfl
 simp only[go_sem,simprocAttr,FE,P A M B,w.bL];refine dV l.length (λk e H'=> ∃A' c L,A'.length=a/\c.length=M.length/\H'=A'++([o,.box [v] none]++(c++L))/\I k A' c/\e 0=y/\e 5=v/\e 6= .int .i64 l.length/\e 7= .int .i64 k) 0 (by omega) ?_ ?_
 ·simp only[go_sem,simprocAttr];exact⟨A,M,[],B,rfl,by simp,S⟩
 rintro k U e H' ⟨A',c,L,f,r,m,q,F,E,e6,e7⟩ n H;have g: ∀ (d M2 s:List ae),d.length=a->M2.length=M.length->(d++([o,.box [v] none]++(M2++s))).take N=d++([o,.box [v] none]++M2):=by
  intro d M2 s g1 g2;have:d++([o,.box [v] none]++(M2++s))=(d++([o,.box [v] none]++M2))++s:=by simp
  rw[this];exact apE (by simp[g1,g2,z];omega)
 simp only[bR,F1,go_sem,simprocAttr,Sr,E,e6,e7];refine⟨λh=>?_,λh=>?_⟩
 ·have j:k<l.length:=by omega
  obtain⟨b,d,M2,u,T,G,C⟩:=x k _ (Mt j) A' c q f [o,.box [v] none] (L++[.box (ay (l.getD k default)) none]) none rfl;have t:D X0 y [.int .i64 k,.agg (ay (l.getD k default))] ⟨H'++[.box (ay (l.getD k default)) none],none⟩=some (.ret (.bool b) ⟨d++([o,.box [v] none]++(M2++(L++[.box (ay (l.getD k default)) none]))),none⟩):=by
   rw[<-G,m];simp
  simp(disch:=omega) only[go_sem,simprocAttr,w.ck,w.cD,h,H,F,t];cases b
  ·simp only[F1,go_sem,simprocAttr];refine⟨d,M2,u,by omega,?_,.inr C⟩;have i:=g d M2 (L++[.box (ay (l.getD k default)) none]) u (by omega);simp only[alb,aj8]at i;exact da rfl i
  ·simp(disch:=omega) only[go_sem,simprocAttr,F,E,e6,e7];exact⟨j,d,M2,L++[.box (ay (l.getD k default)) none],u,by omega,rfl,C⟩
 ·subst m;refine⟨A',c,f,r,?_,.inl ?_⟩
  ·have i:=g A' c L f r;simp only[alb,aj8]at i;exact da rfl i
  ·rw[zM,show l.length=k by omega];exact q
def nE{X:Ctx}{a:List RV}{R:aS->Prop}{e:Env}{b:lN}{H:List ae}{l:oN}:
  dp X n lo a R .ret ⟨e,p::b⟩ ⟨H,l⟩=match H[p]? with|some .bB=>dp X n lo a R .ret ⟨e,b⟩ ⟨H.set p .dead,l⟩|_=>False:=by
 simp only[wm,dA];cases c:H[p]? with
 |none=>simp
 |some o=>cases o<;>simp[AS.set]
def atE{H B G:List ae}{o:ae}{N:Nat}(b:H.length=N)(a:N+(B.length+G.length)=p): (cat H (B++(G++[.bB,o]))++M)[p]?=some .bB:=by grind [dQ]
def atF{H B G:List ae}{o:ae}{N:Nat}(b:H.length=N)(a:N+(B.length+G.length)=p): (cat H (B++(G++[.bB,o]))++M).set p .dead=cat H (B++(G++[.dead,o]))++M:=by grind [dQ,DO]
def aix{H B G:List ae}{o:ae}{N:Nat}(b:H.length=N)(a:N+(B.length+G.length)=p): (cat H (B++(G++[.bB,o])))[p]?=some .bB:=by
 have:=atE (M:=[]) (o:=o) b a;grind
def aiy{H B G:List ae}{o:ae}{N:Nat}(b:H.length=N)(a:N+(B.length+G.length)=p): (cat H (B++(G++[.bB,o]))).set p .dead=cat H (B++(G++[.dead,o])):=by
 have:=atF (M:=[]) (o:=o) b a;grind
def aiz(a:Ex)(I:List ae->Prop)(J:Ex->List ae->Prop)(A:List ae):Prop:=match a with|.normal=>I A|.panic _=>False|a=>J a A
theorem atG{b:Fr}{H B R:List ae}{I:List ae->Prop}{J:Ex->List ae->Prop}{a:Ex}(c:H.length+B.length=n)(h:aiz a I J (H++B)):PU n R I J a b ⟨cat H (B++R)++M,none⟩:=
 ⟨rfl,H++B,M,by rw[dQ];simp,by grind,h⟩
theorem U3{g:Fr}{H R:List ae}{a b c d:ae}{I:List ae->Prop}{J:Ex->List ae->Prop}{e:Ex}(f:H.length+4=n)(h:aiz e I J (H++[a,b,c,d])):PU n R I J e g ⟨cat H (a::b::c::d::R)++M,none⟩:=atG (B:=[a,b,c,d]) f h
def fits(n:Nat)(x:aE):Bool:=decide (1<=n)&&decide (n<=x.2)
def Mv(l:List aE)(n:Nat):AV:=match l.find? (fits n)with
 |some x=>.au [.int .i64 (x.1:Nat),.bool true]
 |none=>.au [.int .i64 0,.bool false]
def aiA[Inhabited α]{p:α->Bool}{k:Nat}(b:k<l.length)(h: ∀j,j<k->p (l.getD j default)=false)(a:p (l.getD k default)=true):l.find? p=some (l.getD k default):=by grind [List.find?_eq_some_iff_getElem]
def aiB[Inhabited α]{p:α->Bool}(h: ∀j,j<l.length->p (l.getD j default)=false):l.find? p=none:=by grind [List.find?_eq_none,List.getElem_of_mem]
def atH(v:AV)(l:List aE)(P:Rv v 2 (l.map ay))(V:zL l)(m:Nat)(H:List ae)(lo:oN):
  D X0 (.fn (.func QO) [] []) [.agg [v],.int .i64 m] ⟨H,lo⟩=some (.ret (Mv l m) ⟨H,lo⟩):=by
 refine aF SF λN r=>?_
 have he:=aiw v l P (N+4) (H++[.box [v] none,.box [.int .i64 m] none,.box [.int .i64 0] none,.box [.bool false] none]) (by simp[r]) none;simp only[go_sem,simprocAttr,SF,r,he];have K:H++[ae.box [v] none,.box [.int .i64 m] none,.box [.int .i64 0] none,.box [.bool false] none,.box [v] none,.box [v] none]=(H++[ae.box [v] none,.box [.int .i64 m] none,.box [.int .i64 0] none,.box [.bool false] none])++[.box [v] none,.box [v] none]:=by simp
 rw[K];generalize q: ((((((cZ [AV.agg [v],AV.int .i64 m]).set 2 (AV.ptr N 0)).set 3 (AV.ptr (N+1) 0)).set 4 (AV.ptr (N+2) 0)).set 5 (AV.ptr (N+3) 0)).set 8 (AV.agg [v])).set 9 (AV.fn (Fn.func qO) [] [AV.ptr (N+4+1) 0])=e;have G:e 3= .ptr (N+1) 0:=by rw[<-q];rfl
 have F:e 4= .ptr (N+2) 0:=by rw[<-q];rfl
 have E:e 5= .ptr (N+3) 0:=by rw[<-q];rfl
 have O: (ao.t 9).get e= .fn (.func qO) [] [.ptr (N+4+1) 0]:=by rw[<-q];rfl
 clear q;have Z: (H++[ae.box [v] none,.box [.int .i64 m] none,.box [.int .i64 0] none,.box [.bool false] none]).length=N+4:=by simp[r]
 refine ar1 (s6 l) _ _ (by rw[O];rfl) (by rw[O,Z];exact atD v l P V (N+4) _)
  (λj C=>C=H++[.box [v] none,.box [.int .i64 m] none,.box [.int .i64 0] none,.box [.bool false] none]/\ ∀i,i<j->fits m (l.getD i default)=false)
  (λex C=>ex= .ret/\ ∃x,l.find? (fits m)=some x/\C=H++[.box [v] none,.box [.int .i64 m] none,.box [.int .i64 (x.1:Nat)] none,.box [.bool true] none])
  ⟨rfl,λi W=>absurd W (ari i)⟩ ?_ ?_ ?_
 ·intro j x y;have S:j<l.length:=by
   have:=(afA.1 y).1;rwa[zM]at this
  rw[Mt S]at y;cases y;refine⟨rfl,?_⟩;rintro C Y ⟨rfl,f⟩ R;obtain⟨n,Q⟩: ∃n,H.length+(R.length+1+1+1+1)=n:=⟨_,rfl⟩;simp only[go_sem,simprocAttr,iE];simp only[Q];refine⟨[.box (ay (l.getD j default)) none],rfl,λM X=>?_⟩;have t: ∀a b c d:ae,(cat H (a::b::c::d::M)).length=n:=λa b c d=>by rw[<-Q,F9];simp[X]
  have z: ∀a b c d e:ae,H++(a::b::c::d:: (M++[e]))=cat H (a::b::c::d::M)++[e]:=λa b c d e=>by rw[dQ];simp
  rw[z];by_cases U:1<=m
  ·have s: (m:Int)>=1:=by omega
   by_cases T:m<=(l.getD j default).2
   ·have w: ((l.getD j default).2:Int)>=m:=by omega
    simp(disch:=first|omega|apply t) only[go_sem,simprocAttr,Lz,G,F,E,s,w];exact U3 (by simp) ⟨rfl,_,aiA S f (by unfold fits;rw[aiL];exact⟨ag9 U,ag9 T⟩),rfl⟩
   ·have w: ¬((l.getD j default).2:Int)>=m:=by omega
    simp(disch:=first|omega|apply t) only[go_sem,simprocAttr,Lz,G,s,w];exact U3 (by simp) ⟨rfl,mO f (by unfold fits;rw[Bool.and_eq_false_iff];exact .inr (ag7 T))⟩
  ·have s: ¬(m:Int)>=1:=by omega
   simp(disch:=first|omega|apply t) only[go_sem,simprocAttr,Lz,G,s];exact U3 (by simp) ⟨rfl,mO f (by unfold fits;rw[Bool.and_eq_false_iff];exact .inl (ag7 U))⟩
 ·rintro A' g o L u ⟨rfl,f⟩;obtain⟨p,A⟩: ∃p,(H++[ae.box [v] none,.box [.int .i64 m] none,.box [.int .i64 0] none,.box [.bool false] none]++[ae.box [v] none,.box [v] none]).length=p:=⟨_,rfl⟩;have k:N+(4+g.length)=p:=by rw[<-A];simp[r,u]
  have h:H++[ae.box [v] none,.box [.int .i64 m] none,.box [.int .i64 0] none,.box [.bool false] none]++(g++[.bB,o])=cat H ([ae.box [v] none,.box [.int .i64 m] none,.box [.int .i64 0] none,.box [.bool false] none]++(g++[.bB,o])):=by rw[dQ];simp
  have J: ∀a b c d:ae,(cat H (a::b::c::d:: (g++[.bB,o])))[p]?=some .bB:=λa b c d=>aix (B:=[a,b,c,d]) r k
  have I: ∀a b c d:ae,(cat H (a::b::c::d:: (g++[.bB,o]))).set p .dead=cat H (a::b::c::d:: (g++[.dead,o])):=λa b c d=>aiy (B:=[a,b,c,d]) r k
  rw[A,h];simp(disch:=omega) only[F1,go_sem,simprocAttr,F,E,nE,J,I];rw[zM]at f;simp[Mv,aiB f]
 ·rintro ex A' g o L u ⟨rfl,x,y,rfl⟩;obtain⟨p,A⟩: ∃p,(H++[ae.box [v] none,.box [.int .i64 m] none,.box [.int .i64 0] none,.box [.bool false] none]++[ae.box [v] none,.box [v] none]).length=p:=⟨_,rfl⟩;have k:N+(4+g.length)=p:=by rw[<-A];simp[r,u]
  have h:H++[ae.box [v] none,.box [.int .i64 m] none,.box [.int .i64 (x.1:Nat)] none,.box [.bool true] none]++(g++[.bB,o])=cat H ([ae.box [v] none,.box [.int .i64 m] none,.box [.int .i64 (x.1:Nat)] none,.box [.bool true] none]++(g++[.bB,o])):=by rw[dQ];simp
  have J: ∀a b c d:ae,(cat H (a::b::c::d:: (g++[.bB,o])))[p]?=some .bB:=λa b c d=>aix (B:=[a,b,c,d]) r k
  have I: ∀a b c d:ae,(cat H (a::b::c::d:: (g++[.bB,o]))).set p .dead=cat H (a::b::c::d:: (g++[.dead,o])):=λa b c d=>aiy (B:=[a,b,c,d]) r k
  rw[A,h];simp(disch:=omega) only[F1,go_sem,simprocAttr,F,E,nE,J,I];simp[Mv,y]
def atI(v:AV)(l:List aE)(A:Rv v 2 (l.map ay))(Y:zL l)(a:Nat)(o:ae):
  uL X0 (.fn (.func qO) [] [.ptr (a+1) 0]) a [o,.box [v] none] (s6 l):=by
 intro S V y I J b C q B W s hP h0 wC d hG lo;have X:l.length<=64:=Y.1;have j: ∀i,V.dP i->i<b:=λi Z=>(q i Z).1
 suffices h: ∃x,D X0 (.fn (.func qO) [] [.ptr (a+1) 0]) [y] ⟨W,lo⟩=some x/\
  (λx=> ∃f p ak,x=aS.ret (.au []) ⟨p,ak⟩/\V.P f p/\ (I (s6 l).length f\/J f)/\b<=p.length/\
    (∀i,i<b-> ¬V.dP i-> ¬(a<=i/\i<a+[o,ae.box [v] none].length)->p[i]?=W[i]?)/\m0 V.c b lo ak none (V.row f)) x by grind
 refine vE FE rfl rfl rfl λN hN=>?_
 obtain rfl:N=b:=by omega
 have u:W[a+1]?=some (.box [v] none):=hG 1 (by simp);simp only[go_sem,simprocAttr,FE,u,A.bL];refine gS l.length (λk e p ak=> ∃f,I k f/\j6 V N W (λi=>a<=i/\i<a+[o,ae.box [v] none].length) f p ak/\e 0=y/\e 5=v/\e 6= .int .i64 l.length/\e 7= .int .i64 k) 0 (by omega) ?_ ?_
 ·simp only[go_sem,simprocAttr];exact⟨s,h0,⟨hP,by omega,λ_ _ _ _=>rfl,.inl ⟨rfl,d⟩,λr e=>by rw[d]at e;cases e⟩⟩
 rintro k hk e W1 z ⟨s1,H,G,L,K,e6,e7⟩ n U;simp only[bR,go_sem,simprocAttr,Sr,K,e6,e7];refine⟨λh=>?_,λh=>?_⟩
 ·have t:k<l.length:=by omega
  have m:=G.push C j [.box (ay (l.getD k default)) none];obtain⟨c,s2,W2,T,R,Q,P,O,M,F⟩:=B k _ s1 (Mt t) H (W1++[.box (ay (l.getD k default)) none]) m.P m.len z;have w:=m.step Q P O M;simp(disch:=omega) only[go_sem,simprocAttr,A.ck,A.cD,h,U,L,R];cases c
  ·obtain⟨E,g,f1,f2,f3,f4,f5⟩:=w.fin C j (dy:=lo);simp only[go_sem,simprocAttr,f1];exact⟨s2,E,g,rfl,f2,.inr F,f3,f4,f5⟩
  ·simp(disch:=omega) only[go_sem,simprocAttr,L,K,e6,e7];exact⟨t,s2,F,w⟩
 ·obtain⟨E,g,f1,f2,f3,f4,f5⟩:=G.fin C j (dy:=lo);simp only[go_sem,simprocAttr,f1];exact⟨s1,E,g,rfl,f2,.inl (by rw[zM,show l.length=k by omega];exact H),f3,f4,f5⟩
def bc{H L:List ae}{o:ae}(h:H[i]?=some o): (H++L)[i]?=some o:=by grind
def cG{H:List ae}{x o:ae}(h:H[p]?=some x): (H.set p o)[p]?=some o:=by grind
def eY{H:List ae}{o:ae}(h:H[i]?=some o):i<H.length:=by grind
def lr{W H:List ae}{N:Nat}(a:H.length=N)(h: ∀i,i<N->W[i]?=H[i]?):W.take N=H:=by
 apply apg
 grind
structure Co where
 x:aE
 put:Bool
 out:List aE
 row:oN
 res:AV
 ok:Bool
def aiC(H:List ae)(N:Nat)(v:AV)(s:Co)(W:List ae):Prop:=
 (∀i,i<N->W[i]?=H[i]?)/\W[N]?=some (.box [v] none)/\W[N+1]?=some (.box [s.res] none)/\W[N+2]?=some (.box [.bool s.ok] none)/\W[N+3]?=some (.box (ay s.x) none)/\
   W[N+5]?=some (.box [.bool s.put] none)/\SV (N+4) 2 fg W s.row (s.out.map ay)
def U4(H:List ae)(N:Nat)(v:AV):YV Co:=⟨aiC H N v,Co.row,λi=>i<N+6,N⟩
theorem atJ(H:List ae)(N:Nat)(v:AV): (U4 H N v).Ok where
 st:=λs W d ⟨l,k,j,g,f,e,b⟩ h=>by
  have c: ∀i,i<N+6->d[i]?=W[i]?:=λi a=>h i (.inl a)
  exact⟨λi a=>by grind,by grind,by grind,by grind,
   by grind,by grind,b.st (c _ (by omega)) λi a=>h i (.inr a)⟩
 lt:=λs W r ⟨_,_,_,_,_,_,b⟩ hr=>b.row hr
def U5(l:List aE)(a:aE)(v:AV)(j:Nat)(s:Co):Prop:=
 gY a false [] l=gY s.x s.put s.out (l.drop j)/\s.x.1+s.x.2<=64/\s.out.length<=2*j/\s.res= .ai/\s.ok=false
def aiD(l:List aE)(a:aE)(v:AV)(b:Ex)(s:Co):Prop:=b= .ret/\gY a false [] l=none/\s.res=v/\s.ok=false
def qe(v:AV)(l:List aE)(x:aE):AV:=match ir l x with
 |some a=>.au [.agg [eg a],.bool true]
 |none=>.au [.agg [v],.bool false]
def aiE(v:AV)(l:List aE)(hv:Rv v 2 (l.map ay))(hl:zL l)(x:aE)(U6:x.1<4294967296)(U7:x.2<4294967296)(H:List ae)(lo:oN):
  D X0 (.fn (.func A8) [] []) [.agg [v],.int .i64 (x.1:Nat),.int .i64 (x.2:Nat)] ⟨H,lo⟩=some (.ret (qe v l x) ⟨H,lo⟩):=by
 refine aF Lh λN hN=>?_
 have hm:=U2 x U6 U7;have hr:ay x=[.int .i64 (x.1:Nat),.int .i64 (x.2:Nat)]:=rfl;rw[hr]at hm;have U8:v.refs=0:=cO hv (bD (λ_=>rfl) l);cases m:lk x with
 |false=>
  simp(disch:=omega) only[F1,go_sem,simprocAttr,Lh,hN,hm,m,U8];have e1:qe v l x= .au [.agg [v],.bool false]:=by unfold qe ir;rw[m];rfl
  rw[e1]
 |true=>
  have he:=aiw v l hv (N+6) (H++[.box [v] none,.box [.ai] none,.box [.bool false] none,.box (ay x) none,.box [.ai] none,.box [.bool false] none]) (by simp[hN]) none;rw[hr]at he;simp(disch:=omega) only[go_sem,simprocAttr,Lh,hN,hm,m,he];rw[<-hr];generalize G: ((((((((((((((cZ _).set 3 _).set 6 _).set 7 _).set 13 _).set 14 _).set 15 _).set 8 _).set 16 _).set 17 _).set 18 _).set 9 _).set 10 _).set 20 _).set 21 _=e;have J:e 3= .ptr N 0:=by rw[<-G];rfl
  have q6:e 6= .ptr (N+1) 0:=by rw[<-G];rfl
  have q7:e 7= .ptr (N+2) 0:=by rw[<-G];rfl
  have q8:e 8= .ptr (N+3) 0:=by rw[<-G];rfl
  have q9:e 9= .ptr (N+4) 0:=by rw[<-G];rfl
  have Mw:e 10= .ptr (N+5) 0:=by rw[<-G];rfl
  have q21: (ao.t 21).get e= .fn (.func qO) [] [.ptr (N+6+1) 0]:=by rw[<-G];rfl
  clear G;obtain⟨F,Gl⟩: ∃F,F=H++[ae.box [v] none,.box [.ai] none,.box [.bool false] none,.box (ay x) none,.box [.ai] none,.box [.bool false] none,.box [v] none,.box [v] none]:=⟨_,rfl⟩;have atK:F.length=N+8:=by rw[Gl];simp[hN]
  rw[<-Gl];have t: ∀k,F[N+k]?=[ae.box [v] none,.box [.ai] none,.box [.bool false] none,.box (ay x) none,.box [.ai] none,.box [.bool false] none,.box [v] none,.box [v] none][k]?:=λk=>by rw[Gl,bA hN]
  have atL:F[N]?=some (.box [v] none):=by rw[Gl,di hN];rfl
  have PZ:aiC H N v ⟨x,false,[],none,.ai,false⟩ F:=by
   refine⟨λi b=>by rw[Gl,aeT (by omega)],atL,t 1,t 2,t 3,t 5,.inl ⟨rfl,rfl,t 4⟩⟩
  have qD:x.1+x.2<=64:=by unfold lk at m;simp at m;omega
  refine ID (U4 H N v) (atJ H N v) (s6 l) (N+6) [.box [v] none,.box [v] none] F ⟨x,false,[],none,.ai,false⟩ (by rw[q21];rfl) (by rw[q21];exact atI v l hv hl (N+6) _)
   (λi b=>?_) (by simp[atK]) (λi b=>?_) PZ rfl (U5 l x v) (aiD l x v) ⟨rfl,qD,by simp,rfl,rfl⟩ (λex s h=>?_) ?_ ?_ ?_
  ·match i,b with
   |0,_=>exact t 6
   |1,_=>exact t 7
  ·have:i<N+6:=b;simp only[aho,apt];omega
  ·exact⟨.ret,by rw[h.1];rfl,by rw[h.1];rfl,by rw[h.1];rfl⟩
  ·intro j y s hy hI;have hj:j<l.length:=by
    have:=(afA.1 hy).1;rwa[zM]at this
   rw[Mt hj]at hy;cases hy;have atM:l.drop j=l.getD j default::l.drop (j+1):=by
    rw[apL hj,ahm,ag6 hj];rfl
   have hym:=hl.2 _ (eX hj);generalize l.getD j default=y at*;refine⟨rfl,λW hP wC=>?_⟩;obtain⟨n,hn⟩: ∃n,W.length=n:=⟨_,rfl⟩;simp(disch:=omega) only[go_sem,simprocAttr,iE,hn];refine⟨[.box (ay y) none],rfl,λQ hW2 PY=>?_⟩;obtain⟨g1,g2,g3,g4⟩:=hI;rw[atM]at g1;obtain⟨p0,p1,p2,p3,p4,p5,Y⟩:=PY;have w:Q.length=n:=by omega
   have f3: ∀L,(Q++L)[N+3]?=some (.box (ay s.x) none):=λL=>bc p4
   have f5: ∀L,(Q++L)[N+5]?=some (.box [.bool s.put] none):=λL=>bc p5
   have f0: ∀L,(Q++L)[N]?=some (.box [v] none):=λL=>bc p1
   have f1: ∀L,(Q++L)[N+1]?=some (.box [s.res] none):=λL=>bc p2
   have f2: ∀L,(Q++L)[N+2]?=some (.box [.bool s.ok] none):=λL=>bc p3
   have hnN:N+10<=n:=by omega
   have U9:=hl.1;have ey:=Cm y (by omega);have ex:=Cm s.x (by omega);have M:SV (N+4) 2 fg (Q++[.box (ay y) none]) s.row (s.out.map ay):=Y.st (by rw[aeT (by omega)]) λi b=>by
    obtain⟨_,_,_,_,q⟩:=Y.row b;rw[aeT (eY q)]
   have f: ∀i,s.row=some i->N+6<=i:=by
    intro i b;rcases Y with⟨q,_⟩| ⟨id,aj,q,_,K,J,S⟩
    ·rw[q]at b;cases b
    ·rw[q]at b;cases b;have:i≠N+5:=by rintro rfl;rw[p5]at S;cases S
     omega
   have ON: (Q++[ae.box (ay y) none]).length=n+1:=by simp[w]
   have fin: ∀ (A:List ae) (g:Co) (Mx:oN) (fr:Fr),(∀i,i<n->i≠N+3->i≠N+4->i≠N+5->s.row≠some i->A[i]?=Q[i]?)->A[N+3]?=some (.box (ay g.x) none)->A[N+5]?=some (.box [.bool g.put] none)->
     SV (N+4) 2 fg A g.row (g.out.map ay)->g.res=s.res->g.ok=s.ok->n<=A.length->((Mx=none/\g.row=s.row)\/ (∃j,N<=j/\j<N+10/\Mx=some j/\ (g.row=s.row\/ ∃r,g.row=some r/\n<=r)))->U5 l x v (j+1) g->
     afH (U4 H N v) (F.length+2) s Q (U5 l x v (j+1)) (aiD l x v) .normal fr ⟨A,Mx⟩:=by
    intro A g Mx fr h1 h2 h3 h4 h5 h6 h7 h8 h9;have T: ∀i,i<N+3->A[i]?=Q[i]?:=λi b=>h1 i (by omega) (by omega) (by omega) (by omega) (λe=>by have:=f i e;omega)
    refine⟨g,⟨λi b=>by rw[T i (by omega)];exact p0 i b,by rw[T N (by omega)];exact p1,by rw[T (N+1) (by omega),h5];exact p2,by rw[T (N+2) (by omega),h6];exact p3,h2,h3,h4⟩,⟨by show Q.length<=A.length;omega,λi b hp hr=>?_⟩,?_,h9⟩
    ·have nZ: ¬i<N+6:=hp;exact h1 i (by omega) (by omega) (by omega) (by omega) hr
    ·rcases h8 with h8| ⟨j,C,K,J,S⟩
     ·exact .inl h8
     ·refine .inr ⟨j,C,by omega,J,?_⟩;rw[w];exact S
   have E: ∀af:List lA,af.length<=200->(af.length+1)*16<=room:=λaf h=>by unfold room;omega
   by_cases c1:y.1+y.2<s.x.1
   ·have O: (y.1:Int)+y.2<s.x.1:=by omega
    obtain⟨R,v',W3,A,r',a1,a2,a3,a4,a5,P,a7⟩:=M.append (bytes:=16) (el:=ay y) (by omega) (by omega) rfl rfl (E _ (by simp;omega)) none;simp(disch:=omega) only[go_sem,simprocAttr,zi,q8,q9,w,f3,ey,O,a1,a2,a3,D0,apM];refine fin A {s with out:=s.out++[y],row:=r'} _ _ (λi C K J S q5=>?_) ?_ ?_ (by rw[ahs];exact a4) rfl rfl (by omega) (.inr ⟨N+4,by omega,by omega,rfl,?_⟩) ⟨?_,g2,by simp;omega,g4⟩
    ·rw[P i (by omega) J q5,aeT (by omega)]
    ·rw[P _ (by omega) (by omega) (λq=>by have:=f _ q;omega)];exact f3 _
    ·rw[P _ (by omega) (by omega) (λq=>by have:=f _ q;omega)];exact f5 _
    ·rcases a7 with q| ⟨q,C,K⟩
     ·exact .inl q
     ·exact .inr ⟨q,C,by omega⟩
    ·rw[g1,gY,afJ c1]
   have O: ¬(y.1:Int)+y.2<s.x.1:=by omega
   by_cases c2:s.x.1+s.x.2<y.1
   ·have X: (y.1:Int)>s.x.1+s.x.2:=by omega
    cases c:s.put
    ·obtain⟨R,v',W3,A,r',a1,a2,a3,a4,a5,P,a7⟩:=M.append (bytes:=16) (el:=ay s.x) (by omega) (by omega) rfl rfl (E _ (by simp;omega)) none;have Va: ∀i,r'=some i->N+6<=i:=by
      intro i b;rcases a7 with q| ⟨q,C,K⟩
      ·rw[q]at b;exact f i b
      ·rw[C]at b;cases b;omega
     have u5:A[N+5]?=some (.box [.bool false] none):=by
      rw[P _ (by omega) (by omega) (λq=>by have:=f _ q;omega),<-c];exact f5 _
     have un:A[n]?=some (.box (ay y) none):=by
      rw[P _ (by omega) (by omega) (λq=>?_),<-w]
      ·simp
      ·rcases Y with⟨z,_⟩| ⟨id,aj,z,_,z2,z3,z4⟩
       ·rw[z]at q;cases q
       ·rw[z]at q;cases q;have:=eY z4;omega
     have atN:SV (N+4) 2 fg (A.set (N+5) (.box [.bool true] none)) r' ((s.out++[s.x]).map ay):=by
      rw[ahs];exact SV.st a4 (aeR (by omega)) λi b=>aeR (by have:=Va i b;omega)
     obtain⟨vw,v2,V,W6,r2,b1,b2,b3,b4,b5,b6,b7⟩:=atN.append (bytes:=16) (el:=ay y) (by rw[ahq];omega) (by omega) rfl rfl (E _ (by simp;omega)) (some (N+4));have b1':A[N+4]?=some (.box [vw] none):=by rw[<-b1,aeR (by omega)]
     have aiI:cA (some (N+4)) (N+4)=some (N+4):=by simp[cA]
     simp(disch:=omega) only[go_sem,simprocAttr,zi,q8,q9,Mw,w,f3,f5,ey,ex,O,X,a1,a2,a3,D0,apM,c,u5,un,b1',b2,b3,aiI];refine fin W6 {s with put:=true,out:=s.out++[s.x]++[y],row:=r2} _ _ (λi C K J S q5=>?_) ?_ ?_ (by rw[ahs];exact b4) rfl rfl (by rw[ahq]at b5;omega) (.inr ⟨N+4,by omega,by omega,rfl,?_⟩) ⟨?_,g2,by simp;omega,g4⟩
     ·have PE:r'≠some i:=by
        intro q;rcases a7 with z| ⟨z,z1,z2⟩
        ·rw[z]at q;exact q5 q
        ·rw[z1]at q;cases q;omega
      rw[b6 i (by rw[ahq];omega) J PE,aeR (by omega),P i (by omega) J q5,aeT (by omega)]
     ·rw[b6 _ (by rw[ahq];omega) (by omega) (λq=>by have:=Va _ q;omega),aeR (by omega),P _ (by omega) (by omega) (λq=>by have:=f _ q;omega)];exact f3 _
     ·rw[b6 _ (by rw[ahq];omega) (by omega) (λq=>by have:=Va _ q;omega)];exact ahj (by omega)
     ·rcases b7 with q| ⟨q,C,K⟩
      ·rcases a7 with z| ⟨z,z1,z2⟩
       ·exact .inl (q.trans z)
       ·exact .inr ⟨z,q.trans z1,by omega⟩
      ·rw[ahq]at K;exact .inr ⟨q,C,by omega⟩
     ·rw[g1,gY,afB c1,afJ c2,c];simp
    ·obtain⟨R,v',W3,A,r',a1,a2,a3,a4,a5,P,a7⟩:=M.append (bytes:=16) (el:=ay y) (by omega) (by omega) rfl rfl (E _ (by simp;omega)) none;simp(disch:=omega) only[go_sem,simprocAttr,zi,q8,q9,Mw,w,f3,f5,ey,ex,O,X,a1,a2,a3,D0,apM,c];refine fin A {s with out:=s.out++[y],row:=r'} _ _ (λi C K J S q5=>?_) ?_ ?_ (by rw[ahs];exact a4) rfl rfl (by omega) (.inr ⟨N+4,by omega,by omega,rfl,?_⟩) ⟨?_,g2,by simp;omega,g4⟩
     ·rw[P i (by omega) J q5,aeT (by omega)]
     ·rw[P _ (by omega) (by omega) (λq=>by have:=f _ q;omega)];exact f3 _
     ·rw[P _ (by omega) (by omega) (λq=>by have:=f _ q;omega)];exact f5 _
     ·rcases a7 with q| ⟨q,C,K⟩
      ·exact .inl q
      ·exact .inr ⟨q,C,by omega⟩
     ·rw[g1,gY,afB c1,afJ c2,c];simp
   have X: ¬(y.1:Int)>s.x.1+s.x.2:=by omega
   by_cases c3:y.1+y.2=s.x.1
   ·have My: ((y.1:Int)+y.2=s.x.1)=True:=aC9 (by omega);simp(disch:=omega) only[go_sem,simprocAttr,zi,q8,w,f3,ey,ex,O,X,My,apM];refine fin _ {s with x:=(y.1,y.2+s.x.2)} _ _ (λi C K J S q5=>?_) ?_ ?_ (M.st (aeR (by omega)) λi b=>aeR (by have:=f _ b;omega)) rfl rfl (by rw[ahq];omega) (.inl ⟨rfl,rfl⟩) ⟨?_,by simp;omega,by simp;omega,g4⟩
    ·rw[aeR (by omega),aeT (by omega)]
    ·rw[ahj (by omega)];rfl
    ·rw[aeR (by omega)];exact f5 _
    ·rw[g1,gY,afB c1,afB c2,afJ c3]
   have My: ¬(y.1:Int)+y.2=s.x.1:=by omega
   by_cases c4:y.1=s.x.1+s.x.2
   ·have Vb: ((y.1:Int)=s.x.1+s.x.2)=True:=aC9 (by omega);simp(disch:=omega) only[go_sem,simprocAttr,zi,q8,w,f3,ey,ex,O,X,My,Vb,apM];refine fin _ {s with x:=(s.x.1,s.x.2+y.2)} _ _ (λi C K J S q5=>?_) ?_ ?_ (M.st (aeR (by omega)) λi b=>aeR (by have:=f _ b;omega)) rfl rfl (by rw[ahq];omega) (.inl ⟨rfl,rfl⟩) ⟨?_,by simp;omega,by simp;omega,g4⟩
    ·rw[aeR (by omega),aeT (by omega)]
    ·rw[ahj (by omega)];rfl
    ·rw[aeR (by omega)];exact f5 _
    ·rw[g1,gY,afB c1,afB c2,afB c3,afJ c4]
   ·have Vb: ¬(y.1:Int)=s.x.1+s.x.2:=by omega
    simp(disch:=omega) only[go_sem,simprocAttr,zi,J,q6,q7,q8,w,f0,f1,f2,f3,ey,ex,O,X,My,Vb,apM,U8];obtain⟨Wf,Gm⟩: ∃Wf,Wf=((Q++[ae.box (ay y) none]).set (N+1) (ae.box [v] none)).set (N+2) (ae.box [AV.bool false] none):=⟨_,rfl⟩;rw[<-Gm];have hk: ∀i,i<n->i≠N+1->i≠N+2->Wf[i]?=Q[i]?:=λi C K J=>by
     rw[Gm,aeR (by omega),aeR (by omega),aeT (by omega)]
    have k1:Wf[N+1]?=some (.box [v] none):=by
     rw[Gm,aeR (by omega)];exact ahj (by omega)
    have k2:Wf[N+2]?=some (.box [.bool false] none):=by
     rw[Gm];exact ahj (by rw[ahq];omega)
    have kl:Wf.length=n+1:=by rw[Gm];simp[w]
    refine⟨{s with res:=v,ok:=false},⟨λi b=>?_,?_,k1,k2,?_,?_,?_⟩,⟨?_,λi b hp hr=>?_⟩,.inl ⟨rfl,rfl⟩,rfl,?_,rfl,rfl⟩
    ·show Wf[i]?=_;rw[hk i (by omega) (by omega) (by omega)];exact p0 i b
    ·show Wf[N]?=_;rw[hk N (by omega) (by omega) (by omega)];exact p1
    ·show Wf[N+3]?=_;rw[hk _ (by omega) (by omega) (by omega)];exact p4
    ·show Wf[N+5]?=_;rw[hk _ (by omega) (by omega) (by omega)];exact p5
    ·exact Y.st (hk _ (by omega) (by omega) (by omega)) λi b=>by
      obtain⟨_,_,_,_,q⟩:=Y.row b;have:=eY q;have:=f i b;exact hk i (by omega) (by omega) (by omega)
    ·show Q.length<=Wf.length;omega
    ·have nZ: ¬i<N+6:=hp;exact hk i (by omega) (by omega) (by omega)
    ·rw[g1,gY,afB c1,afB c2,afB c3,afB c4]
  ·intro g W' ak hI hP IF hd pt Vc;obtain⟨p0,p1,p2,p3,p4,p5,Y⟩:=hP;obtain⟨g1,g2,g3,g4,g5⟩:=hI;rw[zM,List.drop_length]at g1;rw[zM]at g3;have U9:=hl.1;have U:dI N ak:=by
    rcases Vc with⟨rfl,_⟩| ⟨q,C,K,rfl⟩
    ·exact .inl rfl
    ·exact .inr ⟨q,C,rfl⟩
   have f: ∀i,g.row=some i->N+6<=i/\i≠F.length:=by
    intro i b;rcases Y with⟨q,_⟩| ⟨id,aj,q,_,K,J,S⟩
    ·rw[q]at b;cases b
    ·rw[q]at b;cases b;have:i≠N+5:=by rintro rfl;rw[p5]at S;cases S
     exact⟨by omega,by rintro rfl;rw[hd]at S;cases S⟩
   obtain⟨B,hB⟩: ∃B,B=((PC.aL [o 83 (I.load false 1 (ao.t 9)),o 84 (I.build [AV.ai] [(0,1,ao.t 83)]),u (I.store 1 (ao.t 6) (ao.t 84)),u (I.store 1 (ao.t 7) (ao.c (AV.bool true)))]).seq PC.ret):=⟨_,rfl⟩;rw[<-hB];have fin: ∀ (V:List ae) (Z:oN) (fr:Env) (out:List aE) (r5:oN),(∀i,i<N->V[i]?=H[i]?)->SV (N+4) 2 fg V r5 (out.map ay)->(∃z,V[N+1]?=some (.box [z] none))->(∃z,V[N+2]?=some (.box [z] none))->
     V[F.length]?=some .bB->dI N Z->gY x false [] l=some out->fr 9= .ptr (N+4) 0->fr 6= .ptr (N+1) 0->fr 7= .ptr (N+2) 0->
     wp X0 A8 false B ⟨fr,[F.length]⟩ ⟨V,Z⟩
      (dp X0 N lo [RV.cell 6 true 1,RV.cell 7 false 1] λx_1=>x_1=aS.ret (qe v l x) ⟨H,lo⟩):=by
    intro V Z fr out r5 h1 h2 ⟨z1,h3⟩ ⟨z2,h4⟩ h5 h6 h7 h9 h10 yv;obtain⟨R,b1,b2,b3,b4,b5⟩:=h2.own (N:=N) (by omega) (by intro el vF;obtain⟨r,_,rfl⟩:=ahk.1 vF;rfl);have hl5:F.length<V.length:=eY h5;have s1: (V.set (N+1) (ae.box [R] none))[N+1]?=some (.box [R] none):=ahj (by omega);have s2: ((V.set (N+1) (ae.box [R] none)).set (N+2) (ae.box [AV.bool true] none))[N+2]?=some (.box [.bool true] none):=ahj (by rw[ahq];omega);have e1:qe v l x= .au [.agg [eg out],.bool true]:=by unfold qe ir;rw[afJ m,h7]
    have IC:b8 (out.map ay)=0:=bD (λ_=>rfl) out;have pt:bt R (out.map ay)=eg out:=by
     rcases b2.2 with⟨rfl,q⟩| ⟨id,aj,_,rfl,_⟩
     ·have:out=[]:=arX.1 q;subst this;rfl
     ·unfold eg;cases out with
      |nil=>
       rcases h2 with⟨_,_,q⟩| ⟨_,_,_,q,_⟩
       ·rw[q]at b1;cases b1
       ·exact absurd rfl q
      |cons a l2=>rfl
    rw[hB];simp(disch:=omega) only[go_sem,simprocAttr,h9,h10,yv,b1,b3,b4,h3,h4,h5,s1,s2,nE];have Vd: ∀Ve,Fz ⟨((V.set (N+1) (ae.box [R] none)).set (N+2) (ae.box [AV.bool true] none)).set F.length ae.dead,Ve⟩ N 12 (.au [.agg [R],.bool true]) (.au [.agg [eg out],.bool true]):=by
     intro Ve;have atS:aQ N (((V.set (N+1) (ae.box [R] none)).set (N+2) (ae.box [AV.bool true] none)).set F.length ae.dead) R 2 fg (out.map ay):=by
      obtain⟨c1,c2⟩:=b2;refine⟨c1,?_⟩;rcases c2 with c2| ⟨id,aj,c3,c4,c5⟩
      ·exact .inl c2
      ·have d1:id≠N+1:=by rintro rfl;rw[h3]at c5;cases c5
       have d2:id≠N+2:=by rintro rfl;rw[h4]at c5;cases c5
       have d3:id≠F.length:=by rintro rfl;rw[h5]at c5;cases c5
       exact .inr ⟨id,aj,c3,c4,by rw[aeR (by omega),aeR (by omega),aeR (by omega)];exact c5⟩
     have f1:=Fz.own (d:=0) (lo:=Ve) atS (by omega);rw[pt]at f1;exact(Fz.au (.cons (Fz.agg (.cons f1 .nil)) (.cons ((Fz.low (d:=0) (by simp[AV.refs])).mono (by omega)) .nil))).mono (by omega)
    have jq: (((V.set (N+1) (ae.box [R] none)).set (N+2) (ae.box [AV.bool true] none)).set F.length ae.dead).take N=H:=lr hN λi b=>by
     rw[aeR (by omega),aeR (by omega),aeR (by omega)];exact h1 i b
    have hl6:dI N (if R.refs<=N+1+1 then Z else cA Z (N+1)):=by
     split
     ·exact h6
     ·exact h6.min (p:=N+1) (by omega) (.inr rfl)
    rw[uM hl6 (Vd _),jq,e1]
   have p0': ∀i,i<N->W'[i]?=H[i]?:=p0;have p1':W'[N+1]?=some (.box [g.res] none):=p2;cases c:g.put
   ·have M:SV (N+4) 2 fg W' g.row (g.out.map ay):=Y;obtain⟨R,v',W3,A,r',a1,a2,a3,a4,a5,P,a7⟩:=M.append (bytes:=16) (el:=ay g.x) (by omega) (by omega) rfl rfl (by unfold room;simp;omega) ak;have k: ∀i,i<N+4->A[i]?=W'[i]?:=λi b=>P i (by omega) (by omega) (λq=>by have:=(f _ q).1;omega)
    simp(disch:=omega) only[go_sem,simprocAttr,q8,q9,Mw,p4,p5,c,a1,a2,a3];refine fin A _ _ (g.out++[g.x]) r' (λi b=>by rw[k i (by omega)];exact p0' i b) (by rw[ahs];exact a4) ⟨_,by rw[k (N+1) (by omega)];exact p2⟩ ⟨_,by rw[k (N+2) (by omega)];exact p3⟩ ?_ (U.min (p:=N+4) (by omega) (.inr rfl)) ?_ q9 q6 q7
    ·rw[P F.length (by omega) (by omega) (λq=>(f _ q).2 rfl)];exact hd
    ·rw[g1,gY,c];rfl
   ·simp(disch:=omega) only[go_sem,simprocAttr,Mw,p5,c];refine fin W' _ _ g.out g.row p0' Y ⟨_,p2⟩ ⟨_,p3⟩ hd U ?_ q9 q6 q7;rw[g1,gY,c];rfl
  ·intro ex g W' ak hJ hP IF hd pt Vc;obtain⟨p0,p1,p2,p3,p4,p5,Y⟩:=hP;obtain⟨rfl,g1,g2,g3⟩:=hJ;have U:dI N ak:=by
    rcases Vc with⟨rfl,_⟩| ⟨q,C,K,rfl⟩
    ·exact .inl rfl
    ·exact .inr ⟨q,C,rfl⟩
   rw[g2]at p2;rw[g3]at p3;have e1:qe v l x= .au [.agg [v],.bool false]:=by unfold qe ir;rw[afJ m,g1]
   have Vd:Fz ⟨W'.set F.length ae.dead,ak⟩ N 12 (.au [.agg [v],.bool false]) (.au [.agg [v],.bool false]):=Fz.low (by simp[AV.refs,aG,U8]);have jq: (W'.set F.length ae.dead).take N=H:=lr hN λi b=>by rw[aeR (by omega)];exact p0 i b
   simp(disch:=omega) only[go_sem,simprocAttr,q6,q7,nE,hd,p2,p3];rw[uM U Vd,jq,e1]
def aiK(t:aw)(x:Nat): (aK t x).1.up=bI t x:=by unfold aK bI;split<;>rfl
theorem kq{r:dc}:aH [AV.int .u32 0,.int .i64 0,.ai,.int .i64 0,.int .u32 0,.int .u32 0,.int .u32 0,.int .u32 0,.int .u32 0,.int .u32 0,.int .u32 0,.int .u32 0] 0 (bS r)=bS r:=by rfl
def Vf(t:aw)(h:Nat)(N:Nat)(H:List ae)(b:H.length=N)(lo:oN):D X0 (.fn (.func Ew) [] []) [.agg (aJ t),.int .u32 h] ⟨H,lo⟩=some (.ret (.fn (.func EC) [] [.ptr N 0,.ptr (N+1) 0]) ⟨H++[.box (aJ t) none,.box [.int .u32 h] none],lo⟩):=by
 refine aF TA λM a=>?_
 obtain rfl:M=N:=by omega
 simp only[go_sem,simprocAttr,TA,a];rw[Cn (by omega)]
def nF(t:aw)(h:Nat):List lA:=(aR t h).map λx=>[.int .u32 (x:Nat)]
def Vg(t:aw)(ht:bN t)(hT:cm t)(h:Nat)(hh:h<4294967296)(a:Nat):
  uL X0 (.fn (.func EC) [] [.ptr a 0,.ptr (a+1) 0]) a [.box (aJ t) none,.box [.int .u32 h] none] (nF t h):=by
 intro S V y I J b P m uE W s hP h0 wC z hG lo;have o: ∀i,V.dP i->i<b:=λi hi=>(m i hi).1
 suffices h: ∃Y,D X0 (.fn (.func EC) [] [.ptr a 0,.ptr (a+1) 0]) [y] ⟨W,lo⟩=some Y/\
   (λY=> ∃v u ak,Y=aS.ret (.au []) ⟨u,ak⟩/\V.P v u/\ (I (nF t h).length v\/J v)/\b<=u.length/\
     (∀i,i<b-> ¬V.dP i-> ¬(a<=i/\i<a+[ae.box (aJ t) none,.box [.int .u32 (h:Nat)] none].length)->u[i]?=W[i]?)/\m0 V.c b lo ak none (V.row v)) Y by
  obtain⟨Y,h1,v,u,ak,rfl,q1,q2,q3,q4,q5⟩:=h;exact⟨v,u,ak,h1,q1,q2,q3,q4,q5⟩
 refine vE TT rfl rfl rfl λN hN=>?_
 obtain rfl:N=b:=by omega
 have g0:W[a]?=some (.box (aJ t) none):=hG 0 (by simp);have g1:W[a+1]?=some (.box [.int .u32 h] none):=hG 1 (by simp);have ha:=eY g1;have Vh: ¬V.dP a:=λq=>(m a q).2 ⟨by omega,by simp⟩
 have A: ¬V.dP (a+1):=λq=>(m _ q).2 ⟨by omega,by simp⟩
 simp only[go_sem,simprocAttr,TT];refine gS ((aR t h).length+1) (λk e u ak=> ∃v x,I k v/\j6 V N W (λi=>a<=i/\i<a+[ae.box (aJ t) none,.box [.int .u32 (h:Nat)] none].length) v u ak/\u[a]?=some (.box (aJ t) none)/\u[a+1]?=some (.box [.int .u32 (x:Nat)] none)/\x<4294967296/\k<=(aR t h).length/\aR t x=(aR t h).drop k/\e 0=y/\e 1= .ptr a 0/\e 2= .ptr (a+1) 0) 0 (by omega) ?_ ?_
 ·simp only[go_sem,simprocAttr];exact⟨s,h,h0,⟨hP,by omega,λ_ _ _ _=>rfl,.inl ⟨rfl,z⟩,λr e=>by rw[z]at e;cases e⟩,g0,g1,hh,rfl⟩
 rintro k hk e W1 Q ⟨s1,x,hI,X,w0,w1,hx,Vi,p,e0,e1,e2⟩ n U;have g:=sR hT x;have Vj:N<=n:=by have:=X.len;omega
 have f0: ∀L,(W1++L)[a]?=some (.box (aJ t) none):=λL=>bc w0
 have f1: ∀L,(W1++L)[a+1]?=some (.box [.int .u32 x] none):=λL=>bc w1
 have Z:=vB t ht x hx;have hu:=aiK t x;have f: (aK t x).2=if t.ax x then 0 else 4:=by unfold aK;split<;>rfl
 have B: ∀L,bI t x=0-> ∃j d,finish N lo (.au []) ⟨W1++L,Q⟩=(.au [],⟨j,d⟩)/\V.P s1 j/\ (I (nF t h).length s1\/J s1)/\N<=j.length/\ (∀i,i<N-> ¬V.dP i-> ¬(a<=i/\i<a+[ae.box (aJ t) none,.box [.int .u32 (h:Nat)] none].length)->j[i]?=W[i]?)/\m0 V.c N lo d none (V.row s1):=by
  intro L G;obtain⟨j,d,w,F,l,E,C⟩:=(X.push P o L).fin P o (dy:=lo);refine⟨j,d,w,F,.inl ?_,l,E,C⟩;rw[afJ G]at g;rw[g]at p;have:=akG List.length p;rw[ao2]at this;have e: (nF t h).length=(aR t h).length:=by simp[nF]
  simp only[apt]at this;rw[e,show(aR t h).length=k by omega];exact hI
 cases H:t.ax x
 ·rw[H]at f;have G:bI t x=0:=by unfold bI;rw[H];rfl
  obtain⟨j,d,w,F,l,E,C,O⟩:=B [.box (bS (aK t x).1) none] G;simp only[go_sem,simprocAttr,F5,e1,e2,w0,w1,Z,nD,kq,f,U,w];exact⟨s1,j,d,rfl,F,l,E,C,O⟩
 ·rw[H]at f;by_cases G:bI t x=0
  ·obtain⟨j,d,w,F,l,E,C,O⟩:=B [.box (bS (aK t x).1) none] G;simp only[go_sem,simprocAttr,F5,e1,e2,w0,w1,Z,nD,kq,f,U,hu,G,w];exact⟨s1,j,d,rfl,F,l,E,C,O⟩
  ·have R: ¬((bI t x:Nat):Int)=0:=by omega
   rw[afB G]at g;have hk':k< (aR t h).length:=by
    have:=akG List.length (g ▸ p);rw[ao2]at this;simp only[aho]at this;omega
   have wx: (nF t h)[k]?=some [.int .u32 (bI t x:Nat)]:=by
    unfold nF;rw[aiY];have: (aR t h)[k]?=((aR t h).drop k)[0]?:=by rw[anR];rfl
    rw[this,<-p,g];rfl
   have M:=X.push P o [.box (bS (aK t x).1) none];obtain⟨c,s2,W2,jB,w,F,l,E,C,O⟩:=uE k _ s1 wx hI (W1++[.box (bS (aK t x).1) none]) M.P M.len Q;have K:=M.step F l E C;have T: ∀i,i<N->V.row s1≠some i:=λi hi q=>by have:=X.row _ q;omega
   have v0:W2[a]?=some (.box (aJ t) none):=by rw[l.2 a (by simp;omega) Vh (T _ (by omega))];exact f0 _
   have v1:W2[a+1]?=some (.box [.int .u32 x] none):=by rw[l.2 (a+1) (by simp;omega) A (T _ (by omega))];exact f1 _
   have hWn:n+1<=W2.length:=by have:=l.1;simp at this;omega
   have vn:W2[n]?=some (.box (bS (aK t x).1) none):=by
    rw[l.2 n (by simp;omega) (λq=>by have:=o _ q;omega) (λq=>by have:=P.IG X.P q;omega)];rw[<-U];simp
   cases c
   ·obtain⟨j,d,q1,q2,q3,q4,q5⟩:=K.fin P o (dy:=lo);simp only[go_sem,simprocAttr,F5,e0,e1,e2,w0,w1,Z,nD,kq,f,U,hu,R,w,q1];exact⟨s2,j,d,rfl,q2,.inr O,q3,q4,q5⟩
   ·simp(disch:=omega) only[go_sem,simprocAttr,F5,e0,e1,e2,w0,w1,Z,nD,kq,f,U,hu,R,w,v0,v1,vn];refine⟨by omega,s2,bI t x,O,?_,?_,atl,by omega,?_⟩
    ·exact K.set P A (λq=>by have:=K.row _ q;omega) (.inl ⟨by omega,by simp⟩)
    ·exact ahj (by omega)
    ·have:=akG (List.drop 1) (g ▸ p);rw[arv]at this;simpa using this
def Vk{t:aw}{x:lA}(a: (nF t h)[j]?=some x): ∃u,x=[.int .u32 (u:Nat)]/\ (aR t h)[j]?=some u:=by
 unfold nF at a
 grind
def Vl(t:aw)(h:Nat): (nF t h).length=(aR t h).length:=by simp[nF]
def Mz(t:aw)(v:bN t)(q:cm t)(h:Nat)(m:h<4294967296)(H:List ae)(lo:oN):D X0 (.fn (.func Bo) [] []) [.agg (aJ t),.int .u32 h] ⟨H,lo⟩=some (.ret (.int .i64 (depth t h:Nat)) ⟨H,lo⟩):=by
 refine aF LY λN f=>?_
 have g:ax t.b h=t.ax h:=rfl;have a:=eo t.b h m;simp only[g]at a;cases b:t.ax h
 ·simp only[F1,go_sem,simprocAttr,LY,f,a,depth,b,ahf]
 ·rw[b]at a;have C:=Vf t h (N+2) (H++[.box (aJ t) none,.box [.int .i64 1] none]) (by simp[f]) none;simp only[go_sem,simprocAttr,LY,f,a,C];refine yC (S:=Nat) (λe=>e 5= .ptr (N+1) 0) (by simp only[go_sem,simprocAttr]) (nF t h) f [.box (aJ t) none,.box [.int .u32 h] none] (λn=>[.box (aJ t) none,.box [.int .i64 (n+1:Nat)] none]) (nB:=2) (λ_=>rfl) 0 (λj s=>s=j) (λ_ _=>False) rfl ?_ (by simp) rfl (λ_ _ h=>h.elim) ?_ ?_ ?_
  ·exact Vg t v q h m (N+2)
  ·rintro e he j x s r rfl;obtain⟨u,rfl,hu⟩:=Vk r;refine⟨rfl,λW n G z k=>?_⟩;simp only[go_sem,simprocAttr,iE];refine⟨[],by simp,λJ E d=>?_⟩;simp only[gF,gE,aq8,ahu]at d;obtain⟨w0,w1⟩:=d;have hs:s< (aR t h).length:=(afA.1 hu).1;have w:=q h;simp(disch:=omega) only[go_sem,simprocAttr,agS,he,w1,aiH,sq];refine⟨s+1,?_,λi I A=>aeR (by omega),rfl⟩;simp only[gF,gE,aq8,ahu];exact⟨by rw[aeR (by omega)];exact w0,ahj (by omega)⟩
  ·rintro e he s W p y rfl c k B;simp only[gF,gE,aq8,ahu]at k;obtain⟨w0,w1⟩:=k;have l: ∀o,(W.set p o).take N=H:=λo=>(c.set (by omega)).take f
   simp only[F1,go_sem,simprocAttr,he,w1,B,nE,l];rw[Vl];refine da (akG _ ?_) rfl;unfold depth;rw[afJ b];omega
  ·rintro e he ex s W p y F;exact F.elim
def atU{t:aw}(b:cm t)(c:h<4294967296):root t h<4294967296:=by
 unfold root;split
 ·cases e:aR t h with
  |nil=>grind
  |cons a l=>
   have hm: (aR t h).getLastD h∈aR t h:=by grind
   rw[<-e];exact gg (atm b hm)
 ·omega
def zN(t:aw)(r:bN t)(C:cm t)(h:Nat)(m:h<4294967296)(H:List ae)(lo:oN):D X0 (.fn (.func uQ) [] []) [.agg (aJ t),.int .u32 h] ⟨H,lo⟩=some (.ret (.int .u32 (root t h:Nat)) ⟨H,lo⟩):=by
 refine aF LR λN f=>?_
 have g:ax t.b h=t.ax h:=rfl;have a:=eo t.b h m;simp only[g]at a;cases b:t.ax h
 ·simp only[F1,go_sem,simprocAttr,LR,f,a,root,b,ahf]
 ·rw[b]at a;have A:=Vf t h (N+2) (H++[.box (aJ t) none,.box [.int .u32 h] none]) (by simp[f]) none;simp only[go_sem,simprocAttr,LR,f,a,A];refine yC (S:=Nat) (λe=>e 3= .ptr (N+1) 0) (by simp only[go_sem,simprocAttr]) (nF t h) f [.box (aJ t) none,.box [.int .u32 h] none] (λn=>[.box (aJ t) none,.box [.int .u32 (n:Nat)] none]) (nB:=2) (λ_=>rfl) h (λj s=>s=((aR t h).take j).getLastD h) (λ_ _=>False) rfl ?_ (by simp) rfl (λ_ _ h=>h.elim) ?_ ?_ ?_
  ·exact Vg t r C h m (N+2)
  ·rintro e he j x s q rfl;obtain⟨u,rfl,hu⟩:=Vk q;refine⟨rfl,λW n F w k=>?_⟩;simp only[go_sem,simprocAttr,iE];refine⟨[],by simp,λI B d=>?_⟩;simp only[gF,gE,aq8,ahu]at d;obtain⟨w0,w1⟩:=d;simp only[go_sem,simprocAttr,agO,he,w1,aiH,sq];refine⟨u,?_,λi G y=>aeR (by omega),?_⟩
   ·simp only[gF,gE,aq8,ahu];exact⟨by rw[aeR (by omega)];exact w0,ahj (by omega)⟩
   ·rw[aiV,hu];simp
  ·rintro e he s W p v rfl c k z;simp only[gF,gE,aq8,ahu]at k;obtain⟨w0,w1⟩:=k;have l: ∀o,(W.set p o).take N=H:=λo=>(c.set (by omega)).take f
   simp only[F1,go_sem,simprocAttr,he,w1,z,nE,l];rw[Vl,ahn];refine da (akG _ ?_) rfl;unfold root;rw[afJ b]
  ·rintro e he ex s W p v E;exact E.elim
noncomputable def mb:lA->AS->Option aS:=oh X0 (D X0) Lw iH K5
noncomputable def X1:Ctx:={X0 with bU:=λf=>if f=iH then some mb else none}
noncomputable def nG:lA->AS->Option aS:=oh X1 (D X1) Lw j9 K1
noncomputable def X2:Ctx:={X0 with bU:=λf=>if f=iH then some mb else if f=j9 then some nG else none}
noncomputable def qf:lA->AS->Option aS:=oh X2 (D X2) Lw mw FN
noncomputable def X3:Ctx:={X0 with bU:=λf=>if f=iH then some mb else if f=j9 then some nG else if f=mw then some qf else none}
noncomputable def rJ:lA->AS->Option aS:=oh X3 (D X3) Lw m6 LF
noncomputable def X4:Ctx:={X0 with bU:=λf=>if f=iH then some mb else if f=j9 then some nG else if f=mw then some qf else if f=m6 then some rJ else none}
noncomputable def xv:lA->AS->Option aS:=oh X4 (D X4) Lw qP LD
noncomputable def X5:Ctx:={X0 with bU:=λf=>if f=iH then some mb else if f=j9 then some nG else if f=mw then some qf else if f=m6 then some rJ else if f=qP then some xv else none}
noncomputable def zO:lA->AS->Option aS:=oh X5 (D X5) Lw sr LC
noncomputable def X6:Ctx:={X0 with bU:=λf=>if f=iH then some mb else if f=j9 then some nG else if f=mw then some qf else if f=m6 then some rJ else if f=qP then some xv else if f=sr then some zO else none}
noncomputable def Cp:lA->AS->Option aS:=oh X6 (D X6) Lw pC FJ
noncomputable def X:Ctx:={X0 with bU:=λf=>if f=iH then some mb else if f=j9 then some nG else if f=mw then some qf else if f=m6 then some rJ else if f=qP then some xv else if f=sr then some zO else if f=pC then some Cp else none}
theorem Gn{P:FuncId->Option (lA->AS->Option aS)}(h: ∀f,kL.contains f=false->P f=none):Ext X0 {X0 with bU:=P}where
 dg:=rfl
 fb:=rfl
 code:=rfl
 bU:=λf=>by
  cases a:kL.contains f
  ·left;exact h f a
  ·right
   refine⟨rfl,?_⟩;show(if kL.contains f then none else zo.lookup f)=none
   grind
def hU{g:FuncId}(h:kL.contains f=false)(a:kL.contains g=true):f≠g:=by grind
theorem aiM:Ext X0 X2:=Gn λf h=>by rw[afB (hU h rfl),afB (hU h rfl)]
theorem atV:Ext X0 X3:=Gn λf h=>by rw[afB (hU h rfl),afB (hU h rfl),afB (hU h rfl)]
theorem atW:Ext X0 X4:=Gn λf h=>by rw[afB (hU h rfl),afB (hU h rfl),afB (hU h rfl),afB (hU h rfl)]
theorem aiN:Ext X0 X6:=Gn λf h=>by rw[afB (hU h rfl),afB (hU h rfl),afB (hU h rfl),afB (hU h rfl),afB (hU h rfl),afB (hU h rfl)]
theorem dk:Ext X0 X:=Gn λf h=>by rw[afB (hU h rfl),afB (hU h rfl),afB (hU h rfl),afB (hU h rfl),afB (hU h rfl),afB (hU h rfl),afB (hU h rfl)]
def atX(p:Nat->Bool)(k:Nat): (List.range (k+1)).filter p=(List.range k).filter p++(if p k then[k]else[]):=by grind [List.range_succ]
def aQ.le{N M:Nat}{H:List ae}{ty:TypeId}(h:aQ N H v sz ty af)(b:M<=N):aQ M H v sz ty af:=by
 obtain⟨a,c⟩:=h;refine⟨a,?_⟩
 grind
def rK(b:cE)(k:Nat):lN:=((List.range k).filter λi=>(b i).eH).map λi=>c7 i (b i).gen
def atY(b:cE)(k:Nat):rK b (k+1)=if(b k).eH then rK b k++[c7 k (b k).gen]else rK b k:=by
 unfold rK;rw[atX]
 grind
def atZ(b:cE)(k:Nat): (rK b k).length<=k:=by
 unfold rK
 grind
def Vm(b:cE)(z:gL b)(N:Nat)(H:List ae)(w:H.length=N)(lo:oN): ∃v J,mb [.agg (bY b)] ⟨H,lo⟩=some (.ret v ⟨H++J,lo⟩)/\aQ (N+1) (H++J) v 1 bZ ((bm b).map hC):=by
 suffices h: ∃o,mb [.agg (bY b)] ⟨H,lo⟩=some o/\ (λo=> ∃v J,o=aS.ret v ⟨H++J,lo⟩/\aQ (N+1) (H++J) v 1 bZ ((bm b).map hC)) o by
  obtain⟨o,m,v,J,rfl,A⟩:=h;exact⟨v,J,m,A⟩
 refine wB (X:=X0) K5 rfl λM D=>?_
 obtain rfl:M=N:=by omega
 have u: (H++[ae.box (bY b) none]).length=M+1:=by simp[w]
 simp only[go_sem,simprocAttr,K5,w];refine dV 32 (λk e H'=>(H++[ae.box (bY b) none])<+:H'/\ (∃v,e 3=v/\aQ (M+1) H' v 1 bZ ((rK b k).map hC))/\e 1= .ptr M 0/\e 7= .int .i64 k) 0 (by omega) ?_ ?_
 ·simp only[go_sem,simprocAttr];exact⟨arT,_,rfl,aQ.ai⟩
 rintro k C e H' ⟨⟨L,rfl⟩,⟨v,y,a⟩,m,x⟩ n B;have j: (H++[ae.box (bY b) none]++L)[M]?=some (.box (bY b) none):=by rw[afL,di w];rfl
 have t:=atr b z k (H++(.box (bY b) none::L)) none;simp only[afL,alb,aj8]at j;have q:=atZ b k;simp only[bR,go_sem,simprocAttr,agi,m,y,x,j,t,atR];refine⟨λh=>?_,λh=>?_⟩
 ·have c:k<32:=by omega
  have d:=atY b k;cases hs: (b k).eH
  ·rw[hs]at d;simp(disch:=omega) only[go_sem,simprocAttr,c,m,y,x,dT];rw[d];exact⟨⟨L,by simp⟩,v,rfl,by simpa using a⟩
  ·rw[hs]at d;simp only[go_sem,simprocAttr,c,y,dT];have i: (H++[ae.box (bY b) none])<+: (H++(.box (bY b) none::L)):=⟨L,by simp⟩;have g:aQ (M+1) (H++(.box (bY b) none::L)) v 1 bZ ((rK b k).map hC):=by simpa using a
   refine po (H0:=H++[ae.box (bY b) none]) (ys:=[[.int .u32 (c7 k (b k).gen:Nat)]]) g i u (by omega) (by intro el s;rw[ahe.1 s];rfl) rfl (by unfold room;simp;omega) λv' E f r=>?_
   simp(disch:=omega) only[go_sem,simprocAttr,m,x];refine⟨c,r,?_⟩;rw[d];have:List.map hC (rK b k++[c7 k (b k).gen])=List.map hC (rK b k)++[[.int .u32 (c7 k (b k).gen:Nat)]]:=by simp[hC]
   simp only[aiZ];rw[this];exact⟨v',rfl,f⟩
 ·obtain rfl:k=32:=by omega
  have:bm b=rK b 32:=rfl;rw[this];simp only[go_sem,simprocAttr,sk,fV];exact⟨_,_,rfl,by simpa using a⟩
theorem s7{X:Ctx}{p:lA->AS->Option aS}{args:lA}{E:AS}{r:aS}(a:X.bU f=some p)(h:p args E=some r):D X (.fn (.func f) [] []) args E=some r:=DV a h
def aiO(b:cE)(d:gL b)(N:Nat)(H:List ae)(e:H.length=N)(lo:oN): ∃v J,nG [.agg (bY b)] ⟨H,lo⟩=some (.ret v ⟨H++J,lo⟩)/\aQ (N+1) (H++J) v 1 bZ ((bm b).map hC):=by
 suffices h: ∃a,nG [.agg (bY b)] ⟨H,lo⟩=some a/\ (λa=> ∃v J,a=aS.ret v ⟨H++J,lo⟩/\aQ (N+1) (H++J) v 1 bZ ((bm b).map hC)) a by grind
 refine wB (X:=X1) K1 rfl λM g=>?_
 obtain rfl:M=N:=by omega
 obtain⟨v,J,e1,f⟩:=Vm b d (M+1) (H++[.box (bY b) none]) (by grind) none;have c:D X1 (.fn (.func iH) [] []) [.agg (bY b)] ⟨H++[.box (bY b) none],none⟩=some (.ret v ⟨H++[.box (bY b) none]++J,none⟩):=s7 (p:=mb) rfl e1;simp only[go_sem,simprocAttr,K1,e,c,sk,fV];exact⟨_,_,rfl,(aQ.le (M:=M+1) f (by omega)).mono (by simp)⟩
def qg{H:List ae}{o:ae}(h:H[i]?=some o):H.set i o=H:=by
 apply apg
 grind
def aiP{H:List ae}{id:Nat}{ty:TypeId}(h:H[id]?=some (.row aj 1 ty af))(a:i<af.length)(b: ∀el∈af,el.length=1)(g:v.cb=false)(f:v.cells=[v])(d:v.refs=0):
  kR ⟨H,lo⟩ 1 (.dq id aj i 0) v=some ⟨H.set id (.row aj 1 ty (af.set i [v])),lo⟩:=by
 have c:=b _ (atQ a);simp only[kR,h,ag6 a];rw[afJ ⟨trivial,c,g,by grind,by omega⟩];have e:aH af[i] 0 v.cells=[v]:=by
  rw[f];simp only[aH,List.take_zero,aj8,aho,apt,ans]
  grind
 rw[e];simp[AS.set,d]
def Gp{H:List ae}{id:Nat}{ty:TypeId}{c:Bool}(h:H[id]?=some (.row aj 1 ty af))(d:n<=af.length)(b: ∀el∈af,el.length=1):Rd ⟨H,lo⟩ (.ref id aj 1 0 n c) 1 (af.take n):=by
 refine⟨trivial,?_,λel a=>b el (al8 a)⟩;simp only[Den.elems,h]
 grind
def at0{id:Nat}(h:i<=n):fX 1 (.ref id aj 1 0 n false) (some (.int .i64 (i:Nat))) none none=some (.ref id aj 1 i (n-i) false):=by
 simp only[fX,fW,lK,lL]
 grind
def aiQ{id:Nat}(h:i<=n):fX 1 (.ref id aj 1 0 n false) none (some (.int .i64 (i:Nat))) none=some (.ref id aj 1 0 i false):=by
 simp only[fX,fW,lK,lL]
 grind
def kept(p:Nat->Bool)(l:lN)(k:Nat):lN:=(l.take k).filter λh=>!p h
def gi(p:Nat->Bool)(l:lN)(k:Nat):lN:=kept p l k++l.drop (kept p l k).length
section
variable{p:Nat->Bool}{l:lN}{k:Nat}
theorem Vn: (kept p l k).length<=k:=akH (amL _ _) (by grind)
theorem aiR: (kept p l k).length<=l.length:=akH (amL _ _) (by grind)
def zP: (gi p l k).length=l.length:=by
 have:=aiR (p:=p) (l:=l) (k:=k);simp only[gi,ahc,ao2];omega
theorem getD_eq(a:k<l.length):l.getD k default=l[k]:=by grind
def Gq(a:k<l.length):kept p l (k+1)=if p (l.getD k default)=true then kept p l k else kept p l k++[l.getD k default]:=by
 have e:l.take (k+1)=l.take k++[l.getD k default]:=by simp_all
 unfold kept
 grind
def at1(a:k<l.length): (gi p l k).getD k default=l.getD k default:=by
 have b:=Vn (p:=p) (l:=l) (k:=k);unfold gi
 grind
def at2(b:k<l.length)(a:p (l.getD k default)=false): (gi p l k).set (kept p l k).length (l.getD k default)=gi p l (k+1):=by
 have c:=Vn (p:=p) (l:=l) (k:=k);have e:=Gq (p:=p) b;rw[a]at e;unfold gi;have d:l.drop (kept p l k).length=l[(kept p l k).length]'(by omega)::l.drop ((kept p l k).length+1):=apL (by omega)
 grind
def at3(b:k<l.length)(a:p (l.getD k default)=true):gi p l (k+1)=gi p l k:=by
 have e:=Gq (p:=p) b;rw[afJ a]at e;unfold gi;rw[e]
def at4(h:l.findIdx? p=some b):b<l.length/\kept p l (b+1)=l.take b:=by
 rw[arb]at h;obtain⟨c,g,f⟩:=h;refine⟨c,?_⟩;rw[Gq c,afJ (by grind)];unfold kept;rw[List.filter_eq_self];intro a d;obtain⟨j,e,rfl⟩:=aul d
 grind
def aiS:kept p l l.length=l.filter λh=>!p h:=by unfold kept;grind
end
def at5{H:List ae}{id off len:Nat}{c:Bool}{ty:TypeId}(h:H[id]?=some (.row aj 1 ty af))(a:off+len<=af.length):
  rX ⟨H,lo⟩ [.int .u32 0] (.ref id aj 1 off len c)=some ⟨H.set id (.row aj 1 ty (af.take off++(List.replicate len [.int .u32 0]++af.drop (off+len)))),lo⟩:=by
 simp only[rX,h];rw[afJ ⟨trivial,trivial,rfl,a,rfl⟩];simp[AS.set]
def map_set{β:Type}(g:α->β)(l:List α)(i:Nat)(x:α): (l.map g).set i (g x)=(l.set i x).map g:=by simp
def at6(id aj:Nat)(H:List ae)(l:lN)(hl:l.length<=1000)(i:H[id]?=some (.row aj 1 bZ (l.map hC)))(fv:AV)(p:Nat->Bool)
  (T: ∀af,∀h∈l,D X2 fv [.int .u32 h] ⟨H.set id (.row aj 1 bZ af),none⟩=some (.ret (.bool (p h)) ⟨H.set id (.row aj 1 bZ af),none⟩)) (lo:oN):
  ∃rest,qf [.ref id aj 1 0 l.length false,fv] ⟨H,lo⟩=some (.ret (.ref id aj 1 0 (l.filter λh=>!p h).length false) ⟨H.set id (.row aj 1 bZ ((l.filter λh=>!p h).map hC++rest)),lo⟩)/\ ∀el∈rest,el=[.int .u32 0]:=by
 suffices h: ∃A,qf [.ref id aj 1 0 l.length false,fv] ⟨H,lo⟩=some A/\ (λA=> ∃rest,A=aS.ret (.ref id aj 1 0 (l.filter λh=>!p h).length false) ⟨H.set id (.row aj 1 bZ ((l.filter λh=>!p h).map hC++rest)),lo⟩/\ ∀el∈rest,el=[.int .u32 0]) A by grind
 have J:=(afA.1 i).1;have V: ∀el∈l.map hC,el.length=1:=by intro el f;obtain⟨x,_,rfl⟩:=ahk.1 f;rfl
 have Q:=qg i;have O: ∀h∈l,D X2 fv [.int .u32 h] ⟨H,none⟩=some (.ret (.bool (p h)) ⟨H,none⟩):=λh hm=>by
  have:=T (l.map hC) h hm;rwa[Q]at this
 have G:Rd ⟨H,none⟩ (.ref id aj 1 0 l.length false) 1 (l.map hC):=by
  have:=Gp (lo:=none) (c:=false) (n:=l.length) i (by simp) V;rwa[ag8 (by simp)]at this
 have w:=ais aiM (.ref id aj 1 0 l.length false) fv l H G (by omega) p none O;refine wB (X:=X2) FN rfl λM hM=>?_
 cases m:l.findIdx? p with
 |none=>
  have K:fR p l= -1:=by unfold fR;rw[m]
  have N:l.filter (λh=>!p h)=l:=by
   rw[List.filter_eq_self];intro a Z;rw[List.findIdx?_eq_none_iff]at m;simp[m a Z]
  simp only[go_sem,simprocAttr,FN,w,K,sk,fV];exact⟨[],by rw[N,aiH,Q],λ_ h=>by cases h⟩
 |some i0=>
  have K:fR p l=(i0:Nat):=by unfold fR;rw[m]
  have u: ((i0:Nat):Int)≠ -1:=by omega
  obtain⟨Y,v⟩:=at4 m;have b: ∀af,(H.set id (.row aj 1 bZ af))[id]?=some (.row aj 1 bZ af):=λaf=>ahj J
  have P:gi p l (i0+1)=l:=by
   have e: (l.take i0).length=i0:=by rw[ai1];omega
   unfold gi;rw[v,e,aqj]
  simp(disch:=omega) only[go_sem,simprocAttr,FN,w,K,u];refine dV l.length (λk e H'=>H'=H.set id (.row aj 1 bZ ((gi p l k).map hC))/\e 0= .ref id aj 1 0 l.length false/\e 1=fv/\e 5= .int .i64 (kept p l k).length/\e 6= .int .i64 k) (i0+1) (by omega) ?_ ?_
  ·have e: (kept p l (i0+1)).length=i0:=by rw[v,ai1];omega
   rw[P,e];simp only[go_sem,simprocAttr,Q]
  ·rintro k hk e H' ⟨rfl,z,U,y,R⟩ n hn;have q: ∀lo,Rd ⟨H.set id (.row aj 1 bZ ((gi p l k).map hC)),lo⟩ (.ref id aj 1 0 l.length false) 1 ((gi p l k).map hC):=λlo=>by
    have:=Gp (lo:=lo) (c:=false) (n:=l.length) (b ((gi p l k).map hC)) (by rw[ahh,zP];exact ahd _) (by intro el f;obtain⟨x,_,rfl⟩:=ahk.1 f;rfl);rwa[ag8 (by rw[ahh,zP];exact ahd _)]at this
   have W:=Vn (p:=p) (l:=l) (k:=k);have r:=aiR (p:=p) (l:=l) (k:=k);have j: ∀E,fj E .sl (.ref id aj 1 0 l.length false)=some (.int .i64 l.length):=λE=>rfl
   simp only[bR,go_sem,simprocAttr,agF,z,y,R,j];refine⟨λh=>?_,λh=>?_⟩
   ·have d:k<l.length:=by omega
    have I:k< (gi p l k).length:=by rw[zP];exact d
    have L:=at1 (p:=p) d;have s:=λ (a:Int)=>(q none).ck (k:=.i64) (a:=a)
    have o:=(q none).cD (X:=X2) (off:=0) (n:=1) (agg:=false) I;have g:=T ((gi p l k).map hC) (l.getD k default) (eX d);rw[L]at o;simp only[fu,ans]at o;rw[zP]at s;cases t:p (l.getD k default)
    ·rw[t]at g;have B:kR ⟨H.set id (.row aj 1 bZ ((gi p l k).map hC)),none⟩ 1 (.dq id aj (kept p l k).length 0) (.int .u32 (l.getD k default))=some ⟨H.set id (.row aj 1 bZ ((gi p l (k+1)).map hC)),none⟩:=by
      rw[aiP (b _) (by rw[ahh,zP];omega) (by intro el f;obtain⟨x,_,rfl⟩:=ahk.1 f;rfl) rfl rfl rfl,anu];have: ((gi p l k).map hC).set (kept p l k).length [.int .u32 (l.getD k default)]=(gi p l (k+1)).map hC:=by
       rw[<-at2 d t,<-map_set];rfl
      rw[this]
     have S: (kept p l (k+1)).length=(kept p l k).length+1:=by rw[Gq d,t];simp
     simp(disch:=omega) only[go_sem,simprocAttr,S,s,o,↓pH,g,B,z,U,y,R,fu];exact⟨by omega,by omega,by omega⟩
    ·rw[t]at g;have S:kept p l (k+1)=kept p l k:=by rw[Gq d,t];simp
     have e6:=at3 d t;simp(disch:=omega) only[go_sem,simprocAttr,S,e6,s,o,↓pH,g,z,U,y,R,fu];exact⟨by omega,by omega⟩
   ·obtain rfl:k=l.length:=by omega
    have F:=at0 (id:=id) (aj:=aj) (n:=l.length) r;have C:=aiQ (id:=id) (aj:=aj) (n:=l.length) r;have g:=at5 (lo:=none) (off:=(kept p l l.length).length) (len:=l.length- (kept p l l.length).length) (c:=false) (b ((gi p l l.length).map hC)) (by rw[ahh,zP];omega);simp only[go_sem,simprocAttr,z,y,F,C,g,sk,fV];refine⟨List.replicate (l.length- (kept p l l.length).length) [.int .u32 0],?_,λel f=>auo f⟩;rw[anu];have e1:List.take (kept p l l.length).length (List.map hC (gi p l l.length))=(l.filter λh=>!p h).map hC:=by
     unfold gi;rw[ahs,apE (by simp),aiS]
    have e2:List.drop ((kept p l l.length).length+(l.length- (kept p l l.length).length)) (List.map hC (gi p l l.length))=[]:=al6 (by rw[ahh,zP];omega);rw[e1,e2,aiH,aiS]
def at7{X:Ctx}(j:Ext X0 X)(t:aw)(f:bN t)(h x:Nat)(e:x<4294967296)(d a:Nat)(H:List ae)(b:H[d]?=some (.box (aJ t) none))(c:H[a]?=some (.box [.int .u32 h] none))(lo:oN):
  D X (.fn (.func El) [] [.ptr d 0,.ptr a 0]) [.int .u32 x] ⟨H,lo⟩=some (.ret (.bool (decide (bI t x≠h))) ⟨H,lo⟩):=by
 refine up j ?_;refine eP SW λN i=>?_
 have m: ∀L,(H++L)[a]?=some (.box [.int .u32 h] none):=λL=>bc c
 have g:=vB t f x e;have hu:=aiK t x;simp only[F1,go_sem,simprocAttr,SW,i,b,m,g,nD,kq,hu];refine da (akG AV.bool ?_) rfl
 grind
def aiT(N:Nat)(H:List ae)(v:AV)(ty:TypeId)(af a:List lA):Prop:=
 (∃id aj,N<=id/\v= .ref id aj 1 0 af.length false/\H[id]?=some (.row aj 1 ty (af++a)))/\ ∀el∈a,el.length=1
def aua(t:aw)(q:bN t)(h:Nat)(r:t.ax h=true)(N:Nat)(H:List ae)(I:H.length=N)(lo:oN):
  ∃v J rest,rJ [.agg (aJ t),.int .u32 h] ⟨H,lo⟩=some (.ret v ⟨H++J,lo⟩)/\aiT (N+2) (H++J) v bZ ((kids t h).map hC) rest:=by
 have C:=gg r
 suffices hs: ∃n,rJ [.agg (aJ t),.int .u32 h] ⟨H,lo⟩=some n/\ (λn=> ∃v J rest,n=aS.ret v ⟨H++J,lo⟩/\aiT (N+2) (H++J) v bZ ((kids t h).map hC) rest) n by
  obtain⟨n,F,v,J,rest,rfl,E⟩:=hs;exact⟨v,J,rest,F,E⟩
 refine wB (X:=X3) LF rfl λM s=>?_
 obtain rfl:M=N:=by omega
 have i:=up atV (eo t.b h C (H++[.box (aJ t) none,.box [.int .u32 h] none]) none);have u:Go.Proofs.YteplichagkpciaaGreatDoor.ax t.b h=t.ax h:=rfl;rw[u]at i;rw[r]at i;obtain⟨v,J,e1,G⟩:=aiO t.b q.b (M+2) (H++[.box (aJ t) none,.box [.int .u32 h] none]) (by simp[s]) none;have j:D X3 (.fn (.func j9) [] []) [.agg (bY t.b)] ⟨H++[.box (aJ t) none,.box [.int .u32 h] none],none⟩=some (.ret v ⟨H++[.box (aJ t) none,.box [.int .u32 h] none]++J,none⟩):=s7 (p:=nG) rfl e1;have f:h∈bm t.b:=(jm q.b).2 r;have g: (bm t.b).filter (λx=>!decide (bI t x≠h))=kids t h:=by
  unfold kids;rw[afJ r];refine List.filter_congr λx _=>?_
  by_cases e:bI t x=h<;>simp[e]
 rcases G.2 with⟨_,e⟩| ⟨id,aj,B,rfl,a⟩
 ·rw[arX.1 e]at f;cases f
 rw[ahh]at j;obtain⟨H1,c⟩: ∃H1,H1=H++[ae.box (aJ t) none,.box [.int .u32 h] none]++J:=⟨_,rfl⟩;have b:=eY a;have z:H1[M]?=some (.box (aJ t) none):=by rw[c,afL,di s];rfl
 have y:H1[M+1]?=some (.box [.int .u32 h] none):=by rw[c,afL,bA s];rfl
 rw[<-c]at a b;obtain⟨rest,d1,d2⟩:=at6 id aj H1 (bm t.b) (by have:=nm t.b;omega) a (.fn (.func El) [] [.ptr M 0,.ptr (M+1) 0]) (λx=>decide (bI t x≠h))
  (λaf x A=>at7 aiM t q h x (gg ((jm q.b).1 A)) M (M+1) _ (by rw[aeR (by omega)];exact z) (by rw[aeR (by omega)];exact y) none) none
 rw[g]at d1;have m:D X3 (.fn (.func mw) [] []) [.ref id aj 1 0 (bm t.b).length false,.fn (.func El) [] [.ptr M 0,.ptr (M+1) 0]] ⟨H1,none⟩=some _:=s7 (p:=qf) rfl d1;rw[c]at m;simp only[afL,alb,aj8]at m j;simp only[go_sem,simprocAttr,LF,s,i,j,m,sk,fV];have d: ∀L:List ae,∀o,(H++L).set id o=H++L.set (id-H.length) o:=λL o=>aqk _ _ (by omega)
 refine⟨_,_,rest,da rfl (d _ _),⟨id,aj,by omega,by rw[ahh],?_⟩,λel w=>by rw[d2 el w];rfl⟩;rw[<-d];refine ahj ?_;rw[c]at b;simpa using b
def iw(l:lN)(k:Nat):lN:=(List.range l.length).map λi=>if i<k\/l.length-k<=i then l.getD (l.length-1-i) default else l.getD i default
section
variable{l:lN}{k:Nat}
def s8: (iw l k).length=l.length:=by simp[iw]
def aub(h:i<l.length): (iw l k).getD i default=if i<k\/l.length-k<=i then l.getD (l.length-1-i) default else l.getD i default:=by
 unfold iw
 grind
def auc:iw l 0=l:=by
 apply apg;unfold iw
 grind
def aud(h:l.length<=2*k+1):iw l k=l.reverse:=by
 apply apg;intro i;unfold iw;by_cases a:i<l.length
 ·rw[aiY,arB a]
  grind
 grind
def aue(h:2*k+1<l.length): ((iw l k).set k (l.getD (l.length-1-k) default)).set (l.length-1-k) (l.getD k default)=iw l (k+1):=by
 apply apg;intro i;by_cases a:i<l.length
 ·by_cases e1:l.length-1-k=i
  ·unfold iw
   grind
  ·rw[aeR e1];by_cases b:k=i
   ·subst b;rw[ahj (by rw[s8];omega)];unfold iw;rw[aiY,arB a];simp only[ahi];rw[afJ (by omega)]
   ·rw[aeR b];unfold iw;rw[aiY,aiY,arB a];simp only[ahi];by_cases c:i<k\/l.length-k<=i
    ·rw[afJ c,afJ (by omega)]
    ·rw[afB c,afB (by omega)]
 ·rw[anQ (by simp[s8];omega),anQ (by rw[s8];omega)]
end
def auf(id aj:Nat)(H:List ae)(l:lN)(P:l.length<=1000)(b:List lA)(i:H[id]?=some (.row aj 1 bZ (l.map hC++b)))(f: ∀el∈b,el.length=1)(lo:oN):
  D X0 (.fn (.func QW) [] []) [.ref id aj 1 0 l.length false] ⟨H,lo⟩=some (.ret (.au []) ⟨H.set id (.row aj 1 bZ (l.reverse.map hC++b)),lo⟩):=by
 refine aF SU λN R=>?_
 have y:=eY i;have g: ∀E,fj E .sl (.ref id aj 1 0 l.length false)=some (.int .i64 l.length):=λE=>rfl
 have d: ∀af,(H.set id (.row aj 1 bZ af))[id]?=some (.row aj 1 bZ af):=λaf=>ahj y
 have M: ∀k,∀el∈(iw l k).map hC++b,el.length=1:=λk el p=>by
  rcases ahb.1 p with h|h
  ·obtain⟨x,_,rfl⟩:=ahk.1 h;rfl
  ·exact f _ h
 simp(disch:=omega) only[go_sem,simprocAttr,SU,g];refine dV l.length (λk e H'=>H'=H.set id (.row aj 1 bZ ((iw l k).map hC++b))/\e 0= .ref id aj 1 0 l.length false/\e 2= .int .i64 k/\e 3= .int .i64 ((l.length:Int)-1-k)) 0 (by omega) ?_ ?_
 ·rw[auc,qg i];simp only[go_sem,simprocAttr];exact akG _ (by omega)
 rintro k Q e H' ⟨rfl,K,J,I⟩ n O;simp only[bR,F1,go_sem,simprocAttr,agE,K,J,I];refine⟨λh=>?_,λh=>?_⟩
 ·have u:2*k+1<l.length:=by omega
  have w:k<l.length:=by omega
  obtain⟨m,hm⟩: ∃m,m=l.length-1-k:=⟨_,rfl⟩;have t: (l.length:Int)-1-k=(m:Nat):=by omega
  have o:Rd ⟨H.set id (.row aj 1 bZ ((iw l k).map hC++b)),none⟩ (.ref id aj 1 0 l.length false) 1 ((iw l k).map hC):=by
   have:=Gp (lo:=none) (c:=false) (n:=l.length) (d ((iw l k).map hC++b)) (by rw[ahc,ahh,s8];omega) (M k);rwa[apE (by rw[ahh,s8])]at this
  have C:jY 1 (.ref id aj 1 0 l.length false) (.int .i64 (m:Nat))=some (.dq id aj m 0):=by
   have:=o.ck (k:=.i64) (a:=(m:Nat));rw[s8,afJ (by omega)]at this;rw[this];simp[fu]
  have B:jY 1 (.ref id aj 1 0 l.length false) (.int .i64 (k:Nat))=some (.dq id aj k 0):=by
   have:=o.ck (k:=.i64) (a:=(k:Nat));rw[s8,afJ (by omega)]at this;rw[this];simp[fu]
  have A: ∀j,j<l.length->cg X0 ⟨H.set id (.row aj 1 bZ ((iw l k).map hC++b)),none⟩ false 1 (.dq id aj j 0)=some (.int .u32 ((iw l k).getD j default:Nat)):=λj F=>by
   have:=o.cD (X:=X0) (j:=j) (off:=0) (n:=1) (agg:=false) (by rw[s8];exact F);simp only[fu,ans]at this;rw[this,pH]
  have s:=A m (by omega);have r:=A k (by omega);rw[aub (by omega),afB (by omega)]at s r;have G: ∀ (L:lN) (j v:Nat),L.length=l.length->j<l.length->kR ⟨H.set id (.row aj 1 bZ (L.map hC++b)),none⟩ 1 (.dq id aj j 0) (.int .u32 v)=some ⟨H.set id (.row aj 1 bZ ((L.set j v).map hC++b)),none⟩:=λL j v A F=>by
   rw[aiP (d _) (by rw[ahc,ahh];omega) (λel p=>by
    rcases ahb.1 p with h|h
    ·obtain⟨x,_,rfl⟩:=ahk.1 h;rfl
    ·exact f _ h) rfl rfl rfl,anu,asa _ _ (by rw[ahh];omega)]
   have: (L.map hC).set j [.int .u32 v]=(L.set j v).map hC:=by rw[<-map_set];rfl
   rw[this]
  have z:=G (iw l k) k (l.getD m default) s8 (by omega);have q:=G ((iw l k).set k (l.getD m default)) m (l.getD k default) (by rw[ahq,s8]) (by omega);rw[hm,aue u,<-hm]at q;simp(disch:=omega) only[go_sem,simprocAttr,K,J,I,t,C,B,s,r,z,q];exact⟨w,akG _ (by omega)⟩
 ·have he:=aud (l:=l) (k:=k) (by omega);rw[he,ag8 (by rw[ahq];omega)]
def Vo(t:aw)(h:Nat)(N:Nat)(H:List ae)(b:H.length=N)(lo:oN):D X0 (.fn (.func Ek) [] []) [.agg (aJ t),.int .u32 h] ⟨H,lo⟩=some (.ret (.fn (.func yF) [] [.ptr (N+1) 0,.ptr N 0]) ⟨H++[.box (aJ t) none,.box [.int .u32 h] none],lo⟩):=by
 refine aF SN λM a=>?_
 obtain rfl:M=N:=by omega
 simp only[go_sem,simprocAttr,SN,a];rw[Cn (by omega)]
def rL(t:aw)(h:Nat):List lA:=(dv t h).map hC
def Vp(t:aw)(h:Nat): (rL t h).length=(dv t h).length:=by simp[rL]
structure aug(W:List ae)(v:AV)(id:Nat)(st:lN):Prop where
 ex: ∃aj rest,v= .ref id aj 1 0 st.length false/\W[id]?=some (.row aj 1 bZ (st.map hC++rest))/\ ∀el∈rest,el.length=1
theorem o5{t:aw}: ∀st:lN,st.length<=(st.flatMap (dv t)).length
 | []=>by simp
 |x::xs=>by
  have d:1<=(dv t x).length:=by
   cases e:dv t x with
   |nil=>trivial
   |cons a b=>simp
  have c:=o5 (t:=t) xs
  grind
def auh{H:List ae}{id:Nat}{ty:TypeId}{ys:List lA}(h:H[id]?=some (.row aj 1 ty af))(f:n<=af.length)(e: ∀el∈ys,el.length=1)(a:b8 ys=0)(d: (n+ys.length)*4<=room)(b:ys≠[]):
  dx ⟨H,lo⟩ ty 1 4 (.ref id aj 1 0 n false) ys=some (.ref id (aj+1) 1 0 (n+ys.length) false,⟨H.set id (.row (aj+1) 1 ty (af.take n++ys)),lo⟩):=by
 have c:0<1/\ys.all (λel=>el.length==1)=true:=⟨by omega,by grind⟩;unfold dx;rw[afJ c];simp only[h];rw[afJ ⟨trivial,trivial,trivial,trivial,by omega,d⟩,afB (by grind)];simp[AS.set,a]
def aui{H:List ae}{id:Nat}{ty:TypeId}(h:H[id]?=some (.row aj 1 ty af))(a:n<=af.length)(b:n*4<=room):
  dx ⟨H,lo⟩ ty 1 4 (.ref id aj 1 0 n false) []=some (.ref id aj 1 0 n false,⟨H,lo⟩):=by
 unfold dx
 grind
def auj{X Y:Ctx}(a:Ext X Y)(h:X.code f=some pf)(b:X.bU f=none):Y.bU f=none:=by
 rcases a.bU f with e| ⟨_,e⟩
 ·grind
 grind
def auk{X Y:Ctx}(a:Ext X Y)(h:X.code f=some pf):Y.code f=some pf:=by rw[a.code];exact h
theorem xw{X Y:Ctx}(a:Ext X Y){args:lA}{E:AS}{r:aS}(h:D X v args E=some r):D Y v args E=some r:=afw a _ _ _ _ h
def Vq{Y:Ctx}(U:Ext X4 Y)(t:aw)(ht:bN t)(hT:cm t)(h:Nat)(hg:t.ax h=true)(a:Nat):
  uL Y (.fn (.func yF) [] [.ptr (a+1) 0,.ptr a 0]) a [.box (aJ t) none,.box [.int .u32 h] none] (rL t h):=by
 intro S V y I J b hV aiU uE W s hP h0 wC C hG lo;have hh:=gg hg;have o: ∀i,V.dP i->i<b:=λi hi=>(aiU i hi).1
 suffices h: ∃cr,D Y (.fn (.func yF) [] [.ptr (a+1) 0,.ptr a 0]) [y] ⟨W,lo⟩=some cr/\
   (λcr=> ∃O P ak,cr=aS.ret (.au []) ⟨P,ak⟩/\V.P O P/\ (I (rL t h).length O\/J O)/\b<=P.length/\
     (∀i,i<b-> ¬V.dP i-> ¬(a<=i/\i<a+[ae.box (aJ t) none,.box [.int .u32 (h:Nat)] none].length)->P[i]?=W[i]?)/\m0 V.c b lo ak none (V.row O)) cr by
  obtain⟨cr,h1,O,P,ak,rfl,q1,q2,q3,q4,q5⟩:=h;exact⟨O,P,ak,h1,q1,q2,q3,q4,q5⟩
 refine vE SS (auj U rfl rfl) (auk U rfl) rfl λN hN=>?_
 obtain rfl:N=b:=by omega
 have g0:W[a]?=some (.box (aJ t) none):=hG 0 (by simp);have g1:W[a+1]?=some (.box [.int .u32 h] none):=hG 1 (by simp);have ha:=eY g1;have Vh: ¬V.dP a:=λq=>(aiU a q).2 ⟨by omega,by simp⟩
 have hul:=UU hT h;have F: ∀n:Nat,n<=40000000->n*4<=room:=λn hn=>by unfold room;omega
 simp only[go_sem,simprocAttr,SS,hN,g1];refine gS (dv t h).length (λk e P ak=> ∃O st id,I k O/\j6 V N W (λi=>a<=i/\i<a+[ae.box (aJ t) none,.box [.int .u32 (h:Nat)] none].length) O P ak/\P[a]?=some (.box (aJ t) none)/\aug P (e 4) id st/\N<=id/\V.row O≠some id/\
  st.reverse.flatMap (dv t)=(dv t h).drop k/\ (∀x∈st,t.ax x=true)/\e 0=y/\e 1= .ptr (a+1) 0/\e 2= .ptr a 0) 0 (by omega) ?_ ?_
 ·simp only[go_sem,simprocAttr];refine⟨s,[h],N,h0,?_,?_,?_,ahd _,?_,by simp,by simpa using hg⟩
  ·exact j6.push hV o ⟨hP,by omega,λ_ _ _ _=>rfl,.inl ⟨rfl,C⟩,λr e=>by rw[C]at e;cases e⟩ _
  ·exact bc g0
  ·exact⟨0,[],rfl,by rw[di hN];rfl,by simp⟩
  ·rw[C];simp
 rintro k hk e W1 R ⟨s1,st,id,hI,hS,w0,⟨aj,rest,e4,hr,G⟩,hid,aiW,A,ij,e0,e1,e2⟩ n hn;have Vj:N<=n:=by have:=hS.len;omega
 have aDR:=eY hr;have aDS:st.length<=(dv t h).length-k:=by
  have:=o5 (t:=t) st.reverse;rw[A,List.length_reverse,ao2]at this;exact this
 have H: ∀E,fj E .sl (.ref id aj 1 0 st.length false)=some (.int .i64 st.length):=λE=>rfl
 simp(disch:=omega) only[bR,go_sem,simprocAttr,agD,e4,H];refine⟨λhc=>?_,λhc=>?_⟩
 ·obtain⟨d,x,rfl⟩: ∃d x,st=d++[x]:=⟨st.dropLast,st.getLast (by rintro rfl;simp at hc),(List.dropLast_concat_getLast _).symm⟩;have hgx:=ij x (by simp);have hx:=gg hgx;have T: (d++[x]).length=d.length+1:=by simp
  have u: (dv t h).drop k=x:: ((kids t x).flatMap (dv t)++d.reverse.flatMap (dv t)):=by
   rw[<-A,List.reverse_append,apR];show(x:: []).flatMap (dv t)++_=_;rw[ar9,List.flatMap_nil,aiH,US hT x];rfl
  have Vi:k< (dv t h).length:=by
   have:=akG List.length u;rw[ao2,aho]at this;omega
  have wx: (rL t h)[k]?=some [.int .u32 (x:Nat)]:=by
   unfold rL;rw[aiY];have: (dv t h)[k]?=((dv t h).drop k)[0]?:=by rw[anR];rfl
   rw[this,u];rfl
  obtain⟨c,s2,W2,l,p1,p2,p3,p4,p5,p6⟩:=uE k _ s1 wx hI W1 hS.P hS.len R;have L:=hS.step p2 p3 p4 p5;have Vr: ∀i,i<N->V.row s1≠some i:=λi hi q=>by have:=hS.row _ q;omega
  have v0:W2[a]?=some (.box (aJ t) none):=by rw[p3.2 a (by omega) Vh (Vr _ (by omega))];exact w0
  have vr:W2[id]?=some (.row aj 1 bZ ((d++[x]).map hC++rest)):=by rw[p3.2 id (by omega) (λq=>by have:=o _ q;omega) aiW];exact hr
  have o9:Rd ⟨W1,R⟩ (.ref id aj 1 0 (d++[x]).length false) 1 ((d++[x]).map hC):=by
   have:=Gp (lo:=R) (c:=false) (n:=(d++[x]).length) hr (by simp) (λel g=>by
    rcases ahb.1 g with h|h
    ·obtain⟨x,_,rfl⟩:=ahk.1 h;rfl
    ·exact G _ h)
   rwa[apE (by simp)]at this
  have hA:jY 1 (.ref id aj 1 0 (d.length+1) false) (.int .i64 (d.length:Nat))=some (.dq id aj d.length 0):=by
   have:=o9.ck (k:=.i64) (a:=(d.length:Nat));rw[T,afJ (by omega)]at this;rw[this];simp[fu]
  have hL:cg Y ⟨W1,R⟩ false 1 (.dq id aj d.length 0)=some (.int .u32 (x:Nat)):=by
   have:=o9.cD (X:=Y) (j:=d.length) (off:=0) (n:=1) (agg:=false) (by simp);simp only[fu,ans]at this;rw[this,pH];simp
  have Vs: ((d.length:Nat):Int)+1-1=(d.length:Nat):=by omega
  cases c
  ·obtain⟨M,Cq,q1,q2,q3,q4,q5⟩:=L.fin hV o (dy:=lo);simp only[go_sem,simprocAttr,Vs,e0,T,hA,hL,p1,q1];exact⟨s2,M,Cq,rfl,q2,.inr p6,q3,q4,q5⟩
  ·obtain⟨kv,Jk,m,k1,⟨z,v,kid,rfl,Z⟩,k3⟩:=aua t ht x hgx W2.length W2 rfl l;have hkn:=eY Z;have kl:=aie t x;have w:=xw U (s7 (X:=X4) (f:=m6) (p:=rJ) rfl k1);have r1:=xw U<|up atW (auf z v (W2++Jk) (kids t x) (by omega) m Z k3 l);rw[ahh]at w;have aDU:id≠z:=by have:=eY vr;omega
   obtain⟨M,K⟩: ∃M,M=(W2++Jk).set z (.row v 1 bZ ((kids t x).reverse.map hC++m)):=⟨_,rfl⟩;rw[<-K]at r1;have Q:M[id]?=some (.row aj 1 bZ ((d++[x]).map hC++rest)):=by rw[K,aeR (by omega)];exact bc vr
   have v03:M[a]?=some (.box (aJ t) none):=by rw[K,aeR (by have:=eY v0;omega)];exact bc v0
   have g:Den.elems ⟨M,l⟩ 1 (.ref z v 1 0 (kids t x).length false)=some ((kids t x).reverse.map hC):=by
    have h3:M[z]?=some (.row v 1 bZ ((kids t x).reverse.map hC++m)):=by rw[K];exact ahj hkn
    have:=(Gp (lo:=l) (c:=false) (n:=(kids t x).length) h3 (by simp) (λel g=>by
     rcases ahb.1 g with h|h
     ·obtain⟨x,_,rfl⟩:=ahk.1 h;rfl
     ·exact k3 _ h)).eq
    rwa[apE (by simp)]at this
   have hS3:j6 V N W (λi=>a<=i/\i<a+[ae.box (aJ t) none,.box [.int .u32 (h:Nat)] none].length) s2 M l:=by
    rw[K];exact(L.push hV o Jk).set hV (λq=>by have:=o _ q;have:=L.len;omega) (λq=>by have:=hV.IG L.P q;omega) (.inr (by have:=L.len;omega))
   have wk:=aiQ (id:=id) (aj:=aj) (n:=d.length+1) (i:=d.length) (by omega);have B:V.row s2≠some id:=by
    rcases p4 with q| ⟨r,q,hq⟩
    ·rw[q];exact aiW
    ·rw[q];intro e;cases e;omega
   have Vt: ((d++(kids t x).reverse).reverse).flatMap (dv t)=(dv t h).drop (k+1):=by
    have:=akG (List.drop 1) u;rw[arv]at this;rw[this,List.reverse_append,List.reverse_reverse,apR];rfl
   have ai0: ∀y∈d++(kids t x).reverse,t.ax y=true:=λy hy=>by
    rcases ahb.1 hy with h|h
    ·exact ij y (by simp[h])
    ·exact(jm ht.b).1 (Mi (List.mem_reverse.1 h)).2.2
   by_cases hke:kids t x=[]
   ·have sf:=aui (lo:=l) (n:=d.length) Q (by simp) (F _ (by omega));rw[hke]at g w r1 Vt ai0;simp only[apt,List.reverse_nil,azp]at g w r1;simp(disch:=omega) only[go_sem,simprocAttr,Vs,e0,e1,e2,e4,T,hA,hL,p1,v0,w,r1,wk,g,sf];refine⟨Vi,s2,d,id,p6,hS3,v03,⟨aj,[hC x]++rest,rfl,?_,?_⟩,hid,B,by simpa using Vt,λy hy=>ij y (by simp[hy])⟩
    ·rw[Q];simp
    ·intro el g;rcases ahb.1 g with h|h
     ·rw[ahe.1 h];rfl
     ·exact G _ h
   ·have sf:=auh (lo:=l) (n:=d.length) (ys:=(kids t x).reverse.map hC) Q (by simp) (λel g=>by obtain⟨x,_,rfl⟩:=ahk.1 g;rfl) (bD (λ_=>rfl) _) (F _ (by simp;omega)) (by simpa using hke);simp(disch:=omega) only[go_sem,simprocAttr,Vs,e0,e1,e2,e4,T,hA,hL,p1,v0,w,r1,wk,g,sf];refine⟨Vi,s2,d++(kids t x).reverse,id,p6,?_,?_,⟨aj+1,[],?_,?_,λ_ h=>by cases h⟩,hid,B,Vt,ai0⟩
    ·exact hS3.set hV (λq=>by have:=o _ q;omega) B (.inr (by omega))
    ·exact v03
    ·simp
    ·rw[ahj (eY Q)];have e:List.take d.length (List.map hC (d++[x])++rest)=List.map hC d:=by
      rw[ahs,afL,apE (by simp)]
     rw[e,ahs,aiH]
 ·obtain⟨M,Cq,q1,q2,q3,q4,q5⟩:=hS.fin hV o (dy:=lo);have aun:st=[]:=by
   have:st.length=0:=by omega
   exact amK.1 this
  subst aun;have hk2:k=(rL t h).length:=by
   rw[Vp];have:=akG List.length A;rw[ao2]at this;simp at this;omega
  simp only[go_sem,simprocAttr,q1];exact⟨s1,M,Cq,rfl,q2,.inl (hk2 ▸ hI),q3,q4,q5⟩
def aup{X:Ctx}{a:List RV}{R:aS->Prop}{e:Env}{b:lN}{H:List ae}{l:oN}:
  A0 X lo a R .ret ⟨e,p::b⟩ ⟨H,l⟩=match H[p]? with|some .bB=>A0 X lo a R .ret ⟨e,b⟩ ⟨H.set p .dead,l⟩|_=>False:=by
 simp only[A0,dA];cases c:H[p]? with
 |none=>simp
 |some o=>cases o<;>simp[AS.set]
structure ASt where
 l:lN
 row:oN
def ai3(H:List ae)(N a k:Nat):YV ASt:=⟨λs W=>(∀i,i<N-> ¬(a<=i/\i<a+k)->W[i]?=H[i]?)/\SV N 1 bZ W s.row (s.l.map hC),ASt.row,λi=>i<N+1/\ ¬(a<=i/\i<a+k),N⟩
theorem auq{H:List ae}{N k:Nat}(h:a+k<=N): (ai3 H N a k).Ok where
 st:=λs W f ⟨e,b⟩ hs=>by
  refine⟨λi c d=>?_,b.st (hs _ (.inl ⟨awf _,by omega⟩)) λi c=>hs i (.inr c)⟩;rw[hs i (.inl ⟨by omega,d⟩)];grind
 lt:=λs W r ⟨_,b⟩ hr=>b.row hr
def aur(g:AV)(xs:lN)(wx:xs.length<=40000000)(a:Nat)(G:List ae)(D:rZ X4 g=true)(B:uL X4 g a G (xs.map hC))(N:Nat)(H:List ae)(hN:H.length=N)(F:a+G.length<=N)
  (hG: ∀i,i<G.length->H[a+i]?=G[i]?) (lo:oN):
  ∃v W ak,xv [.ai,g] ⟨H,lo⟩=some (.ret v ⟨W,ak⟩)/\aQ N W v 1 bZ (xs.map hC)/\ (∀i,i<N-> ¬(a<=i/\i<a+G.length)->W[i]?=H[i]?)/\N<=W.length/\ (ak=lo\/ ∃j,N<=j/\ak=cA lo j):=by
 suffices hs: ∃n,xv [.ai,g] ⟨H,lo⟩=some n/\ (λn=> ∃v W ak,n=aS.ret v ⟨W,ak⟩/\aQ N W v 1 bZ (xs.map hC)/\ (∀i,i<N-> ¬(a<=i/\i<a+G.length)->W[i]?=H[i]?)/\N<=W.length/\ (ak=lo\/ ∃j,N<=j/\ak=cA lo j)) n by
  obtain⟨n,h1,v,W,ak,rfl,h2⟩:=hs;exact⟨v,W,ak,h1,h2⟩
 refine wB (X:=X4) LD rfl λM J=>?_
 obtain rfl:M=N:=by omega
 have hb:=aiv (H:=H) (lo:=none) (tg:=none) (Rv.ai (sz:=1));simp only[go_sem,simprocAttr,LD,J,hb];obtain⟨k,c⟩: ∃k,k=H++[ae.box [.ai] none]:=⟨_,rfl⟩;rw[<-c];have Y:k.length=M+1:=by rw[c];simp[J]
 have m:SV M 1 bZ k none []:=.inl ⟨rfl,rfl,by rw[c,di J];rfl⟩;generalize d: ((((cZ _).set 2 _).set 4 _).set 6 _)=e;have f:e 2= .ptr M 0:=by rw[<-d];rfl
 have R: (ao.t 6).get e=g:=by rw[<-d];rfl
 clear d;refine ID (ai3 H M a G.length) (auq F) (xs.map hC) a G k ⟨[],none⟩ (by rw[R];exact D) (by rw[R];exact B) (λi b=>?_) (by omega) (λi b=>⟨by have:=b.1;omega,b.2⟩) ⟨λi b p=>?_,m⟩ rfl
  (λj s=>s.l=xs.take j) (λ_ _=>False) rfl (λ_ _ h=>h.elim) ?_ ?_ (λ_ _ _ _ h=>h.elim)
 ·rw[c,aeT (by omega)];exact hG i b
 ·rw[c,aeT (by omega)]
 ·intro j y s T t;rw[aiY,ahg]at T;obtain⟨x,U,rfl⟩:=T;have hj:=(afA.1 U).1;refine⟨rfl,λW Z wC=>?_⟩;simp only[go_sem,simprocAttr,iE,hC];refine⟨[],by simp,λW2 hW2 I=>?_⟩;obtain⟨w,o⟩:=I;have wk:s.l.length<=40000000:=by
   have:s.l=xs.take j:=t;rw[this,ai1];omega
  obtain⟨vv,v',W3,O,Q,a1,a2,a3,a4,a5,a6,a7⟩:=o.append (bytes:=4) (el:=hC x) (by omega) (by omega) rfl rfl (by rw[ahh];unfold room;omega) none;have C:hC x=[.int .u32 (x:Nat)]:=rfl;rw[C]at a2;simp only[go_sem,simprocAttr,agC,f,a1,a2,a3,D0,aiH];have l: ∀i,s.row=some i->M<i:=by
   intro i b;rcases o with⟨q,_⟩| ⟨id,aj,q,_,f,q3,q4⟩
   ·rw[q]at b;cases b
   ·rw[q]at b;cases b;exact f
  refine⟨⟨s.l++[x],Q⟩,⟨λi b p=>?_,?_⟩,⟨by show W2.length<=O.length;omega,λi b hp hr=>?_⟩,.inr ⟨M,ahd _,by omega,rfl,?_⟩,?_⟩
  ·show O[i]?=_;rw[a6 i (by omega) (by omega) (λq=>by have:=l i q;omega)];exact w i b p
  ·show SV M 1 bZ O Q ((s.l++[x]).map hC);rw[ahs];exact a4
  ·have z: ¬(i<M+1/\ ¬(a<=i/\i<a+G.length)):=hp;exact a6 i b (by rintro rfl;exact z ⟨by omega,by omega⟩) hr
  ·rcases a7 with q| ⟨q,u,f⟩
   ·exact .inl q
   ·exact .inr ⟨q,u,by omega⟩
  ·show s.l++[x]=xs.take (j+1);have:s.l=xs.take j:=t;rw[this,aiV,U];rfl
 ·intro P W' ak t Z hl V pt A;obtain⟨w,o⟩:=Z;have K:P.l=xs:=by
   have:P.l=xs.take (xs.map hC).length:=t;rw[this,ahh,ahn]
  obtain⟨v,o1,S,o3,o4,_⟩:=o.own (N:=M) (ahd _) (by intro el E;obtain⟨r,_,rfl⟩:=ahk.1 E;rfl);rw[K]at S;have ho:aQ M (W'.set k.length .dead) v 1 bZ (xs.map hC):=by
   obtain⟨c1,L⟩:=S;refine⟨c1,?_⟩;rcases L with L| ⟨id,aj,d1,d2,d3⟩
   ·exact .inl L
   ·refine .inr ⟨id,aj,d1,d2,?_⟩;rw[aeR];exact d3;rintro rfl;rw[V]at d3;cases d3
  simp only[go_sem,simprocAttr,f,o1,V,aup,sk];refine⟨v,_,_,rfl,ho,λi b p=>?_,by rw[ahq];omega,?_⟩
  ·rw[aeR (by omega)];exact w i b p
  ·rcases A with⟨rfl,_⟩| ⟨j,u,f,rfl⟩
   ·exact .inl rfl
   ·exact .inr ⟨j,u,rfl⟩
def aus(g:AV)(xs:lN)(c:xs.length<=40000000)(a:Nat)(G:List ae)(e:rZ X4 g=true)(d:uL X4 g a G (xs.map hC))(N:Nat)(H:List ae)(r:H.length=N)(f:a+G.length<=N)
  (m: ∀i,i<G.length->H[a+i]?=G[i]?) (lo:oN):
  ∃v W ak,zO [g] ⟨H,lo⟩=some (.ret v ⟨W,ak⟩)/\aQ N W v 1 bZ (xs.map hC)/\ (∀i,i<N-> ¬(a<=i/\i<a+G.length)->W[i]?=H[i]?)/\N<=W.length/\ (ak=lo\/ ∃j,N<=j/\ak=cA lo j):=by
 suffices hs: ∃b,zO [g] ⟨H,lo⟩=some b/\ (λb=> ∃v W ak,b=aS.ret v ⟨W,ak⟩/\aQ N W v 1 bZ (xs.map hC)/\ (∀i,i<N-> ¬(a<=i/\i<a+G.length)->W[i]?=H[i]?)/\N<=W.length/\ (ak=lo\/ ∃j,N<=j/\ak=cA lo j)) b by grind
 refine wB (X:=X5) LC rfl λM l=>?_
 obtain rfl:M=N:=by omega
 obtain⟨v,W,ak,e1,q,e3,o,n⟩:=aur g xs c a G e d M H l f m none;have h:D X5 (.fn (.func qP) [] []) [.ai,g] ⟨H,none⟩=some _:=s7 (p:=xv) rfl e1;simp only[go_sem,simprocAttr,LC,h,sk];refine⟨v,W,_,rfl,q,e3,o,?_⟩;rcases n with rfl| ⟨j,k,rfl⟩
 ·exact .inl rfl
 ·exact .inr ⟨j,k,rfl⟩
def aut(t:aw)(q:bN t)(n:cm t)(h:Nat)(s:h<4294967296)(N:Nat)(H:List ae)(A:H.length=N)(lo:oN):
  ∃v J ak,Cp [.agg (aJ t),.int .u32 h] ⟨H,lo⟩=some (.ret v ⟨H++J,ak⟩)/\aQ N (H++J) v 1 bZ ((under t h).map hC)/\ (ak=lo\/ ∃j,N<=j/\ak=cA lo j):=by
 suffices hs: ∃k,Cp [.agg (aJ t),.int .u32 h] ⟨H,lo⟩=some k/\ (λk=> ∃v J ak,k=aS.ret v ⟨H++J,ak⟩/\aQ N (H++J) v 1 bZ ((under t h).map hC)/\ (ak=lo\/ ∃j,N<=j/\ak=cA lo j)) k by grind
 refine wB (X:=X6) FJ rfl λM e=>?_
 obtain rfl:M=N:=by omega
 have a:=up aiN (eo t.b h s (H++[.box (aJ t) none]) none);have l:Go.Proofs.YteplichagkpciaaGreatDoor.ax t.b h=t.ax h:=rfl;rw[l]at a;cases d:t.ax h with
 |false=>
  rw[d]at a;simp only[go_sem,simprocAttr,FJ,e,a,sk,fV];refine⟨_,_,_,rfl,?_,.inl rfl⟩;unfold under;rw[d];exact aQ.ai
 |true=>
  rw[d]at a;have hu:under t h=dv t h:=by unfold under;rw[afJ d];rfl
  obtain⟨H1,b⟩: ∃H1,H1=H++[ae.box (aJ t) none,.box (aJ t) none,.box [.int .u32 h] none]:=⟨_,rfl⟩;have o:=up aiN (Vo t h (M+1) (H++[.box (aJ t) none]) (by simp[e]) none);have f:H1.length=M+3:=by rw[b];simp[e]
  have m: ∀i,i<2->H1[M+1+i]?=[ae.box (aJ t) none,.box [.int .u32 h] none][i]?:=λi r=>by
   rw[b,ahr (by omega),show M+1+i-H.length=i+1 by omega];rfl
  obtain⟨v,W,ak,y,x,w,B,u⟩:=aus (.fn (.func yF) [] [.ptr (M+1+1) 0,.ptr (M+1) 0]) (dv t h) (by have:=UU n h;omega) (M+1) [.box (aJ t) none,.box [.int .u32 h] none] rfl (Vq ⟨rfl,rfl,rfl,λ_=>.inl rfl⟩ t q n h d (M+1)) (M+3) H1 f (by simp) m none;have g:D X6 (.fn (.func sr) [] []) [.fn (.func yF) [] [.ptr (M+1+1) 0,.ptr (M+1) 0]] ⟨H1,none⟩=some _:=s7 (p:=zO) rfl y;have c:W=H++W.drop M:=by
   have:W.take M=H:=lr e λi r=>by
    rw[w i (by omega) (by omega),b,aeT (by omega)]
   rw[<-this];simp
  rw[b]at g;simp only[afL,alb,aj8]at o;simp only[go_sem,simprocAttr,FJ,e,a,o,g,sk];refine⟨v,W.drop M,_,da rfl c,?_,?_⟩
  ·rw[<-c,hu];exact aQ.le x (by omega)
  ·rcases u with rfl| ⟨j,z,rfl⟩
   ·exact .inl rfl
   ·exact .inr ⟨j,by omega,rfl⟩
def aQ.nH{N:Nat}{H:List ae}{ty:TypeId}(h:aQ N H v sz ty af){cs:lA}{tg:Option TypeId}(b:H[p]?=some (.box cs tg)){o:ae}:aQ N (H.set p o) v sz ty af:=by
 obtain⟨a,c⟩:=h;refine⟨a,?_⟩
 grind
theorem mc{N:Nat}{H:List ae}{ty:TypeId}{g:α->lA}(h:aQ N H v sz ty (l.map g))(lo:oN):Rd ⟨H,lo⟩ v sz (l.map g):=h.rd
def MA(t:aw)(a:bN t)(c:cm t)(h:Nat)(b:h<4294967296)(N:Nat)(H:List ae)(d:H.length=N)(lo:oN):
  ∃v J ak,D X (.fn (.func pC) [] []) [.agg (aJ t),.int .u32 h] ⟨H,lo⟩=some (.ret v ⟨H++J,ak⟩)/\aQ N (H++J) v 1 bZ ((under t h).map hC)/\ (ak=lo\/ ∃j,N<=j/\ak=cA lo j):=by
 obtain⟨v,J,ak,f,e⟩:=aut t a c h b N H d lo;exact⟨v,J,ak,s7 (p:=Cp) rfl f,e⟩
theorem dI.no{N:Nat}:dI N Option.none:=.inl rfl
def dI.of{N:Nat}(h:ak=Option.none\/ ∃j,N<=j/\ak=cA Option.none j):dI N ak:=by trivial
def dI.le{N M:Nat}(h:dI N lo)(a:M<=N):dI M lo:=by
 rcases h with h| ⟨j,q,e⟩
 ·exact .inl h
 ·exact .inr ⟨j,by omega,e⟩
def MC{t:aw}(b:bN t)(a:x∈under t h):t.ax x=true:=by
 unfold under at a;split at a
 ·rename_i c;exact Gi b.b c a
 grind
def Gr{t:aw}(a:cm t)(h:Nat): (under t h).length<=39135393:=by
 unfold under;split
 ·exact UU a h
 ·simp
theorem auu:fP dC:=⟨by trivial,by trivial,by trivial,by simp[dC],by trivial,by trivial⟩
def bN.drop{t:aw}(a:bN t)(h:Nat):bN (ll t h).1:=by
 unfold ll;split
 ·refine⟨Gf a.b h,λi=>?_⟩;show fP (aq t.r (aN h) dC i);by_cases e:i=aN h
  ·rw[e,cT];exact auu
  ·rw[dj e];exact a.r i
 omega
def kr(t:aw)(l:lN):aw:=l.foldl (λt x=>(ll t x).1) t
theorem ai4{t:aw}(a:bN t): ∀l:lN,bN (kr t l)
 | []=>a
 |x::xs=>ai4 (a.drop x) xs
def auv{t:aw}{l:lN}{k:Nat}(h:k<l.length):kr t (l.take (k+1))=(ll (kr t (l.take k)) (l.getD k default)).1:=by
 unfold kr;rw[aiV,ag6 h,ao4,getD_eq h];rfl
theorem iU{N:Nat}{H:List ae}(b:dI N ak)(a:v.refs<=N):finish N lo v ⟨H,ak⟩=(v,⟨H.take N,lo⟩):=uM b ((Fz.low (d:=11) a))
theorem Gs{N:Nat}{H:List ae}{ty:TypeId}(b:dI N ak)(h:aQ N H v sz ty af)(a:b8 af<=N):finish N lo v ⟨H,ak⟩=(bt v af,⟨H.take N,lo⟩):=
 uM b ((Fz.own (d:=8) h a))
theorem ai5{N:Nat}{a b:AV}{H:List ae}{ty:TypeId}(e:dI N ak)(h:aQ N H v sz ty af)(c:b8 af<=N)(g:a.refs<=N)(f:b.refs<=N):
  finish N lo (.au [a,v,b]) ⟨H,ak⟩=(.au [a,bt v af,b],⟨H.take N,lo⟩):=
 uM e (Fz.au (d:=11) (gT.cons ((Fz.low (d:=0) g).mono (by omega)) (gT.cons ((Fz.own (d:=0) h c).mono (by omega)) (gT.cons ((Fz.low (d:=0) f).mono (by omega)) gT.nil))))
def auw(t:aw)(z:bN t)(I:cm t)(h:Nat)(O:h<4294967296)(H:List ae)(lo:oN):
  ∃w,D X (.fn (.func JO) [] []) [.agg (aJ t),.int .u32 h] ⟨H,lo⟩=some (.ret (.au [.agg (aJ (l7 t h).1),w,.int .i64 (l7 t h).2.2]) ⟨H,lo⟩):=by
 suffices hs: ∃l,D X (.fn (.func JO) [] []) [.agg (aJ t),.int .u32 h] ⟨H,lo⟩=some l/\ (λl=> ∃w,l=aS.ret (.au [.agg (aJ (l7 t h).1),w,.int .i64 (l7 t h).2.2]) ⟨H,lo⟩) l by
  obtain⟨l,Q,w,rfl⟩:=hs;exact⟨w,Q⟩
 refine cy L0 λN d=>?_
 obtain⟨v,J,y,s,r,E⟩:=MA t z I h O (N+2) (H++[.box (aJ t) none,.box jD none]) (by simp[d]) none;have M:=Gr I h;have a:=(mc r y).bL;obtain⟨m,b⟩: ∃m,m=H++[ae.box (aJ t) none,.box jD none]++J:=⟨_,rfl⟩;have w0:m[N]?=some (.box (aJ t) none):=by rw[b,afL,di d];rfl
 have w1:m[N+1]?=some (.box jD none):=by rw[b,afL,bA d];rfl
 have c:j8 N H m:=by rw[b,afL];exact j8.app d
 rw[<-b]at s r a;by_cases he:under t h=[]
 ·have e1:l7 t h=(t,[],4):=by unfold l7;rw[afJ he]
  have C: ((under t h).length:Int)=0:=by rw[he];rfl
  rw[e1];simp only[go_sem,simprocAttr,L0,d,s,a,C,w0,w1,cL,cG w1];rw[iU (dI.le (dI.of E) (by omega)) ?_]
  ·exact⟨_,da rfl ((c.set (by omega)).take d)⟩
  ·simp[AV.refs,aG,xh]
 ·have C: ¬((under t h).length:Int)=0:=by
    have:=apP.2 he;omega
  simp only[go_sem,simprocAttr,L0,d,s,a,C];refine gS (under t h).length (λk e q ak=>j8 N H q/\q[N]?=some (.box (aJ (kr t ((under t h).take k))) none)/\q[N+1]?=some (.box jD none)/\aQ (N+2) q v 1 bZ ((under t h).map hC)/\dI (N+2) ak/\
   e 2= .ptr N 0/\e 4= .ptr (N+1) 0/\e 7=v/\e 17=v/\e 18= .int .i64 (under t h).length/\e 19= .int .i64 k) 0 (by omega) ?_ ?_
  ·simp only[go_sem,simprocAttr];exact⟨c,w0,w1,r,dI.of E⟩
  rintro k T e R x ⟨G,p,o,u,F,L,K,e7,j,i,g⟩ n S;have B:=ai4 z ((under t h).take k);simp only[bR,go_sem,simprocAttr,agT,L,j,i,g];refine⟨λP=>?_,λP=>?_⟩
  ·have f:k< (under t h).length:=by omega
   have hr:=mc u x;have A:=λH lo=>up dk<|atv (kr t ((under t h).take k)) B ((under t h).getD k default) (gg (MC z (eX f))) H lo
   simp(disch:=omega) only[go_sem,simprocAttr,hr.ck,hr.cD,↓pH,p,A,U1,L,K,e7,j,i,g,<-auv f];exact⟨by omega,f,G.set (by omega),cG p,o,aQ.nH u p,F⟩
  ·simp only[go_sem,simprocAttr,p,o,K,e7,cL,cG o];obtain rfl:k=(under t h).length:=by omega
   have ho:aQ N (R.set (N+1) (ae.box (aJ (kr t ((under t h).take (under t h).length))) none)) v 1 bZ ((under t h).map hC):=aQ.nH (aQ.le u (by omega)) o;rw[ai5 (dI.le F (by omega)) ho ?_ ?_ ?_]
   ·refine⟨bt v ((under t h).map hC),da ?_ ((G.set (by omega)).take d)⟩;unfold l7;rw[afB he,ahn];rfl
   ·rw[bD (λ_=>rfl)];omega
   ·simp[AV.refs,xh]
   ·simp[AV.refs]
def RB(l:List aE):Prop:=l.length<=100/\ ∀x∈l,x.1<4294967296/\x.2<4294967296
def Vu{l:List aE}{k:Nat}(h:k<l.length):aM (l.take (k+1))=aM (l.take k)+(l.getD k default).2:=by
 unfold aM;rw[aiV,ag6 h,ahs,List.sum_append,ahm,ag6 h];simp
def auy{l:List aE}(h: ∀x∈l,x.2<4294967296):aM l<=l.length*4294967296:=by
 exact UT (λx:aE=>x.2) 4294967296 l λx a=>Nat.le_of_lt (h x a)
def RB.bd{l:List aE}(h:RB l)(k:Nat):aM (l.take k)<=429496729600:=by
 have c:=auy (l:=l.take k) λx a=>(h.2 x (al8 a)).2
 have b: (l.take k).length<=100:=by have:=h.1;grind
 omega
def RB.iF{l:List aE}(h:RB l):aM l<=429496729600:=by
 have:=h.bd l.length;grind
def xx(l:List aE):List lA:=(List.range l.length).map λi=>[.int .i64 (32*aM (l.take i):Nat),.agg (ay (l.getD i default))]
def Gt(l:List aE): (xx l).length=l.length:=by simp[xx]
def Vv{l:List aE}(h:j<l.length): (xx l)[j]?=some [.int .i64 (32*aM (l.take j):Nat),.agg (ay (l.getD j default))]:=by
 unfold xx;grind
def ai6(v:AV)(n:Nat)(b:v.refs=0)(N:Nat)(H:List ae)(c:H.length=N)(lo:oN):D X0 (.fn (.func IU) [] []) [.agg [v,.int .i64 n]] ⟨H,lo⟩=some (.ret (.fn (.func D8) [] [.ptr N 0]) ⟨H++[.box [v,.int .i64 n] none],lo⟩):=by
 refine aF RY λM a=>?_
 obtain rfl:M=N:=by omega
 simp only[go_sem,simprocAttr,RY,a];rw[Cn (by omega)]
def ai7(v:AV)(z:Nat)(l:List aE)(E:Rv v 2 (l.map ay))(H:RB l)(a:Nat):
  uL X0 (.fn (.func D8) [] [.ptr a 0]) a [.box [v,.int .i64 z] none] (xx l):=by
 intro S V y I J b A t F W s hP h0 wC j hG lo;have U9:=H.1;have f: ∀i,V.dP i->i<b:=λi hi=>(t i hi).1
 suffices h: ∃x,D X0 (.fn (.func D8) [] [.ptr a 0]) [y] ⟨W,lo⟩=some x/\
   (λx=> ∃d m ak,x=aS.ret (.au []) ⟨m,ak⟩/\V.P d m/\ (I (xx l).length d\/J d)/\b<=m.length/\
     (∀i,i<b-> ¬V.dP i-> ¬(a<=i/\i<a+[ae.box [v,.int .i64 z] none].length)->m[i]?=W[i]?)/\m0 V.c b lo ak none (V.row d)) x by
  obtain⟨x,h1,d,m,ak,rfl,q1,q2,Z,Y,X⟩:=h;exact⟨d,m,ak,h1,q1,q2,Z,Y,X⟩
 refine vE Sb rfl rfl rfl λN hN=>?_
 obtain rfl:N=b:=by omega
 have u:W[a]?=some (.box [v,.int .i64 z] none):=hG 0 (by simp);simp only[go_sem,simprocAttr,Sb,u,E.bL];refine gS l.length (λk e m ak=> ∃d,I k d/\j6 V N W (λi=>a<=i/\i<a+[ae.box [v,.int .i64 z] none].length) d m ak/\e 0=y/\e 3= .int .i64 (32*aM (l.take k):Nat)/\e 7=v/\e 8= .int .i64 l.length/\e 9= .int .i64 k) 0 (by omega) ?_ ?_
 ·simp only[go_sem,simprocAttr];exact⟨s,h0,⟨hP,by omega,λ_ _ _ _=>rfl,.inl ⟨rfl,j⟩,λr e=>by rw[j]at e;cases e⟩,by simp[aM]⟩
 rintro k hk e W1 C ⟨s1,Q,B,T,e3,e7,e8,R⟩ n P;simp only[bR,go_sem,simprocAttr,agq,e7,e8,R];refine⟨λh=>?_,λh=>?_⟩
 ·have g:k<l.length:=by omega
  have AX:=H.2 _ (eX g);have hpg:=H.bd k;have HF:=Vu g;have hx:=Vv g;generalize G:l.getD k default=r at*;have p:=B.push A f [.box (ay r) none];obtain⟨c,s2,W2,jB,O,p2,M,p4,p5,L⟩:=F k _ s1 hx Q (W1++[.box (ay r) none]) p.P p.len C;have w:=p.step p2 M p4 p5;have Vj:N<=n:=by have:=B.len;omega
  have U:W2[n]?=some (.box (ay r) none):=by
   rw[M.2 n (by simp;omega) (λq=>by have:=f _ q;omega) (λq=>by have:=A.IG B.P q;omega)];rw[<-P];simp
  simp(disch:=omega) only[go_sem,simprocAttr,E.ck,E.cD,h,P,T,e3,G];cases c
  ·obtain⟨K,o,f1,f2,f3,f4,f5⟩:=w.fin A f (dy:=lo);simp only[go_sem,simprocAttr,O,f1];exact⟨s2,K,o,rfl,f2,.inr L,f3,f4,f5⟩
  ·simp(disch:=omega) only[go_sem,simprocAttr,T,e3,e7,e8,R,O,U];exact⟨g,s2,L,w,akG _ (by omega)⟩
 ·obtain⟨K,o,f1,f2,f3,f4,f5⟩:=B.fin A f (dy:=lo);simp only[go_sem,simprocAttr,f1];exact⟨s1,K,o,rfl,f2,.inl (by rw[Gt,show l.length=k by omega];exact Q),f3,f4,f5⟩
theorem MD{r:aE}:aH [AV.int .i64 0,.int .i64 0] 0 (ay r)=ay r:=rfl
def ME(v:AV)(n:Nat)(l:List aE)(w:Rv v 2 (l.map ay))(g:RB l)(H:List ae)(lo:oN):
  D X0 (.fn (.func A4) [] []) [.agg [v,.int .i64 n]] ⟨H,lo⟩=some (.ret (.int .i64 (aM l:Nat)) ⟨H,lo⟩):=by
 refine aF RI λN u=>?_
 have d:v.refs=0:=cO w (bD (λ_=>rfl) l);have F:=ai6 v n d (N+2) (H++[.box [v,.int .i64 n] none,.box [.int .i64 0] none]) (by grind) none;simp only[go_sem,simprocAttr,RI,u,F];refine yC (S:=Nat) (λe=>e 3= .ptr (N+1) 0) (by rfl) (xx l) u [.box [v,.int .i64 n] none] (λm=>[.box [v,.int .i64 n] none,.box [.int .i64 (m:Nat)] none]) (nB:=2) (λ_=>rfl) 0 (λj s=>s=aM (l.take j)) (λ_ _=>False) rfl ?_ (by simp) (by rfl) (λ_ _ h=>h.elim) ?_ ?_ ?_
 ·exact ai7 v n l w g (N+2)
 ·rintro e he j x s c rfl;have k:j<l.length:=by
   have:=(afA.1 c).1;rwa[Gt]at this
  rw[Vv k]at c;cases c;have y:=g.2 _ (eX k);have z:=g.bd j;have f:=Vu k;refine⟨rfl,λW I C A q=>?_⟩;simp only[go_sem,simprocAttr,iE,C,MD];refine⟨[.box (ay (l.getD j default)) none],rfl,λG t b=>?_⟩;simp only[gF,gE,aq8,ahu]at b;obtain⟨w0,w1⟩:=b;have f1: ∀L,(G++L)[N+1]?=some (.box [.int .i64 (aM (l.take j):Nat)] none):=λL=>bc w1
  simp(disch:=omega) only[go_sem,simprocAttr,age,he,f1,t,sq];refine⟨aM (l.take (j+1)),?_,by omega,λi K B=>?_,rfl⟩
  ·simp only[gF,gE,aq8,ahu];refine⟨by rw[aeR (by omega)];exact bc w0,?_⟩;rw[ahj (by simp;omega),f,apM]
  ·rw[aeR (by omega),aeT (by omega)]
 ·rintro e he s W p J rfl a q E;simp only[gF,gE,aq8,ahu]at q;obtain⟨w0,w1⟩:=q;have r: ∀o,(W.set p o).take N=H:=λo=>(a.set (by omega)).take u
  simp only[F1,go_sem,simprocAttr,he,w1,E,nE,r];rw[Gt,ahn]
 grind
def iC(n:Nat):lA:=[.int .i64 n]
theorem pI:Den.part false 1 (iC n) 0=some (.int .i64 n):=rfl
def auA(v:AV)(l:lN)(b:Rv v 1 (l.map iC))(q:l.length<2^40)(x:Nat)(H:List ae)(lo:oN):
  D X0 (.fn (.func Rx) [] []) [v,.int .i64 x] ⟨H,lo⟩=some (.ret (.int .i64 (fR (λy=>decide (x=y)) l)) ⟨H,lo⟩):=by
 refine aF TY λN t=>?_
 simp only[go_sem,simprocAttr,TY,b.bL];refine dV l.length (λk e H'=>H'=H/\e 0=v/\e 1= .int .i64 x/\e 7= .int .i64 l.length/\e 8= .int .i64 k/\ ∀j,j<k->decide (x=l.getD j default)=false) 0 (by omega) ?_ ?_
 ·simp only[go_sem,simprocAttr];omega
 ·rintro k r e H' ⟨rfl,o,m,i,g,f⟩ n p;simp(disch:=omega) only[bR,F1,go_sem,simprocAttr,ag1,o,m,i,g];refine⟨λh=>?_,λh=>?_⟩
  ·have c:k<l.length:=by omega
   by_cases d:x=l.getD k default
   ·have a: ((x:Nat):Int)=((l.getD k default:Nat):Int):=by rw[<-d]
    simp(disch:=omega) only[F1,go_sem,simprocAttr,b.ck,b.cD,↓pI,a];rw[vC c f (ag9 d)];exact⟨by omega,rfl⟩
   ·have a: ¬((x:Nat):Int)=((l.getD k default:Nat):Int):=by omega
    simp(disch:=omega) only[go_sem,simprocAttr,b.ck,b.cD,↓pI,a,o,m,i,g];exact⟨by omega,c,mO f (ag7 d)⟩
  ·rw[vD (λj s=>f j (by omega))]
def auB(v:AV)(l:lN)(a:Rv v 1 (l.map iC))(b:l.length<2^40)(x:Nat)(H:List ae)(lo:oN):
  D X0 (.fn (.func Rs) [] []) [v,.int .i64 x] ⟨H,lo⟩=some (.ret (.bool (l.contains x)) ⟨H,lo⟩):=by
 refine aF TS λN c=>?_
 simp only[F1,go_sem,simprocAttr,TS,auA v l a b x,xu]
 grind
def ai8(a b:Nat)(h:a<2147483648)(g:b<2147483648)(H:List ae)(lo:oN):
  D X0 (.fn (.func JN) [] []) [.int .i64 a,.int .i64 b] ⟨H,lo⟩=some (.ret (.bool (isObj a b)) ⟨H,lo⟩):=by
 refine aF F0 λN f=>?_
 have e:=auB (.sl [[.int .i64 1],[.int .i64 2],[.int .i64 4],[.int .i64 8]] true) [1,2,4,8] (.sl (by simp)) (by simp) b H none;by_cases c: (a:Int)>=1
 ·by_cases d: (a:Int)<=128
  ·simp only[F1,go_sem,simprocAttr,F0,c,d,e];unfold isObj
   grind
  ·simp(disch:=omega) only[F1,go_sem,simprocAttr,F0,c,d];refine da (akG AV.bool ?_) rfl;unfold isObj;rw[ag7 (by omega: ¬a<=128)];simp
 ·simp(disch:=omega) only[F1,go_sem,simprocAttr,F0,c];refine da (akG AV.bool ?_) rfl;unfold isObj;rw[ag7 (by omega: ¬1<=a)];simp
theorem Gu: ∀ (l:List aE) (x:aE) (put:Bool) (out a:List aE),x.1+x.2<=64->(∀y∈l,y.1+y.2<=64)->(∀y∈out,y.1+y.2<=64)->gY x put out l=some a->
  (∀y∈a,y.1+y.2<=64)/\a.length<=out.length+l.length+(if put then 0 else 1)
 | [],x,put,out,a,e,_,ho,h=>by
   unfold gY at h
   grind
 |y::ys,x,put,out,a,e,g,ho,h=>by
  have i:=g y (amM ..);have b: ∀z∈ys,z.1+z.2<=64:=λz d=>g z (aiF _ d)
  unfold gY at h;split at h
  ·obtain⟨c,f⟩:=Gu ys x put _ a e b (λz d=>by grind) h
   grind
  ·split at h
   ·obtain⟨c,f⟩:=Gu ys x true _ a e b (λz d=>by
      rcases ahb.1 d with h|h
      ·rcases ahb.1 h with h|h
       ·exact ho z h
       ·cases put
        ·simp only[ahf,amJ]at h;rw[ahe.1 h];exact e
        ·simp at h
      ·rw[ahe.1 h];exact i) h
    refine⟨c,?_⟩;cases put<;>simp only[ahc,aho,apt,aiZ,amJ,ahf]at f⊢ <;>omega
   ·split at h
    ·obtain⟨c,f⟩:=Gu ys _ put out a (by simp;omega) b ho h;exact⟨c,by simp only[aho];omega⟩
    ·split at h
     ·obtain⟨c,f⟩:=Gu ys _ put out a (by simp;omega) b ho h;exact⟨c,by simp only[aho];omega⟩
     ·cases h
def auC{x:aE}(h:lk x=true):1<=x.2/\x.1+x.2<=64:=by
 unfold lk at h;grind
def auD{l a:List aE}{x:aE}(b: ∀y∈l,y.1+y.2<=64)(h:ir l x=some a): (∀y∈a,y.1+y.2<=64)/\a.length<=l.length+1:=by
 unfold ir at h;split at h
 ·rename_i hm;have:=Gu l x false [] a (auC hm).2 b (by simp) h
  grind
 grind
theorem MF: ∀ (a b all:List aE),mI all (a++b)=(mI all a).bind λm=>mI m b
 | [],b,all=>rfl
 |x::a,b,all=>by
  simp only[alb,mI];cases ir all x with
  |none=>rfl
  |some m=>exact MF a b m
def auE{l:List aE}{k:Nat}(h:k<l.length)(a:List aE):mI a (l.take (k+1))=(mI a (l.take k)).bind λm=>ir m (l.getD k default):=by
 rw[aiV,ag6 h,MF,ahm,ag6 h];simp only[Option.toList_some,mI,anc]
 grind
def auF{l:List aE}{k:Nat}{a:List aE}(h:mI a (l.take k)=none):mI a l=none:=by grind [List.take_append_drop,MF]
def ai9(v:AV)(n:Nat)(l:List aE)(w:n<4294967296)(g:Rv v 2 (l.map ay))(s:RB l)(C:l.length<=65)(H:List ae)(lo:oN):
  D X0 (.fn (.func Ji) [] []) [.agg [v,.int .i64 n]] ⟨H,lo⟩=some (.ret (.bool (pZ l n)) ⟨H,lo⟩):=by
 refine aF SY λN E=>?_
 have r:=ME v n l g s;have B:=s.iF;simp only[go_sem,simprocAttr,SY,E,g.bL];refine dV l.length (λk e H'=> ∃J A,H'=cat H (.box [v,.int .i64 n] none:: .box [eg A] none::J)/\mI [] (l.take k)=some A/\A.length<=k/\ (∀x∈A,x.1+x.2<=64)/\e 1= .ptr N 0/\e 3= .ptr (N+1) 0/\e 9=v/\e 10= .int .i64 l.length/\e 11= .int .i64 k) 0 (by omega) ?_ ?_
 ·simp only[go_sem,simprocAttr];exact⟨[],[],dQ.symm,by simp[mI],by simp,by simp⟩
 rintro k I e H' ⟨J,A,rfl,t,F,o,e1,e3,y,q,p⟩ z w;have d: ∀a b,(cat H (a::b::J)).length=z:=λ_ _=>by rw[<-w,F9,F9];rfl
 simp(disch:=omega) only[bR,go_sem,simprocAttr,agH,e1,y,q,p];refine⟨λh=>?_,λh=>?_⟩
 ·have f:k<l.length:=by omega
  have i:=s.2 _ (eX f);have j:=aiE (eg A) A (ng A) ⟨by omega,o⟩ (l.getD k default) i.1 i.2;have c:=auE f [];rw[t]at c;simp only[arn]at c;cases m:ir A (l.getD k default)with
  |none=>
   rw[m]at c;have u:pZ l n=false:=by unfold pZ;rw[auF c];rfl
   simp(disch:=first|omega|apply d) only[F1,go_sem,simprocAttr,g.ck,g.cD,h,d,e3,MD,j,qe,m,u,Uz]
  |some A'=>
   rw[m]at c;obtain⟨G,K⟩:=auD o m;simp(disch:=first|omega|apply d) only[go_sem,simprocAttr,g.ck,g.cD,h,d,e1,e3,y,q,p,MD,j,qe,m,Uz];exact⟨f,_,A',Ut,c,by omega,G⟩
 ·obtain rfl:k=l.length:=by omega
  rw[ahn]at t;have u:pZ l n=decide (n<=aM l*32):=by unfold pZ;rw[t];rfl
  simp(disch:=first|omega|apply d) only[F1,go_sem,simprocAttr,r];rw[u];exact da (akG AV.bool (aht.2 (by omega))) rfl
def auG(a k:Nat)(e:a<4611686018427387904)(g:k<=3): (BitVec.ofInt 64 (a:Int)&&& ~~~ (BitVec.ofInt 64 ((2^k:Nat)-1:Int))).toNat=a/2^k*2^k:=by
 have e1:BitVec.ofInt 64 (a:Int)=BitVec.ofNat 64 a:=by simp
 have f:BitVec.ofInt 64 ((2^k:Nat)-1:Int)=BitVec.ofNat 64 (2^k-1):=by
  have: ((2^k:Nat)-1:Int)=((2^k-1:Nat):Int):=by
   have:=Nat.pow_pos (n:=k) (show 0<2 by omega);omega
  rw[this];simp
 rw[e1,f];apply Nat.eq_of_testBit_eq;intro i;rw[<-Nat.shiftLeft_eq,Nat.testBit_shiftLeft,Nat.testBit_div_two_pow,BitVec.testBit_toNat,BitVec.getLsbD_and,BitVec.getLsbD_not,BitVec.getLsbD_ofNat,BitVec.getLsbD_ofNat,Nat.testBit_two_pow_sub_one];by_cases b:i<64
 ·by_cases c:i<k
  ·simp[b,c];intro d;omega
  ·simp[b,c,show k<=i by omega,show i-k+k=i by omega]
 ·have:a.testBit i=false:=Nat.testBit_lt_two_pow (amE e (by
    have: (4611686018427387904:Nat)=2^62:=by decide
    rw[this];exact Nat.pow_le_pow_right (by omega) (by omega)))
  by_cases c:k<=i
  ·simp[b,c,show i-k+k=i by omega,this]
  ·simp[b,c]
def auH(f:a<4611686018427387904)(h: [1,2,4,8].contains b=true):dh .andNot (.int .i64 (a:Nat)) (.int .i64 ((b:Nat)-1))=some (.int .i64 (a/b*b:Nat)):=by
 have c: ∀k,k<=3->b=2^k->dh .andNot (.int .i64 (a:Nat)) (.int .i64 ((b:Nat)-1))=some (.int .i64 (a/b*b:Nat)):=by
  intro k d e;subst e;rw[Pl];have e3:=auG a k f d;have g: (BitVec.ofInt IntKind.i64.bits (a:Int)&&& ~~~ (BitVec.ofInt IntKind.i64.bits ((2^k:Nat)-1:Int))).toNat=a/2^k*2^k:=e3;rw[g];have i:a/2^k*2^k<=a:=Nat.div_mul_le_self a _;rw[wrap_i64 (by omega) (by omega)]
 have:b=1\/b=2\/b=4\/b=8:=by grind
 rcases this with e|e|e|e
 ·exact c 0 (by omega) e
 ·exact c 1 (by omega) e
 ·exact c 2 (by omega) e
 ·exact c 3 (by omega) e
def auI(h:isObj b a=true):1<=b/\b<=128/\ [1,2,4,8].contains a=true/\1<=a/\a<=8:=by
 unfold isObj at h
 grind
def xy(l:List aE)(n b a:Nat):AV:=.au [.int .i64 ((gM l n b a).getD 0:Nat),.bool (gM l n b a).isSome]
def aja(v:AV)(n:Nat)(l:List aE)(y:n<4294967296)(o:Rv v 2 (l.map ay))(j:RB l)(c b:Nat)(s:c<2147483648)(r:b<2147483648)(H:List ae)(lo:oN):
  D X0 (.fn (.func JG) [] []) [.agg [v,.int .i64 n],.int .i64 c,.int .i64 b] ⟨H,lo⟩=some (.ret (xy l n c b) ⟨H,lo⟩):=by
 refine aF FU λN i=>?_
 have h:=ME v n l o j;have p:=j.iF;have ho:=ai8 c b s r;cases d:isObj c b with
 |false=>
  have e:gM l n c b=none:=by unfold gM;rw[d];rfl
  simp only[F1,go_sem,simprocAttr,FU,i,ho,d,xy,e]
 |true=>
  obtain⟨x,w,m,u,t⟩:=auI d;have g:D X0 (.fn (.func Rk) [] [.ptr (N+1) 0]) [.int .i64 n] ⟨H++[.box [v,.int .i64 n] none,.box [.int .i64 b] none],none⟩=some (.ret (.int .i64 ((n+b-1)/b*b:Nat)) ⟨H++[.box [v,.int .i64 n] none,.box [.int .i64 b] none],none⟩):=by
   refine eP Ty λM A=>?_
   have e1: (n:Int)+b-1=((n+b-1:Nat):Int):=by omega
   simp(disch:=omega) only[F1,go_sem,simprocAttr,Ty,e1,auH (a:=n+b-1) (by omega) m]
  have z: (n+b-1)/b*b<=n+b-1:=Nat.div_mul_le_self _ _;have e:gM l n c b=if(n+b-1)/b*b+c<=aM l*32 then some ((n+b-1)/b*b)else none:=by unfold gM;rw[d];rfl
  generalize q: (n+b-1)/b*b=at' at*;by_cases k:at'+c<=aM l*32
  ·have f: ¬(at':Int)+c>aM l*32:=by omega
   rw[afJ k]at e;simp(disch:=omega) only[F1,go_sem,simprocAttr,FU,i,ho,d,g,h,f,xy,e]
  ·have f: (at':Int)+c>aM l*32:=by omega
   rw[afB k]at e;simp(disch:=omega) only[F1,go_sem,simprocAttr,FU,i,ho,d,g,h,f,xy,e]
def vG(l:List aE)(n b c:Nat):Nat:=match gM l n b c with|some a=>a+b|none=>n
def ajb(v:AV)(n:Nat)(l:List aE)(k:n<4294967296)(f:Rv v 2 (l.map ay))(g:RB l)(c b:Nat)(o:c<2147483648)(m:b<2147483648)(H:List ae)(lo:oN):
  D X0 (.fn (.func Q5) [] []) [.agg [v,.int .i64 n],.int .i64 c,.int .i64 b] ⟨H,lo⟩=some (.ret (.au [.agg [v,.int .i64 (vG l n c b:Nat)],.int .i64 ((gM l n c b).getD 0:Nat),.bool (gM l n c b).isSome]) ⟨H,lo⟩):=by
 refine aF LP λN i=>?_
 have h:=aja v n l k f g c b o m;have d:v.refs=0:=cO f (bD (λ_=>rfl) l);have j:=g.iF;cases e:gM l n c b with
 |none=>simp only[F1,go_sem,simprocAttr,LP,i,h,xy,e,vG,d]
 |some a=>
  have p:a<=20000000000000:=by
   unfold gM at e
   grind
  simp(disch:=omega) only[F1,go_sem,simprocAttr,LP,i,h,xy,e,vG,d,apM]
def auJ(a b:Nat)(f:a<2147483648)(d:b<2147483648)(H:List ae)(lo:oN):
  D X0 (.fn (.func Q3) [] []) [.int .i64 a,.int .i64 b] ⟨H,lo⟩=some (.ret (.au [.int .i64 ((qa a b).getD 0:Nat),.bool (qa a b).isSome]) ⟨H,lo⟩):=by
 refine aF LO λN g=>?_
 have ho:=ai8 a b f d;cases c:isObj a b with
 |false=>
  have e:qa a b=none:=by unfold qa;grind
  simp(disch:=omega) only[F1,go_sem,simprocAttr,LO,ho,c,e]
 |true=>
  have e:qa a b=some ((a+31)/32):=by unfold qa;grind
  have e1: ((a:Int)+32-1).tdiv 32=(((a+31)/32:Nat):Int):=by
   rw[Int.tdiv_eq_ediv_of_nonneg (by omega)];omega
  simp(disch:=omega) only[F1,go_sem,simprocAttr,LO,ho,c,e,e1]
def auK{H:List ae}{bytes:Nat}{ty:TypeId}{ys:List lA}(a:0<sz)(d: ∀el∈ys,el.length=sz)(b:ys≠[])(c:ys.length*bytes<=room):
  dx ⟨H,lo⟩ ty sz bytes .ai ys=some (.ref H.length 0 sz 0 ys.length false,⟨H++[.row 0 sz ty ys],lo⟩):=by
 unfold dx;rw[afJ ⟨a,by grind⟩];rw[afB (by grind),afJ c];rfl
def auL{H:List ae}{bytes:Nat}{ty:TypeId}{ys:List lA}(a:0<sz)(e: ∀el∈af,el.length=sz)(d: ∀el∈ys,el.length=sz)(b:ys≠[])(c: (af.length+ys.length)*bytes<=room):
  dx ⟨H,lo⟩ ty sz bytes (.sl af true) ys=some (.ref H.length 0 sz 0 (af.length+ys.length) false,⟨H++[.row 0 sz ty (af++ys)],lo⟩):=by
 unfold dx;rw[afJ ⟨a,by grind⟩];simp only;rw[afB (by grind),afJ ⟨c,by grind⟩];rfl
def Cr(v:AV):AV:=match v with
 |.sl af _=>.sl af true
 |v=>v
def auM(v:AV)(l:List aE)(d:Rv v 2 (l.map ay))(H:List ae)(lo:oN):
  D X0 (.fn (.func Rl) [] []) [v] ⟨H,lo⟩=some (.ret (Cr v) ⟨H,lo⟩):=by
 refine aF LZ λN f=>?_
 obtain⟨e,a,h⟩:=d ⟨[],none⟩;have hr:=bD (g:=ay) (λ_=>rfl) l;cases v<;>simp only[]at e
 ·have b:fX 2 .ai none (some (.int .i64 0)) (some (.int .i64 0))=some .ai:=by rfl
  simp(disch:=omega) only[F1,go_sem,simprocAttr,LZ,b,Cr]
 ·rename_i af c;simp only[Den.elems]at a;split at a
  ·cases a;have hs:fX 2 (.sl (l.map ay) c) none (some (.int .i64 (l.length:Nat))) (some (.int .i64 (l.length:Nat)))=some (.sl (l.map ay) true):=by
    simp[fX,fW,lK,lL,ay];exact ag8 (by simp)
   simp(disch:=omega) only[F1,go_sem,simprocAttr,LZ,hs,ahh,hr,aha,Cr]
  grind
 ·simp[Den.elems]at a
def auN(v:AV)(n:Nat)(l:List aE)(k:Rv v 2 (l.map ay))(s:RB l)(r:aE)(H:List ae)(lo:oN):
  D X0 (.fn (.func Q4) [] []) [.agg [v,.int .i64 n],.agg (ay r)] ⟨H,lo⟩=some (.ret (.agg [eg (l++[r]),.int .i64 (aM l*32:Nat)]) ⟨H,lo⟩):=by
 refine aF Tk λN m=>?_
 have p:=ME v n l k s;have w:=s.iF;have y:=s.1;have u:v.refs=0:=cO k (bD (λ_=>rfl) l);have z:=auM v l k;obtain⟨id,j⟩: ∃id,(H++[ae.box [v,.int .i64 n] none,.box (ay r) none,.box [.ai,.int .i64 0] none]).length=id:=⟨_,rfl⟩;have t: ∀lo,dx ⟨H++[ae.box [v,.int .i64 n] none,.box (ay r) none,.box [.ai,.int .i64 0] none],lo⟩ fg 2 16 (Cr v) [ay r]=some (.ref id 0 2 0 (l.length+1) false,⟨H++[ae.box [v,.int .i64 n] none,.box (ay r) none,.box [.ai,.int .i64 0] none]++[.row 0 2 fg (l.map ay++[ay r])],lo⟩):=by
  intro lo;obtain⟨A,b,B⟩:=k ⟨[],none⟩;rw[<-j];cases v<;>simp only[]at A
  ·simp only[Den.elems]at b;have:l=[]:=by
    have:=(amP b).symm;exact arX.1 this
   subst this;rw[show Cr .ai= .ai from rfl,auK (by omega) (λel a=>by rw[ahe.1 a];rfl) (by simp) (by simp[room])];rfl
  ·simp only[Den.elems]at b;split at b
   ·cases b;rw[show ∀c,Cr (.sl (l.map ay) c)= .sl (l.map ay) true fromλ_=>rfl,auL (by omega) (λel a=>by obtain⟨x,_,rfl⟩:=ahk.1 a;rfl) (λel a=>by rw[ahe.1 a];rfl) (by simp) (by simp[room];omega)];simp
   ·cases b
  ·simp[Den.elems]at b
 have i:id=N+3:=by rw[<-j];simp[m]
 subst i;simp(disch:=omega) only[go_sem,simprocAttr,Tk,m,z,t,p];have q:dI N (if N+1<=N then none else cA none (N+2)):=by rw[afB (by omega)];exact .inr ⟨N+2,by omega,rfl⟩
 have f:aQ N (H++[ae.box [v,AV.int IntKind.i64 ↑n] none,ae.box (ay r) none,ae.box [AV.ref (N+3) 0 2 0 (l.length+1) false,AV.int IntKind.i64 (↑(aM l)*32)] none,ae.row 0 2 fg (List.map ay l++[ay r])]) (.ref (N+3) 0 2 0 (l.length+1) false) 2 fg (l.map ay++[ay r]):=by
  refine⟨λel a=>?_,.inr ⟨N+3,0,by omega,by simp,?_⟩⟩
  ·rcases ahb.1 a with h|h
   ·obtain⟨x,_,rfl⟩:=ahk.1 h;rfl
   ·rw[ahe.1 h];rfl
  ·rw[bA m];rfl
 have o:b8 (l.map ay++[ay r])=0:=by
  have:=bD (g:=ay) (λ_=>rfl) (l++[r]);rwa[ahs]at this
 rw[uM q (Fz.agg (d:=11) (gT.cons (Fz.mono (Fz.own (d:=0) f (by rw[o];omega)) (by omega)) (gT.cons (Fz.mono (Fz.low (d:=0) (v:=.int .i64 (↑(aM l)*32)) (by simp[AV.refs])) (by omega)) gT.nil)))];refine da ?_ (mr m);have e:eg (l++[r])= .sl (l.map ay++[ay r]) false:=by
  unfold eg;have: (l++[r]).isEmpty=false:=by cases l<;>rfl
  rw[this];simp
 rw[e,Int.natCast_mul];rfl
def MG(l:List aE)(x:Nat):AV:=.au [.int .i64 ((ko l 0 x).getD 0:Nat),.bool (ko l 0 x).isSome]
theorem ajc(r:aE)(l:List aE)(b x:Nat):ko (r::l) b x=if b<=x/\x<b+r.2*32 then some (r.1*32+x-b)else ko l (b+r.2*32) x:=rfl
def auO(v:AV)(n:Nat)(l:List aE)(T:Rv v 2 (l.map ay))(M:RB l)(x:Nat)(hx:x<1099511627776)(H:List ae)(lo:oN):
  D X0 (.fn (.func QQ) [] []) [.agg [v,.int .i64 n],.int .i64 x] ⟨H,lo⟩=some (.ret (MG l x) ⟨H,lo⟩):=by
 refine aF SH λN F=>?_
 have K:v.refs=0:=cO T (bD (λ_=>rfl) l);have ha:=ai6 v n K (N+4) (H++[.box [v,.int .i64 n] none,.box [.int .i64 x] none,.box [.int .i64 0] none,.box [.bool false] none]) (by simp[F]) none;simp only[go_sem,simprocAttr,SH,F,ha];refine yC (S:=Nat×Bool) (λe=>e 3= .ptr (N+1) 0/\e 4= .ptr (N+2) 0/\e 5= .ptr (N+3) 0) (by simp only[go_sem,simprocAttr]) (xx l) F [.box [v,.int .i64 n] none] (λs=>[.box [v,.int .i64 n] none,.box [.int .i64 x] none,.box [.int .i64 (s.1:Nat)] none,.box [.bool s.2] none]) (nB:=4) (λ_=>rfl) (0,false)
  (λj s=>s=(0,false)/\ko l 0 x=ko (l.drop j) (32*aM (l.take j)) x) (λex s=>ex= .ret/\ko l 0 x=some s.1/\s.2=true) rfl ?_ (by simp) ⟨rfl,by simp[aM]⟩ (λex s h=>?_) ?_ ?_ ?_
 ·exact ai7 v n l T M (N+4)
 ·exact⟨.ret,by rw[h.1];rfl,by rw[h.1];rfl,by rw[h.1];rfl⟩
 ·rintro e ⟨e3,I,G⟩ j y s J ⟨rfl,d⟩;have C:j<l.length:=by
   have:=(afA.1 J).1;rwa[Gt]at this
  rw[Vv C]at J;cases J;have Z:=M.2 _ (eX C);have hpg:=M.bd j;have A:=Vu C;have m:l.drop j=l.getD j default::l.drop (j+1):=by
   rw[apL C,ahm,ag6 C];rfl
  rw[m,ajc]at d;generalize hrg:l.getD j default=r at*;refine⟨rfl,λW n' hn hnl w=>?_⟩;simp only[go_sem,simprocAttr,iE,hn,MD];refine⟨[.box (ay r) none],rfl,λR q E=>?_⟩;simp only[gF,gE,aq8,ahu,Nat.reduceAdd]at E;obtain⟨w0,w1,k,u⟩:=E;have f1: ∀L,(R++L)[N+1]?=some (.box [.int .i64 x] none):=λL=>bc w1
  have f2: ∀L,(R++L)[N+2]?=some (.box [.int .i64 (0:Nat)] none):=λL=>bc k
  have f3: ∀L,(R++L)[N+3]?=some (.box [.bool false] none):=λL=>bc u
  by_cases X:32*aM (l.take j)<=x
  ·have g: (x:Int)>=((32*aM (l.take j):Nat):Int):=by omega
   by_cases V:x<32*aM (l.take j)+r.2*32
   ·have t: (x:Int)< ((32*aM (l.take j):Nat):Int)+r.2*32:=by omega
    rw[afJ ⟨X,V⟩]at d;have z: (r.1:Int)*32+x- ((32*aM (l.take j):Nat):Int)=((r.1*32+x-32*aM (l.take j):Nat):Int):=by omega
    simp(disch:=omega) only[go_sem,simprocAttr,LA,e3,I,G,f1,f2,f3,q,g,t,z,asj];refine⟨(r.1*32+x-32*aM (l.take j),true),?_,by omega,λi U B=>?_,d,rfl⟩
    ·simp only[gF,gE,aq8,ahu,Nat.reduceAdd];refine⟨?_,?_,?_,?_⟩
     ·rw[aeR (by omega),aeR (by omega)];exact bc w0
     ·rw[aeR (by omega),aeR (by omega)];exact f1 _
     ·rw[aeR (by omega),ahj (by simp;omega)]
     ·rw[ahj (by simp;omega)]
    ·rw[aeR (by omega),aeR (by omega),aeT (by omega)]
   ·have t: ¬(x:Int)< ((32*aM (l.take j):Nat):Int)+r.2*32:=by omega
    rw[afB (λh=>V h.2)]at d;simp(disch:=omega) only[go_sem,simprocAttr,LA,e3,f1,q,g,t,sq];refine⟨(0,false),?_,by omega,λi U B=>aeT (by omega),rfl,?_⟩
    ·simp only[gF,gE,aq8,ahu,Nat.reduceAdd];exact⟨bc w0,f1 _,f2 _,f3 _⟩
    ·rw[d,A,Nat.mul_add,Nat.mul_comm 32 r.2]
  ·have g: ¬(x:Int)>=((32*aM (l.take j):Nat):Int):=by omega
   rw[afB (λh=>X h.1)]at d;simp only[go_sem,simprocAttr,LA,e3,f1,q,g,sq];refine⟨(0,false),?_,by omega,λi U B=>aeT (by omega),rfl,?_⟩
   ·simp only[gF,gE,aq8,ahu,Nat.reduceAdd];exact⟨bc w0,f1 _,f2 _,f3 _⟩
   ·rw[d,A,Nat.mul_add,Nat.mul_comm 32 r.2]
 ·rintro e ⟨e3,I,G⟩ s W p hp ⟨rfl,d⟩ f w Q;simp only[gF,gE,aq8,ahu,Nat.reduceAdd]at w;obtain⟨w0,w1,k,u⟩:=w;rw[Gt,List.drop_length]at d;have e0:ko l 0 x=none:=d;have O: ∀a b c,(((W.set (N+2) a).set (N+3) b).set p c).take N=H:=λa b c=>(((f.set (by omega)).set (by omega)).set (by omega)).take F
  have s2:=cG (o:=.box [.int .i64 0] none) k;have Y: ∀a b,((W.set (N+2) a).set (N+3) b)[N+3]?=some b:=λa b=>ahj (by rw[ahq];exact eY u)
  have s2: ∀a b,((W.set (N+2) a).set (N+3) b)[N+2]?=some a:=λa b=>by rw[aeR (by omega)];exact cG k
  simp(disch:=omega) only[F1,go_sem,simprocAttr,I,G,k,u,Q,nE,O,s2,Y,MG,e0]
 ·rintro e ⟨e3,I,G⟩ ex s W p hp ⟨rfl,d,hs⟩ f w Q;simp only[gF,gE,aq8,ahu,Nat.reduceAdd]at w;obtain⟨w0,w1,k,u⟩:=w;have P: ∀o,(W.set p o).take N=H:=λo=>(f.set (by omega)).take F
  simp(disch:=omega) only[F1,go_sem,simprocAttr,I,G,k,u,Q,nE,P];refine da ?_ rfl;unfold MG;rw[d,hs];rfl
def Vw(t:aw)(O:bN t)(U:cm t)(a b:Nat)(T:a<4294967296)(K:b<4294967296)(H:List ae)(lo:oN):
  D X0 (.fn (.func Ey) [] []) [.agg (aJ t),.int .u32 a,.int .u32 b] ⟨H,lo⟩=some (.ret (.bool (kn t a b)) ⟨H,lo⟩):=by
 refine aF F2 λN q=>?_
 have B: ∀h,ax t.b h=t.ax h:=λh=>rfl
 have f:=eo t.b a T;have g:=eo t.b b K;simp only[B]at f g;cases y:t.ax a
 ·rw[y]at f;simp only[F1,go_sem,simprocAttr,F2,q,f,kn,y,akI]
 ·rw[y]at f;cases A:t.ax b
  ·rw[A]at g;simp only[F1,go_sem,simprocAttr,F2,q,f,g,kn,y,A,akI,atO]
  ·rw[A]at g;have G:=Vf t b (N+3) (H++[.box (aJ t) none,.box [.int .u32 a] none,.box [.bool (decide ((a:Int)=b))] none]) (by simp[q]) none;simp only[go_sem,simprocAttr,F2,q,f,g,G];have F:decide ((a:Int)=(b:Int))=decide (a=b):=aht.2 (by omega);refine yC (S:=Bool) (λe=>e 4= .ptr (N+1) 0/\e 7= .ptr (N+2) 0) (by simp only[go_sem,simprocAttr]) (nF t b) q [.box (aJ t) none,.box [.int .u32 b] none] (λs=>[.box (aJ t) none,.box [.int .u32 a] none,.box [.bool s] none]) (nB:=3) (λ_=>rfl) (decide ((a:Int)=b)) (λj s=>s=(decide (a=b)|| ((aR t b).take j).contains a)) (λ_ _=>False) rfl ?_ (by simp) (by simp[F]) (λ_ _ h=>h.elim) ?_ ?_ ?_
   ·exact Vg t O U b K (N+3)
   ·rintro e ⟨I,e7⟩ j x s M X;obtain⟨u,rfl,hu⟩:=Vk M;refine⟨rfl,λW n hn Q C=>?_⟩;simp only[go_sem,simprocAttr,iE];refine⟨[],by simp,λL l w=>?_⟩;simp only[gF,gE,aq8,ahu,Nat.reduceAdd]at w;obtain⟨w0,w1,m⟩:=w;have d: (decide (a=b)|| ((aR t b).take (j+1)).contains a)=(s||decide ((u:Int)=a)):=by
     rw[X,aiV,hu];have:decide ((u:Int)=a)=decide (a=u):=aht.2 (by omega);rw[this];by_cases Z:a=b<;>by_cases Y:a=u<;>simp[Z,Y]
    have k: ∀z,(L.set (N+2) (.box [.bool z] none)).length=n->j7 (L.set (N+2) (.box [.bool z] none)) N 0 [.box (aJ t) none,.box [.int .u32 a] none,.box [.bool z] none]:=λz hl=>by
     simp only[gF,gE,aq8,ahu,Nat.reduceAdd];exact⟨by rw[aeR (by omega)];exact w0,by rw[aeR (by omega)];exact w1,cG m⟩
    cases s
    ·by_cases c: (u:Int)=a
     ·simp only[go_sem,simprocAttr,L3,I,e7,w1,m,aiH,sq,c];exact⟨_,k _ (by rw[ahq];exact l),λi J v=>aeR (by omega),by rw[d];simp[c]⟩
     ·simp only[go_sem,simprocAttr,L3,I,e7,w1,m,aiH,sq,c];exact⟨_,k _ (by rw[ahq];exact l),λi J v=>aeR (by omega),by rw[d];simp[c]⟩
    ·simp only[go_sem,simprocAttr,L3,e7,m,aiH,sq];exact⟨_,k _ (by rw[ahq];exact l),λi J v=>aeR (by omega),by rw[d];simp⟩
   ·rintro e ⟨I,e7⟩ s W p P rfl r C R;simp only[gF,gE,aq8,ahu,Nat.reduceAdd]at C;obtain⟨w0,w1,m⟩:=C;have E: ∀o,(W.set p o).take N=H:=λo=>(r.set (by omega)).take q
    simp only[F1,go_sem,simprocAttr,e7,m,R,nE,E];rw[Vl,ahn];refine da (akG _ ?_) rfl;unfold kn;rw[y,A];rfl
   ·rintro e he ex s W p P V;exact V.elim
def s9(t:aw)(h:Nat)(r:dc):AV:=.au [.agg (aJ (fD t h r).1),.int .i64 (fD t h r).2]
def Vx(t:aw)(s:bN t)(h:Nat)(o:h<4294967296)(r:dc)(p:RB r.runs)(q:r.runs.length<=65)(k:r.len<4294967296)(H:List ae)(lo:oN):
  D X0 (.fn (.func Ev) [] []) [.agg (aJ t),.int .u32 h,.agg (bS r)] ⟨H,lo⟩=some (.ret (s9 t h r) ⟨H,lo⟩):=by
 refine aF B5 λN i=>?_
 have n:=zA h;have l: (aN h:Int)<32:=by omega
 have hs:iv h= .au [.int .i64 (aN h:Nat),.bool (eC h).isSome]:=rfl;have a:=eo t.b h o;have m:ax t.b h=t.ax h:=rfl;simp only[m]at a;have hm:=ai9 (eg r.runs) r.len r.runs k (ng _) p q;have d:fD t h r=if t.ax h=false then(t,4)else if 64<r.dt\/pZ r.runs r.len=false then(t,2)else({t with r:=aq t.r (aN h) {r with up:=(t.r (aN h)).up}},0):=rfl
 cases g:t.ax h with
 |false=>
  rw[g]at a;have e:fD t h r=(t,4):=by rw[d,afJ g]
  simp only[F1,go_sem,simprocAttr,B5,i,a,cL,s9,e]
 |true=>
  rw[g]at a;rw[afB (by rw[g];simp)]at d;have j:=zJ r.dt;by_cases f:r.dt<=64
  ·have c:decide (r.dt<=64)=true:=ag9 f;cases b:pZ r.runs r.len with
   |false=>
    rw[afJ (.inr b)]at d;simp only[F1,go_sem,simprocAttr,B5,i,a,cL,j,c,hm,b,s9,d]
   |true=>
    rw[afB (by rw[b];simp;omega)]at d;simp only[F1,go_sem,simprocAttr,B5,i,a,cL,j,c,hm,b,s9,d,jN h o,hs,l,UD n,as4,Mg n];omega
  ·have c:decide (r.dt<=64)=false:=ag7 f;rw[afJ (.inl (by omega))]at d;simp only[F1,go_sem,simprocAttr,B5,i,a,cL,j,c,s9,d]
def vH(t:aw)(h u:Nat):AV:=.au [.agg (aJ (l6 t h u).1),.int .i64 (l6 t h u).2]
def ajd(t:aw)(Y:bN t)(Z:cm t)(h w:Nat)(S:h<4294967296)(X:w<4294967296)(H:List ae)(lo:oN):
  D X0 (.fn (.func Bp) [] []) [.agg (aJ t),.int .u32 h,.int .u32 w] ⟨H,lo⟩=some (.ret (vH t h w) ⟨H,lo⟩):=by
 refine aF B6 λN F=>?_
 have W:=zA h;have B: (aN h:Int)<32:=by omega
 have hs:iv h= .au [.int .i64 (aN h:Nat),.bool (eC h).isSome]:=rfl;have b:=eo t.b h S;have g:=eo t.b w X;have T: ∀h,ax t.b h=t.ax h:=λh=>rfl
 simp only[T]at b g;have j:l6 t h w=if t.ax h=false\/ (w≠0/\t.ax w=false)then(t,4)else if w≠0/\h∈w::aR t w then(t,12)else({t with r:=aq t.r (aN h) {t.r (aN h)with up:=w}},0):=rfl
 cases E:t.ax h with
 |false=>
  rw[E]at b;rw[afJ (.inl E)]at j;simp only[F1,go_sem,simprocAttr,B6,F,b,cL,vH,j]
 |true=>
  rw[E]at b;by_cases c:w≠0/\t.ax w=false
  ·rw[afJ (.inr c)]at j;rw[c.2]at g;have y: ¬(w:Int)=0:=by omega
   simp only[F1,go_sem,simprocAttr,B6,F,b,g,y,cL,vH,j]
  ·rw[afB (by rw[E];simpa using c)]at j;have i:w=0\/ (¬(w:Int)=0/\t.ax w=true):=by
    by_cases l:w=0
    ·exact .inl l
    ·refine .inr ⟨by omega,?_⟩;cases I:t.ax w
     ·exact absurd ⟨l,I⟩ c
     ·rfl
   obtain⟨L,V⟩: ∃L,L=if w=0 then[]else w::aR t w:=⟨_,rfl⟩
   have o: (w≠0/\h∈w::aR t w)↔h∈L:=by
    rw[V];by_cases l:w=0
    ·simp[l]
    ·rw[afB l];exact⟨λq=>q.2,λq=>⟨l,q⟩⟩
   have key: ∀Q:bQ,(∀e:Env,e 1= .int .u32 h->e 2= .int .u32 w->e 3= .ptr N 0->e 6= .ptr (N+1) 0->h∉L->Q (.exit 0) ⟨e,[]⟩ ⟨H++[.box (aJ t) none,.box jD none],none⟩)->
     (∀e:Env,e 6= .ptr (N+1) 0->e 7= .int .i64 12->h∈L->Q .ret ⟨e,[]⟩ ⟨H++[.box (aJ t) none,.box (aJ t) none],none⟩)->
     ∀e:Env,e 1= .int .u32 h/\e 2= .int .u32 w/\e 3= .ptr N 0/\e 6= .ptr (N+1) 0/\e 8= .int .u32 w->wp X0 Bp false (PC.loop F3) ⟨e,[]⟩ ⟨H++[.box (aJ t) none,.box jD none],none⟩ Q:=by
    rintro Q I hr e ⟨e1,p,e3,e6,e8⟩;refine dV L.length (λk e H'=>H'=H++[.box (aJ t) none,.box jD none]/\e 1= .int .u32 h/\e 2= .int .u32 w/\e 3= .ptr N 0/\e 6= .ptr (N+1) 0/\ ∃x,e 8= .int .u32 (x:Nat)/\ (if x=0 then[]else x::aR t x)=L.drop k/\ (x≠0->t.ax x=true)/\h∉L.take k) 0 (by omega) ?_ ?_
    ·refine⟨rfl,e1,p,e3,e6,w,e8,by rw[V];simp,λl=>?_,by simp⟩;rcases i with rfl|q
     ·exact absurd rfl l
     ·exact q.2
    rintro k hk e H' ⟨rfl,e1,p,e3,e6,x,e8,z,m,a⟩ n hn;by_cases s:x=0
    ·subst s;have P:L.take k=L:=by
      have:=akG List.length z;rw[afJ rfl,ao2]at this;exact ag8 (by simp at this;omega)
     rw[P]at a;simp only[go_sem,simprocAttr,F3,e8];exact I _ (by simp only[go_sem,simprocAttr,e1]) (by simp only[go_sem,simprocAttr,p]) (by simp only[go_sem,simprocAttr,e3]) (by simp only[go_sem,simprocAttr,e6]) a
    ·have A: ¬(x:Int)=0:=by omega
     have m:=m s;rw[afB s]at z;have O:k<L.length:=by
      have:=akG List.length z;rw[ao2,aho]at this;omega
     have M:L.take (k+1)=L.take k++[x]:=by
      rw[aiV];have:L[k]?=(L.drop k)[0]?:=by rw[anR];rfl
      rw[this,<-z];rfl
     by_cases G:x=h
     ·have f: (x:Int)=h:=by omega
      have d:h∈L:=by
       rw[<-aqj k L,<-z,G];simp
      have R: ¬(h:Int)=0:=by omega
      simp(disch:=omega) only[go_sem,simprocAttr,F3,e1,e3,e6,e8,f,R,cL];exact hr _ (by simp only[go_sem,simprocAttr,e6]) (by simp only[go_sem,simprocAttr]) d
     ·have f: ¬(x:Int)=h:=by omega
      have J:=ain t Y x (gg m);have v:bI t x=km t (aN x):=by unfold bI;rw[afJ m]
      have U:=sR Z x;simp(disch:=omega) only[go_sem,simprocAttr,F3,e1,p,e3,e6,e8,A,f,J];refine⟨O,km t (aN x),rfl,?_,λl=>?_,?_⟩
      ·rw[<-v,<-arv,<-z,ao0,amS,U]
      ·exact(Gg (by rw[v];exact l)).1 ▸ (by rw[v])
      ·rw[M];simp[a];omega
   rcases i with rfl| ⟨y,C⟩
   ·rw[afB (by simp)]at j;simp only[go_sem,simprocAttr,B6,F,b];refine key _ ?_ ?_ _ (by simp only[go_sem,simprocAttr])
    ·intro e e1 p e3 e6 _;have K:aH (aJ t) (96+aN h*12) [.int .u32 0]=aJ {t with r:=aq t.r (aN h) {t.r (aN h)with up:=0}}:=ahM (u:=0) W;simp(disch:=omega) only[F1,go_sem,simprocAttr,e1,p,e3,e6,jN h S,hs,B,K,cL,vH,j];omega
    ·intro e e6 e7 d;rw[V]at d;simp at d
   ·rw[C]at g;simp only[go_sem,simprocAttr,B6,F,b,g,y];refine key _ ?_ ?_ _ (by simp only[go_sem,simprocAttr])
    ·intro e e1 p e3 e6 a;rw[afB (λq=>a (o.1 q))]at j;simp(disch:=omega) only[F1,go_sem,simprocAttr,e1,p,e3,e6,jN h S,hs,B,ahM W,cL,vH,j];omega
    ·intro e e6 e7 d;rw[afJ (o.2 d)]at j;simp(disch:=omega) only[F1,go_sem,simprocAttr,e6,e7,vH,j]
def zQ(t:aw)(a n:Nat):AV:=.au [.agg (aJ (hH t a n).1),.int .u32 (hH t a n).2.1,.int .i64 (hH t a n).2.2]
def auQ(t:aw)(k:bN t)(m:cm t)(a n:Nat)(j:a<4294967296)(H:List ae)(lo:oN):
  D X0 (.fn (.func Q2) [] []) [.agg (aJ t),.int .u32 a,.int .i64 n] ⟨H,lo⟩=some (.ret (zQ t a n) ⟨H,lo⟩):=by
 refine aF zm λN f=>?_
 have e:=atu t k a n j;have g:=Mz t k m a j;have d:hH t a n=if((l5 t a n).2.2=0\/ (l5 t a n).2.2=7)/\6<=depth t a then(t,0,8)else l5 t a n:=rfl
 by_cases i: (l5 t a n).2.2=0\/ (l5 t a n).2.2=7
 ·by_cases l:6<=depth t a
  ·rw[afJ ⟨i,l⟩]at d;have b: (depth t a:Int)>=6:=by omega
   rcases i with c|c
   ·simp only[F1,go_sem,simprocAttr,zm,f,e,zK,c,g,b,cL,zQ,d]
   ·simp only[F1,go_sem,simprocAttr,zm,f,e,zK,c,g,b,cL,zQ,d]
  ·rw[afB (λh=>l h.2)]at d;have b: ¬(depth t a:Int)>=6:=by omega
   rcases i with c|c
   ·simp only[F1,go_sem,simprocAttr,zm,f,e,zK,c,g,b,cL,zQ,d]
   ·simp only[F1,go_sem,simprocAttr,zm,f,e,zK,c,g,b,cL,zQ,d]
 ·rw[afB (λh=>i h.1)]at d;have p: ¬((l5 t a n).2.2:Int)=0:=by omega
  have o: ¬((l5 t a n).2.2:Int)=7:=by omega
  simp only[F1,go_sem,simprocAttr,zm,f,e,zK,p,o,cL,zQ,d]
def aje:Ext X4 X where
 dg:=rfl
 fb:=rfl
 code:=rfl
 bU:=λf=>by
  show(if f=iH then some mb else if f=j9 then some nG else if f=mw then some qf else if f=m6 then some rJ else if f=qP then some xv else if f=sr then some zO else if f=pC then some Cp else none)=(if f=iH then some mb else if f=j9 then some nG else if f=mw then some qf else if f=m6 then some rJ else none)\/_;by_cases i:f=iH
  ·grind
  by_cases h:f=j9
  ·grind
  by_cases d:f=mw
  ·grind
  by_cases c:f=m6
  ·grind
  by_cases j:kL.contains f=true
  ·right
   refine⟨?_,?_⟩
   ·show(if f=iH then some mb else if f=j9 then some nG else if f=mw then some qf else if f=m6 then some rJ else none)=none
    grind
   ·show(if kL.contains f then none else zo.lookup f)=none
    grind
  ·left
   have a:kL.contains f=false:=by grind
   have e: ∀g,kL.contains g=true->f≠g:=λg b=>hU a b
   simp only[afB i,afB h,afB d,afB c,afB (e qP rfl),afB (e sr rfl),afB (e pC rfl)]
theorem Vy: ∀ {l:List aE},(∀x∈l,1<=x.2)->l.length<=aM l
 | [],_=>by simp
 |x::xs,h=>by
  have c:=h x (amM ..);have b:=Vy (l:=xs) λy a=>h y (aiF _ a)
  simp only[aM,aoZ,List.sum_cons,aho]at b⊢;omega
def fP.rb{r:dc}(h:fP r):RB r.runs/\r.runs.length<=64:=by
 have c:=Vy λx a=>(h.runs x a).1
 have b:=h.aM;refine⟨⟨by omega,λx a=>?_⟩,by omega⟩;have:=h.runs x a;omega
theorem fP.MH{r:dc}(h:fP r)(a:x<4294967296):fP {r with up:=x}:=⟨a,h.dt,h.len,h.cells,h.runs,h.aM⟩
theorem fP.setCells{r:dc}(h:fP r){f:Nat->Nat}(a: ∀i,f i<4294967296):fP {r with cells:=f}:=⟨h.up,h.dt,h.len,a,h.runs,h.aM⟩
theorem Cs:fP dC:=⟨by trivial,by trivial,by trivial,by simp[dC],by trivial,by trivial⟩
def bN.get{t:aw}(a:bN t)(h:Nat):fP (aK t h).1:=by
 unfold aK;split
 ·exact(a.r _).MH aid
 ·exact Cs
theorem bN.aq{t:aw}(a:bN t){i:Nat}{r:dc}(b:fP r):bN {t with r:=aq t.r i r}:=⟨a.b,λj=>by
 show fP (Go.Proofs.YteplichagkpciaaGreatDoor.aq t.r i r j);by_cases e:j=i
 ·rw[e,cT];exact b
 ·rw[dj e];exact a.r j⟩
def bN.set{t:aw}(a:bN t){r:dc}(b:fP r):bN (fD t h r).1:=by
 unfold fD;split
 ·omega
 ·split
  ·omega
  ·exact a.aq (b.MH (a.r _).up)
def bN.raise{t:aw}(a:bN t)(b:x<4294967296):bN (l6 t h x).1:=by
 unfold l6;split
 ·omega
 ·split
  ·omega
  ·exact a.aq ((a.r _).MH b)
def iz(t a:aw):Prop:=a.b=t.b/\ ∀i,(a.r i).up=(t.r i).up
theorem iz.refl(t:aw):iz t t:=⟨rfl,λ_=>rfl⟩
theorem iz.trans{a b c:aw}(e:iz a b)(d:iz b c):iz a c:=⟨d.1.trans e.1,λi=>(d.2 i).trans (e.2 i)⟩
theorem iz.ax{t a:aw}(h:iz t a)(x:Nat):a.ax x=t.ax x:=by unfold aw.ax;rw[h.1]
theorem iz.bI{t a:aw}(h:iz t a)(x:Nat):bI a x=Go.Proofs.YteplichagkpciaaGreatDoor.bI t x:=by
 unfold Go.Proofs.YteplichagkpciaaGreatDoor.bI km;simp only[h.ax,h.2]
theorem iz.en{t a:aw}(h:iz t a): ∀n x,en a n x=Go.Proofs.YteplichagkpciaaGreatDoor.en t n x
 |0,_=>rfl
 |n+1,x=>by simp only[Go.Proofs.YteplichagkpciaaGreatDoor.en,h.bI,h.en n]
theorem iz.aR{t a:aw}(h:iz t a)(x:Nat):aR a x=Go.Proofs.YteplichagkpciaaGreatDoor.aR t x:=h.en 32 x
theorem iz.tree{t a:aw}(h:iz t a)(b:cm t):cm a:=λx=>by rw[h.aR];exact b x
def iz.set(t:aw)(h:Nat)(r:dc):iz t (fD t h r).1:=by
 unfold fD;split
 ·exact .refl t
 ·split
  ·exact .refl t
  ·refine⟨rfl,λi=>?_⟩;show(aq t.r (aN h) _ i).up=_;by_cases e:i=aN h
   ·rw[e,cT]
   ·rw[dj e]
def auR{t:aw}(c:cm t)(a:x∈dv t h):dep t h<=dep t x:=by
 have key: ∀n h,x∈gZ t n h->dep t h<=dep t x:=by
  intro n
  induction n with
  |zero=>intro h a;rw[gZ,ahe]at a;grind
  |succ n b=>
   intro h a;rcases ai2.1 a with rfl|a
   ·simp
   ·grind [Ce]
 exact key 32 h a
def Vz{t:aw}(a:t.ax h=true):depth t h=1+dep t h:=by unfold depth;rw[afJ a];rfl
def auS{t0 t:aw}(a:bN t)(h x:Nat):bN (zx t0 h t x):=by
 refine a.set (fP.setCells (a.get x) λi=>?_);have:=(a.get x).cells i
 grind
theorem auT(t0 t:aw)(h x:Nat):iz t (zx t0 h t x):=iz.set _ _ _
def xz(t0:aw)(h:Nat)(t:aw)(l:lN):aw:=l.foldl (zx t0 h) t
def VA{t0 t:aw}(a:bN t)(h:Nat): ∀l,bN (xz t0 h t l):=by
 intro l
 induction l generalizing t with
 |nil=>exact a
 |cons x xs b=>exact b (auS a h x)
theorem VB(t0:aw)(h:Nat): ∀ (l:lN) (t:aw),iz t (xz t0 h t l)
 | [],t=>.refl t
 |x::xs,t=>(auT t0 t h x).trans (VB t0 h xs _)
def auU{t0 t:aw}{l:lN}{k:Nat}(a:l[k]?=some x):xz t0 h t (l.take (k+1))=zx t0 h (xz t0 h t (l.take k)) x:=by
 unfold xz;rw[aiV,a,ao4];rfl
theorem VC(t:aw)(h:Nat):jl t h=if t.ax h=false then(t,4)else l6 (xz t h t (dv t h)) h 0:=rfl
def ajf{t:aw}{x:lA}(a: (rL t h)[j]?=some x): ∃y,x=[.int .u32 (y:Nat)]/\ (dv t h)[j]?=some y:=by
 unfold rL at a;rw[aiY,ahg]at a;obtain⟨y,b,rfl⟩:=a;exact⟨y,rfl,b⟩
def auV{t:aw}(a:cm t)(h:Nat):depth t h<=6:=by
 unfold depth;split
 ·have:=a h;omega
 ·omega
theorem ajg{f:Nat->Nat}{c:Nat}: ∀ (l:lN) (s:Nat),(∀x∈l,f x<=c)->s<=c->l.foldl (λn x=>max n (f x)) s<=c
 | [],s,_,hs=>hs
 |x::xs,s,b,hs=>ajg xs _ (λy a=>b y (aiF _ a)) (by grind)
def auW{t:aw}(a:cm t)(h:Nat):sM t h<=7:=by
 exact ajg (f:=λx=>depth t x-depth t h+1) _ _ (λx _=>by have:=auV a x;omega) (by omega)
def auX(t:aw)(m:bN t)(k:cm t)(h:Nat)(a:t.ax h=true)(H:List ae)(lo:oN):
  D X (.fn (.func Ro) [] []) [.agg (aJ t),.int .u32 h] ⟨H,lo⟩=some (.ret (.int .i64 (sM t h:Nat)) ⟨H,lo⟩):=by
 refine aF TB λN q=>?_
 have J:=up dk (Vo t h (N+3) (H++[.box (aJ t) none,.box [.int .u32 h] none,.box [.int .i64 0] none]) (by simp[q]) none);simp only[go_sem,simprocAttr,TB,q,J];refine yC (S:=Nat) (λe=>e 2= .ptr N 0/\e 3= .ptr (N+1) 0/\e 5= .ptr (N+2) 0) (by simp only[go_sem,simprocAttr]) (rL t h) q [.box (aJ t) none,.box [.int .u32 h] none] (λs=>[.box (aJ t) none,.box [.int .u32 h] none,.box [.int .i64 (s:Nat)] none]) (nB:=3) (λ_=>rfl) 0
  (λj s=>s=((dv t h).take j).foldl (λn x=>max n (depth t x-depth t h+1)) 0/\s<=100) (λ_ _=>False) rfl ?_ (by simp) ⟨rfl,by omega⟩ (λ_ _ h=>h.elim) ?_ ?_ ?_
 ·exact Vq aje t m k h a (N+3)
 ·rintro e ⟨A,e3,w⟩ j x s B ⟨hs,C⟩;obtain⟨y,rfl,z⟩:=ajf B;have c:y∈dv t h:=anr z;have f:=Gi m.b a c;have G:=auR k c;have L:=k y;have T:=Vz f;have R:=Vz a;have Q:dep t y<=5:=L;have b:=λH lo=>up dk (Mz t m k y (gg f) H lo)
  have v:=λH lo=>up dk (Mz t m k h (gg a) H lo)
  refine⟨rfl,λW n O E u=>?_⟩;simp only[go_sem,simprocAttr,iE];refine⟨[],by simp,λU K g=>?_⟩;simp only[gF,gE,aq8,ahu,Nat.reduceAdd]at g;obtain⟨w0,w1,l⟩:=g;have r:max (s:Int) ((depth t y:Int)-depth t h+1)=((max s (depth t y-depth t h+1):Nat):Int):=by omega
  simp(disch:=omega) only[go_sem,simprocAttr,agW,A,e3,w,w0,w1,l,b,v,Pn,Pm,r,sq];refine⟨max s (depth t y-depth t h+1),?_,λi P F=>aeR (by omega),?_,?_⟩
  ·simp only[gF,gE,aq8,ahu,Nat.reduceAdd];exact⟨by rw[aeR (by omega)];exact w0,by rw[aeR (by omega)];exact w1,cG l⟩
  ·rw[aiV,z,ao4,<-hs];rfl
  ·omega
 ·rintro e ⟨A,e3,w⟩ s W p M ⟨rfl,_⟩ d u I;simp only[gF,gE,aq8,ahu,Nat.reduceAdd]at u;obtain⟨w0,w1,l⟩:=u;have b: ∀o,(W.set p o).take N=H:=λo=>(d.set (by omega)).take q
  simp only[F1,go_sem,simprocAttr,w,l,I,nE,b];rw[Vp,ahn];rfl
 grind
def xA(t:aw)(h w:Nat):AV:=.au [.agg (aJ (vi t h w).1),.int .i64 (vi t h w).2]
def auY(t:aw)(k:bN t)(f:cm t)(h w:Nat)(q:h<4294967296)(p:w<4294967296)(H:List ae)(lo:oN):
  D X (.fn (.func Q6) [] []) [.agg (aJ t),.int .u32 h,.int .u32 w] ⟨H,lo⟩=some (.ret (xA t h w) ⟨H,lo⟩):=by
 refine aF w9 λN i=>?_
 have a:=λH lo=>up dk (eo t.b h q H lo)
 have b:=λH lo=>up dk (eo t.b w p H lo)
 have v: ∀h,ax t.b h=t.ax h:=λh=>rfl
 simp only[v]at a b;have c:vi t h w=if t.ax h=false\/t.ax w=false then(t,4)else if root t h≠h\/kn t h w then(t,12)else if 6<depth t w+sM t h then(t,8)else l6 t h w:=rfl
 have d:=λH lo=>up dk (zN t k f h q H lo)
 have e:=λH lo=>up dk (Vw t k f h w q p H lo)
 have l:=λH lo=>up dk (Mz t k f w p H lo)
 have u:=λH lo=>up dk (ajd t k f h w q p H lo)
 cases n:t.ax h with
 |false=>
  rw[n]at a;rw[afJ (.inl n)]at c;simp only[F1,go_sem,simprocAttr,w9,i,a,cL,xA,c]
 |true=>
  rw[n]at a;have j:=auX t k f h n;cases m:t.ax w with
  |false=>
   rw[m]at b;rw[afJ (.inr m)]at c;simp only[F1,go_sem,simprocAttr,w9,i,a,b,cL,xA,c]
  |true=>
   rw[m]at b;rw[afB (by rw[n,m];simp)]at c;by_cases s:root t h=h
   ·have o: ((root t h:Nat):Int)=(h:Nat):=by omega
    cases r:kn t h w with
    |true=>
     rw[afJ (.inr r)]at c;rw[r]at e;rw[s]at d;simp only[F1,go_sem,simprocAttr,w9,i,a,b,d,e,cL,xA,c]
    |false=>
     rw[afB (by rw[r];simp[s])]at c;rw[r]at e;rw[s]at d;have y:sM t h<=7:=auW f h;have z:depth t w<=100:=by
      have:=f w;rw[Vz m];show 1+(aR t w).length<=100;omega
     by_cases x:6<depth t w+sM t h
     ·have g: (depth t w:Int)+sM t h>6:=by omega
      rw[afJ x]at c;simp(disch:=omega) only[F1,go_sem,simprocAttr,w9,i,a,b,d,e,l,j,g,cL,xA,c]
     ·have g: ¬(depth t w:Int)+sM t h>6:=by omega
      rw[afB x]at c;simp(disch:=omega) only[F1,go_sem,simprocAttr,w9,i,a,b,d,e,l,j,g,u,vH,cL,xA,c]
   ·have o: ¬((root t h:Nat):Int)=(h:Nat):=by omega
    rw[afJ (.inl s)]at c;simp only[F1,go_sem,simprocAttr,w9,i,a,b,d,o,cL,xA,c]
def vI(t:aw)(h c:Nat):Bool:=decide (c≠h)&&kn t c h
def auZ(t:aw)(i:bN t)(l:cm t)(h c:Nat)(j:h<4294967296)(k:c<4294967296)(g f:Nat)(H:List ae)(b:H[f]?=some (.box (aJ t) none))(a:H[g]?=some (.box [.int .u32 h] none))(lo:oN):
  D X (.fn (.func ED) [] [.ptr g 0,.ptr f 0]) [.int .u32 c] ⟨H,lo⟩=some (.ret (.bool (vI t h c)) ⟨H,lo⟩):=by
 refine eP L8 λN n=>?_
 have d:=λH lo=>up dk (Vw t i l c h k j H lo)
 by_cases e:c=h
 ·simp(disch:=omega) only[F1,go_sem,simprocAttr,L8,a,vI,e,not_true,dF,akI]
 ·have m: ¬(c:Int)=h:=by omega
  simp(disch:=omega) only[F1,go_sem,simprocAttr,L8,b,a,m,d,vI,e]
def ua(t:aw)(h:Nat)(f:Nat->Nat)(k:Nat):Nat->Nat:=λi=>if i<k/\vI t h (f i)=true then 0 else f i
theorem Gv{t:aw}{f:Nat->Nat}{k:Nat}:ua t h f k i=if i<k/\vI t h (f i)=true then 0 else f i:=rfl
def au0(t:aw)(h:Nat)(f:Nat->Nat)(k:Nat):ua t h f (k+1)=if vI t h (f k)=true then aq (ua t h f k) k 0 else ua t h f k:=by
 funext i
 by_cases a:vI t h (f k)=true
 ·by_cases e:i=k
  ·simp_all[cT,Gv,afJ]
  ·grind [dj,Gv]
 ·rw[afB a,Gv,Gv]
  grind
def au1(t:aw)(h:Nat)(r:dc):bS {r with cells:=ua t h r.cells 8}=bS {r with cells:=λi=>if r.cells i≠h/\kn t (r.cells i) h then 0 else r.cells i}:=by
 refine ahB (zr λi a=>?_);simp only[ua,vI,a,aBV]
 grind
def MI(t:aw)(h:Nat):AV:=.au [.agg (aJ (jl t h).1),.int .i64 (jl t h).2]
def au2(t:aw)(G:bN t)(hT:cm t)(h:Nat)(hh:h<4294967296)(H:List ae)(lo:oN):
  D X (.fn (.func Rn) [] []) [.agg (aJ t),.int .u32 h] ⟨H,lo⟩=some (.ret (MI t h) ⟨H,lo⟩):=by
 refine aF L1 λN T=>?_
 have q:=λH lo=>up dk (eo t.b h hh H lo)
 have hgg: ∀h,ax t.b h=t.ax h:=λh=>rfl
 simp only[hgg]at q;cases d:t.ax h with
 |false=>
  rw[d]at q;have Y:jl t h=(t,4):=by rw[VC,afJ d]
  simp only[F1,go_sem,simprocAttr,L1,T,q,cL,MI,Y]
 |true=>
  rw[d]at q;have Y:jl t h=l6 (xz t h t (dv t h)) h 0:=by rw[VC,afB (by rw[d];simp)]
  have ha:=up dk (Vo t h (N+5) (H++[.box (aJ t) none,.box [.int .u32 h] none,.box jD none,.box [.fn (.func ED) [] [.ptr (N+1) 0,.ptr N 0]] none,.box (aJ t) none]) (by simp[T]) none);have hmx:max (N+1+1) (N+1)<=N+3+1:=by omega
  simp only[go_sem,simprocAttr,L1,T,q,cL,ha,hmx];refine yC (S:=aw) (λe=>e 3= .ptr (N+1) 0/\e 4= .ptr (N+2) 0/\e 6= .ptr (N+3) 0/\e 7= .ptr (N+4) 0) (by simp only[go_sem,simprocAttr]) (rL t h) T [.box (aJ t) none,.box [.int .u32 h] none] (λs=>[.box (aJ t) none,.box [.int .u32 h] none,.box jD none,.box [.fn (.func ED) [] [.ptr (N+1) 0,.ptr N 0]] none,.box (aJ s) none]) (nB:=5) (λ_=>rfl) t
   (λj s=>s=xz t h t ((dv t h).take j)) (λ_ _=>False) rfl ?_ (by simp) rfl (λ_ _ h=>h.elim) ?_ ?_ ?_
  ·exact Vq aje t G hT h d (N+5)
  ·rintro e ⟨e3,e4,e6,e7⟩ j x s hx hs;obtain⟨y,rfl,hy⟩:=ajf hx;have hym:y∈dv t h:=anr hy;have O:=Gi G.b d hym;have I:=auU (t0:=t) (t:=t) (h:=h) hy;have b:bN s:=by rw[hs];exact VA G h _
   rw[<-hs]at I;have P:=λH lo=>up dk (vB s b y (gg O) H lo)
   have A:=b.get y;have c:zx t h s y=(fD s y {(aK s y).1 with cells:=λi=>if(aK s y).1.cells i≠h/\kn t ((aK s y).1.cells i) h then 0 else(aK s y).1.cells i}).1:=rfl;generalize hr: (aK s y).1=r at*;have g:fP {r with cells:=λi=>if r.cells i≠h/\kn t (r.cells i) h then 0 else r.cells i}:=fP.setCells A λi=>by
    have:=A.cells i;show(if _ then _ else _)<_;split<;>omega
   have J:=λH lo=>up dk (Vx s b y (gg O) _ g.rb.1 (by have:=g.rb.2;omega) (by have:=g.len;omega) H lo)
   refine⟨rfl,λW n hn hnl hg=>?_⟩;simp only[go_sem,simprocAttr,iE];refine⟨[],by simp,λF R Q=>?_⟩;simp only[gF,gE,aq8,ahu,Nat.reduceAdd]at Q;obtain⟨w0,w1,V,w3,U⟩:=Q;have f0: ∀L,(F++L)[N]?=_:=λL=>bc w0
   have f1: ∀L,(F++L)[N+1]?=_:=λL=>bc w1
   have f3: ∀L,(F++L)[N+3]?=_:=λL=>bc w3
   have f4: ∀L,(F++L)[N+4]?=_:=λL=>bc U
   have hpc:Den.part true 8 (bS r) 4=_:=Mf (r:=r);simp only[go_sem,simprocAttr,agV,e7,U,P,nD,hr,kq,R,hpc,aiH];refine dV 8 (λk B H'=>H'=F++[.box (bS {r with cells:=ua t h r.cells k}) none]/\B 6= .ptr (N+3) 0/\B 7= .ptr (N+4) 0/\B 8= .int .u32 y/\B 9= .ptr n 0/\B 33= .agg (arr 8 λi=>[.int .u32 (r.cells i)])/\B 34= .int .i64 k) 0 (by omega) ?_ ?_
   ·simp only[go_sem,simprocAttr,e6,e7];have:ua t h r.cells 0=r.cells:=by funext i;rw[Gv,afB (by omega)]
    rw[this]
   ·rintro k hk B H' ⟨rfl,a6,Z,a8,a9,E,C⟩ n' HC;simp only[bR,go_sem,simprocAttr,agU,Z,E,C];refine⟨λhc=>?_,λhc=>?_⟩
    ·have l:k<8:=by omega
     have w:qz false 8 1 (.agg (arr 8 λi=>[AV.int .u32 (r.cells i)])) (.int .i64 (k:Nat))=some (.int .u32 (r.cells k)):=
      Us l (by have:=ki (ag:=false) (m:=1) (n:=8) (k:=1) (i:=k) (o:=0) (f:=λi=>[AV.int .u32 (r.cells i)]) (λ_=>rfl) l (by omega) (by omega);rw[ahu]at this;rw[this];rfl)
     have v:=auZ t G hT h (r.cells k) hh (A.cells k) (N+1) N (F++[.box (bS {r with cells:=ua t h r.cells k}) none]) (f0 _) (f1 _) none;have c:=au0 t h r.cells k;cases ho:vI t h (r.cells k)
     ·rw[ho]at c v;rw[afB (by simp)]at c;simp(disch:=omega) only[go_sem,simprocAttr,a6,Z,a8,a9,E,C,w,f3,v];rw[c];exact⟨l,rfl⟩
     ·rw[ho]at c v;rw[afJ rfl]at c;simp(disch:=omega) only[go_sem,simprocAttr,a6,Z,a8,a9,E,C,w,f3,v];have hsp:=ahN (r:={r with cells:=ua t h r.cells k}) (u:=0) l;rw[c];exact⟨by omega,by omega,l,akG (λz=>F++[ae.box z none]) hsp⟩
    ·obtain rfl:k=8:=by omega
     have VD:=au1 t h r;simp only[go_sem,simprocAttr,Z,a8,a9,f4,VD,J,s9,sq,R];have gl:List.drop 480 (aJ s)=[]:=al6 (by rw[iq];omega);rw[gl,aiH];refine⟨zx t h s y,?_,by omega,λi hi HP=>?_,I.symm⟩
     ·simp only[gF,gE,aq8,ahu,Nat.reduceAdd];refine⟨?_,?_,?_,?_,?_⟩
      ·rw[aeR (by omega)];exact f0 _
      ·rw[aeR (by omega)];exact f1 _
      ·rw[aeR (by omega)];exact bc V
      ·rw[aeR (by omega)];exact f3 _
      ·rw[c];exact cG (f4 _)
     ·rw[aeR (by omega),aeT (by omega)]
  ·rintro e ⟨e3,e4,e6,e7⟩ s W p hp hs M hg hd;simp only[gF,gE,aq8,ahu,Nat.reduceAdd]at hg;obtain⟨w0,w1,V,w3,U⟩:=hg;rw[Vp,ahn]at hs;have b:bN s:=by rw[hs];exact VA G h _
   have hsT:cm s:=by rw[hs];exact(VB t h _ t).tree hT
   have Vr:=λH lo=>up dk (ajd s b hsT h 0 hh (by omega) H lo)
   rw[<-hs]at Y;have PG: ∀a o,((W.set (N+2) a).set p o).take N=H:=λa o=>((M.set (by omega)).set (by omega)).take T
   have K: ∀H lo,D X (.fn (.func Bp) [] []) [.agg (aJ s),.int .u32 h,.int .u32 0] ⟨H,lo⟩=some (.ret (vH s h 0) ⟨H,lo⟩):=Vr;simp(disch:=omega) only[F1,go_sem,simprocAttr,e3,e4,e7,w1,V,U,K,vH,hd,nE,PG,cL,cG V,MI,Y]
  ·rintro e he ex s W p hp hJ;exact hJ.elim
structure xB(x:Ow):Prop where
 kind:x.kind<256
 aa:x.aa<256
 hold:x.hold<256
structure fF(o:bM):Prop where
 root: ∀i,(o i).root<4294967296
 own: ∀i,xB (o i).own
theorem VE:xB xj:=⟨by trivial,by trivial,by trivial⟩
def fF.of{o:bM}(ho:fF o)(t:aw)(h:Nat):xB (b0 o t h):=by
 unfold b0;split
 ·split
  ·exact ho.own _
  ·exact VE
 ·exact VE
def fF.MJ{o:bM}(ho:fF o){t:aw}{r:Nat}{x:Ow}(b:r<4294967296)(a:xB x):fF (fO o t r aa x).1:=by
 unfold fO;split
 ·omega
 ·split
  ·omega
  ·split
   ·omega
   ·refine⟨λi=>?_,λi=>?_⟩
    ·show(aq o (aN r) ⟨r,x⟩ i).root<_;by_cases e:i=aN r
     ·rw[e,cT];exact b
     ·rw[dj e];exact ho.root i
    ·show xB (aq o (aN r) ⟨r,x⟩ i).own;by_cases e:i=aN r
     ·rw[e,cT];exact a
     ·rw[dj e];exact ho.own i
def zR(aa:Nat):hO aa<256:=by
 unfold hO;have:2^(aa % 8)<=2^7:=Nat.pow_le_pow_right (by omega) (by omega);omega
def aDW(b:a<256): (BitVec.ofInt 8 (a:Int)).toNat=a:=by grind
def MK(d:a<256)(c:b<256):dh .and (.int .u8 (a:Nat)) (.int .u8 (b:Nat))=some (.int .u8 ((a&&&b:Nat):Int)):=by
 rw[DQ];have e: (BitVec.ofInt IntKind.u8.bits (a:Int)&&&BitVec.ofInt IntKind.u8.bits (b:Int)).toNat=a&&&b:=by
  show(BitVec.ofInt 8 (a:Int)&&&BitVec.ofInt 8 (b:Int)).toNat=_
  grind
 have f:a&&&b<=a:=Nat.and_le_left;rw[e,wrap_u8 (by omega) (by omega)]
def au8(d:a<256)(c:b<256):dh .xor (.int .u8 (a:Nat)) (.int .u8 (b:Nat))=some (.int .u8 ((a^^^b:Nat):Int)):=by
 rw[Pk];have e: (BitVec.ofInt IntKind.u8.bits (a:Int)^^^BitVec.ofInt IntKind.u8.bits (b:Int)).toNat=a^^^b:=by
  show(BitVec.ofInt 8 (a:Int)^^^BitVec.ofInt 8 (b:Int)).toNat=_
  grind
 have f:a^^^b<2^8:=aC4 (by omega) (by omega);rw[e,wrap_u8 (by omega) (by omega)]
theorem ajh{k:Nat}:x&&&2^k=0↔x.testBit k=false:=by
 constructor
 ·intro h;have: (x&&&2^k).testBit k=false:=by grind
  grind
 ·intro h;apply Nat.eq_of_testBit_eq
  grind
def aji:decide (¬((x&&&hO aa:Nat):Int)=0)=oz x aa:=by
 unfold oz hO;cases h:x.testBit (aa % 8)
 ·rw[ajh.2 h];simp
 ·grind [ajh]
def VF(aa:Nat)(f:aa<4611686018427387904)(H:List ae)(lo:oN):D X0 (.fn (.func Bn) [] []) [.int .i64 aa] ⟨H,lo⟩=some (.ret (.int .u8 (hO aa:Nat)) ⟨H,lo⟩):=by
 refine aF Tu λN h=>?_
 have e:dh .and (.int .i64 (aa:Nat)) (.int .i64 7)=some (.int .i64 ((aa % 8:Nat):Int)):=by
  rw[DQ];have e: (BitVec.ofInt IntKind.i64.bits (aa:Int)&&&BitVec.ofInt IntKind.i64.bits 7).toNat=aa % 8:=by
   show(BitVec.ofInt 64 (aa:Int)&&&BitVec.ofInt 64 7).toNat=_;have c: (BitVec.ofInt 64 (aa:Int)).toNat=aa:=by grind
   have b: (BitVec.ofInt 64 7).toNat=2^3-1:=by rfl
   rw[BitVec.toNat_and,c,b,aDy]
  rw[e,wrap_i64 (by omega) (by omega)]
 have g:=zR aa;have d:k5 .shl (.int .u8 1) (.int .i64 ((aa % 8:Nat):Int))=some (.int .u8 (hO aa:Nat)):=by
  rw[AL,afJ (by omega)];have: (1:Int)*2^(min ((aa % 8:Nat):Int).toNat IntKind.u8.bits)=(hO aa:Nat):=by
   have a:IntKind.u8.bits=8:=rfl;rw[a,azD,arI (by omega),Int.one_mul];unfold hO;simp
  rw[this,wrap_u8 (by omega) (by omega)]
 simp(disch:=omega) only[F1,go_sem,simprocAttr,Tu,e,d]
def Ct(o:bM)(ho:fF o)(t:aw)(m:bN t)(l:cm t)(h:Nat)(k:h<4294967296)(H:List ae)(lo:oN):
  D X0 (.fn (.func wG) [] []) [.agg (cF o),.agg (aJ t),.int .u32 h] ⟨H,lo⟩=some (.ret (.agg (jK (b0 o t h))) ⟨H,lo⟩):=by
 refine aF FW λN j=>?_
 have a:=zN t m l h k;have b:=atU (h:=h) l k;have e:b0 o t h=match eC (root t h)with|some i=>if(o i).root=root t h then(o i).own else xj|none=>xj:=rfl
 cases hs:eC (root t h)with
 |none=>
  rw[hs]at e;have e1:b0 o t h=xj:=e;simp only[F1,go_sem,simprocAttr,FW,j,a,jN (root t h) b,iv,hs,e1];rfl
 |some i=>
  rw[hs]at e;have g:=ahA hs;have d: (i:Int)<32:=by omega
  by_cases hr: (o i).root=root t h
  ·have c: (((o i).root:Nat):Int)=(root t h:Nat):=by omega
   have e1:b0 o t h=(o i).own:=by rw[e];exact afJ hr
   have f:jK (o i).own=[.int .u8 (o i).own.kind,.int .u8 (o i).own.aa,.int .u8 (o i).own.hold]:=rfl;simp only[F1,go_sem,simprocAttr,FW,j,a,jN (root t h) b,iv,hs,e1,d,ahQ g,c,as5 g,f]
  ·have c: ¬(((o i).root:Nat):Int)=(root t h:Nat):=by omega
   have e1:b0 o t h=xj:=by rw[e];exact afB hr
   simp only[F1,go_sem,simprocAttr,FW,j,a,jN (root t h) b,iv,hs,e1,d,ahQ g,c];rfl
def lu(o:bM)(t:aw)(r aa:Nat)(x:Ow):AV:=.au [.agg (cF (fO o t r aa x).1),.int .i64 (fO o t r aa x).2]
theorem au9:wK.length=128:=by rfl
theorem ava:List.drop 128 wK=[]:=by rfl
def gj:type_of% au9/\type_of% ava:=by decide
def Gw(o:bM)(t:aw)(v:bN t)(z:cm t)(r:Nat)(k:r<4294967296)(aa:Nat)(u:aa<4611686018427387904)(x:Ow)(H:List ae)(lo:oN):
  D X0 (.fn (.func wH) [] []) [.agg (cF o),.agg (aJ t),.int .u32 r,.int .i64 aa,.agg (jK x)] ⟨H,lo⟩=some (.ret (lu o t r aa x) ⟨H,lo⟩):=by
 refine aF B7 λN i=>?_
 have c:=zN t v z r k;have a:=eo t.b r k;have m: ∀h,ax t.b h=t.ax h:=λh=>rfl
 simp only[m]at a;have y:=zA r;have l: (aN r:Int)<32:=by omega
 have hs:iv r= .au [.int .i64 (aN r:Nat),.bool (eC r).isSome]:=rfl;have b:fO o t r aa x=if t.ax r=false then(o,4)else if root t r≠r then(o,12)else if 8<=aa then(o,2)else(aq o (aN r) ⟨r,x⟩,0):=rfl
 have d:jK x=[.int .u8 x.kind,.int .u8 x.aa,.int .u8 x.hold]:=rfl;cases g:t.ax r with
 |false=>
  rw[afJ g]at b;rw[g]at a;simp only[F1,go_sem,simprocAttr,B7,i,a,lu,b,gj,d]
 |true=>
  rw[afB (by rw[g];simp)]at b;rw[g]at a;by_cases q:root t r=r
  ·rw[afB (by simpa using q)]at b;rw[q]at c;by_cases s:8<=aa
   ·rw[afJ s]at b;have f: (aa:Int)>=8:=by omega
    have n: ¬(aa:Int)<0:=by omega
    simp only[F1,go_sem,simprocAttr,B7,i,a,c,f,n,lu,b,gj,d]
   ·rw[afB s]at b;have f: ¬(aa:Int)>=8:=by omega
    have n: ¬(aa:Int)<0:=by omega
    have e:=as6 (w:=o) (x:=⟨r,x⟩) y;have j:sJ ⟨r,x⟩=[.int .u32 r,.int .u8 x.kind,.int .u8 x.aa,.int .u8 x.hold]:=rfl;rw[j]at e;simp only[F1,go_sem,simprocAttr,B7,i,a,c,f,n,lu,b,gj,d,jN r k,hs,l,e];omega
  ·rw[afJ q]at b;have p: ¬((root t r:Nat):Int)=(r:Nat):=by omega
   simp only[F1,go_sem,simprocAttr,B7,i,a,c,p,lu,b,gj,d]
section
variable(o:bM)(t:aw)(ht:bN t)(hT:cm t)(r:Nat)(hr:r<4294967296)(aa:Nat)(jq:aa<256)(H:List ae)(lo:oN)
include ht hT hr jq
theorem avb:D X0 (.fn (.func Rj) [] []) [.agg (cF o),.agg (aJ t),.int .u32 r,.int .i64 aa] ⟨H,lo⟩=some (.ret (.au [.agg (cF (rn o t r aa).1),.int .i64 (rn o t r aa).2]) ⟨H,lo⟩):=by
 refine aF Tx λN b=>?_
 have hs:=Gw o t ht hT r hr aa (by omega) ⟨1,aa % 256,0⟩;have a:jK ⟨1,aa % 256,0⟩=[.int .u8 1,.int .u8 aa,.int .u8 0]:=by rw[apy jq];rfl
 rw[a]at hs;have c:rn o t r aa=fO o t r aa ⟨1,aa % 256,0⟩:=rfl;simp(disch:=omega) only[F1,go_sem,simprocAttr,Tx,b,hs,lu,gj,c]
theorem avc:D X0 (.fn (.func Q7) [] []) [.agg (cF o),.agg (aJ t),.int .u32 r,.int .i64 aa] ⟨H,lo⟩=some (.ret (.au [.agg (cF (Ca o t r aa).1),.int .i64 (Ca o t r aa).2]) ⟨H,lo⟩):=by
 refine aF To λN c=>?_
 have hs:=Gw o t ht hT r hr aa (by omega) ⟨3,0,hO aa⟩;have a:jK ⟨3,0,hO aa⟩=[.int .u8 3,.int .u8 0,.int .u8 (hO aa)]:=rfl;rw[a]at hs;have d:Ca o t r aa=fO o t r aa ⟨3,0,hO aa⟩:=rfl;have b:=VF aa (by omega);simp only[F1,go_sem,simprocAttr,To,c,hs,b,lu,gj,d]
end
def avd(o:bM)(t:aw)(ht:bN t)(hT:cm t)(r:Nat)(hr:r<4294967296)(H:List ae)(lo:oN):
  D X0 (.fn (.func Q9) [] []) [.agg (cF o),.agg (aJ t),.int .u32 r] ⟨H,lo⟩=some (.ret (.au [.agg (cF (zy o t r).1),.int .i64 (zy o t r).2]) ⟨H,lo⟩):=by
 refine aF Tq λN a=>?_
 have hs: ∀H lo,D X0 (.fn (.func wH) [] []) [.agg (cF o),.agg (aJ t),.int .u32 r,.int .i64 0,.agg [.int .u8 2,.int .u8 0,.int .u8 0]] ⟨H,lo⟩=_:=Gw o t ht hT r hr 0 (by omega) ⟨2,0,0⟩;have b:zy o t r=fO o t r 0 ⟨2,0,0⟩:=rfl;simp only[F1,go_sem,simprocAttr,Tq,a,hs,lu,gj,b]
theorem ajj{o:bM}:List.drop 128 (cF o)=[]:=by rfl
def qh(o:bM)(t:aw)(r aa:Nat)(hold:Bool):AV:=.au [.agg (cF (du o t r aa hold).1),.int .u8 (du o t r aa hold).2.1,.int .i64 (du o t r aa hold).2.2]
def ave{o:bM}{t:aw}{r:Nat}{x y:Ow}(h: (fO o t r aa x).2=0):fO (fO o t r aa x).1 t r aa y=fO o t r aa y:=by
 unfold fO at h⊢;split at h
 ·cases h
 ·simp_all[afB,sI]
def avf(o:bM)(t:aw)(r aa:Nat)(x:Ow): (fO o t r aa x).2=if t.ax r=false then 4 else if root t r≠r then 12 else if 8<=aa then 2 else 0:=by
 unfold fO
 grind
def ajk(o:bM)(ho:fF o)(t:aw)(ht:bN t)(hT:cm t)(r:Nat)(hr:r<4294967296)(aa:Nat)(jq:aa<256)(hold:Bool)(H:List ae)(lo:oN):
  D X0 (.fn (.func JP) [] []) [.agg (cF o),.agg (aJ t),.int .u32 r,.int .i64 aa,.bool hold] ⟨H,lo⟩=some (.ret (qh o t r aa hold) ⟨H,lo⟩):=by
 refine aF re λN k=>?_
 have c:=Ct o ho t ht hT r hr;have j:=VF aa (by omega);have d:=zN t ht hT r hr;have b:=eo t.b r hr;have B: ∀h,ax t.b h=t.ax h:=λh=>rfl
 simp only[B]at b;have q:=ho.of t r;have g:du o t r aa hold=(let x:=b0 o t r
  let e:=(fO o t r aa x).2
  if e=4\/ (t.ax r=true/\root t r≠r)then(o,0,e)
  else if x.kind≠3 then(o,0,12)
  else if e≠0 then(o,0,e)
  else if oz x.hold aa&&hold then(o,0,7)
  else if !oz x.hold aa&& !hold then(o,0,5)
  else((fO o t r aa {x with hold:=x.hold^^^hO aa}).1,x.hold^^^hO aa,(fO o t r aa {x with hold:=x.hold^^^hO aa}).2)):=rfl
 generalize F:b0 o t r=x at*;have hs:=Gw o t ht hT r hr aa (by omega) x;have a:=avf o t r aa x;have A:jK x=[.int .u8 x.kind,.int .u8 x.aa,.int .u8 x.hold]:=rfl;have hand:=MK q.hold (zR aa);have f:=aji (x:=x.hold) (aa:=aa);rw[A]at hs c;simp only at g;cases w:t.ax r with
 |false=>
  rw[afJ w]at a;rw[a,afJ (.inl rfl)]at g;rw[w]at b;simp only[F1,go_sem,simprocAttr,re,k,c,hs,lu,a,j,hand,f,gj,qh,g]
 |true=>
  rw[afB (by rw[w];simp)]at a;rw[w]at b;by_cases p:root t r=r
  ·rw[afB (by simpa using p)]at a;rw[p]at d;by_cases C:x.kind=3
   ·have i:decide (¬(x.kind:Int)=3)=false:=ag7 (by omega);by_cases z:8<=aa
    ·rw[afJ z]at a;rw[a,afB (by simp[p]),afB (by simpa using C),afJ (by omega)]at g;simp only[F1,go_sem,simprocAttr,re,k,b,d,c,hs,lu,a,j,hand,f,i,gj,qh,g]
    ·rw[afB z]at a;rw[a,afB (by simp[p]),afB (by simpa using C),afB (by omega)]at g;have n:=Gw (fO o t r aa x).1 t ht hT r hr aa (by omega) {x with hold:=x.hold^^^hO aa};have u:jK {x with hold:=x.hold^^^hO aa}=[.int .u8 x.kind,.int .u8 x.aa,.int .u8 (x.hold^^^hO aa:Nat)]:=rfl;have s:=ave (y:={x with hold:=x.hold^^^hO aa}) a;have v: (N+1 !=N)=true:=by simp
     have l:=au8 q.hold (zR aa);rw[u]at n;cases m:oz x.hold aa<;>cases hold
     ·rw[m,afB (by simp),afJ (by simp)]at g;simp only[F1,go_sem,simprocAttr,re,k,b,d,c,hs,lu,a,j,hand,f,m,i,gj,qh,g]
     ·rw[m,afB (by simp),afB (by simp)]at g;simp only[F1,go_sem,simprocAttr,re,k,b,d,c,hs,lu,a,j,hand,f,m,i,gj,qh,g,l,n,s,ajj,v,auP]
     ·rw[m,afB (by simp),afB (by simp)]at g;simp only[F1,go_sem,simprocAttr,re,k,b,d,c,hs,lu,a,j,hand,f,m,i,gj,qh,g,l,n,s,ajj,v,auP]
     ·rw[m,afJ (by simp)]at g;simp only[F1,go_sem,simprocAttr,re,k,b,d,c,hs,lu,a,j,hand,f,m,i,gj,qh,g]
   ·have i: ¬(x.kind:Int)=3:=by omega
    rw[afB (by rw[a];simp[p];split<;>simp),afJ C]at g;by_cases z:8<=aa
    ·rw[afJ z]at a;simp only[F1,go_sem,simprocAttr,re,k,b,d,c,hs,lu,a,j,hand,f,i,gj,qh,g]
    ·rw[afB z]at a;simp only[F1,go_sem,simprocAttr,re,k,b,d,c,hs,lu,a,j,hand,f,i,gj,qh,g]
  ·rw[afJ p]at a;have E: ¬((root t r:Nat):Int)=(r:Nat):=by omega
   rw[afJ (.inr ⟨w,p⟩),a]at g;simp only[F1,go_sem,simprocAttr,re,k,b,d,E,c,hs,lu,a,j,hand,f,gj,qh,g]
def ajl(o:bM)(ho:fF o)(t:aw)(ht:bN t)(hT:cm t)(r:Nat)(hr:r<4294967296)(aa:Nat)(jq:aa<256)(H:List ae)(lo:oN):
  D X0 (.fn (.func JJ) [] []) [.agg (cF o),.agg (aJ t),.int .u32 r,.int .i64 aa] ⟨H,lo⟩=some (.ret (.au [.agg (cF (du o t r aa true).1),.int .i64 (du o t r aa true).2.2]) ⟨H,lo⟩):=by
 refine aF Tp λN b=>?_
 have a:=ajk o ho t ht hT r hr aa jq true;simp only[F1,go_sem,simprocAttr,Tp,b,a,qh,gj]
def Gx(x:Nat):Nat:=(J3.getD x 0).toNat
def avg: ∀x,x<256->(Gx x=0↔x=0):=by decide
def ajm{o:bM}(ho:fF o){t:aw}{r:Nat}{hold:Bool}: (du o t r aa hold).2.1<256:=by
 unfold du;simp only;split
 ·simp
 ·split
  ·simp
  ·split
   ·simp
   ·split
    ·simp
    ·split
     ·simp
     ·exact aC4 (n:=8) (ho.of t r).hold (zR aa)
def avh(o:bM)(ho:fF o)(t:aw)(ht:bN t)(hT:cm t)(r:Nat)(hr:r<4294967296)(aa:Nat)(jq:aa<256)(H:List ae)(lo:oN):
  D X0 (.fn (.func Rp) [] []) [.agg (cF o),.agg (aJ t),.int .u32 r,.int .i64 aa] ⟨H,lo⟩=some (.ret (.au [.agg (cF (du o t r aa false).1),.int .i64 (Gx (du o t r aa false).2.1),.int .i64 (du o t r aa false).2.2]) ⟨H,lo⟩):=by
 refine aF TC λN b=>?_
 have e:=ajk o ho t ht hT r hr aa jq false;have c:=ajm ho (t:=t) (r:=r) (aa:=aa) (hold:=false);have a: ∀H lo,D X0 (.fn (.func Ru) [] []) [.int .u8 ((du o t r aa false).2.1:Nat)] ⟨H,lo⟩=some (.ret (.int .i64 (Gx (du o t r aa false).2.1:Nat)) ⟨H,lo⟩):=by
  intro H lo;generalize(du o t r aa false).2.1=x at*;refine aF TU λN b=>?_
  have d:J3.length=256:=by rfl
  have f:=UInt8.toNat_lt (J3.getD x 0);simp(disch:=omega) only[F1,go_sem,simprocAttr,TU,d];exact⟨by omega,rfl⟩
 simp only[F1,go_sem,simprocAttr,TC,b,e,qh,a,gj]
structure ub(x:Tok):Prop where
 aL:x.aL<4294967296
 iM:x.iM<256
 to:x.to<256
 aR:x.aR<4294967296
structure gy(k:bg):Prop where
 b:gL k.b
 lt: ∀i,(k.b i).eH=true->i<16
 t: ∀i,ub (k.t i)
theorem ajn:ub Mh:=⟨by trivial,by trivial,by trivial,by trivial⟩
def gy.get{k:bg}(a:gy k)(h:Nat):ub (b9 k h).1:=by
 unfold b9;split
 ·exact a.t _
 ·exact ajn
def gy.slot{k:bg}(a:gy k)(b:ax k.b h=true):aN h<16:=by
 obtain⟨_,e,_⟩:=Cc b;exact a.lt _ (by rw[e])
def Cu(k:bg)(i:gy k)(h:Nat)(f:h<4294967296)(H:List ae)(lo:oN):
  D X0 (.fn (.func wE) [] []) [.agg (bW k),.int .u32 h] ⟨H,lo⟩=some (.ret (.au [.agg (fC (b9 k h).1),.int .i64 (b9 k h).2]) ⟨H,lo⟩):=by
 refine aF Lx λN g=>?_
 have a:=eo k.b h f;have hs:iv h= .au [.int .i64 (aN h:Nat),.bool (eC h).isSome]:=rfl;cases d:ax k.b h with
 |false=>
  rw[d]at a;have e:b9 k h=(Mh,4):=by unfold b9;grind
  simp only[F1,go_sem,simprocAttr,Lx,g,a,e];rfl
 |true=>
  rw[d]at a;have e:b9 k h=(k.t (aN h),0):=by unfold b9;grind
  have j:=i.slot d;have c: (aN h:Int)<16:=by omega
  have b:fC (k.t (aN h))=[.int .u32 (k.t (aN h)).aL,.int .u8 (k.t (aN h)).iM,.int .u8 (k.t (aN h)).to,.bool (k.t (aN h)).mu,.int .u32 (k.t (aN h)).aR]:=rfl;simp only[F1,go_sem,simprocAttr,Lx,g,a,e,jN h f,hs,c,as8 j,b]
def VG(k:bg)(h:Nat)(d:h<4294967296)(H:List ae)(lo:oN):
  D X0 (.fn (.func EF) [] []) [.agg (bW k),.int .u32 h] ⟨H,lo⟩=some (.ret (.bool (nj k h)) ⟨H,lo⟩):=by
 refine aF L9 λN c=>?_
 have b:=eo k.b h d;by_cases e:h=0
 ·have a: (h:Int)=0:=by omega
  simp only[F1,go_sem,simprocAttr,L9,c,a,nj]
  grind
 ·have a: ¬(h:Int)=0:=by omega
  simp only[F1,go_sem,simprocAttr,L9,c,a,b,nj]
  grind
def ajo{N:Nat}{A A' P:List ae}{ty:TypeId}(h:aQ N (A++P) v sz ty af)(b:A'.length=A.length)(c:A.length<=N):aQ N (A'++(P++M)) v sz ty af:=by
 obtain⟨a,d⟩:=h;refine⟨a,?_⟩
 grind
def vJ(k:bg)(p:Tok->Bool)(n:Nat):lN:=((bm k.b).take n).filter λh=>p (b9 k h).1
def avi{k:bg}{p:Tok->Bool}(h:n< (bm k.b).length):vJ k p (n+1)=if p (b9 k ((bm k.b).getD n default)).1 then vJ k p n++[(bm k.b).getD n default]else vJ k p n:=by
 unfold vJ;rw[aiV,ag6 h,azt,getD_eq h]
 grind
theorem avj{k:bg}{p:Tok->Bool}: (vJ k p n).length<=n:=akH (amL _ _) (by grind)
def jr{S:Type}(k:bg)(f:S->Tok->S)(s:S)(n:Nat):S:=((bm k.b).take n).foldl (λs h=>f s (b9 k h).1) s
def avk{S:Type}{k:bg}{f:S->Tok->S}{s:S}(h:n< (bm k.b).length):jr k f s (n+1)=f (jr k f s n) (b9 k ((bm k.b).getD n default)).1:=by
 unfold jr;rw[aiV,ag6 h,ao4,getD_eq h];rfl
def MM{S:Type}(k:bg)(W:gy k)(fv:AV)(p:Tok->Bool)(f:S->Tok->S)(c:S)(N:Nat)(b:S->List ae)(r: ∀s,(b s).length=N)
  (hf: ∀s x L,ub x->D X fv [.agg (fC x)] ⟨b s++L,none⟩=some (.ret (.bool (p x)) ⟨b (f s x)++L,none⟩)) (lo:oN):
  ∃w,D X (.fn (.func yH) [] []) [.agg (bW k),fv] ⟨b c,lo⟩=some (.ret w ⟨b (jr k f c (bm k.b).length),lo⟩)/\Rv w 1 ((sO k p).map hC)/\w.refs=0:=by
 suffices hs: ∃V,D X (.fn (.func yH) [] []) [.agg (bW k),fv] ⟨b c,lo⟩=some V/\ (λV=> ∃w,V=aS.ret w ⟨b (jr k f c (bm k.b).length),lo⟩/\Rv w 1 ((sO k p).map hC)/\w.refs=0) V by
  obtain⟨V,h1,w,rfl,h2⟩:=hs;exact⟨w,h1,h2⟩
 refine cy Tv λM hM=>?_
 obtain rfl:M=N:=by rw[<-hM,r]
 obtain⟨v,J,e1,Y⟩:=Vm k.b W.b (M+1) (b c++[.box (bW k) none]) (by simp[r]) none;have F:D X (.fn (.func iH) [] []) [.agg (bY k.b)] ⟨b c++[.box (bW k) none],none⟩=some _:=s7 (p:=mb) rfl e1;have g:=(mc Y none).bL;have sd:=nm k.b;rw[afL]at F Y g;obtain⟨j,U⟩: ∃j,j=[ae.box (bW k) none]++J:=⟨_,rfl⟩;have T: ∀s L,(b s++(j++L))[M]?=some (.box (bW k) none):=λs L=>by rw[di (r s),U];rfl
 rw[<-U]at F Y g;simp only[go_sem,simprocAttr,Tv,hM,F,g];refine dV (bm k.b).length (λn e H'=> ∃L,H'=b (jr k f c n)++(j++L)/\ (∃G,e 5=G/\aQ (M+j.length) H' G 1 bZ ((vJ k p n).map hC))/\e 1=fv/\e 2= .ptr M 0/\e 12=v/\e 13= .int .i64 (bm k.b).length/\e 14= .int .i64 n) 0 (by omega) ?_ ?_
 ·simp only[go_sem,simprocAttr];exact⟨[],by simp[jr],_,rfl,aQ.ai⟩
 rintro n hn e H' ⟨L,rfl,⟨G,e5,i⟩,e1,A,E,C,B⟩ n' u;have R:=T (jr k f c n);simp only[bR,go_sem,simprocAttr,agR,e5,E,C,B];refine⟨λhc=>?_,λhc=>?_⟩
 ·have l:n< (bm k.b).length:=by omega
  have O:=eX l;have ij:=(jm W.b).1 O;have q:=avi (p:=p) l;have I:=avk (f:=f) (s:=c) l;have K:Rd ⟨b (jr k f c n)++(j++L),none⟩ v 1 ((bm k.b).map hC):=mc (ajo Y (by rw[r,r]) (by rw[r];omega)) none;have y:=λH lo=>up dk (Cu k W ((bm k.b).getD n default) (gg ij) H lo)
  have Z:=W.get ((bm k.b).getD n default);have m:=hf (jr k f c n) (b9 k ((bm k.b).getD n default)).1 (j++(L++[.box (fC (b9 k ((bm k.b).getD n default)).1) none])) Z;generalize hh: (bm k.b).getD n default=h at*;generalize hx: (b9 k h).1=x at*;have t:fC x=[.int .u32 x.aL,.int .u8 x.iM,.int .u8 x.to,.bool x.mu,.int .u32 x.aR]:=rfl;have sc:=avj (k:=k) (p:=p) (n:=n);have hA:=λ (a:Int)=>K.ck (k:=.i64) (a:=a)
  have hL:=K.cD (X:=X) (off:=0) (n:=1) (agg:=false) l;rw[hh,pH]at hL;have Q: ∀o,(b (jr k f c n)++(j++(L++[o])))[n']?=some o:=λo=>by rw[<-u,<-afL j,<-afL (b _)];simp
  have P: ∀o o',(b (jr k f c n)++(j++(L++[o]))).set n' o'=b (jr k f c n)++(j++(L++[o'])):=λo o'=>by
   have e: ∀o:ae,b (jr k f c n)++(j++(L++[o]))=(b (jr k f c n)++(j++L))++[o]:=λo=>by simp
   rw[e,e,<-u,aqk _ _ (ahd _)];simp
  have d:aQ (M+j.length) (b (f (jr k f c n) x)++(j++(L++[.box (fC x) none]))) G 1 bZ ((vJ k p n).map hC):=by
   have:=ajo (A':=b (f (jr k f c n) x)) (M:=[.box (fC x) none]) i (by rw[r,r]) (by rw[r];omega);rwa[afL]at this
  cases hp:p x
  ·rw[hp]at m q;rw[t]at m d;simp(disch:=omega) only[go_sem,simprocAttr,e1,A,e5,E,C,B,hA,hL,R,y,u,t,Q,P,m,afL,q,I];exact⟨by omega,l,_,rfl,G,rfl,d⟩
  ·rw[hp]at m q;rw[t]at m d;simp only[go_sem,simprocAttr,e1,A,e5,hA,hL,R,y,u,t,Q,P,m,afL];refine⟨by omega,po (H0:=b (f (jr k f c n) x)++j) (ys:=[[.int .u32 (h:Nat)]]) d ⟨_,afL _ _ _⟩ (by simp[r]) (by omega) (by intro el vF;rw[ahe.1 vF];rfl) rfl (by unfold room;simp;omega) λv' H2 z D1=>?_⟩;obtain⟨L2,rfl⟩:=D1;simp(disch:=omega) only[go_sem,simprocAttr,e1,A,E,C,B];rw[afJ rfl]at q;refine⟨l,L2,by rw[I],v',rfl,?_⟩;rw[q,ahs];rwa[afL]at z
 ·obtain rfl:n=(bm k.b).length:=by omega
  have ht:vJ k p (bm k.b).length=sO k p:=by unfold vJ sO;rw[ahn]
  rw[ht]at i;have h0:b8 ((sO k p).map hC)=0:=bD (λ_=>rfl) _;rw[aQ.PM (aQ.le i (by omega)) (by omega)];refine⟨_,da rfl (apE (r _)),i.sh,cO i.sh h0⟩
theorem nI(x:Tok):fC x=[.int .u32 x.aL,.int .u8 x.iM,.int .u8 x.to,.bool x.mu,.int .u32 x.aR]:=rfl
theorem xC{N:Nat}{H:List ae}(h:v.refs=0):finish N lo v ⟨H,none⟩=(v,⟨H.take N,lo⟩):=iU (.inl rfl) (by omega)
def avl(aL:Nat)(x:Tok)(p:Nat)(H:List ae)(a:H[p]?=some (.box [.int .u32 (aL:Nat)] none))(lo:oN):
  D X (.fn (.func J1) [] [.ptr p 0]) [.agg (fC x)] ⟨H,lo⟩=some (.ret (.bool (decide (x.aL=aL))) ⟨H,lo⟩):=by
 refine eP TX λN b=>?_
 have c: ∀L,(H++L)[p]?=_:=λL=>bc a
 simp only[F1,go_sem,simprocAttr,TX,b,nI,c];exact da (akG AV.bool (aht.2 (by omega))) rfl
def avm(aa:Nat)(x:Tok)(a:ub x)(p:Nat)(H:List ae)(b:H[p]?=some (.box [.int .i64 (aa:Nat)] none))(lo:oN):
  D X (.fn (.func JM) [] [.ptr p 0]) [.agg (fC x)] ⟨H,lo⟩=some (.ret (.bool (decide (x.to=aa))) ⟨H,lo⟩):=by
 refine eP Tw λN c=>?_
 have d: ∀L,(H++L)[p]?=_:=λL=>bc b
 have:=a.to;simp(disch:=omega) only[F1,go_sem,simprocAttr,Tw,c,nI,d];exact da (akG AV.bool (aht.2 (by omega))) rfl
def VH(k:bg)(hk:gy k)(aL:Nat)(H:List ae)(lo:oN):
  ∃w,D X (.fn (.func EB) [] []) [.agg (bW k),.int .u32 aL] ⟨H,lo⟩=some (.ret w ⟨H,lo⟩)/\Rv w 1 ((nq k aL).map hC)/\w.refs=0:=by
 obtain⟨N,c⟩: ∃N,H.length=N:=⟨_,rfl⟩;obtain⟨w,e1,b,e3⟩:=MM (S:=Unit) k hk (.fn (.func J1) [] [.ptr (N+1) 0]) (λx=>decide (x.aL=aL)) (λs _=>s) () (N+2) (λ_=>H++[.box (bW k) none,.box [.int .u32 aL] none]) (λ_=>by grind)
  (λs x L _=>avl aL x (N+1) _ (by grind) none) none
 refine⟨w,?_,b,e3⟩;refine aF TQ λM a=>?_
 obtain rfl:M=N:=by omega
 simp only[go_sem,simprocAttr,TQ,a,e1];rw[xC e3,mr a]
def avn(k:bg)(hk:gy k)(aa:Nat)(H:List ae)(lo:oN):
  ∃w,D X (.fn (.func QY) [] []) [.agg (bW k),.int .i64 aa] ⟨H,lo⟩=some (.ret w ⟨H,lo⟩)/\Rv w 1 ((xk k aa).map hC)/\w.refs=0:=by
 obtain⟨N,d⟩: ∃N,H.length=N:=⟨_,rfl⟩;obtain⟨w,e1,c,e3⟩:=MM (S:=Unit) k hk (.fn (.func JM) [] [.ptr (N+1) 0]) (λx=>decide (x.to=aa)) (λs _=>s) () (N+2) (λ_=>H++[.box (bW k) none,.box [.int .i64 aa] none]) (λ_=>by grind)
  (λs x L b=>avm aa x b (N+1) _ (by grind) none) none
 refine⟨w,?_,c,e3⟩;refine aF S0 λM a=>?_
 obtain rfl:M=N:=by omega
 simp only[go_sem,simprocAttr,S0,a,e1];rw[xC e3,mr a]
theorem ajp{α:Type}(q:α->Bool): ∀ (l:List α) (s:Bool),l.foldl (λs x=>s||q x) s=(s||l.any q)
 | [],s=>by simp
 |x::xs,s=>by rw[aBk,ajp q xs,List.any_cons,Bool.or_assoc]
def avo(k:bg)(aL ab:Nat)(s:Bool)(x:Tok)(N:Nat)(H:List ae)(h:H.length=N)(L:List ae):
  D X (.fn (.func J2) [] [.ptr (N+1) 0,.ptr (N+2) 0,.ptr (N+3) 0]) [.agg (fC x)] ⟨H++[.box (bW k) none,.box [.int .u32 aL] none,.box [.int .u32 ab] none,.box [.bool s] none]++L,none⟩=
    some (.ret (.bool (isRight aL ab x)) ⟨H++[.box (bW k) none,.box [.int .u32 aL] none,.box [.int .u32 ab] none,.box [.bool (s|| (isRight aL ab x&&x.mu))] none]++L,none⟩):=by
 refine eP xd λM p=>?_
 rw[afL]at p⊢;have m:M=N+4+L.length:=by rw[<-p];simp[h];omega
 have g1: ∀a b c d f,(H++(a::b::c::d::f))[N+1]?=some b:=λa b c d f=>by rw[bA h];rfl
 have g2: ∀a b c d f,(H++(a::b::c::d::f))[N+2]?=some c:=λa b c d f=>by rw[bA h];rfl
 have j: ∀a b c d f,(H++(a::b::c::d::f))[N+3]?=some d:=λa b c d f=>by rw[bA h];rfl
 have gm: ∀a b c d o,(H++(a::b::c::d:: (L++[o])))[M]?=some o:=λa b c d o=>by
  have:H++(a::b::c::d:: (L++[o]))=(H++(a::b::c::d::L))++[o]:=by simp
  rw[this,show M=(H++(a::b::c::d::L)).length by rw[m,ahc,h];simp only[aho];omega];simp
 have i: ∀a b c d f o,(H++(a::b::c::d::f)).set (N+3) o=H++(a::b::c::o::f):=λa b c d f o=>by rw[mZ h];rfl
 have tk: ∀a b c d o,(H++(a::b::c::d:: (L++[o]))).take M=H++(a::b::c::d::L):=λa b c d o=>by
  have:H++(a::b::c::d:: (L++[o]))=(H++(a::b::c::d::L))++[o]:=by simp
  rw[this];exact apE (by simp[h,m];omega)
 have q:isRight aL ab x=(decide (x.aL=aL)&&decide (x.aR=ab)):=rfl;rw[q];by_cases l:x.aL=aL
 ·have e: (x.aL:Int)=aL:=by omega
  by_cases n:x.aR=ab
  ·have g: (x.aR:Int)=ab:=by omega
   cases s
   ·simp only[F1,go_sem,simprocAttr,xd,nI,g1,g2,j,i,tk,e,g,afL,alb,aj8];simp[l,n]
   ·simp only[F1,go_sem,simprocAttr,xd,nI,g1,g2,j,i,tk,e,g,afL,alb,aj8];simp[l,n]
  ·have g: ¬(x.aR:Int)=ab:=by omega
   cases s
   ·simp only[F1,go_sem,simprocAttr,xd,nI,g1,g2,j,i,tk,e,g,afL,alb,aj8];simp[l,n]
   ·simp only[F1,go_sem,simprocAttr,xd,nI,g1,g2,j,i,tk,e,g,afL,alb,aj8];simp[l,n]
 ·have e: ¬(x.aL:Int)=aL:=by omega
  cases s
  ·simp only[F1,go_sem,simprocAttr,xd,nI,g1,j,i,tk,e,afL,alb,aj8];simp[l]
  ·simp only[F1,go_sem,simprocAttr,xd,nI,g1,j,i,tk,e,afL,alb,aj8];simp[l]
def VI(k:bg)(hk:gy k)(aL ab:Nat)(H:List ae)(lo:oN):
  D X (.fn (.func EE) [] []) [.agg (bW k),.int .u32 aL,.int .u32 ab] ⟨H,lo⟩=some (.ret (.au [.int .i64 (Cb k aL ab:Nat),.bool (sP k aL ab)]) ⟨H,lo⟩):=by
 obtain⟨N,a⟩: ∃N,H.length=N:=⟨_,rfl⟩;obtain⟨w,e1,c,e3⟩:=MM (S:=Bool) k hk (.fn (.func J2) [] [.ptr (N+1) 0,.ptr (N+2) 0,.ptr (N+3) 0]) (isRight aL ab) (λs x=>s|| (isRight aL ab x&&x.mu)) false (N+4)
  (λs=>H++[.box (bW k) none,.box [.int .u32 aL] none,.box [.int .u32 ab] none,.box [.bool s] none]) (λ_=>by grind) (λs x L _=>avo k aL ab s x N H a L) none
 have hm:jr k (λs x=>s|| (isRight aL ab x&&x.mu)) false (bm k.b).length=sP k aL ab:=by
  unfold jr sP;rw[ahn,ajp (λh=>isRight aL ab (b9 k h).1&& (b9 k h).1.mu),au3]
 rw[hm]at e1;refine aF TV λM b=>?_
 obtain rfl:M=N:=by rw[<-b,a]
 simp only[F1,go_sem,simprocAttr,TV,b,e1,c.bL];rfl
section
variable(k:bg)(hk:gy k)(aL ab:Nat)(ha:ab<4294967296)(H:List ae)(lo:oN)
include hk ha
theorem ajq:D X (.fn (.func Ez) [] []) [.agg (bW k),.int .u32 aL,.int .u32 ab] ⟨H,lo⟩=some (.ret (.bool (xl k aL ab)) ⟨H,lo⟩):=by
 refine aF L5 λN d=>?_
 have hr:=VI k hk aL ab;have b:=λH lo=>up dk (VG k ab ha H lo)
 have c:xl k aL ab=(nj k ab&& !sP k aL ab):=rfl;cases a:nj k ab
 ·rw[a]at b c;simp only[F1,go_sem,simprocAttr,L5,d,hr,b,c,akI]
 ·rw[a]at b c;simp only[F1,go_sem,simprocAttr,L5,d,hr,b,c,ao1]
theorem ajr:D X (.fn (.func EA) [] []) [.agg (bW k),.int .u32 aL,.int .u32 ab] ⟨H,lo⟩=some (.ret (.bool (zD k aL ab)) ⟨H,lo⟩):=by
 refine aF L6 λN d=>?_
 have hr:=VI k hk aL ab;have b:=λH lo=>up dk (VG k ab ha H lo)
 have c:zD k aL ab=(nj k ab&&decide (Cb k aL ab=0)):=rfl;cases a:nj k ab
 ·rw[a]at b c;simp only[F1,go_sem,simprocAttr,L6,d,hr,b,c,akI]
 ·rw[a]at b c;simp only[F1,go_sem,simprocAttr,L6,d,hr,b,c,ao1];simp_all
end
section
set_option maxHeartbeats 2000000
def avp(k:bg)(A:gy k)(x:Tok)(B:ub x)(H:List ae)(lo:oN):
  D X (.fn (.func Rq) [] []) [.agg (bW k),.agg (fC x)] ⟨H,lo⟩=some (.ret (.int .i64 (p7 k x:Nat)) ⟨H,lo⟩):=by
 refine aF jJ λN o=>?_
 have hr:=VI k A x.aL x.aR;have l:=λH lo=>up dk (VG k x.aR B.aR H lo)
 have a:=λH lo=>up dk (Cu k A x.aR B.aR H lo)
 have C:=A.get x.aR;have b:p7 k x=if nj k x.aR=false then 4
  else if 8<=x.iM\/8<=x.to\/x.iM=x.to\/x.aL=0 then 2
  else if x.aR≠0/\ ((b9 k x.aR).1.aL≠x.aL\/ (b9 k x.aR).1.to≠x.iM\/ (x.mu=true/\ (b9 k x.aR).1.mu=false))then 12
  else if sP k x.aL x.aR=true\/ (x.mu=true/\0<Cb k x.aL x.aR)then 5
  else 0:=rfl
 generalize hu: (b9 k x.aR).1=w at*;generalize J:Cb k x.aL x.aR=n at*;have z:=nI w;have y:=nI x;rw[z]at a;rw[y];cases r:nj k x.aR with
 |false=>
  rw[afJ r]at b;rw[r]at l;simp only[F1,go_sem,simprocAttr,jJ,o,hr,l,a,b]
 |true=>
  rw[afB (by rw[r];simp)]at b;rw[r]at l;by_cases I:8<=x.iM
  ·rw[afJ (.inl I)]at b;have d: (x.iM:Int)>=8:=by omega
   simp only[F1,go_sem,simprocAttr,jJ,o,hr,l,a,b,d]
  ·have d: ¬(x.iM:Int)>=8:=by omega
   by_cases G:8<=x.to
   ·rw[afJ (.inr (.inl G))]at b;have e: (x.to:Int)>=8:=by omega
    simp only[F1,go_sem,simprocAttr,jJ,o,hr,l,a,b,d,e]
   ·have e: ¬(x.to:Int)>=8:=by omega
    by_cases F:x.iM=x.to
    ·rw[afJ (.inr (.inr (.inl F)))]at b;have f:decide ((x.iM:Int)=x.to)=true:=ag9 (by omega);simp only[F1,go_sem,simprocAttr,jJ,o,hr,l,a,b,d,e,f]
    ·have f: ¬(x.iM:Int)=x.to:=by omega
     by_cases E:x.aL=0
     ·rw[afJ (.inr (.inr (.inr E)))]at b;have g:decide ((x.aL:Int)=0)=true:=ag9 (by omega);simp only[F1,go_sem,simprocAttr,jJ,o,hr,l,a,b,d,e,f,g]
     ·have g: ¬(x.aL:Int)=0:=by omega
      rw[afB (by omega)]at b;by_cases t:x.aR=0
      ·have i:decide (¬(x.aR:Int)=0)=false:=ag7 (by omega);rw[afB (λh=>h.1 t)]at b;cases hm:sP k x.aL x.aR
       ·rw[hm]at hr b;cases q:x.mu
        ·rw[q,afB (by simp)]at b;simp only[F1,go_sem,simprocAttr,jJ,o,hr,l,a,b,d,e,f,g,i]
        ·rw[q]at b;by_cases c:0<n
         ·have s: (n:Int)>0:=by omega
          rw[afJ (.inr ⟨rfl,c⟩)]at b;simp only[F1,go_sem,simprocAttr,jJ,o,hr,l,a,b,d,e,f,g,i,s]
         ·have s: ¬(n:Int)>0:=by omega
          rw[afB (by simp;omega)]at b;simp only[F1,go_sem,simprocAttr,jJ,o,hr,l,a,b,d,e,f,g,i,s]
       ·rw[hm]at hr b;rw[afJ (.inl rfl)]at b;simp only[F1,go_sem,simprocAttr,jJ,o,hr,l,a,b,d,e,f,g,i]
      ·have i: ¬(x.aR:Int)=0:=by omega
       by_cases v:w.aL=x.aL
       ·have j:decide (¬(w.aL:Int)=x.aL)=false:=ag7 (by omega);by_cases u:w.to=x.iM
        ·have m:decide (¬(w.to:Int)=x.iM)=false:=ag7 (by omega);cases q:x.mu
         ·rw[q,afB (by simp[v,u])]at b;cases hm:sP k x.aL x.aR
          ·rw[hm,afB (by simp)]at b;rw[hm]at hr;simp only[F1,go_sem,simprocAttr,jJ,o,hr,l,a,b,d,e,f,g,i,j,m]
          ·rw[hm]at hr b;rw[afJ (.inl rfl)]at b;simp only[F1,go_sem,simprocAttr,jJ,o,hr,l,a,b,d,e,f,g,i,j,m]
         ·cases p:w.mu
          ·rw[q,p,afJ (by simp[t])]at b;simp only[F1,go_sem,simprocAttr,jJ,o,hr,l,a,b,d,e,f,g,i,j,m,p]
          ·rw[q,p,afB (by simp[v,u])]at b;cases hm:sP k x.aL x.aR
           ·rw[hm]at hr b;by_cases c:0<n
            ·have s: (n:Int)>0:=by omega
             rw[afJ (.inr ⟨rfl,c⟩)]at b;simp only[F1,go_sem,simprocAttr,jJ,o,hr,l,a,b,d,e,f,g,i,j,m,p,s]
            ·have s: ¬(n:Int)>0:=by omega
             rw[afB (by simp;omega)]at b;simp only[F1,go_sem,simprocAttr,jJ,o,hr,l,a,b,d,e,f,g,i,j,m,p,s]
           ·rw[hm]at hr b;rw[afJ (.inl rfl)]at b;simp only[F1,go_sem,simprocAttr,jJ,o,hr,l,a,b,d,e,f,g,i,j,m,p]
        ·have m: ¬(w.to:Int)=x.iM:=by omega
         rw[afJ ⟨t,.inr (.inl u)⟩]at b;simp only[F1,go_sem,simprocAttr,jJ,o,hr,l,a,b,d,e,f,g,i,j,m]
       ·have j: ¬(w.aL:Int)=x.aL:=by omega
        rw[afJ ⟨t,.inl v⟩]at b;simp only[F1,go_sem,simprocAttr,jJ,o,hr,l,a,b,d,e,f,g,i,j]
end
theorem ajs:uT.length=176:=by rfl
theorem ajt:List.drop 176 uT=[]:=by rfl
theorem aju{k:bg}:List.drop 176 (bW k)=[]:=by rfl
theorem qi:type_of% ajs/\type_of% ajt/\type_of% @aju/\type_of% Mo/\type_of% Mp:=⟨ajs,ajt,@aju,Mo,Mp⟩
def avq(k:bg)(q:gy k)(x:Tok)(v:ub x)(H:List ae)(lo:oN):
  D X (.fn (.func Q8) [] []) [.agg (bW k),.agg (fC x)] ⟨H,lo⟩=some (.ret (.au [.agg (bW (ln k x).1),.int .u32 (ln k x).2.1,.int .i64 (ln k x).2.2]) ⟨H,lo⟩):=by
 refine aF B4 λN r=>?_
 have hm:=avp k q x v;have e:=λH lo=>up dk (aik k.b q.b H lo)
 have a:=nI x;have d:ln k x=if p7 k x≠0 then(k,0,p7 k x)
  else match ni k.b with
  |some i=>if i<16 then({b:=aq k.b i {k.b i with eH:=true},t:=aq k.t i x},c7 i (k.b i).gen,0)else(k,0,7)
  |none=>(k,0,7):=rfl
 by_cases c:p7 k x=0
 ·rw[afB (by omega)]at d;have p:decide (¬(p7 k x:Int)=0)=false:=ag7 (by omega);cases j:ni k.b with
  |none=>
   rw[j]at d;simp only at d;have s:=λH lo=>up dk (jN 0 (by omega) H lo)
   have m: ∀H lo,D X (.fn (.func lT) [] []) [.int .u32 0] ⟨H,lo⟩=some (.ret (iv 0) ⟨H,lo⟩):=s;have u:iv 0= .au [.int .i64 0,.bool false]:=rfl;rw[a]at hm;rw[a];simp only[F1,go_sem,simprocAttr,B4,r,hm,p,e,s5,pY,j,m,u,qi,d]
  |some i=>
   rw[j]at d;simp only at d;obtain⟨n,z,y,w⟩:=sQ j;have hs:eC (c7 i (k.b i).gen)=some i:=Uy n (q.b i).1;have l:=λH lo=>up dk (jN (c7 i (k.b i).gen) (Ge n (q.b i).1) H lo)
   by_cases h:i<16
   ·rw[afJ h]at d;have f: ¬(i:Int)>=16:=by omega
    have o: (i:Int)<16:=by omega
    have g:=as9 (k:={k with b:=aq k.b i {k.b i with eH:=true}}) (x:=x) h;rw[a]at hm g;rw[a];simp only[F1,go_sem,simprocAttr,B4,r,hm,p,e,s5,pY,j,l,iv,hs,f,o,qi,ahS,g,d];exact⟨by simp,by omega⟩
   ·rw[afB h]at d;have f: (i:Int)>=16:=by omega
    rw[a]at hm;rw[a];simp only[F1,go_sem,simprocAttr,B4,r,hm,p,e,s5,pY,j,l,iv,hs,f,qi,d]
 ·rw[afJ c]at d;have p: ¬(p7 k x:Int)=0:=by omega
  rw[a]at hm;rw[a];simp only[F1,go_sem,simprocAttr,B4,r,hm,p,qi,d]
def ajv{k:bg}(a:gy k): ∀l,gy (nr k l):=by
 intro l
 induction l generalizing k with
 |nil=>exact a
 |cons h l b=>
  refine b ⟨Gf a.b h,λi c=>?_,a.t⟩;refine a.lt i ?_;revert c;show((ek k.b h).1 i).eH=true->_;unfold ek;split
  ·show(aq k.b (aN h) (rm (k.b (aN h))) i).eH=true->_;by_cases e:i=aN h
   ·rw[e,cT];unfold rm;grind
   ·rw[dj e];exact id
  grind
def avr{k:bg}{l:lN}(h:n<l.length):nr k (l.take (n+1))={nr k (l.take n)with b:=(ek (nr k (l.take n)).b (l.getD n default)).1}:=by
 unfold nr;rw[aiV,ag6 h,ao4,getD_eq h];rfl
def ajw(k:bg)(r:gy k)(w:AV)(l:lN)(H:List ae)(c:Rd ⟨H,none⟩ w 1 (l.map hC))(q: ∀h∈l,h<4294967296)(p:l.length<2^40)(lo:oN):
  D X (.fn (.func JS) [] []) [.agg (bW k),w] ⟨H,lo⟩=some (.ret (.agg (bW (nr k l))) ⟨H,lo⟩):=by
 refine aF TG λN t=>?_
 have a: ∀L lo,fj ⟨H++L,lo⟩ .sl w=some (.int .i64 l.length):=λL lo=>(c.ext (L:=L) (ak:=lo)).bL
 simp only[go_sem,simprocAttr,TG,t,a];refine dV l.length (λn e H'=>H'=H++[.box (bW (nr k (l.take n))) none,.box uT none]/\e 2= .ptr N 0/\e 4= .ptr (N+1) 0/\e 7=w/\e 8= .int .i64 l.length/\e 9= .int .i64 n) 0 (by omega) ?_ ?_
 ·trivial
 rintro n x e H' ⟨rfl,j,i,e7,e8,g⟩ v o;simp(disch:=omega) only[bR,F1,go_sem,simprocAttr,agZ,j,i,e7,e8,g];refine⟨λs=>?_,λs=>?_⟩
 ·have b:n<l.length:=by omega
  have f:=ajv r (l.take n);have m:=λH lo=>up dk (ail (nr k (l.take n)).b f.b (l.getD n default) (q _ (eX b)) H lo)
  have d:=avr (k:=k) b;have u: ∀L lo,cg X ⟨H++L,lo⟩ false 1 (fu w n 0)=some (.int .u32 (l.getD n default:Nat)):=λL lo=>by rw[(c.ext (L:=L) (ak:=lo)).cD b,pH]
  simp(disch:=omega) only[go_sem,simprocAttr,c.ck,u,m,zI,ahS,j,i,e7,e8,g];exact⟨by omega,b,by rw[d]⟩
 ·obtain rfl:n=l.length:=by omega
  rw[ahn];simp only[go_sem,simprocAttr,qi]
def avs(k:bg)(c:gy k)(a:Nat)(H:List ae)(lo:oN):
  D X (.fn (.func Rm) [] []) [.agg (bW k),.int .u32 a] ⟨H,lo⟩=some (.ret (.agg (bW (Mj k a))) ⟨H,lo⟩):=by
 refine aF Tz λN d=>?_
 obtain⟨w,e1,e,e3⟩:=VH k c a (H++[.box (bW k) none,.box uT none]) none;have b:=λH lo=>ajw k c w (nq k a) H (e _) (λh hm=>gg ((jm c.b).1 (aiJ.1 hm).1)) (by have:=nm k.b;have: (nq k a).length<=_:=amL _ _;omega) lo
 have f:nr k (nq k a)=Mj k a:=rfl;simp only[F1,go_sem,simprocAttr,Tz,d,e1,b,qi,f]
def nJ(h:Nat):AV×AV:=(.int .u32 h,.bool true)
def mP(a:lN)(k:Nat):lN:=if k∈a then a else a++[k]
def ajx(a b:Nat):oX (.int .u32 a) (.int .u32 b)=some (decide (a=b)):=by
 have h:oX (.int .u32 (a:Nat)) (.int .u32 (b:Nat))=some ((a:Int)==(b:Int)):=rfl;rw[h]
 congr 1
 grind
theorem ajy(k:Nat): ∀b:lN,dS (.int .u32 k) (b.map nJ)=some (if k∈b then some (.bool true)else none)
 | []=>rfl
 |a::b=>by
  simp only[aoZ,nJ,dS,ajx];by_cases h:k=a
  ·grind
  ·simp only[h,aDx,ai2,false_or];exact ajy k b
theorem ajz(k:Nat): ∀b:lN,lM (.int .u32 k) (.bool true) (b.map nJ)=some ((mP b k).map nJ)
 | []=>rfl
 |a::b=>by
  simp only[aoZ,nJ,lM,ajx];unfold mP;by_cases h:k=a
  ·subst h;simp[nJ]
  ·simp only[h,aDx,ai2,false_or];rw[ajz k b];unfold mP;split<;>rfl
def avt{gm:Nat->Option (List (AV×AV))}{H:List ae}{id:Nat}{a:lN}(h:H[id]?=some (.map (a.map nJ)))(k:Nat):gP gm ⟨H,lo⟩ .int (.bool false) (.mp id) (.int .u32 k) false=some (.bool (a.contains k)):=by
 unfold gP;rw[afJ (show kS .int (.int .u32 (k:Nat))=true from rfl)];simp only[mapOf,h,ajy]
 grind
def avu{H:List ae}{id:Nat}{a:lN}(h:H[id]?=some (.map (a.map nJ)))(k:Nat):mj ⟨H,lo⟩ .int (.mp id) (.int .u32 k) (.bool true)=some ⟨H.set id (.map ((mP a k).map nJ)),lo⟩:=by
 unfold mj;simp only[h,ajz];rfl
theorem avv{a:lN}{k:Nat}:x∈mP a k↔x=k\/x∈a:=by
 unfold mP
 grind
def avw{l:lN}: ∀ {b:lN} {x:Nat},x∈l.foldl mP b↔x∈l\/x∈b:=by
 induction l with
 |nil=>simp
 |cons a l c=>grind [avv]
def xD(k:bg):Nat->Nat->Prop
 |0,_=>False
 |n+1,h=> ∀x∈UW k h,xD k n x
def dm(k:bg)(N:Nat)(H:List ae)(m:lN):List ae:=H++[.box (bW k) none,.box uT none,.map (m.map nJ),.box [.mp (N+2)] none,.box [.fn (.func Bq) [] [.ptr (N+3) 0,.ptr N 0,.ptr (N+4) 0]] none]
def Cv{k:bg}{N:Nat}{H:List ae}(a:H.length=N)(m:lN): (dm k N H m).length=N+5:=by simp[dm,a]
def avx(h:Nat)(x:Tok)(p:Nat)(H:List ae)(a:H[p]?=some (.box [.int .u32 (h:Nat)] none))(lo:oN):
  D X (.fn (.func JR) [] [.ptr p 0]) [.agg (fC x)] ⟨H,lo⟩=some (.ret (.bool (decide (x.aR=h))) ⟨H,lo⟩):=by
 refine eP TF λN b=>?_
 have c: ∀L,(H++L)[p]?=_:=λL=>bc a
 simp only[F1,go_sem,simprocAttr,TF,b,nI,c];exact da (akG AV.bool (aht.2 (by omega))) rfl
def avy(k:bg)(A:gy k)(N:Nat)(H:List ae)(d:H.length=N): ∀ (n h:Nat),h<4294967296->xD k n h-> ∀ (m:lN) (L:List ae),
  D X (.fn (.func Bq) [] [.ptr (N+3) 0,.ptr N 0,.ptr (N+4) 0]) [.int .u32 h] ⟨dm k N H m++L,none⟩=some (.ret (.au []) ⟨dm k N H ((ns k n h).foldl mP m)++L,none⟩):=by
 intro n
 induction n with
 |zero=>intro h _ u;exact u.elim
 |succ n C=>
  intro h R u m L;refine eP TE λM B=>?_
  have g:M=N+5+L.length:=by rw[<-B,ahc,Cv d]
  have O: ∀m a,(dm k N H m++a)[N]?=some (.box (bW k) none):=λm a=>by unfold dm;rw[afL,di d];rfl
  have g2: ∀m a,(dm k N H m++a)[N+2]?=some (.map (m.map nJ)):=λm a=>by unfold dm;rw[afL,bA d];rfl
  have K: ∀m a,(dm k N H m++a)[N+3]?=some (.box [.mp (N+2)] none):=λm a=>by unfold dm;rw[afL,bA d];rfl
  have J: ∀m a,(dm k N H m++a)[N+4]?=some (.box [.fn (.func Bq) [] [.ptr (N+3) 0,.ptr N 0,.ptr (N+4) 0]] none):=λm a=>by unfold dm;rw[afL,bA d];rfl
  have gm: ∀m o,(dm k N H m++(L++[o]))[M]?=some o:=λm o=>by
   have:M=(dm k N H m++L).length:=by rw[g,ahc,Cv d]
   rw[<-afL,this];simp
  have s2: ∀m m' a,(dm k N H m++a).set (N+2) (.map (m'.map nJ))=dm k N H m'++a:=λm m' a=>by unfold dm;rw[afL,mZ d,afL];rfl
  have tk: ∀m o,(dm k N H m++(L++[o])).take M=dm k N H m++L:=λm o=>by
   rw[<-afL];exact apE (by rw[g,ahc,Cv d])
  have v: ∀m a lo,mj ⟨dm k N H m++a,lo⟩ .int (.mp (N+2)) (.int .u32 (h:Nat)) (.bool true)=some ⟨dm k N H (mP m h)++a,lo⟩:=λm a lo=>by rw[avu (g2 m a),s2]
  obtain⟨w,e1,r,e3⟩:=MM (S:=Unit) k A (.fn (.func JR) [] [.ptr M 0]) (λx=>decide (x.aR=h)) (λs _=>s) () (M+1) (λ_=>dm k N H (mP m h)++(L++[.box [.int .u32 h] none])) (λ_=>by rw[g,ahc,Cv d];simp;omega)
   (λs x a _=>avx h x M _ (bc (gm _ _)) none) none
  simp only[go_sem,simprocAttr,TE,B,O,K,gm,v,e1,r.bL,afL];obtain⟨b,c⟩: ∃b,b=UW k h:=⟨_,rfl⟩;have i:sO k (λx=>decide (x.aR=h))=b:=c.symm;rw[i]at r⊢;have F:b.length<=32:=by rw[c];exact akH (amL _ _) (nm k.b)
  have z: ∀j,j<b.length->(b.take (j+1)).flatMap (ns k n)=(b.take j).flatMap (ns k n)++ns k n (b.getD j default):=λj y=>by
   rw[aiV,ag6 y,apR,getD_eq y];simp
  refine dV b.length (λj e H'=>H'=dm k N H (((b.take j).flatMap (ns k n)).foldl mP (mP m h))++(L++[.box [.int .u32 h] none])/\e 3= .ptr (N+4) 0/\e 11=w/\e 12= .int .i64 b.length/\e 13= .int .i64 j) 0 (by omega) ?_ ?_
  ·simp only[go_sem,simprocAttr];simp
  rintro j y e H' ⟨rfl,P,q,p,l⟩ Q E;simp only[bR,F1,go_sem,simprocAttr,agY,q,p,l];refine⟨λI=>?_,λI=>?_⟩
  ·have f:j<b.length:=by omega
   have hm:=eX f;have t:ax k.b (b.getD j default)=true:=(jm A.b).1 (by rw[c]at hm⊢;exact(aiJ.1 hm).1);have G:=C (b.getD j default) (gg t) (u _ (by rw[c]at hm⊢;exact hm)) (((b.take j).flatMap (ns k n)).foldl mP (mP m h)) (L++[.box [.int .u32 h] none]);simp(disch:=omega) only[go_sem,simprocAttr,r.ck,r.cD,↓pH,P,q,p,l,J,G];refine⟨by omega,f,?_⟩;rw[z j f,ao4]
  ·obtain rfl:j=b.length:=by omega
   rw[ahn];simp only[go_sem,simprocAttr,tk];rw[c];rfl
def xE(k:bg)(h n:Nat):lN:=((bm k.b).take n).filter λx=>(ns k 16 h).contains x
def avz{k:bg}(a:n< (bm k.b).length):xE k h (n+1)=if(ns k 16 h).contains ((bm k.b).getD n default)then xE k h n++[(bm k.b).getD n default]else xE k h n:=by
 unfold xE;rw[aiV,ag6 a,azt,getD_eq a]
 grind
theorem avA{k:bg}: (xE k h n).length<=n:=akH (amL _ _) (by grind)
def ajA(k:bg)(A:gy k)(h:Nat)(Y:h<4294967296)(ht:ax k.b h=true->xD k 16 h)(H:List ae)(lo:oN):
  ∃w,D X (.fn (.func Et) [] []) [.agg (bW k),.int .u32 h] ⟨H,lo⟩=some (.ret (.au [.agg (bW (mJ k h).1),w,.int .i64 (mJ k h).2.2]) ⟨H,lo⟩):=by
 suffices hs: ∃z,D X (.fn (.func Et) [] []) [.agg (bW k),.int .u32 h] ⟨H,lo⟩=some z/\ (λz=> ∃w,z=aS.ret (.au [.agg (bW (mJ k h).1),w,.int .i64 (mJ k h).2.2]) ⟨H,lo⟩) z by
  obtain⟨z,h1,w,rfl⟩:=hs;exact⟨w,h1⟩
 refine cy LV λN c=>?_
 have j:=λH lo=>up dk (eo k.b h Y H lo)
 cases y:ax k.b h with
 |false=>
  rw[y]at j;have V:mJ k h=(k,[],4):=by unfold mJ;rw[y];rfl
  simp only[F1,go_sem,simprocAttr,LV,c,j,qi,V];exact⟨_,rfl⟩
 |true=>
  rw[y]at j;have V:mJ k h=(nr k (rp k h),rp k h,0):=by unfold mJ;rw[y];rfl
  have B:=avy k A N H c 16 h Y (ht y) [] [];have F: ∀m,dm k N H m=H++[.box (bW k) none,.box uT none,.map (m.map nJ),.box [.mp (N+2)] none,.box [.fn (.func Bq) [] [.ptr (N+3) 0,.ptr N 0,.ptr (N+4) 0]] none]:=λ_=>rfl
  rw[aiH,aiH,F []]at B;obtain⟨m,hm⟩: ∃m,m=(ns k 16 h).foldl mP []:=⟨_,rfl⟩;rw[<-hm]at B;obtain⟨v,J,i1,i2⟩:=Vm k.b A.b (N+5) (dm k N H m) (Cv c m) none;have C:D X (.fn (.func iH) [] []) [.agg (bY k.b)] ⟨dm k N H m,none⟩=some _:=s7 (p:=mb) rfl i1;have g0: ∀d,(dm k N H m++d)[N]?=some (.box (bW k) none):=λd=>by unfold dm;rw[afL,di c];rfl
  have g:=(mc i2 none).bL;have I:max (N+3+1) (max (N+1) (N+4+1))<=N+4+1:=by omega
  simp only[azp]at B;have P:N<=N+1:=Nat.le_succ N;have R: (dm k N H m)[N]?=some (.box (bW k) none):=by have:=g0 [];rwa[aiH]at this
  simp only[go_sem,simprocAttr,LV,c,j,B,C,g,I,P,R];have g1: ∀d,(dm k N H m++d)[N+1]?=some (.box uT none):=λd=>by unfold dm;rw[afL,bA c];rfl
  have g2: ∀d,(dm k N H m++d)[N+2]?=some (.map (m.map nJ)):=λd=>by unfold dm;rw[afL,bA c];rfl
  have Z: ∀d,(dm k N H m++d)[N+3]?=some (.box [.mp (N+2)] none):=λd=>by unfold dm;rw[afL,bA c];rfl
  have K: ∀x,m.contains x=(ns k 16 h).contains x:=λx=>by
   rw[apN,au7,au7,hm,avw];simp
  have sd:=nm k.b;refine dV (bm k.b).length (λn e H'=> ∃L,H'=dm k N H m++(J++L)/\ (∃l,e 9=l/\aQ (N+5+J.length) H' l 1 bZ ((xE k h n).map hC))/\e 2= .ptr N 0/\e 4= .ptr (N+1) 0/\e 7= .ptr (N+3) 0/\e 25=v/\e 26= .int .i64 (bm k.b).length/\e 27= .int .i64 n) 0 (by omega) ?_ ?_
  ·simp only[go_sem,simprocAttr];exact⟨[],by simp,_,rfl,aQ.ai⟩
  rintro n hn e H' ⟨L,rfl,⟨l,S,a⟩,U,T,e7,t,s,r⟩ n' HC;simp only[bR,go_sem,simprocAttr,agP,U,t,s,r];refine⟨λhc=>?_,λhc=>?_⟩
  ·have i:n< (bm k.b).length:=by omega
   have b:=avz (k:=k) (h:=h) i;have o:Rd ⟨dm k N H m++(J++L),none⟩ v 1 ((bm k.b).map hC):=mc (by have:=i2.ext (L:=L);rwa[afL]at this) none;have Q:=o.cD (X:=X) (off:=0) (n:=1) (agg:=false) i;rw[pH]at Q;generalize(bm k.b).getD n default=x at*;have f: ∀gm,gP gm ⟨dm k N H m++(J++L),none⟩ .int (.bool false) (.mp (N+2)) (.int .u32 (x:Nat)) false=some (.bool ((ns k 16 h).contains x)):=λgm=>by rw[avt (g2 _),K]
   have sc:=avA (k:=k) (h:=h) (n:=n);cases W: (ns k 16 h).contains x
   ·rw[W]at f b;simp(disch:=omega) only[go_sem,simprocAttr,U,T,e7,S,t,s,r,o.ck,Q,Z,f];rw[afB (by simp)]at b;exact⟨by omega,i,L,rfl,l,rfl,by rw[b];exact a⟩
   ·rw[W]at f b;simp only[go_sem,simprocAttr,e7,S,o.ck,Q,Z,f];refine⟨by omega,po (H0:=dm k N H m++J) (ys:=[[.int .u32 (x:Nat)]]) a ⟨_,afL _ _ _⟩ (by rw[ahc,Cv c]) (by omega) (by intro el O;rw[ahe.1 O];rfl) rfl (by unfold room;simp;omega) λv' H2 q G=>?_⟩;obtain⟨L2,rfl⟩:=G;simp(disch:=omega) only[go_sem,simprocAttr,U,T,e7,t,s,r];rw[afJ rfl]at b;refine⟨i,L2,by simp,v',rfl,?_⟩;rw[b,ahs];rwa[afL]at q
  ·obtain rfl:n=(bm k.b).length:=by omega
   have M:xE k h (bm k.b).length=rp k h:=by unfold xE rp;rw[ahn]
   rw[M]at a;have E:=ajw k A l (rp k h) (dm k N H m++(J++L)) (mc a none) (λx hx=>gg ((jm A.b).1 (aiJ.1 hx).1)) (by have: (rp k h).length<=_:=amL _ _;omega) none;simp only[go_sem,simprocAttr,T,S,g0,g1,E,qi,cG (g1 _)];have u:j8 N H (dm k N H m++(J++L)):=by unfold dm;rw[afL];exact j8.app c
   have ho:aQ N ((dm k N H m++(J++L)).set (N+1) (ae.box (bW (nr k (rp k h))) none)) l 1 bZ ((rp k h).map hC):=aQ.nH (aQ.le a (by omega)) (g1 _);rw[V,ai5 (.inl rfl) ho ?_ ?_ ?_]
   ·exact⟨bt l ((rp k h).map hC),da rfl ((u.set (by omega)).take c)⟩
   ·rw[bD (λ_=>rfl)];omega
   ·simp[AV.refs,Me]
   ·simp[AV.refs]
end Go.Proofs.YteplichagkpciaaGreatDoor
