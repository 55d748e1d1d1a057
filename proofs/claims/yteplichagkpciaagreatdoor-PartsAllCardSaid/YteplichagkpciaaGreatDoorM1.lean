/- What functions do; conditions as stated. -/
import Derived.Test.YteplichagkpciaaGreatDoorC
set_option linter.all false
set_option maxRecDepth 10000
set_option maxHeartbeats 1000000
namespace Go.Proofs.YteplichagkpciaaGreatDoor
open Go Go.Den
variable{α:Type}{f:FuncId}{i j n sz h a x aj b aa:Nat}{v:AV}{l:List α}{p:α->Bool}{pf:PF}{lo ak:oN}{af:List lA}
def adO:=@decide_eq_false
def aec:=@decide_eq_true
def aeh:=@List.mem_singleton
def afB:=@decide_eq_decide
def afG:=@List.mem_cons_self
def ag4:=@Bool.false_and
def aka:=@List.length_filter_le
def akQ:=@List.set_set
def al4:=@Bool.eq_iff_iff
def amu:=@List.foldl_append
def anF:=@Int.natCast_add
def aoe:=@List.take_left'
def aol:=@Int.cast_ofNat_Int
def apP:=@List.set_append_right
def apR:=@List.findIdx?_eq_some_iff_getElem
def ap3:=@List.map_eq_nil_iff
def ap4:=@List.getElem_of_mem
def aqb:=@Bool.and_false
def aqe:=@List.prefix_rfl
def awF:=@Option.isSome_some
def awG:=@Option.isSome_none
def azJ:=@Bool.not_false
def azK:=@List.length_pos_iff
def az1:=@Nat.xor_lt_two_pow
def az2:=@List.filter_append
def aAY:=@eq_true
def aB3:=@Nat.and_two_pow_sub_one_eq_mod
def ao{α:Type}(f:Nat->α)(i:Nat)(x:α):Nat->α:=λj=>if j=i then x else f j
theorem bS{f:Nat->α}{x:α}:ao f i x i=x:=adG rfl
theorem bT{f:Nat->α}{x:α}(h:j≠i):ao f i x j=f j:=adE h
def mC{f:Nat->α}:ao f i (f i)=f:=by
 unfold ao;grind
def rp{f:Nat->α}{x y:α}:ao (ao f i x) i y=ao f i y:=by
 unfold ao;grind
def om{β:Type}(g:α->β)(f:Nat->α)(i:Nat)(x:α): (λj=>g (ao f i x j))=ao (λj=>g (f j)) i (g x):=by
 unfold ao;grind
def arr(n:Nat)(f:Nat->lA):lA:=(List.range n).flatMap f
theorem zu(n:Nat)(f:Nat->lA):arr (n+1) f=arr n f++f n:=by
 simp[arr,anC]
theorem BX{k:Nat}{f:Nat->lA}(h: ∀i,(f i).length=k): ∀n,(arr n f).length=n*k
 |0=>by simp[arr]
 |n+1=>by rw[zu,aeb,BX h n,h,apM]
theorem Fo{f g:Nat->lA}: ∀ {n:Nat},(∀i,i<n->f i=g i)->arr n f=arr n g
 |0,_=>rfl
 |n+1,h=>by rw[zu,zu,Fo (n:=n) λi j=>h i (by omega),h n (by omega)]
def aq5(n m:Nat)(f:Nat->lA):arr (n+m) f=arr n f++arr m (λj=>f (n+j)):=by
 induction m with
 |zero=>simp[arr]
 |succ m h=>grind [Nat.add_assoc,zu,List.append_assoc]
def R8{f:Nat->lA}(h:i<n):arr n f=arr i f++(f i++arr (n-i-1) λj=>f (i+1+j)):=by
 obtain⟨m,rfl⟩: ∃m,n=i+1+m:=⟨n-i-1,by omega⟩;rw[aq5,zu,adK,show i+1+m-i-1=m by omega]
theorem KH{f:Nat->lA}(h: ∀i,aL (f i)=0): ∀n,aL (arr n f)=0
 |0=>rfl
 |n+1=>by
  rw[zu];have: ∀a b:lA,aL (a++b)=max (aL a) (aL b):=by
   intro a b
   induction a with
   |nil=>rfl
   |cons x a j=>simp[aL,j,Nat.max_assoc]
  rw[this,KH h n,h];rfl
def Fp(a b:lA):aL (a++b)=max (aL a) (aL b):=by
 induction a with
 |nil=>rfl
 |cons x a f=>simp[aL,f,Nat.max_assoc]
section
variable{ag:Bool}{m off:Nat}{a r vs:lA}
theorem j6(h:a.length<=off):Den.part ag m (a++r) off=Den.part ag m r (off-a.length):=by
 unfold Den.part;cases ag
 ·grind
 ·grind [List.drop_append,List.drop_eq_nil_of_le,List.length_append]
theorem nd(h:off+m<=a.length)(f:0<m):Den.part ag m (a++r) off=Den.part ag m a off:=by
 unfold Den.part
 grind
theorem Fs(h:a.length=m):Den.part true m a 0=some (.agg a):=by
 unfold Den.part
 grind
def kM{k o:Nat}{f:Nat->lA}(h: ∀i,(f i).length=k)(j:i<n)(ho:o+m<=k)(l:0<m):Den.part ag m (arr n f) (i*k+o)=Den.part ag m (f i) o:=by
 rw[R8 j,j6 (by rw[BX h];omega),BX h,show i*k+o-i*k=o by omega,nd (by grind) l]
def hY(h:a.length<=off):aO (a++r) off vs=a++aO r (off-a.length) vs:=by
 unfold aO;rw[axw,adP h,auL,ag5 (by omega),ag8,adK,show off+vs.length-a.length=off-a.length+vs.length by omega]
def rq(h:off+vs.length<=a.length):aO (a++r) off vs=aO a off vs++r:=by
 unfold aO
 grind
def pG(h:a.length=vs.length):aO a 0 vs=vs:=by
 unfold aO
 grind
def nf{k o:Nat}{f:Nat->lA}(h: ∀i,(f i).length=k)(l:i<n)(ho:o+vs.length<=k):aO (arr n f) (i*k+o) vs=arr n (ao f i (aO (f i) o vs)):=by
 have e1:arr i (ao f i (aO (f i) o vs))=arr i f:=Fo λj q=>bT (by omega)
 have p: (arr (n-i-1) λj=>ao f i (aO (f i) o vs) (i+1+j))=arr (n-i-1) λj=>f (i+1+j):=Fo λj _=>bT (by omega)
 rw[R8 (f:=ao f i (aO (f i) o vs)) l,bS,e1,p];rw[R8 l,hY (by rw[BX h];omega),BX h,show i*k+o-i*k=o by omega,rq (by grind)]
end
def R9{ag:Bool}{k:Nat}{cs:lA}(f:k<n)(h:Den.part ag sz cs (k*sz)=some v):qB ag n sz (.agg cs) (.int .i64 k)=some v:=by
 have:qB ag n sz (.agg cs) (.int .i64 k)=if 0<=(k:Int)/\ (k:Int)<n then Den.part ag sz cs ((k:Int).toNat*sz)else none:=rfl
 grind
theorem afk{id off:Nat}:Den.qO n (.ptr id off)= .rd id off (Nat.max n 1):=rfl
theorem afl{id off:Nat}:HI n (.ptr id off)= .wr id off n:=rfl
@[irreducible]def cat (H L:List ae):List ae:=H++L
section
variable{H L M:List ae}{a b c d e g x:ae}{n:Nat}
theorem fK:cat H L=H++L:=by unfold cat;rfl
def KI: (cat H L).length=H.length+L.length:=by rw[fK,aeb]
def Sa:cat H L++M=cat H (L++M):=by rw[fK,fK,adK]
def ct2(h:H.length=n): (cat H L++M).take n=H:=by rw[fK,adK];grind
def ct1(h:H.length=n): (cat H L).take n=H:=by rw[fK];grind
def cg0(h:H.length=n): (cat H (a::L)++M)[n]?=some a:=by rw[fK,adK,dI h];rfl
def OD(h:H.length=n): (cat H (a::L)++M).set n x=cat H (x::L)++M:=by grind [fK,List.append_assoc,HB]
def cp0(h:H.length=n): (cat H (a::L))[n]?=some a:=by rw[fK,dI h];rfl
def cq0(h:H.length=n): (cat H (a::L)).set n x=cat H (x::L):=by grind [fK,HB]
def cg1(h:H.length=n): (cat H (a::b::L)++M)[n+1]?=some b:=by rw[fK,adK,bF h];rfl
def cs1(h:H.length=n): (cat H (a::b::L)++M).set (n+1) x=cat H (a::x::L)++M:=by grind [fK,List.append_assoc,mZ]
def cp1(h:H.length=n): (cat H (a::b::L))[n+1]?=some b:=by rw[fK,bF h];rfl
def cq1(h:H.length=n): (cat H (a::b::L)).set (n+1) x=cat H (a::x::L):=by grind [fK,mZ]
def cg2(h:H.length=n): (cat H (a::b::c::L)++M)[n+2]?=some c:=by rw[fK,adK,bF h];rfl
def cs2(h:H.length=n): (cat H (a::b::c::L)++M).set (n+2) x=cat H (a::b::x::L)++M:=by grind [fK,List.append_assoc,mZ]
def cp2(h:H.length=n): (cat H (a::b::c::L))[n+2]?=some c:=by rw[fK,bF h];rfl
def cq2(h:H.length=n): (cat H (a::b::c::L)).set (n+2) x=cat H (a::b::x::L):=by grind [fK,mZ]
def cg3(h:H.length=n): (cat H (a::b::c::d::L)++M)[n+3]?=some d:=by rw[fK,adK,bF h];rfl
def cs3(h:H.length=n): (cat H (a::b::c::d::L)++M).set (n+3) x=cat H (a::b::c::x::L)++M:=by grind [fK,List.append_assoc,mZ]
def cp3(h:H.length=n): (cat H (a::b::c::d::L))[n+3]?=some d:=by rw[fK,bF h];rfl
def cq3(h:H.length=n): (cat H (a::b::c::d::L)).set (n+3) x=cat H (a::b::c::x::L):=by grind [fK,mZ]
def cg4(h:H.length=n): (cat H (a::b::c::d::e::L)++M)[n+4]?=some e:=by rw[fK,adK,bF h];rfl
def cs4(h:H.length=n): (cat H (a::b::c::d::e::L)++M).set (n+4) x=cat H (a::b::c::d::x::L)++M:=by grind [fK,List.append_assoc,mZ]
def cp4(h:H.length=n): (cat H (a::b::c::d::e::L))[n+4]?=some e:=by rw[fK,bF h];rfl
def cq4(h:H.length=n): (cat H (a::b::c::d::e::L)).set (n+4) x=cat H (a::b::c::d::x::L):=by grind [fK,mZ]
def cg5(h:H.length=n): (cat H (a::b::c::d::e::g::L)++M)[n+5]?=some g:=by rw[fK,adK,bF h];rfl
def cs5(h:H.length=n): (cat H (a::b::c::d::e::g::L)++M).set (n+5) x=cat H (a::b::c::d::e::x::L)++M:=by grind [fK,List.append_assoc,mZ]
def cp5(h:H.length=n): (cat H (a::b::c::d::e::g::L))[n+5]?=some g:=by rw[fK,bF h];rfl
def cq5(h:H.length=n): (cat H (a::b::c::d::e::g::L)).set (n+5) x=cat H (a::b::c::d::e::x::L):=by grind [fK,mZ]
end
structure Slot where
 gen:Nat
 cO:Bool
 ret:Bool
 deriving DecidableEq,Inhabited
abbrev cG:=Nat->Slot
def jv(s:Slot):lA:=[.int .u32 s.gen,.bool s.cO,.bool s.ret]
def bU(b:cG):lA:=arr 32 λi=>jv (b i)
theorem KJ(s:Slot): (jv s).length=3:=rfl
theorem oo(b:cG): (bU b).length=96:=by rfl
theorem Sb(b:cG):aL (bU b)=0:=by rfl
section
variable{b:cG}{i:Nat}
theorem Sc:Den.part true 96 (bU b) 0=some (.agg (bU b)):=by rfl
def afL(h:i<32):Den.part true 3 (bU b) (i*3)=some (.agg (jv (b i))):=kM (k:=3) (o:=0) (f:=λi=>jv (b i)) (λi=>KJ (b i)) h (by omega) (by omega)
def Se(h:i<32):qB true 32 3 (.agg (bU b)) (.int .i64 i)=some (.agg (jv (b i))):=R9 h (afL h)
def afM(h:i<32):Den.part false 1 (bU b) (i*3)=some (.int .u32 (b i).gen):=kM (k:=3) (o:=0) (f:=λi=>jv (b i)) (λi=>KJ (b i)) h (by omega) (by omega)
def afN(h:i<32):Den.part false 1 (bU b) (i*3+1)=some (.bool (b i).cO):=kM (k:=3) (o:=1) (f:=λi=>jv (b i)) (λi=>KJ (b i)) h (by omega) (by omega)
def Sf{s:Slot}{o:Nat}{vs:lA}(h:i<32)(ho:o+vs.length<=3)(j:aO (jv (b i)) o vs=jv s):aO (bU b) (i*3+o) vs=bU (ao b i s):=by
 unfold bU;rw[nf (k:=3) (f:=λi=>jv (b i)) (λi=>KJ (b i)) h ho,j,om]
theorem aq6{g:Nat}(h:i<32):aO (bU b) (i*3) [.int .u32 g]=bU (ao b i {b i with gen:=g}):=Sf (o:=0) h (by simp) rfl
def aq7{g:Nat}(h:i<32):aO (bU b) (i*3) [.int .u32 ((g:Int)+1)]=bU (ao b i {b i with gen:=g+1}):=aq6 (g:=g+1) h
theorem afO{v:Bool}(h:i<32):aO (bU b) (i*3+1) [.bool v]=bU (ao b i {b i with cO:=v}):=Sf (o:=1) h (by simp) rfl
theorem aq8{v:Bool}(h:i<32):aO (bU b) (i*3+2) [.bool v]=bU (ao b i {b i with ret:=v}):=Sf (o:=2) h (by simp) rfl
theorem afP: (bU b).take 96=bU b:=by rfl
end
def fe(h:Nat):oN:=if 1<=h % 256/\h % 256<=32/\h/256<=8388607 then some (h % 256-1)else none
def da(i f:Nat):Nat:=f*256+i+1
def afQ(e:fe h=some i):i<32:=by
 unfold fe at e;grind
def Ft{f:Nat}(h:i<32)(j:f<=8388607):fe (da i f)=some i:=by
 unfold fe da
 grind
def afR{a b c:lA}(h:b=c):a++b=a++c:=by rw[h]
def aCG{a b c:lA}(h:b=c):b++a=c++a:=by rw[h]
abbrev aD:=Nat×Nat
structure cP where
 up:Nat
 cZ:Nat
 runs:List aD
 len:Nat
 cells:Nat->Nat
structure au where
 b:cG
 r:Nat->cP
structure Ow where
 kind:Nat
 aa:Nat
 hold:Nat
 deriving DecidableEq
structure Sd where
 root:Nat
 own:Ow
 deriving DecidableEq
abbrev bI:=Nat->Sd
structure Tok where
 aJ:Nat
 jz:Nat
 to:Nat
 mu:Bool
 aU:Nat
 deriving DecidableEq
structure bo where
 b:cG
 t:Nat->Tok
structure fg where
 fr:Nat
 word:Nat
 aJ:Nat
 share:Bool
 deriving DecidableEq
structure cw where
 ring:Nat->fg
 fr:Nat
 n:Nat
 closed:Bool
structure bm where
 T:au
 O:bI
 K:bo
 bp:Nat->cw
 alive:Nat->Bool
 born:Nat->Bool
structure cn where
 op:Nat
 r:Nat
 s:Nat
 a:Nat
 b:Nat
 v:Nat
 deriving DecidableEq
structure bt where
 e:Nat
 v:Nat
 w:Nat
 deriving DecidableEq
def aA(r:aD):lA:=[.int .i64 (r.1:Nat),.int .i64 (r.2:Nat)]
def eu(l:List aD):AV:=if l.isEmpty then .av else .sl (l.map aA) false
def bM(r:cP):lA:=[.int .u32 r.up,.int .i64 r.cZ,eu r.runs,.int .i64 r.len]++arr 8 λi=>[.int .u32 (r.cells i)]
def xk(f:Nat->cP):lA:=arr 32 λi=>bM (f i)
def aN(t:au):lA:=bU t.b++xk t.r
def j7(o:Ow):lA:=[.int .u8 o.kind,.int .u8 o.aa,.int .u8 o.hold]
def sR(x:Sd):lA:=[.int .u32 x.root,.int .u8 x.own.kind,.int .u8 x.own.aa,.int .u8 x.own.hold]
def cQ(o:bI):lA:=arr 32 λi=>sR (o i)
def gh(x:Tok):lA:=[.int .u32 x.aJ,.int .u8 x.jz,.int .u8 x.to,.bool x.mu,.int .u32 x.aU]
def Fu(f:Nat->Tok):lA:=arr 16 λi=>gh (f i)
def bX(k:bo):lA:=bU k.b++Fu k.t
def eO(m:fg):lA:=[.int .u8 m.fr,.int .u64 m.word,.int .u32 m.aJ,.bool m.share]
def KK(f:Nat->fg):lA:=arr 4 λi=>eO (f i)
def cy(b:cw):lA:=KK b.ring++[.int .i64 b.fr,.int .i64 b.n,.bool b.closed]
def zv(f:Nat->cw):lA:=arr 8 λi=>cy (f i)
def oq(f:Nat->Bool):lA:=arr 8 λi=>[.bool (f i)]
def gQ(T:au)(O:bI)(K:bo):lA:=aN T++(cQ O++bX K)
def bz(s:bm):lA:=aN s.T++(cQ s.O++(bX s.K++(zv s.bp++(oq s.alive++oq s.born))))
def bn(c:cn):lA:=[.int .u8 c.op,.int .u32 c.r,.int .u32 c.s,.int .u32 c.a,.int .u32 c.b,.int .u64 c.v]
def bE(r:bt):lA:=[.int .i64 r.e,.int .u64 r.v,.int .u32 r.w]
theorem zw(r:cP): (bM r).length=12:=by rfl
theorem aCH(f:Nat->cP): (xk f).length=384:=by rfl
theorem iO(t:au): (aN t).length=480:=by rfl
theorem sS(o:bI): (cQ o).length=128:=by rfl
theorem aCI(f:Nat->Tok): (Fu f).length=80:=by rfl
theorem zx(k:bo): (bX k).length=176:=by rfl
theorem afS(f:Nat->fg): (KK f).length=16:=by rfl
theorem zy(b:cw): (cy b).length=19:=by rfl
theorem ot(f:Nat->cw): (zv f).length=152:=by rfl
theorem BY(f:Nat->Bool): (oq f).length=8:=by rfl
theorem j8(T:au)(O:bI)(K:bo): (gQ T O K).length=784:=by simp only[gQ,aeb,iO,sS,zx]
def eP(s:bm): (bz s).length=952:=by simp only[bz,aeb,iO,sS,zx,ot,BY]
def Sg(l:List aD): (eu l).refs=0:=by
 unfold eu;split
 ·rfl
 ·exact bH (λ_=>rfl) l
def aq9{g:Nat->AV}(h: ∀i,(g i).refs=0)(n:Nat):aL (arr n λi=>[g i])=0:=KH (λi=>by simp[aL,h]) n
def Sh(r:cP):aL (bM r)=0:=by
 rw[bM,Fp,aq9 (λ_=>rfl)];simp[aL,AV.refs,Sg]
def ara(f:Nat->cP):aL (xk f)=0:=KH (λi=>Sh (f i)) 32
def xl(t:au):aL (aN t)=0:=by rw[aN,Fp,Sb,ara];rfl
theorem Si(o:bI):aL (cQ o)=0:=by rfl
theorem KM(k:bo):aL (bX k)=0:=by rfl
theorem afT(b:cw):aL (cy b)=0:=by rfl
theorem arb(f:Nat->cw):aL (zv f)=0:=by rfl
theorem arc(f:Nat->Bool):aL (oq f)=0:=by rfl
def ou(s:bm):aL (bz s)=0:=by simp only[bz,Fp,xl,Si,KM,arb,arc];rfl
def mD(l:List aD):Rv (eu l) 2 (l.map aA):=by
 cases l with
 |nil=>exact .av
 |cons a l=>exact .sl (by intro el h;obtain⟨x,_,rfl⟩:=afq.1 h;rfl)
def KN{ag:Bool}{m:Nat}{a b r:lA}{off:Nat}(c:a.length=off):Den.part ag m (a++r) off=Den.part ag m r 0:=by grind [j6]
theorem vt{m:Nat}{a r:lA}(c:a.length=m)(b:0<m):Den.part true m (a++r) 0=some (.agg a):=by grind [nd,Fs]
section
variable{ag:Bool}{m o i:Nat}
theorem afU{r:cP}:Den.part false 1 (bM r) 0=some (.int .u32 r.up):=rfl
theorem afV{r:cP}:Den.part false 1 (bM r) 1=some (.int .i64 r.cZ):=rfl
theorem afW{r:cP}:Den.part false 1 (bM r) 2=some (eu r.runs):=rfl
theorem afX{r:cP}:Den.part false 1 (bM r) 3=some (.int .i64 r.len):=rfl
theorem afY{r:cP}:Den.part true 2 (bM r) 2=some (.agg [eu r.runs,.int .i64 r.len]):=rfl
theorem KO{r:cP}:Den.part true 8 (bM r) 4=some (.agg (arr 8 λi=>[.int .u32 (r.cells i)])):=by rfl
theorem Sj{t:au}:Den.part true 96 (aN t) 0=some (.agg (bU t.b)):=by rfl
theorem afZ{t:au}:Den.part true 480 (aN t) 0=some (.agg (aN t)):=by rfl
def af0{t:au}(h:i<32)(ho:o+m<=12)(a:0<m):Den.part ag m (aN t) (96+i*12+o)=Den.part ag m (bM (t.r i)) o:=by
 unfold aN;rw[j6 (by rw[oo];omega),oo,show 96+i*12+o-96=i*12+o by omega];exact kM (k:=12) (f:=λi=>bM (t.r i)) (λi=>zw _) h ho a
def ard{t:au}(h:i<32):Den.part true 12 (aN t) (96+i*12)=some (.agg (bM (t.r i))):=by
 have:=af0 (ag:=true) (m:=12) (o:=0) (t:=t) h (by omega) (by omega);rw[afs]at this;rw[this,Fs (zw _)]
def Sk{t:au}(h:i<32):Den.part false 1 (aN t) (96+i*12)=some (.int .u32 (t.r i).up):=af0 (o:=0) h (by omega) (by omega)
def KQ{t:au}{r:cP}(h:i<32):aO (aN t) (96+i*12) (bM r)=aN {t with r:=ao t.r i r}:=by
 unfold aN;rw[hY (by rw[oo];omega),oo,show 96+i*12-96=i*12+0 by omega];unfold xk;rw[nf (k:=12) (f:=λi=>bM (t.r i)) (λi=>zw _) h (by rw[zw];omega),pG (by rfl),om]
def af1{t:au}{u:Nat}(h:i<32):aO (aN t) (96+i*12) [.int .u32 u]=aN {t with r:=ao t.r i {t.r i with up:=u}}:=by
 unfold aN;rw[hY (by rw[oo];omega),oo,show 96+i*12-96=i*12+0 by omega];unfold xk;rw[nf (k:=12) (f:=λi=>bM (t.r i)) (λi=>zw _) h (by simp),om];rfl
theorem are{r:cP}{u:Nat}:aO (bM r) 0 [.int .u32 u]=bM {r with up:=u}:=rfl
def af2{r:cP}{u:Nat}(h:i<8):aO (bM r) (4+i) [.int .u32 u]=bM {r with cells:=ao r.cells i u}:=by
 unfold bM;rw[hY (by simp)];refine afR ?_;have:=nf (n:=8) (k:=1) (i:=i) (o:=0) (vs:=[AV.int .u32 u]) (f:=λi=>[AV.int .u32 (r.cells i)]) (λ_=>rfl) h (by simp);rw[show 4+i- [AV.int .u32 r.up,.int .i64 r.cZ,eu r.runs,.int .i64 r.len].length=i*1+0 by simp,this];exact ag3 (arr 8) (om (λu:Nat=>[AV.int .u32 u]) r.cells i u).symm
def af3{w:bI}(h:i<32)(ho:o+m<=4)(a:0<m):Den.part ag m (cQ w) (i*4+o)=Den.part ag m (sR (w i)) o:=
 kM (k:=4) (f:=λi=>sR (w i)) (λ_=>rfl) h ho a
theorem af4{w:bI}:Den.part true 128 (cQ w) 0=some (.agg (cQ w)):=by rfl
def af5{w:bI}(h:i<32):Den.part false 1 (cQ w) (i*4)=some (.int .u32 (w i).root):=af3 (o:=0) h (by omega) (by omega)
def arf{w:bI}(h:i<32):Den.part true 3 (cQ w) (i*4+1)=some (.agg (j7 (w i).own)):=af3 (o:=1) h (by omega) (by omega)
def arh{w:bI}{x:Sd}(h:i<32):aO (cQ w) (i*4) (sR x)=cQ (ao w i x):=by
 have:=nf (n:=32) (k:=4) (i:=i) (o:=0) (vs:=sR x) (f:=λi=>sR (w i)) (λ_=>rfl) h (by simp[sR]);unfold cQ;rw[show i*4=i*4+0 by omega,this,pG (a:=sR (w i)) (vs:=sR x) rfl,om]
theorem af6{k:bo}:Den.part true 96 (bX k) 0=some (.agg (bU k.b)):=by rfl
theorem Sl{k:bo}:Den.part true 176 (bX k) 0=some (.agg (bX k)):=by rfl
def ari{f:Nat->Tok}(h:i<16):Den.part true 5 (Fu f) (i*5)=some (.agg (gh (f i))):=
 kM (k:=5) (o:=0) (f:=λi=>gh (f i)) (λ_=>rfl) h (by omega) (by omega)
def arj{k:bo}(h:i<16):Den.part true 5 (bX k) (96+i*5)=some (.agg (gh (k.t i))):=by
 unfold bX;rw[j6 (by rw[oo];omega),oo,show 96+i*5-96=i*5 by omega];exact ari h
theorem af7{k:bo}{b:cG}:aO (bX k) 0 (bU b)=bX {k with b:=b}:=by rfl
def ark{k:bo}{x:Tok}(h:i<16):aO (bX k) (96+i*5) (gh x)=bX {k with t:=ao k.t i x}:=by
 unfold bX;rw[hY (by rw[oo];omega),oo,show 96+i*5-96=i*5+0 by omega];unfold Fu;rw[nf (k:=5) (f:=λi=>gh (k.t i)) (λ_=>rfl) h (by simp[gh]),pG (a:=gh (k.t i)) (vs:=gh x) rfl,om]
def arl{f:Nat->fg}(h:i<4):Den.part true 4 (KK f) (i*4)=some (.agg (eO (f i))):=
 kM (k:=4) (o:=0) (f:=λi=>eO (f i)) (λ_=>rfl) h (by omega) (by omega)
theorem ru{b:cw}:Den.part true 19 (cy b) 0=some (.agg (cy b)):=by rfl
def af8{b:cw}(h:i<4):Den.part true 4 (cy b) (i*4)=some (.agg (eO (b.ring i))):=by
 unfold cy;rw[nd (by rw[afS];omega) (by omega)];exact arl h
theorem af9{b:cw}:Den.part false 1 (cy b) 16=some (.int .i64 b.fr):=by rfl
theorem BZ{b:cw}:Den.part false 1 (cy b) 17=some (.int .i64 b.n):=by rfl
theorem zA{b:cw}:Den.part false 1 (cy b) 18=some (.bool b.closed):=by rfl
def arn{b:cw}{x:fg}(h:i<4):aO (cy b) (i*4) (eO x)=cy {b with ring:=ao b.ring i x}:=by
 unfold cy;rw[rq (by rw[afS];simp[eO];omega)];unfold KK;rw[show i*4=i*4+0 by omega,nf (k:=4) (f:=λi=>eO (b.ring i)) (λ_=>rfl) h (by simp[eO]),pG (a:=eO (b.ring i)) (vs:=eO x) rfl,om]
theorem aro{b:cw}:aO (cy b) 16 [.int .i64 x]=cy {b with fr:=x}:=by rfl
theorem aga{b:cw}:aO (cy b) 17 [.int .i64 x]=cy {b with n:=x}:=by rfl
theorem arp{b:cw}{x:Bool}:aO (cy b) 18 [.bool x]=cy {b with closed:=x}:=by rfl
def agb{f:Nat->Bool}(h:i<8):Den.part false 1 (oq f) i=some (.bool (f i)):=by
 have:=kM (ag:=false) (m:=1) (n:=8) (k:=1) (i:=i) (o:=0) (f:=λi=>[AV.bool (f i)]) (λ_=>rfl) h (by omega) (by omega);rw[show i*1+0=i by omega]at this;exact this
def arq{f:Nat->cw}(h:i<8):Den.part true 19 (zv f) (i*19)=some (.agg (cy (f i))):=by
 have:=kM (ag:=true) (m:=19) (n:=8) (k:=19) (i:=i) (o:=0) (f:=λi=>cy (f i)) (λ_=>zy _) h (by omega) (by omega);exact this.trans ru
def pJ{T:au}{O:bI}{K:bo}:Den.part true 480 (gQ T O K) 0=some (.agg (aN T)):=vt (iO _) (by omega)
theorem pK{T:au}{O:bI}{K:bo}:Den.part true 128 (gQ T O K) 480=some (.agg (cQ O)):=by
 unfold gQ;rw[KN (b:=[]) (iO _)];exact vt (sS _) (by omega)
theorem ry{T:au}{O:bI}{K:bo}:Den.part true 176 (gQ T O K) 608=some (.agg (bX K)):=by
 unfold gQ;rw[j6 (by rw[iO];omega),iO,KN (b:=[]) (sS _)];exact Sl
theorem ng(s:bm):bz s=gQ s.T s.O s.K++(zv s.bp++(oq s.alive++oq s.born)):=by simp[bz,gQ]
theorem Sm{s:bm}:Den.part true 784 (bz s) 0=some (.agg (gQ s.T s.O s.K)):=by grind [ng,vt,j8]
theorem Sn{s:bm}:Den.part true 952 (bz s) 0=some (.agg (bz s)):=Fs (eP s)
theorem KR{s:bm}:Den.part true 480 (bz s) 0=some (.agg (aN s.T)):=vt (iO _) (by omega)
theorem So{s:bm}:Den.part true 128 (bz s) 480=some (.agg (cQ s.O)):=by grind [ng,nd,j8,pK]
theorem Sp{s:bm}:Den.part true 176 (bz s) 608=some (.agg (bX s.K)):=by grind [ng,nd,j8,ry]
theorem ars{s:bm}(h:i<8):Den.part true 19 (bz s) (784+i*19)=some (.agg (cy (s.bp i))):=by
 rw[ng,j6 (by rw[j8];omega),j8,show 784+i*19-784=i*19 by omega,nd (by rw[ot];omega) (by omega)];exact arq h
def aCJ{s:bm}:Den.part true 152 (bz s) 784=some (.agg (zv s.bp)):=by
 rw[ng,KN (b:=[]) (j8 _ _ _)];exact vt (ot _) (by omega)
theorem agc{s:bm}(h:i<8):Den.part false 1 (bz s) (936+i)=some (.bool (s.alive i)):=by
 rw[ng,j6 (by rw[j8];omega),j8,j6 (by rw[ot];omega),ot,show 936+i-784-152=i by omega,nd (by trivial) (by omega)];exact agb h
def agd{s:bm}:Den.part true 8 (bz s) 936=some (.agg (oq s.alive)):=by
 rw[ng,j6 (by rw[j8];omega),j8,KN (b:=[]) (ot _)];exact vt (BY _) (by omega)
theorem art{s:bm}(h:i<8):Den.part false 1 (bz s) (944+i)=some (.bool (s.born i)):=by
 rw[ng,j6 (by rw[j8];omega),j8,j6 (by rw[ot];omega),ot,j6 (by rw[BY];omega),BY,show 944+i-784-152-8=i by omega];exact agb h
def aru{s:bm}{t:au}:aO (bz s) 0 (aN t)=bz {s with T:=t}:=by
 unfold bz;rw[rq (by grind [iO]),pG (by rw[iO,iO])]
def arv{s:bm}{w:bI}:aO (bz s) 480 (cQ w)=bz {s with O:=w}:=by
 unfold bz;rw[hY (by rw[iO];omega),iO,rq (by grind [sS]),pG (by rfl)]
def arw{s:bm}{k:bo}:aO (bz s) 608 (bX k)=bz {s with K:=k}:=by
 unfold bz;rw[hY (by rw[iO];omega),iO,hY (by rw[sS];omega),sS,rq (by rw[zx,zx];omega),pG (by rfl)]
def arx{s:bm}{b:cw}(h:i<8):aO (bz s) (784+i*19) (cy b)=bz {s with bp:=ao s.bp i b}:=by
 rw[ng,hY (by rw[j8];omega),j8,show 784+i*19-784=i*19+0 by omega,rq (by rw[ot,zy];omega),ng];unfold zv;rw[nf (k:=19) (f:=λi=>cy (s.bp i)) (λ_=>zy _) h (by rw[zy];omega),pG (by rfl),om]
def age{f:Nat->Bool}{v:Bool}(h:i<8):aO (oq f) i [.bool v]=oq (ao f i v):=by
 have:=nf (n:=8) (k:=1) (i:=i) (o:=0) (vs:=[AV.bool v]) (f:=λi=>[AV.bool (f i)]) (λ_=>rfl) h (by simp);rw[show i*1+0=i by omega]at this;unfold oq;rw[this];exact ag3 (arr 8) (om (λv:Bool=>[AV.bool v]) f i v).symm
def agf{s:bm}{v:Bool}(h:i<8):aO (bz s) (936+i) [.bool v]=bz {s with alive:=ao s.alive i v}:=by
 rw[ng,hY (by rw[j8];omega),j8,hY (by rw[ot];omega),ot,show 936+i-784-152=i by omega,rq (by trivial),age h,ng]
def agh{s:bm}{v:Bool}(h:i<8):aO (bz s) (944+i) [.bool v]=bz {s with born:=ao s.born i v}:=by
 rw[ng,hY (by rw[j8];omega),j8,hY (by rw[ot];omega),ot,hY (by rw[BY];omega),BY,show 944+i-784-152-8=i by omega,age h,ng]
end
theorem agi{t:au}: (aN t).take 480=aN t:=by rfl
theorem agj{k:bo}: (bX k).take 176=bX k:=by rfl
theorem agk{r:cP}:Den.part true 12 (bM r) 0=some (.agg (bM r)):=by rfl
theorem agl{t:au}:List.drop 96 (aN t)=xk t.r:=by rfl
theorem agm{b:cG}{r:Nat->cP}:bU b++xk r=aN ⟨b,r⟩:=rfl
theorem agn{u:Nat}{r:cP}:AV.int .u32 (u:Nat)::List.drop 1 (bM r)=bM {r with up:=u}:=rfl
theorem ago{b:cG}{f:Nat->Tok}:bU b++Fu f=bX ⟨b,f⟩:=rfl
theorem Sq(r:aD): (aA r).length=2:=rfl
theorem agp{r:aD}:Den.part false 1 (aA r) 0=some (.int .i64 (r.1:Nat)):=rfl
theorem agq{r:aD}:Den.part false 1 (aA r) 1=some (.int .i64 (r.2:Nat)):=rfl
theorem Sr{r:aD}:Den.part true 2 (aA r) 0=some (.agg (aA r)):=rfl
theorem agr{r:aD}: (aA r).take 2=aA r:=rfl
theorem ags{r:aD}: (aA r).drop 2=[]:=rfl
theorem agt(r:aD):aL (aA r)=0:=rfl
def ML:=gG @Sq<|gG @agr<|gG @ags<|gG @agt<|gG @agl<|gG @agm<|gG @agn<|gG @ago<|gG @afP<|gG @oo<|gG @Sb<|gG @agi<|gG @iO<|gG @xl<|gG @zw<|gG @Sh<|gG @sS<|gG @Si<|gG @agj<|gG @zx @KM
def MP:=gG @agp<|gG @agq<|gG @Sr<|gG @Sc<|gG @afU<|gG @afV<|gG @afW<|gG @afX<|gG @afY<|gG @agk<|gG @Sj<|gG @afZ<|gG @af4<|gG @af6 @Sl
def Zz:type_of% @R2/\type_of% @C1/\type_of% @P1/\type_of% @N1/\type_of% @O1/\type_of% @V1/\type_of% @V2/\type_of% @V3/\type_of% @wrap_i64/\type_of% @wrap_u64/\type_of% @wrap_u8/\type_of% @wrap_u16/\type_of% @wrap_u32/\type_of% @wrap_i32/\type_of% @dI/\type_of% @bF/\type_of% @HB/\type_of% @mZ/\type_of% @mw/\type_of% @Za/\type_of% @ads/\type_of% @Option.isSome_some.{0}/\type_of% @Option.isSome_none.{0}/\type_of% @Option.getD_some.{0}/\type_of% @Option.getD_none.{0}/\type_of% @Bool.not_true/\type_of% @Bool.not_false/\type_of% @cg0/\type_of% @cg1/\type_of% @cg2/\type_of% @cg3/\type_of% @cg4/\type_of% @cg5/\type_of% @OD/\type_of% @cs1/\type_of% @cs2/\type_of% @cs3/\type_of% @cs4/\type_of% @cs5/\type_of% @ct2/\type_of% @ct1/\type_of% @cp0/\type_of% @cp1/\type_of% @cp2/\type_of% @cp3/\type_of% @cp4/\type_of% @cp5/\type_of% @cq0/\type_of% @cq1/\type_of% @cq2/\type_of% @cq3/\type_of% @cq4/\type_of% @cq5/\type_of% @List.getElem?_set_ne.{0}/\type_of% @Q1/\type_of% @G1/\type_of% @HJ/\type_of% @HK/\type_of% @HL/\type_of% @HM/\type_of% @HN/\type_of% @HO/\type_of% @HP/\type_of% @HQ/\type_of% @HR/\type_of% @HS/\type_of% @ML/\type_of% @List.length_take.{0}/\type_of% @Nat.min_self/\type_of% @List.append_nil.{0}/\type_of% @Nat.zero_le/\type_of% @Nat.add_zero/\type_of% @Nat.zero_add/\type_of% @Nat.le_refl/\type_of% @and_true/\type_of% @true_and/\type_of% @if_true.{1}:=
 ⟨@R2,@C1,@P1,@N1,@O1,@V1,@V2,@V3,@wrap_i64,@wrap_u64,@wrap_u8,@wrap_u16,@wrap_u32,@wrap_i32,@dI,@bF,@HB,@mZ,@mw,@Za,@ads,@awF.{0},@awG.{0},@akc.{0},@axv.{0},@avY,@azJ,@cg0,@cg1,@cg2,@cg3,@cg4,@cg5,@OD,@cs1,@cs2,@cs3,@cs4,@cs5,@ct2,@ct1,@cp0,@cp1,@cp2,@cp3,@cp4,@cp5,@cq0,@cq1,@cq2,@cq3,@cq4,@cq5,@acT.{0},@Q1,@G1,@HJ,@HK,@HL,@HM,@HN,@HO,@HP,@HQ,@HR,@HS,@ML,@afC.{0},@ax7,@agT.{0},@aee,@afs,@akO,@aef,@alX,@ayz,@afK.{1}⟩
attribute [go_sem] Zz afk afl
attribute [go_sem ↓] R1 MP Int.cast_ofNat_Int
def ar(b:cG)(h:Nat):Bool:=match fe h with
 |some i=>decide (b i=⟨h/256,true,false⟩)
 |none=>false
def aI(h:Nat):Nat:=(fe h).getD 0
def nh(b:cG)(i:Nat):Bool:=!(b i).cO&& !(b i).ret
def ni(b:cG):oN:=(List.range 32).find? (nh b)
def pL(b:cG):cG×Nat×Bool:=match ni b with
 |some i=>(ao b i {b i with cO:=true},da i (b i).gen,true)
 |none=>(b,0,false)
def nj(s:Slot):Slot:=if s.gen=8388607 then⟨s.gen,false,true⟩else⟨s.gen+1,false,s.ret⟩
def dy(b:cG)(h:Nat):cG×Bool:=if ar b h then(ao b (aI h) (nj (b (aI h))),true)else(b,false)
def bc(b:cG):lN:=((List.range 32).filter λi=>(b i).cO).map λi=>da i (b i).gen
def j9(r:aD):Bool:=decide (1<=r.2)&&decide (r.1+r.2<=64)
def gz(x:aD)(b:Bool)(a:List aD):List aD->Option (List aD)
 | []=>some (if b then a else a++[x])
 |y::ys=>
  if y.1+y.2<x.1 then gz x b (a++[y]) ys
  else if x.1+x.2<y.1 then gz x true (a++(if b then[]else[x])++[y]) ys
  else if y.1+y.2=x.1 then gz (y.1,y.2+x.2) b a ys
  else if y.1=x.1+x.2 then gz (x.1,x.2+y.2) b a ys
  else none
def gR(l:List aD)(x:aD):Option (List aD):=if j9 x then gz x false [] l else none
def mE:List aD->List aD->Option (List aD)
 |all,[]=>some all
 |all,x::xs=>match gR all x with
  |some a=>mE a xs
  |none=>none
def aM(l:List aD):Nat:=(l.map (·.2)).sum
def pM(a:List aD)(len:Nat):Bool:=(mE [] a).isSome&&decide (len<=aM a*32)
def cU:cP:=⟨0,0,[],0,λ_=>0⟩
def au.ar(t:au)(h:Nat):Bool:=Go.Proofs.YteplichagkpciaaGreatDoor.ar t.b h
def iP(t:au)(i:Nat):Nat:=if t.ar (t.r i).up then(t.r i).up else 0
def aG(t:au)(h:Nat):cP×Nat:=if t.ar h then({t.r (aI h)with up:=iP t (aI h)},0)else(cU,4)
def ka(t:au)(up n:Nat):au×Nat×Nat:=
 if up≠0/\t.ar up=false then(t,0,4)
 else if 64<n then(t,0,2)
 else match ni t.b with
  |some i=>({b:=ao t.b i {t.b i with cO:=true},r:=ao t.r i {cU with up:=up,cZ:=n}},da i (t.b i).gen,0)
  |none=>(t,0,7)
def fu(t:au)(h:Nat):au×Nat:=
 if t.ar h then({b:=(dy t.b h).1,r:=ao t.r (aI h) cU},0)else(t,4)
def ew(t:au)(h:Nat)(r:cP):au×Nat:=
 if t.ar h=false then(t,4)
 else if 64<r.cZ\/pM r.runs r.len=false then(t,2)
 else({t with r:=ao t.r (aI h) {r with up:=(t.r (aI h)).up}},0)
def bq(t:au)(h:Nat):Nat:=if t.ar h then iP t (aI h)else 0
def eU(t:au):Nat->Nat->lN
 |0,_=>[]
 |n+1,h=>if bq t h=0 then[]else bq t h::eU t n (bq t h)
def aU(t:au)(h:Nat):lN:=eU t 32 h
def jA(t:au)(h up:Nat):au×Nat:=
 if t.ar h=false\/ (up≠0/\t.ar up=false)then(t,4)
 else if up≠0/\h∈up::aU t up then(t,12)
 else({t with r:=ao t.r (aI h) {t.r (aI h)with up:=up}},0)
def depth(t:au)(h:Nat):Nat:=if t.ar h then 1+(aU t h).length else 0
def root(t:au)(h:Nat):Nat:=if t.ar h then(aU t h).getLastD h else 0
def kN(t:au)(a b:Nat):Bool:=t.ar a&&t.ar b&& (decide (a=b)|| (aU t b).contains a)
def kids(t:au)(h:Nat):lN:=if t.ar h then(bc t.b).filter (λx=>bq t x=h)else[]
def iQ(t:au):Nat->Nat->lN
 |0,h=>[h]
 |n+1,h=>h:: (kids t h).flatMap (iQ t n)
def under(t:au)(h:Nat):lN:=if t.ar h then iQ t 32 h else[]
def fh(t:au)(a n:Nat):au×Nat×Nat:=
 let x:=ka t a n
 if(x.2.2=0\/x.2.2=7)/\6<=depth t a then(t,0,8)else x
def vu(t0:au)(h:Nat)(t:au)(x:Nat):au:=
 let r:=(aG t x).1
 (ew t x {r with cells:=λi=>if r.cells i≠h/\kN t0 (r.cells i) h then 0 else r.cells i}).1
def iv(t:au)(h:Nat):au×Nat:=
 if t.ar h=false then(t,4)else jA ((iQ t 32 h).foldl (vu t h) t) h 0
def sT(t:au)(h:Nat):Nat:=(iQ t 32 h).foldl (λn x=>max n (depth t x-depth t h+1)) 0
def mF(t:au)(h a:Nat):au×Nat:=
 if t.ar h=false\/t.ar a=false then(t,4)
 else if root t h≠h\/kN t h a then(t,12)
 else if 6<depth t a+sT t h then(t,8)
 else jA t h a
def hZ(t:au)(h:Nat):au×lN×Nat:=
 if under t h=[]then(t,[],4)else((under t h).foldl (λt x=>(fu t x).1) t,under t h,0)
def vx:Ow:=⟨0,0,0⟩
def bu(o:bI)(t:au)(h:Nat):Ow:=match fe (root t h)with
 |some i=>if(o i).root=root t h then(o i).own else vx
 |none=>vx
def eV(o:bI)(t:au)(r:Nat)(aa:Nat)(x:Ow):bI×Nat:=
 if t.ar r=false then(o,4)
 else if root t r≠r then(o,12)
 else if 8<=aa then(o,2)
 else(ao o (aI r) ⟨r,x⟩,0)
def ow(o:bI)(t:au)(r aa:Nat):bI×Nat:=eV o t r aa ⟨1,aa % 256,0⟩
def vy(o:bI)(t:au)(r:Nat):bI×Nat:=eV o t r 0 ⟨2,0,0⟩
def eW(aa:Nat):Nat:=2^(aa % 8)
def zD(o:bI)(t:au)(r aa:Nat):bI×Nat:=eV o t r aa ⟨3,0,eW aa⟩
def fU(x aa:Nat):Bool:=x.testBit (aa % 8)
def c7(o:bI)(t:au)(r aa:Nat)(hold:Bool):bI×Nat×Nat:=
 let x:=bu o t r
 let e:=(eV o t r aa x).2
 if e=4\/ (t.ar r=true/\root t r≠r)then(o,0,e)
 else if x.kind≠3 then(o,0,12)
 else if e≠0 then(o,0,e)
 else if fU x.hold aa&&hold then(o,0,7)
 else if !fU x.hold aa&& !hold then(o,0,5)
 else((eV o t r aa {x with hold:=x.hold^^^eW aa}).1,x.hold^^^eW aa,(eV o t r aa {x with hold:=x.hold^^^eW aa}).2)
def KT:Tok:=⟨0,0,0,false,0⟩
def ck(k:bo)(h:Nat):Tok×Nat:=if ar k.b h then(k.t (aI h),0)else(KT,4)
def sU(k:bo)(p:Tok->Bool):lN:=(bc k.b).filter λh=>p (ck k h).1
def isRight(b a:Nat)(x:Tok):Bool:=decide (x.aJ=b)&&decide (x.aU=a)
def B0(k:bo)(b a:Nat):Nat:=(sU k (isRight b a)).length
def sV(k:bo)(b a:Nat):Bool:=(bc k.b).any λh=>isRight b a (ck k h).1&& (ck k h).1.mu
def nm(k:bo)(h:Nat):Bool:=decide (h=0)||ar k.b h
def pN(k:bo)(x:Tok):Nat:=
 if nm k x.aU=false then 4
 else if 8<=x.jz\/8<=x.to\/x.jz=x.to\/x.aJ=0 then 2
 else if x.aU≠0/\ ((ck k x.aU).1.aJ≠x.aJ\/ (ck k x.aU).1.to≠x.jz\/ (x.mu=true/\ (ck k x.aU).1.mu=false))then 12
 else if sV k x.aJ x.aU=true\/ (x.mu=true/\0<B0 k x.aJ x.aU)then 5
 else 0
def lD(k:bo)(x:Tok):bo×Nat×Nat:=
 if pN k x≠0 then(k,0,pN k x)
 else match ni k.b with
  |some i=>if i<16 then({b:=ao k.b i {k.b i with cO:=true},t:=ao k.t i x},da i (k.b i).gen,0)else(k,0,7)
  |none=>(k,0,7)
def fL(b:cG):Prop:= ∀i,(b i).gen<=8388607/\ ((b i).cO=true->(b i).ret=false)
def Fv(e:fe h=some i):i<32/\h/256<=8388607/\h % 256=i+1/\h<2147483648:=by
 unfold fe at e;grind
def vz(h:Nat):aI h<32:=by
 unfold aI;cases e:fe h with
 |none=>simp
 |some i=>exact(Fv e).1
theorem zE(e:fe h=some i):aI h=i:=by simp[aI,e]
theorem Ss(e:fe h=some i):da i (h/256)=h:=by
 have:=Fv e;unfold da;omega
theorem lE{b:cG}:ar b h=true↔ ∃i,fe h=some i/\b i=⟨h/256,true,false⟩:=by
 unfold ar
 grind
def fV{b:cG}(a:ar b h=true):h<4294967296:=by
 obtain⟨i,e,_⟩:=lE.1 a;have:=Fv e;omega
def Fw{b:cG}(a:ar b h=true):h≠0:=by
 obtain⟨i,e,_⟩:=lE.1 a;have:=Fv e;omega
theorem ary(b:cG):ar b 0=false:=by rfl
def sW{b:cG}(a:ar b h=true):fe h=some (aI h)/\b (aI h)=⟨h/256,true,false⟩/\da (aI h) (h/256)=h:=by grind [lE,zE,Ss]
theorem KU{b:cG}(d:fL b)(c:i<32):ar b (da i (b i).gen)=(b i).cO:=by
 obtain⟨j,h⟩:=d i;have e:=Ft c j;have f:da i (b i).gen/256=(b i).gen:=by unfold da;omega
 unfold ar;rw[e];simp only[f];revert h;generalize b i=s;obtain⟨g,a,r⟩:=s;simp_all
theorem ia{b:cG}(d:fL b):h∈bc b↔ar b h=true:=by
 unfold bc;simp only[afq,afI,aiF];constructor
 ·grind [KU]
 ·intro c;obtain⟨i,e,a⟩:=lE.1 c;refine⟨i,⟨(Fv e).1,by grind⟩,?_⟩;rw[a];exact Ss e
theorem mG(b:cG): (bc b).length<=32:=by
 unfold bc
 grind
def Fx{g:Nat}(a:i<32)(b:g<=8388607):da i g<4294967296:=by unfold da;omega
theorem pO{b:cG}(e:ni b=some i):i<32/\ (b i).cO=false/\ (b i).ret=false/\ ∀j,j<i->nh b j=false:=by
 unfold ni at e;rw[List.find?_range_eq_some]at e;obtain⟨a,d,c⟩:=e;unfold nh at a
 grind
theorem St{b:cG}(a:fL b)(e:ni b=some i):fL (ao b i {b i with cO:=true}):=by
 intro j;by_cases h:j=i
 ·subst h;rw[bS];exact⟨(a j).1,λ_=>(pO e).2.2.1⟩
 ·rw[bT h];exact a j
theorem Fy{b:cG}(a:fL b)(h:Nat):fL (dy b h).1:=by
 unfold dy;split
 ·intro j;by_cases e:j=aI h
  ·subst e;simp only[bS];have:=(a (aI h)).1;unfold nj;grind
  ·simp only[bT e];exact a j
 omega
structure gA(r:cP):Prop where
 up:r.up<4294967296
 cZ:r.cZ<=64
 len:r.len<=2048
 cells: ∀i,r.cells i<4294967296
 runs: ∀x∈r.runs,1<=x.2/\x.1+x.2<=64
 aM:aM r.runs<=64
structure bN(t:au):Prop where
 b:fL t.b
 r: ∀i,gA (t.r i)
def cg(t:au):Prop:= ∀h,(aU t h).length<=5
def agu{t:au}:iP t i<4294967296:=by
 unfold iP;split
 ·rename_i h;exact fV h
 ·omega
def arz{t:au}:bq t h<4294967296:=by
 unfold bq;split
 ·exact agu
 ·omega
theorem B1{t:au}(a:bq t h≠0):t.ar (bq t h)=true/\t.ar h=true:=by
 unfold bq at*;split at a
 ·unfold iP at*
  grind
 omega
theorem Su{t:au}: ∀ (n:Nat) (h:Nat),(eU t n h).length<n-> ∀m,n<=m->eU t m h=eU t n h
 |0,_,a,_,_=>by omega
 |n+1,h,a,m,hm=>by
  obtain⟨m,rfl⟩: ∃k,m=k+1:=⟨m-1,by omega⟩;simp only[eU]at a⊢;by_cases hu:bq t h=0
  ·grind
  ·rw[adE hu]at a;simp only[afx]at a;rw[Su n _ (by omega) m (by omega)]
def pP{t:au}(a:cg t)(h:Nat):aU t h=if bq t h=0 then[]else bq t h::aU t (bq t h):=by
 unfold aU;by_cases hu:bq t h=0
 ·rw[adG hu,eU,adG hu]
 ·have e:eU t 33 h=eU t 32 h:=Su 32 h (by have:=a h;unfold aU at this;omega) 33 (by omega);rw[<-e,eU,adE hu]
def arA{t:au}(c:cg t)(a:x∈aU t h):t.ar x=true:=by
 have key: ∀ (n h:Nat),(aU t h).length<=n->x∈aU t h->t.ar x=true:=by
  intro n
  induction n with
  |zero=>grind
  |succ n d=>
   intro h b a;rw[pP c]at a b;by_cases hu:bq t h=0
   ·grind
   ·rw[adE hu]at a b;rcases afJ.1 a with rfl|a
    ·exact(B1 hu).1
    grind
 exact key _ h (aef _) a
def dep(t:au)(h:Nat):Nat:=(aU t h).length
theorem xm{t:au}(b:cg t)(a:bq t h≠0):dep t h=dep t (bq t h)+1:=by
 unfold dep;rw[pP b,adE a];rfl
def KV{t:au}(a:x∈kids t h):t.ar h=true/\bq t x=h/\x∈bc t.b:=by
 unfold kids at a
 grind
theorem B2{t:au}(a:cg t)(b:x∈kids t h):dep t x=dep t h+1:=by
 obtain⟨d,c,_⟩:=KV b;have:=xm a (h:=x) (by rw[c];exact Fw d)
 grind
def agv(t:au)(h:Nat): (kids t h).length<=32:=by
 unfold kids;split
 ·grind [Nat.le_trans,List.length_filter_le,mG]
 ·simp
theorem KW{α β:Type}{f g:α->List β}: ∀ {l:List α},(∀x∈l,f x=g x)->l.flatMap f=l.flatMap g
 | [],_=>rfl
 |x::xs,h=>by
  rw[aob,aob,h x (afG ..),KW λy a=>h y (afv _ a)]
theorem Sv{t:au}(a:cg t): ∀ (n h:Nat),5<=n+dep t h-> ∀m,n<=m->iQ t m h=iQ t n h
 |0,h,d,m,_=>by
  have c:kids t h=[]:=by
   cases e:kids t h with
   |nil=>rfl
   |cons x xs=>
    have:=B2 a (h:=h) (x:=x) (by grind);have f:=a x;unfold dep at*;omega
  cases m with
  |zero=>rfl
  |succ m=>rw[iQ,iQ,c];rfl
 |n+1,h,d,m,hm=>by
  obtain⟨m,rfl⟩: ∃k,m=k+1:=⟨m-1,by omega⟩;refine ag3 (h:: ·) (KW λx b=>?_);exact Sv a n x (by have:=B2 a b;omega) m (by omega)
def db(t:au)(h:Nat):lN:=iQ t 32 h
def Sw{t:au}(a:cg t)(h:Nat):db t h=h:: (kids t h).flatMap (db t):=by
 unfold db;rw[<-Sv a 32 h (by omega) 33 (by omega),iQ]
theorem Sx{α:Type}(f:α->Nat)(c:Nat): ∀l:List α,(∀x∈l,f x<=c)->(l.map f).sum<=l.length*c
 | [],_=>by simp
 |x::xs,h=>by
  have d:=h x (afG ..);have b:=Sx f c xs λy a=>h y (afv _ a)
  simp only[aiQ,List.sum_cons,afx,apM];omega
theorem agw(t:au): ∀ (n h:Nat),(iQ t n h).length<=33^n
 |0,h=>by simp[iQ]
 |n+1,h=>by
  rw[iQ,afx,List.length_flatMap];have c:=Sx (λx=>(iQ t n x).length) (33^n) (kids t h) λx _=>agw t n x
  have a:=agv t h;have b: (kids t h).length*33^n<=32*33^n:=alo _ a
  grind
def Sy{t:au}(a:cg t)(h:Nat): (db t h).length<=39135393:=by
 have:=agw t 5 h;unfold db;rw[Sv a 5 h (by omega) 32 (by omega)];omega
def arB{t:au}(h:Nat):db t h≠[]:=by unfold db;rw[iQ];simp
def zF{t:au}(f:fL t.b)(b:t.ar h=true)(a:x∈db t h):t.ar x=true:=by
 have key: ∀ (n h:Nat),t.ar h=true->x∈iQ t n h->t.ar x=true:=by
  intro n
  induction n with
  |zero=>intro h b a;rw[iQ,aeh]at a;grind
  |succ n c=>
   intro h b a;rcases afJ.1 a with rfl|a
   ·omega
   ·obtain⟨y,d,e⟩:=aop.1 a;exact c y ((ia f).1 (KV d).2.2) e
 exact key 32 h b a
def nq(k:bo)(a:Nat):lN:=sU k λx=>decide (x.aJ=a)
def rA(k:bo)(aa:Nat):lN:=sU k λx=>decide (x.to=aa)
def nr(k:bo)(l:lN):bo:=l.foldl (λk h=>{k with b:=(dy k.b h).1}) k
def KX(k:bo)(a:Nat):bo:=nr k (nq k a)
def Sz(k:bo)(h:Nat):lN:=sU k λx=>decide (x.aU=h)
def ns(k:bo):Nat->Nat->lN
 |0,h=>[h]
 |n+1,h=>h:: (Sz k h).flatMap (ns k n)
def rB(k:bo)(h:Nat):lN:=(bc k.b).filter λx=>(ns k 16 h).contains x
def jB(k:bo)(h:Nat):bo×lN×Nat:=if ar k.b h then(nr k (rB k h),rB k h,0)else(k,[],4)
def xn(k:bo)(b a:Nat):Bool:=nm k a&& !sV k b a
def zG(k:bo)(b a:Nat):Bool:=nm k a&&decide (B0 k b a=0)
def FA(T:au)(K:bo)(h a:Nat):Bool:=
 if a=0 then xn K h 0 else if a=1 then zG K h 0 else if a=2 then !((under T h).any λx=>decide (0< (nq K x).length))else false
def FB(K:bo)(aa h a:Nat):Bool:=(nq K h).any λt=>
 decide ((ck K t).1.to=aa)&& ((decide (a=0)&&xn K h t)|| (decide (a=1)&& (ck K t).1.mu&&zG K h t))
def vA(T:au)(O:bI)(K:bo)(aa h a:Nat):Nat:=
 if T.ar h=false then 4
 else if(bu O T h).kind=3 then(if a=0/\aa<8/\ (bu O T h).hold.testBit aa=true then 0 else 5)
 else if(bu O T h).kind=1 then(if((bu O T h).aa=aa/\FA T K h a=true)\/FB K aa h a=true then 0 else 5)
 else 5
def zH:fg:=⟨0,0,0,false⟩
def jg(b:cw)(i:Nat):Nat:=(b.fr+i) % 4
def iw(b:cw)(m:fg):cw×Nat:=
 if b.closed then(b,11)else if b.n=4 then(b,7)else({b with ring:=ao b.ring (jg b b.n) m,n:=b.n+1},0)
def iz(b:cw):cw×fg×Nat:=
 if b.n=0 then(b,zH,if b.closed then 11 else 10)else({b with fr:=jg b 1,n:=b.n-1},b.ring b.fr,0)
def pQ(b:cw):cw×Nat:=if b.closed then(b,11)else({b with closed:=true},0)
def du(b:cw):List fg:=(List.range b.n).map λi=>b.ring (jg b i)
def rC:cw:=⟨λ_=>zH,0,0,true⟩
def lF(t:au)(r a to:Nat)(b:Bool):au×Nat:=
 if t.ar r=false\/ (to≠0/\t.ar to=false)then(t,4)
 else if 8<=a then(t,2)
 else if to≠0/\b=false/\kN t to r=false then(t,5)
 else
  let x:=(aG t r).1
  let n:=ew t r {x with cells:=ao x.cells a to}
  if n.2=0 then n else(t,n.2)
def sX(t:au)(r a:Nat):Nat×Nat:=
 if t.ar r=false then(0,4)
 else if 8<=a then(0,2)
 else
  let to:=(aG t r).1.cells a
  if to=0 then(0,10)else if t.ar to=false then(0,4)else(to,0)
structure ay where
 s:bm
 aa:Nat
 c:cn
 run:aD
 kO:Nat
 asks:Bool
 back:List aD
abbrev R(α:Type):=Except Nat α
def ask(b:Bool)(e:Nat):R Unit:=if b then .ok ()else .error e
def ch(e:Nat):R Unit:=if e=0 then .ok ()else .error e
def ay.t(x:ay)(T:au):ay:={x with s:={x.s with T:=T}}
def ay.o(x:ay)(O:bI):ay:={x with s:={x.s with O:=O}}
def ay.k(x:ay)(K:bo):ay:={x with s:={x.s with K:=K}}
def ay.bx(x:ay)(i:Nat)(b:cw):ay:={x with s:={x.s with bp:=ao x.s.bp i b}}
def gi(x:ay)(h a:Nat):R Unit:=ch (vA x.s.T x.s.O x.s.K x.aa h a)
def mH(x:ay)(aa:Nat):R Unit:=ask (decide (aa<8)&&x.s.alive aa) 2
def fE(x:ay)(y:Nat):ay:={x.k (KX x.s.K y)with back:=x.back++(aG x.s.T y).1.runs}
def ef(x:ay)(h:Nat):ay:=let y:=(under x.s.T h).foldl fE x;y.t (hZ y.s.T h).1
def sY(x:ay)(h:Nat):R ay:=do ch (iv x.s.T h).2;return x.t (iv x.s.T h).1
def kQ(x:ay)(h aa:Nat):R ay:=do ch (ow x.s.O x.s.T h aa).2;return x.o (ow x.s.O x.s.T h aa).1
def mI(x:ay)(h:Nat)(r:cP):R ay:=do ch (ew x.s.T h r).2;return x.t (ew x.s.T h r).1
def bD:bt:=⟨0,0,0⟩
def pR(x:ay):R (ay×bt):=do
 if x.c.r≠0 then gi x x.c.r 1
 let n:=fh x.s.T x.c.r (min x.c.a 65)
 ch n.2.2
 let y:=x.t n.1
 let y<-if x.c.r=0 then kQ y n.2.1 x.aa else pure y
 return (y,{bD with w:=n.2.1})
def isObj(a b:Nat):Bool:=decide (1<=a)&&decide (a<=128)&& [1,2,4,8].contains b
def gB(c:List aD)(len b a:Nat):oN:=
 if isObj b a then(let at':=(len+a-1)/a*a;if at'+b<=aM c*32 then some at' else none)else none
def l9(a b:Nat):oN:=if isObj a b then some ((a+31)/32)else none
def kR(a:List aD):Nat->Nat->oN:=match a with
 | []=>λ_ _=>none
 |r::rs=>λbase at'=>if base<=at'/\at'<base+r.2*32 then some (r.1*32+at'-base)else kR rs (base+r.2*32) at'
def jh(x:ay):R (ay×bt):=do
 let size:=min x.c.a 129
 let align:=min x.c.b 9
 let n<-match l9 size align with|some n=>pure n|none=>.error 2
 gi x x.c.r 1
 ch (aG x.s.T x.c.r).2
 let r:=(aG x.s.T x.c.r).1
 match gB r.runs r.len size align with
 |some at'=>do
  let y<-mI x x.c.r {r with len:=at'+size}
  return (y,{bD with v:=at'})
 |none=>do
  ask (decide (aM r.runs+n<=r.cZ)) 6
  let x:={x with kO:=n}
  if x.asks then return (x,bD)
  let runs:=r.runs++[x.run]
  let len:=aM r.runs*32
  ask (decide (x.run.2=n)&&pM runs len) 2
  let at':=(gB runs len size align).getD 0
  let b:=match gB runs len size align with|some a=>a+size|none=>len
  let y<-mI x x.c.r {r with runs:=runs,len:=b}
  return (y,{bD with v:=at'})
def pT(x:ay)(a:Nat):R (ay×bt):=do
 ask (decide (1<=x.c.b)&&decide (x.c.b<=8)) 2
 gi x x.c.r a
 ch (aG x.s.T x.c.r).2
 ask (decide (x.c.a+x.c.b<=(aG x.s.T x.c.r).1.len)) 9
 return (x,bD)
def sZ(x:ay):R (ay×bt):=do
 gi x x.c.r 1
 ch (aG x.s.T x.c.r).2
 let r:=(aG x.s.T x.c.r).1
 let y<-mI {x with back:=x.back++r.runs} x.c.r {cU with cZ:=r.cZ}
 return (y,bD)
def vB(x:ay):R (ay×bt):=do
 gi x x.c.r 2
 return (ef x x.c.r,bD)
def xo(x:ay):R (ay×bt):=do
 gi x x.c.r 2
 ask (decide (root x.s.T x.c.r≠x.c.r)) 12
 let y<-sY x x.c.r
 let y<-kQ y x.c.r x.aa
 return (y,bD)
def xp(x:ay):R (ay×bt):=do
 gi x x.c.r 2
 gi x x.c.s 1
 let t:=mF x.s.T x.c.r x.c.s
 ch t.2
 return (x.t t.1,bD)
def xq(x:ay):R (ay×bt):=do
 gi x x.c.r 2
 let y<-sY x x.c.r
 let o:=zD y.s.O y.s.T x.c.r x.aa
 ch o.2
 return (y.o o.1,bD)
def zI(x:ay)(h:Nat):R Unit:=do
 ask (x.s.T.ar h) 4
 let o:=bu x.s.O x.s.T h
 ask (decide (root x.s.T h=h)&&decide (o.kind=3)) 12
 ask (o.hold.testBit x.aa) 5
def vC(x:ay)(h aa:Nat):bI×Nat:=((c7 x.s.O x.s.T h aa true).1,(c7 x.s.O x.s.T h aa true).2.2)
def vD(x:ay):R (ay×bt):=do
 mH x x.c.a
 zI x x.c.r
 let o:=vC x x.c.r x.c.a
 ch o.2
 return (x.o o.1,bD)
def ji(x:ay)(h aa:Nat):R ay:=do
 let o:=c7 x.s.O x.s.T h aa false
 ch o.2.2
 let y:=x.o o.1
 return if o.2.1=0 then ef y h else y
def xr(x:ay):R (ay×bt):=do
 zI x x.c.r
 return (<-ji x x.c.r x.aa,bD)
def pU(x:ay):R (ay×bt):=do
 mH x x.c.a
 ask (decide (x.c.b<=1)) 2
 ask (x.s.T.ar x.c.r) 4
 if x.c.s=0 then ask (decide ((bu x.s.O x.s.T x.c.r).kind=1)&&decide ((bu x.s.O x.s.T x.c.r).aa=x.aa)) 5
 else do
  ch (ck x.s.K x.c.s).2
  ask (decide ((ck x.s.K x.c.s).1.to=x.aa)&&decide ((ck x.s.K x.c.s).1.aJ=x.c.r)) 5
 let k:=lD x.s.K ⟨x.c.r,x.aa % 256,x.c.a % 256,decide (x.c.b=1),x.c.s⟩
 ch k.2.2
 return (x.k k.1,{bD with w:=k.2.1})
def vE(x:ay):R (ay×bt):=do
 ch (ck x.s.K x.c.s).2
 ask (decide ((ck x.s.K x.c.s).1.to=x.aa)) 5
 return (x.k (jB x.s.K x.c.s).1,bD)
def mJ(x:ay):R (ay×bt):=do
 mH x x.c.a
 ask (decide (x.c.b<=1)) 2
 let share:=decide (x.c.r≠0)&&decide (x.c.b=1)
 let y<-if share then do
     zI x x.c.r
     pure (if(vC x x.c.r x.c.a).2=0 then x.o (vC x x.c.r x.c.a).1 else x)
  else if x.c.r≠0 then do
   gi x x.c.r 2
   let y<-sY x x.c.r
   let o:=vy y.s.O y.s.T x.c.r
   ch o.2
   pure (y.o o.1)
  else pure x
 let b:=iw (y.s.bp x.c.a) ⟨x.aa % 256,x.c.v,x.c.r,share⟩
 ch b.2
 return (y.bx x.c.a b.1,bD)
def nu(x:ay):R (ay×bt):=do
 let b:=iz (x.s.bp x.aa)
 ch b.2.2
 let y:=x.bx x.aa b.1
 let m:=b.2.1
 let y<-if m.aJ≠0/\m.share=false then kQ y m.aJ x.aa else pure y
 return (y,{bD with v:=m.word,w:=m.aJ})
def vF(x:ay):R (ay×bt):=do
 let b:=pQ (x.s.bp x.aa)
 ch b.2
 return (x.bx x.aa b.1,bD)
def ox(x:ay):R (ay×bt):=do
 gi x x.c.r 1
 if x.c.s≠0 then gi x x.c.s 0
 let t:=lF x.s.T x.c.r (min x.c.a 8) x.c.s (decide ((bu x.s.O x.s.T x.c.s).kind=3))
 ch t.2
 return (x.t t.1,bD)
def vG(x:ay):R (ay×bt):=do
 gi x x.c.r 0
 let t:=sX x.s.T x.c.r (min x.c.a 8)
 ch t.2
 return (x,{bD with w:=t.1})
def lG(x:ay)(aa:Nat):R ay:=do
 let l:=du (x.s.bp aa)
 let y:=x.bx aa rC
 let y:={y with s:={y.s with alive:=ao y.s.alive aa false}}
 let y<-l.foldlM (λy m=>if m.aJ=0\/m.share=true then pure y else if y.s.alive m.fr then kQ y m.aJ m.fr else pure (ef y m.aJ)) y
 let y:=(rA y.s.K aa).foldl (λy h=>y.k (jB y.s.K h).1) y
 let y:=((bc y.s.T.b).filter λh=>decide (root y.s.T h=h)&&decide ((bu y.s.O y.s.T h).kind=1)&&decide ((bu y.s.O y.s.T h).aa=aa)).foldl ef y
 ((bc y.s.T.b).filter λh=>decide (root y.s.T h=h)&&decide ((bu y.s.O y.s.T h).kind=3)&& (decide (aa<8)&&fU (bu y.s.O y.s.T h).hold aa)).foldlM (λy h=>ji y h aa) y
def xu(x:ay):R (ay×bt):=do
 mH x x.c.a
 return (<-lG x x.c.a,bD)
def pV(x:ay):R (ay×bt):=do
 ask (decide (x.c.a<8)&& !x.s.born (x.c.a % 8)) 2
 return ({x with s:={x.s with alive:=ao x.s.alive x.c.a true,born:=ao x.s.born x.c.a true}},bD)
def ib(x:ay):R (ay×bt):=match x.c.op with
 |1=>pR x|2=>jh x|3=>pT x 0|4=>pT x 1|5=>sZ x|6=>vB x|7=>xo x|8=>xp x|9=>xq x|10=>vD x
 |11=>xr x|12=>pU x|13=>vE x|14=>mJ x|15=>nu x|16=>nu x|17=>vF x|18=>ox x|19=>vG x
 |20=>do return (<-lG x x.aa,bD)
 |21=>xu x|22=>pV x
 |_=>.error 2
def gS(x:ay):R (ay×bt):=do
 ask (decide (x.aa<8)&&x.s.alive x.aa) 12
 ib x
def dg(s:bm)(aa:Nat)(c:cn)(run:aD):bm×bt×List aD:=match gS ⟨s,aa,c,run,0,false,[]⟩with
 |.ok (x,r)=>if r.e=0 then(x.s,r,x.back)else(s,r,[])
 |.error e=>(s,{bD with e:=e},[])
def dO(s:bm)(aa:Nat)(c:cn):Nat:=if c.op≠2 then 0 else match gS ⟨s,aa,c,(0,0),0,true,[]⟩with
 |.ok (x,_)=>x.kO
 |.error _=>0
def iR(s:bm)(c:cn):lN×Nat:=
 if(aG s.T c.r).2≠0 then([],(aG s.T c.r).2)
 else if(c.op≠3/\c.op≠4)\/c.b<1\/8<c.b then([],2)
 else if(aG s.T c.r).1.len<c.a+c.b then([],9)
 else((List.range c.b).map λi=>(kR (aG s.T c.r).1.runs 0 (c.a+i)).getD 0,0)
def oy(s:bm)(aa:Nat)(c:cn):Nat:=if 0<dO s aa c then 0 else(dg s aa c (0,0)).2.1.e
def KY(s:bm)(aa:Nat)(c:cn):Bool:=decide (c.op=15)&&decide (oy s aa c=10)
def oz(s:bm)(h:Nat):lN:=if s.T.ar h then[h]else[]
def s6(s:bm)(c:cn):lN:=
 if[1,2,3,4,5,10,12,18,19].contains c.op then oz s c.r
 else if[6,7,9,11].contains c.op then under s.T c.r
 else if c.op=8 then
  (if under s.T c.r=[]\/s.T.ar c.s=false then[]else if(under s.T c.r).contains c.s then under s.T c.r else under s.T c.r++[c.s])
 else if c.op=13 then(if(ck s.K c.s).2=0 then oz s (ck s.K c.s).1.aJ else[])
 else if c.op=14 then(if c.b=1 then oz s c.r else under s.T c.r)
 else[]
structure fN where
 has:Nat
 n:Nat
 wait:Nat->Nat
abbrev Marks:=Nat->fN
def zJ:fN:=⟨0,0,λ_=>0⟩
def rD(l:fN)(aa:Nat):oN:=(List.range l.n).find? λi=>decide (l.wait i=aa % 256)
def SA(l:fN)(i:Nat):fN:={l with n:=l.n-1,wait:=ao (λj=>if i<=j/\j<7 then l.wait (j+1)else l.wait j) (l.n-1) 0}
def xv(l:fN)(aa:Nat):fN:=match rD l aa with
 |none=>l
 |some i=>SA l i
def jC(a aa:Nat):Bool:=decide (a<32)&&decide (aa<8)
def jk(m:Marks)(a aa:Nat):Marks×Bool:=
 if jC a aa=false then(m,false)
 else if(m a).has=aa+1 then(m,true)
 else if(m a).has=0/\ ((m a).n=0\/rD (m a) aa=some 0)then(ao m a {xv (m a) aa with has:=aa+1},true)
 else if rD (m a) aa=none then(ao m a {m a with n:=(m a).n+1,wait:=ao (m a).wait (m a).n aa},false)
 else(m,false)
def B3(l:fN)(aa:Nat):fN:=if l.has=aa+1 then{l with has:=0}else l
def rE(m:Marks)(aa:Nat):Marks:=λi=>if jC i aa then xv (B3 (m i) aa) aa else m i
structure cz where
 n:Nat
 free:List aD
 bytes:Nat->Nat->Nat
 cF:Bool
def mK(l:List aD)(x:aD):Option (List aD):=
 if j9 x=false then none
 else match l.findIdx? λy=>decide (x=y)|| (decide (y.1<=x.1)&&decide (x.1+x.2<=y.1+y.2))with
  |none=>none
  |some i=>
   let y:=l.getD i (0,0)
   some (l.take i++((if y.1<x.1 then[(y.1,x.1-y.1)]else[])++(if x.1+x.2<y.1+y.2 then[(x.1+x.2,y.1+y.2- (x.1+x.2))]else[]))++l.drop (i+1))
def FC(l:List aD)(k:Nat):Bool:=decide (k<64)&&l.any λy=>decide ((k,1)=y)|| (decide (y.1<=k)&&decide (k+1<=y.1+y.2))
def gj(p:cz)(n:Nat):cz×Nat×Nat:=
 if n<1 then(p,0,2)
 else match p.free.find? λx=>decide (1<=n)&&decide (n<=x.2)with
  |none=>(p,0,6)
  |some x=>(match mK p.free (x.1,n)with
   |some l=>{p with free:=l,cF:=false}
   |none=>p,x.1,0)
def gr(p:cz)(a:Nat):Nat:=if p.n<=a then 2 else if FC p.free a then 12 else 0
def nv(p:cz)(a:Nat):cz:=if gr p a=0 then{p with bytes:=ao p.bytes a λ_=>0}else p
def B4(p:cz)(a:Nat):cz:=match gR p.free (a,1)with
 |some l=>{p with free:=l,cF:=false}
 |none=>p
def kS(p:cz)(a:Nat):cz:=if gr p a=0 then B4 p a else p
def s7(p:cz)(at':Nat):Nat:=if gr p (at'/32)=0 then p.bytes (at'/32) (at' % 32)else 0
def ma(p:cz)(at' b:Nat):cz:=if gr p (at'/32)=0 then{p with bytes:=ao p.bytes (at'/32) (ao (p.bytes (at'/32)) (at' % 32) b)}else p
structure Core where
 S:bm
 P:cz
 M:Marks
 Q:lN
structure Call where
 aa:Nat
 c:cn
 checked:Bool
 aY:lN
 run:aD
 fF:Nat
def fi(r:aD):lN:=(List.range r.2).map λi=>r.1+i
def b8(x:Core)(r:aD):Core:={x with Q:=x.Q++fi r}
def oA(x:Core)(c:Call):Core:={b8 x c.run with M:=rE x.M c.aa}
structure bB where
 x:Core
 c:Call
 r:bt
 ended:Bool
def oB(s:bB)(r:bt):bB:={s with r:=r,ended:=true,x:=oA s.x s.c}
def ic(s:bB):bB×Bool:=
 if s.c.checked then(s,false)
 else if KY s.x.S s.c.aa s.c.c then(s,true)
 else if oy s.x.S s.c.aa s.c.c≠0 then(oB s {bD with e:=oy s.x.S s.c.aa s.c.c},true)
 else({s with c:={s.c with checked:=true,aY:=s6 s.x.S s.c.c}},true)
def ie(s:bB):bB×Bool:=match s.c.aY with
 | []=>(s,false)
 |h::a=>
  let m:=jk s.x.M (aI h) s.c.aa
  ({s with x:={s.x with M:=m.1},c:=if m.2 then{s.c with aY:=a}else s.c},true)
def iA(s:bB):bB×Bool:=
 let n:=dO s.x.S s.c.aa s.c.c
 if n=0\/0<s.c.run.2 then(s,false)
 else
  let p:=gj s.x.P n
  if p.2.2≠0 then(oB {s with x:={s.x with P:=p.1}} {bD with e:=p.2.2},true)
  else({s with x:={s.x with P:=p.1},c:={s.c with run:=(p.2.1,n)}},true)
def jl(s:bB):bB×Bool:=
 if s.c.run.2<=s.c.fF then(s,false)
 else({s with x:={s.x with P:=nv s.x.P (s.c.run.1+s.c.fF)},c:={s.c with fF:=s.c.fF+1}},true)
def byteOf(v i:Nat):Nat:=v/2^(8*i) % 256
def oC(s:bB):bB:=
 let s:=if 0<s.c.run.2/\dO s.x.S s.c.aa s.c.c≠s.c.run.2 then{s with x:=b8 s.x s.c.run,c:={s.c with run:=(0,0)}}else s
 let places:=(iR s.x.S s.c.c).1
 let d:=dg s.x.S s.c.aa s.c.c s.c.run
 if d.2.1.e≠0 then oB s d.2.1
 else
  let P:=if s.c.c.op=4 then(List.range places.length).foldl (λP i=>ma P (places.getD i 0) (byteOf s.c.c.v i)) s.x.P else s.x.P
  let v:=if s.c.c.op=3 then(List.range places.length).foldl (λv i=>v|||s7 s.x.P (places.getD i 0)*2^(8*i)) d.2.1.v else d.2.1.v
  let x:=d.2.2.foldl b8 {s.x with S:=d.1,P:=P}
  oB {s with x:=x,c:={s.c with run:=(0,0)}} {d.2.1 with v:=v}
def fw(x:Core)(c:Call):bB:=
 let d:bB:=⟨x,c,bD,false⟩
 let s1:=ic d
 if s1.2 then s1.1 else
 let s2:=ie s1.1
 if s2.2 then s2.1 else
 let b:=iA s2.1
 if b.2 then b.1 else
 let a:=jl b.1
 if a.2 then a.1 else oC a.1
def gC(x:Core):Core×Bool:=match x.Q with
 | []=>(x,false)
 |q::a=>({x with P:=kS x.P q,Q:=a},true)
structure ed where
 op:Nat
 a:Nat
 b:Nat
 c:Nat
 n:Nat
 deriving DecidableEq,Inhabited
def rF(x:ed)(n:Nat):Bool:=
 (decide (x.op<=6)|| (decide (16<x.op)&&decide (x.op<=38)))&&decide (x.a<8/\x.b<8/\x.c<8)&& (!(decide (x.op=5)||decide (x.op=6))||decide (x.n<n))
def pW(l:List ed):Bool:=decide (l.length<=64)&&l.all λx=>rF x l.length
def rG:lB->List ed
 |a::b::c::d::e::f::r=>⟨a.toNat,b.toNat,c.toNat,d.toNat,e.toNat+256*f.toNat⟩::rG r
 |_=>[]
def decode(s:lB):Option (List ed):=
 if s.length % 6≠0\/384<s.length then none else if pW (rG s)then some (rG s)else none
structure Task where
 code:List ed
 next:Nat
 aY:Nat->Nat
def mb:Nat:=18446744073709551616
def rH(t:Task):Option ed:=t.code[t.next]?
def jm:cn:=⟨0,0,0,0,0,0⟩
def jn(t:Task):cn×Bool:=match rH t with
 |none=>({jm with op:=20},true)
 |some x=>
  if x.op=0 then({jm with op:=20},true)
  else if x.op<=16 then(jm,false)
  else(⟨x.op-16,t.aY (x.b % 8) % 4294967296,t.aY (x.c % 8) % 4294967296,t.aY 6 % 4294967296,x.n,t.aY 5⟩,true)
def pX(t:Task):Task:=
 if(jn t).2 then t
 else match rH t with
  |none=>t
  |some x=>
   let b:=t.aY (x.b % 8)
   let c:=t.aY (x.c % 8)
   let put:=λv=>{t with aY:=ao t.aY (x.a % 8) v,next:=t.next+1}
   if x.op=1 then put x.n
   else if x.op=2 then put ((b+c) % mb)
   else if x.op=3 then put ((b+mb-c) % mb)
   else if x.op=4 then put (b*2^x.n % mb)
   else if x.op=5 then{t with next:=x.n}
   else if x.op=6 then{t with next:=if t.aY (x.a % 8)≠0 then x.n else t.next+1}
   else{t with next:=t.next+1}
def s8(t:Task)(r:bt):Task:=match rH t with
 |none=>t
 |some x=>if(jn t).2 then{t with aY:=ao (ao (ao t.aY (x.a % 8) r.v) 4 r.w) 7 r.e,next:=t.next+1}else t
structure Runner where
 t:Task
 c:Call
 busy:Bool
 fr:Nat
structure Event where
 aa:Nat
 c:cn
 run:aD
 r:bt
 fr:Nat
 to:Nat
structure aQ where
 ai:Core
 aB:Nat->Runner
 now:Nat
 c8:List Event
def gu:Call:=⟨0,jm,false,[],(0,0),0⟩
def vH:Task:=⟨[],0,λ_=>0⟩
def FD:Runner:=⟨vH,gu,false,0⟩
def rI(m:aQ)(t:Nat):Bool:=decide (t<8)&&m.ai.S.alive t
def kb(m:aQ)(i:Nat):aQ:=
 if(m.aB i).busy=true/\rI m i=false then{m with ai:=oA m.ai (m.aB i).c,aB:=ao m.aB i {m.aB i with busy:=false,c:=gu}}else m
def jT(m:aQ):aQ:=(List.range 8).foldl kb m
def handed(b:aD)(a c:Nat):aD:=if b.2<=c-a/\0<b.2 then(0,0)else b
def KZ(m:aQ)(t:Nat)(c:Call)(run:aD)(r:bt):aQ:=
 {m with c8:=m.c8++[⟨t,c.c,run,r,(m.aB t).fr,m.now⟩],aB:=ao m.aB t {m.aB t with t:=s8 (m.aB t).t r,busy:=false,c:=gu}}
def pY(m:aQ)(t:Nat):aQ:=
 let c:=(m.aB t).c
 let s:=fw m.ai c
 let m':={m with ai:=s.x,aB:=ao m.aB t {m.aB t with c:=s.c}}
 if s.ended then
  let run:=if s.r.e≠0\/s.c.c.op≠2 then(0,0)else c.run
  KZ m' t s.c (handed run m.ai.Q.length s.x.Q.length) s.r
 else m'
def rJ(m:aQ)(t:Nat):aQ:=
 let x:=m.aB t
 if x.busy then pY m t
 else if(jn x.t).2 then pY {m with aB:=ao m.aB t {x with c:={gu with aa:=t,c:=(jn x.t).1},busy:=true,fr:=m.now}} t
 else{m with aB:=ao m.aB t {x with t:=pX x.t}}
def vI(m:aQ)(t:Nat):aQ:=
 let c:={jm with op:=20}
 let d:=dg m.ai.S t c (0,0)
 {m with ai:={d.2.2.foldl b8 m.ai with S:=d.1},c8:=m.c8++[⟨t,c,(0,0),d.2.1,m.now,m.now⟩]}
def gT(m:aQ)(b:Nat):aQ×Nat:=
 let t:=b % 8
 if(8<b/\b<16)\/24<=b then(m,2)
 else if b=8 then(if(gC m.ai).2 then(jT {m with ai:=(gC m.ai).1,now:=m.now+1},0)else(m,10))
 else if rI m t=false then(m,12)
 else if 16<=b then(jT (vI {m with now:=m.now+1} t),0)
 else(jT (rJ {m with now:=m.now+1} t),0)
def oD(m:aQ)(t:Nat):Option Call:=if t<8/\ (m.aB t).busy=true then some (m.aB t).c else none
structure arC where
 aM:Int
 aK:List lB
 aX:lN
def lH(b:Nat):Bool:=decide (b<8)||decide (b=8)|| (decide (16<=b)&&decide (b<24))
def pZ(s:arC):Bool:=
 decide (1<=s.aM/\s.aM<=64/\1<=s.aK.length/\s.aK.length<=8/\s.aX.length<=4000)&&s.aK.all (λp=>(decode p).isSome)&&s.aX.all lH
def lI:bm:=⟨⟨λ_=>⟨0,false,false⟩,λ_=>cU⟩,λ_=>⟨0,vx⟩,⟨λ_=>⟨0,false,false⟩,λ_=>KT⟩,λ_=>⟨λ_=>zH,0,0,false⟩,λi=>decide (i=0),λi=>decide (i=0)⟩
def kL:lN:=[56,19,193,190,188,182,167,166]
noncomputable def X0:Ctx:={dR:=λg=>(BW.lookup g).map λ_=>[.lP g],code:=λf=>if kL.contains f then none else zt.lookup f,bW:=λ_=>none,gl:=λg=>(BW.lookup g).map sv}
def arD(h:Nat)(c:h<4294967296):dB .and (.int .u32 h) (.int .u32 255)=some (.int .u32 ((h % 256:Nat):Int)):=by
 rw[Dy];have e: (BitVec.ofInt IntKind.u32.bits (h:Int)&&&BitVec.ofInt IntKind.u32.bits 255).toNat=h % 256:=by
  show(BitVec.ofInt 32 (h:Int)&&&BitVec.ofInt 32 255).toNat=h % 256;rw[BitVec.toNat_and];have b: (BitVec.ofInt 32 (h:Int)).toNat=h:=by grind
  have a: (BitVec.ofInt 32 255).toNat=2^8-1:=by rfl
  rw[b,a,aB3]
 rw[e,wrap_u32 (by omega) (by omega)]
theorem p8: (2:Int)^min 8 IntKind.u32.bits=256:=by rfl
def agx: ((a:Nat):Int).fdiv 256=((a/256:Nat):Int):=by grind
def arE(s:Slot)(g:Nat)(a c:Bool):dJ (.agg [.int,.bool,.bool]) (.agg (jv s)) (.agg [.int .u32 g,.bool a,.bool c])=some (decide (s=⟨g,a,c⟩)):=by
 obtain⟨b,a',d⟩:=s;simp only[dJ,jv,afx,anD,ac0,aqi,ac1,afK,and_self,Slot.mk.injEq,Int.natCast_inj]
 grind
def jo(h:Nat):AV:=.az [.int .i64 ((fe h).getD 0:Nat),.bool (fe h).isSome]
def kc(h:Nat)(b:h<4294967296)(H:List ae)(lo:oN):D X0 (.fn (.func 82) [] []) [.int .u32 h] ⟨H,lo⟩=some (.ret (jo h) ⟨H,lo⟩):=by
 refine aH PW λN c=>?_
 simp(disch:=omega) only[↓R1,Zz,simprocAttr,PW,arD h b];refine wz 19 (.bool (!(fe h).isSome)) [4] rfl rfl ?_ λd=>?_
 ·simp only[R4,↓R1,Zz,simprocAttr,p8,agx]
  (repeat' (first|apply And.intro|intro _))
  all_goals(refine ag3 AV.bool ?_;unfold fe;split<;>simp<;>omega)
 cases a:fe h with
 |none=>simp(disch:=omega) only[F1,↓R1,Zz,simprocAttr,jo,a]
 |some i=>
  have: (h % 256:Nat)- (1:Int)=(i:Nat):=by
   unfold fe at a;split at a<;>cases a;omega
  simp(disch:=omega) only[F1,↓R1,Zz,simprocAttr,jo,a,this]
def agy(i g:Nat)(a:i<32)(b:g<=8388607)(H:List ae)(lo:oN):D X0 (.fn (.func 117) [] []) [.int .i64 i,.int .u32 g] ⟨H,lo⟩=some (.ret (.int .u32 (da i g)) ⟨H,lo⟩):=by
 refine aH Qa λN c=>?_
 simp(disch:=omega) only[F1,↓R1,Zz,simprocAttr,Qa,p8];exact dx (ag3 _ (by rfl)) rfl
def eX(b:cG)(h:Nat)(e:h<4294967296)(H:List ae)(lo:oN):D X0 (.fn (.func 50) [] []) [.agg (bU b),.int .u32 h] ⟨H,lo⟩=some (.ret (.bool (ar b h)) ⟨H,lo⟩):=by
 refine aH PG λN f=>?_
 simp only[↓R1,Zz,simprocAttr,PG,f,kc h e,jo];cases a:fe h with
 |none=>simp(disch:=omega) only[F1,↓R1,Zz,simprocAttr,ar,a]
 |some i=>
  have d:=afQ a;have c: (i:Int)<32:=by omega
  simp(disch:=omega) only[F1,↓aol,↓R1,Zz,simprocAttr,ar,a,afL d,c,p8,agx,arE]
def p7{p:Nat->Prop}{k:Nat}(h: ∀j,j<k->p j)(a:p k): ∀j,j<k+1->p j:=by grind
def arF{p:Nat->Bool}{k:Nat}(b:k<n)(a:p k=true)(h: ∀j,j<k->p j=false): (List.range n).find? p=some k:=by simp_all
def arG{p:Nat->Bool}(h: ∀j,j<n->p j=false): (List.range n).find? p=none:=by grind
def s9(b:cG):AV:=.az [.agg (bU (pL b).1),.int .u32 (pL b).2.1,.bool (pL b).2.2]
theorem K0:wK.length=96:=by rfl
theorem K1:List.drop 96 wK=[]:=by rfl
def K2:type_of% K0/\type_of% K1:=by decide
def agz(b:cG)(r:fL b)(H:List ae)(lo:oN):D X0 (.fn (.func 302) [] []) [.agg (bU b)] ⟨H,lo⟩=some (.ret (s9 b) ⟨H,lo⟩):=by
 refine aH Rt λN s=>?_
 simp only[go_sem,simprocAttr,Rt,s,↓Sc];refine eN 32 (λk e H'=> ∃J,H'=cat H (.box (bU b) none:: .box wK none::J)/\e 1= .ptr N 0/\e 2= .ptr (N+1) 0/\e 8= .agg (bU b)/\e 9= .int .i64 k/\ ∀j,j<k->nh b j=false) 0 (by omega) ?_ ?_
 ·simp only[go_sem,simprocAttr];exact⟨[],fK.symm,by simp⟩
 rintro k t e H' ⟨J,rfl,m,l,p,o,f⟩ n q;have d: ∀a b,(cat H (a::b::J)).length=n:=λ_ _=>by rw[<-q,KI,KI];rfl
 simp(disch:=omega) only[cb,F1,go_sem,simprocAttr,afd,m,l,p,o];refine⟨λh=>?_,λh=>?_⟩
 ·have c:k<32:=by omega
  cases g: (b k).cO
  ·cases i: (b k).ret
   ·simp(disch:=first|omega|apply d) only[F1,go_sem,simprocAttr,h,d,Se c,jv,g,i,m,l,afO c,agy k (b k).gen c (r k).1,K2];have e:ni b=some k:=arF c (by simp[nh,g,i]) f;exact⟨by omega,by simp[s9,pL,e,i]⟩
   ·simp(disch:=first|omega|apply d) only[go_sem,simprocAttr,h,d,Se c,jv,g,i,m,l,p,o];exact⟨c,_,Sa,p7 f (by simp[nh,i])⟩
  ·simp(disch:=first|omega|apply d) only[go_sem,simprocAttr,h,d,Se c,jv,g,m,l,p,o];exact⟨c,_,Sa,p7 f (by simp[nh,g])⟩
 ·simp(disch:=first|omega|apply d) only[go_sem,simprocAttr,K2];have e:ni b=none:=arG λj u=>f j (by omega)
  simp[s9,pL,e]
def atR(b:cG)(k:Nat):AV:=.az [.int .u32 (if k<32/\ (b k).cO=true then da k (b k).gen else 0:Nat),.bool (decide (k<32)&& (b k).cO)]
def arH(b:cG)(h:fL b)(k:Nat)(H:List ae)(lo:oN):D X0 (.fn (.func 92) [] []) [.agg (bU b),.int .i64 k] ⟨H,lo⟩=some (.ret (atR b k) ⟨H,lo⟩):=by
 refine aH ER λN d=>?_
 have e: ¬(k:Int)<0:=by omega
 by_cases a:k<32
 ·have c: ¬(k:Int)>=32:=by omega
  have g: (k:Int)<32:=by omega
  cases f: (b k).cO
  ·simp only[F1,go_sem,simprocAttr,ER,d,e,c,g,afN a,f,atR,a]
  ·simp only[F1,go_sem,simprocAttr,ER,d,e,c,g,afN a,afM a,f,agy k (b k).gen a (h k).1,atR,a]
 ·have c: (k:Int)>=32:=by omega
  simp only[F1,go_sem,simprocAttr,ER,d,e,c,atR,a,false_and,ag4]
def zK(b:cG)(h:Nat):AV:=.az [.agg (bU (dy b h).1),.bool (dy b h).2]
def agA(b:cG)(l:fL b)(h:Nat)(f:h<4294967296)(H:List ae)(lo:oN):D X0 (.fn (.func 330) [] []) [.agg (bU b),.int .u32 h] ⟨H,lo⟩=some (.ret (zK b h) ⟨H,lo⟩):=by
 refine aH KG λN g=>?_
 cases c:ar b h with
 |false=>
  simp only[F1,go_sem,simprocAttr,KG,g,eX b h f,c,K2,zK,dy]
 |true=>
  obtain⟨e1,m,e3⟩:=sW c;have d:=vz h;have e: (aI h:Int)<32:=by omega
  generalize a:aI h=i at*;have k:=(l i).1;simp(disch:=omega) only[cb,F1,go_sem,simprocAttr,KG,g,eX b h f,c,K2,kc h f,jo,e1,e,afO d,aq8 d,aq7 d,afM d,rp,bS];refine⟨by omega,λj=>⟨by omega,?_⟩,λj=>⟨by omega,?_⟩⟩
  ·simp[zK,dy,c,a,nj,show(b i).gen=8388607 by omega]
  ·simp[zK,dy,c,a,nj,show¬(b i).gen=8388607 by omega]
theorem B5:ld.length=480:=by rfl
theorem arI:List.drop 480 ld=[]:=by rfl
def dc:type_of% B5/\type_of% arI/\type_of% K0/\type_of% K1:=by decide
def zL(n:Nat)(H:List ae)(lo:oN):D X0 (.fn (.func 322) [] []) [.int .i64 n] ⟨H,lo⟩=some (.ret (.bool (decide (n<=64))) ⟨H,lo⟩):=by
 refine aH RJ λN b=>?_
 have a: (n:Int)>=0:=by omega
 simp(disch:=omega) only[F1,go_sem,simprocAttr,RJ,a];exact dx (ag3 AV.bool (al4.2 (by grind))) rfl
theorem agB:bM cU=[.int .u32 0,.int .i64 0,.av,.int .i64 0,.int .u32 0,.int .u32 0,.int .u32 0,.int .u32 0,.int .u32 0,.int .u32 0,.int .u32 0,.int .u32 0]:=rfl
def agC(t:au)(j:bN t)(h:Nat)(d:h<4294967296)(H:List ae)(lo:oN):D X0 (.fn (.func 83) [] []) [.agg (aN t),.int .u32 h] ⟨H,lo⟩=some (.ret (.int .u32 (iP t (aI h))) ⟨H,lo⟩):=by
 refine aH JL λN g=>?_
 have c:=vz h;have a: (aI h:Int)<32:=by omega
 have e:jo h= .az [.int .i64 (aI h:Nat),.bool (fe h).isSome]:=rfl;have hu:=(j.r (aI h)).up;generalize aI h=i at*;have f:ar t.b (t.r i).up=t.ar (t.r i).up:=rfl;cases b:t.ar (t.r i).up
 ·simp only[F1,go_sem,simprocAttr,JL,g,kc h d,e,a,Sk c,eX t.b (t.r i).up hu,f,b,iP,afp]
 ·simp only[F1,go_sem,simprocAttr,JL,g,kc h d,e,a,Sk c,eX t.b (t.r i).up hu,f,b,iP]
def mc(t:au)(h:Nat):AV:=.az [.agg (bM (aG t h).1),.int .i64 (aG t h).2]
def ua(t:au)(j:bN t)(h:Nat)(c:h<4294967296)(H:List ae)(lo:oN):D X0 (.fn (.func 44) [] []) [.agg (aN t),.int .u32 h] ⟨H,lo⟩=some (.ret (mc t h) ⟨H,lo⟩):=by
 refine aH JF λN i=>?_
 have k:=vz h;have f: (aI h:Int)<32:=by omega
 have e:jo h= .az [.int .i64 (aI h:Nat),.bool (fe h).isSome]:=rfl;have d:=agC t j h c;have b:aG t h=if t.ar h then({t.r (aI h)with up:=iP t (aI h)},0)else(cU,4):=rfl
 unfold mc;rw[b];have g:ar t.b h=t.ar h:=rfl;cases a:t.ar h
 ·simp only[F1,go_sem,simprocAttr,JF,i,eX t.b h c,g,a,agB,afp]
 ·simp only[F1,go_sem,simprocAttr,JF,i,kc h c,e,f,ard k,eX t.b h c,g,a,d]
def zM(t:au)(a n:Nat):AV:=.az [.agg (aN (ka t a n).1),.int .u32 (ka t a n).2.1,.int .i64 (ka t a n).2.2]
theorem agD: [AV.int .u32 0,.int .i64 n,.av,.int .i64 0,.int .u32 0,.int .u32 0,.int .u32 0,.int .u32 0,.int .u32 0,.int .u32 0,.int .u32 0,.int .u32 0]=bM {cU with up:=0,cZ:=n}:=rfl
theorem arJ{u:Nat}: [AV.int .u32 (u:Nat),.int .i64 n,.av,.int .i64 0,.int .u32 0,.int .u32 0,.int .u32 0,.int .u32 0,.int .u32 0,.int .u32 0,.int .u32 0,.int .u32 0]=bM {cU with up:=u,cZ:=n}:=rfl
def arK(t:au)(o:bN t)(a n:Nat)(m:a<4294967296)(H:List ae)(lo:oN):D X0 (.fn (.func 284) [] []) [.agg (aN t),.int .u32 a,.int .i64 n] ⟨H,lo⟩=some (.ret (zM t a n) ⟨H,lo⟩):=by
 refine aH vq λN j=>?_
 have p:ar t.b a=t.ar a:=rfl;have d:=agz t.b o.b;unfold zM ka;by_cases e:a≠0/\t.ar a=false
 ·rw[adG e];have b: ¬(a:Int)=0:=by omega
  simp only[F1,go_sem,simprocAttr,vq,j,b,eX t.b a m,p,e.2,dc]
 ·rw[adE e];have c:a=0\/ (¬(a:Int)=0/\t.ar a=true):=by
   by_cases s:a=0
   ·exact .inl s
   ·refine .inr ⟨by omega,?_⟩;cases u:t.ar a
    ·exact absurd ⟨s,u⟩ e
    ·rfl
  by_cases r:64<n
  ·rw[adG r];have h:decide (n<=64)=false:=by simp;omega
   rcases c with rfl| ⟨b,g⟩
   ·simp only[F1,go_sem,simprocAttr,vq,j,zL,h,dc]
   ·simp only[F1,go_sem,simprocAttr,vq,j,b,eX t.b a m,p,g,zL,h,dc]
  ·rw[adE r];have h:decide (n<=64)=true:=by simp;omega
   cases l:ni t.b with
   |none=>
    rcases c with rfl| ⟨b,g⟩
    ·simp only[F1,go_sem,simprocAttr,vq,j,zL,h,dc,d,s9,pL,l]
    ·simp only[F1,go_sem,simprocAttr,vq,j,b,eX t.b a m,p,g,zL,h,dc,d,s9,pL,l]
   |some i=>
    obtain⟨f,x,w,v⟩:=pO l;have k: (i:Int)<32:=by omega
    have q:fe (da i (t.b i).gen)=some i:=Ft f (o.b i).1;rcases c with rfl| ⟨b,g⟩
    ·simp only[F1,go_sem,simprocAttr,vq,j,zL,h,dc,d,s9,pL,l,k,kc (da i (t.b i).gen) (Fx f (o.b i).1),jo,q,agD,KQ f];omega
    ·simp only[F1,go_sem,simprocAttr,vq,j,b,eX t.b a m,p,g,zL,h,dc,d,s9,pL,l,k,kc (da i (t.b i).gen) (Fx f (o.b i).1),jo,q,arJ,KQ f];omega
def SB(t:au)(h:Nat):AV:=.az [.agg (aN (fu t h).1),.int .i64 (fu t h).2]
def arL(t:au)(i:bN t)(h:Nat)(f:h<4294967296)(H:List ae)(lo:oN):D X0 (.fn (.func 324) [] []) [.agg (aN t),.int .u32 h] ⟨H,lo⟩=some (.ret (SB t h) ⟨H,lo⟩):=by
 refine aH KD λN g=>?_
 have j:=vz h;have a: (aI h:Int)<32:=by omega
 have e:jo h= .az [.int .i64 (aI h:Nat),.bool (fe h).isSome]:=rfl;have d:=agA t.b i.b h f;have k:ar t.b h=t.ar h:=rfl;unfold SB fu;cases b:t.ar h
 ·have c:dy t.b h=(t.b,false):=by unfold dy;grind
  simp only[F1,go_sem,simprocAttr,KD,g,d,zK,c,dc,afp]
 ·have c: (dy t.b h).2=true:=by unfold dy;rw[k,b];rfl
  simp only[F1,go_sem,simprocAttr,KD,g,d,zK,c,dc,kc h f,e,a,<-agB,KQ j];omega
def fO[Inhabited α]{k:Nat}(h:k<l.length):l.getD k default∈l:=by grind
def ke{α:Type}(p:α->Bool)(l:List α):Int:=match l.findIdx? p with
 |some i=>i
 |none=> -1
def zN(p:α->Bool)(l:List α):decide (0<=ke p l)=l.any p:=by
 unfold ke
 grind
def zO[Inhabited α]{k:Nat}(b:k<l.length)(h: ∀j,j<k->p (l.getD j default)=false)(a:p (l.getD k default)=true):ke p l=k:=by
 have:l.findIdx? p=some k:=by grind [List.findIdx?_eq_some_iff_getElem]
 unfold ke;rw[this]
def zP[Inhabited α](h: ∀j,j<l.length->p (l.getD j default)=false):ke p l= -1:=by
 have:l.findIdx? p=none:=by grind [List.findIdx?_eq_none_iff,List.getElem_of_mem]
 unfold ke;rw[this]
def hC(h:Nat):lA:=[.int .u32 h]
theorem pH:Den.part false 1 (hC h) 0=some (.int .u32 h):=rfl
def bC(b:UInt8):lA:=[.int .u8 b.toNat]
theorem pB{b:UInt8}:Den.part false 1 (bC b) 0=some (.int .u8 b.toNat):=rfl
def sC(s:lB):lA:=[S s]
theorem pS{s:lB}:Den.part false 1 (sC s) 0=some (S s):=rfl
structure Instr where
 op:Nat
 a:Nat
 b:Nat
 c:Nat
 n:Nat
 deriving DecidableEq,Inhabited
def agE(v fv:AV)(l:List aD)(b:Rv v 2 (l.map aA))(r:l.length<2^40)(p:aD->Bool)(H:List ae)(lo:oN)
  (o: ∀x∈l,D X0 fv [.agg (aA x)] ⟨H,none⟩=some (.ret (.bool (p x)) ⟨H,none⟩)):D X0 (.fn (.func 112) [] []) [v,fv] ⟨H,lo⟩=some (.ret (.int .i64 (ke p l)) ⟨H,lo⟩):=by
 refine aH P7 λN u=>?_
 simp only[go_sem,simprocAttr,P7,b.bY];refine eN l.length (λk e H'=>H'=H/\e 0=v/\e 1=fv/\e 7= .int .i64 l.length/\e 8= .int .i64 k/\ ∀j,j<k->p (l.getD j default)=false) 0 (by omega) ?_ ?_
 ·simp only[go_sem,simprocAttr];omega
 ·rintro k s e H' ⟨rfl,i,g,f,d,c⟩ n q;simp(disch:=omega) only[cb,F1,go_sem,simprocAttr,aeD,i,g,f,d];refine⟨λh=>?_,λh=>?_⟩
  ·have a:k<l.length:=by omega
   simp(disch:=omega) only[go_sem,simprocAttr,b.cD,b.di,↓Sr,o _ (fO a)];refine⟨by omega,?_⟩;cases m:p (l.getD k default)
   ·simp(disch:=omega) only[go_sem,simprocAttr,i,g,f,d]
    grind
   ·simp(disch:=omega) only[F1,go_sem,simprocAttr];rw[zO a c m]
  ·rw[zP (λj t=>c j (by omega))]
def arM(v fv:AV)(l:List aD)(a:Rv v 2 (l.map aA))(b:l.length<2^40)(p:aD->Bool)(H:List ae)(lo:oN)
  (c: ∀x∈l,D X0 fv [.agg (aA x)] ⟨H,none⟩=some (.ret (.bool (p x)) ⟨H,none⟩)):D X0 (.fn (.func 79) [] []) [v,fv] ⟨H,lo⟩=some (.ret (.bool (l.any p)) ⟨H,lo⟩):=by
 refine aH PU λN d=>?_
 simp(disch:=omega) only[F1,go_sem,simprocAttr,PU,agE v fv l a b p H none c,zN]
def agF{X:Ctx}(a:Ext X0 X)(h:X0.code f=some pf)(b:X0.bW f=none):X.bW f=none:=by
 rcases a.bW f with e| ⟨_,e⟩
 ·grind
 grind
def agG{X:Ctx}(a:Ext X0 X)(h:X0.code f=some pf):X.code f=some pf:=by rw[a.code];exact h
def up{X:Ctx}(a:Ext X0 X){args:lA}{E:AS}{r:aV}(h:D X0 v args E=some r):D X v args E=some r:=adB a _ _ _ _ h
def agH{X:Ctx}(f:Ext X0 X)(v fv:AV)(l:lN)(H:List ae)(b:Rd ⟨H,none⟩ v 1 (l.map hC))(s:l.length<2^40)(p:Nat->Bool)(lo:oN)
  (q: ∀x∈l,D X fv [.int .u32 x] ⟨H,none⟩=some (.ret (.bool (p x)) ⟨H,none⟩)):D X (.fn (.func 195) [] []) [v,fv] ⟨H,lo⟩=some (.ret (.int .i64 (ke p l)) ⟨H,lo⟩):=by
 refine N4 QQ (agF f rfl rfl) (agG f rfl) rfl λN w=>?_
 simp only[go_sem,simprocAttr,QQ,b.bY];refine eN l.length (λk e H'=>H'=H/\e 0=v/\e 1=fv/\e 7= .int .i64 l.length/\e 8= .int .i64 k/\ ∀j,j<k->p (l.getD j default)=false) 0 (by omega) ?_ ?_
 ·simp only[go_sem,simprocAttr];omega
 ·rintro k t e H' ⟨rfl,o,m,i,g,c⟩ n r;simp(disch:=omega) only[cb,F1,go_sem,simprocAttr,aeX,o,m,i,g];refine⟨λh=>?_,λh=>?_⟩
  ·have a:k<l.length:=by omega
   simp(disch:=omega) only[go_sem,simprocAttr,b.cD,b.di,↓pH,q _ (fO a)];refine⟨by omega,?_⟩;cases d:p (l.getD k default)
   ·simp(disch:=omega) only[go_sem,simprocAttr,o,m,i,g];exact⟨a,p7 c d⟩
   ·simp(disch:=omega) only[F1,go_sem,simprocAttr];rw[zO a c d]
  ·rw[zP (λj u=>c j (by omega))]
def agI{X:Ctx}(a:Ext X0 X)(v fv:AV)(l:lN)(H:List ae)(b:Rd ⟨H,none⟩ v 1 (l.map hC))(c:l.length<2^40)(p:Nat->Bool)(lo:oN)
  (d: ∀x∈l,D X fv [.int .u32 x] ⟨H,none⟩=some (.ret (.bool (p x)) ⟨H,none⟩)):D X (.fn (.func 319) [] []) [v,fv] ⟨H,lo⟩=some (.ret (.bool (l.any p)) ⟨H,lo⟩):=by
 refine N4 RG (agF a rfl rfl) (agG a rfl) rfl λN e=>?_
 simp(disch:=omega) only[F1,go_sem,simprocAttr,RG,agH a v fv l H b c p none d,zN]
def arN(v fv:AV)(l:lB)(b:Rv v 1 (l.map bC))(r:l.length<2^40)(p:UInt8->Bool)(H:List ae)(lo:oN)
  (o: ∀x∈l,D X0 fv [.int .u8 x.toNat] ⟨H,none⟩=some (.ret (.bool (p x)) ⟨H,none⟩)):D X0 (.fn (.func 136) [] []) [v,fv] ⟨H,lo⟩=some (.ret (.int .i64 (ke p l)) ⟨H,lo⟩):=by
 refine aH Qn λN u=>?_
 simp only[go_sem,simprocAttr,Qn,b.bY];refine eN l.length (λk e H'=>H'=H/\e 0=v/\e 1=fv/\e 7= .int .i64 l.length/\e 8= .int .i64 k/\ ∀j,j<k->p (l.getD j default)=false) 0 (by omega) ?_ ?_
 ·simp only[go_sem,simprocAttr];omega
 ·rintro k s e H' ⟨rfl,m,i,g,f,c⟩ n q;simp(disch:=omega) only[cb,F1,go_sem,simprocAttr,aeJ,m,i,g,f];refine⟨λh=>?_,λh=>?_⟩
  ·have a:k<l.length:=by omega
   simp(disch:=omega) only[go_sem,simprocAttr,b.cD,b.di,↓pB,o _ (fO a)];refine⟨by omega,?_⟩;cases d:p (l.getD k default)
   ·simp(disch:=omega) only[go_sem,simprocAttr,m,i,g,f];exact⟨a,p7 c d⟩
   ·simp(disch:=omega) only[F1,go_sem,simprocAttr];rw[zO a c d]
  ·rw[zP (λj t=>c j (by omega))]
def arO(v fv:AV)(l:lB)(a:Rv v 1 (l.map bC))(b:l.length<2^40)(p:UInt8->Bool)(H:List ae)(lo:oN)
  (c: ∀x∈l,D X0 fv [.int .u8 x.toNat] ⟨H,none⟩=some (.ret (.bool (p x)) ⟨H,none⟩)):D X0 (.fn (.func 101) [] []) [v,fv] ⟨H,lo⟩=some (.ret (.bool (l.any p)) ⟨H,lo⟩):=by
 refine aH P0 λN d=>?_
 simp(disch:=omega) only[F1,go_sem,simprocAttr,P0,arN v fv l a b p H none c,zN]
def arP(v fv:AV)(l:List lB)(b:Rv v 1 (l.map sC))(r:l.length<2^40)(p: lB->Bool)(H:List ae)(lo:oN)
  (o: ∀x∈l,D X0 fv [S x] ⟨H,none⟩=some (.ret (.bool (p x)) ⟨H,none⟩)):D X0 (.fn (.func 135) [] []) [v,fv] ⟨H,lo⟩=some (.ret (.int .i64 (ke p l)) ⟨H,lo⟩):=by
 refine aH Qm λN u=>?_
 simp only[go_sem,simprocAttr,Qm,b.bY];refine eN l.length (λk e H'=>H'=H/\e 0=v/\e 1=fv/\e 7= .int .i64 l.length/\e 8= .int .i64 k/\ ∀j,j<k->p (l.getD j default)=false) 0 (by omega) ?_ ?_
 ·simp only[go_sem,simprocAttr];omega
 ·rintro k s e H' ⟨rfl,m,i,g,f,c⟩ n q;simp(disch:=omega) only[cb,F1,go_sem,simprocAttr,aeI,m,i,g,f];refine⟨λh=>?_,λh=>?_⟩
  ·have a:k<l.length:=by omega
   simp(disch:=omega) only[go_sem,simprocAttr,b.cD,b.di,↓pS,o _ (fO a)];refine⟨by omega,?_⟩;cases d:p (l.getD k default)
   ·simp(disch:=omega) only[go_sem,simprocAttr,m,i,g,f];exact⟨a,p7 c d⟩
   ·simp(disch:=omega) only[F1,go_sem,simprocAttr];rw[zO a c d]
  ·rw[zP (λj t=>c j (by omega))]
def arQ(v fv:AV)(l:List lB)(a:Rv v 1 (l.map sC))(b:l.length<2^40)(p: lB->Bool)(H:List ae)(lo:oN)
  (c: ∀x∈l,D X0 fv [S x] ⟨H,none⟩=some (.ret (.bool (p x)) ⟨H,none⟩)):D X0 (.fn (.func 100) [] []) [v,fv] ⟨H,lo⟩=some (.ret (.bool (l.any p)) ⟨H,lo⟩):=by
 refine aH PZ λN d=>?_
 simp(disch:=omega) only[F1,go_sem,simprocAttr,PZ,arP v fv l a b p H none c,zN]
def B6(r:aD)(b:r.1+r.2<4294967296)(H:List ae)(lo:oN):D X0 (.fn (.func 113) [] []) [.agg (aA r)] ⟨H,lo⟩=some (.ret (.int .i64 (r.1+r.2:Nat)) ⟨H,lo⟩):=by
 refine aH P8 λN a=>?_
 simp(disch:=omega) only[F1,go_sem,simprocAttr,P8,a,aA,anF]
def SC(r:aD)(c:r.1<4294967296)(b:r.2<4294967296)(H:List ae)(lo:oN):D X0 (.fn (.func 78) [] []) [.agg (aA r)] ⟨H,lo⟩=some (.ret (.bool (j9 r)) ⟨H,lo⟩):=by
 refine aH PT λN a=>?_
 simp(disch:=omega) only[R4,F1,go_sem,simprocAttr,PT,a,aA,j9]
 (repeat' (first|apply And.intro|intro _))
 all_goals(first|omega| (refine dx (ag3 AV.bool (al4.2 ?_)) rfl;grind))
def holds(y x:aD):Bool:=decide (x=y)|| (decide (y.1<=x.1)&&decide (x.1+x.2<=y.1+y.2))
def run_eq(a b:aD):dJ (.agg [.int,.int]) (.agg (aA a)) (.agg (aA b))=some (decide (a=b)):=by
 obtain⟨f,e⟩:=a;obtain⟨d,c⟩:=b;simp only[dJ,aA,afx,anD,ac0,ac1,afK,and_self,apL,Int.natCast_inj]
 grind
def agJ(y x:aD)(d:y.1+y.2<4294967296)(e:x.1+x.2<4294967296)(H:List ae)(lo:oN):D X0 (.fn (.func 81) [] []) [.agg (aA y),.agg (aA x)] ⟨H,lo⟩=some (.ret (.bool (holds y x)) ⟨H,lo⟩):=by
 refine aH EO λN b=>?_
 have f:=B6 y d;have ex:=B6 x e;by_cases he:x=y
 ·simp only[F1,go_sem,simprocAttr,EO,b,run_eq,he,holds]
 ·by_cases c:y.1<=x.1
  ·have a: (y.1:Int)<=x.1:=by omega
   simp only[F1,go_sem,simprocAttr,EO,b,run_eq,he,holds,c,a,f,ex,anF];refine dx (ag3 AV.bool (al4.2 ?_)) rfl
   grind
  ·have a: ¬(y.1:Int)<=x.1:=by omega
   simp only[F1,go_sem,simprocAttr,EO,b,run_eq,he,holds,c,a,ag4,ar5]
def B7(l:List aD):Prop:=l.length<=64/\ ∀x∈l,x.1+x.2<=64
def arR(x y:aD)(c:x.1+x.2<4294967296)(b:y.1+y.2<4294967296)(p:Nat)(H:List ae)(lo:oN)(e:H[p]?=some (.box (aA x) none)):
  D X0 (.fn (.func 80) [] [.ptr p 0]) [.agg (aA y)] ⟨H,lo⟩=some (.ret (.bool (holds y x)) ⟨H,lo⟩):=by
 refine fJ PV λN d=>?_
 have a: ∀L,(H++L)[p]?=some (.box (aA x) none):=λL=>by grind
 simp only[F1,go_sem,simprocAttr,PV,d,a,agJ y x b c]
def K3(l:List aD)(k:Nat):Bool:=decide (k<64)&&l.any λy=>holds y (k,1)
def arS(v:AV)(l:List aD)(f:Rv v 2 (l.map aA))(b:B7 l)(k:Nat)(i:k<2147483648)(H:List ae)(lo:oN):
  D X0 (.fn (.func 43) [] []) [.agg [v],.int .i64 k] ⟨H,lo⟩=some (.ret (.bool (K3 l k)) ⟨H,lo⟩):=by
 refine aH JE λN a=>?_
 have hm:=SC (k,1) (by omega) (by simp);have c:=arM v (.fn (.func 80) [] [.ptr (N+1) 0]) l f (by have:=b.1;omega) (λy=>holds y (k,1)) (H++[.box [v] none,.box (aA (k,1)) none]) none (λy d=>arR (k,1) y (by omega) (by have:=b.2 y d;omega) (N+1) _ none (by rw[bF a];rfl));have g:aA (k,1)=[.int .i64 (k:Nat),.int .i64 1]:=rfl;rw[g]at hm c;by_cases h:k<64
 ·have e:j9 (k,1)=true:=by simp[j9];omega
  simp only[F1,go_sem,simprocAttr,JE,a,hm,e,c];simp[K3,h]
 ·have e:j9 (k,1)=false:=by simp[j9];omega
  simp only[F1,go_sem,simprocAttr,JE,a,hm,e];simp[K3,h]
def ub{X:Ctx}(pf:PF){args cap:lA}{H:List ae}{R:aV->Prop}(b:X.bW f=none)(e:X.code f=some pf)(d:Nat.ble (args++cap).length pf.ntmps=true)
  (h: ∀n,H.length=n->wp X f false pf.body ⟨ds (args++cap),[]⟩ ⟨H,none⟩ (ee X n lo pf.results R)): ∃a,D X (.fn (.func f) [] cap) args ⟨H,lo⟩=some a/\R a:=by
 have c:=apN d;refine N3 b e (by grind) ?_
 grind
def xw(l:List aD):List lA:=(List.range l.length).map λi=>[.int .i64 (i:Nat),.agg (aA (l.getD i default))]
def B8(l:List aD): (xw l).length=l.length:=by simp[xw]
def SD{l:List aD}(h:j<l.length): (xw l)[j]?=some [.int .i64 (j:Nat),.agg (aA (l.getD j default))]:=by
 unfold xw;grind
def zQ{N id o:Nat}{f:Fn}{L:lA}{H:List ae}(h:N<=id):finish N lo (.fn f [] (.ptr id o::L)) ⟨H,none⟩=(.fn f [] (.ptr id o::L),⟨H,lo⟩):=by
 have a: ¬(AV.fn f [] (.ptr id o::L)).refs<=N:=by simp only[AV.refs,aL];omega
 refine ac2 a ?_;unfold Den.freeze;simp[a]
def agK(a:Rv v sz af){H:List ae}{tg:Option TypeId}:nU ⟨H,lo⟩ v tg=some (.ptr H.length 0,⟨H++[.box [v] tg],lo⟩):=by
 obtain⟨h,_,_⟩:=a ⟨[],none⟩;cases v<;>first|rfl|grind
def dj(b:Rv v sz af)(c:ca af=0):v.refs=0:=by
 obtain⟨d,a,e⟩:=b ⟨[],none⟩;cases v<;>simp only[]at d
 ·rfl
 ·simp only[Den.elems]at a;split at a
  ·cases a;simpa only[AV.refs]using c
  grind
 ·trivial
def agL(v:AV)(l:List aD)(d:Rv v 2 (l.map aA))(N:Nat)(H:List ae)(c:H.length=N)(lo:oN):
  D X0 (.fn (.func 74) [] []) [.agg [v]] ⟨H,lo⟩=some (.ret (.fn (.func 138) [] [.ptr (N+1) 0]) ⟨H++[.box [v] none,.box [v] none],lo⟩):=by
 have e:=λH'=>agK (H:=H') (lo:=none) (tg:=none) d
 have e1:D X0 (.fn (.func 108) [] []) [v] ⟨H++[.box [v] none],none⟩=some (.ret (.fn (.func 138) [] [.ptr (N+1) 0]) ⟨H++[.box [v] none,.box [v] none],none⟩):=by
  refine aH P6 λM a=>?_
  have b:M=N+1:=by rw[<-a];simp[c]
  subst b;simp only[go_sem,simprocAttr,P6,a,e];rw[zQ (by omega)]
 refine aH PR λM a=>?_
 obtain rfl:M=N:=by rw[<-a,c]
 simp only[go_sem,simprocAttr,PR,a,e1];rw[zQ (by omega)]
def mL{X:Ctx}{a:List RV}{R:aV->Prop}{e:Env}{p:Nat}{b:lN}{H:List ae}{l:oN}:
  ee X n lo a R .ret ⟨e,p::b⟩ ⟨H,l⟩=match H[p]? with|some .fI=>ee X n lo a R .ret ⟨e,b⟩ ⟨H.set p .dead,l⟩|_=>False:=by
 simp only[yO,dZ];cases c:H[p]? with
 |none=>simp
 |some o=>cases o<;>simp[AS.set]
def fits(n:Nat)(x:aD):Bool:=decide (1<=n)&&decide (n<=x.2)
def K4(l:List aD)(n:Nat):AV:=match l.find? (fits n)with
 |some x=>.az [.int .i64 (x.1:Nat),.bool true]
 |none=>.az [.int .i64 0,.bool false]
def arT[Inhabited α]{k:Nat}(b:k<l.length)(h: ∀j,j<k->p (l.getD j default)=false)(a:p (l.getD k default)=true):l.find? p=some (l.getD k default):=by
 rw[List.find?_eq_some_iff_getElem];refine⟨a,k,b,?_,λj c=>?_⟩
 ·grind
 grind
def arU[Inhabited α](h: ∀j,j<l.length->p (l.getD j default)=false):l.find? p=none:=by
 rw[awO];intro x a;obtain⟨j,b,rfl⟩:=ap4 a
 grind
def agM(v:AV)(l:List aD)(z:Rv v 2 (l.map aA))(X:B7 l)(a:Nat)(o:ae):
  uQ X0 (.fn (.func 138) [] [.ptr (a+1) 0]) a [o,.box [v] none] (xw l):=by
 intro S V y I J b B p A W s hP h0 Z d hG lo;have U:l.length<=64:=X.1;have g: ∀i,V.cE i->i<b:=λi Y=>(p i Y).1
 suffices h: ∃w,D X0 (.fn (.func 138) [] [.ptr (a+1) 0]) [y] ⟨W,lo⟩=some w/\
  (λw=> ∃s' m ak,w=aV.ret (.az []) ⟨m,ak⟩/\V.P s' m/\ (I (xw l).length s'\/J s')/\b<=m.length/\
    (∀i,i<b-> ¬V.cE i-> ¬(a<=i/\i<a+[o,ae.box [v] none].length)->m[i]?=W[i]?)/\lb V.c b lo ak none (V.row s')) w by grind
 refine ub Qp rfl rfl rfl λN hN=>?_
 obtain rfl:N=b:=by omega
 have t:W[a+1]?=some (.box [v] none):=hG 1 (by simp);simp only[go_sem,simprocAttr,Qp,t,z.bY];refine ja l.length (λk e m ak=> ∃s',I k s'/\kA V N W (λi=>a<=i/\i<a+[o,ae.box [v] none].length) s' m ak/\e 0=y/\e 5=v/\e 6= .int .i64 l.length/\e 7= .int .i64 k) 0 (by omega) ?_ ?_
 ·simp only[go_sem,simprocAttr];exact⟨s,h0,⟨hP,by omega,λ_ _ _ _=>rfl,.inl ⟨rfl,d⟩,λr e=>by rw[d]at e;cases e⟩⟩
 rintro k hk e W1 x ⟨s1,G,F,K,H,e6,e7⟩ n T;simp only[cb,go_sem,simprocAttr,aeK,H,e6,e7];refine⟨λh=>?_,λh=>?_⟩
 ·have q:k<l.length:=by omega
  have j:=F.push B g [.box (aA (l.getD k default)) none];obtain⟨c,s2,W2,R,Q,P,O,M,L,E⟩:=A k _ s1 (SD q) G (W1++[.box (aA (l.getD k default)) none]) j.P j.len x;have u:=j.step P O M L;simp(disch:=omega) only[go_sem,simprocAttr,z.cD,z.di,h,T,K,Q];cases c
  ·obtain⟨C,f,f1,f2,f3,f4,f5⟩:=u.fin B g (dS:=lo);simp only[go_sem,simprocAttr,f1];exact⟨s2,C,f,rfl,f2,.inr E,f3,f4,f5⟩
  ·simp(disch:=omega) only[go_sem,simprocAttr,K,H,e6,e7];exact⟨q,s2,E,u⟩
 ·obtain⟨C,f,f1,f2,f3,f4,f5⟩:=F.fin B g (dS:=lo);simp only[go_sem,simprocAttr,f1];exact⟨s1,C,f,rfl,f2,.inl (by rw[B8,show l.length=k by omega];exact G),f3,f4,f5⟩
def bf{H L:List ae}{o:ae}(h:H[i]?=some o): (H++L)[i]?=some o:=by grind
def de{H:List ae}{p:Nat}{x o:ae}(h:H[p]?=some x): (H.set p o)[p]?=some o:=by grind
def eg{H:List ae}{o:ae}(h:H[i]?=some o):i<H.length:=by grind
def lJ{W H:List ae}{N:Nat}(a:H.length=N)(h: ∀i,i<N->W[i]?=H[i]?):W.take N=H:=by
 apply anT
 grind
def arV(v:AV)(l:List aD)(Q:Rv v 2 (l.map aA))(Z:B7 l)(m:Nat)(H:List ae)(lo:oN):
  D X0 (.fn (.func 173) [] []) [.agg [v],.int .i64 m] ⟨H,lo⟩=some (.ret (K4 l m) ⟨H,lo⟩):=by
 refine aH QC λN C=>?_
 have he:=agL v l Q (N+4) (H++[.box [v] none,.box [.int .i64 m] none,.box [.int .i64 0] none,.box [.bool false] none]) (by simp[C]) none;simp only[go_sem,simprocAttr,QC,C,he];refine wJ (S:=Option aD) (λe=>e 3= .ptr (N+1) 0/\e 4= .ptr (N+2) 0/\e 5= .ptr (N+3) 0) (by simp only[go_sem,simprocAttr]) (xw l) C [.box [v] none,.box [v] none] (λs=>[.box [v] none,.box [.int .i64 m] none,.box [.int .i64 ((s.getD (0,0)).1:Nat)] none,.box [.bool s.isSome] none]) (nB:=4) (λ_=>rfl) none
  (λj s=>s=none/\ ∀i,i<j->fits m (l.getD i default)=false) (λex s=>ex= .ret/\s.isSome=true/\l.find? (fits m)=s) rfl ?_ (by simp) ⟨rfl,λi G=>absurd G (aoc i)⟩ (λex s h=>⟨.ret,by rw[h.1];rfl,by rw[h.1];rfl,by rw[h.1];rfl⟩) ?_ ?_ ?_
 ·exact agM v l Q Z (N+4) _
 ·rintro e ⟨e3,F,E⟩ j y s J ⟨rfl,f⟩;have R:j<l.length:=by
   have:=(acW.1 J).1;rwa[B8]at this
  rw[SD R]at J;cases J;have P:=arT (p:=fits m) R f;have z:=p7 (p:=λi=>fits m (l.getD i default)=false) f;generalize l.getD j default=r at*;refine⟨rfl,λW n' Y X w=>?_⟩;simp only[go_sem,simprocAttr,iG,Y];refine⟨[.box (aA r) none],rfl,λI n B=>?_⟩;simp only[fD,fC,alX,afs,Nat.reduceAdd]at B;obtain⟨w0,w1,u,t⟩:=B;have f1: ∀L,(I++L)[N+1]?=some (.box [.int .i64 m] none):=λL=>bf w1
  have f2: ∀L,(I++L)[N+2]?=some (.box [.int .i64 (0:Nat)] none):=λL=>bf u
  have f3: ∀L,(I++L)[N+3]?=some (.box [.bool false] none):=λL=>bf t
  by_cases c:fits m r=true
  ·have c2:1<=m/\m<=r.2:=by unfold fits at c;simpa using c
   have g: (m:Int)>=1:=by omega
   have q: (r.2:Int)>=m:=by omega
   simp(disch:=omega) only[go_sem,simprocAttr,J8,e3,F,E,f1,f2,f3,n,g,q,ad5];refine⟨some r,?_,by omega,λi G A=>?_,rfl,P c⟩
   ·simp only[fD,fC,alX,afs,Nat.reduceAdd];refine⟨?_,?_,?_,?_⟩
    ·rw[acT (by omega),acT (by omega)];exact bf w0
    ·rw[acT (by omega),acT (by omega)];exact f1 _
    ·rw[acT (by omega),aed (by simp;omega)];rfl
    ·rw[aed (by simp;omega)];rfl
   ·rw[acT (by omega),acT (by omega),acV (by omega)]
  ·have c:fits m r=false:=by simpa using c
   have k:iK (I++[ae.box (aA r) none]) N 0 [.box [v] none,.box [.int .i64 m] none,.box [.int .i64 (0:Nat)] none,.box [.bool false] none]:=by
    simp only[fD,fC,alX,afs,Nat.reduceAdd];exact⟨bf w0,f1 _,f2 _,f3 _⟩
   by_cases h1:1<=m
   ·have g: (m:Int)>=1:=by omega
    have q: ¬(r.2:Int)>=m:=by unfold fits at c;simp[h1]at c;omega
    simp only[go_sem,simprocAttr,J8,e3,f1,n,g,q,nZ];exact⟨none,k,by omega,λi G A=>acV (by omega),rfl,z c⟩
   ·have g: ¬(m:Int)>=1:=by omega
    simp only[go_sem,simprocAttr,J8,e3,f1,n,g,nZ];exact⟨none,k,by omega,λi G A=>acV (by omega),rfl,z c⟩
 ·rintro e ⟨e3,F,E⟩ s W p V ⟨rfl,f⟩ d w O;simp only[fD,fC,alX,afs,Nat.reduceAdd]at w;obtain⟨w0,w1,u,t⟩:=w;rw[B8]at f;have K: ∀a b c,(((W.set (N+2) a).set (N+3) b).set p c).take N=H:=λa b c=>(((d.set (by omega)).set (by omega)).set (by omega)).take C
  have T: ∀a b,((W.set (N+2) a).set (N+3) b)[N+3]?=some b:=λa b=>aed (by rw[afw];exact eg t)
  have s2: ∀a b,((W.set (N+2) a).set (N+3) b)[N+2]?=some a:=λa b=>by rw[acT (by omega)];exact de u
  simp(disch:=omega) only[F1,go_sem,simprocAttr,F,E,u,t,O,mL,K,s2,T,K4,arU f]
 ·rintro e ⟨e3,F,E⟩ ex s W p V ⟨rfl,U,hI⟩ d w O;simp only[fD,fC,alX,afs,Nat.reduceAdd]at w;obtain⟨w0,w1,u,t⟩:=w;have M: ∀o,(W.set p o).take N=H:=λo=>(d.set (by omega)).take C
  simp(disch:=omega) only[F1,go_sem,simprocAttr,F,E,u,t,O,mL,M];refine dx ?_ rfl;unfold K4;rw[hI];cases s with
  |none=>cases U
  |some x=>rfl
structure B9 where
 x:aD
 put:Bool
 out:List aD
 row:oN
 res:AV
 ok:Bool
def agN(H:List ae)(N:Nat)(v:AV)(s:B9)(W:List ae):Prop:=
 (∀i,i<N->W[i]?=H[i]?)/\W[N]?=some (.box [v] none)/\W[N+1]?=some (.box [s.res] none)/\W[N+2]?=some (.box [.bool s.ok] none)/\W[N+3]?=some (.box (aA s.x) none)/\
   W[N+5]?=some (.box [.bool s.put] none)/\SV (N+4) 2 fb W s.row (s.out.map aA)
def SE(H:List ae)(N:Nat)(v:AV):YV B9:=⟨agN H N v,B9.row,λi=>i<N+6,N⟩
def arW(H:List ae)(N:Nat)(v:AV): (SE H N v).Ok where
 st:=λs W e ⟨m,l,k,j,g,f,b⟩ h=>by
  have d: ∀i,i<N+6->e[i]?=W[i]?:=λi a=>h i (.inl a)
  exact⟨λi a=>by grind,by grind,by grind,by grind,
   by simp_all,by simp_all,b.st (d _ (by omega)) λi a=>h i (.inr a)⟩
 lt:=λs W r ⟨_,_,_,_,_,_,b⟩ c=>b.row c
def SF(l:List aD)(a:aD)(v:AV)(j:Nat)(s:B9):Prop:=
 gz a false [] l=gz s.x s.put s.out (l.drop j)/\s.x.1+s.x.2<=64/\s.out.length<=2*j/\s.res= .av/\s.ok=false
def agO(l:List aD)(a:aD)(v:AV)(b:Ex)(s:B9):Prop:=b= .ret/\gz a false [] l=none/\s.res=v/\s.ok=false
def p9(v:AV)(l:List aD)(x:aD):AV:=match gR l x with
 |some a=>.az [.agg [eu a],.bool true]
 |none=>.az [.agg [v],.bool false]
def agP(v:AV)(l:List aD)(hv:Rv v 2 (l.map aA))(hl:B7 l)(x:aD)(SG:x.1<4294967296)(SH:x.2<4294967296)(H:List ae)(lo:oN):
  D X0 (.fn (.func 120) [] []) [.agg [v],.int .i64 (x.1:Nat),.int .i64 (x.2:Nat)] ⟨H,lo⟩=some (.ret (p9 v l x) ⟨H,lo⟩):=by
 refine aH JT λN hN=>?_
 have hm:=SC x SG SH;have hr:aA x=[.int .i64 (x.1:Nat),.int .i64 (x.2:Nat)]:=rfl;rw[hr]at hm;have SI:v.refs=0:=dj hv (bH (λ_=>rfl) l);cases g:j9 x with
 |false=>
  simp(disch:=omega) only[F1,go_sem,simprocAttr,JT,hN,hm,g,SI];have e1:p9 v l x= .az [.agg [v],.bool false]:=by unfold p9 gR;rw[g];rfl
  rw[e1]
 |true=>
  have he:=agL v l hv (N+6) (H++[.box [v] none,.box [.av] none,.box [.bool false] none,.box (aA x) none,.box [.av] none,.box [.bool false] none]) (by simp[hN]) none;rw[hr]at he;simp(disch:=omega) only[go_sem,simprocAttr,JT,hN,hm,g,he];rw[<-hr];generalize E: ((((((((((((((ds _).set 3 _).set 6 _).set 7 _).set 13 _).set 14 _).set 15 _).set 8 _).set 16 _).set 17 _).set 18 _).set 9 _).set 10 _).set 20 _).set 21 _=e;have F:e 3= .ptr N 0:=by rw[<-E];rfl
  have q6:e 6= .ptr (N+1) 0:=by rw[<-E];rfl
  have q7:e 7= .ptr (N+2) 0:=by rw[<-E];rfl
  have q8:e 8= .ptr (N+3) 0:=by rw[<-E];rfl
  have q9:e 9= .ptr (N+4) 0:=by rw[<-E];rfl
  have K5:e 10= .ptr (N+5) 0:=by rw[<-E];rfl
  have q21: (aq.t 21).get e= .fn (.func 138) [] [.ptr (N+6+1) 0]:=by rw[<-E];rfl
  clear E;obtain⟨W0,FE⟩: ∃W0,W0=H++[ae.box [v] none,.box [.av] none,.box [.bool false] none,.box (aA x) none,.box [.av] none,.box [.bool false] none,.box [v] none,.box [v] none]:=⟨_,rfl⟩;have arX:W0.length=N+8:=by rw[FE];simp[hN]
  rw[<-FE];have m: ∀k,W0[N+k]?=[ae.box [v] none,.box [.av] none,.box [.bool false] none,.box (aA x) none,.box [.av] none,.box [.bool false] none,.box [v] none,.box [v] none][k]?:=λk=>by rw[FE,bF hN]
  have arY:W0[N]?=some (.box [v] none):=by rw[FE,dI hN];rfl
  have DG:agN H N v ⟨x,false,[],none,.av,false⟩ W0:=by
   refine⟨λi b=>by rw[FE,acV (by omega)],arY,m 1,m 2,m 3,m 5,.inl ⟨rfl,rfl,m 4⟩⟩
  have qJ:x.1+x.2<=64:=by unfold j9 at g;simp at g;omega
  refine OU (SE H N v) (arW H N v) (xw l) (N+6) [.box [v] none,.box [v] none] W0 ⟨x,false,[],none,.av,false⟩ (by rw[q21];rfl) (by rw[q21];exact agM v l hv hl (N+6) _)
   (λi b=>?_) (by simp[arX]) (λi b=>?_) DG rfl (SF l x v) (agO l x v) ⟨rfl,qJ,by simp,rfl,rfl⟩ (λex s h=>?_) ?_ ?_ ?_
  ·match i,b with
   |0,_=>exact m 6
   |1,_=>exact m 7
  ·have:i<N+6:=b;simp only[afx,anD];omega
  ·exact⟨.ret,by rw[h.1];rfl,by rw[h.1];rfl,by rw[h.1];rfl⟩
  ·intro j y s hy hI;have hj:j<l.length:=by
    have:=(acW.1 hy).1;rwa[B8]at this
   rw[SD hj]at hy;cases hy;have arZ:l.drop j=l.getD j default::l.drop (j+1):=by
    rw[amw hj,afA,adM hj];rfl
   have hym:=hl.2 _ (fO hj);generalize l.getD j default=y at*;refine⟨rfl,λW hP wI=>?_⟩;obtain⟨n,hn⟩: ∃n,W.length=n:=⟨_,rfl⟩;simp(disch:=omega) only[go_sem,simprocAttr,iG,hn];refine⟨[.box (aA y) none],rfl,λO SJ OS=>?_⟩;obtain⟨g1,g2,g3,g4⟩:=hI;rw[arZ]at g1;obtain⟨p0,p1,p2,p3,p4,p5,V⟩:=OS;have t:O.length=n:=by omega
   have f3: ∀L,(O++L)[N+3]?=some (.box (aA s.x) none):=λL=>bf p4
   have f5: ∀L,(O++L)[N+5]?=some (.box [.bool s.put] none):=λL=>bf p5
   have f0: ∀L,(O++L)[N]?=some (.box [v] none):=λL=>bf p1
   have f1: ∀L,(O++L)[N+1]?=some (.box [s.res] none):=λL=>bf p2
   have f2: ∀L,(O++L)[N+2]?=some (.box [.bool s.ok] none):=λL=>bf p3
   have hnN:N+10<=n:=by omega
   have K6:=hl.1;have ey:=B6 y (by omega);have ex:=B6 s.x (by omega);have J:SV (N+4) 2 fb (O++[.box (aA y) none]) s.row (s.out.map aA):=V.st (by rw[acV (by omega)]) λi b=>by
    obtain⟨_,_,_,_,q⟩:=V.row b;rw[acV (eg q)]
   have f: ∀i,s.row=some i->N+6<=i:=by
    intro i b;rcases V with⟨q,_⟩| ⟨id,aj,q,_,G,F,Q⟩
    ·rw[q]at b;cases b
    ·rw[q]at b;cases b;have:i≠N+5:=by rintro rfl;rw[p5]at Q;cases Q
     omega
   have NG: (O++[ae.box (aA y) none]).length=n+1:=by simp[t]
   have fin: ∀ (w:List ae) (s':B9) (K7:oN) (fr:Fr),(∀i,i<n->i≠N+3->i≠N+4->i≠N+5->s.row≠some i->w[i]?=O[i]?)->w[N+3]?=some (.box (aA s'.x) none)->w[N+5]?=some (.box [.bool s'.put] none)->
     SV (N+4) 2 fb w s'.row (s'.out.map aA)->s'.res=s.res->s'.ok=s.ok->n<=w.length->((K7=none/\s'.row=s.row)\/ (∃j,N<=j/\j<N+10/\K7=some j/\ (s'.row=s.row\/ ∃r,s'.row=some r/\n<=r)))->SF l x v (j+1) s'->
     OP (SE H N v) (W0.length+2) s O (SF l x v (j+1)) (agO l x v) .normal fr ⟨w,K7⟩:=by
    intro w s' K7 fr h1 h2 h3 h4 h5 h6 h7 h8 h9;have R: ∀i,i<N+3->w[i]?=O[i]?:=λi b=>h1 i (by omega) (by omega) (by omega) (by omega) (λe=>by have:=f i e;omega)
    refine⟨s',⟨λi b=>by rw[R i (by omega)];exact p0 i b,by rw[R N (by omega)];exact p1,by rw[R (N+1) (by omega),h5];exact p2,by rw[R (N+2) (by omega),h6];exact p3,h2,h3,h4⟩,⟨by show O.length<=w.length;omega,λi b hp hr=>?_⟩,?_,h9⟩
    ·have oX: ¬i<N+6:=hp;exact h1 i (by omega) (by omega) (by omega) (by omega) hr
    ·rcases h8 with h8| ⟨j,A,G,F,Q⟩
     ·exact .inl h8
     ·refine .inr ⟨j,A,by omega,F,?_⟩;rw[t];exact Q
   have C: ∀af:List lA,af.length<=200->(af.length+1)*16<=room:=λaf h=>by unfold room;omega
   by_cases c1:y.1+y.2<s.x.1
   ·have K: (y.1:Int)+y.2<s.x.1:=by omega
    obtain⟨P,v',W3,w,r',a1,a2,a3,a4,a5,M,a7⟩:=J.append (bytes:=16) (el:=aA y) (by omega) (by omega) rfl rfl (C _ (by simp;omega)) none;simp(disch:=omega) only[go_sem,simprocAttr,zn,q8,q9,t,f3,ey,K,a1,a2,a3,DF,anF];refine fin w {s with out:=s.out++[y],row:=r'} _ _ (λi A G F Q q5=>?_) ?_ ?_ (by rw[afr];exact a4) rfl rfl (by omega) (.inr ⟨N+4,by omega,by omega,rfl,?_⟩) ⟨?_,g2,by simp;omega,g4⟩
    ·rw[M i (by omega) F q5,acV (by omega)]
    ·rw[M _ (by omega) (by omega) (λq=>by have:=f _ q;omega)];exact f3 _
    ·rw[M _ (by omega) (by omega) (λq=>by have:=f _ q;omega)];exact f5 _
    ·rcases a7 with q| ⟨q,A,G⟩
     ·exact .inl q
     ·exact .inr ⟨q,A,by omega⟩
    ·rw[g1,gz,adG c1]
   have K: ¬(y.1:Int)+y.2<s.x.1:=by omega
   by_cases c2:s.x.1+s.x.2<y.1
   ·have U: (y.1:Int)>s.x.1+s.x.2:=by omega
    cases c:s.put
    ·obtain⟨P,v',W3,w,r',a1,a2,a3,a4,a5,M,a7⟩:=J.append (bytes:=16) (el:=aA s.x) (by omega) (by omega) rfl rfl (C _ (by simp;omega)) none;have Y: ∀i,r'=some i->N+6<=i:=by
      intro i b;rcases a7 with q| ⟨q,A,G⟩
      ·rw[q]at b;exact f i b
      ·rw[A]at b;cases b;omega
     have u5:w[N+5]?=some (.box [.bool false] none):=by
      rw[M _ (by omega) (by omega) (λq=>by have:=f _ q;omega),<-c];exact f5 _
     have un:w[n]?=some (.box (aA y) none):=by
      rw[M _ (by omega) (by omega) (λq=>?_),<-t]
      ·simp
      ·rcases V with⟨z,_⟩| ⟨id,aj,z,_,z2,z3,z4⟩
       ·rw[z]at q;cases q
       ·rw[z]at q;cases q;have:=eg z4;omega
     have ar0:SV (N+4) 2 fb (w.set (N+5) (.box [.bool true] none)) r' ((s.out++[s.x]).map aA):=by
      rw[afr];exact SV.st a4 (acT (by omega)) λi b=>acT (by have:=Y i b;omega)
     obtain⟨vw,v2,T,W6,r2,b1,b2,b3,b4,b5,b6,b7⟩:=ar0.append (bytes:=16) (el:=aA y) (by rw[afw];omega) (by omega) rfl rfl (C _ (by simp;omega)) (some (N+4));have b1':w[N+4]?=some (.box [vw] none):=by rw[<-b1,acT (by omega)]
     have agS:cJ (some (N+4)) (N+4)=some (N+4):=by simp[cJ]
     simp(disch:=omega) only[go_sem,simprocAttr,zn,q8,q9,K5,t,f3,f5,ey,ex,K,U,a1,a2,a3,DF,anF,c,u5,un,b1',b2,b3,agS];refine fin W6 {s with put:=true,out:=s.out++[s.x]++[y],row:=r2} _ _ (λi A G F Q q5=>?_) ?_ ?_ (by rw[afr];exact b4) rfl rfl (by rw[afw]at b5;omega) (.inr ⟨N+4,by omega,by omega,rfl,?_⟩) ⟨?_,g2,by simp;omega,g4⟩
     ·have OB:r'≠some i:=by
        intro q;rcases a7 with z| ⟨z,z1,z2⟩
        ·rw[z]at q;exact q5 q
        ·rw[z1]at q;cases q;omega
      rw[b6 i (by rw[afw];omega) F OB,acT (by omega),M i (by omega) F q5,acV (by omega)]
     ·rw[b6 _ (by rw[afw];omega) (by omega) (λq=>by have:=Y _ q;omega),acT (by omega),M _ (by omega) (by omega) (λq=>by have:=f _ q;omega)];exact f3 _
     ·rw[b6 _ (by rw[afw];omega) (by omega) (λq=>by have:=Y _ q;omega)];exact aed (by omega)
     ·rcases b7 with q| ⟨q,A,G⟩
      ·rcases a7 with z| ⟨z,z1,z2⟩
       ·exact .inl (q.trans z)
       ·exact .inr ⟨z,q.trans z1,by omega⟩
      ·rw[afw]at G;exact .inr ⟨q,A,by omega⟩
     ·rw[g1,gz,adE c1,adG c2,c];simp
    ·obtain⟨P,v',W3,w,r',a1,a2,a3,a4,a5,M,a7⟩:=J.append (bytes:=16) (el:=aA y) (by omega) (by omega) rfl rfl (C _ (by simp;omega)) none;simp(disch:=omega) only[go_sem,simprocAttr,zn,q8,q9,K5,t,f3,f5,ey,ex,K,U,a1,a2,a3,DF,anF,c];refine fin w {s with out:=s.out++[y],row:=r'} _ _ (λi A G F Q q5=>?_) ?_ ?_ (by rw[afr];exact a4) rfl rfl (by omega) (.inr ⟨N+4,by omega,by omega,rfl,?_⟩) ⟨?_,g2,by simp;omega,g4⟩
     ·rw[M i (by omega) F q5,acV (by omega)]
     ·rw[M _ (by omega) (by omega) (λq=>by have:=f _ q;omega)];exact f3 _
     ·rw[M _ (by omega) (by omega) (λq=>by have:=f _ q;omega)];exact f5 _
     ·rcases a7 with q| ⟨q,A,G⟩
      ·exact .inl q
      ·exact .inr ⟨q,A,by omega⟩
     ·rw[g1,gz,adE c1,adG c2,c];simp
   have U: ¬(y.1:Int)>s.x.1+s.x.2:=by omega
   by_cases c3:y.1+y.2=s.x.1
   ·have K8: ((y.1:Int)+y.2=s.x.1)=True:=aAY (by omega);simp(disch:=omega) only[go_sem,simprocAttr,zn,q8,t,f3,ey,ex,K,U,K8,anF];refine fin _ {s with x:=(y.1,y.2+s.x.2)} _ _ (λi A G F Q q5=>?_) ?_ ?_ (J.st (acT (by omega)) λi b=>acT (by have:=f _ b;omega)) rfl rfl (by rw[afw];omega) (.inl ⟨rfl,rfl⟩) ⟨?_,by simp;omega,by simp;omega,g4⟩
    ·rw[acT (by omega),acV (by omega)]
    ·rw[aed (by omega)];rfl
    ·rw[acT (by omega)];exact f5 _
    ·rw[g1,gz,adE c1,adE c2,adG c3]
   have K8: ¬(y.1:Int)+y.2=s.x.1:=by omega
   by_cases c4:y.1=s.x.1+s.x.2
   ·have SM: ((y.1:Int)=s.x.1+s.x.2)=True:=aAY (by omega);simp(disch:=omega) only[go_sem,simprocAttr,zn,q8,t,f3,ey,ex,K,U,K8,SM,anF];refine fin _ {s with x:=(s.x.1,s.x.2+y.2)} _ _ (λi A G F Q q5=>?_) ?_ ?_ (J.st (acT (by omega)) λi b=>acT (by have:=f _ b;omega)) rfl rfl (by rw[afw];omega) (.inl ⟨rfl,rfl⟩) ⟨?_,by simp;omega,by simp;omega,g4⟩
    ·rw[acT (by omega),acV (by omega)]
    ·rw[aed (by omega)];rfl
    ·rw[acT (by omega)];exact f5 _
    ·rw[g1,gz,adE c1,adE c2,adE c3,adG c4]
   ·have SM: ¬(y.1:Int)=s.x.1+s.x.2:=by omega
    simp(disch:=omega) only[go_sem,simprocAttr,zn,F,q6,q7,q8,t,f0,f1,f2,f3,ey,ex,K,U,K8,SM,anF,SI];obtain⟨Wf,Z⟩: ∃Wf,Wf=((O++[ae.box (aA y) none]).set (N+1) (ae.box [v] none)).set (N+2) (ae.box [AV.bool false] none):=⟨_,rfl⟩;rw[<-Z];have hk: ∀i,i<n->i≠N+1->i≠N+2->Wf[i]?=O[i]?:=λi A G F=>by
     rw[Z,acT (by omega),acT (by omega),acV (by omega)]
    have k1:Wf[N+1]?=some (.box [v] none):=by
     rw[Z,acT (by omega)];exact aed (by omega)
    have k2:Wf[N+2]?=some (.box [.bool false] none):=by
     rw[Z];exact aed (by rw[afw];omega)
    have kl:Wf.length=n+1:=by rw[Z];simp[t]
    refine⟨{s with res:=v,ok:=false},⟨λi b=>?_,?_,k1,k2,?_,?_,?_⟩,⟨?_,λi b hp hr=>?_⟩,.inl ⟨rfl,rfl⟩,rfl,?_,rfl,rfl⟩
    ·show Wf[i]?=_;rw[hk i (by omega) (by omega) (by omega)];exact p0 i b
    ·show Wf[N]?=_;rw[hk N (by omega) (by omega) (by omega)];exact p1
    ·show Wf[N+3]?=_;rw[hk _ (by omega) (by omega) (by omega)];exact p4
    ·show Wf[N+5]?=_;rw[hk _ (by omega) (by omega) (by omega)];exact p5
    ·exact V.st (hk _ (by omega) (by omega) (by omega)) λi b=>by
      obtain⟨_,_,_,_,q⟩:=V.row b;have:=eg q;have:=f i b;exact hk i (by omega) (by omega) (by omega)
    ·show O.length<=Wf.length;omega
    ·have oX: ¬i<N+6:=hp;exact hk i (by omega) (by omega) (by omega)
    ·rw[g1,gz,adE c1,adE c2,adE c3,adE c4]
  ·intro s' W' ak hI hP A3 hd o6 SN;obtain⟨p0,p1,p2,p3,p4,p5,V⟩:=hP;obtain⟨g1,g2,g3,g4,g5⟩:=hI;rw[B8,List.drop_length]at g1;rw[B8]at g3;have K6:=hl.1;have S:eF N ak:=by
    rcases SN with⟨rfl,_⟩| ⟨q,A,G,rfl⟩
    ·exact .inl rfl
    ·exact .inr ⟨q,A,rfl⟩
   have f: ∀i,s'.row=some i->N+6<=i/\i≠W0.length:=by
    intro i b;rcases V with⟨q,_⟩| ⟨id,aj,q,_,G,F,Q⟩
    ·rw[q]at b;cases b
    ·rw[q]at b;cases b;have:i≠N+5:=by rintro rfl;rw[p5]at Q;cases Q
     exact⟨by omega,by rintro rfl;rw[hd]at Q;cases Q⟩
   obtain⟨B,hB⟩: ∃B,B=((PC.aJ [o 83 (I.load false 1 (aq.t 9)),o 84 (I.build [AV.av] [(0,1,aq.t 83)]),u (I.store 1 (aq.t 6) (aq.t 84)),u (I.store 1 (aq.t 7) (aq.c (AV.bool true)))]).seq PC.ret):=⟨_,rfl⟩;rw[<-hB];have fin: ∀ (T:List ae) (X:oN) (fr:Env) (out:List aD) (r5:oN),(∀i,i<N->T[i]?=H[i]?)->SV (N+4) 2 fb T r5 (out.map aA)->(∃z,T[N+1]?=some (.box [z] none))->(∃z,T[N+2]?=some (.box [z] none))->
     T[W0.length]?=some .fI->eF N X->gz x false [] l=some out->fr 9= .ptr (N+4) 0->fr 6= .ptr (N+1) 0->fr 7= .ptr (N+2) 0->
     wp X0 120 false B ⟨fr,[W0.length]⟩ ⟨T,X⟩
      (ee X0 N lo [RV.cell 6 true 1,RV.cell 7 false 1] λx_1=>x_1=aV.ret (p9 v l x) ⟨H,lo⟩):=by
    intro T X fr out r5 h1 h2 ⟨z1,h3⟩ ⟨z2,h4⟩ h5 h6 h7 h9 h10 yG;obtain⟨P,b1,b2,b3,b4,b5⟩:=h2.own (N:=N) (by omega) (by intro el qG;obtain⟨r,_,rfl⟩:=afq.1 qG;rfl);have hl5:W0.length<T.length:=eg h5;have s1: (T.set (N+1) (ae.box [P] none))[N+1]?=some (.box [P] none):=aed (by omega);have s2: ((T.set (N+1) (ae.box [P] none)).set (N+2) (ae.box [AV.bool true] none))[N+2]?=some (.box [.bool true] none):=aed (by rw[afw];omega);have e1:p9 v l x= .az [.agg [eu out],.bool true]:=by unfold p9 gR;rw[adG g,h7]
    have hor:ca (out.map aA)=0:=bH (λ_=>rfl) out;have o6:bw P (out.map aA)=eu out:=by
     rcases b2.2 with⟨rfl,q⟩| ⟨id,aj,_,rfl,_⟩
     ·have:out=[]:=ap3.1 q;subst this;rfl
     ·unfold eu;cases out with
      |nil=>
       rcases h2 with⟨_,_,q⟩| ⟨_,_,_,q,_⟩
       ·rw[q]at b1;cases b1
       ·exact absurd rfl q
      |cons a l2=>rfl
    rw[hB];simp(disch:=omega) only[go_sem,simprocAttr,h9,h10,yG,b1,b3,b4,h3,h4,h5,s1,s2,mL];have SO: ∀SP,Fz ⟨((T.set (N+1) (ae.box [P] none)).set (N+2) (ae.box [AV.bool true] none)).set W0.length ae.dead,SP⟩ N 12 (.az [.agg [P],.bool true]) (.az [.agg [eu out],.bool true]):=by
     intro SP;have ar4:aT N (((T.set (N+1) (ae.box [P] none)).set (N+2) (ae.box [AV.bool true] none)).set W0.length ae.dead) P 2 fb (out.map aA):=by
      obtain⟨c1,c2⟩:=b2;refine⟨c1,?_⟩;rcases c2 with c2| ⟨id,aj,c3,c4,c5⟩
      ·exact .inl c2
      ·have d1:id≠N+1:=by rintro rfl;rw[h3]at c5;cases c5
       have d2:id≠N+2:=by rintro rfl;rw[h4]at c5;cases c5
       have d3:id≠W0.length:=by rintro rfl;rw[h5]at c5;cases c5
       exact .inr ⟨id,aj,c3,c4,by rw[acT (by omega),acT (by omega),acT (by omega)];exact c5⟩
     have f1:=Fz.own (d:=0) (lo:=SP) ar4 (by omega);rw[o6]at f1;exact(Fz.az (.cons (Fz.agg (.cons f1 .nil)) (.cons ((Fz.low (d:=0) (by simp[AV.refs])).mono (by omega)) .nil))).mono (by omega)
    have oE: (((T.set (N+1) (ae.box [P] none)).set (N+2) (ae.box [AV.bool true] none)).set W0.length ae.dead).take N=H:=lJ hN λi b=>by
     rw[acT (by omega),acT (by omega),acT (by omega)];exact h1 i b
    have hl6:eF N (if P.refs<=N+1+1 then X else cJ X (N+1)):=by
     split
     ·exact h6
     ·exact h6.min (p:=N+1) (by omega) (.inr rfl)
    rw[uR hl6 (SO _),oE,e1]
   have p0': ∀i,i<N->W'[i]?=H[i]?:=p0;have p1':W'[N+1]?=some (.box [s'.res] none):=p2;cases c:s'.put
   ·have J:SV (N+4) 2 fb W' s'.row (s'.out.map aA):=V;obtain⟨P,v',W3,w,r',a1,a2,a3,a4,a5,M,a7⟩:=J.append (bytes:=16) (el:=aA s'.x) (by omega) (by omega) rfl rfl (by unfold room;simp;omega) ak;have k: ∀i,i<N+4->w[i]?=W'[i]?:=λi b=>M i (by omega) (by omega) (λq=>by have:=(f _ q).1;omega)
    simp(disch:=omega) only[go_sem,simprocAttr,q8,q9,K5,p4,p5,c,a1,a2,a3];refine fin w _ _ (s'.out++[s'.x]) r' (λi b=>by rw[k i (by omega)];exact p0' i b) (by rw[afr];exact a4) ⟨_,by rw[k (N+1) (by omega)];exact p2⟩ ⟨_,by rw[k (N+2) (by omega)];exact p3⟩ ?_ (S.min (p:=N+4) (by omega) (.inr rfl)) ?_ q9 q6 q7
    ·rw[M W0.length (by omega) (by omega) (λq=>(f _ q).2 rfl)];exact hd
    ·rw[g1,gz,c];rfl
   ·simp(disch:=omega) only[go_sem,simprocAttr,K5,p5,c];refine fin W' _ _ s'.out s'.row p0' V ⟨_,p2⟩ ⟨_,p3⟩ hd S ?_ q9 q6 q7;rw[g1,gz,c];rfl
  ·intro ex s' W' ak hJ hP A3 hd o6 SN;obtain⟨p0,p1,p2,p3,p4,p5,V⟩:=hP;obtain⟨rfl,g1,g2,g3⟩:=hJ;have S:eF N ak:=by
    rcases SN with⟨rfl,_⟩| ⟨q,A,G,rfl⟩
    ·exact .inl rfl
    ·exact .inr ⟨q,A,rfl⟩
   rw[g2]at p2;rw[g3]at p3;have e1:p9 v l x= .az [.agg [v],.bool false]:=by unfold p9 gR;rw[adG g,g1]
   have SO:Fz ⟨W'.set W0.length ae.dead,ak⟩ N 12 (.az [.agg [v],.bool false]) (.az [.agg [v],.bool false]):=Fz.low (by simp[AV.refs,aL,SI]);have oE: (W'.set W0.length ae.dead).take N=H:=lJ hN λi b=>by rw[acT (by omega)];exact p0 i b
   simp(disch:=omega) only[go_sem,simprocAttr,q6,q7,mL,hd,p2,p3];rw[uR S SO,oE,e1]
def agU(t:au)(x:Nat): (aG t x).1.up=bq t x:=by unfold aG bq;split<;>rfl
theorem jU{r:cP}:aO [AV.int .u32 0,.int .i64 0,.av,.int .i64 0,.int .u32 0,.int .u32 0,.int .u32 0,.int .u32 0,.int .u32 0,.int .u32 0,.int .u32 0,.int .u32 0] 0 (bM r)=bM r:=by rfl
def SQ(t:au)(h:Nat)(N:Nat)(H:List ae)(b:H.length=N)(lo:oN):D X0 (.fn (.func 293) [] []) [.agg (aN t),.int .u32 h] ⟨H,lo⟩=some (.ret (.fn (.func 325) [] [.ptr N 0,.ptr (N+1) 0]) ⟨H++[.box (aN t) none,.box [.int .u32 h] none],lo⟩):=by
 refine aH Rq λM a=>?_
 obtain rfl:M=N:=by omega
 simp only[go_sem,simprocAttr,Rq,a];rw[zQ (by omega)]
def nw(t:au)(h:Nat):List lA:=(aU t h).map λx=>[.int .u32 (x:Nat)]
def SR(t:au)(ht:bN t)(hT:cg t)(h:Nat)(hh:h<4294967296)(a:Nat):
  uQ X0 (.fn (.func 325) [] [.ptr a 0,.ptr (a+1) 0]) a [.box (aN t) none,.box [.int .u32 h] none] (nw t h):=by
 intro S V y I J b O m uM W s hP h0 wI w hG lo;have o: ∀i,V.cE i->i<b:=λi hi=>(m i hi).1
 suffices h: ∃X,D X0 (.fn (.func 325) [] [.ptr a 0,.ptr (a+1) 0]) [y] ⟨W,lo⟩=some X/\
   (λX=> ∃s' u ak,X=aV.ret (.az []) ⟨u,ak⟩/\V.P s' u/\ (I (nw t h).length s'\/J s')/\b<=u.length/\
     (∀i,i<b-> ¬V.cE i-> ¬(a<=i/\i<a+[ae.box (aN t) none,.box [.int .u32 (h:Nat)] none].length)->u[i]?=W[i]?)/\lb V.c b lo ak none (V.row s')) X by
  obtain⟨X,h1,s',u,ak,rfl,q1,q2,q3,q4,q5⟩:=h;exact⟨s',u,ak,h1,q1,q2,q3,q4,q5⟩
 refine ub RL rfl rfl rfl λN hN=>?_
 obtain rfl:N=b:=by omega
 have g0:W[a]?=some (.box (aN t) none):=hG 0 (by simp);have g1:W[a+1]?=some (.box [.int .u32 h] none):=hG 1 (by simp);have ha:=eg g1;have SS: ¬V.cE a:=λq=>(m a q).2 ⟨by omega,by simp⟩
 have z: ¬V.cE (a+1):=λq=>(m _ q).2 ⟨by omega,by simp⟩
 simp only[go_sem,simprocAttr,RL];refine ja ((aU t h).length+1) (λk e u ak=> ∃s' x,I k s'/\kA V N W (λi=>a<=i/\i<a+[ae.box (aN t) none,.box [.int .u32 (h:Nat)] none].length) s' u ak/\u[a]?=some (.box (aN t) none)/\u[a+1]?=some (.box [.int .u32 (x:Nat)] none)/\x<4294967296/\k<=(aU t h).length/\aU t x=(aU t h).drop k/\e 0=y/\e 1= .ptr a 0/\e 2= .ptr (a+1) 0) 0 (by omega) ?_ ?_
 ·simp only[go_sem,simprocAttr];exact⟨s,h,h0,⟨hP,by omega,λ_ _ _ _=>rfl,.inl ⟨rfl,w⟩,λr e=>by rw[w]at e;cases e⟩,g0,g1,hh,rfl⟩
 rintro k hk e W1 P ⟨s1,x,hI,U,w0,w1,hx,SU,p,e0,e1,Z⟩ n T;have g:=pP hT x;have K9:N<=n:=by have:=U.len;omega
 have f0: ∀L,(W1++L)[a]?=some (.box (aN t) none):=λL=>bf w0
 have f1: ∀L,(W1++L)[a+1]?=some (.box [.int .u32 x] none):=λL=>bf w1
 have Y:=ua t ht x hx;have hu:=agU t x;have f: (aG t x).2=if t.ar x then 0 else 4:=by unfold aG;split<;>rfl
 have A: ∀L,bq t x=0-> ∃j d,finish N lo (.az []) ⟨W1++L,P⟩=(.az [],⟨j,d⟩)/\V.P s1 j/\ (I (nw t h).length s1\/J s1)/\N<=j.length/\ (∀i,i<N-> ¬V.cE i-> ¬(a<=i/\i<a+[ae.box (aN t) none,.box [.int .u32 (h:Nat)] none].length)->j[i]?=W[i]?)/\lb V.c N lo d none (V.row s1):=by
  intro L F;obtain⟨j,d,v,E,l,C,B⟩:=(U.push O o L).fin O o (dS:=lo);refine⟨j,d,v,E,.inl ?_,l,C,B⟩;rw[adG F]at g;rw[g]at p;have:=ag3 List.length p;rw[al3]at this;have e: (nw t h).length=(aU t h).length:=by simp[nw]
  simp only[anD]at this;rw[e,show(aU t h).length=k by omega];exact hI
 cases G:t.ar x
 ·rw[G]at f;have F:bq t x=0:=by unfold bq;rw[G];rfl
  obtain⟨j,d,v,E,l,C,B,M⟩:=A [.box (bM (aG t x).1) none] F;simp only[go_sem,simprocAttr,Fk,e1,Z,w0,w1,Y,mc,jU,f,T,v];exact⟨s1,j,d,rfl,E,l,C,B,M⟩
 ·rw[G]at f;by_cases F:bq t x=0
  ·obtain⟨j,d,v,E,l,C,B,M⟩:=A [.box (bM (aG t x).1) none] F;simp only[go_sem,simprocAttr,Fk,e1,Z,w0,w1,Y,mc,jU,f,T,hu,F,v];exact⟨s1,j,d,rfl,E,l,C,B,M⟩
  ·have Q: ¬((bq t x:Nat):Int)=0:=by omega
   rw[adE F]at g;have SW:k< (aU t h).length:=by
    have:=ag3 List.length (g ▸ p);rw[al3]at this;simp only[afx]at this;omega
   have wB: (nw t h)[k]?=some [.int .u32 (bq t x:Nat)]:=by
    unfold nw;rw[afE];have: (aU t h)[k]?=((aU t h).drop k)[0]?:=by rw[akX];rfl
    rw[this,<-p,g];rfl
   have K:=U.push O o [.box (bM (aG t x).1) none];obtain⟨c,s2,W2,ny,v,E,l,C,B,M⟩:=uM k _ s1 wB hI (W1++[.box (bM (aG t x).1) none]) K.P K.len P;have H:=K.step E l C B;have R: ∀i,i<N->V.row s1≠some i:=λi hi q=>by have:=U.row _ q;omega
   have v0:W2[a]?=some (.box (aN t) none):=by rw[l.2 a (by simp;omega) SS (R _ (by omega))];exact f0 _
   have v1:W2[a+1]?=some (.box [.int .u32 x] none):=by rw[l.2 (a+1) (by simp;omega) z (R _ (by omega))];exact f1 _
   have hWn:n+1<=W2.length:=by have:=l.1;simp at this;omega
   have vn:W2[n]?=some (.box (bM (aG t x).1) none):=by
    rw[l.2 n (by simp;omega) (λq=>by have:=o _ q;omega) (λq=>by have:=O.H9 U.P q;omega)];rw[<-T];simp
   cases c
   ·obtain⟨j,d,q1,q2,q3,q4,q5⟩:=H.fin O o (dS:=lo);simp only[go_sem,simprocAttr,Fk,e0,e1,Z,w0,w1,Y,mc,jU,f,T,hu,Q,v,q1];exact⟨s2,j,d,rfl,q2,.inr M,q3,q4,q5⟩
   ·simp(disch:=omega) only[go_sem,simprocAttr,Fk,e0,e1,Z,w0,w1,Y,mc,jU,f,T,hu,Q,v,v0,v1,vn];refine⟨by omega,s2,bq t x,M,?_,?_,arz,by omega,?_⟩
    ·exact H.set O z (λq=>by have:=H.row _ q;omega) (.inl ⟨by omega,by simp⟩)
    ·exact aed (by omega)
    ·have:=ag3 (List.drop 1) (g ▸ p);rw[aor]at this;simpa using this
def SX{t:au}{x:lA}(a: (nw t h)[j]?=some x): ∃u,x=[.int .u32 (u:Nat)]/\ (aU t h)[j]?=some u:=by
 unfold nw at a
 grind
def SY(t:au)(h:Nat): (nw t h).length=(aU t h).length:=by simp[nw]
def La(t:au)(v:bN t)(q:cg t)(h:Nat)(m:h<4294967296)(H:List ae)(lo:oN):D X0 (.fn (.func 285) [] []) [.agg (aN t),.int .u32 h] ⟨H,lo⟩=some (.ret (.int .i64 (depth t h:Nat)) ⟨H,lo⟩):=by
 refine aH Kv λN f=>?_
 have g:ar t.b h=t.ar h:=rfl;have a:=eX t.b h m;simp only[g]at a;cases b:t.ar h
 ·simp only[F1,go_sem,simprocAttr,Kv,f,a,depth,b,afp]
 ·rw[b]at a;have C:=SQ t h (N+2) (H++[.box (aN t) none,.box [.int .i64 1] none]) (by simp[f]) none;simp only[go_sem,simprocAttr,Kv,f,a,C];refine wJ (S:=Nat) (λe=>e 5= .ptr (N+1) 0) (by simp only[go_sem,simprocAttr]) (nw t h) f [.box (aN t) none,.box [.int .u32 h] none] (λn=>[.box (aN t) none,.box [.int .i64 (n+1:Nat)] none]) (nB:=2) (λ_=>rfl) 0 (λj s=>s=j) (λ_ _=>False) rfl ?_ (by simp) rfl (λ_ _ h=>h.elim) ?_ ?_ ?_
  ·exact SR t v q h m (N+2)
  ·rintro e he j x s r rfl;obtain⟨u,rfl,hu⟩:=SX r;refine⟨rfl,λW n I z k=>?_⟩;simp only[go_sem,simprocAttr,iG];refine⟨[],by simp,λK E d=>?_⟩;simp only[fD,fC,alX,afs]at d;obtain⟨w0,w1⟩:=d;have G:s< (aU t h).length:=(acW.1 hu).1;have w:=q h;simp(disch:=omega) only[go_sem,simprocAttr,ae8,he,w1,agT,nZ];refine⟨s+1,?_,λi J A=>acT (by omega),rfl⟩;simp only[fD,fC,alX,afs];exact⟨by rw[acT (by omega)];exact w0,aed (by omega)⟩
  ·rintro e he s W p y rfl c k B;simp only[fD,fC,alX,afs]at k;obtain⟨w0,w1⟩:=k;have l: ∀o,(W.set p o).take N=H:=λo=>(c.set (by omega)).take f
   simp only[F1,go_sem,simprocAttr,he,w1,B,mL,l];rw[SY];refine dx (ag3 _ ?_) rfl;unfold depth;rw[adG b];omega
  ·rintro e he ex s W p y F;exact F.elim
def ar6{t:au}(b:cg t)(c:h<4294967296):root t h<4294967296:=by
 unfold root;split
 ·cases e:aU t h with
  |nil=>grind
  |cons a l=>
   have hm: (aU t h).getLastD h∈aU t h:=by grind
   rw[<-e];exact fV (arA b hm)
 ·omega
def zR(t:au)(r:bN t)(C:cg t)(h:Nat)(m:h<4294967296)(H:List ae)(lo:oN):D X0 (.fn (.func 259) [] []) [.agg (aN t),.int .u32 h] ⟨H,lo⟩=some (.ret (.int .u32 (root t h:Nat)) ⟨H,lo⟩):=by
 refine aH Ko λN f=>?_
 have g:ar t.b h=t.ar h:=rfl;have a:=eX t.b h m;simp only[g]at a;cases b:t.ar h
 ·simp only[F1,go_sem,simprocAttr,Ko,f,a,root,b,afp]
 ·rw[b]at a;have A:=SQ t h (N+2) (H++[.box (aN t) none,.box [.int .u32 h] none]) (by simp[f]) none;simp only[go_sem,simprocAttr,Ko,f,a,A];refine wJ (S:=Nat) (λe=>e 3= .ptr (N+1) 0) (by simp only[go_sem,simprocAttr]) (nw t h) f [.box (aN t) none,.box [.int .u32 h] none] (λn=>[.box (aN t) none,.box [.int .u32 (n:Nat)] none]) (nB:=2) (λ_=>rfl) h (λj s=>s=((aU t h).take j).getLastD h) (λ_ _=>False) rfl ?_ (by simp) rfl (λ_ _ h=>h.elim) ?_ ?_ ?_
  ·exact SR t r C h m (N+2)
  ·rintro e he j x s q rfl;obtain⟨u,rfl,hu⟩:=SX q;refine⟨rfl,λW n F w k=>?_⟩;simp only[go_sem,simprocAttr,iG];refine⟨[],by simp,λI B d=>?_⟩;simp only[fD,fC,alX,afs]at d;obtain⟨w0,w1⟩:=d;simp only[go_sem,simprocAttr,ae4,he,w1,agT,nZ];refine⟨u,?_,λi G y=>acT (by omega),?_⟩
   ·simp only[fD,fC,alX,afs];exact⟨by rw[acT (by omega)];exact w0,aed (by omega)⟩
   ·rw[agR,hu];simp
  ·rintro e he s W p v rfl c k z;simp only[fD,fC,alX,afs]at k;obtain⟨w0,w1⟩:=k;have l: ∀o,(W.set p o).take N=H:=λo=>(c.set (by omega)).take f
   simp only[F1,go_sem,simprocAttr,he,w1,z,mL,l];rw[SY,aft];refine dx (ag3 _ ?_) rfl;unfold root;rw[adG b]
  ·rintro e he ex s W p v E;exact E.elim
noncomputable def me:lA->AS->Option aV:=nY X0 (D X0) Lw 56 JG
noncomputable def X1:Ctx:={X0 with bW:=λf=>if f=56 then some me else none}
noncomputable def mM:lA->AS->Option aV:=nY X1 (D X1) Lw 19 JB
noncomputable def X2:Ctx:={X0 with bW:=λf=>if f=56 then some me else if f=19 then some mM else none}
noncomputable def qa:lA->AS->Option aV:=nY X2 (D X2) Lw 193 E4
noncomputable def X3:Ctx:={X0 with bW:=λf=>if f=56 then some me else if f=19 then some mM else if f=193 then some qa else none}
noncomputable def rK:lA->AS->Option aV:=nY X3 (D X3) Lw 190 Kd
noncomputable def X4:Ctx:={X0 with bW:=λf=>if f=56 then some me else if f=19 then some mM else if f=193 then some qa else if f=190 then some rK else none}
noncomputable def xx:lA->AS->Option aV:=nY X4 (D X4) Lw 188 Kc
noncomputable def X5:Ctx:={X0 with bW:=λf=>if f=56 then some me else if f=19 then some mM else if f=193 then some qa else if f=190 then some rK else if f=188 then some xx else none}
noncomputable def zS:lA->AS->Option aV:=nY X5 (D X5) Lw 182 Kb
noncomputable def X6:Ctx:={X0 with bW:=λf=>if f=56 then some me else if f=19 then some mM else if f=193 then some qa else if f=190 then some rK else if f=188 then some xx else if f=182 then some zS else none}
noncomputable def Ca:lA->AS->Option aV:=nY X6 (D X6) Lw 167 E0
noncomputable def X:Ctx:={X0 with bW:=λf=>if f=56 then some me else if f=19 then some mM else if f=193 then some qa else if f=190 then some rK else if f=188 then some xx else if f=182 then some zS else if f=167 then some Ca else none}
def FF{P:FuncId->Option (lA->AS->Option aV)}(h: ∀f,kL.contains f=false->P f=none):Ext X0 {X0 with bW:=P}where
 dR:=rfl
 gl:=rfl
 code:=rfl
 bW:=λf=>by
  cases a:kL.contains f
  ·left;exact h f a
  ·right
   refine⟨rfl,?_⟩;show(if kL.contains f then none else zt.lookup f)=none
   grind
def iS{g:FuncId}(h:kL.contains f=false)(a:kL.contains g=true):f≠g:=by grind
def agV:Ext X0 X2:=FF λf h=>by rw[adE (iS h rfl),adE (iS h rfl)]
def ar7:Ext X0 X3:=FF λf h=>by rw[adE (iS h rfl),adE (iS h rfl),adE (iS h rfl)]
def ar8:Ext X0 X4:=FF λf h=>by rw[adE (iS h rfl),adE (iS h rfl),adE (iS h rfl),adE (iS h rfl)]
def agW:Ext X0 X6:=FF λf h=>by rw[adE (iS h rfl),adE (iS h rfl),adE (iS h rfl),adE (iS h rfl),adE (iS h rfl),adE (iS h rfl)]
def dC:Ext X0 X:=FF λf h=>by rw[adE (iS h rfl),adE (iS h rfl),adE (iS h rfl),adE (iS h rfl),adE (iS h rfl),adE (iS h rfl),adE (iS h rfl)]
def ar9(p:Nat->Bool)(k:Nat): (List.range (k+1)).filter p=(List.range k).filter p++(if p k then[k]else[]):=by grind [List.range_succ]
def aT.le{N M:Nat}{H:List ae}{ty:TypeId}(h:aT N H v sz ty af)(b:M<=N):aT M H v sz ty af:=by
 obtain⟨a,c⟩:=h;refine⟨a,?_⟩
 grind
def rL(b:cG)(k:Nat):lN:=((List.range k).filter λi=>(b i).cO).map λi=>da i (b i).gen
def asa(b:cG)(k:Nat):rL b (k+1)=if(b k).cO then rL b k++[da k (b k).gen]else rL b k:=by
 unfold rL;rw[ar9]
 grind
def asb(b:cG)(k:Nat): (rL b k).length<=k:=by
 unfold rL
 grind
def SZ(b:cG)(A:fL b)(N:Nat)(H:List ae)(w:H.length=N)(lo:oN): ∃v J,me [.agg (bU b)] ⟨H,lo⟩=some (.ret v ⟨H++J,lo⟩)/\aT (N+1) (H++J) v 1 bZ ((bc b).map hC):=by
 suffices h: ∃o,me [.agg (bU b)] ⟨H,lo⟩=some o/\ (λo=> ∃v J,o=aV.ret v ⟨H++J,lo⟩/\aT (N+1) (H++J) v 1 bZ ((bc b).map hC)) o by
  obtain⟨o,m,v,J,rfl,B⟩:=h;exact⟨v,J,m,B⟩
 refine wH (X:=X0) JG rfl λM E=>?_
 obtain rfl:M=N:=by omega
 have u: (H++[ae.box (bU b) none]).length=M+1:=by simp[w]
 simp only[go_sem,simprocAttr,JG,w];refine eN 32 (λk e H'=>(H++[ae.box (bU b) none])<+:H'/\ (∃v,e 3=v/\aT (M+1) H' v 1 bZ ((rL b k).map hC))/\e 1= .ptr M 0/\e 7= .int .i64 k) 0 (by omega) ?_ ?_
 ·simp only[go_sem,simprocAttr];exact⟨aqe,_,rfl,aT.av⟩
 rintro k D e H' ⟨⟨L,rfl⟩,⟨v,y,a⟩,m,x⟩ n C;have j: (H++[ae.box (bU b) none]++L)[M]?=some (.box (bU b) none):=by rw[adK,dI w];rfl
 have t:=arH b A k (H++(.box (bU b) none::L)) none;simp only[adK,aii,ag8]at j;have q:=asb b k;simp only[cb,go_sem,simprocAttr,aes,m,y,x,j,t,atR];refine⟨λh=>?_,λh=>?_⟩
 ·have c:k<32:=by omega
  have d:=asa b k;cases z: (b k).cO
  ·rw[z]at d;simp(disch:=omega) only[go_sem,simprocAttr,c,m,y,x,dT];rw[d];exact⟨⟨L,by simp⟩,v,rfl,by simpa using a⟩
  ·rw[z]at d;simp only[go_sem,simprocAttr,c,y,dT];have i: (H++[ae.box (bU b) none])<+: (H++(.box (bU b) none::L)):=⟨L,by simp⟩;have g:aT (M+1) (H++(.box (bU b) none::L)) v 1 bZ ((rL b k).map hC):=by simpa using a
   refine qQ (H0:=H++[ae.box (bU b) none]) (ys:=[[.int .u32 (da k (b k).gen:Nat)]]) g i u (by omega) (by intro el s;rw[aeh.1 s];rfl) rfl (by unfold room;simp;omega) λv' F f r=>?_
   simp(disch:=omega) only[go_sem,simprocAttr,m,x];refine⟨c,r,?_⟩;rw[d];have:List.map hC (rL b k++[da k (b k).gen])=List.map hC (rL b k)++[[.int .u32 (da k (b k).gen:Nat)]]:=by simp[hC]
   simp only[afK];rw[this];exact⟨v',rfl,f⟩
 ·obtain rfl:k=32:=by omega
  have:bc b=rL b 32:=rfl;rw[this];simp only[go_sem,simprocAttr,sx,gZ];exact⟨_,_,rfl,by simpa using a⟩
def rM{X:Ctx}{p:lA->AS->Option aV}{args:lA}{E:AS}{r:aV}(a:X.bW f=some p)(h:p args E=some r):D X (.fn (.func f) [] []) args E=some r:=DD a h
def S0(b:cG)(d:fL b)(N:Nat)(H:List ae)(e:H.length=N)(lo:oN): ∃v J,mM [.agg (bU b)] ⟨H,lo⟩=some (.ret v ⟨H++J,lo⟩)/\aT (N+1) (H++J) v 1 bZ ((bc b).map hC):=by
 suffices h: ∃a,mM [.agg (bU b)] ⟨H,lo⟩=some a/\ (λa=> ∃v J,a=aV.ret v ⟨H++J,lo⟩/\aT (N+1) (H++J) v 1 bZ ((bc b).map hC)) a by grind
 refine wH (X:=X1) JB rfl λM g=>?_
 obtain rfl:M=N:=by omega
 obtain⟨v,J,e1,f⟩:=SZ b d (M+1) (H++[.box (bU b) none]) (by grind) none;have c:D X1 (.fn (.func 56) [] []) [.agg (bU b)] ⟨H++[.box (bU b) none],none⟩=some (.ret v ⟨H++[.box (bU b) none]++J,none⟩):=rM (p:=me) rfl e1;simp only[go_sem,simprocAttr,JB,e,c,sx,gZ];exact⟨_,_,rfl,(aT.le (M:=M+1) f (by omega)).mono (by simp)⟩
def qb{H:List ae}{o:ae}(h:H[i]?=some o):H.set i o=H:=by
 apply anT
 grind
def agX{H:List ae}{id:Nat}{ty:TypeId}(h:H[id]?=some (.row aj 1 ty af))(a:i<af.length)(b: ∀el∈af,el.length=1)(g:v.cp=false)(f:v.cells=[v])(d:v.refs=0):
  kq ⟨H,lo⟩ 1 (.dw id aj i 0) v=some ⟨H.set id (.row aj 1 ty (af.set i [v])),lo⟩:=by
 have c:=b _ (aqz a);simp only[kq,h,adM a];rw[adG ⟨trivial,c,g,by grind,by omega⟩];have e:aO af[i] 0 v.cells=[v]:=by
  rw[f];simp only[aO,List.take_zero,ag8,afx,anD,akO]
  grind
 rw[e];simp[AS.set,d]
def FG{H:List ae}{id:Nat}{ty:TypeId}{c:Bool}(h:H[id]?=some (.row aj 1 ty af))(d:n<=af.length)(b: ∀el∈af,el.length=1):Rd ⟨H,lo⟩ (.ref id aj 1 0 n c) 1 (af.take n):=by
 refine⟨trivial,?_,λel a=>b el (ag9 a)⟩;simp only[Den.elems,h]
 grind
def asc{id:Nat}(h:i<=n):gJ 1 (.ref id aj 1 0 n false) (some (.int .i64 (i:Nat))) none none=some (.ref id aj 1 i (n-i) false):=by
 simp only[gJ,gI,lQ,lR]
 grind
def agY{id:Nat}(h:i<=n):gJ 1 (.ref id aj 1 0 n false) none (some (.int .i64 (i:Nat))) none=some (.ref id aj 1 0 i false):=by
 simp only[gJ,gI,lQ,lR]
 grind
def kept(p:Nat->Bool)(l:lN)(k:Nat):lN:=(l.take k).filter λh=>!p h
def gU(p:Nat->Bool)(l:lN)(k:Nat):lN:=kept p l k++l.drop (kept p l k).length
section
variable{p:Nat->Bool}{l:lN}{k:Nat}
def S1: (kept p l k).length<=k:=ag2 (aka _ _) (by grind)
def agZ: (kept p l k).length<=l.length:=ag2 (aka _ _) (by grind)
def zT: (gU p l k).length=l.length:=by
 have:=agZ (p:=p) (l:=l) (k:=k);simp only[gU,aeb,al3];omega
theorem getD_eq(a:k<l.length):l.getD k default=l[k]:=by grind
def FH(a:k<l.length):kept p l (k+1)=if p (l.getD k default)=true then kept p l k else kept p l k++[l.getD k default]:=by
 have e:l.take (k+1)=l.take k++[l.getD k default]:=by simp_all
 unfold kept
 grind
def asd(a:k<l.length): (gU p l k).getD k default=l.getD k default:=by
 have b:=S1 (p:=p) (l:=l) (k:=k);unfold gU
 grind
def ase(b:k<l.length)(a:p (l.getD k default)=false): (gU p l k).set (kept p l k).length (l.getD k default)=gU p l (k+1):=by
 have c:=S1 (p:=p) (l:=l) (k:=k);have e:=FH (p:=p) b;rw[a]at e;unfold gU;have d:l.drop (kept p l k).length=l[(kept p l k).length]'(by omega)::l.drop ((kept p l k).length+1):=amw (by omega)
 grind
def asf(b:k<l.length)(a:p (l.getD k default)=true):gU p l (k+1)=gU p l k:=by
 have e:=FH (p:=p) b;rw[adG a]at e;unfold gU;rw[e]
def asg(h:l.findIdx? p=some b):b<l.length/\kept p l (b+1)=l.take b:=by
 rw[apR]at h;obtain⟨c,g,f⟩:=h;refine⟨c,?_⟩;rw[FH c,adG (by grind)];unfold kept;rw[List.filter_eq_self];intro a d;obtain⟨j,e,rfl⟩:=ap4 d
 grind
def ag0:kept p l l.length=l.filter λh=>!p h:=by unfold kept;grind
end
def ash{H:List ae}{id off len:Nat}{c:Bool}{ty:TypeId}(h:H[id]?=some (.row aj 1 ty af))(a:off+len<=af.length):
  r7 ⟨H,lo⟩ [.int .u32 0] (.ref id aj 1 off len c)=some ⟨H.set id (.row aj 1 ty (af.take off++(List.replicate len [.int .u32 0]++af.drop (off+len)))),lo⟩:=by
 simp only[r7,h];rw[adG ⟨trivial,trivial,rfl,a,rfl⟩];simp[AS.set]
def map_set{β:Type}(g:α->β)(l:List α)(i:Nat)(x:α): (l.map g).set i (g x)=(l.set i x).map g:=by simp
def asi(id aj:Nat)(H:List ae)(l:lN)(hl:l.length<=1000)(i:H[id]?=some (.row aj 1 bZ (l.map hC)))(fv:AV)(p:Nat->Bool)
  (T: ∀af,∀h∈l,D X2 fv [.int .u32 h] ⟨H.set id (.row aj 1 bZ af),none⟩=some (.ret (.bool (p h)) ⟨H.set id (.row aj 1 bZ af),none⟩)) (lo:oN):
  ∃rest,qa [.ref id aj 1 0 l.length false,fv] ⟨H,lo⟩=some (.ret (.ref id aj 1 0 (l.filter λh=>!p h).length false) ⟨H.set id (.row aj 1 bZ ((l.filter λh=>!p h).map hC++rest)),lo⟩)/\ ∀el∈rest,el=[.int .u32 0]:=by
 suffices h: ∃A,qa [.ref id aj 1 0 l.length false,fv] ⟨H,lo⟩=some A/\ (λA=> ∃rest,A=aV.ret (.ref id aj 1 0 (l.filter λh=>!p h).length false) ⟨H.set id (.row aj 1 bZ ((l.filter λh=>!p h).map hC++rest)),lo⟩/\ ∀el∈rest,el=[.int .u32 0]) A by grind
 have J:=(acW.1 i).1;have V: ∀el∈l.map hC,el.length=1:=by intro el f;obtain⟨x,_,rfl⟩:=afq.1 f;rfl
 have Q:=qb i;have O: ∀h∈l,D X2 fv [.int .u32 h] ⟨H,none⟩=some (.ret (.bool (p h)) ⟨H,none⟩):=λh hm=>by
  have:=T (l.map hC) h hm;rwa[Q]at this
 have G:Rd ⟨H,none⟩ (.ref id aj 1 0 l.length false) 1 (l.map hC):=by
  have:=FG (lo:=none) (c:=false) (n:=l.length) i (by simp) V;rwa[adP (by simp)]at this
 have w:=agH agV (.ref id aj 1 0 l.length false) fv l H G (by omega) p none O;refine wH (X:=X2) E4 rfl λM hM=>?_
 cases m:l.findIdx? p with
 |none=>
  have K:ke p l= -1:=by unfold ke;rw[m]
  have N:l.filter (λh=>!p h)=l:=by
   rw[List.filter_eq_self];intro a Z;rw[List.findIdx?_eq_none_iff]at m;simp[m a Z]
  simp only[go_sem,simprocAttr,E4,w,K,sx,gZ];exact⟨[],by rw[N,agT,Q],λ_ h=>by cases h⟩
 |some i0=>
  have K:ke p l=(i0:Nat):=by unfold ke;rw[m]
  have u: ((i0:Nat):Int)≠ -1:=by omega
  obtain⟨Y,v⟩:=asg m;have b: ∀af,(H.set id (.row aj 1 bZ af))[id]?=some (.row aj 1 bZ af):=λaf=>aed J
  have P:gU p l (i0+1)=l:=by
   have e: (l.take i0).length=i0:=by rw[afC];omega
   unfold gU;rw[v,e,akP]
  simp(disch:=omega) only[go_sem,simprocAttr,E4,w,K,u];refine eN l.length (λk e H'=>H'=H.set id (.row aj 1 bZ ((gU p l k).map hC))/\e 0= .ref id aj 1 0 l.length false/\e 1=fv/\e 5= .int .i64 (kept p l k).length/\e 6= .int .i64 k) (i0+1) (by omega) ?_ ?_
  ·have e: (kept p l (i0+1)).length=i0:=by rw[v,afC];omega
   rw[P,e];simp only[go_sem,simprocAttr,Q]
  ·rintro k hk e H' ⟨rfl,z,U,y,R⟩ n hn;have q: ∀lo,Rd ⟨H.set id (.row aj 1 bZ ((gU p l k).map hC)),lo⟩ (.ref id aj 1 0 l.length false) 1 ((gU p l k).map hC):=λlo=>by
    have:=FG (lo:=lo) (c:=false) (n:=l.length) (b ((gU p l k).map hC)) (by rw[afm,zT];exact aef _) (by intro el f;obtain⟨x,_,rfl⟩:=afq.1 f;rfl);rwa[adP (by rw[afm,zT];exact aef _)]at this
   have W:=S1 (p:=p) (l:=l) (k:=k);have r:=agZ (p:=p) (l:=l) (k:=k);have j: ∀E,gv E .sl (.ref id aj 1 0 l.length false)=some (.int .i64 l.length):=λE=>rfl
   simp only[cb,go_sem,simprocAttr,aeW,z,y,R,j];refine⟨λh=>?_,λh=>?_⟩
   ·have d:k<l.length:=by omega
    have I:k< (gU p l k).length:=by rw[zT];exact d
    have L:=asd (p:=p) d;have s:=λ (a:Int)=>(q none).cD (k:=.i64) (a:=a)
    have o:=(q none).di (X:=X2) (off:=0) (n:=1) (agg:=false) I;have g:=T ((gU p l k).map hC) (l.getD k default) (fO d);rw[L]at o;simp only[gy,akO]at o;rw[zT]at s;cases t:p (l.getD k default)
    ·rw[t]at g;have B:kq ⟨H.set id (.row aj 1 bZ ((gU p l k).map hC)),none⟩ 1 (.dw id aj (kept p l k).length 0) (.int .u32 (l.getD k default))=some ⟨H.set id (.row aj 1 bZ ((gU p l (k+1)).map hC)),none⟩:=by
      rw[agX (b _) (by rw[afm,zT];omega) (by intro el f;obtain⟨x,_,rfl⟩:=afq.1 f;rfl) rfl rfl rfl,akQ];have: ((gU p l k).map hC).set (kept p l k).length [.int .u32 (l.getD k default)]=(gU p l (k+1)).map hC:=by
       rw[<-ase d t,<-map_set];rfl
      rw[this]
     have S: (kept p l (k+1)).length=(kept p l k).length+1:=by rw[FH d,t];simp
     simp(disch:=omega) only[go_sem,simprocAttr,S,s,o,↓pH,g,B,z,U,y,R,gy];exact⟨by omega,by omega,by omega⟩
    ·rw[t]at g;have S:kept p l (k+1)=kept p l k:=by rw[FH d,t];simp
     have e6:=asf d t;simp(disch:=omega) only[go_sem,simprocAttr,S,e6,s,o,↓pH,g,z,U,y,R,gy];exact⟨by omega,by omega⟩
   ·obtain rfl:k=l.length:=by omega
    have F:=asc (id:=id) (aj:=aj) (n:=l.length) r;have C:=agY (id:=id) (aj:=aj) (n:=l.length) r;have g:=ash (lo:=none) (off:=(kept p l l.length).length) (len:=l.length- (kept p l l.length).length) (c:=false) (b ((gU p l l.length).map hC)) (by rw[afm,zT];omega);simp only[go_sem,simprocAttr,z,y,F,C,g,sx,gZ];refine⟨List.replicate (l.length- (kept p l l.length).length) [.int .u32 0],?_,λel f=>aqI f⟩;rw[akQ];have e1:List.take (kept p l l.length).length (List.map hC (gU p l l.length))=(l.filter λh=>!p h).map hC:=by
     unfold gU;rw[afr,aoe (by simp),ag0]
    have e2:List.drop ((kept p l l.length).length+(l.length- (kept p l l.length).length)) (List.map hC (gU p l l.length))=[]:=ag5 (by rw[afm,zT];omega);rw[e1,e2,agT,ag0]
def asj{X:Ctx}(j:Ext X0 X)(t:au)(f:bN t)(h x:Nat)(e:x<4294967296)(d a:Nat)(H:List ae)(b:H[d]?=some (.box (aN t) none))(c:H[a]?=some (.box [.int .u32 h] none))(lo:oN):
  D X (.fn (.func 194) [] [.ptr d 0,.ptr a 0]) [.int .u32 x] ⟨H,lo⟩=some (.ret (.bool (decide (bq t x≠h))) ⟨H,lo⟩):=by
 refine up j ?_;refine fJ QP λN i=>?_
 have m: ∀L,(H++L)[a]?=some (.box [.int .u32 h] none):=λL=>bf c
 have g:=ua t f x e;have hu:=agU t x;simp only[F1,go_sem,simprocAttr,QP,i,b,m,g,mc,jU,hu];refine dx (ag3 AV.bool ?_) rfl
 grind
def ag1(N:Nat)(H:List ae)(v:AV)(ty:TypeId)(af a:List lA):Prop:=
 (∃id aj,N<=id/\v= .ref id aj 1 0 af.length false/\H[id]?=some (.row aj 1 ty (af++a)))/\ ∀el∈a,el.length=1
def asl(t:au)(q:bN t)(h:Nat)(r:t.ar h=true)(N:Nat)(H:List ae)(K:H.length=N)(lo:oN):
  ∃v J rest,rK [.agg (aN t),.int .u32 h] ⟨H,lo⟩=some (.ret v ⟨H++J,lo⟩)/\ag1 (N+2) (H++J) v bZ ((kids t h).map hC) rest:=by
 have E:=fV r
 suffices B: ∃n,rK [.agg (aN t),.int .u32 h] ⟨H,lo⟩=some n/\ (λn=> ∃v J rest,n=aV.ret v ⟨H++J,lo⟩/\ag1 (N+2) (H++J) v bZ ((kids t h).map hC) rest) n by
  obtain⟨n,G,v,J,rest,rfl,F⟩:=B;exact⟨v,J,rest,G,F⟩
 refine wH (X:=X3) Kd rfl λM s=>?_
 obtain rfl:M=N:=by omega
 have i:=up ar7 (eX t.b h E (H++[.box (aN t) none,.box [.int .u32 h] none]) none);have u:Go.Proofs.YteplichagkpciaaGreatDoor.ar t.b h=t.ar h:=rfl;rw[u]at i;rw[r]at i;obtain⟨v,J,e1,I⟩:=S0 t.b q.b (M+2) (H++[.box (aN t) none,.box [.int .u32 h] none]) (by simp[s]) none;have j:D X3 (.fn (.func 19) [] []) [.agg (bU t.b)] ⟨H++[.box (aN t) none,.box [.int .u32 h] none],none⟩=some (.ret v ⟨H++[.box (aN t) none,.box [.int .u32 h] none]++J,none⟩):=rM (p:=mM) rfl e1;have f:h∈bc t.b:=(ia q.b).2 r;have g: (bc t.b).filter (λx=>!decide (bq t x≠h))=kids t h:=by
  unfold kids;rw[adG r];refine List.filter_congr λx _=>?_
  by_cases e:bq t x=h<;>simp[e]
 rcases I.2 with⟨_,e⟩| ⟨id,aj,C,rfl,a⟩
 ·rw[ap3.1 e]at f;cases f
 rw[afm]at j;obtain⟨H1,c⟩: ∃H1,H1=H++[ae.box (aN t) none,.box [.int .u32 h] none]++J:=⟨_,rfl⟩;have b:=eg a;have z:H1[M]?=some (.box (aN t) none):=by rw[c,adK,dI s];rfl
 have y:H1[M+1]?=some (.box [.int .u32 h] none):=by rw[c,adK,bF s];rfl
 rw[<-c]at a b;obtain⟨rest,d1,d2⟩:=asi id aj H1 (bc t.b) (by have:=mG t.b;omega) a (.fn (.func 194) [] [.ptr M 0,.ptr (M+1) 0]) (λx=>decide (bq t x≠h))
  (λaf x A=>asj agV t q h x (fV ((ia q.b).1 A)) M (M+1) _ (by rw[acT (by omega)];exact z) (by rw[acT (by omega)];exact y) none) none
 rw[g]at d1;have m:D X3 (.fn (.func 193) [] []) [.ref id aj 1 0 (bc t.b).length false,.fn (.func 194) [] [.ptr M 0,.ptr (M+1) 0]] ⟨H1,none⟩=some _:=rM (p:=qa) rfl d1;rw[c]at m;simp only[adK,aii,ag8]at m j;simp only[go_sem,simprocAttr,Kd,s,i,j,m,sx,gZ];have d: ∀L:List ae,∀o,(H++L).set id o=H++L.set (id-H.length) o:=λL o=>apP _ _ (by omega)
 refine⟨_,_,rest,dx rfl (d _ _),⟨id,aj,by omega,by rw[afm],?_⟩,λel w=>by rw[d2 el w];rfl⟩;rw[<-d];refine aed ?_;rw[c]at b;simpa using b
def jq(l:lN)(k:Nat):lN:=(List.range l.length).map λi=>if i<k\/l.length-k<=i then l.getD (l.length-1-i) default else l.getD i default
section
variable{l:lN}{k:Nat}
def uc: (jq l k).length=l.length:=by simp[jq]
def asm(h:i<l.length): (jq l k).getD i default=if i<k\/l.length-k<=i then l.getD (l.length-1-i) default else l.getD i default:=by
 unfold jq
 grind
def asn:jq l 0=l:=by
 apply anT;unfold jq
 grind
def aso(h:l.length<=2*k+1):jq l k=l.reverse:=by
 apply anT;intro i;unfold jq;by_cases a:i<l.length
 ·rw[afE,aoU a]
  grind
 grind
def asp(h:2*k+1<l.length): ((jq l k).set k (l.getD (l.length-1-k) default)).set (l.length-1-k) (l.getD k default)=jq l (k+1):=by
 apply anT;intro i;by_cases a:i<l.length
 ·by_cases e1:l.length-1-k=i
  ·unfold jq
   grind
  ·rw[acT e1];by_cases b:k=i
   ·subst b;rw[aed (by rw[uc];omega)];unfold jq;rw[afE,aoU a];simp only[afo];rw[adG (by omega)]
   ·rw[acT b];unfold jq;rw[afE,afE,aoU a];simp only[afo];by_cases c:i<k\/l.length-k<=i
    ·rw[adG c,adG (by omega)]
    ·rw[adE c,adE (by omega)]
 ·rw[akW (by simp[uc];omega),akW (by rw[uc];omega)]
end
def asq(id aj:Nat)(H:List ae)(l:lN)(P:l.length<=1000)(b:List lA)(i:H[id]?=some (.row aj 1 bZ (l.map hC++b)))(f: ∀el∈b,el.length=1)(lo:oN):
  D X0 (.fn (.func 191) [] []) [.ref id aj 1 0 l.length false] ⟨H,lo⟩=some (.ret (.az []) ⟨H.set id (.row aj 1 bZ (l.reverse.map hC++b)),lo⟩):=by
 refine aH QO λN R=>?_
 have y:=eg i;have g: ∀E,gv E .sl (.ref id aj 1 0 l.length false)=some (.int .i64 l.length):=λE=>rfl
 have d: ∀af,(H.set id (.row aj 1 bZ af))[id]?=some (.row aj 1 bZ af):=λaf=>aed y
 have M: ∀k,∀el∈(jq l k).map hC++b,el.length=1:=λk el p=>by
  rcases aeg.1 p with h|h
  ·obtain⟨x,_,rfl⟩:=afq.1 h;rfl
  ·exact f _ h
 simp(disch:=omega) only[go_sem,simprocAttr,QO,g];refine eN l.length (λk e H'=>H'=H.set id (.row aj 1 bZ ((jq l k).map hC++b))/\e 0= .ref id aj 1 0 l.length false/\e 2= .int .i64 k/\e 3= .int .i64 ((l.length:Int)-1-k)) 0 (by omega) ?_ ?_
 ·rw[asn,qb i];simp only[go_sem,simprocAttr];exact ag3 _ (by omega)
 rintro k Q e H' ⟨rfl,K,J,I⟩ n O;simp only[cb,F1,go_sem,simprocAttr,aeV,K,J,I];refine⟨λh=>?_,λh=>?_⟩
 ·have u:2*k+1<l.length:=by omega
  have w:k<l.length:=by omega
  obtain⟨m,hm⟩: ∃m,m=l.length-1-k:=⟨_,rfl⟩;have t: (l.length:Int)-1-k=(m:Nat):=by omega
  have o:Rd ⟨H.set id (.row aj 1 bZ ((jq l k).map hC++b)),none⟩ (.ref id aj 1 0 l.length false) 1 ((jq l k).map hC):=by
   have:=FG (lo:=none) (c:=false) (n:=l.length) (d ((jq l k).map hC++b)) (by rw[aeb,afm,uc];omega) (M k);rwa[aoe (by rw[afm,uc])]at this
  have C:kr 1 (.ref id aj 1 0 l.length false) (.int .i64 (m:Nat))=some (.dw id aj m 0):=by
   have:=o.cD (k:=.i64) (a:=(m:Nat));rw[uc,adG (by omega)]at this;rw[this];simp[gy]
  have B:kr 1 (.ref id aj 1 0 l.length false) (.int .i64 (k:Nat))=some (.dw id aj k 0):=by
   have:=o.cD (k:=.i64) (a:=(k:Nat));rw[uc,adG (by omega)]at this;rw[this];simp[gy]
  have A: ∀j,j<l.length->cq X0 ⟨H.set id (.row aj 1 bZ ((jq l k).map hC++b)),none⟩ false 1 (.dw id aj j 0)=some (.int .u32 ((jq l k).getD j default:Nat)):=λj F=>by
   have:=o.di (X:=X0) (j:=j) (off:=0) (n:=1) (agg:=false) (by rw[uc];exact F);simp only[gy,akO]at this;rw[this,pH]
  have s:=A m (by omega);have r:=A k (by omega);rw[asm (by omega),adE (by omega)]at s r;have G: ∀ (L:lN) (j v:Nat),L.length=l.length->j<l.length->kq ⟨H.set id (.row aj 1 bZ (L.map hC++b)),none⟩ 1 (.dw id aj j 0) (.int .u32 v)=some ⟨H.set id (.row aj 1 bZ ((L.set j v).map hC++b)),none⟩:=λL j v A F=>by
   rw[agX (d _) (by rw[aeb,afm];omega) (λel p=>by
    rcases aeg.1 p with h|h
    ·obtain⟨x,_,rfl⟩:=afq.1 h;rfl
    ·exact f _ h) rfl rfl rfl,akQ,aqu _ _ (by rw[afm];omega)]
   have: (L.map hC).set j [.int .u32 v]=(L.set j v).map hC:=by rw[<-map_set];rfl
   rw[this]
  have z:=G (jq l k) k (l.getD m default) uc (by omega);have q:=G ((jq l k).set k (l.getD m default)) m (l.getD k default) (by rw[afw,uc]) (by omega);rw[hm,asp u,<-hm]at q;simp(disch:=omega) only[go_sem,simprocAttr,K,J,I,t,C,B,s,r,z,q];exact⟨w,ag3 _ (by omega)⟩
 ·have he:=aso (l:=l) (k:=k) (by omega);rw[he,adP (by rw[afw];omega)]
def S2(t:au)(h:Nat)(N:Nat)(H:List ae)(b:H.length=N)(lo:oN):D X0 (.fn (.func 183) [] []) [.agg (aN t),.int .u32 h] ⟨H,lo⟩=some (.ret (.fn (.func 189) [] [.ptr (N+1) 0,.ptr N 0]) ⟨H++[.box (aN t) none,.box [.int .u32 h] none],lo⟩):=by
 refine aH QI λM a=>?_
 obtain rfl:M=N:=by omega
 simp only[go_sem,simprocAttr,QI,a];rw[zQ (by omega)]
def rN(t:au)(h:Nat):List lA:=(db t h).map hC
def S3(t:au)(h:Nat): (rN t h).length=(db t h).length:=by simp[rN]
structure asr(W:List ae)(v:AV)(id:Nat)(st:lN):Prop where
 ex: ∃aj rest,v= .ref id aj 1 0 st.length false/\W[id]?=some (.row aj 1 bZ (st.map hC++rest))/\ ∀el∈rest,el.length=1
theorem oU{t:au}: ∀st:lN,st.length<=(st.flatMap (db t)).length
 | []=>by simp
 |x::xs=>by
  have d:1<=(db t x).length:=by
   cases e:db t x with
   |nil=>trivial
   |cons a b=>simp
  have c:=oU (t:=t) xs
  grind
def ass{H:List ae}{id:Nat}{ty:TypeId}{ys:List lA}(h:H[id]?=some (.row aj 1 ty af))(f:n<=af.length)(e: ∀el∈ys,el.length=1)(a:ca ys=0)(d: (n+ys.length)*4<=room)(b:ys≠[]):
  dL ⟨H,lo⟩ ty 1 4 (.ref id aj 1 0 n false) ys=some (.ref id (aj+1) 1 0 (n+ys.length) false,⟨H.set id (.row (aj+1) 1 ty (af.take n++ys)),lo⟩):=by
 have c:0<1/\ys.all (λel=>el.length==1)=true:=⟨by omega,by grind⟩;unfold dL;rw[adG c];simp only[h];rw[adG ⟨trivial,trivial,trivial,trivial,by omega,d⟩,adE (by grind)];simp[AS.set,a]
def ast{H:List ae}{id:Nat}{ty:TypeId}(h:H[id]?=some (.row aj 1 ty af))(a:n<=af.length)(b:n*4<=room):
  dL ⟨H,lo⟩ ty 1 4 (.ref id aj 1 0 n false) []=some (.ref id aj 1 0 n false,⟨H,lo⟩):=by
 unfold dL
 grind
def asu{X Y:Ctx}(a:Ext X Y)(h:X.code f=some pf)(b:X.bW f=none):Y.bW f=none:=by
 rcases a.bW f with e| ⟨_,e⟩
 ·grind
 grind
def asv{X Y:Ctx}(a:Ext X Y)(h:X.code f=some pf):Y.code f=some pf:=by rw[a.code];exact h
def vJ{X Y:Ctx}(a:Ext X Y){args:lA}{E:AS}{r:aV}(h:D X v args E=some r):D Y v args E=some r:=adB a _ _ _ _ h
def S4{Y:Ctx}(T:Ext X4 Y)(t:au)(ht:bN t)(hT:cg t)(h:Nat)(hg:t.ar h=true)(a:Nat):
  uQ Y (.fn (.func 189) [] [.ptr (a+1) 0,.ptr a 0]) a [.box (aN t) none,.box [.int .u32 h] none] (rN t h):=by
 intro S V y I J b hV FI uM W s hP h0 wI C hG lo;have hh:=fV hg;have o: ∀i,V.cE i->i<b:=λi hi=>(FI i hi).1
 suffices h: ∃cr,D Y (.fn (.func 189) [] [.ptr (a+1) 0,.ptr a 0]) [y] ⟨W,lo⟩=some cr/\
   (λcr=> ∃s' O ak,cr=aV.ret (.az []) ⟨O,ak⟩/\V.P s' O/\ (I (rN t h).length s'\/J s')/\b<=O.length/\
     (∀i,i<b-> ¬V.cE i-> ¬(a<=i/\i<a+[ae.box (aN t) none,.box [.int .u32 (h:Nat)] none].length)->O[i]?=W[i]?)/\lb V.c b lo ak none (V.row s')) cr by
  obtain⟨cr,h1,s',O,ak,rfl,q1,q2,q3,q4,q5⟩:=h;exact⟨s',O,ak,h1,q1,q2,q3,q4,q5⟩
 refine ub QN (asu T rfl rfl) (asv T rfl) rfl λN hN=>?_
 obtain rfl:N=b:=by omega
 have g0:W[a]?=some (.box (aN t) none):=hG 0 (by simp);have g1:W[a+1]?=some (.box [.int .u32 h] none):=hG 1 (by simp);have ha:=eg g1;have SS: ¬V.cE a:=λq=>(FI a q).2 ⟨by omega,by simp⟩
 have hul:=Sy hT h;have F: ∀n:Nat,n<=40000000->n*4<=room:=λn hn=>by unfold room;omega
 simp only[go_sem,simprocAttr,QN,hN,g1];refine ja (db t h).length (λk e O ak=> ∃s' st id,I k s'/\kA V N W (λi=>a<=i/\i<a+[ae.box (aN t) none,.box [.int .u32 (h:Nat)] none].length) s' O ak/\O[a]?=some (.box (aN t) none)/\asr O (e 4) id st/\N<=id/\V.row s'≠some id/\
  st.reverse.flatMap (db t)=(db t h).drop k/\ (∀x∈st,t.ar x=true)/\e 0=y/\e 1= .ptr (a+1) 0/\e 2= .ptr a 0) 0 (by omega) ?_ ?_
 ·simp only[go_sem,simprocAttr];refine⟨s,[h],N,h0,?_,?_,?_,aef _,?_,by simp,by simpa using hg⟩
  ·exact kA.push hV o ⟨hP,by omega,λ_ _ _ _=>rfl,.inl ⟨rfl,C⟩,λr e=>by rw[C]at e;cases e⟩ _
  ·exact bf g0
  ·exact⟨0,[],rfl,by rw[dI hN];rfl,by simp⟩
  ·rw[C];simp
 rintro k hk e W1 Q ⟨s1,st,id,hI,hS,w0,⟨aj,rest,e4,hr,G⟩,hid,Z,A,gO,e0,e1,e2⟩ n hn;have K9:N<=n:=by have:=hS.len;omega
 have aCO:=eg hr;have aCP:st.length<=(db t h).length-k:=by
  have:=oU (t:=t) st.reverse;rw[A,List.length_reverse,al3]at this;exact this
 have H: ∀E,gv E .sl (.ref id aj 1 0 st.length false)=some (.int .i64 st.length):=λE=>rfl
 simp(disch:=omega) only[cb,go_sem,simprocAttr,aeU,e4,H];refine⟨λhc=>?_,λhc=>?_⟩
 ·obtain⟨d,x,rfl⟩: ∃d x,st=d++[x]:=⟨st.dropLast,st.getLast (by rintro rfl;simp at hc),(List.dropLast_concat_getLast _).symm⟩;have hgx:=gO x (by simp);have hx:=fV hgx;have R: (d++[x]).length=d.length+1:=by simp
  have u: (db t h).drop k=x:: ((kids t x).flatMap (db t)++d.reverse.flatMap (db t)):=by
   rw[<-A,List.reverse_append,alZ];show(x:: []).flatMap (db t)++_=_;rw[aob,List.flatMap_nil,agT,Sw hT x];rfl
  have SU:k< (db t h).length:=by
   have:=ag3 List.length u;rw[al3,afx]at this;omega
  have wB: (rN t h)[k]?=some [.int .u32 (x:Nat)]:=by
   unfold rN;rw[afE];have: (db t h)[k]?=((db t h).drop k)[0]?:=by rw[akX];rfl
   rw[this,u];rfl
  obtain⟨c,s2,W2,l,p1,p2,p3,p4,p5,p6⟩:=uM k _ s1 wB hI W1 hS.P hS.len Q;have L:=hS.step p2 p3 p4 p5;have S5: ∀i,i<N->V.row s1≠some i:=λi hi q=>by have:=hS.row _ q;omega
  have v0:W2[a]?=some (.box (aN t) none):=by rw[p3.2 a (by omega) SS (S5 _ (by omega))];exact w0
  have vr:W2[id]?=some (.row aj 1 bZ ((d++[x]).map hC++rest)):=by rw[p3.2 id (by omega) (λq=>by have:=o _ q;omega) Z];exact hr
  have mY:Rd ⟨W1,Q⟩ (.ref id aj 1 0 (d++[x]).length false) 1 ((d++[x]).map hC):=by
   have:=FG (lo:=Q) (c:=false) (n:=(d++[x]).length) hr (by simp) (λel g=>by
    rcases aeg.1 g with h|h
    ·obtain⟨x,_,rfl⟩:=afq.1 h;rfl
    ·exact G _ h)
   rwa[aoe (by simp)]at this
  have hA:kr 1 (.ref id aj 1 0 (d.length+1) false) (.int .i64 (d.length:Nat))=some (.dw id aj d.length 0):=by
   have:=mY.cD (k:=.i64) (a:=(d.length:Nat));rw[R,adG (by omega)]at this;rw[this];simp[gy]
  have hL:cq Y ⟨W1,Q⟩ false 1 (.dw id aj d.length 0)=some (.int .u32 (x:Nat)):=by
   have:=mY.di (X:=Y) (j:=d.length) (off:=0) (n:=1) (agg:=false) (by simp);simp only[gy,akO]at this;rw[this,pH];simp
  have S6: ((d.length:Nat):Int)+1-1=(d.length:Nat):=by omega
  cases c
  ·obtain⟨M,Lb,q1,q2,q3,q4,q5⟩:=L.fin hV o (dS:=lo);simp only[go_sem,simprocAttr,S6,e0,R,hA,hL,p1,q1];exact⟨s2,M,Lb,rfl,q2,.inr p6,q3,q4,q5⟩
  ·obtain⟨kv,Jk,m,k1,⟨z,v,kid,rfl,U⟩,k3⟩:=asl t ht x hgx W2.length W2 rfl l;have hkn:=eg U;have kl:=agv t x;have w:=vJ T (rM (X:=X4) (f:=190) (p:=rK) rfl k1);have r1:=vJ T<|up ar8 (asq z v (W2++Jk) (kids t x) (by omega) m U k3 l);rw[afm]at w;have aCR:id≠z:=by have:=eg vr;omega
   obtain⟨M,K⟩: ∃M,M=(W2++Jk).set z (.row v 1 bZ ((kids t x).reverse.map hC++m)):=⟨_,rfl⟩;rw[<-K]at r1;have P:M[id]?=some (.row aj 1 bZ ((d++[x]).map hC++rest)):=by rw[K,acT (by omega)];exact bf vr
   have v03:M[a]?=some (.box (aN t) none):=by rw[K,acT (by have:=eg v0;omega)];exact bf v0
   have g:Den.elems ⟨M,l⟩ 1 (.ref z v 1 0 (kids t x).length false)=some ((kids t x).reverse.map hC):=by
    have h3:M[z]?=some (.row v 1 bZ ((kids t x).reverse.map hC++m)):=by rw[K];exact aed hkn
    have:=(FG (lo:=l) (c:=false) (n:=(kids t x).length) h3 (by simp) (λel g=>by
     rcases aeg.1 g with h|h
     ·obtain⟨x,_,rfl⟩:=afq.1 h;rfl
     ·exact k3 _ h)).eq
    rwa[aoe (by simp)]at this
   have hS3:kA V N W (λi=>a<=i/\i<a+[ae.box (aN t) none,.box [.int .u32 (h:Nat)] none].length) s2 M l:=by
    rw[K];exact(L.push hV o Jk).set hV (λq=>by have:=o _ q;have:=L.len;omega) (λq=>by have:=hV.H9 L.P q;omega) (.inr (by have:=L.len;omega))
   have wu:=agY (id:=id) (aj:=aj) (n:=d.length+1) (i:=d.length) (by omega);have B:V.row s2≠some id:=by
    rcases p4 with q| ⟨r,q,hq⟩
    ·rw[q];exact Z
    ·rw[q];intro e;cases e;omega
   have S7: ((d++(kids t x).reverse).reverse).flatMap (db t)=(db t h).drop (k+1):=by
    have:=ag3 (List.drop 1) u;rw[aor]at this;rw[this,List.reverse_append,List.reverse_reverse,alZ];rfl
   have ag7: ∀y∈d++(kids t x).reverse,t.ar y=true:=λy hy=>by
    rcases aeg.1 hy with h|h
    ·exact gO y (by simp[h])
    ·exact(ia ht.b).1 (KV (List.mem_reverse.1 h)).2.2
   by_cases hke:kids t x=[]
   ·have sq:=ast (lo:=l) (n:=d.length) P (by simp) (F _ (by omega));rw[hke]at g w r1 S7 ag7;simp only[anD,List.reverse_nil,aqr]at g w r1;simp(disch:=omega) only[go_sem,simprocAttr,S6,e0,e1,e2,e4,R,hA,hL,p1,v0,w,r1,wu,g,sq];refine⟨SU,s2,d,id,p6,hS3,v03,⟨aj,[hC x]++rest,rfl,?_,?_⟩,hid,B,by simpa using S7,λy hy=>gO y (by simp[hy])⟩
    ·rw[P];simp
    ·intro el g;rcases aeg.1 g with h|h
     ·rw[aeh.1 h];rfl
     ·exact G _ h
   ·have sq:=ass (lo:=l) (n:=d.length) (ys:=(kids t x).reverse.map hC) P (by simp) (λel g=>by obtain⟨x,_,rfl⟩:=afq.1 g;rfl) (bH (λ_=>rfl) _) (F _ (by simp;omega)) (by simpa using hke);simp(disch:=omega) only[go_sem,simprocAttr,S6,e0,e1,e2,e4,R,hA,hL,p1,v0,w,r1,wu,g,sq];refine⟨SU,s2,d++(kids t x).reverse,id,p6,?_,?_,⟨aj+1,[],?_,?_,λ_ h=>by cases h⟩,hid,B,S7,ag7⟩
    ·exact hS3.set hV (λq=>by have:=o _ q;omega) B (.inr (by omega))
    ·exact v03
    ·simp
    ·rw[aed (eg P)];have e:List.take d.length (List.map hC (d++[x])++rest)=List.map hC d:=by
      rw[afr,adK,aoe (by simp)]
     rw[e,afr,agT]
 ·obtain⟨M,Lb,q1,q2,q3,q4,q5⟩:=hS.fin hV o (dS:=lo);have asx:st=[]:=by
   have:st.length=0:=by omega
   exact aiR.1 this
  subst asx;have hk2:k=(rN t h).length:=by
   rw[S3];have:=ag3 List.length A;rw[al3]at this;simp at this;omega
  simp only[go_sem,simprocAttr,q1];exact⟨s1,M,Lb,rfl,q2,.inl (hk2 ▸ hI),q3,q4,q5⟩
def asy{X:Ctx}{a:List RV}{R:aV->Prop}{e:Env}{p:Nat}{b:lN}{H:List ae}{l:oN}:
  A7 X lo a R .ret ⟨e,p::b⟩ ⟨H,l⟩=match H[p]? with|some .fI=>A7 X lo a R .ret ⟨e,b⟩ ⟨H.set p .dead,l⟩|_=>False:=by
 simp only[A7,dZ];cases c:H[p]? with
 |none=>simp
 |some o=>cases o<;>simp[AS.set]
structure ASt where
 l:lN
 row:oN
def ahb(H:List ae)(N a k:Nat):YV ASt:=⟨λs W=>(∀i,i<N-> ¬(a<=i/\i<a+k)->W[i]?=H[i]?)/\SV N 1 bZ W s.row (s.l.map hC),ASt.row,λi=>i<N+1/\ ¬(a<=i/\i<a+k),N⟩
def asz{H:List ae}{N k:Nat}(h:a+k<=N): (ahb H N a k).Ok where
 st:=λs W j ⟨g,c⟩ b=>by
  refine⟨λi d f=>?_,c.st (b _ (.inl ⟨atc _,by omega⟩)) λi d=>b i (.inr d)⟩;rw[b i (.inl ⟨by omega,f⟩)];grind
 lt:=λs W r ⟨_,c⟩ e=>c.row e
def asA(g:AV)(xs:lN)(wB:xs.length<=40000000)(a:Nat)(G:List ae)(C:qC X4 g=true)(A:uQ X4 g a G (xs.map hC))(N:Nat)(H:List ae)(hN:H.length=N)(E:a+G.length<=N)
  (hG: ∀i,i<G.length->H[a+i]?=G[i]?) (lo:oN):
  ∃v W ak,xx [.av,g] ⟨H,lo⟩=some (.ret v ⟨W,ak⟩)/\aT N W v 1 bZ (xs.map hC)/\ (∀i,i<N-> ¬(a<=i/\i<a+G.length)->W[i]?=H[i]?)/\N<=W.length/\ (ak=lo\/ ∃j,N<=j/\ak=cJ lo j):=by
 suffices hs: ∃m,xx [.av,g] ⟨H,lo⟩=some m/\ (λm=> ∃v W ak,m=aV.ret v ⟨W,ak⟩/\aT N W v 1 bZ (xs.map hC)/\ (∀i,i<N-> ¬(a<=i/\i<a+G.length)->W[i]?=H[i]?)/\N<=W.length/\ (ak=lo\/ ∃j,N<=j/\ak=cJ lo j)) m by
  obtain⟨m,h1,v,W,ak,rfl,h2⟩:=hs;exact⟨v,W,ak,h1,h2⟩
 refine wH (X:=X4) Kc rfl λM I=>?_
 obtain rfl:M=N:=by omega
 have hb:=agK (H:=H) (lo:=none) (tg:=none) (Rv.av (sz:=1));simp only[go_sem,simprocAttr,Kc,I,hb];obtain⟨W0,c⟩: ∃W0,W0=H++[ae.box [.av] none]:=⟨_,rfl⟩;rw[<-c];have U:W0.length=M+1:=by rw[c];simp[I]
 have l:SV M 1 bZ W0 none []:=.inl ⟨rfl,rfl,by rw[c,dI I];rfl⟩;generalize d: ((((ds _).set 2 _).set 4 _).set 6 _)=e;have f:e 2= .ptr M 0:=by rw[<-d];rfl
 have P: (aq.t 6).get e=g:=by rw[<-d];rfl
 clear d;refine OU (ahb H M a G.length) (asz E) (xs.map hC) a G W0 ⟨[],none⟩ (by rw[P];exact C) (by rw[P];exact A) (λi b=>?_) (by omega) (λi b=>⟨by have:=b.1;omega,b.2⟩) ⟨λi b o=>?_,l⟩ rfl
  (λj s=>s.l=xs.take j) (λ_ _=>False) rfl (λ_ _ h=>h.elim) ?_ ?_ (λ_ _ _ _ h=>h.elim)
 ·rw[c,acV (by omega)];exact hG i b
 ·rw[c,acV (by omega)]
 ·intro j y s R p;rw[afE,afn]at R;obtain⟨x,S,rfl⟩:=R;have hj:=(acW.1 S).1;refine⟨rfl,λW V wI=>?_⟩;simp only[go_sem,simprocAttr,iG,hC];refine⟨[],by simp,λW2 SJ F=>?_⟩;obtain⟨u,n⟩:=F;have wu:s.l.length<=40000000:=by
   have:s.l=xs.take j:=p;rw[this,afC];omega
  obtain⟨vv,v',W3,L,O,a1,Z,a3,a4,a5,Y,a7⟩:=n.append (bytes:=4) (el:=hC x) (by omega) (by omega) rfl rfl (by rw[afm];unfold room;omega) none;have B:hC x=[.int .u32 (x:Nat)]:=rfl;rw[B]at Z;simp only[go_sem,simprocAttr,aeT,f,a1,Z,a3,DF,agT];have k: ∀i,s.row=some i->M<i:=by
   intro i b;rcases n with⟨q,_⟩| ⟨id,aj,q,_,f,q3,q4⟩
   ·rw[q]at b;cases b
   ·rw[q]at b;cases b;exact f
  refine⟨⟨s.l++[x],O⟩,⟨λi b o=>?_,?_⟩,⟨by show W2.length<=L.length;omega,λi b hp hr=>?_⟩,.inr ⟨M,aef _,by omega,rfl,?_⟩,?_⟩
  ·show L[i]?=_;rw[Y i (by omega) (by omega) (λq=>by have:=k i q;omega)];exact u i b o
  ·show SV M 1 bZ L O ((s.l++[x]).map hC);rw[afr];exact a4
  ·have w: ¬(i<M+1/\ ¬(a<=i/\i<a+G.length)):=hp;exact Y i b (by rintro rfl;exact w ⟨by omega,by omega⟩) hr
  ·rcases a7 with q| ⟨q,t,f⟩
   ·exact .inl q
   ·exact .inr ⟨q,t,by omega⟩
  ·show s.l++[x]=xs.take (j+1);have:s.l=xs.take j:=p;rw[this,agR,S];rfl
 ·intro s' W' ak p V hl T o6 z;obtain⟨u,n⟩:=V;have J:s'.l=xs:=by
   have:s'.l=xs.take (xs.map hC).length:=p;rw[this,afm,aft]
  obtain⟨v,o1,Q,o3,o4,_⟩:=n.own (N:=M) (aef _) (by intro el D;obtain⟨r,_,rfl⟩:=afq.1 D;rfl);rw[J]at Q;have ho:aT M (W'.set W0.length .dead) v 1 bZ (xs.map hC):=by
   obtain⟨c1,K⟩:=Q;refine⟨c1,?_⟩;rcases K with K| ⟨id,aj,d1,d2,d3⟩
   ·exact .inl K
   ·refine .inr ⟨id,aj,d1,d2,?_⟩;rw[acT];exact d3;rintro rfl;rw[T]at d3;cases d3
  simp only[go_sem,simprocAttr,f,o1,T,asy,sx];refine⟨v,_,_,rfl,ho,λi b o=>?_,by rw[afw];omega,?_⟩
  ·rw[acT (by omega)];exact u i b o
  ·rcases z with⟨rfl,_⟩| ⟨j,t,f,rfl⟩
   ·exact .inl rfl
   ·exact .inr ⟨j,t,rfl⟩
def asB(g:AV)(xs:lN)(c:xs.length<=40000000)(a:Nat)(G:List ae)(e:qC X4 g=true)(d:uQ X4 g a G (xs.map hC))(N:Nat)(H:List ae)(s:H.length=N)(f:a+G.length<=N)
  (m: ∀i,i<G.length->H[a+i]?=G[i]?) (lo:oN):
  ∃v W ak,zS [g] ⟨H,lo⟩=some (.ret v ⟨W,ak⟩)/\aT N W v 1 bZ (xs.map hC)/\ (∀i,i<N-> ¬(a<=i/\i<a+G.length)->W[i]?=H[i]?)/\N<=W.length/\ (ak=lo\/ ∃j,N<=j/\ak=cJ lo j):=by
 suffices r: ∃b,zS [g] ⟨H,lo⟩=some b/\ (λb=> ∃v W ak,b=aV.ret v ⟨W,ak⟩/\aT N W v 1 bZ (xs.map hC)/\ (∀i,i<N-> ¬(a<=i/\i<a+G.length)->W[i]?=H[i]?)/\N<=W.length/\ (ak=lo\/ ∃j,N<=j/\ak=cJ lo j)) b by grind
 refine wH (X:=X5) Kb rfl λM l=>?_
 obtain rfl:M=N:=by omega
 obtain⟨v,W,ak,e1,q,e3,o,n⟩:=asA g xs c a G e d M H l f m none;have h:D X5 (.fn (.func 188) [] []) [.av,g] ⟨H,none⟩=some _:=rM (p:=xx) rfl e1;simp only[go_sem,simprocAttr,Kb,h,sx];refine⟨v,W,_,rfl,q,e3,o,?_⟩;rcases n with rfl| ⟨j,k,rfl⟩
 ·exact .inl rfl
 ·exact .inr ⟨j,k,rfl⟩
def asC(t:au)(q:bN t)(n:cg t)(h:Nat)(s:h<4294967296)(N:Nat)(H:List ae)(B:H.length=N)(lo:oN):
  ∃v J ak,Ca [.agg (aN t),.int .u32 h] ⟨H,lo⟩=some (.ret v ⟨H++J,ak⟩)/\aT N (H++J) v 1 bZ ((under t h).map hC)/\ (ak=lo\/ ∃j,N<=j/\ak=cJ lo j):=by
 suffices A: ∃k,Ca [.agg (aN t),.int .u32 h] ⟨H,lo⟩=some k/\ (λk=> ∃v J ak,k=aV.ret v ⟨H++J,ak⟩/\aT N (H++J) v 1 bZ ((under t h).map hC)/\ (ak=lo\/ ∃j,N<=j/\ak=cJ lo j)) k by grind
 refine wH (X:=X6) E0 rfl λM e=>?_
 obtain rfl:M=N:=by omega
 have a:=up agW (eX t.b h s (H++[.box (aN t) none]) none);have l:Go.Proofs.YteplichagkpciaaGreatDoor.ar t.b h=t.ar h:=rfl;rw[l]at a;cases d:t.ar h with
 |false=>
  rw[d]at a;simp only[go_sem,simprocAttr,E0,e,a,sx,gZ];refine⟨_,_,_,rfl,?_,.inl rfl⟩;unfold under;rw[d];exact aT.av
 |true=>
  rw[d]at a;have hu:under t h=db t h:=by unfold under;rw[adG d];rfl
  obtain⟨H1,b⟩: ∃H1,H1=H++[ae.box (aN t) none,.box (aN t) none,.box [.int .u32 h] none]:=⟨_,rfl⟩;have o:=up agW (S2 t h (M+1) (H++[.box (aN t) none]) (by simp[e]) none);have f:H1.length=M+3:=by rw[b];simp[e]
  have m: ∀i,i<2->H1[M+1+i]?=[ae.box (aN t) none,.box [.int .u32 h] none][i]?:=λi r=>by
   rw[b,afu (by omega),show M+1+i-H.length=i+1 by omega];rfl
  obtain⟨v,W,ak,y,x,w,C,u⟩:=asB (.fn (.func 189) [] [.ptr (M+1+1) 0,.ptr (M+1) 0]) (db t h) (by have:=Sy n h;omega) (M+1) [.box (aN t) none,.box [.int .u32 h] none] rfl (S4 ⟨rfl,rfl,rfl,λ_=>.inl rfl⟩ t q n h d (M+1)) (M+3) H1 f (by simp) m none;have g:D X6 (.fn (.func 182) [] []) [.fn (.func 189) [] [.ptr (M+1+1) 0,.ptr (M+1) 0]] ⟨H1,none⟩=some _:=rM (p:=zS) rfl y;have c:W=H++W.drop M:=by
   have:W.take M=H:=lJ e λi r=>by
    rw[w i (by omega) (by omega),b,acV (by omega)]
   rw[<-this];simp
  rw[b]at g;simp only[adK,aii,ag8]at o;simp only[go_sem,simprocAttr,E0,e,a,o,g,sx];refine⟨v,W.drop M,_,dx rfl c,?_,?_⟩
  ·rw[<-c,hu];exact aT.le x (by omega)
  ·rcases u with rfl| ⟨j,z,rfl⟩
   ·exact .inl rfl
   ·exact .inr ⟨j,by omega,rfl⟩
def aT.nz{N:Nat}{H:List ae}{ty:TypeId}(h:aT N H v sz ty af){p:Nat}{cs:lA}{tg:Option TypeId}(b:H[p]?=some (.box cs tg)){o:ae}:aT N (H.set p o) v sz ty af:=by
 obtain⟨a,c⟩:=h;refine⟨a,?_⟩
 grind
def kT{N:Nat}{H:List ae}{ty:TypeId}{g:α->lA}(h:aT N H v sz ty (l.map g))(lo:oN):Rd ⟨H,lo⟩ v sz (l.map g):=h.rd
def Lc(t:au)(a:bN t)(c:cg t)(h:Nat)(b:h<4294967296)(N:Nat)(H:List ae)(d:H.length=N)(lo:oN):
  ∃v J ak,D X (.fn (.func 167) [] []) [.agg (aN t),.int .u32 h] ⟨H,lo⟩=some (.ret v ⟨H++J,ak⟩)/\aT N (H++J) v 1 bZ ((under t h).map hC)/\ (ak=lo\/ ∃j,N<=j/\ak=cJ lo j):=by
 obtain⟨v,J,ak,f,e⟩:=asC t a c h b N H d lo;exact⟨v,J,ak,rM (p:=Ca) rfl f,e⟩
def eF.of{N:Nat}(h:ak=Option.none\/ ∃j,N<=j/\ak=cJ Option.none j):eF N ak:=by trivial
def eF.le{N M:Nat}(h:eF N lo)(a:M<=N):eF M lo:=by
 rcases h with h| ⟨j,q,e⟩
 ·exact .inl h
 ·exact .inr ⟨j,by omega,e⟩
def Ld{t:au}(b:bN t)(a:x∈under t h):t.ar x=true:=by
 unfold under at a;split at a
 ·rename_i c;exact zF b.b c a
 grind
def FJ{t:au}(a:cg t)(h:Nat): (under t h).length<=39135393:=by
 unfold under;split
 ·exact Sy a h
 ·simp
def asD:gA cU:=⟨by trivial,by trivial,by trivial,by simp[cU],by trivial,by trivial⟩
def bN.drop{t:au}(a:bN t)(h:Nat):bN (fu t h).1:=by
 unfold fu;split
 ·refine⟨Fy a.b h,λi=>?_⟩;show gA (ao t.r (aI h) cU i);by_cases e:i=aI h
  ·rw[e,bS];exact asD
  ·rw[bT e];exact a.r i
 omega
def fW(t:au)(l:lN):au:=l.foldl (λt x=>(fu t x).1) t
theorem ahc{t:au}(a:bN t): ∀l:lN,bN (fW t l)
 | []=>a
 |x::xs=>ahc (a.drop x) xs
def asE{t:au}{l:lN}{k:Nat}(h:k<l.length):fW t (l.take (k+1))=(fu (fW t (l.take k)) (l.getD k default)).1:=by
 unfold fW;rw[agR,adM h,amu,getD_eq h];rfl
def jD{N:Nat}{H:List ae}(b:eF N ak)(a:v.refs<=N):finish N lo v ⟨H,ak⟩=(v,⟨H.take N,lo⟩):=uR b ((Fz.low (d:=11) a))
def FK{N:Nat}{H:List ae}{ty:TypeId}(b:eF N ak)(h:aT N H v sz ty af)(a:ca af<=N):finish N lo v ⟨H,ak⟩=(bw v af,⟨H.take N,lo⟩):=
 uR b ((Fz.own (d:=8) h a))
def ahd{N:Nat}{a b:AV}{H:List ae}{ty:TypeId}(e:eF N ak)(h:aT N H v sz ty af)(c:ca af<=N)(g:a.refs<=N)(f:b.refs<=N):
  finish N lo (.az [a,v,b]) ⟨H,ak⟩=(.az [a,bw v af,b],⟨H.take N,lo⟩):=
 uR e (Fz.az (d:=11) (iJ.cons ((Fz.low (d:=0) g).mono (by omega)) (iJ.cons ((Fz.own (d:=0) h c).mono (by omega)) (iJ.cons ((Fz.low (d:=0) f).mono (by omega)) iJ.nil))))
def asF(t:au)(y:bN t)(I:cg t)(h:Nat)(P:h<4294967296)(H:List ae)(lo:oN):
  ∃w,D X (.fn (.func 292) [] []) [.agg (aN t),.int .u32 h] ⟨H,lo⟩=some (.ret (.az [.agg (aN (hZ t h).1),w,.int .i64 (hZ t h).2.2]) ⟨H,lo⟩):=by
 suffices O: ∃l,D X (.fn (.func 292) [] []) [.agg (aN t),.int .u32 h] ⟨H,lo⟩=some l/\ (λl=> ∃w,l=aV.ret (.az [.agg (aN (hZ t h).1),w,.int .i64 (hZ t h).2.2]) ⟨H,lo⟩) l by
  obtain⟨l,R,w,rfl⟩:=O;exact⟨w,R⟩
 refine cN Kx λN d=>?_
 obtain⟨v,J,x,r,q,C⟩:=Lc t y I h P (N+2) (H++[.box (aN t) none,.box ld none]) (by simp[d]) none;have M:=FJ I h;have a:=(kT q x).bY;obtain⟨W0,b⟩: ∃W0,W0=H++[ae.box (aN t) none,.box ld none]++J:=⟨_,rfl⟩;have w0:W0[N]?=some (.box (aN t) none):=by rw[b,adK,dI d];rfl
 have w1:W0[N+1]?=some (.box ld none):=by rw[b,adK,bF d];rfl
 have c:jb N H W0:=by rw[b,adK];exact jb.app d
 rw[<-b]at r q a;by_cases he:under t h=[]
 ·have e1:hZ t h=(t,[],4):=by unfold hZ;rw[adG he]
  have B: ((under t h).length:Int)=0:=by rw[he];rfl
  rw[e1];simp only[go_sem,simprocAttr,Kx,d,r,a,B,w0,w1,dc,de w1];rw[jD (eF.le (eF.of C) (by omega)) ?_]
  ·exact⟨_,dx rfl ((c.set (by omega)).take d)⟩
  ·simp[AV.refs,aL,xl]
 ·have B: ¬((under t h).length:Int)=0:=by
    have:=azK.2 he;omega
  simp only[go_sem,simprocAttr,Kx,d,r,a,B];refine ja (under t h).length (λk e p ak=>jb N H p/\p[N]?=some (.box (aN (fW t ((under t h).take k))) none)/\p[N+1]?=some (.box ld none)/\aT (N+2) p v 1 bZ ((under t h).map hC)/\eF (N+2) ak/\
   e 2= .ptr N 0/\e 4= .ptr (N+1) 0/\e 7=v/\e 17=v/\e 18= .int .i64 (under t h).length/\e 19= .int .i64 k) 0 (by omega) ?_ ?_
  ·simp only[go_sem,simprocAttr];exact⟨c,w0,w1,q,eF.of C⟩
  rintro k U e S u ⟨F,o,m,s,E,L,K,e7,j,i,g⟩ n T;have A:=ahc y ((under t h).take k);simp only[cb,go_sem,simprocAttr,ae9,L,j,i,g];refine⟨λQ=>?_,λQ=>?_⟩
  ·have f:k< (under t h).length:=by omega
   have G:=kT s u;have z:=λH lo=>up dC<|arL (fW t ((under t h).take k)) A ((under t h).getD k default) (fV (Ld y (fO f))) H lo
   simp(disch:=omega) only[go_sem,simprocAttr,G.cD,G.di,↓pH,o,z,SB,L,K,e7,j,i,g,<-asE f];exact⟨by omega,f,F.set (by omega),de o,m,aT.nz s o,E⟩
  ·simp only[go_sem,simprocAttr,o,m,K,e7,dc,de m];obtain rfl:k=(under t h).length:=by omega
   have ho:aT N (S.set (N+1) (ae.box (aN (fW t ((under t h).take (under t h).length))) none)) v 1 bZ ((under t h).map hC):=aT.nz (aT.le s (by omega)) m;rw[ahd (eF.le E (by omega)) ho ?_ ?_ ?_]
   ·refine⟨bw v ((under t h).map hC),dx ?_ ((F.set (by omega)).take d)⟩;unfold hZ;rw[adE he,aft];rfl
   ·rw[bH (λ_=>rfl)];omega
   ·simp[AV.refs,xl]
   ·simp[AV.refs]
def RB(l:List aD):Prop:=l.length<=100/\ ∀x∈l,x.1<4294967296/\x.2<4294967296
def Le{l:List aD}{k:Nat}(h:k<l.length):aM (l.take (k+1))=aM (l.take k)+(l.getD k default).2:=by
 unfold aM;rw[agR,adM h,afr,List.sum_append,afA,adM h];simp
def asG{l:List aD}(h: ∀x∈l,x.2<4294967296):aM l<=l.length*4294967296:=by
 exact Sx (λx:aD=>x.2) 4294967296 l λx a=>Nat.le_of_lt (h x a)
def RB.bd{l:List aD}(h:RB l)(k:Nat):aM (l.take k)<=429496729600:=by
 have c:=asG (l:=l.take k) λx a=>(h.2 x (ag9 a)).2
 have b: (l.take k).length<=100:=by have:=h.1;grind
 omega
def RB.ju{l:List aD}(h:RB l):aM l<=429496729600:=by
 have:=h.bd l.length;grind
def xy(l:List aD):List lA:=(List.range l.length).map λi=>[.int .i64 (32*aM (l.take i):Nat),.agg (aA (l.getD i default))]
def FL(l:List aD): (xy l).length=l.length:=by simp[xy]
def S8{l:List aD}(h:j<l.length): (xy l)[j]?=some [.int .i64 (32*aM (l.take j):Nat),.agg (aA (l.getD j default))]:=by
 unfold xy;grind
def ahe(v:AV)(n:Nat)(b:v.refs=0)(N:Nat)(H:List ae)(c:H.length=N)(lo:oN):D X0 (.fn (.func 84) [] []) [.agg [v,.int .i64 n]] ⟨H,lo⟩=some (.ret (.fn (.func 114) [] [.ptr N 0]) ⟨H++[.box [v,.int .i64 n] none],lo⟩):=by
 refine aH PX λM a=>?_
 obtain rfl:M=N:=by omega
 simp only[go_sem,simprocAttr,PX,a];rw[zQ (by omega)]
def ahf(v:AV)(x:Nat)(l:List aD)(C:Rv v 2 (l.map aA))(G:RB l)(a:Nat):
  uQ X0 (.fn (.func 114) [] [.ptr a 0]) a [.box [v,.int .i64 x] none] (xy l):=by
 intro S V y I J b z p E W s hP h0 wI g hG lo;have K6:=G.1;have d: ∀i,V.cE i->i<b:=λi hi=>(p i hi).1
 suffices h: ∃w,D X0 (.fn (.func 114) [] [.ptr a 0]) [y] ⟨W,lo⟩=some w/\
   (λw=> ∃s' j ak,w=aV.ret (.az []) ⟨j,ak⟩/\V.P s' j/\ (I (xy l).length s'\/J s')/\b<=j.length/\
     (∀i,i<b-> ¬V.cE i-> ¬(a<=i/\i<a+[ae.box [v,.int .i64 x] none].length)->j[i]?=W[i]?)/\lb V.c b lo ak none (V.row s')) w by
  obtain⟨w,h1,s',j,ak,rfl,q1,Z,Y,X,U⟩:=h;exact⟨s',j,ak,h1,q1,Z,Y,X,U⟩
 refine ub P9 rfl rfl rfl λN hN=>?_
 obtain rfl:N=b:=by omega
 have t:W[a]?=some (.box [v,.int .i64 x] none):=hG 0 (by simp);simp only[go_sem,simprocAttr,P9,t,C.bY];refine ja l.length (λk e j ak=> ∃s',I k s'/\kA V N W (λi=>a<=i/\i<a+[ae.box [v,.int .i64 x] none].length) s' j ak/\e 0=y/\e 3= .int .i64 (32*aM (l.take k):Nat)/\e 7=v/\e 8= .int .i64 l.length/\e 9= .int .i64 k) 0 (by omega) ?_ ?_
 ·simp only[go_sem,simprocAttr];exact⟨s,h0,⟨hP,by omega,λ_ _ _ _=>rfl,.inl ⟨rfl,g⟩,λr e=>by rw[g]at e;cases e⟩,by simp[aM]⟩
 rintro k hk e W1 B ⟨s1,P,A,R,e3,e7,e8,Q⟩ n O;simp only[cb,go_sem,simprocAttr,aeE,e7,e8,Q];refine⟨λh=>?_,λh=>?_⟩
 ·have f:k<l.length:=by omega
  have wF:=G.2 _ (fO f);have hpg:=G.bd k;have yu:=Le f;have hx:=S8 f;generalize F:l.getD k default=r at*;have o:=A.push z d [.box (aA r) none];obtain⟨c,s2,W2,ny,M,p2,L,p4,p5,K⟩:=E k _ s1 hx P (W1++[.box (aA r) none]) o.P o.len B;have u:=o.step p2 L p4 p5;have K9:N<=n:=by have:=A.len;omega
  have T:W2[n]?=some (.box (aA r) none):=by
   rw[L.2 n (by simp;omega) (λq=>by have:=d _ q;omega) (λq=>by have:=z.H9 A.P q;omega)];rw[<-O];simp
  simp(disch:=omega) only[go_sem,simprocAttr,C.cD,C.di,h,O,R,e3,F];cases c
  ·obtain⟨H,m,f1,f2,f3,f4,f5⟩:=u.fin z d (dS:=lo);simp only[go_sem,simprocAttr,M,f1];exact⟨s2,H,m,rfl,f2,.inr K,f3,f4,f5⟩
  ·simp(disch:=omega) only[go_sem,simprocAttr,R,e3,e7,e8,Q,M,T];exact⟨f,s2,K,u,ag3 _ (by omega)⟩
 ·obtain⟨H,m,f1,f2,f3,f4,f5⟩:=A.fin z d (dS:=lo);simp only[go_sem,simprocAttr,f1];exact⟨s1,H,m,rfl,f2,.inl (by rw[FL,show l.length=k by omega];exact P),f3,f4,f5⟩
theorem Lf{r:aD}:aO [AV.int .i64 0,.int .i64 0] 0 (aA r)=aA r:=rfl
def Lg(v:AV)(n:Nat)(l:List aD)(w:Rv v 2 (l.map aA))(g:RB l)(H:List ae)(lo:oN):
  D X0 (.fn (.func 45) [] []) [.agg [v,.int .i64 n]] ⟨H,lo⟩=some (.ret (.int .i64 (aM l:Nat)) ⟨H,lo⟩):=by
 refine aH PD λN u=>?_
 have d:v.refs=0:=dj w (bH (λ_=>rfl) l);have F:=ahe v n d (N+2) (H++[.box [v,.int .i64 n] none,.box [.int .i64 0] none]) (by grind) none;simp only[go_sem,simprocAttr,PD,u,F];refine wJ (S:=Nat) (λe=>e 3= .ptr (N+1) 0) (by rfl) (xy l) u [.box [v,.int .i64 n] none] (λm=>[.box [v,.int .i64 n] none,.box [.int .i64 (m:Nat)] none]) (nB:=2) (λ_=>rfl) 0 (λj s=>s=aM (l.take j)) (λ_ _=>False) rfl ?_ (by simp) (by rfl) (λ_ _ h=>h.elim) ?_ ?_ ?_
 ·exact ahf v n l w g (N+2)
 ·rintro e he j x s c rfl;have k:j<l.length:=by
   have:=(acW.1 c).1;rwa[FL]at this
  rw[S8 k]at c;cases c;have y:=g.2 _ (fO k);have z:=g.bd j;have f:=Le k;refine⟨rfl,λW I C A q=>?_⟩;simp only[go_sem,simprocAttr,iG,C,Lf];refine⟨[.box (aA (l.getD j default)) none],rfl,λG t b=>?_⟩;simp only[fD,fC,alX,afs]at b;obtain⟨w0,w1⟩:=b;have f1: ∀L,(G++L)[N+1]?=some (.box [.int .i64 (aM (l.take j):Nat)] none):=λL=>bf w1
  simp(disch:=omega) only[go_sem,simprocAttr,aep,he,f1,t,nZ];refine⟨aM (l.take (j+1)),?_,by omega,λi K B=>?_,rfl⟩
  ·simp only[fD,fC,alX,afs];refine⟨by rw[acT (by omega)];exact bf w0,?_⟩;rw[aed (by simp;omega),f,anF]
  ·rw[acT (by omega),acV (by omega)]
 ·rintro e he s W p J rfl a q E;simp only[fD,fC,alX,afs]at q;obtain⟨w0,w1⟩:=q;have r: ∀o,(W.set p o).take N=H:=λo=>(a.set (by omega)).take u
  simp only[F1,go_sem,simprocAttr,he,w1,E,mL,r];rw[FL,aft]
 grind
def iC(n:Nat):lA:=[.int .i64 n]
theorem pI:Den.part false 1 (iC n) 0=some (.int .i64 n):=rfl
def asI(v:AV)(l:lN)(b:Rv v 1 (l.map iC))(q:l.length<2^40)(x:Nat)(H:List ae)(lo:oN):
  D X0 (.fn (.func 335) [] []) [v,.int .i64 x] ⟨H,lo⟩=some (.ret (.int .i64 (ke (λy=>decide (x=y)) l)) ⟨H,lo⟩):=by
 refine aH RR λN t=>?_
 simp only[go_sem,simprocAttr,RR,b.bY];refine eN l.length (λk e H'=>H'=H/\e 0=v/\e 1= .int .i64 x/\e 7= .int .i64 l.length/\e 8= .int .i64 k/\ ∀j,j<k->decide (x=l.getD j default)=false) 0 (by omega) ?_ ?_
 ·simp only[go_sem,simprocAttr];omega
 ·rintro k r e H' ⟨rfl,o,m,i,g,f⟩ n p;simp(disch:=omega) only[cb,F1,go_sem,simprocAttr,afh,o,m,i,g];refine⟨λh=>?_,λh=>?_⟩
  ·have c:k<l.length:=by omega
   by_cases d:x=l.getD k default
   ·have a: ((x:Nat):Int)=((l.getD k default:Nat):Int):=by rw[<-d]
    simp(disch:=omega) only[F1,go_sem,simprocAttr,b.cD,b.di,↓pI,a];rw[zO c f (aec d)];exact⟨by omega,rfl⟩
   ·have a: ¬((x:Nat):Int)=((l.getD k default:Nat):Int):=by omega
    simp(disch:=omega) only[go_sem,simprocAttr,b.cD,b.di,↓pI,a,o,m,i,g];exact⟨by omega,c,p7 f (adO d)⟩
  ·rw[zP (λj s=>f j (by omega))]
def asJ(v:AV)(l:lN)(a:Rv v 1 (l.map iC))(b:l.length<2^40)(x:Nat)(H:List ae)(lo:oN):
  D X0 (.fn (.func 323) [] []) [v,.int .i64 x] ⟨H,lo⟩=some (.ret (.bool (l.contains x)) ⟨H,lo⟩):=by
 refine aH RK λN c=>?_
 simp only[F1,go_sem,simprocAttr,RK,asI v l a b x,zN]
 grind
def ahg(a b:Nat)(h:a<2147483648)(g:b<2147483648)(H:List ae)(lo:oN):
  D X0 (.fn (.func 287) [] []) [.int .i64 a,.int .i64 b] ⟨H,lo⟩=some (.ret (.bool (isObj a b)) ⟨H,lo⟩):=by
 refine aH Fg λN f=>?_
 have e:=asJ (.sl [[.int .i64 1],[.int .i64 2],[.int .i64 4],[.int .i64 8]] true) [1,2,4,8] (.sl (by simp)) (by simp) b H none;by_cases c: (a:Int)>=1
 ·by_cases d: (a:Int)<=128
  ·simp only[F1,go_sem,simprocAttr,Fg,c,d,e];unfold isObj
   grind
  ·simp(disch:=omega) only[F1,go_sem,simprocAttr,Fg,c,d];refine dx (ag3 AV.bool ?_) rfl;unfold isObj;rw[adO (by omega: ¬a<=128)];simp
 ·simp(disch:=omega) only[F1,go_sem,simprocAttr,Fg,c];refine dx (ag3 AV.bool ?_) rfl;unfold isObj;rw[adO (by omega: ¬1<=a)];simp
theorem FM: ∀ (l:List aD) (x:aD) (put:Bool) (out a:List aD),x.1+x.2<=64->(∀y∈l,y.1+y.2<=64)->(∀y∈out,y.1+y.2<=64)->gz x put out l=some a->
  (∀y∈a,y.1+y.2<=64)/\a.length<=out.length+l.length+(if put then 0 else 1)
 | [],x,put,out,a,e,_,ho,h=>by
   unfold gz at h
   grind
 |y::ys,x,put,out,a,e,g,ho,h=>by
  have i:=g y (afG ..);have b: ∀z∈ys,z.1+z.2<=64:=λz d=>g z (afv _ d)
  unfold gz at h;split at h
  ·obtain⟨c,f⟩:=FM ys x put _ a e b (λz d=>by grind) h
   grind
  ·split at h
   ·obtain⟨c,f⟩:=FM ys x true _ a e b (λz d=>by
      rcases aeg.1 d with h|h
      ·rcases aeg.1 h with h|h
       ·exact ho z h
       ·cases put
        ·simp only[afp,aha]at h;rw[aeh.1 h];exact e
        ·simp at h
      ·rw[aeh.1 h];exact i) h
    refine⟨c,?_⟩;cases put<;>simp only[aeb,afx,anD,afK,aha,afp]at f⊢ <;>omega
   ·split at h
    ·obtain⟨c,f⟩:=FM ys _ put out a (by simp;omega) b ho h;exact⟨c,by simp only[afx];omega⟩
    ·split at h
     ·obtain⟨c,f⟩:=FM ys _ put out a (by simp;omega) b ho h;exact⟨c,by simp only[afx];omega⟩
     ·cases h
def asK{x:aD}(h:j9 x=true):1<=x.2/\x.1+x.2<=64:=by
 unfold j9 at h;grind
def asL{l a:List aD}{x:aD}(b: ∀y∈l,y.1+y.2<=64)(h:gR l x=some a): (∀y∈a,y.1+y.2<=64)/\a.length<=l.length+1:=by
 unfold gR at h;split at h
 ·rename_i hm;have:=FM l x false [] a (asK hm).2 b (by simp) h
  grind
 grind
theorem Lh: ∀ (a b all:List aD),mE all (a++b)=(mE all a).bind λm=>mE m b
 | [],b,all=>rfl
 |x::a,b,all=>by
  simp only[aii,mE];cases gR all x with
  |none=>rfl
  |some m=>exact Lh a b m
def asM{l:List aD}{k:Nat}(h:k<l.length)(a:List aD):mE a (l.take (k+1))=(mE a (l.take k)).bind λm=>gR m (l.getD k default):=by
 rw[agR,adM h,Lh,afA,adM h];simp only[Option.toList_some,mE,akc]
 grind
def asN{l:List aD}{k:Nat}{a:List aD}(h:mE a (l.take k)=none):mE a l=none:=by grind [List.take_append_drop,Lh]
def ahh(v:AV)(n:Nat)(l:List aD)(w:n<4294967296)(g:Rv v 2 (l.map aA))(s:RB l)(C:l.length<=65)(H:List ae)(lo:oN):
  D X0 (.fn (.func 212) [] []) [.agg [v,.int .i64 n]] ⟨H,lo⟩=some (.ret (.bool (pM l n)) ⟨H,lo⟩):=by
 refine aH QR λN E=>?_
 have r:=Lg v n l g s;have B:=s.ju;simp only[go_sem,simprocAttr,QR,E,g.bY];refine eN l.length (λk e H'=> ∃J A,H'=cat H (.box [v,.int .i64 n] none:: .box [eu A] none::J)/\mE [] (l.take k)=some A/\A.length<=k/\ (∀x∈A,x.1+x.2<=64)/\e 1= .ptr N 0/\e 3= .ptr (N+1) 0/\e 9=v/\e 10= .int .i64 l.length/\e 11= .int .i64 k) 0 (by omega) ?_ ?_
 ·simp only[go_sem,simprocAttr];exact⟨[],[],fK.symm,by simp[mE],by simp,by simp⟩
 rintro k I e H' ⟨J,A,rfl,t,F,o,e1,e3,y,q,p⟩ z w;have d: ∀a b,(cat H (a::b::J)).length=z:=λ_ _=>by rw[<-w,KI,KI];rfl
 simp(disch:=omega) only[cb,go_sem,simprocAttr,aeY,e1,y,q,p];refine⟨λh=>?_,λh=>?_⟩
 ·have f:k<l.length:=by omega
  have i:=s.2 _ (fO f);have j:=agP (eu A) A (mD A) ⟨by omega,o⟩ (l.getD k default) i.1 i.2;have c:=asM f [];rw[t]at c;simp only[aom]at c;cases m:gR A (l.getD k default)with
  |none=>
   rw[m]at c;have u:pM l n=false:=by unfold pM;rw[asN c];rfl
   simp(disch:=first|omega|apply d) only[F1,go_sem,simprocAttr,g.cD,g.di,h,d,e3,Lf,j,p9,m,u,Sg]
  |some A'=>
   rw[m]at c;obtain⟨G,K⟩:=asL o m;simp(disch:=first|omega|apply d) only[go_sem,simprocAttr,g.cD,g.di,h,d,e1,e3,y,q,p,Lf,j,p9,m,Sg];exact⟨f,_,A',Sa,c,by omega,G⟩
 ·obtain rfl:k=l.length:=by omega
  rw[aft]at t;have u:pM l n=decide (n<=aM l*32):=by unfold pM;rw[t];rfl
  simp(disch:=first|omega|apply d) only[F1,go_sem,simprocAttr,r];rw[u];exact dx (ag3 AV.bool (afB.2 (by omega))) rfl
def asO(a k:Nat)(e:a<4611686018427387904)(g:k<=3): (BitVec.ofInt 64 (a:Int)&&& ~~~ (BitVec.ofInt 64 ((2^k:Nat)-1:Int))).toNat=a/2^k*2^k:=by
 have e1:BitVec.ofInt 64 (a:Int)=BitVec.ofNat 64 a:=by simp
 have f:BitVec.ofInt 64 ((2^k:Nat)-1:Int)=BitVec.ofNat 64 (2^k-1):=by
  have: ((2^k:Nat)-1:Int)=((2^k-1:Nat):Int):=by
   have:=Nat.pow_pos (n:=k) (show 0<2 by omega);omega
  rw[this];simp
 rw[e1,f];apply Nat.eq_of_testBit_eq;intro i;rw[<-Nat.shiftLeft_eq,Nat.testBit_shiftLeft,Nat.testBit_div_two_pow,BitVec.testBit_toNat,BitVec.getLsbD_and,BitVec.getLsbD_not,BitVec.getLsbD_ofNat,BitVec.getLsbD_ofNat,Nat.testBit_two_pow_sub_one];by_cases b:i<64
 ·by_cases c:i<k
  ·simp[b,c];intro d;omega
  ·simp[b,c,show k<=i by omega,show i-k+k=i by omega]
 ·have:a.testBit i=false:=Nat.testBit_lt_two_pow (ahl e (by
    have: (4611686018427387904:Nat)=2^62:=by decide
    rw[this];exact Nat.pow_le_pow_right (by omega) (by omega)))
  by_cases c:k<=i
  ·simp[b,c,show i-k+k=i by omega,this]
  ·simp[b,c]
def asP(f:a<4611686018427387904)(h: [1,2,4,8].contains b=true):dB .andNot (.int .i64 (a:Nat)) (.int .i64 ((b:Nat)-1))=some (.int .i64 (a/b*b:Nat)):=by
 have c: ∀k,k<=3->b=2^k->dB .andNot (.int .i64 (a:Nat)) (.int .i64 ((b:Nat)-1))=some (.int .i64 (a/b*b:Nat)):=by
  intro k d e;subst e;rw[Oe];have e3:=asO a k f d;have g: (BitVec.ofInt IntKind.i64.bits (a:Int)&&& ~~~ (BitVec.ofInt IntKind.i64.bits ((2^k:Nat)-1:Int))).toNat=a/2^k*2^k:=e3;rw[g];have i:a/2^k*2^k<=a:=Nat.div_mul_le_self a _;rw[wrap_i64 (by omega) (by omega)]
 have:b=1\/b=2\/b=4\/b=8:=by grind
 rcases this with e|e|e|e
 ·exact c 0 (by omega) e
 ·exact c 1 (by omega) e
 ·exact c 2 (by omega) e
 ·exact c 3 (by omega) e
def asQ(h:isObj b a=true):1<=b/\b<=128/\ [1,2,4,8].contains a=true/\1<=a/\a<=8:=by
 unfold isObj at h
 grind
def xz(l:List aD)(n b a:Nat):AV:=.az [.int .i64 ((gB l n b a).getD 0:Nat),.bool (gB l n b a).isSome]
def ahi(v:AV)(n:Nat)(l:List aD)(y:n<4294967296)(o:Rv v 2 (l.map aA))(j:RB l)(c b:Nat)(s:c<2147483648)(r:b<2147483648)(H:List ae)(lo:oN):
  D X0 (.fn (.func 252) [] []) [.agg [v,.int .i64 n],.int .i64 c,.int .i64 b] ⟨H,lo⟩=some (.ret (xz l n c b) ⟨H,lo⟩):=by
 refine aH E9 λN i=>?_
 have h:=Lg v n l o j;have p:=j.ju;have ho:=ahg c b s r;cases d:isObj c b with
 |false=>
  have e:gB l n c b=none:=by unfold gB;rw[d];rfl
  simp only[F1,go_sem,simprocAttr,E9,i,ho,d,xz,e]
 |true=>
  obtain⟨x,w,m,u,t⟩:=asQ d;have g:D X0 (.fn (.func 288) [] [.ptr (N+1) 0]) [.int .i64 n] ⟨H++[.box [v,.int .i64 n] none,.box [.int .i64 b] none],none⟩=some (.ret (.int .i64 ((n+b-1)/b*b:Nat)) ⟨H++[.box [v,.int .i64 n] none,.box [.int .i64 b] none],none⟩):=by
   refine fJ Ro λM A=>?_
   have e1: (n:Int)+b-1=((n+b-1:Nat):Int):=by omega
   simp(disch:=omega) only[F1,go_sem,simprocAttr,Ro,e1,asP (a:=n+b-1) (by omega) m]
  have z: (n+b-1)/b*b<=n+b-1:=Nat.div_mul_le_self _ _;have e:gB l n c b=if(n+b-1)/b*b+c<=aM l*32 then some ((n+b-1)/b*b)else none:=by unfold gB;rw[d];rfl
  generalize q: (n+b-1)/b*b=at' at*;by_cases k:at'+c<=aM l*32
  ·have f: ¬(at':Int)+c>aM l*32:=by omega
   rw[adG k]at e;simp(disch:=omega) only[F1,go_sem,simprocAttr,E9,i,ho,d,g,h,f,xz,e]
  ·have f: (at':Int)+c>aM l*32:=by omega
   rw[adE k]at e;simp(disch:=omega) only[F1,go_sem,simprocAttr,E9,i,ho,d,g,h,f,xz,e]
def vK(l:List aD)(n b c:Nat):Nat:=match gB l n b c with|some a=>a+b|none=>n
def ahj(v:AV)(n:Nat)(l:List aD)(k:n<4294967296)(f:Rv v 2 (l.map aA))(g:RB l)(c b:Nat)(o:c<2147483648)(m:b<2147483648)(H:List ae)(lo:oN):
  D X0 (.fn (.func 254) [] []) [.agg [v,.int .i64 n],.int .i64 c,.int .i64 b] ⟨H,lo⟩=some (.ret (.az [.agg [v,.int .i64 (vK l n c b:Nat)],.int .i64 ((gB l n c b).getD 0:Nat),.bool (gB l n c b).isSome]) ⟨H,lo⟩):=by
 refine aH Km λN i=>?_
 have h:=ahi v n l k f g c b o m;have d:v.refs=0:=dj f (bH (λ_=>rfl) l);have j:=g.ju;cases e:gB l n c b with
 |none=>simp only[F1,go_sem,simprocAttr,Km,i,h,xz,e,vK,d]
 |some a=>
  have p:a<=20000000000000:=by
   unfold gB at e
   grind
  simp(disch:=omega) only[F1,go_sem,simprocAttr,Km,i,h,xz,e,vK,d,anF]
def asS(a b:Nat)(f:a<2147483648)(d:b<2147483648)(H:List ae)(lo:oN):
  D X0 (.fn (.func 250) [] []) [.int .i64 a,.int .i64 b] ⟨H,lo⟩=some (.ret (.az [.int .i64 ((l9 a b).getD 0:Nat),.bool (l9 a b).isSome]) ⟨H,lo⟩):=by
 refine aH Kl λN g=>?_
 have ho:=ahg a b f d;cases c:isObj a b with
 |false=>
  have e:l9 a b=none:=by unfold l9;grind
  simp(disch:=omega) only[F1,go_sem,simprocAttr,Kl,ho,c,e]
 |true=>
  have e:l9 a b=some ((a+31)/32):=by unfold l9;grind
  have e1: ((a:Int)+32-1).tdiv 32=(((a+31)/32:Nat):Int):=by
   rw[Int.tdiv_eq_ediv_of_nonneg (by omega)];omega
  simp(disch:=omega) only[F1,go_sem,simprocAttr,Kl,ho,c,e,e1]
def asT{H:List ae}{bytes:Nat}{ty:TypeId}{ys:List lA}(a:0<sz)(d: ∀el∈ys,el.length=sz)(b:ys≠[])(c:ys.length*bytes<=room):
  dL ⟨H,lo⟩ ty sz bytes .av ys=some (.ref H.length 0 sz 0 ys.length false,⟨H++[.row 0 sz ty ys],lo⟩):=by
 unfold dL;rw[adG ⟨a,by grind⟩];rw[adE (by grind),adG c];rfl
def asU{H:List ae}{bytes:Nat}{ty:TypeId}{ys:List lA}(a:0<sz)(e: ∀el∈af,el.length=sz)(d: ∀el∈ys,el.length=sz)(b:ys≠[])(c: (af.length+ys.length)*bytes<=room):
  dL ⟨H,lo⟩ ty sz bytes (.sl af true) ys=some (.ref H.length 0 sz 0 (af.length+ys.length) false,⟨H++[.row 0 sz ty (af++ys)],lo⟩):=by
 unfold dL;rw[adG ⟨a,by grind⟩];simp only;rw[adE (by grind),adG ⟨c,by grind⟩];rfl
def Cb(v:AV):AV:=match v with
 |.sl af _=>.sl af true
 |v=>v
def asV(v:AV)(l:List aD)(d:Rv v 2 (l.map aA))(H:List ae)(lo:oN):
  D X0 (.fn (.func 289) [] []) [v] ⟨H,lo⟩=some (.ret (Cb v) ⟨H,lo⟩):=by
 refine aH Kw λN i=>?_
 obtain⟨h,a,j⟩:=d ⟨[],none⟩;have f:=bH (g:=aA) (λ_=>rfl) l;cases v<;>simp only[]at h
 ·have b:gJ 2 .av none (some (.int .i64 0)) (some (.int .i64 0))=some .av:=by rfl
  simp(disch:=omega) only[F1,go_sem,simprocAttr,Kw,b,Cb]
 ·rename_i af c;simp only[Den.elems]at a;split at a
  ·cases a;have e:gJ 2 (.sl (l.map aA) c) none (some (.int .i64 (l.length:Nat))) (some (.int .i64 (l.length:Nat)))=some (.sl (l.map aA) true):=by
    simp[gJ,gI,lQ,lR,aA];exact adP (by simp)
   simp(disch:=omega) only[F1,go_sem,simprocAttr,Kw,e,afm,f,aee,Cb]
  grind
 ·simp[Den.elems]at a
def asW(v:AV)(n:Nat)(l:List aD)(k:Rv v 2 (l.map aA))(s:RB l)(r:aD)(H:List ae)(lo:oN):
  D X0 (.fn (.func 253) [] []) [.agg [v,.int .i64 n],.agg (aA r)] ⟨H,lo⟩=some (.ret (.agg [eu (l++[r]),.int .i64 (aM l*32:Nat)]) ⟨H,lo⟩):=by
 refine aH Q9 λN m=>?_
 have p:=Lg v n l k s;have w:=s.ju;have y:=s.1;have u:v.refs=0:=dj k (bH (λ_=>rfl) l);have z:=asV v l k;obtain⟨id,j⟩: ∃id,(H++[ae.box [v,.int .i64 n] none,.box (aA r) none,.box [.av,.int .i64 0] none]).length=id:=⟨_,rfl⟩;have t: ∀lo,dL ⟨H++[ae.box [v,.int .i64 n] none,.box (aA r) none,.box [.av,.int .i64 0] none],lo⟩ fb 2 16 (Cb v) [aA r]=some (.ref id 0 2 0 (l.length+1) false,⟨H++[ae.box [v,.int .i64 n] none,.box (aA r) none,.box [.av,.int .i64 0] none]++[.row 0 2 fb (l.map aA++[aA r])],lo⟩):=by
  intro lo;obtain⟨A,b,B⟩:=k ⟨[],none⟩;rw[<-j];cases v<;>simp only[]at A
  ·simp only[Den.elems]at b;have:l=[]:=by
    have:=(aiP b).symm;exact ap3.1 this
   subst this;rw[show Cb .av= .av from rfl,asT (by omega) (λel a=>by rw[aeh.1 a];rfl) (by simp) (by simp[room])];rfl
  ·simp only[Den.elems]at b;split at b
   ·cases b;rw[show ∀c,Cb (.sl (l.map aA) c)= .sl (l.map aA) true fromλ_=>rfl,asU (by omega) (λel a=>by obtain⟨x,_,rfl⟩:=afq.1 a;rfl) (λel a=>by rw[aeh.1 a];rfl) (by simp) (by simp[room];omega)];simp
   ·cases b
  ·simp[Den.elems]at b
 have i:id=N+3:=by rw[<-j];simp[m]
 subst i;simp(disch:=omega) only[go_sem,simprocAttr,Q9,m,z,t,p];have q:eF N (if N+1<=N then none else cJ none (N+2)):=by rw[adE (by omega)];exact .inr ⟨N+2,by omega,rfl⟩
 have f:aT N (H++[ae.box [v,AV.int IntKind.i64 ↑n] none,ae.box (aA r) none,ae.box [AV.ref (N+3) 0 2 0 (l.length+1) false,AV.int IntKind.i64 (↑(aM l)*32)] none,ae.row 0 2 fb (List.map aA l++[aA r])]) (.ref (N+3) 0 2 0 (l.length+1) false) 2 fb (l.map aA++[aA r]):=by
  refine⟨λel a=>?_,.inr ⟨N+3,0,by omega,by simp,?_⟩⟩
  ·rcases aeg.1 a with h|h
   ·obtain⟨x,_,rfl⟩:=afq.1 h;rfl
   ·rw[aeh.1 h];rfl
  ·rw[bF m];rfl
 have o:ca (l.map aA++[aA r])=0:=by
  have:=bH (g:=aA) (λ_=>rfl) (l++[r]);rwa[afr]at this
 rw[uR q (Fz.agg (d:=11) (iJ.cons (Fz.mono (Fz.own (d:=0) f (by rw[o];omega)) (by omega)) (iJ.cons (Fz.mono (Fz.low (d:=0) (v:=.int .i64 (↑(aM l)*32)) (by simp[AV.refs])) (by omega)) iJ.nil)))];refine dx ?_ (mw m);have e:eu (l++[r])= .sl (l.map aA++[aA r]) false:=by
  unfold eu;have: (l++[r]).isEmpty=false:=by cases l<;>rfl
  rw[this];simp
 rw[e,Int.natCast_mul];rfl
def Lk(l:List aD)(x:Nat):AV:=.az [.int .i64 ((kR l 0 x).getD 0:Nat),.bool (kR l 0 x).isSome]
theorem ahk(r:aD)(l:List aD)(b x:Nat):kR (r::l) b x=if b<=x/\x<b+r.2*32 then some (r.1*32+x-b)else kR l (b+r.2*32) x:=rfl
def asX(v:AV)(n:Nat)(l:List aD)(T:Rv v 2 (l.map aA))(M:RB l)(x:Nat)(hx:x<1099511627776)(H:List ae)(lo:oN):
  D X0 (.fn (.func 176) [] []) [.agg [v,.int .i64 n],.int .i64 x] ⟨H,lo⟩=some (.ret (Lk l x) ⟨H,lo⟩):=by
 refine aH QE λN F=>?_
 have K:v.refs=0:=dj T (bH (λ_=>rfl) l);have ha:=ahe v n K (N+4) (H++[.box [v,.int .i64 n] none,.box [.int .i64 x] none,.box [.int .i64 0] none,.box [.bool false] none]) (by simp[F]) none;simp only[go_sem,simprocAttr,QE,F,ha];refine wJ (S:=Nat×Bool) (λe=>e 3= .ptr (N+1) 0/\e 4= .ptr (N+2) 0/\e 5= .ptr (N+3) 0) (by simp only[go_sem,simprocAttr]) (xy l) F [.box [v,.int .i64 n] none] (λs=>[.box [v,.int .i64 n] none,.box [.int .i64 x] none,.box [.int .i64 (s.1:Nat)] none,.box [.bool s.2] none]) (nB:=4) (λ_=>rfl) (0,false)
  (λj s=>s=(0,false)/\kR l 0 x=kR (l.drop j) (32*aM (l.take j)) x) (λex s=>ex= .ret/\kR l 0 x=some s.1/\s.2=true) rfl ?_ (by simp) ⟨rfl,by simp[aM]⟩ (λex s h=>?_) ?_ ?_ ?_
 ·exact ahf v n l T M (N+4)
 ·exact⟨.ret,by rw[h.1];rfl,by rw[h.1];rfl,by rw[h.1];rfl⟩
 ·rintro e ⟨e3,I,G⟩ j y s J ⟨rfl,d⟩;have C:j<l.length:=by
   have:=(acW.1 J).1;rwa[FL]at this
  rw[S8 C]at J;cases J;have wF:=M.2 _ (fO C);have hpg:=M.bd j;have A:=Le C;have m:l.drop j=l.getD j default::l.drop (j+1):=by
   rw[amw C,afA,adM C];rfl
  rw[m,ahk]at d;generalize hrg:l.getD j default=r at*;refine⟨rfl,λW n' hn hnl w=>?_⟩;simp only[go_sem,simprocAttr,iG,hn,Lf];refine⟨[.box (aA r) none],rfl,λR q E=>?_⟩;simp only[fD,fC,alX,afs,Nat.reduceAdd]at E;obtain⟨w0,w1,k,u⟩:=E;have f1: ∀L,(R++L)[N+1]?=some (.box [.int .i64 x] none):=λL=>bf w1
  have f2: ∀L,(R++L)[N+2]?=some (.box [.int .i64 (0:Nat)] none):=λL=>bf k
  have f3: ∀L,(R++L)[N+3]?=some (.box [.bool false] none):=λL=>bf u
  by_cases X:32*aM (l.take j)<=x
  ·have g: (x:Int)>=((32*aM (l.take j):Nat):Int):=by omega
   by_cases V:x<32*aM (l.take j)+r.2*32
   ·have t: (x:Int)< ((32*aM (l.take j):Nat):Int)+r.2*32:=by omega
    rw[adG ⟨X,V⟩]at d;have z: (r.1:Int)*32+x- ((32*aM (l.take j):Nat):Int)=((r.1*32+x-32*aM (l.take j):Nat):Int):=by omega
    simp(disch:=omega) only[go_sem,simprocAttr,J9,e3,I,G,f1,f2,f3,q,g,t,z,ad5];refine⟨(r.1*32+x-32*aM (l.take j),true),?_,by omega,λi U B=>?_,d,rfl⟩
    ·simp only[fD,fC,alX,afs,Nat.reduceAdd];refine⟨?_,?_,?_,?_⟩
     ·rw[acT (by omega),acT (by omega)];exact bf w0
     ·rw[acT (by omega),acT (by omega)];exact f1 _
     ·rw[acT (by omega),aed (by simp;omega)]
     ·rw[aed (by simp;omega)]
    ·rw[acT (by omega),acT (by omega),acV (by omega)]
   ·have t: ¬(x:Int)< ((32*aM (l.take j):Nat):Int)+r.2*32:=by omega
    rw[adE (λh=>V h.2)]at d;simp(disch:=omega) only[go_sem,simprocAttr,J9,e3,f1,q,g,t,nZ];refine⟨(0,false),?_,by omega,λi U B=>acV (by omega),rfl,?_⟩
    ·simp only[fD,fC,alX,afs,Nat.reduceAdd];exact⟨bf w0,f1 _,f2 _,f3 _⟩
    ·rw[d,A,Nat.mul_add,Nat.mul_comm 32 r.2]
  ·have g: ¬(x:Int)>=((32*aM (l.take j):Nat):Int):=by omega
   rw[adE (λh=>X h.1)]at d;simp only[go_sem,simprocAttr,J9,e3,f1,q,g,nZ];refine⟨(0,false),?_,by omega,λi U B=>acV (by omega),rfl,?_⟩
   ·simp only[fD,fC,alX,afs,Nat.reduceAdd];exact⟨bf w0,f1 _,f2 _,f3 _⟩
   ·rw[d,A,Nat.mul_add,Nat.mul_comm 32 r.2]
 ·rintro e ⟨e3,I,G⟩ s W p hp ⟨rfl,d⟩ f w Q;simp only[fD,fC,alX,afs,Nat.reduceAdd]at w;obtain⟨w0,w1,k,u⟩:=w;rw[FL,List.drop_length]at d;have e0:kR l 0 x=none:=d;have O: ∀a b c,(((W.set (N+2) a).set (N+3) b).set p c).take N=H:=λa b c=>(((f.set (by omega)).set (by omega)).set (by omega)).take F
  have s2:=de (o:=.box [.int .i64 0] none) k;have Y: ∀a b,((W.set (N+2) a).set (N+3) b)[N+3]?=some b:=λa b=>aed (by rw[afw];exact eg u)
  have s2: ∀a b,((W.set (N+2) a).set (N+3) b)[N+2]?=some a:=λa b=>by rw[acT (by omega)];exact de k
  simp(disch:=omega) only[F1,go_sem,simprocAttr,I,G,k,u,Q,mL,O,s2,Y,Lk,e0]
 ·rintro e ⟨e3,I,G⟩ ex s W p hp ⟨rfl,d,Z⟩ f w Q;simp only[fD,fC,alX,afs,Nat.reduceAdd]at w;obtain⟨w0,w1,k,u⟩:=w;have P: ∀o,(W.set p o).take N=H:=λo=>(f.set (by omega)).take F
  simp(disch:=omega) only[F1,go_sem,simprocAttr,I,G,k,u,Q,mL,P];refine dx ?_ rfl;unfold Lk;rw[d,Z];rfl
def S9(t:au)(M:bN t)(T:cg t)(a b:Nat)(R:a<4294967296)(J:b<4294967296)(H:List ae)(lo:oN):
  D X0 (.fn (.func 295) [] []) [.agg (aN t),.int .u32 a,.int .u32 b] ⟨H,lo⟩=some (.ret (.bool (kN t a b)) ⟨H,lo⟩):=by
 refine aH Fh λN q=>?_
 have A: ∀h,ar t.b h=t.ar h:=λh=>rfl
 have f:=eX t.b a R;have g:=eX t.b b J;simp only[A]at f g;cases y:t.ar a
 ·rw[y]at f;simp only[F1,go_sem,simprocAttr,Fh,q,f,kN,y,ag4]
 ·rw[y]at f;cases z:t.ar b
  ·rw[z]at g;simp only[F1,go_sem,simprocAttr,Fh,q,f,g,kN,y,z,ag4,aqb]
  ·rw[z]at g;have F:=SQ t b (N+3) (H++[.box (aN t) none,.box [.int .u32 a] none,.box [.bool (decide ((a:Int)=b))] none]) (by simp[q]) none;simp only[go_sem,simprocAttr,Fh,q,f,g,F];have E:decide ((a:Int)=(b:Int))=decide (a=b):=afB.2 (by omega);refine wJ (S:=Bool) (λe=>e 4= .ptr (N+1) 0/\e 7= .ptr (N+2) 0) (by simp only[go_sem,simprocAttr]) (nw t b) q [.box (aN t) none,.box [.int .u32 b] none] (λs=>[.box (aN t) none,.box [.int .u32 a] none,.box [.bool s] none]) (nB:=3) (λ_=>rfl) (decide ((a:Int)=b)) (λj s=>s=(decide (a=b)|| ((aU t b).take j).contains a)) (λ_ _=>False) rfl ?_ (by simp) (by simp[E]) (λ_ _ h=>h.elim) ?_ ?_ ?_
   ·exact SR t M T b J (N+3)
   ·rintro e ⟨G,e7⟩ j x s L V;obtain⟨u,rfl,hu⟩:=SX L;refine⟨rfl,λW n Z P B=>?_⟩;simp only[go_sem,simprocAttr,iG];refine⟨[],by simp,λK l w=>?_⟩;simp only[fD,fC,alX,afs,Nat.reduceAdd]at w;obtain⟨w0,w1,m⟩:=w;have d: (decide (a=b)|| ((aU t b).take (j+1)).contains a)=(s||decide ((u:Int)=a)):=by
     rw[V,agR,hu];have:decide ((u:Int)=a)=decide (a=u):=afB.2 (by omega);rw[this];by_cases Y:a=b<;>by_cases X:a=u<;>simp[Y,X]
    have k: ∀s',(K.set (N+2) (.box [.bool s'] none)).length=n->iK (K.set (N+2) (.box [.bool s'] none)) N 0 [.box (aN t) none,.box [.int .u32 a] none,.box [.bool s'] none]:=λs' hl=>by
     simp only[fD,fC,alX,afs,Nat.reduceAdd];exact⟨by rw[acT (by omega)];exact w0,by rw[acT (by omega)];exact w1,de m⟩
    cases s
    ·by_cases c: (u:Int)=a
     ·simp only[go_sem,simprocAttr,Kz,G,e7,w1,m,agT,nZ,c];exact⟨_,k _ (by rw[afw];exact l),λi I v=>acT (by omega),by rw[d];simp[c]⟩
     ·simp only[go_sem,simprocAttr,Kz,G,e7,w1,m,agT,nZ,c];exact⟨_,k _ (by rw[afw];exact l),λi I v=>acT (by omega),by rw[d];simp[c]⟩
    ·simp only[go_sem,simprocAttr,Kz,e7,m,agT,nZ];exact⟨_,k _ (by rw[afw];exact l),λi I v=>acT (by omega),by rw[d];simp⟩
   ·rintro e ⟨G,e7⟩ s W p O rfl r B Q;simp only[fD,fC,alX,afs,Nat.reduceAdd]at B;obtain⟨w0,w1,m⟩:=B;have C: ∀o,(W.set p o).take N=H:=λo=>(r.set (by omega)).take q
    simp only[F1,go_sem,simprocAttr,e7,m,Q,mL,C];rw[SY,aft];refine dx (ag3 _ ?_) rfl;unfold kN;rw[y,z];rfl
   ·rintro e he ex s W p O U;exact U.elim
def ud(t:au)(h:Nat)(r:cP):AV:=.az [.agg (aN (ew t h r).1),.int .i64 (ew t h r).2]
def Ta(t:au)(u:bN t)(h:Nat)(o:h<4294967296)(r:cP)(q:RB r.runs)(s:r.runs.length<=65)(k:r.len<4294967296)(H:List ae)(lo:oN):
  D X0 (.fn (.func 290) [] []) [.agg (aN t),.int .u32 h,.agg (bM r)] ⟨H,lo⟩=some (.ret (ud t h r) ⟨H,lo⟩):=by
 refine aH BT λN i=>?_
 have n:=vz h;have l: (aI h:Int)<32:=by omega
 have p:jo h= .az [.int .i64 (aI h:Nat),.bool (fe h).isSome]:=rfl;have a:=eX t.b h o;have m:ar t.b h=t.ar h:=rfl;simp only[m]at a;have hm:=ahh (eu r.runs) r.len r.runs k (mD _) q s;have d:ew t h r=if t.ar h=false then(t,4)else if 64<r.cZ\/pM r.runs r.len=false then(t,2)else({t with r:=ao t.r (aI h) {r with up:=(t.r (aI h)).up}},0):=rfl
 cases g:t.ar h with
 |false=>
  rw[g]at a;have e:ew t h r=(t,4):=by rw[d,adG g]
  simp only[F1,go_sem,simprocAttr,BT,i,a,dc,ud,e]
 |true=>
  rw[g]at a;rw[adE (by rw[g];simp)]at d;have j:=zL r.cZ;by_cases f:r.cZ<=64
  ·have c:decide (r.cZ<=64)=true:=aec f;cases b:pM r.runs r.len with
   |false=>
    rw[adG (.inr b)]at d;simp only[F1,go_sem,simprocAttr,BT,i,a,dc,j,c,hm,b,ud,d]
   |true=>
    rw[adE (by rw[b];simp;omega)]at d;simp only[F1,go_sem,simprocAttr,BT,i,a,dc,j,c,hm,b,ud,d,kc h o,p,l,Sk n,are,KQ n];omega
  ·have c:decide (r.cZ<=64)=false:=adO f;rw[adG (.inl (by omega))]at d;simp only[F1,go_sem,simprocAttr,BT,i,a,dc,j,c,ud,d]
def vL(t:au)(h u:Nat):AV:=.az [.agg (aN (jA t h u).1),.int .i64 (jA t h u).2]
def ahm(t:au)(Z:bN t)(hT:cg t)(h w:Nat)(S:h<4294967296)(Y:w<4294967296)(H:List ae)(lo:oN):
  D X0 (.fn (.func 297) [] []) [.agg (aN t),.int .u32 h,.int .u32 w] ⟨H,lo⟩=some (.ret (vL t h w) ⟨H,lo⟩):=by
 refine aH BU λN F=>?_
 have X:=vz h;have B: (aI h:Int)<32:=by omega
 have W:jo h= .az [.int .i64 (aI h:Nat),.bool (fe h).isSome]:=rfl;have b:=eX t.b h S;have g:=eX t.b w Y;have T: ∀h,ar t.b h=t.ar h:=λh=>rfl
 simp only[T]at b g;have j:jA t h w=if t.ar h=false\/ (w≠0/\t.ar w=false)then(t,4)else if w≠0/\h∈w::aU t w then(t,12)else({t with r:=ao t.r (aI h) {t.r (aI h)with up:=w}},0):=rfl
 cases E:t.ar h with
 |false=>
  rw[E]at b;rw[adG (.inl E)]at j;simp only[F1,go_sem,simprocAttr,BU,F,b,dc,vL,j]
 |true=>
  rw[E]at b;by_cases c:w≠0/\t.ar w=false
  ·rw[adG (.inr c)]at j;rw[c.2]at g;have y: ¬(w:Int)=0:=by omega
   simp only[F1,go_sem,simprocAttr,BU,F,b,g,y,dc,vL,j]
  ·rw[adE (by rw[E];simpa using c)]at j;have i:w=0\/ (¬(w:Int)=0/\t.ar w=true):=by
    by_cases l:w=0
    ·exact .inl l
    ·refine .inr ⟨by omega,?_⟩;cases I:t.ar w
     ·exact absurd ⟨l,I⟩ c
     ·rfl
   obtain⟨L,V⟩: ∃L,L=if w=0 then[]else w::aU t w:=⟨_,rfl⟩
   have o: (w≠0/\h∈w::aU t w)↔h∈L:=by
    rw[V];by_cases l:w=0
    ·simp[l]
    ·rw[adE l];exact⟨λq=>q.2,λq=>⟨l,q⟩⟩
   have key: ∀Q:bR,(∀e:Env,e 1= .int .u32 h->e 2= .int .u32 w->e 3= .ptr N 0->e 6= .ptr (N+1) 0->h∉L->Q (.exit 0) ⟨e,[]⟩ ⟨H++[.box (aN t) none,.box ld none],none⟩)->
     (∀e:Env,e 6= .ptr (N+1) 0->e 7= .int .i64 12->h∈L->Q .ret ⟨e,[]⟩ ⟨H++[.box (aN t) none,.box (aN t) none],none⟩)->
     ∀e:Env,e 1= .int .u32 h/\e 2= .int .u32 w/\e 3= .ptr N 0/\e 6= .ptr (N+1) 0/\e 8= .int .u32 w->wp X0 297 false (PC.loop Fi) ⟨e,[]⟩ ⟨H++[.box (aN t) none,.box ld none],none⟩ Q:=by
    rintro Q I hr e ⟨e1,p,e3,e6,e8⟩;refine eN L.length (λk e H'=>H'=H++[.box (aN t) none,.box ld none]/\e 1= .int .u32 h/\e 2= .int .u32 w/\e 3= .ptr N 0/\e 6= .ptr (N+1) 0/\ ∃x,e 8= .int .u32 (x:Nat)/\ (if x=0 then[]else x::aU t x)=L.drop k/\ (x≠0->t.ar x=true)/\h∉L.take k) 0 (by omega) ?_ ?_
    ·refine⟨rfl,e1,p,e3,e6,w,e8,by rw[V];simp,λl=>?_,by simp⟩;rcases i with rfl|q
     ·exact absurd rfl l
     ·exact q.2
    rintro k hk e H' ⟨rfl,e1,p,e3,e6,x,e8,z,m,a⟩ n hn;by_cases s:x=0
    ·subst s;have P:L.take k=L:=by
      have:=ag3 List.length z;rw[adG rfl,al3]at this;exact adP (by simp at this;omega)
     rw[P]at a;simp only[go_sem,simprocAttr,Fi,e8];exact I _ (by simp only[go_sem,simprocAttr,e1]) (by simp only[go_sem,simprocAttr,p]) (by simp only[go_sem,simprocAttr,e3]) (by simp only[go_sem,simprocAttr,e6]) a
    ·have A: ¬(x:Int)=0:=by omega
     have m:=m s;rw[adE s]at z;have O:k<L.length:=by
      have:=ag3 List.length z;rw[al3,afx]at this;omega
     have M:L.take (k+1)=L.take k++[x]:=by
      rw[agR];have:L[k]?=(L.drop k)[0]?:=by rw[akX];rfl
      rw[this,<-z];rfl
     by_cases G:x=h
     ·have f: (x:Int)=h:=by omega
      have d:h∈L:=by
       rw[<-akP k L,<-z,G];simp
      have R: ¬(h:Int)=0:=by omega
      simp(disch:=omega) only[go_sem,simprocAttr,Fi,e1,e3,e6,e8,f,R,dc];exact hr _ (by simp only[go_sem,simprocAttr,e6]) (by simp only[go_sem,simprocAttr]) d
     ·have f: ¬(x:Int)=h:=by omega
      have J:=agC t Z x (fV m);have v:bq t x=iP t (aI x):=by unfold bq;rw[adG m]
      have U:=pP hT x;simp(disch:=omega) only[go_sem,simprocAttr,Fi,e1,p,e3,e6,e8,A,f,J];refine⟨O,iP t (aI x),rfl,?_,λl=>?_,?_⟩
      ·rw[<-v,<-aor,<-z,apJ,amv,U]
      ·exact(B1 (by rw[v];exact l)).1 ▸ (by rw[v])
      ·rw[M];simp[a];omega
   rcases i with rfl| ⟨y,C⟩
   ·rw[adE (by simp)]at j;simp only[go_sem,simprocAttr,BU,F,b];refine key _ ?_ ?_ _ (by simp only[go_sem,simprocAttr])
    ·intro e e1 p e3 e6 _;have K:aO (aN t) (96+aI h*12) [.int .u32 0]=aN {t with r:=ao t.r (aI h) {t.r (aI h)with up:=0}}:=af1 (u:=0) X;simp(disch:=omega) only[F1,go_sem,simprocAttr,e1,p,e3,e6,kc h S,W,B,K,dc,vL,j];omega
    ·intro e e6 e7 d;rw[V]at d;simp at d
   ·rw[C]at g;simp only[go_sem,simprocAttr,BU,F,b,g,y];refine key _ ?_ ?_ _ (by simp only[go_sem,simprocAttr])
    ·intro e e1 p e3 e6 a;rw[adE (λq=>a (o.1 q))]at j;simp(disch:=omega) only[F1,go_sem,simprocAttr,e1,p,e3,e6,kc h S,W,B,af1 X,dc,vL,j];omega
    ·intro e e6 e7 d;rw[adG (o.2 d)]at j;simp(disch:=omega) only[F1,go_sem,simprocAttr,e6,e7,vL,j]
def zU(t:au)(a n:Nat):AV:=.az [.agg (aN (fh t a n).1),.int .u32 (fh t a n).2.1,.int .i64 (fh t a n).2.2]
def asY(t:au)(k:bN t)(m:cg t)(a n:Nat)(j:a<4294967296)(H:List ae)(lo:oN):
  D X0 (.fn (.func 247) [] []) [.agg (aN t),.int .u32 a,.int .i64 n] ⟨H,lo⟩=some (.ret (zU t a n) ⟨H,lo⟩):=by
 refine aH zr λN f=>?_
 have e:=arK t k a n j;have g:=La t k m a j;have d:fh t a n=if((ka t a n).2.2=0\/ (ka t a n).2.2=7)/\6<=depth t a then(t,0,8)else ka t a n:=rfl
 by_cases i: (ka t a n).2.2=0\/ (ka t a n).2.2=7
 ·by_cases l:6<=depth t a
  ·rw[adG ⟨i,l⟩]at d;have b: (depth t a:Int)>=6:=by omega
   rcases i with c|c
   ·simp only[F1,go_sem,simprocAttr,zr,f,e,zM,c,g,b,dc,zU,d]
   ·simp only[F1,go_sem,simprocAttr,zr,f,e,zM,c,g,b,dc,zU,d]
  ·rw[adE (λh=>l h.2)]at d;have b: ¬(depth t a:Int)>=6:=by omega
   rcases i with c|c
   ·simp only[F1,go_sem,simprocAttr,zr,f,e,zM,c,g,b,dc,zU,d]
   ·simp only[F1,go_sem,simprocAttr,zr,f,e,zM,c,g,b,dc,zU,d]
 ·rw[adE (λh=>i h.1)]at d;have p: ¬((ka t a n).2.2:Int)=0:=by omega
  have o: ¬((ka t a n).2.2:Int)=7:=by omega
  simp only[F1,go_sem,simprocAttr,zr,f,e,zM,p,o,dc,zU,d]
theorem ahn:Ext X4 X where
 dR:=rfl
 gl:=rfl
 code:=rfl
 bW:=λf=>by
  show(if f=56 then some me else if f=19 then some mM else if f=193 then some qa else if f=190 then some rK else if f=188 then some xx else if f=182 then some zS else if f=167 then some Ca else none)=(if f=56 then some me else if f=19 then some mM else if f=193 then some qa else if f=190 then some rK else none)\/_;by_cases i:f=56
  ·grind
  by_cases h:f=19
  ·grind
  by_cases d:f=193
  ·grind
  by_cases c:f=190
  ·grind
  by_cases j:kL.contains f=true
  ·right
   refine⟨?_,?_⟩
   ·show(if f=56 then some me else if f=19 then some mM else if f=193 then some qa else if f=190 then some rK else none)=none
    grind
   ·show(if kL.contains f then none else zt.lookup f)=none
    grind
  ·left
   have a:kL.contains f=false:=by grind
   have e: ∀g,kL.contains g=true->f≠g:=λg b=>iS a b
   simp only[adE i,adE h,adE d,adE c,adE (e 188 rfl),adE (e 182 rfl),adE (e 167 rfl)]
theorem Tb: ∀ {l:List aD},(∀x∈l,1<=x.2)->l.length<=aM l
 | [],_=>by simp
 |x::xs,h=>by
  have c:=h x (afG ..);have b:=Tb (l:=xs) λy a=>h y (afv _ a)
  simp only[aM,aiQ,List.sum_cons,afx]at b⊢;omega
def gA.rb{r:cP}(h:gA r):RB r.runs/\r.runs.length<=64:=by
 have c:=Tb λx a=>(h.runs x a).1
 have b:=h.aM;refine⟨⟨by omega,λx a=>?_⟩,by omega⟩;have:=h.runs x a;omega
def gA.Ll{r:cP}(h:gA r)(a:x<4294967296):gA {r with up:=x}:=⟨a,h.cZ,h.len,h.cells,h.runs,h.aM⟩
def gA.setCells{r:cP}(h:gA r){f:Nat->Nat}(a: ∀i,f i<4294967296):gA {r with cells:=f}:=⟨h.up,h.cZ,h.len,a,h.runs,h.aM⟩
def Cc:gA cU:=⟨by trivial,by trivial,by trivial,by simp[cU],by trivial,by trivial⟩
def bN.get{t:au}(a:bN t)(h:Nat):gA (aG t h).1:=by
 unfold aG;split
 ·exact(a.r _).Ll agu
 ·exact Cc
theorem bN.ao{t:au}(a:bN t){i:Nat}{r:cP}(b:gA r):bN {t with r:=ao t.r i r}:=⟨a.b,λj=>by
 show gA (Go.Proofs.YteplichagkpciaaGreatDoor.ao t.r i r j);by_cases e:j=i
 ·rw[e,bS];exact b
 ·rw[bT e];exact a.r j⟩
def bN.set{t:au}(a:bN t){r:cP}(b:gA r):bN (ew t h r).1:=by
 unfold ew;split
 ·omega
 ·split
  ·omega
  ·exact a.ao (b.Ll (a.r _).up)
def bN.raise{t:au}(a:bN t)(b:x<4294967296):bN (jA t h x).1:=by
 unfold jA;split
 ·omega
 ·split
  ·omega
  ·exact a.ao ((a.r _).Ll b)
def iT(t t':au):Prop:=t'.b=t.b/\ ∀i,(t'.r i).up=(t.r i).up
theorem iT.refl(t:au):iT t t:=⟨rfl,λ_=>rfl⟩
theorem iT.trans{a b c:au}(e:iT a b)(d:iT b c):iT a c:=⟨d.1.trans e.1,λi=>(d.2 i).trans (e.2 i)⟩
theorem iT.ar{t t':au}(h:iT t t')(x:Nat):t'.ar x=t.ar x:=by unfold au.ar;rw[h.1]
theorem iT.bq{t t':au}(h:iT t t')(x:Nat):bq t' x=Go.Proofs.YteplichagkpciaaGreatDoor.bq t x:=by
 unfold Go.Proofs.YteplichagkpciaaGreatDoor.bq iP;simp only[h.ar,h.2]
theorem iT.eU{t t':au}(h:iT t t'): ∀n x,eU t' n x=Go.Proofs.YteplichagkpciaaGreatDoor.eU t n x
 |0,_=>rfl
 |n+1,x=>by simp only[Go.Proofs.YteplichagkpciaaGreatDoor.eU,h.bq,h.eU n]
theorem iT.aU{t t':au}(h:iT t t')(x:Nat):aU t' x=Go.Proofs.YteplichagkpciaaGreatDoor.aU t x:=h.eU 32 x
def iT.tree{t t':au}(h:iT t t')(a:cg t):cg t':=λx=>by rw[h.aU];exact a x
def iT.set(t:au)(h:Nat)(r:cP):iT t (ew t h r).1:=by
 unfold ew;split
 ·exact .refl t
 ·split
  ·exact .refl t
  ·refine⟨rfl,λi=>?_⟩;show(ao t.r (aI h) _ i).up=_;by_cases e:i=aI h
   ·rw[e,bS]
   ·rw[bT e]
def asZ{t:au}(c:cg t)(a:x∈db t h):dep t h<=dep t x:=by
 have key: ∀n h,x∈iQ t n h->dep t h<=dep t x:=by
  intro n
  induction n with
  |zero=>intro h a;rw[iQ,aeh]at a;grind
  |succ n b=>
   intro h a;rcases afJ.1 a with rfl|a
   ·simp
   ·grind [B2]
 exact key 32 h a
def Tc{t:au}(a:t.ar h=true):depth t h=1+dep t h:=by unfold depth;rw[adG a];rfl
def as0{t0 t:au}(a:bN t)(h x:Nat):bN (vu t0 h t x):=by
 refine a.set (gA.setCells (a.get x) λi=>?_);have:=(a.get x).cells i
 grind
def as1(t0 t:au)(h x:Nat):iT t (vu t0 h t x):=iT.set _ _ _
def xA(t0:au)(h:Nat)(t:au)(l:lN):au:=l.foldl (vu t0 h) t
def Td{t0 t:au}(a:bN t)(h:Nat): ∀l,bN (xA t0 h t l):=by
 intro l
 induction l generalizing t with
 |nil=>exact a
 |cons x xs b=>exact b (as0 a h x)
theorem Lm(t0:au)(h:Nat): ∀ (l:lN) (t:au),iT t (xA t0 h t l)
 | [],t=>.refl t
 |x::xs,t=>(as1 t0 t h x).trans (Lm t0 h xs _)
def as2{t0 t:au}{l:lN}{k:Nat}(a:l[k]?=some x):xA t0 h t (l.take (k+1))=vu t0 h (xA t0 h t (l.take k)) x:=by
 unfold xA;rw[agR,a,amu];rfl
theorem Ln(t:au)(h:Nat):iv t h=if t.ar h=false then(t,4)else jA (xA t h t (db t h)) h 0:=rfl
def aho{t:au}{x:lA}(a: (rN t h)[j]?=some x): ∃y,x=[.int .u32 (y:Nat)]/\ (db t h)[j]?=some y:=by
 unfold rN at a;rw[afE,afn]at a;obtain⟨y,b,rfl⟩:=a;exact⟨y,rfl,b⟩
def as3{t:au}(a:cg t)(h:Nat):depth t h<=6:=by
 unfold depth;split
 ·have:=a h;omega
 ·omega
theorem ahp{f:Nat->Nat}{c:Nat}: ∀ (l:lN) (s:Nat),(∀x∈l,f x<=c)->s<=c->l.foldl (λn x=>max n (f x)) s<=c
 | [],s,_,a=>a
 |x::xs,s,d,a=>ahp xs _ (λy b=>d y (afv _ b)) (by grind)
def as4{t:au}(a:cg t)(h:Nat):sT t h<=7:=by
 exact ahp (f:=λx=>depth t x-depth t h+1) _ _ (λx _=>by have:=as3 a x;omega) (by omega)
def as5(t:au)(m:bN t)(k:cg t)(h:Nat)(a:t.ar h=true)(H:List ae)(lo:oN):
  D X (.fn (.func 296) [] []) [.agg (aN t),.int .u32 h] ⟨H,lo⟩=some (.ret (.int .i64 (sT t h:Nat)) ⟨H,lo⟩):=by
 refine aH Rr λN q=>?_
 have K:=up dC (S2 t h (N+3) (H++[.box (aN t) none,.box [.int .u32 h] none,.box [.int .i64 0] none]) (by simp[q]) none);simp only[go_sem,simprocAttr,Rr,q,K];refine wJ (S:=Nat) (λe=>e 2= .ptr N 0/\e 3= .ptr (N+1) 0/\e 5= .ptr (N+2) 0) (by simp only[go_sem,simprocAttr]) (rN t h) q [.box (aN t) none,.box [.int .u32 h] none] (λs=>[.box (aN t) none,.box [.int .u32 h] none,.box [.int .i64 (s:Nat)] none]) (nB:=3) (λ_=>rfl) 0
  (λj s=>s=((db t h).take j).foldl (λn x=>max n (depth t x-depth t h+1)) 0/\s<=100) (λ_ _=>False) rfl ?_ (by simp) ⟨rfl,by omega⟩ (λ_ _ h=>h.elim) ?_ ?_ ?_
 ·exact S4 ahn t m k h a (N+3)
 ·rintro e ⟨A,e3,w⟩ j x s B ⟨E,C⟩;obtain⟨y,rfl,z⟩:=aho B;have c:y∈db t h:=alp z;have f:=zF m.b a c;have I:=asZ k c;have M:=k y;have U:=Tc f;have T:=Tc a;have R:dep t y<=5:=M;have b:=λH lo=>up dC (La t m k y (fV f) H lo)
  have v:=λH lo=>up dC (La t m k h (fV a) H lo)
  refine⟨rfl,λW n P F u=>?_⟩;simp only[go_sem,simprocAttr,iG];refine⟨[],by simp,λV L g=>?_⟩;simp only[fD,fC,alX,afs,Nat.reduceAdd]at g;obtain⟨w0,w1,l⟩:=g;have r:max (s:Int) ((depth t y:Int)-depth t h+1)=((max s (depth t y-depth t h+1):Nat):Int):=by omega
  simp(disch:=omega) only[go_sem,simprocAttr,afc,A,e3,w,w0,w1,l,b,v,Og,Of,r,nZ];refine⟨max s (depth t y-depth t h+1),?_,λi Q G=>acT (by omega),?_,?_⟩
  ·simp only[fD,fC,alX,afs,Nat.reduceAdd];exact⟨by rw[acT (by omega)];exact w0,by rw[acT (by omega)];exact w1,de l⟩
  ·rw[agR,z,amu,<-E];rfl
  ·omega
 ·rintro e ⟨A,e3,w⟩ s W p O ⟨rfl,_⟩ d u J;simp only[fD,fC,alX,afs,Nat.reduceAdd]at u;obtain⟨w0,w1,l⟩:=u;have b: ∀o,(W.set p o).take N=H:=λo=>(d.set (by omega)).take q
  simp only[F1,go_sem,simprocAttr,w,l,J,mL,b];rw[S3,aft];rfl
 grind
def xB(t:au)(h w:Nat):AV:=.az [.agg (aN (mF t h w).1),.int .i64 (mF t h w).2]
def as6(t:au)(k:bN t)(f:cg t)(h w:Nat)(q:h<4294967296)(p:w<4294967296)(H:List ae)(lo:oN):
  D X (.fn (.func 261) [] []) [.agg (aN t),.int .u32 h,.int .u32 w] ⟨H,lo⟩=some (.ret (xB t h w) ⟨H,lo⟩):=by
 refine aH xe λN i=>?_
 have a:=λH lo=>up dC (eX t.b h q H lo)
 have b:=λH lo=>up dC (eX t.b w p H lo)
 have v: ∀h,ar t.b h=t.ar h:=λh=>rfl
 simp only[v]at a b;have c:mF t h w=if t.ar h=false\/t.ar w=false then(t,4)else if root t h≠h\/kN t h w then(t,12)else if 6<depth t w+sT t h then(t,8)else jA t h w:=rfl
 have d:=λH lo=>up dC (zR t k f h q H lo)
 have e:=λH lo=>up dC (S9 t k f h w q p H lo)
 have l:=λH lo=>up dC (La t k f w p H lo)
 have u:=λH lo=>up dC (ahm t k f h w q p H lo)
 cases n:t.ar h with
 |false=>
  rw[n]at a;rw[adG (.inl n)]at c;simp only[F1,go_sem,simprocAttr,xe,i,a,dc,xB,c]
 |true=>
  rw[n]at a;have j:=as5 t k f h n;cases m:t.ar w with
  |false=>
   rw[m]at b;rw[adG (.inr m)]at c;simp only[F1,go_sem,simprocAttr,xe,i,a,b,dc,xB,c]
  |true=>
   rw[m]at b;rw[adE (by rw[n,m];simp)]at c;by_cases s:root t h=h
   ·have o: ((root t h:Nat):Int)=(h:Nat):=by omega
    cases r:kN t h w with
    |true=>
     rw[adG (.inr r)]at c;rw[r]at e;rw[s]at d;simp only[F1,go_sem,simprocAttr,xe,i,a,b,d,e,dc,xB,c]
    |false=>
     rw[adE (by rw[r];simp[s])]at c;rw[r]at e;rw[s]at d;have y:sT t h<=7:=as4 f h;have z:depth t w<=100:=by
      have:=f w;rw[Tc m];show 1+(aU t w).length<=100;omega
     by_cases x:6<depth t w+sT t h
     ·have g: (depth t w:Int)+sT t h>6:=by omega
      rw[adG x]at c;simp(disch:=omega) only[F1,go_sem,simprocAttr,xe,i,a,b,d,e,l,j,g,dc,xB,c]
     ·have g: ¬(depth t w:Int)+sT t h>6:=by omega
      rw[adE x]at c;simp(disch:=omega) only[F1,go_sem,simprocAttr,xe,i,a,b,d,e,l,j,g,u,vL,dc,xB,c]
   ·have o: ¬((root t h:Nat):Int)=(h:Nat):=by omega
    rw[adG (.inl s)]at c;simp only[F1,go_sem,simprocAttr,xe,i,a,b,d,o,dc,xB,c]
def vN(t:au)(h c:Nat):Bool:=decide (c≠h)&&kN t c h
def as7(t:au)(i:bN t)(l:cg t)(h c:Nat)(j:h<4294967296)(k:c<4294967296)(g f:Nat)(H:List ae)(b:H[f]?=some (.box (aN t) none))(a:H[g]?=some (.box [.int .u32 h] none))(lo:oN):
  D X (.fn (.func 326) [] [.ptr g 0,.ptr f 0]) [.int .u32 c] ⟨H,lo⟩=some (.ret (.bool (vN t h c)) ⟨H,lo⟩):=by
 refine fJ KE λN n=>?_
 have d:=λH lo=>up dC (S9 t i l c h k j H lo)
 by_cases e:c=h
 ·simp(disch:=omega) only[F1,go_sem,simprocAttr,KE,a,vN,e,not_true,dF,ag4]
 ·have m: ¬(c:Int)=h:=by omega
  simp(disch:=omega) only[F1,go_sem,simprocAttr,KE,b,a,m,d,vN,e]
def ue(t:au)(h:Nat)(f:Nat->Nat)(k:Nat):Nat->Nat:=λi=>if i<k/\vN t h (f i)=true then 0 else f i
theorem FN{t:au}{f:Nat->Nat}{k:Nat}:ue t h f k i=if i<k/\vN t h (f i)=true then 0 else f i:=rfl
def as8(t:au)(h:Nat)(f:Nat->Nat)(k:Nat):ue t h f (k+1)=if vN t h (f k)=true then ao (ue t h f k) k 0 else ue t h f k:=by
 funext i
 by_cases a:vN t h (f k)=true
 ·by_cases e:i=k
  ·simp_all[bS,FN,adG]
  ·grind [bT,FN]
 ·rw[adE a,FN,FN]
  grind
def as9(t:au)(h:Nat)(r:cP):bM {r with cells:=ue t h r.cells 8}=bM {r with cells:=λi=>if r.cells i≠h/\kN t (r.cells i) h then 0 else r.cells i}:=by
 refine afR (Fo λi a=>?_);simp only[ue,vN,a,ayz]
 grind
def Lo(t:au)(h:Nat):AV:=.az [.agg (aN (iv t h).1),.int .i64 (iv t h).2]
def ata(t:au)(I:bN t)(hT:cg t)(h:Nat)(hh:h<4294967296)(H:List ae)(lo:oN):
  D X (.fn (.func 294) [] []) [.agg (aN t),.int .u32 h] ⟨H,lo⟩=some (.ret (Lo t h) ⟨H,lo⟩):=by
 refine aH Ky λN U=>?_
 have q:=λH lo=>up dC (eX t.b h hh H lo)
 have hgg: ∀h,ar t.b h=t.ar h:=λh=>rfl
 simp only[hgg]at q;cases d:t.ar h with
 |false=>
  rw[d]at q;have Z:iv t h=(t,4):=by rw[Ln,adG d]
  simp only[F1,go_sem,simprocAttr,Ky,U,q,dc,Lo,Z]
 |true=>
  rw[d]at q;have Z:iv t h=jA (xA t h t (db t h)) h 0:=by rw[Ln,adE (by rw[d];simp)]
  have ha:=up dC (S2 t h (N+5) (H++[.box (aN t) none,.box [.int .u32 h] none,.box ld none,.box [.fn (.func 326) [] [.ptr (N+1) 0,.ptr N 0]] none,.box (aN t) none]) (by simp[U]) none);have hmx:max (N+1+1) (N+1)<=N+3+1:=by omega
  simp only[go_sem,simprocAttr,Ky,U,q,dc,ha,hmx];refine wJ (S:=au) (λe=>e 3= .ptr (N+1) 0/\e 4= .ptr (N+2) 0/\e 6= .ptr (N+3) 0/\e 7= .ptr (N+4) 0) (by simp only[go_sem,simprocAttr]) (rN t h) U [.box (aN t) none,.box [.int .u32 h] none] (λs=>[.box (aN t) none,.box [.int .u32 h] none,.box ld none,.box [.fn (.func 326) [] [.ptr (N+1) 0,.ptr N 0]] none,.box (aN s) none]) (nB:=5) (λ_=>rfl) t
   (λj s=>s=xA t h t ((db t h).take j)) (λ_ _=>False) rfl ?_ (by simp) rfl (λ_ _ h=>h.elim) ?_ ?_ ?_
  ·exact S4 ahn t I hT h d (N+5)
  ·rintro e ⟨e3,e4,e6,e7⟩ j x s hx A;obtain⟨y,rfl,hy⟩:=aho hx;have hym:y∈db t h:=alp hy;have P:=zF I.b d hym;have J:=as2 (t0:=t) (t:=t) (h:=h) hy;have b:bN s:=by rw[A];exact Td I h _
   rw[<-A]at J;have Q:=λH lo=>up dC (ua s b y (fV P) H lo)
   have B:=b.get y;have c:vu t h s y=(ew s y {(aG s y).1 with cells:=λi=>if(aG s y).1.cells i≠h/\kN t ((aG s y).1.cells i) h then 0 else(aG s y).1.cells i}).1:=rfl;generalize hr: (aG s y).1=r at*;have g:gA {r with cells:=λi=>if r.cells i≠h/\kN t (r.cells i) h then 0 else r.cells i}:=gA.setCells B λi=>by
    have:=B.cells i;show(if _ then _ else _)<_;split<;>omega
   have K:=λH lo=>up dC (Ta s b y (fV P) _ g.rb.1 (by have:=g.rb.2;omega) (by have:=g.len;omega) H lo)
   refine⟨rfl,λW n hn hnl hg=>?_⟩;simp only[go_sem,simprocAttr,iG];refine⟨[],by simp,λG T R=>?_⟩;simp only[fD,fC,alX,afs,Nat.reduceAdd]at R;obtain⟨w0,w1,Y,w3,V⟩:=R;have f0: ∀L,(G++L)[N]?=_:=λL=>bf w0
   have f1: ∀L,(G++L)[N+1]?=_:=λL=>bf w1
   have f3: ∀L,(G++L)[N+3]?=_:=λL=>bf w3
   have f4: ∀L,(G++L)[N+4]?=_:=λL=>bf V
   have hpc:Den.part true 8 (bM r) 4=_:=KO (r:=r);simp only[go_sem,simprocAttr,afb,e7,V,Q,mc,hr,jU,T,hpc,agT];refine eN 8 (λk C H'=>H'=G++[.box (bM {r with cells:=ue t h r.cells k}) none]/\C 6= .ptr (N+3) 0/\C 7= .ptr (N+4) 0/\C 8= .int .u32 y/\C 9= .ptr n 0/\C 33= .agg (arr 8 λi=>[.int .u32 (r.cells i)])/\C 34= .int .i64 k) 0 (by omega) ?_ ?_
   ·simp only[go_sem,simprocAttr,e6,e7];have:ue t h r.cells 0=r.cells:=by funext i;rw[FN,adE (by omega)]
    rw[this]
   ·rintro k hk C H' ⟨rfl,a6,a7,a8,a9,F,E⟩ n' G8;simp only[cb,go_sem,simprocAttr,afa,a7,F,E];refine⟨λhc=>?_,λhc=>?_⟩
    ·have l:k<8:=by omega
     have w:qB false 8 1 (.agg (arr 8 λi=>[AV.int .u32 (r.cells i)])) (.int .i64 (k:Nat))=some (.int .u32 (r.cells k)):=
      R9 l (by have:=kM (ag:=false) (m:=1) (n:=8) (k:=1) (i:=k) (o:=0) (f:=λi=>[AV.int .u32 (r.cells i)]) (λ_=>rfl) l (by omega) (by omega);rw[afs]at this;rw[this];rfl)
     have v:=as7 t I hT h (r.cells k) hh (B.cells k) (N+1) N (G++[.box (bM {r with cells:=ue t h r.cells k}) none]) (f0 _) (f1 _) none;have c:=as8 t h r.cells k;cases ho:vN t h (r.cells k)
     ·rw[ho]at c v;rw[adE (by simp)]at c;simp(disch:=omega) only[go_sem,simprocAttr,a6,a7,a8,a9,F,E,w,f3,v];rw[c];exact⟨l,rfl⟩
     ·rw[ho]at c v;rw[adG rfl]at c;simp(disch:=omega) only[go_sem,simprocAttr,a6,a7,a8,a9,F,E,w,f3,v];have Lp:=af2 (r:={r with cells:=ue t h r.cells k}) (u:=0) l;rw[c];exact⟨by omega,by omega,l,ag3 (λz=>G++[ae.box z none]) Lp⟩
    ·obtain rfl:k=8:=by omega
     have Te:=as9 t h r;simp only[go_sem,simprocAttr,a7,a8,a9,f4,Te,K,ud,nZ,T];have hE:List.drop 480 (aN s)=[]:=ag5 (by rw[iO];omega);rw[hE,agT];refine⟨vu t h s y,?_,by omega,λi hi Hk=>?_,J.symm⟩
     ·simp only[fD,fC,alX,afs,Nat.reduceAdd];refine⟨?_,?_,?_,?_,?_⟩
      ·rw[acT (by omega)];exact f0 _
      ·rw[acT (by omega)];exact f1 _
      ·rw[acT (by omega)];exact bf Y
      ·rw[acT (by omega)];exact f3 _
      ·rw[c];exact de (f4 _)
     ·rw[acT (by omega),acV (by omega)]
  ·rintro e ⟨e3,e4,e6,e7⟩ s W p hp A O hg hd;simp only[fD,fC,alX,afs,Nat.reduceAdd]at hg;obtain⟨w0,w1,Y,w3,V⟩:=hg;rw[S3,aft]at A;have b:bN s:=by rw[A];exact Td I h _
   have hsT:cg s:=by rw[A];exact(Lm t h _ t).tree hT
   have S5:=λH lo=>up dC (ahm s b hsT h 0 hh (by omega) H lo)
   rw[<-A]at Z;have OC: ∀a o,((W.set (N+2) a).set p o).take N=H:=λa o=>((O.set (by omega)).set (by omega)).take U
   have M: ∀H lo,D X (.fn (.func 297) [] []) [.agg (aN s),.int .u32 h,.int .u32 0] ⟨H,lo⟩=some (.ret (vL s h 0) ⟨H,lo⟩):=S5;simp(disch:=omega) only[F1,go_sem,simprocAttr,e3,e4,e7,w1,Y,V,M,vL,hd,mL,OC,dc,de Y,Lo,Z]
  ·rintro e he ex s W p hp hJ;exact hJ.elim
structure xC(x:Ow):Prop where
 kind:x.kind<256
 aa:x.aa<256
 hold:x.hold<256
structure gk(o:bI):Prop where
 root: ∀i,(o i).root<4294967296
 own: ∀i,xC (o i).own
def Tf:xC vx:=⟨by trivial,by trivial,by trivial⟩
def gk.of{o:bI}(ho:gk o)(t:au)(h:Nat):xC (bu o t h):=by
 unfold bu;split
 ·split
  ·exact ho.own _
  ·exact Tf
 ·exact Tf
def gk.Lq{o:bI}(ho:gk o){t:au}{r:Nat}{x:Ow}(b:r<4294967296)(a:xC x):gk (eV o t r aa x).1:=by
 unfold eV;split
 ·omega
 ·split
  ·omega
  ·split
   ·omega
   ·refine⟨λi=>?_,λi=>?_⟩
    ·show(ao o (aI r) ⟨r,x⟩ i).root<_;by_cases e:i=aI r
     ·rw[e,bS];exact b
     ·rw[bT e];exact ho.root i
    ·show xC (ao o (aI r) ⟨r,x⟩ i).own;by_cases e:i=aI r
     ·rw[e,bS];exact a
     ·rw[bT e];exact ho.own i
def zV(aa:Nat):eW aa<256:=by
 unfold eW;have:2^(aa % 8)<=2^7:=Nat.pow_le_pow_right (by omega) (by omega);omega
def aCT(b:a<256): (BitVec.ofInt 8 (a:Int)).toNat=a:=by grind
def Lr(d:a<256)(c:b<256):dB .and (.int .u8 (a:Nat)) (.int .u8 (b:Nat))=some (.int .u8 ((a&&&b:Nat):Int)):=by
 rw[Dy];have e: (BitVec.ofInt IntKind.u8.bits (a:Int)&&&BitVec.ofInt IntKind.u8.bits (b:Int)).toNat=a&&&b:=by
  show(BitVec.ofInt 8 (a:Int)&&&BitVec.ofInt 8 (b:Int)).toNat=_
  grind
 have f:a&&&b<=a:=Nat.and_le_left;rw[e,wrap_u8 (by omega) (by omega)]
def atf(d:a<256)(c:b<256):dB .xor (.int .u8 (a:Nat)) (.int .u8 (b:Nat))=some (.int .u8 ((a^^^b:Nat):Int)):=by
 rw[Od];have e: (BitVec.ofInt IntKind.u8.bits (a:Int)^^^BitVec.ofInt IntKind.u8.bits (b:Int)).toNat=a^^^b:=by
  show(BitVec.ofInt 8 (a:Int)^^^BitVec.ofInt 8 (b:Int)).toNat=_
  grind
 have f:a^^^b<2^8:=az1 (by omega) (by omega);rw[e,wrap_u8 (by omega) (by omega)]
theorem ahq{k:Nat}:x&&&2^k=0↔x.testBit k=false:=by
 constructor
 ·intro h;have: (x&&&2^k).testBit k=false:=by grind
  grind
 ·intro h;apply Nat.eq_of_testBit_eq
  grind
def ahr:decide (¬((x&&&eW aa:Nat):Int)=0)=fU x aa:=by
 unfold fU eW;cases h:x.testBit (aa % 8)
 ·rw[ahq.2 h];simp
 ·grind [ahq]
def Tg(aa:Nat)(f:aa<4611686018427387904)(H:List ae)(lo:oN):D X0 (.fn (.func 280) [] []) [.int .i64 aa] ⟨H,lo⟩=some (.ret (.int .u8 (eW aa:Nat)) ⟨H,lo⟩):=by
 refine aH Rk λN h=>?_
 have e:dB .and (.int .i64 (aa:Nat)) (.int .i64 7)=some (.int .i64 ((aa % 8:Nat):Int)):=by
  rw[Dy];have e: (BitVec.ofInt IntKind.i64.bits (aa:Int)&&&BitVec.ofInt IntKind.i64.bits 7).toNat=aa % 8:=by
   show(BitVec.ofInt 64 (aa:Int)&&&BitVec.ofInt 64 7).toNat=_;have c: (BitVec.ofInt 64 (aa:Int)).toNat=aa:=by grind
   have b: (BitVec.ofInt 64 7).toNat=2^3-1:=by rfl
   rw[BitVec.toNat_and,c,b,aB3]
  rw[e,wrap_i64 (by omega) (by omega)]
 have g:=zV aa;have d:k9 .shl (.int .u8 1) (.int .i64 ((aa % 8:Nat):Int))=some (.int .u8 (eW aa:Nat)):=by
  rw[AU,adG (by omega)];have: (1:Int)*2^(min ((aa % 8:Nat):Int).toNat IntKind.u8.bits)=(eW aa:Nat):=by
   have a:IntKind.u8.bits=8:=rfl;rw[a,aBS,apW (by omega),Int.one_mul];unfold eW;simp
  rw[this,wrap_u8 (by omega) (by omega)]
 simp(disch:=omega) only[F1,go_sem,simprocAttr,Rk,e,d]
def Cd(o:bI)(ho:gk o)(t:au)(p:bN t)(n:cg t)(h:Nat)(m:h<4294967296)(H:List ae)(lo:oN):
  D X0 (.fn (.func 267) [] []) [.agg (cQ o),.agg (aN t),.int .u32 h] ⟨H,lo⟩=some (.ret (.agg (j7 (bu o t h))) ⟨H,lo⟩):=by
 refine aH Fb λN k=>?_
 have a:=zR t p n h m;have b:=ar6 (h:=h) n m;have f:bu o t h=match fe (root t h)with|some i=>if(o i).root=root t h then(o i).own else vx|none=>vx:=rfl
 cases d:fe (root t h)with
 |none=>
  rw[d]at f;have e1:bu o t h=vx:=f;simp only[F1,go_sem,simprocAttr,Fb,k,a,kc (root t h) b,jo,d,e1];rfl
 |some i=>
  rw[d]at f;have j:=afQ d;have e: (i:Int)<32:=by omega
  by_cases l: (o i).root=root t h
  ·have c: (((o i).root:Nat):Int)=(root t h:Nat):=by omega
   have e1:bu o t h=(o i).own:=by rw[f];exact adG l
   have g:j7 (o i).own=[.int .u8 (o i).own.kind,.int .u8 (o i).own.aa,.int .u8 (o i).own.hold]:=rfl;simp only[F1,go_sem,simprocAttr,Fb,k,a,kc (root t h) b,jo,d,e1,e,af5 j,c,arf j,g]
  ·have c: ¬(((o i).root:Nat):Int)=(root t h:Nat):=by omega
   have e1:bu o t h=vx:=by rw[f];exact adE l
   simp only[F1,go_sem,simprocAttr,Fb,k,a,kc (root t h) b,jo,d,e1,e,af5 j,c];rfl
def lK(o:bI)(t:au)(r aa:Nat)(x:Ow):AV:=.az [.agg (cQ (eV o t r aa x).1),.int .i64 (eV o t r aa x).2]
theorem atg:uT.length=128:=by rfl
theorem ath:List.drop 128 uT=[]:=by rfl
def gV:type_of% atg/\type_of% ath:=by decide
def FO(o:bI)(t:au)(v:bN t)(A:cg t)(r:Nat)(k:r<4294967296)(aa:Nat)(u:aa<4611686018427387904)(x:Ow)(H:List ae)(lo:oN):
  D X0 (.fn (.func 298) [] []) [.agg (cQ o),.agg (aN t),.int .u32 r,.int .i64 aa,.agg (j7 x)] ⟨H,lo⟩=some (.ret (lK o t r aa x) ⟨H,lo⟩):=by
 refine aH BV λN i=>?_
 have c:=zR t v A r k;have a:=eX t.b r k;have m: ∀h,ar t.b h=t.ar h:=λh=>rfl
 simp only[m]at a;have z:=vz r;have l: (aI r:Int)<32:=by omega
 have y:jo r= .az [.int .i64 (aI r:Nat),.bool (fe r).isSome]:=rfl;have b:eV o t r aa x=if t.ar r=false then(o,4)else if root t r≠r then(o,12)else if 8<=aa then(o,2)else(ao o (aI r) ⟨r,x⟩,0):=rfl
 have d:j7 x=[.int .u8 x.kind,.int .u8 x.aa,.int .u8 x.hold]:=rfl;cases g:t.ar r with
 |false=>
  rw[adG g]at b;rw[g]at a;simp only[F1,go_sem,simprocAttr,BV,i,a,lK,b,gV,d]
 |true=>
  rw[adE (by rw[g];simp)]at b;rw[g]at a;by_cases q:root t r=r
  ·rw[adE (by simpa using q)]at b;rw[q]at c;by_cases s:8<=aa
   ·rw[adG s]at b;have f: (aa:Int)>=8:=by omega
    have n: ¬(aa:Int)<0:=by omega
    simp only[F1,go_sem,simprocAttr,BV,i,a,c,f,n,lK,b,gV,d]
   ·rw[adE s]at b;have f: ¬(aa:Int)>=8:=by omega
    have n: ¬(aa:Int)<0:=by omega
    have e:=arh (w:=o) (x:=⟨r,x⟩) z;have j:sR ⟨r,x⟩=[.int .u32 r,.int .u8 x.kind,.int .u8 x.aa,.int .u8 x.hold]:=rfl;rw[j]at e;simp only[F1,go_sem,simprocAttr,BV,i,a,c,f,n,lK,b,gV,d,kc r k,y,l,e];omega
  ·rw[adG q]at b;have p: ¬((root t r:Nat):Int)=(r:Nat):=by omega
   simp only[F1,go_sem,simprocAttr,BV,i,a,c,p,lK,b,gV,d]
section
variable(o:bI)(t:au)(ht:bN t)(hT:cg t)(r:Nat)(hr:r<4294967296)(aa:Nat)(oE:aa<256)(H:List ae)(lo:oN)
include ht hT hr oE
theorem ati:D X0 (.fn (.func 286) [] []) [.agg (cQ o),.agg (aN t),.int .u32 r,.int .i64 aa] ⟨H,lo⟩=some (.ret (.az [.agg (cQ (ow o t r aa).1),.int .i64 (ow o t r aa).2]) ⟨H,lo⟩):=by
 refine aH Rn λN c=>?_
 have b:=FO o t ht hT r hr aa (by omega) ⟨1,aa % 256,0⟩;have a:j7 ⟨1,aa % 256,0⟩=[.int .u8 1,.int .u8 aa,.int .u8 0]:=by rw[al2 oE];rfl
 rw[a]at b;have d:ow o t r aa=eV o t r aa ⟨1,aa % 256,0⟩:=rfl;simp(disch:=omega) only[F1,go_sem,simprocAttr,Rn,c,b,lK,gV,d]
theorem atj:D X0 (.fn (.func 262) [] []) [.agg (cQ o),.agg (aN t),.int .u32 r,.int .i64 aa] ⟨H,lo⟩=some (.ret (.az [.agg (cQ (zD o t r aa).1),.int .i64 (zD o t r aa).2]) ⟨H,lo⟩):=by
 refine aH Re λN d=>?_
 have b:=FO o t ht hT r hr aa (by omega) ⟨3,0,eW aa⟩;have a:j7 ⟨3,0,eW aa⟩=[.int .u8 3,.int .u8 0,.int .u8 (eW aa)]:=rfl;rw[a]at b;have e:zD o t r aa=eV o t r aa ⟨3,0,eW aa⟩:=rfl;have c:=Tg aa (by omega);simp only[F1,go_sem,simprocAttr,Re,d,b,c,lK,gV,e]
end
def atk(o:bI)(t:au)(ht:bN t)(hT:cg t)(r:Nat)(hr:r<4294967296)(H:List ae)(lo:oN):
  D X0 (.fn (.func 270) [] []) [.agg (cQ o),.agg (aN t),.int .u32 r] ⟨H,lo⟩=some (.ret (.az [.agg (cQ (vy o t r).1),.int .i64 (vy o t r).2]) ⟨H,lo⟩):=by
 refine aH Rg λN b=>?_
 have a: ∀H lo,D X0 (.fn (.func 298) [] []) [.agg (cQ o),.agg (aN t),.int .u32 r,.int .i64 0,.agg [.int .u8 2,.int .u8 0,.int .u8 0]] ⟨H,lo⟩=_:=FO o t ht hT r hr 0 (by omega) ⟨2,0,0⟩;have c:vy o t r=eV o t r 0 ⟨2,0,0⟩:=rfl;simp only[F1,go_sem,simprocAttr,Rg,b,a,lK,gV,c]
theorem ahs{o:bI}:List.drop 128 (cQ o)=[]:=by rfl
def qc(o:bI)(t:au)(r aa:Nat)(hold:Bool):AV:=.az [.agg (cQ (c7 o t r aa hold).1),.int .u8 (c7 o t r aa hold).2.1,.int .i64 (c7 o t r aa hold).2.2]
def atl{o:bI}{t:au}{r:Nat}{x y:Ow}(h: (eV o t r aa x).2=0):eV (eV o t r aa x).1 t r aa y=eV o t r aa y:=by
 unfold eV at h⊢;split at h
 ·cases h
 ·simp_all[adE,rp]
def atm(o:bI)(t:au)(r aa:Nat)(x:Ow): (eV o t r aa x).2=if t.ar r=false then 4 else if root t r≠r then 12 else if 8<=aa then 2 else 0:=by
 unfold eV
 grind
def aht(o:bI)(ho:gk o)(t:au)(ht:bN t)(hT:cg t)(r:Nat)(hr:r<4294967296)(aa:Nat)(oE:aa<256)(hold:Bool)(H:List ae)(lo:oN):
  D X0 (.fn (.func 299) [] []) [.agg (cQ o),.agg (aN t),.int .u32 r,.int .i64 aa,.bool hold] ⟨H,lo⟩=some (.ret (qc o t r aa hold) ⟨H,lo⟩):=by
 refine aH rm λN l=>?_
 have c:=Cd o ho t ht hT r hr;have k:=Tg aa (by omega);have d:=zR t ht hT r hr;have b:=eX t.b r hr;have C: ∀h,ar t.b h=t.ar h:=λh=>rfl
 simp only[C]at b;have s:=ho.of t r;have g:c7 o t r aa hold=(let x:=bu o t r
  let e:=(eV o t r aa x).2
  if e=4\/ (t.ar r=true/\root t r≠r)then(o,0,e)
  else if x.kind≠3 then(o,0,12)
  else if e≠0 then(o,0,e)
  else if fU x.hold aa&&hold then(o,0,7)
  else if !fU x.hold aa&& !hold then(o,0,5)
  else((eV o t r aa {x with hold:=x.hold^^^eW aa}).1,x.hold^^^eW aa,(eV o t r aa {x with hold:=x.hold^^^eW aa}).2)):=rfl
 generalize G:bu o t r=x at*;have j:=FO o t ht hT r hr aa (by omega) x;have a:=atm o t r aa x;have B:j7 x=[.int .u8 x.kind,.int .u8 x.aa,.int .u8 x.hold]:=rfl;have hand:=Lr s.hold (zV aa);have f:=ahr (x:=x.hold) (aa:=aa);rw[B]at j c;simp only at g;cases z:t.ar r with
 |false=>
  rw[adG z]at a;rw[a,adG (.inl rfl)]at g;rw[z]at b;simp only[F1,go_sem,simprocAttr,rm,l,c,j,lK,a,k,hand,f,gV,qc,g]
 |true=>
  rw[adE (by rw[z];simp)]at a;rw[z]at b;by_cases q:root t r=r
  ·rw[adE (by simpa using q)]at a;rw[q]at d;by_cases E:x.kind=3
   ·have i:decide (¬(x.kind:Int)=3)=false:=adO (by omega);by_cases A:8<=aa
    ·rw[adG A]at a;rw[a,adE (by simp[q]),adE (by simpa using E),adG (by omega)]at g;simp only[F1,go_sem,simprocAttr,rm,l,b,d,c,j,lK,a,k,hand,f,i,gV,qc,g]
    ·rw[adE A]at a;rw[a,adE (by simp[q]),adE (by simpa using E),adE (by omega)]at g;have p:=FO (eV o t r aa x).1 t ht hT r hr aa (by omega) {x with hold:=x.hold^^^eW aa};have v:j7 {x with hold:=x.hold^^^eW aa}=[.int .u8 x.kind,.int .u8 x.aa,.int .u8 (x.hold^^^eW aa:Nat)]:=rfl;have u:=atl (y:={x with hold:=x.hold^^^eW aa}) a;have w: (N+1 !=N)=true:=by simp
     have m:=atf s.hold (zV aa);rw[v]at p;cases n:fU x.hold aa<;>cases hold
     ·rw[n,adE (by simp),adG (by simp)]at g;simp only[F1,go_sem,simprocAttr,rm,l,b,d,c,j,lK,a,k,hand,f,n,i,gV,qc,g]
     ·rw[n,adE (by simp),adE (by simp)]at g;simp only[F1,go_sem,simprocAttr,rm,l,b,d,c,j,lK,a,k,hand,f,n,i,gV,qc,g,m,p,u,ahs,w,ar2]
     ·rw[n,adE (by simp),adE (by simp)]at g;simp only[F1,go_sem,simprocAttr,rm,l,b,d,c,j,lK,a,k,hand,f,n,i,gV,qc,g,m,p,u,ahs,w,ar2]
     ·rw[n,adG (by simp)]at g;simp only[F1,go_sem,simprocAttr,rm,l,b,d,c,j,lK,a,k,hand,f,n,i,gV,qc,g]
   ·have i: ¬(x.kind:Int)=3:=by omega
    rw[adE (by rw[a];simp[q];split<;>simp),adG E]at g;by_cases A:8<=aa
    ·rw[adG A]at a;simp only[F1,go_sem,simprocAttr,rm,l,b,d,c,j,lK,a,k,hand,f,i,gV,qc,g]
    ·rw[adE A]at a;simp only[F1,go_sem,simprocAttr,rm,l,b,d,c,j,lK,a,k,hand,f,i,gV,qc,g]
  ·rw[adG q]at a;have F: ¬((root t r:Nat):Int)=(r:Nat):=by omega
   rw[adG (.inr ⟨z,q⟩),a]at g;simp only[F1,go_sem,simprocAttr,rm,l,b,d,F,c,j,lK,a,k,hand,f,gV,qc,g]
def ahu(o:bI)(ho:gk o)(t:au)(ht:bN t)(hT:cg t)(r:Nat)(hr:r<4294967296)(aa:Nat)(oE:aa<256)(H:List ae)(lo:oN):
  D X0 (.fn (.func 265) [] []) [.agg (cQ o),.agg (aN t),.int .u32 r,.int .i64 aa] ⟨H,lo⟩=some (.ret (.az [.agg (cQ (c7 o t r aa true).1),.int .i64 (c7 o t r aa true).2.2]) ⟨H,lo⟩):=by
 refine aH Rf λN b=>?_
 have a:=aht o ho t ht hT r hr aa oE true;simp only[F1,go_sem,simprocAttr,Rf,b,a,qc,gV]
def FQ(x:Nat):Nat:=(Ib.getD x 0).toNat
def atn: ∀x,x<256->(FQ x=0↔x=0):=by decide
def ahv{o:bI}(ho:gk o){t:au}{r:Nat}{hold:Bool}: (c7 o t r aa hold).2.1<256:=by
 unfold c7;simp only;split
 ·simp
 ·split
  ·simp
  ·split
   ·simp
   ·split
    ·simp
    ·split
     ·simp
     ·exact az1 (n:=8) (ho.of t r).hold (zV aa)
def ato(o:bI)(ho:gk o)(t:au)(ht:bN t)(hT:cg t)(r:Nat)(hr:r<4294967296)(aa:Nat)(oE:aa<256)(H:List ae)(lo:oN):
  D X0 (.fn (.func 300) [] []) [.agg (cQ o),.agg (aN t),.int .u32 r,.int .i64 aa] ⟨H,lo⟩=some (.ret (.az [.agg (cQ (c7 o t r aa false).1),.int .i64 (FQ (c7 o t r aa false).2.1),.int .i64 (c7 o t r aa false).2.2]) ⟨H,lo⟩):=by
 refine aH Rs λN b=>?_
 have e:=aht o ho t ht hT r hr aa oE false;have c:=ahv ho (t:=t) (r:=r) (aa:=aa) (hold:=false);have a: ∀H lo,D X0 (.fn (.func 327) [] []) [.int .u8 ((c7 o t r aa false).2.1:Nat)] ⟨H,lo⟩=some (.ret (.int .i64 (FQ (c7 o t r aa false).2.1:Nat)) ⟨H,lo⟩):=by
  intro H lo;generalize(c7 o t r aa false).2.1=x at*;refine aH RM λN b=>?_
  have d:Ib.length=256:=by rfl
  have f:=UInt8.toNat_lt (Ib.getD x 0);simp(disch:=omega) only[F1,go_sem,simprocAttr,RM,d];exact⟨by omega,rfl⟩
 simp only[F1,go_sem,simprocAttr,Rs,b,e,qc,a,gV]
structure uf(x:Tok):Prop where
 aJ:x.aJ<4294967296
 jz:x.jz<256
 to:x.to<256
 aU:x.aU<4294967296
structure ig(k:bo):Prop where
 b:fL k.b
 lt: ∀i,(k.b i).cO=true->i<16
 t: ∀i,uf (k.t i)
def ahw:uf KT:=⟨by trivial,by trivial,by trivial,by trivial⟩
def ig.get{k:bo}(a:ig k)(h:Nat):uf (ck k h).1:=by
 unfold ck;split
 ·exact a.t _
 ·exact ahw
def ig.slot{k:bo}(a:ig k)(b:ar k.b h=true):aI h<16:=by
 obtain⟨_,e,_⟩:=sW b;exact a.lt _ (by rw[e])
def Ce(k:bo)(j:ig k)(h:Nat)(f:h<4294967296)(H:List ae)(lo:oN):
  D X0 (.fn (.func 171) [] []) [.agg (bX k),.int .u32 h] ⟨H,lo⟩=some (.ret (.az [.agg (gh (ck k h).1),.int .i64 (ck k h).2]) ⟨H,lo⟩):=by
 refine aH J6 λN g=>?_
 have a:=eX k.b h f;have i:jo h= .az [.int .i64 (aI h:Nat),.bool (fe h).isSome]:=rfl;cases d:ar k.b h with
 |false=>
  rw[d]at a;have e:ck k h=(KT,4):=by unfold ck;grind
  simp only[F1,go_sem,simprocAttr,J6,g,a,e];rfl
 |true=>
  rw[d]at a;have e:ck k h=(k.t (aI h),0):=by unfold ck;grind
  have l:=j.slot d;have c: (aI h:Int)<16:=by omega
  have b:gh (k.t (aI h))=[.int .u32 (k.t (aI h)).aJ,.int .u8 (k.t (aI h)).jz,.int .u8 (k.t (aI h)).to,.bool (k.t (aI h)).mu,.int .u32 (k.t (aI h)).aU]:=rfl;simp only[F1,go_sem,simprocAttr,J6,g,a,e,kc h f,i,c,arj l,b]
def Th(k:bo)(h:Nat)(d:h<4294967296)(H:List ae)(lo:oN):
  D X0 (.fn (.func 329) [] []) [.agg (bX k),.int .u32 h] ⟨H,lo⟩=some (.ret (.bool (nm k h)) ⟨H,lo⟩):=by
 refine aH KF λN c=>?_
 have b:=eX k.b h d;by_cases e:h=0
 ·have a: (h:Int)=0:=by omega
  simp only[F1,go_sem,simprocAttr,KF,c,a,nm]
  grind
 ·have a: ¬(h:Int)=0:=by omega
  simp only[F1,go_sem,simprocAttr,KF,c,a,b,nm]
  grind
def ahx{N:Nat}{A A' P M:List ae}{ty:TypeId}(h:aT N (A++P) v sz ty af)(b:A'.length=A.length)(c:A.length<=N):aT N (A'++(P++M)) v sz ty af:=by
 obtain⟨a,d⟩:=h;refine⟨a,?_⟩
 grind
def vO(k:bo)(p:Tok->Bool)(n:Nat):lN:=((bc k.b).take n).filter λh=>p (ck k h).1
def atp{k:bo}{p:Tok->Bool}(h:n< (bc k.b).length):vO k p (n+1)=if p (ck k ((bc k.b).getD n default)).1 then vO k p n++[(bc k.b).getD n default]else vO k p n:=by
 unfold vO;rw[agR,adM h,az2,getD_eq h]
 grind
def atq{k:bo}{p:Tok->Bool}: (vO k p n).length<=n:=ag2 (aka _ _) (by grind)
def jV{S:Type}(k:bo)(f:S->Tok->S)(s:S)(n:Nat):S:=((bc k.b).take n).foldl (λs h=>f s (ck k h).1) s
def atr{S:Type}{k:bo}{f:S->Tok->S}{s:S}(h:n< (bc k.b).length):jV k f s (n+1)=f (jV k f s n) (ck k ((bc k.b).getD n default)).1:=by
 unfold jV;rw[agR,adM h,amu,getD_eq h];rfl
def Ls{S:Type}(k:bo)(W:ig k)(fv:AV)(p:Tok->Bool)(f:S->Tok->S)(c:S)(N:Nat)(b:S->List ae)(r: ∀s,(b s).length=N)
  (hf: ∀s x L,uf x->D X fv [.agg (gh x)] ⟨b s++L,none⟩=some (.ret (.bool (p x)) ⟨b (f s x)++L,none⟩)) (lo:oN):
  ∃w,D X (.fn (.func 281) [] []) [.agg (bX k),fv] ⟨b c,lo⟩=some (.ret w ⟨b (jV k f c (bc k.b).length),lo⟩)/\Rv w 1 ((sU k p).map hC)/\w.refs=0:=by
 suffices hs: ∃V,D X (.fn (.func 281) [] []) [.agg (bX k),fv] ⟨b c,lo⟩=some V/\ (λV=> ∃w,V=aV.ret w ⟨b (jV k f c (bc k.b).length),lo⟩/\Rv w 1 ((sU k p).map hC)/\w.refs=0) V by
  obtain⟨V,h1,w,rfl,h2⟩:=hs;exact⟨w,h1,h2⟩
 refine cN Rl λM hM=>?_
 obtain rfl:M=N:=by rw[<-hM,r]
 obtain⟨v,J,e1,Y⟩:=SZ k.b W.b (M+1) (b c++[.box (bX k) none]) (by simp[r]) none;have F:D X (.fn (.func 56) [] []) [.agg (bU k.b)] ⟨b c++[.box (bX k) none],none⟩=some _:=rM (p:=me) rfl e1;have g:=(kT Y none).bY;have si:=mG k.b;rw[adK]at F Y g;obtain⟨j,U⟩: ∃j,j=[ae.box (bX k) none]++J:=⟨_,rfl⟩;have T: ∀s L,(b s++(j++L))[M]?=some (.box (bX k) none):=λs L=>by rw[dI (r s),U];rfl
 rw[<-U]at F Y g;simp only[go_sem,simprocAttr,Rl,hM,F,g];refine eN (bc k.b).length (λn e H'=> ∃L,H'=b (jV k f c n)++(j++L)/\ (∃G,e 5=G/\aT (M+j.length) H' G 1 bZ ((vO k p n).map hC))/\e 1=fv/\e 2= .ptr M 0/\e 12=v/\e 13= .int .i64 (bc k.b).length/\e 14= .int .i64 n) 0 (by omega) ?_ ?_
 ·simp only[go_sem,simprocAttr];exact⟨[],by simp[jV],_,rfl,aT.av⟩
 rintro n hn e H' ⟨L,rfl,⟨G,e5,i⟩,e1,A,E,C,B⟩ n' u;have R:=T (jV k f c n);simp only[cb,go_sem,simprocAttr,ae7,e5,E,C,B];refine⟨λhc=>?_,λhc=>?_⟩
 ·have l:n< (bc k.b).length:=by omega
  have O:=fO l;have gO:=(ia W.b).1 O;have q:=atp (p:=p) l;have I:=atr (f:=f) (s:=c) l;have K:Rd ⟨b (jV k f c n)++(j++L),none⟩ v 1 ((bc k.b).map hC):=kT (ahx Y (by rw[r,r]) (by rw[r];omega)) none;have y:=λH lo=>up dC (Ce k W ((bc k.b).getD n default) (fV gO) H lo)
  have Z:=W.get ((bc k.b).getD n default);have m:=hf (jV k f c n) (ck k ((bc k.b).getD n default)).1 (j++(L++[.box (gh (ck k ((bc k.b).getD n default)).1) none])) Z;generalize hh: (bc k.b).getD n default=h at*;generalize hx: (ck k h).1=x at*;have t:gh x=[.int .u32 x.aJ,.int .u8 x.jz,.int .u8 x.to,.bool x.mu,.int .u32 x.aU]:=rfl;have sh:=atq (k:=k) (p:=p) (n:=n);have hA:=λ (a:Int)=>K.cD (k:=.i64) (a:=a)
  have hL:=K.di (X:=X) (off:=0) (n:=1) (agg:=false) l;rw[hh,pH]at hL;have Q: ∀o,(b (jV k f c n)++(j++(L++[o])))[n']?=some o:=λo=>by rw[<-u,<-adK j,<-adK (b _)];simp
  have P: ∀o o',(b (jV k f c n)++(j++(L++[o]))).set n' o'=b (jV k f c n)++(j++(L++[o'])):=λo o'=>by
   have e: ∀o:ae,b (jV k f c n)++(j++(L++[o]))=(b (jV k f c n)++(j++L))++[o]:=λo=>by simp
   rw[e,e,<-u,apP _ _ (aef _)];simp
  have d:aT (M+j.length) (b (f (jV k f c n) x)++(j++(L++[.box (gh x) none]))) G 1 bZ ((vO k p n).map hC):=by
   have:=ahx (A':=b (f (jV k f c n) x)) (M:=[.box (gh x) none]) i (by rw[r,r]) (by rw[r];omega);rwa[adK]at this
  cases hp:p x
  ·rw[hp]at m q;rw[t]at m d;simp(disch:=omega) only[go_sem,simprocAttr,e1,A,e5,E,C,B,hA,hL,R,y,u,t,Q,P,m,adK,q,I];exact⟨by omega,l,_,rfl,G,rfl,d⟩
  ·rw[hp]at m q;rw[t]at m d;simp only[go_sem,simprocAttr,e1,A,e5,hA,hL,R,y,u,t,Q,P,m,adK];refine⟨by omega,qQ (H0:=b (f (jV k f c n) x)++j) (ys:=[[.int .u32 (h:Nat)]]) d ⟨_,adK _ _ _⟩ (by simp[r]) (by omega) (by intro el qG;rw[aeh.1 qG];rfl) rfl (by unfold room;simp;omega) λv' H2 z A4=>?_⟩;obtain⟨L2,rfl⟩:=A4;simp(disch:=omega) only[go_sem,simprocAttr,e1,A,E,C,B];rw[adG rfl]at q;refine⟨l,L2,by rw[I],v',rfl,?_⟩;rw[q,afr];rwa[adK]at z
 ·obtain rfl:n=(bc k.b).length:=by omega
  have ht:vO k p (bc k.b).length=sU k p:=by unfold vO sU;rw[aft]
  rw[ht]at i;have h0:ca ((sU k p).map hC)=0:=bH (λ_=>rfl) _;rw[aT.OI (aT.le i (by omega)) (by omega)];refine⟨_,dx rfl (aoe (r _)),i.ss,dj i.ss h0⟩
theorem nA(x:Tok):gh x=[.int .u32 x.aJ,.int .u8 x.jz,.int .u8 x.to,.bool x.mu,.int .u32 x.aU]:=rfl
theorem rO{N:Nat}{H:List ae}(h:v.refs=0):finish N lo v ⟨H,none⟩=(v,⟨H.take N,lo⟩):=jD (.inl rfl) (by omega)
def ats(aJ:Nat)(x:Tok)(p:Nat)(H:List ae)(a:H[p]?=some (.box [.int .u32 (aJ:Nat)] none))(lo:oN):
  D X (.fn (.func 334) [] [.ptr p 0]) [.agg (gh x)] ⟨H,lo⟩=some (.ret (.bool (decide (x.aJ=aJ))) ⟨H,lo⟩):=by
 refine fJ RQ λN b=>?_
 have c: ∀L,(H++L)[p]?=_:=λL=>bf a
 simp only[F1,go_sem,simprocAttr,RQ,b,nA,c];exact dx (ag3 AV.bool (afB.2 (by omega))) rfl
def att(aa:Nat)(x:Tok)(a:uf x)(p:Nat)(H:List ae)(b:H[p]?=some (.box [.int .i64 (aa:Nat)] none))(lo:oN):
  D X (.fn (.func 282) [] [.ptr p 0]) [.agg (gh x)] ⟨H,lo⟩=some (.ret (.bool (decide (x.to=aa))) ⟨H,lo⟩):=by
 refine fJ Rm λN c=>?_
 have d: ∀L,(H++L)[p]?=_:=λL=>bf b
 have:=a.to;simp(disch:=omega) only[F1,go_sem,simprocAttr,Rm,c,nA,d];exact dx (ag3 AV.bool (afB.2 (by omega))) rfl
def Ti(k:bo)(hk:ig k)(aJ:Nat)(H:List ae)(lo:oN):
  ∃w,D X (.fn (.func 321) [] []) [.agg (bX k),.int .u32 aJ] ⟨H,lo⟩=some (.ret w ⟨H,lo⟩)/\Rv w 1 ((nq k aJ).map hC)/\w.refs=0:=by
 obtain⟨N,c⟩: ∃N,H.length=N:=⟨_,rfl⟩;obtain⟨w,e1,b,e3⟩:=Ls (S:=Unit) k hk (.fn (.func 334) [] [.ptr (N+1) 0]) (λx=>decide (x.aJ=aJ)) (λs _=>s) () (N+2) (λ_=>H++[.box (bX k) none,.box [.int .u32 aJ] none]) (λ_=>by grind)
  (λs x L _=>ats aJ x (N+1) _ (by grind) none) none
 refine⟨w,?_,b,e3⟩;refine aH RI λM a=>?_
 obtain rfl:M=N:=by omega
 simp only[go_sem,simprocAttr,RI,a,e1];rw[rO e3,mw a]
def atu(k:bo)(hk:ig k)(aa:Nat)(H:List ae)(lo:oN):
  ∃w,D X (.fn (.func 214) [] []) [.agg (bX k),.int .i64 aa] ⟨H,lo⟩=some (.ret w ⟨H,lo⟩)/\Rv w 1 ((rA k aa).map hC)/\w.refs=0:=by
 obtain⟨N,d⟩: ∃N,H.length=N:=⟨_,rfl⟩;obtain⟨w,e1,c,e3⟩:=Ls (S:=Unit) k hk (.fn (.func 282) [] [.ptr (N+1) 0]) (λx=>decide (x.to=aa)) (λs _=>s) () (N+2) (λ_=>H++[.box (bX k) none,.box [.int .i64 aa] none]) (λ_=>by grind)
  (λs x L b=>att aa x b (N+1) _ (by grind) none) none
 refine⟨w,?_,c,e3⟩;refine aH QT λM a=>?_
 obtain rfl:M=N:=by omega
 simp only[go_sem,simprocAttr,QT,a,e1];rw[rO e3,mw a]
theorem ahy{α:Type}(q:α->Bool): ∀ (l:List α) (s:Bool),l.foldl (λs x=>s||q x) s=(s||l.any q)
 | [],s=>by simp
 |x::xs,s=>by rw[aqt,ahy q xs,List.any_cons,Bool.or_assoc]
def atv(k:bo)(aJ ab:Nat)(s:Bool)(x:Tok)(N:Nat)(H:List ae)(h:H.length=N)(L:List ae):
  D X (.fn (.func 336) [] [.ptr (N+1) 0,.ptr (N+2) 0,.ptr (N+3) 0]) [.agg (gh x)] ⟨H++[.box (bX k) none,.box [.int .u32 aJ] none,.box [.int .u32 ab] none,.box [.bool s] none]++L,none⟩=
    some (.ret (.bool (isRight aJ ab x)) ⟨H++[.box (bX k) none,.box [.int .u32 aJ] none,.box [.int .u32 ab] none,.box [.bool (s|| (isRight aJ ab x&&x.mu))] none]++L,none⟩):=by
 refine fJ xi λM p=>?_
 rw[adK]at p⊢;have m:M=N+4+L.length:=by rw[<-p];simp[h];omega
 have g1: ∀a b c d f,(H++(a::b::c::d::f))[N+1]?=some b:=λa b c d f=>by rw[bF h];rfl
 have g2: ∀a b c d f,(H++(a::b::c::d::f))[N+2]?=some c:=λa b c d f=>by rw[bF h];rfl
 have j: ∀a b c d f,(H++(a::b::c::d::f))[N+3]?=some d:=λa b c d f=>by rw[bF h];rfl
 have gm: ∀a b c d o,(H++(a::b::c::d:: (L++[o])))[M]?=some o:=λa b c d o=>by
  have:H++(a::b::c::d:: (L++[o]))=(H++(a::b::c::d::L))++[o]:=by simp
  rw[this,show M=(H++(a::b::c::d::L)).length by rw[m,aeb,h];simp only[afx];omega];simp
 have i: ∀a b c d f o,(H++(a::b::c::d::f)).set (N+3) o=H++(a::b::c::o::f):=λa b c d f o=>by rw[mZ h];rfl
 have tk: ∀a b c d o,(H++(a::b::c::d:: (L++[o]))).take M=H++(a::b::c::d::L):=λa b c d o=>by
  have:H++(a::b::c::d:: (L++[o]))=(H++(a::b::c::d::L))++[o]:=by simp
  rw[this];exact aoe (by simp[h,m];omega)
 have q:isRight aJ ab x=(decide (x.aJ=aJ)&&decide (x.aU=ab)):=rfl;rw[q];by_cases l:x.aJ=aJ
 ·have e: (x.aJ:Int)=aJ:=by omega
  by_cases n:x.aU=ab
  ·have g: (x.aU:Int)=ab:=by omega
   cases s
   ·simp only[F1,go_sem,simprocAttr,xi,nA,g1,g2,j,i,tk,e,g,adK,aii,ag8];simp[l,n]
   ·simp only[F1,go_sem,simprocAttr,xi,nA,g1,g2,j,i,tk,e,g,adK,aii,ag8];simp[l,n]
  ·have g: ¬(x.aU:Int)=ab:=by omega
   cases s
   ·simp only[F1,go_sem,simprocAttr,xi,nA,g1,g2,j,i,tk,e,g,adK,aii,ag8];simp[l,n]
   ·simp only[F1,go_sem,simprocAttr,xi,nA,g1,g2,j,i,tk,e,g,adK,aii,ag8];simp[l,n]
 ·have e: ¬(x.aJ:Int)=aJ:=by omega
  cases s
  ·simp only[F1,go_sem,simprocAttr,xi,nA,g1,j,i,tk,e,adK,aii,ag8];simp[l]
  ·simp only[F1,go_sem,simprocAttr,xi,nA,g1,j,i,tk,e,adK,aii,ag8];simp[l]
def Tj(k:bo)(hk:ig k)(aJ ab:Nat)(H:List ae)(lo:oN):
  D X (.fn (.func 328) [] []) [.agg (bX k),.int .u32 aJ,.int .u32 ab] ⟨H,lo⟩=some (.ret (.az [.int .i64 (B0 k aJ ab:Nat),.bool (sV k aJ ab)]) ⟨H,lo⟩):=by
 obtain⟨N,a⟩: ∃N,H.length=N:=⟨_,rfl⟩;obtain⟨w,e1,c,e3⟩:=Ls (S:=Bool) k hk (.fn (.func 336) [] [.ptr (N+1) 0,.ptr (N+2) 0,.ptr (N+3) 0]) (isRight aJ ab) (λs x=>s|| (isRight aJ ab x&&x.mu)) false (N+4)
  (λs=>H++[.box (bX k) none,.box [.int .u32 aJ] none,.box [.int .u32 ab] none,.box [.bool s] none]) (λ_=>by grind) (λs x L _=>atv k aJ ab s x N H a L) none
 have hm:jV k (λs x=>s|| (isRight aJ ab x&&x.mu)) false (bc k.b).length=sV k aJ ab:=by
  unfold jV sV;rw[aft,ahy (λh=>isRight aJ ab (ck k h).1&& (ck k h).1.mu),ar5]
 rw[hm]at e1;refine aH RN λM b=>?_
 obtain rfl:M=N:=by rw[<-b,a]
 simp only[F1,go_sem,simprocAttr,RN,b,e1,c.bY];rfl
section
variable(k:bo)(hk:ig k)(aJ ab:Nat)(ha:ab<4294967296)(H:List ae)(lo:oN)
include hk ha
theorem ahz:D X (.fn (.func 315) [] []) [.agg (bX k),.int .u32 aJ,.int .u32 ab] ⟨H,lo⟩=some (.ret (.bool (xn k aJ ab)) ⟨H,lo⟩):=by
 refine aH KB λN e=>?_
 have d:=Tj k hk aJ ab;have b:=λH lo=>up dC (Th k ab ha H lo)
 have c:xn k aJ ab=(nm k ab&& !sV k aJ ab):=rfl;cases a:nm k ab
 ·rw[a]at b c;simp only[F1,go_sem,simprocAttr,KB,e,d,b,c,ag4]
 ·rw[a]at b c;simp only[F1,go_sem,simprocAttr,KB,e,d,b,c,al0]
theorem ahA:D X (.fn (.func 317) [] []) [.agg (bX k),.int .u32 aJ,.int .u32 ab] ⟨H,lo⟩=some (.ret (.bool (zG k aJ ab)) ⟨H,lo⟩):=by
 refine aH KC λN e=>?_
 have d:=Tj k hk aJ ab;have b:=λH lo=>up dC (Th k ab ha H lo)
 have c:zG k aJ ab=(nm k ab&&decide (B0 k aJ ab=0)):=rfl;cases a:nm k ab
 ·rw[a]at b c;simp only[F1,go_sem,simprocAttr,KC,e,d,b,c,ag4]
 ·rw[a]at b c;simp only[F1,go_sem,simprocAttr,KC,e,d,b,c,al0];simp_all
end
section
set_option maxHeartbeats 2000000
def atw(k:bo)(B:ig k)(x:Tok)(C:uf x)(H:List ae)(lo:oN):
  D X (.fn (.func 301) [] []) [.agg (bX k),.agg (gh x)] ⟨H,lo⟩=some (.ret (.int .i64 (pN k x:Nat)) ⟨H,lo⟩):=by
 refine aH j5 λN p=>?_
 have j:=Tj k B x.aJ x.aU;have m:=λH lo=>up dC (Th k x.aU C.aU H lo)
 have a:=λH lo=>up dC (Ce k B x.aU C.aU H lo)
 have E:=B.get x.aU;have b:pN k x=if nm k x.aU=false then 4
  else if 8<=x.jz\/8<=x.to\/x.jz=x.to\/x.aJ=0 then 2
  else if x.aU≠0/\ ((ck k x.aU).1.aJ≠x.aJ\/ (ck k x.aU).1.to≠x.jz\/ (x.mu=true/\ (ck k x.aU).1.mu=false))then 12
  else if sV k x.aJ x.aU=true\/ (x.mu=true/\0<B0 k x.aJ x.aU)then 5
  else 0:=rfl
 generalize hu: (ck k x.aU).1=w at*;generalize K:B0 k x.aJ x.aU=n at*;have A:=nA w;have z:=nA x;rw[A]at a;rw[z];cases s:nm k x.aU with
 |false=>
  rw[adG s]at b;rw[s]at m;simp only[F1,go_sem,simprocAttr,j5,p,j,m,a,b]
 |true=>
  rw[adE (by rw[s];simp)]at b;rw[s]at m;by_cases J:8<=x.jz
  ·rw[adG (.inl J)]at b;have d: (x.jz:Int)>=8:=by omega
   simp only[F1,go_sem,simprocAttr,j5,p,j,m,a,b,d]
  ·have d: ¬(x.jz:Int)>=8:=by omega
   by_cases I:8<=x.to
   ·rw[adG (.inr (.inl I))]at b;have e: (x.to:Int)>=8:=by omega
    simp only[F1,go_sem,simprocAttr,j5,p,j,m,a,b,d,e]
   ·have e: ¬(x.to:Int)>=8:=by omega
    by_cases G:x.jz=x.to
    ·rw[adG (.inr (.inr (.inl G)))]at b;have f:decide ((x.jz:Int)=x.to)=true:=aec (by omega);simp only[F1,go_sem,simprocAttr,j5,p,j,m,a,b,d,e,f]
    ·have f: ¬(x.jz:Int)=x.to:=by omega
     by_cases F:x.aJ=0
     ·rw[adG (.inr (.inr (.inr F)))]at b;have g:decide ((x.aJ:Int)=0)=true:=aec (by omega);simp only[F1,go_sem,simprocAttr,j5,p,j,m,a,b,d,e,f,g]
     ·have g: ¬(x.aJ:Int)=0:=by omega
      rw[adE (by omega)]at b;by_cases u:x.aU=0
      ·have i:decide (¬(x.aU:Int)=0)=false:=adO (by omega);rw[adE (λh=>h.1 u)]at b;cases hm:sV k x.aJ x.aU
       ·rw[hm]at j b;cases r:x.mu
        ·rw[r,adE (by simp)]at b;simp only[F1,go_sem,simprocAttr,j5,p,j,m,a,b,d,e,f,g,i]
        ·rw[r]at b;by_cases c:0<n
         ·have t: (n:Int)>0:=by omega
          rw[adG (.inr ⟨rfl,c⟩)]at b;simp only[F1,go_sem,simprocAttr,j5,p,j,m,a,b,d,e,f,g,i,t]
         ·have t: ¬(n:Int)>0:=by omega
          rw[adE (by simp;omega)]at b;simp only[F1,go_sem,simprocAttr,j5,p,j,m,a,b,d,e,f,g,i,t]
       ·rw[hm]at j b;rw[adG (.inl rfl)]at b;simp only[F1,go_sem,simprocAttr,j5,p,j,m,a,b,d,e,f,g,i]
      ·have i: ¬(x.aU:Int)=0:=by omega
       by_cases y:w.aJ=x.aJ
       ·have l:decide (¬(w.aJ:Int)=x.aJ)=false:=adO (by omega);by_cases v:w.to=x.jz
        ·have o:decide (¬(w.to:Int)=x.jz)=false:=adO (by omega);cases r:x.mu
         ·rw[r,adE (by simp[y,v])]at b;cases hm:sV k x.aJ x.aU
          ·rw[hm,adE (by simp)]at b;rw[hm]at j;simp only[F1,go_sem,simprocAttr,j5,p,j,m,a,b,d,e,f,g,i,l,o]
          ·rw[hm]at j b;rw[adG (.inl rfl)]at b;simp only[F1,go_sem,simprocAttr,j5,p,j,m,a,b,d,e,f,g,i,l,o]
         ·cases q:w.mu
          ·rw[r,q,adG (by simp[u])]at b;simp only[F1,go_sem,simprocAttr,j5,p,j,m,a,b,d,e,f,g,i,l,o,q]
          ·rw[r,q,adE (by simp[y,v])]at b;cases hm:sV k x.aJ x.aU
           ·rw[hm]at j b;by_cases c:0<n
            ·have t: (n:Int)>0:=by omega
             rw[adG (.inr ⟨rfl,c⟩)]at b;simp only[F1,go_sem,simprocAttr,j5,p,j,m,a,b,d,e,f,g,i,l,o,q,t]
            ·have t: ¬(n:Int)>0:=by omega
             rw[adE (by simp;omega)]at b;simp only[F1,go_sem,simprocAttr,j5,p,j,m,a,b,d,e,f,g,i,l,o,q,t]
           ·rw[hm]at j b;rw[adG (.inl rfl)]at b;simp only[F1,go_sem,simprocAttr,j5,p,j,m,a,b,d,e,f,g,i,l,o,q]
        ·have o: ¬(w.to:Int)=x.jz:=by omega
         rw[adG ⟨u,.inr (.inl v)⟩]at b;simp only[F1,go_sem,simprocAttr,j5,p,j,m,a,b,d,e,f,g,i,l,o]
       ·have l: ¬(w.aJ:Int)=x.aJ:=by omega
        rw[adG ⟨u,.inl y⟩]at b;simp only[F1,go_sem,simprocAttr,j5,p,j,m,a,b,d,e,f,g,i,l]
end
theorem ahB:sy.length=176:=by rfl
theorem ahC:List.drop 176 sy=[]:=by rfl
theorem ahD{k:bo}:List.drop 176 (bX k)=[]:=by rfl
def qd:type_of% ahB/\type_of% ahC/\type_of% @ahD/\type_of% K0/\type_of% K1:=⟨ahB,ahC,@ahD,K0,K1⟩
def atx(k:bo)(q:ig k)(x:Tok)(w:uf x)(H:List ae)(lo:oN):
  D X (.fn (.func 268) [] []) [.agg (bX k),.agg (gh x)] ⟨H,lo⟩=some (.ret (.az [.agg (bX (lD k x).1),.int .u32 (lD k x).2.1,.int .i64 (lD k x).2.2]) ⟨H,lo⟩):=by
 refine aH BS λN r=>?_
 have hm:=atw k q x w;have e:=λH lo=>up dC (agz k.b q.b H lo)
 have a:=nA x;have d:lD k x=if pN k x≠0 then(k,0,pN k x)
  else match ni k.b with
  |some i=>if i<16 then({b:=ao k.b i {k.b i with cO:=true},t:=ao k.t i x},da i (k.b i).gen,0)else(k,0,7)
  |none=>(k,0,7):=rfl
 by_cases c:pN k x=0
 ·rw[adE (by omega)]at d;have p:decide (¬(pN k x:Int)=0)=false:=adO (by omega);cases j:ni k.b with
  |none=>
   rw[j]at d;simp only at d;have s:=λH lo=>up dC (kc 0 (by omega) H lo)
   have m: ∀H lo,D X (.fn (.func 82) [] []) [.int .u32 0] ⟨H,lo⟩=some (.ret (jo 0) ⟨H,lo⟩):=s;have u:jo 0= .az [.int .i64 0,.bool false]:=rfl;rw[a]at hm;rw[a];simp only[F1,go_sem,simprocAttr,BS,r,hm,p,e,s9,pL,j,m,u,qd,d]
  |some i=>
   rw[j]at d;simp only at d;obtain⟨n,A,z,y⟩:=pO j;have v:fe (da i (k.b i).gen)=some i:=Ft n (q.b i).1;have l:=λH lo=>up dC (kc (da i (k.b i).gen) (Fx n (q.b i).1) H lo)
   by_cases h:i<16
   ·rw[adG h]at d;have f: ¬(i:Int)>=16:=by omega
    have o: (i:Int)<16:=by omega
    have g:=ark (k:={k with b:=ao k.b i {k.b i with cO:=true}}) (x:=x) h;rw[a]at hm g;rw[a];simp only[F1,go_sem,simprocAttr,BS,r,hm,p,e,s9,pL,j,l,jo,v,f,o,qd,af7,g,d];exact⟨by simp,by omega⟩
   ·rw[adE h]at d;have f: (i:Int)>=16:=by omega
    rw[a]at hm;rw[a];simp only[F1,go_sem,simprocAttr,BS,r,hm,p,e,s9,pL,j,l,jo,v,f,qd,d]
 ·rw[adG c]at d;have p: ¬(pN k x:Int)=0:=by omega
  rw[a]at hm;rw[a];simp only[F1,go_sem,simprocAttr,BS,r,hm,p,qd,d]
def ahE{k:bo}(a:ig k): ∀l,ig (nr k l):=by
 intro l
 induction l generalizing k with
 |nil=>exact a
 |cons h l b=>
  refine b ⟨Fy a.b h,λi c=>?_,a.t⟩;refine a.lt i ?_;revert c;show((dy k.b h).1 i).cO=true->_;unfold dy;split
  ·show(ao k.b (aI h) (nj (k.b (aI h))) i).cO=true->_;by_cases e:i=aI h
   ·rw[e,bS];unfold nj;grind
   ·rw[bT e];exact id
  grind
def aty{k:bo}{l:lN}(h:n<l.length):nr k (l.take (n+1))={nr k (l.take n)with b:=(dy (nr k (l.take n)).b (l.getD n default)).1}:=by
 unfold nr;rw[agR,adM h,amu,getD_eq h];rfl
def ahF(k:bo)(r:ig k)(w:AV)(l:lN)(H:List ae)(c:Rd ⟨H,none⟩ w 1 (l.map hC))(q: ∀h∈l,h<4294967296)(p:l.length<2^40)(lo:oN):
  D X (.fn (.func 305) [] []) [.agg (bX k),w] ⟨H,lo⟩=some (.ret (.agg (bX (nr k l))) ⟨H,lo⟩):=by
 refine aH Rx λN t=>?_
 have a: ∀L lo,gv ⟨H++L,lo⟩ .sl w=some (.int .i64 l.length):=λL lo=>(c.ext (L:=L) (ak:=lo)).bY
 simp only[go_sem,simprocAttr,Rx,t,a];refine eN l.length (λn e H'=>H'=H++[.box (bX (nr k (l.take n))) none,.box sy none]/\e 2= .ptr N 0/\e 4= .ptr (N+1) 0/\e 7=w/\e 8= .int .i64 l.length/\e 9= .int .i64 n) 0 (by omega) ?_ ?_
 ·trivial
 rintro n x e H' ⟨rfl,j,i,e7,e8,g⟩ v o;simp(disch:=omega) only[cb,F1,go_sem,simprocAttr,aff,j,i,e7,e8,g];refine⟨λs=>?_,λs=>?_⟩
 ·have b:n<l.length:=by omega
  have f:=ahE r (l.take n);have m:=λH lo=>up dC (agA (nr k (l.take n)).b f.b (l.getD n default) (q _ (fO b)) H lo)
  have d:=aty (k:=k) b;have u: ∀L lo,cq X ⟨H++L,lo⟩ false 1 (gy w n 0)=some (.int .u32 (l.getD n default:Nat)):=λL lo=>by rw[(c.ext (L:=L) (ak:=lo)).di b,pH]
  simp(disch:=omega) only[go_sem,simprocAttr,c.cD,u,m,zK,af7,j,i,e7,e8,g];exact⟨by omega,b,by rw[d]⟩
 ·obtain rfl:n=l.length:=by omega
  rw[aft];simp only[go_sem,simprocAttr,qd]
def atz(k:bo)(c:ig k)(a:Nat)(H:List ae)(lo:oN):
  D X (.fn (.func 291) [] []) [.agg (bX k),.int .u32 a] ⟨H,lo⟩=some (.ret (.agg (bX (KX k a))) ⟨H,lo⟩):=by
 refine aH Rp λN d=>?_
 obtain⟨w,e1,e,e3⟩:=Ti k c a (H++[.box (bX k) none,.box sy none]) none;have b:=λH lo=>ahF k c w (nq k a) H (e _) (λh hm=>fV ((ia c.b).1 (afI.1 hm).1)) (by have:=mG k.b;have: (nq k a).length<=_:=aka _ _;omega) lo
 have f:nr k (nq k a)=KX k a:=rfl;simp only[F1,go_sem,simprocAttr,Rp,d,e1,b,qd,f]
def nC(h:Nat):AV×AV:=(.int .u32 h,.bool true)
def mN(a:lN)(k:Nat):lN:=if k∈a then a else a++[k]
def ahG(a b:Nat):oR (.int .u32 a) (.int .u32 b)=some (decide (a=b)):=by
 have h:oR (.int .u32 (a:Nat)) (.int .u32 (b:Nat))=some ((a:Int)==(b:Int)):=rfl;rw[h]
 congr 1
 grind
theorem ahH(k:Nat): ∀b:lN,eB (.int .u32 k) (b.map nC)=some (if k∈b then some (.bool true)else none)
 | []=>rfl
 |a::b=>by
  simp only[aiQ,nC,eB,ahG];by_cases h:k=a
  ·grind
  ·simp only[h,aB2,afJ,false_or];exact ahH k b
theorem ahI(k:Nat): ∀b:lN,lS (.int .u32 k) (.bool true) (b.map nC)=some ((mN b k).map nC)
 | []=>rfl
 |a::b=>by
  simp only[aiQ,nC,lS,ahG];unfold mN;by_cases h:k=a
  ·subst h;simp[nC]
  ·simp only[h,aB2,afJ,false_or];rw[ahI k b];unfold mN;split<;>rfl
def atA{gm:Nat->Option (List (AV×AV))}{H:List ae}{id:Nat}{a:lN}(h:H[id]?=some (.map (a.map nC)))(k:Nat):jJ gm ⟨H,lo⟩ .int (.bool false) (.mp id) (.int .u32 k) false=some (.bool (a.contains k)):=by
 unfold jJ;rw[adG (show kY .int (.int .u32 (k:Nat))=true from rfl)];simp only[mapOf,h,ahH]
 grind
def atB{H:List ae}{id:Nat}{a:lN}(h:H[id]?=some (.map (a.map nC)))(k:Nat):ml ⟨H,lo⟩ .int (.mp id) (.int .u32 k) (.bool true)=some ⟨H.set id (.map ((mN a k).map nC)),lo⟩:=by
 unfold ml;simp only[h,ahI];rfl
theorem atC{a:lN}{k:Nat}:x∈mN a k↔x=k\/x∈a:=by
 unfold mN
 grind
def atD{l:lN}: ∀ {b:lN} {x:Nat},x∈l.foldl mN b↔x∈l\/x∈b:=by
 induction l with
 |nil=>simp
 |cons a l c=>grind [atC]
def xD(k:bo):Nat->Nat->Prop
 |0,_=>False
 |n+1,h=> ∀x∈Sz k h,xD k n x
def dD(k:bo)(N:Nat)(H:List ae)(m:lN):List ae:=H++[.box (bX k) none,.box sy none,.map (m.map nC),.box [.mp (N+2)] none,.box [.fn (.func 303) [] [.ptr (N+3) 0,.ptr N 0,.ptr (N+4) 0]] none]
def Cf{k:bo}{N:Nat}{H:List ae}(a:H.length=N)(m:lN): (dD k N H m).length=N+5:=by simp[dD,a]
def atE(h:Nat)(x:Tok)(p:Nat)(H:List ae)(a:H[p]?=some (.box [.int .u32 (h:Nat)] none))(lo:oN):
  D X (.fn (.func 304) [] [.ptr p 0]) [.agg (gh x)] ⟨H,lo⟩=some (.ret (.bool (decide (x.aU=h))) ⟨H,lo⟩):=by
 refine fJ Rw λN b=>?_
 have c: ∀L,(H++L)[p]?=_:=λL=>bf a
 simp only[F1,go_sem,simprocAttr,Rw,b,nA,c];exact dx (ag3 AV.bool (afB.2 (by omega))) rfl
def atF(k:bo)(A:ig k)(N:Nat)(H:List ae)(d:H.length=N): ∀ (n h:Nat),h<4294967296->xD k n h-> ∀ (m:lN) (L:List ae),
  D X (.fn (.func 303) [] [.ptr (N+3) 0,.ptr N 0,.ptr (N+4) 0]) [.int .u32 h] ⟨dD k N H m++L,none⟩=some (.ret (.az []) ⟨dD k N H ((ns k n h).foldl mN m)++L,none⟩):=by
 intro n
 induction n with
 |zero=>intro h _ u;exact u.elim
 |succ n C=>
  intro h R u m L;refine fJ Ru λM B=>?_
  have g:M=N+5+L.length:=by rw[<-B,aeb,Cf d]
  have O: ∀m a,(dD k N H m++a)[N]?=some (.box (bX k) none):=λm a=>by unfold dD;rw[adK,dI d];rfl
  have g2: ∀m a,(dD k N H m++a)[N+2]?=some (.map (m.map nC)):=λm a=>by unfold dD;rw[adK,bF d];rfl
  have K: ∀m a,(dD k N H m++a)[N+3]?=some (.box [.mp (N+2)] none):=λm a=>by unfold dD;rw[adK,bF d];rfl
  have J: ∀m a,(dD k N H m++a)[N+4]?=some (.box [.fn (.func 303) [] [.ptr (N+3) 0,.ptr N 0,.ptr (N+4) 0]] none):=λm a=>by unfold dD;rw[adK,bF d];rfl
  have gm: ∀m o,(dD k N H m++(L++[o]))[M]?=some o:=λm o=>by
   have:M=(dD k N H m++L).length:=by rw[g,aeb,Cf d]
   rw[<-adK,this];simp
  have s2: ∀m m' a,(dD k N H m++a).set (N+2) (.map (m'.map nC))=dD k N H m'++a:=λm m' a=>by unfold dD;rw[adK,mZ d,adK];rfl
  have tk: ∀m o,(dD k N H m++(L++[o])).take M=dD k N H m++L:=λm o=>by
   rw[<-adK];exact aoe (by rw[g,aeb,Cf d])
  have v: ∀m a lo,ml ⟨dD k N H m++a,lo⟩ .int (.mp (N+2)) (.int .u32 (h:Nat)) (.bool true)=some ⟨dD k N H (mN m h)++a,lo⟩:=λm a lo=>by rw[atB (g2 m a),s2]
  obtain⟨w,e1,r,e3⟩:=Ls (S:=Unit) k A (.fn (.func 304) [] [.ptr M 0]) (λx=>decide (x.aU=h)) (λs _=>s) () (M+1) (λ_=>dD k N H (mN m h)++(L++[.box [.int .u32 h] none])) (λ_=>by rw[g,aeb,Cf d];simp;omega)
   (λs x a _=>atE h x M _ (bf (gm _ _)) none) none
  simp only[go_sem,simprocAttr,Ru,B,O,K,gm,v,e1,r.bY,adK];obtain⟨b,c⟩: ∃b,b=Sz k h:=⟨_,rfl⟩;have i:sU k (λx=>decide (x.aU=h))=b:=c.symm;rw[i]at r⊢;have F:b.length<=32:=by rw[c];exact ag2 (aka _ _) (mG k.b)
  have z: ∀j,j<b.length->(b.take (j+1)).flatMap (ns k n)=(b.take j).flatMap (ns k n)++ns k n (b.getD j default):=λj y=>by
   rw[agR,adM y,alZ,getD_eq y];simp
  refine eN b.length (λj e H'=>H'=dD k N H (((b.take j).flatMap (ns k n)).foldl mN (mN m h))++(L++[.box [.int .u32 h] none])/\e 3= .ptr (N+4) 0/\e 11=w/\e 12= .int .i64 b.length/\e 13= .int .i64 j) 0 (by omega) ?_ ?_
  ·simp only[go_sem,simprocAttr];simp
  rintro j y e H' ⟨rfl,P,q,p,l⟩ Q E;simp only[cb,F1,go_sem,simprocAttr,afe,q,p,l];refine⟨λI=>?_,λI=>?_⟩
  ·have f:j<b.length:=by omega
   have hm:=fO f;have t:ar k.b (b.getD j default)=true:=(ia A.b).1 (by rw[c]at hm⊢;exact(afI.1 hm).1);have G:=C (b.getD j default) (fV t) (u _ (by rw[c]at hm⊢;exact hm)) (((b.take j).flatMap (ns k n)).foldl mN (mN m h)) (L++[.box [.int .u32 h] none]);simp(disch:=omega) only[go_sem,simprocAttr,r.cD,r.di,↓pH,P,q,p,l,J,G];refine⟨by omega,f,?_⟩;rw[z j f,amu]
  ·obtain rfl:j=b.length:=by omega
   rw[aft];simp only[go_sem,simprocAttr,tk];rw[c];rfl
def xE(k:bo)(h n:Nat):lN:=((bc k.b).take n).filter λx=>(ns k 16 h).contains x
def atG{k:bo}(a:n< (bc k.b).length):xE k h (n+1)=if(ns k 16 h).contains ((bc k.b).getD n default)then xE k h n++[(bc k.b).getD n default]else xE k h n:=by
 unfold xE;rw[agR,adM a,az2,getD_eq a]
 grind
def atH{k:bo}: (xE k h n).length<=n:=ag2 (aka _ _) (by grind)
def ahJ(k:bo)(A:ig k)(h:Nat)(Y:h<4294967296)(ht:ar k.b h=true->xD k 16 h)(H:List ae)(lo:oN):
  ∃w,D X (.fn (.func 269) [] []) [.agg (bX k),.int .u32 h] ⟨H,lo⟩=some (.ret (.az [.agg (bX (jB k h).1),w,.int .i64 (jB k h).2.2]) ⟨H,lo⟩):=by
 suffices hs: ∃z,D X (.fn (.func 269) [] []) [.agg (bX k),.int .u32 h] ⟨H,lo⟩=some z/\ (λz=> ∃w,z=aV.ret (.az [.agg (bX (jB k h).1),w,.int .i64 (jB k h).2.2]) ⟨H,lo⟩) z by
  obtain⟨z,h1,w,rfl⟩:=hs;exact⟨w,h1⟩
 refine cN Ks λN c=>?_
 have j:=λH lo=>up dC (eX k.b h Y H lo)
 cases y:ar k.b h with
 |false=>
  rw[y]at j;have V:jB k h=(k,[],4):=by unfold jB;rw[y];rfl
  simp only[F1,go_sem,simprocAttr,Ks,c,j,qd,V];exact⟨_,rfl⟩
 |true=>
  rw[y]at j;have V:jB k h=(nr k (rB k h),rB k h,0):=by unfold jB;rw[y];rfl
  have B:=atF k A N H c 16 h Y (ht y) [] [];have F: ∀m,dD k N H m=H++[.box (bX k) none,.box sy none,.map (m.map nC),.box [.mp (N+2)] none,.box [.fn (.func 303) [] [.ptr (N+3) 0,.ptr N 0,.ptr (N+4) 0]] none]:=λ_=>rfl
  rw[agT,agT,F []]at B;obtain⟨m,hm⟩: ∃m,m=(ns k 16 h).foldl mN []:=⟨_,rfl⟩;rw[<-hm]at B;obtain⟨v,J,i1,i2⟩:=SZ k.b A.b (N+5) (dD k N H m) (Cf c m) none;have C:D X (.fn (.func 56) [] []) [.agg (bU k.b)] ⟨dD k N H m,none⟩=some _:=rM (p:=me) rfl i1;have g0: ∀d,(dD k N H m++d)[N]?=some (.box (bX k) none):=λd=>by unfold dD;rw[adK,dI c];rfl
  have g:=(kT i2 none).bY;have I:max (N+3+1) (max (N+1) (N+4+1))<=N+4+1:=by omega
  simp only[aqr]at B;have P:N<=N+1:=Nat.le_succ N;have R: (dD k N H m)[N]?=some (.box (bX k) none):=by have:=g0 [];rwa[agT]at this
  simp only[go_sem,simprocAttr,Ks,c,j,B,C,g,I,P,R];have g1: ∀d,(dD k N H m++d)[N+1]?=some (.box sy none):=λd=>by unfold dD;rw[adK,bF c];rfl
  have g2: ∀d,(dD k N H m++d)[N+2]?=some (.map (m.map nC)):=λd=>by unfold dD;rw[adK,bF c];rfl
  have Z: ∀d,(dD k N H m++d)[N+3]?=some (.box [.mp (N+2)] none):=λd=>by unfold dD;rw[adK,bF c];rfl
  have K: ∀x,m.contains x=(ns k 16 h).contains x:=λx=>by
   rw[al4,atb,atb,hm,atD];simp
  have si:=mG k.b;refine eN (bc k.b).length (λn e H'=> ∃L,H'=dD k N H m++(J++L)/\ (∃l,e 9=l/\aT (N+5+J.length) H' l 1 bZ ((xE k h n).map hC))/\e 2= .ptr N 0/\e 4= .ptr (N+1) 0/\e 7= .ptr (N+3) 0/\e 25=v/\e 26= .int .i64 (bc k.b).length/\e 27= .int .i64 n) 0 (by omega) ?_ ?_
  ·simp only[go_sem,simprocAttr];exact⟨[],by simp,_,rfl,aT.av⟩
  rintro n hn e H' ⟨L,rfl,⟨l,S,a⟩,U,T,e7,t,s,r⟩ n' G8;simp only[cb,go_sem,simprocAttr,ae5,U,t,s,r];refine⟨λhc=>?_,λhc=>?_⟩
  ·have i:n< (bc k.b).length:=by omega
   have b:=atG (k:=k) (h:=h) i;have o:Rd ⟨dD k N H m++(J++L),none⟩ v 1 ((bc k.b).map hC):=kT (by have:=i2.ext (L:=L);rwa[adK]at this) none;have Q:=o.di (X:=X) (off:=0) (n:=1) (agg:=false) i;rw[pH]at Q;generalize(bc k.b).getD n default=x at*;have f: ∀gm,jJ gm ⟨dD k N H m++(J++L),none⟩ .int (.bool false) (.mp (N+2)) (.int .u32 (x:Nat)) false=some (.bool ((ns k 16 h).contains x)):=λgm=>by rw[atA (g2 _),K]
   have sh:=atH (k:=k) (h:=h) (n:=n);cases W: (ns k 16 h).contains x
   ·rw[W]at f b;simp(disch:=omega) only[go_sem,simprocAttr,U,T,e7,S,t,s,r,o.cD,Q,Z,f];rw[adE (by simp)]at b;exact⟨by omega,i,L,rfl,l,rfl,by rw[b];exact a⟩
   ·rw[W]at f b;simp only[go_sem,simprocAttr,e7,S,o.cD,Q,Z,f];refine⟨by omega,qQ (H0:=dD k N H m++J) (ys:=[[.int .u32 (x:Nat)]]) a ⟨_,adK _ _ _⟩ (by rw[aeb,Cf c]) (by omega) (by intro el O;rw[aeh.1 O];rfl) rfl (by unfold room;simp;omega) λv' H2 q G=>?_⟩;obtain⟨L2,rfl⟩:=G;simp(disch:=omega) only[go_sem,simprocAttr,U,T,e7,t,s,r];rw[adG rfl]at b;refine⟨i,L2,by simp,v',rfl,?_⟩;rw[b,afr];rwa[adK]at q
  ·obtain rfl:n=(bc k.b).length:=by omega
   have M:xE k h (bc k.b).length=rB k h:=by unfold xE rB;rw[aft]
   rw[M]at a;have E:=ahF k A l (rB k h) (dD k N H m++(J++L)) (kT a none) (λx hx=>fV ((ia A.b).1 (afI.1 hx).1)) (by have: (rB k h).length<=_:=aka _ _;omega) none;simp only[go_sem,simprocAttr,T,S,g0,g1,E,qd,de (g1 _)];have u:jb N H (dD k N H m++(J++L)):=by unfold dD;rw[adK];exact jb.app c
   have ho:aT N ((dD k N H m++(J++L)).set (N+1) (ae.box (bX (nr k (rB k h))) none)) l 1 bZ ((rB k h).map hC):=aT.nz (aT.le a (by omega)) (g1 _);rw[V,ahd (.inl rfl) ho ?_ ?_ ?_]
   ·exact⟨bw l ((rB k h).map hC),dx rfl ((u.set (by omega)).take c)⟩
   ·rw[bH (λ_=>rfl)];omega
   ·simp[AV.refs,KM]
   ·simp[AV.refs]
end Go.Proofs.YteplichagkpciaaGreatDoor
