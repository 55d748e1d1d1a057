/- What functions do; conditions as stated. -/
import Derived.Test.YteplichagkpciaaGreatDoorC
set_option linter.all false
set_option maxRecDepth 10000
set_option maxHeartbeats 1000000
namespace Go.Proofs.YteplichagkpciaaGreatDoor
open Go Go.Den
variable{α:Type}{f:FuncId}{i j n sz h a x ak b aa:Nat}{v:AV}{l:List α}{p:α->Bool}{pf:PF}{lo aj:oN}{af:List lA}
def adb:=@decide_eq_false
def aeH:=@List.mem_singleton
def aeX:=@List.mem_cons_self
def ae0:=@decide_eq_decide
def agq:=@Bool.false_and
def ah5:=@List.length_filter_le
def ake:=@List.set_set
def am6:=@List.take_left'
def anb:=@Bool.eq_iff_iff
def ang:=@List.foldl_append
def aoU:=@Int.natCast_add
def ao7:=@Int.cast_ofNat_Int
def aph:=@Bool.and_false
def apC:=@List.set_append_right
def apD:=@List.findIdx?_eq_some_iff_getElem
def apR:=@List.map_eq_nil_iff
def ara:=@List.getElem_of_mem
def arK:=@List.prefix_rfl
def ave:=@List.filter_append
def awM:=@Option.isSome_some
def awN:=@Option.isSome_none
def aBb:=@Bool.not_false
def aBc:=@List.length_pos_iff
def aBh:=@Nat.xor_lt_two_pow
def aBj:=@eq_true
def aBw:=@Nat.and_two_pow_sub_one_eq_mod
def aBB:=@List.drop_length
def ai{α:Type}(f:Nat->α)(i:Nat)(x:α):Nat->α:=λj=>if j=i then x else f j
theorem bI{f:Nat->α}{x:α}:ai f i x i=x:=ac6 rfl
theorem bA{f:Nat->α}{x:α}(h:j≠i):ai f i x j=f j:=ac0 h
def mM{f:Nat->α}:ai f i (f i)=f:=by
 unfold ai;grind
def rh{f:Nat->α}{x y:α}:ai (ai f i x) i y=ai f i y:=by
 unfold ai;grind
def pC{β:Type}(g:α->β)(f:Nat->α)(i:Nat)(x:α): (λj=>g (ai f i x j))=ai (λj=>g (f j)) i (g x):=by
 unfold ai;grind
def arr(n:Nat)(f:Nat->lA):lA:=(List.range n).flatMap f
theorem zd(n:Nat)(f:Nat->lA):arr (n+1) f=arr n f++f n:=by
 simp[arr,aoZ]
theorem BE{k:Nat}{f:Nat->lA}(h: ∀i,(f i).length=k): ∀n,(arr n f).length=n*k
 |0=>by simp[arr]
 |n+1=>by rw[zd,aeG,BE h n,h,apB]
theorem E2{f g:Nat->lA}: ∀ {n:Nat},(∀i,i<n->f i=g i)->arr n f=arr n g
 |0,_=>rfl
 |n+1,h=>by rw[zd,zd,E2 (n:=n) λi j=>h i (by omega),h n (by omega)]
def aqf(n m:Nat)(f:Nat->lA):arr (n+m) f=arr n f++arr m (λj=>f (n+j)):=by
 induction m with
 |zero=>simp[arr]
 |succ m h=>grind [Nat.add_assoc,zd,List.append_assoc]
def RE{f:Nat->lA}(h:i<n):arr n f=arr i f++(f i++arr (n-i-1) λj=>f (i+1+j)):=by
 obtain⟨m,rfl⟩: ∃m,n=i+1+m:=⟨n-i-1,by omega⟩;rw[aqf,zd,ac8,show i+1+m-i-1=m by omega]
theorem Kg{f:Nat->lA}(h: ∀i,aL (f i)=0): ∀n,aL (arr n f)=0
 |0=>rfl
 |n+1=>by
  rw[zd];have: ∀a b:lA,aL (a++b)=max (aL a) (aL b):=by
   intro a b
   induction a with
   |nil=>rfl
   |cons x a j=>simp[aL,j,Nat.max_assoc]
  rw[this,Kg h n,h];rfl
def E3(a b:lA):aL (a++b)=max (aL a) (aL b):=by
 induction a with
 |nil=>rfl
 |cons x a f=>simp[aL,f,Nat.max_assoc]
section
variable{ag:Bool}{m off:Nat}{a r vs:lA}
theorem jh(h:a.length<=off):Den.part ag m (a++r) off=Den.part ag m r (off-a.length):=by
 unfold Den.part;cases ag
 ·grind
 ·grind [List.drop_append,List.drop_eq_nil_of_le,List.length_append]
theorem ri(h:off+m<=a.length)(f:0<m):Den.part ag m (a++r) off=Den.part ag m a off:=by
 unfold Den.part
 grind
theorem BF(h:a.length=m):Den.part true m a 0=some (.agg a):=by
 unfold Den.part
 grind
def lq{k o:Nat}{f:Nat->lA}(h: ∀i,(f i).length=k)(j:i<n)(ho:o+m<=k)(l:0<m):Den.part ag m (arr n f) (i*k+o)=Den.part ag m (f i) o:=by
 rw[RE j,jh (by rw[BE h];omega),BE h,show i*k+o-i*k=o by omega,ri (by grind) l]
def ij(h:a.length<=off):aN (a++r) off vs=a++aN r (off-a.length) vs:=by
 unfold aN;rw[aAe,adz h,awx,ahz (by omega),agt,ac8,show off+vs.length-a.length=off-a.length+vs.length by omega]
def rj(h:off+vs.length<=a.length):aN (a++r) off vs=aN a off vs++r:=by
 unfold aN
 grind
def mN(h:a.length=vs.length):aN a 0 vs=vs:=by
 unfold aN
 grind
def ov{k o:Nat}{f:Nat->lA}(h: ∀i,(f i).length=k)(l:i<n)(ho:o+vs.length<=k):aN (arr n f) (i*k+o) vs=arr n (ai f i (aN (f i) o vs)):=by
 have e1:arr i (ai f i (aN (f i) o vs))=arr i f:=E2 λj q=>bA (by omega)
 have p: (arr (n-i-1) λj=>ai f i (aN (f i) o vs) (i+1+j))=arr (n-i-1) λj=>f (i+1+j):=E2 λj _=>bA (by omega)
 rw[RE (f:=ai f i (aN (f i) o vs)) l,bI,e1,p];rw[RE l,ij (by rw[BE h];omega),BE h,show i*k+o-i*k=o by omega,rj (by grind)]
end
def RF{ag:Bool}{k:Nat}{cs:lA}(f:k<n)(h:Den.part ag sz cs (k*sz)=some v):qu ag n sz (.agg cs) (.int .i64 k)=some v:=by
 have:qu ag n sz (.agg cs) (.int .i64 k)=if 0<=(k:Int)/\ (k:Int)<n then Den.part ag sz cs ((k:Int).toNat*sz)else none:=rfl
 grind
theorem aeE{id off:Nat}:Den.mD n (.ptr id off)= .rd id off (Nat.max n 1):=rfl
theorem aeF{id off:Nat}:Hm n (.ptr id off)= .wr id off n:=rfl
@[irreducible]def cat (H L:List ae):List ae:=H++L
section
variable{H L M:List ae}{a b c d e g x:ae}{n:Nat}
theorem fG:cat H L=H++L:=by unfold cat;rfl
def Kh: (cat H L).length=H.length+L.length:=by rw[fG,aeG]
def RG:cat H L++M=cat H (L++M):=by rw[fG,fG,ac8]
def ct2(h:H.length=n): (cat H L++M).take n=H:=by rw[fG,ac8];grind
def ct1(h:H.length=n): (cat H L).take n=H:=by rw[fG];grind
def cg0(h:H.length=n): (cat H (a::L)++M)[n]?=some a:=by rw[fG,ac8,dB h];rfl
def N2(h:H.length=n): (cat H (a::L)++M).set n x=cat H (x::L)++M:=by grind [fG,List.append_assoc,Hf]
def cp0(h:H.length=n): (cat H (a::L))[n]?=some a:=by rw[fG,dB h];rfl
def cq0(h:H.length=n): (cat H (a::L)).set n x=cat H (x::L):=by grind [fG,Hf]
def cg1(h:H.length=n): (cat H (a::b::L)++M)[n+1]?=some b:=by rw[fG,ac8,bM h];rfl
def cs1(h:H.length=n): (cat H (a::b::L)++M).set (n+1) x=cat H (a::x::L)++M:=by grind [fG,List.append_assoc,m7]
def cp1(h:H.length=n): (cat H (a::b::L))[n+1]?=some b:=by rw[fG,bM h];rfl
def cq1(h:H.length=n): (cat H (a::b::L)).set (n+1) x=cat H (a::x::L):=by grind [fG,m7]
def cg2(h:H.length=n): (cat H (a::b::c::L)++M)[n+2]?=some c:=by rw[fG,ac8,bM h];rfl
def cs2(h:H.length=n): (cat H (a::b::c::L)++M).set (n+2) x=cat H (a::b::x::L)++M:=by grind [fG,List.append_assoc,m7]
def cp2(h:H.length=n): (cat H (a::b::c::L))[n+2]?=some c:=by rw[fG,bM h];rfl
def cq2(h:H.length=n): (cat H (a::b::c::L)).set (n+2) x=cat H (a::b::x::L):=by grind [fG,m7]
def cg3(h:H.length=n): (cat H (a::b::c::d::L)++M)[n+3]?=some d:=by rw[fG,ac8,bM h];rfl
def cs3(h:H.length=n): (cat H (a::b::c::d::L)++M).set (n+3) x=cat H (a::b::c::x::L)++M:=by grind [fG,List.append_assoc,m7]
def cp3(h:H.length=n): (cat H (a::b::c::d::L))[n+3]?=some d:=by rw[fG,bM h];rfl
def cq3(h:H.length=n): (cat H (a::b::c::d::L)).set (n+3) x=cat H (a::b::c::x::L):=by grind [fG,m7]
def cg4(h:H.length=n): (cat H (a::b::c::d::e::L)++M)[n+4]?=some e:=by rw[fG,ac8,bM h];rfl
def cs4(h:H.length=n): (cat H (a::b::c::d::e::L)++M).set (n+4) x=cat H (a::b::c::d::x::L)++M:=by grind [fG,List.append_assoc,m7]
def cp4(h:H.length=n): (cat H (a::b::c::d::e::L))[n+4]?=some e:=by rw[fG,bM h];rfl
def cq4(h:H.length=n): (cat H (a::b::c::d::e::L)).set (n+4) x=cat H (a::b::c::d::x::L):=by grind [fG,m7]
def cg5(h:H.length=n): (cat H (a::b::c::d::e::g::L)++M)[n+5]?=some g:=by rw[fG,ac8,bM h];rfl
def cs5(h:H.length=n): (cat H (a::b::c::d::e::g::L)++M).set (n+5) x=cat H (a::b::c::d::e::x::L)++M:=by grind [fG,List.append_assoc,m7]
def cp5(h:H.length=n): (cat H (a::b::c::d::e::g::L))[n+5]?=some g:=by rw[fG,bM h];rfl
def cq5(h:H.length=n): (cat H (a::b::c::d::e::g::L)).set (n+5) x=cat H (a::b::c::d::e::x::L):=by grind [fG,m7]
end
structure Slot where
 gen:Nat
 da:Bool
 ret:Bool
 deriving DecidableEq,Inhabited
abbrev cN:=Nat->Slot
def jv(s:Slot):lA:=[.int .u32 s.gen,.bool s.da,.bool s.ret]
def b0(b:cN):lA:=arr 32 λi=>jv (b i)
theorem Ki(s:Slot): (jv s).length=3:=rfl
theorem ng(b:cN): (b0 b).length=96:=by rfl
theorem RH(b:cN):aL (b0 b)=0:=by rfl
section
variable{b:cN}{i:Nat}
theorem RI:Den.part true 96 (b0 b) 0=some (.agg (b0 b)):=by rfl
def ae5(h:i<32):Den.part true 3 (b0 b) (i*3)=some (.agg (jv (b i))):=lq (k:=3) (o:=0) (f:=λi=>jv (b i)) (λi=>Ki (b i)) h (by omega) (by omega)
def RJ(h:i<32):qu true 32 3 (.agg (b0 b)) (.int .i64 i)=some (.agg (jv (b i))):=RF h (ae5 h)
def ae6(h:i<32):Den.part false 1 (b0 b) (i*3)=some (.int .u32 (b i).gen):=lq (k:=3) (o:=0) (f:=λi=>jv (b i)) (λi=>Ki (b i)) h (by omega) (by omega)
def ae7(h:i<32):Den.part false 1 (b0 b) (i*3+1)=some (.bool (b i).da):=lq (k:=3) (o:=1) (f:=λi=>jv (b i)) (λi=>Ki (b i)) h (by omega) (by omega)
def RK{s:Slot}{o:Nat}{vs:lA}(h:i<32)(ho:o+vs.length<=3)(j:aN (jv (b i)) o vs=jv s):aN (b0 b) (i*3+o) vs=b0 (ai b i s):=by
 unfold b0;rw[ov (k:=3) (f:=λi=>jv (b i)) (λi=>Ki (b i)) h ho,j,pC]
theorem aqg{g:Nat}(h:i<32):aN (b0 b) (i*3) [.int .u32 g]=b0 (ai b i {b i with gen:=g}):=RK (o:=0) h (by simp) rfl
def aqh{g:Nat}(h:i<32):aN (b0 b) (i*3) [.int .u32 ((g:Int)+1)]=b0 (ai b i {b i with gen:=g+1}):=aqg (g:=g+1) h
theorem ae8{v:Bool}(h:i<32):aN (b0 b) (i*3+1) [.bool v]=b0 (ai b i {b i with da:=v}):=RK (o:=1) h (by simp) rfl
theorem aqi{v:Bool}(h:i<32):aN (b0 b) (i*3+2) [.bool v]=b0 (ai b i {b i with ret:=v}):=RK (o:=2) h (by simp) rfl
theorem ae9: (b0 b).take 96=b0 b:=by rfl
end
def eX(h:Nat):oN:=if 1<=h % 256/\h % 256<=32/\h/256<=8388607 then some (h % 256-1)else none
def dh(i f:Nat):Nat:=f*256+i+1
def afa(e:eX h=some i):i<32:=by
 unfold eX at e;grind
def Kj{f:Nat}(h:i<32)(j:f<=8388607):eX (dh i f)=some i:=by
 unfold eX dh
 grind
def afb{a b c:lA}(h:b=c):a++b=a++c:=by rw[h]
def aBr{a b c:lA}(h:b=c):b++a=c++a:=by rw[h]
abbrev aC:=Nat×Nat
structure cQ where
 up:Nat
 cF:Nat
 runs:List aC
 len:Nat
 cells:Nat->Nat
structure ar where
 b:cN
 r:Nat->cQ
structure Ow where
 kind:Nat
 aa:Nat
 hold:Nat
 deriving DecidableEq
structure Sd where
 root:Nat
 own:Ow
 deriving DecidableEq
abbrev bP:=Nat->Sd
structure Tok where
 aJ:Nat
 jz:Nat
 to:Nat
 mu:Bool
 aR:Nat
 deriving DecidableEq
structure bp where
 b:cN
 t:Nat->Tok
structure eY where
 fr:Nat
 word:Nat
 aJ:Nat
 share:Bool
 deriving DecidableEq
structure cA where
 ring:Nat->eY
 fr:Nat
 n:Nat
 closed:Bool
structure aZ where
 T:ar
 O:bP
 K:bp
 bw:Nat->cA
 alive:Nat->Bool
 born:Nat->Bool
structure ck where
 op:Nat
 r:Nat
 s:Nat
 a:Nat
 b:Nat
 v:Nat
 deriving DecidableEq
structure bE where
 e:Nat
 v:Nat
 w:Nat
 deriving DecidableEq
def aD(r:aC):lA:=[.int .i64 (r.1:Nat),.int .i64 (r.2:Nat)]
def eL(l:List aC):AV:=if l.isEmpty then .au else .sl (l.map aD) false
def b8(r:cQ):lA:=[.int .u32 r.up,.int .i64 r.cF,eL r.runs,.int .i64 r.len]++arr 8 λi=>[.int .u32 (r.cells i)]
def wZ(f:Nat->cQ):lA:=arr 32 λi=>b8 (f i)
def aM(t:ar):lA:=b0 t.b++wZ t.r
def kc(o:Ow):lA:=[.int .u8 o.kind,.int .u8 o.aa,.int .u8 o.hold]
def sI(x:Sd):lA:=[.int .u32 x.root,.int .u8 x.own.kind,.int .u8 x.own.aa,.int .u8 x.own.hold]
def cU(o:bP):lA:=arr 32 λi=>sI (o i)
def gk(x:Tok):lA:=[.int .u32 x.aJ,.int .u8 x.jz,.int .u8 x.to,.bool x.mu,.int .u32 x.aR]
def E4(f:Nat->Tok):lA:=arr 16 λi=>gk (f i)
def ch(k:bp):lA:=b0 k.b++E4 k.t
def eN(m:eY):lA:=[.int .u8 m.fr,.int .u64 m.word,.int .u32 m.aJ,.bool m.share]
def Kk(f:Nat->eY):lA:=arr 4 λi=>eN (f i)
def cG(b:cA):lA:=Kk b.ring++[.int .i64 b.fr,.int .i64 b.n,.bool b.closed]
def ze(f:Nat->cA):lA:=arr 8 λi=>cG (f i)
def pD(f:Nat->Bool):lA:=arr 8 λi=>[.bool (f i)]
def hH(T:ar)(O:bP)(K:bp):lA:=aM T++(cU O++ch K)
def bn(s:aZ):lA:=aM s.T++(cU s.O++(ch s.K++(ze s.bw++(pD s.alive++pD s.born))))
def bq(c:ck):lA:=[.int .u8 c.op,.int .u32 c.r,.int .u32 c.s,.int .u32 c.a,.int .u32 c.b,.int .u64 c.v]
def bB(r:bE):lA:=[.int .i64 r.e,.int .u64 r.v,.int .u32 r.w]
theorem zf(r:cQ): (b8 r).length=12:=by rfl
theorem aBs(f:Nat->cQ): (wZ f).length=384:=by rfl
theorem ji(t:ar): (aM t).length=480:=by rfl
theorem sJ(o:bP): (cU o).length=128:=by rfl
theorem aBt(f:Nat->Tok): (E4 f).length=80:=by rfl
theorem zg(k:bp): (ch k).length=176:=by rfl
theorem afc(f:Nat->eY): (Kk f).length=16:=by rfl
theorem zh(b:cA): (cG b).length=19:=by rfl
theorem mO(f:Nat->cA): (ze f).length=152:=by rfl
theorem vl(f:Nat->Bool): (pD f).length=8:=by rfl
theorem jA(T:ar)(O:bP)(K:bp): (hH T O K).length=784:=by simp only[hH,aeG,ji,sJ,zg]
def eg(s:aZ): (bn s).length=952:=by simp only[bn,aeG,ji,sJ,zg,mO,vl]
def RL(l:List aC): (eL l).refs=0:=by
 unfold eL;split
 ·rfl
 ·exact bL (λ_=>rfl) l
def aqj{g:Nat->AV}(h: ∀i,(g i).refs=0)(n:Nat):aL (arr n λi=>[g i])=0:=Kg (λi=>by simp[aL,h]) n
def RM(r:cQ):aL (b8 r)=0:=by
 rw[b8,E3,aqj (λ_=>rfl)];simp[aL,AV.refs,RL]
def aqk(f:Nat->cQ):aL (wZ f)=0:=Kg (λi=>RM (f i)) 32
def w4(t:ar):aL (aM t)=0:=by rw[aM,E3,RH,aqk];rfl
theorem RN(o:bP):aL (cU o)=0:=by rfl
theorem Kl(k:bp):aL (ch k)=0:=by rfl
theorem afd(b:cA):aL (cG b)=0:=by rfl
theorem aql(f:Nat->cA):aL (ze f)=0:=by rfl
theorem aqm(f:Nat->Bool):aL (pD f)=0:=by rfl
def kH(s:aZ):aL (bn s)=0:=by simp only[bn,E3,w4,RN,Kl,aql,aqm];rfl
def nh(l:List aC):Rv (eL l) 2 (l.map aD):=by
 cases l with
 |nil=>exact .au
 |cons a l=>exact .sl (by intro el h;obtain⟨x,_,rfl⟩:=aeO.1 h;rfl)
def Km{ag:Bool}{m:Nat}{a b r:lA}{off:Nat}(c:a.length=off):Den.part ag m (a++r) off=Den.part ag m r 0:=by grind [jh]
theorem vm{m:Nat}{a r:lA}(c:a.length=m)(b:0<m):Den.part true m (a++r) 0=some (.agg a):=by grind [ri,BF]
section
variable{ag:Bool}{m o i:Nat}
theorem afe{r:cQ}:Den.part false 1 (b8 r) 0=some (.int .u32 r.up):=rfl
theorem aff{r:cQ}:Den.part false 1 (b8 r) 1=some (.int .i64 r.cF):=rfl
theorem afg{r:cQ}:Den.part false 1 (b8 r) 2=some (eL r.runs):=rfl
theorem afh{r:cQ}:Den.part false 1 (b8 r) 3=some (.int .i64 r.len):=rfl
theorem afi{r:cQ}:Den.part true 2 (b8 r) 2=some (.agg [eL r.runs,.int .i64 r.len]):=rfl
theorem Kn{r:cQ}:Den.part true 8 (b8 r) 4=some (.agg (arr 8 λi=>[.int .u32 (r.cells i)])):=by rfl
theorem afj{t:ar}:Den.part true 96 (aM t) 0=some (.agg (b0 t.b)):=by rfl
theorem afk{t:ar}:Den.part true 480 (aM t) 0=some (.agg (aM t)):=by rfl
def afl{t:ar}(h:i<32)(ho:o+m<=12)(a:0<m):Den.part ag m (aM t) (96+i*12+o)=Den.part ag m (b8 (t.r i)) o:=by
 unfold aM;rw[jh (by rw[ng];omega),ng,show 96+i*12+o-96=i*12+o by omega];exact lq (k:=12) (f:=λi=>b8 (t.r i)) (λi=>zf _) h ho a
def aqn{t:ar}(h:i<32):Den.part true 12 (aM t) (96+i*12)=some (.agg (b8 (t.r i))):=by
 have:=afl (ag:=true) (m:=12) (o:=0) (t:=t) h (by omega) (by omega);rw[aeS]at this;rw[this,BF (zf _)]
def RP{t:ar}(h:i<32):Den.part false 1 (aM t) (96+i*12)=some (.int .u32 (t.r i).up):=afl (o:=0) h (by omega) (by omega)
def Ko{t:ar}{r:cQ}(h:i<32):aN (aM t) (96+i*12) (b8 r)=aM {t with r:=ai t.r i r}:=by
 unfold aM;rw[ij (by rw[ng];omega),ng,show 96+i*12-96=i*12+0 by omega];unfold wZ;rw[ov (k:=12) (f:=λi=>b8 (t.r i)) (λi=>zf _) h (by rw[zf];omega),mN (by rfl),pC]
def afm{t:ar}{u:Nat}(h:i<32):aN (aM t) (96+i*12) [.int .u32 u]=aM {t with r:=ai t.r i {t.r i with up:=u}}:=by
 unfold aM;rw[ij (by rw[ng];omega),ng,show 96+i*12-96=i*12+0 by omega];unfold wZ;rw[ov (k:=12) (f:=λi=>b8 (t.r i)) (λi=>zf _) h (by simp),pC];rfl
theorem aqo{r:cQ}{u:Nat}:aN (b8 r) 0 [.int .u32 u]=b8 {r with up:=u}:=rfl
def afn{r:cQ}{u:Nat}(h:i<8):aN (b8 r) (4+i) [.int .u32 u]=b8 {r with cells:=ai r.cells i u}:=by
 unfold b8;rw[ij (by simp)];refine afb ?_;have:=ov (n:=8) (k:=1) (i:=i) (o:=0) (vs:=[AV.int .u32 u]) (f:=λi=>[AV.int .u32 (r.cells i)]) (λ_=>rfl) h (by simp);rw[show 4+i- [AV.int .u32 r.up,.int .i64 r.cF,eL r.runs,.int .i64 r.len].length=i*1+0 by simp,this];exact ahR (arr 8) (pC (λu:Nat=>[AV.int .u32 u]) r.cells i u).symm
def afo{w:bP}(h:i<32)(ho:o+m<=4)(a:0<m):Den.part ag m (cU w) (i*4+o)=Den.part ag m (sI (w i)) o:=
 lq (k:=4) (f:=λi=>sI (w i)) (λ_=>rfl) h ho a
theorem afp{w:bP}:Den.part true 128 (cU w) 0=some (.agg (cU w)):=by rfl
def afq{w:bP}(h:i<32):Den.part false 1 (cU w) (i*4)=some (.int .u32 (w i).root):=afo (o:=0) h (by omega) (by omega)
def aqp{w:bP}(h:i<32):Den.part true 3 (cU w) (i*4+1)=some (.agg (kc (w i).own)):=afo (o:=1) h (by omega) (by omega)
def aqq{w:bP}{x:Sd}(h:i<32):aN (cU w) (i*4) (sI x)=cU (ai w i x):=by
 have:=ov (n:=32) (k:=4) (i:=i) (o:=0) (vs:=sI x) (f:=λi=>sI (w i)) (λ_=>rfl) h (by simp[sI]);unfold cU;rw[show i*4=i*4+0 by omega,this,mN (a:=sI (w i)) (vs:=sI x) rfl,pC]
theorem afr{k:bp}:Den.part true 96 (ch k) 0=some (.agg (b0 k.b)):=by rfl
theorem RQ{k:bp}:Den.part true 176 (ch k) 0=some (.agg (ch k)):=by rfl
def aqr{f:Nat->Tok}(h:i<16):Den.part true 5 (E4 f) (i*5)=some (.agg (gk (f i))):=
 lq (k:=5) (o:=0) (f:=λi=>gk (f i)) (λ_=>rfl) h (by omega) (by omega)
def aqs{k:bp}(h:i<16):Den.part true 5 (ch k) (96+i*5)=some (.agg (gk (k.t i))):=by
 unfold ch;rw[jh (by rw[ng];omega),ng,show 96+i*5-96=i*5 by omega];exact aqr h
theorem afs{k:bp}{b:cN}:aN (ch k) 0 (b0 b)=ch {k with b:=b}:=by rfl
def aqt{k:bp}{x:Tok}(h:i<16):aN (ch k) (96+i*5) (gk x)=ch {k with t:=ai k.t i x}:=by
 unfold ch;rw[ij (by rw[ng];omega),ng,show 96+i*5-96=i*5+0 by omega];unfold E4;rw[ov (k:=5) (f:=λi=>gk (k.t i)) (λ_=>rfl) h (by simp[gk]),mN (a:=gk (k.t i)) (vs:=gk x) rfl,pC]
def aqu{f:Nat->eY}(h:i<4):Den.part true 4 (Kk f) (i*4)=some (.agg (eN (f i))):=
 lq (k:=4) (o:=0) (f:=λi=>eN (f i)) (λ_=>rfl) h (by omega) (by omega)
theorem rk{b:cA}:Den.part true 19 (cG b) 0=some (.agg (cG b)):=by rfl
def aft{b:cA}(h:i<4):Den.part true 4 (cG b) (i*4)=some (.agg (eN (b.ring i))):=by
 unfold cG;rw[ri (by rw[afc];omega) (by omega)];exact aqu h
theorem afu{b:cA}:Den.part false 1 (cG b) 16=some (.int .i64 b.fr):=by rfl
theorem BG{b:cA}:Den.part false 1 (cG b) 17=some (.int .i64 b.n):=by rfl
theorem zi{b:cA}:Den.part false 1 (cG b) 18=some (.bool b.closed):=by rfl
def aqv{b:cA}{x:eY}(h:i<4):aN (cG b) (i*4) (eN x)=cG {b with ring:=ai b.ring i x}:=by
 unfold cG;rw[rj (by rw[afc];simp[eN];omega)];unfold Kk;rw[show i*4=i*4+0 by omega,ov (k:=4) (f:=λi=>eN (b.ring i)) (λ_=>rfl) h (by simp[eN]),mN (a:=eN (b.ring i)) (vs:=eN x) rfl,pC]
theorem aqw{b:cA}:aN (cG b) 16 [.int .i64 x]=cG {b with fr:=x}:=by rfl
theorem afv{b:cA}:aN (cG b) 17 [.int .i64 x]=cG {b with n:=x}:=by rfl
theorem aqx{b:cA}{x:Bool}:aN (cG b) 18 [.bool x]=cG {b with closed:=x}:=by rfl
def afw{f:Nat->Bool}(h:i<8):Den.part false 1 (pD f) i=some (.bool (f i)):=by
 have:=lq (ag:=false) (m:=1) (n:=8) (k:=1) (i:=i) (o:=0) (f:=λi=>[AV.bool (f i)]) (λ_=>rfl) h (by omega) (by omega);rw[show i*1+0=i by omega]at this;exact this
def aqy{f:Nat->cA}(h:i<8):Den.part true 19 (ze f) (i*19)=some (.agg (cG (f i))):=by
 have:=lq (ag:=true) (m:=19) (n:=8) (k:=19) (i:=i) (o:=0) (f:=λi=>cG (f i)) (λ_=>zh _) h (by omega) (by omega);exact this.trans rk
def pE{T:ar}{O:bP}{K:bp}:Den.part true 480 (hH T O K) 0=some (.agg (aM T)):=vm (ji _) (by omega)
theorem pF{T:ar}{O:bP}{K:bp}:Den.part true 128 (hH T O K) 480=some (.agg (cU O)):=by
 unfold hH;rw[Km (b:=[]) (ji _)];exact vm (sJ _) (by omega)
theorem rl{T:ar}{O:bP}{K:bp}:Den.part true 176 (hH T O K) 608=some (.agg (ch K)):=by
 unfold hH;rw[jh (by rw[ji];omega),ji,Km (b:=[]) (sJ _)];exact RQ
theorem mP(s:aZ):bn s=hH s.T s.O s.K++(ze s.bw++(pD s.alive++pD s.born)):=by simp[bn,hH]
theorem RR{s:aZ}:Den.part true 784 (bn s) 0=some (.agg (hH s.T s.O s.K)):=by grind [mP,vm,jA]
theorem RS{s:aZ}:Den.part true 952 (bn s) 0=some (.agg (bn s)):=BF (eg s)
theorem RT{s:aZ}:Den.part true 480 (bn s) 0=some (.agg (aM s.T)):=vm (ji _) (by omega)
theorem Kq{s:aZ}:Den.part true 128 (bn s) 480=some (.agg (cU s.O)):=by grind [mP,ri,jA,pF]
theorem Kr{s:aZ}:Den.part true 176 (bn s) 608=some (.agg (ch s.K)):=by grind [mP,ri,jA,rl]
theorem aqz{s:aZ}(h:i<8):Den.part true 19 (bn s) (784+i*19)=some (.agg (cG (s.bw i))):=by
 rw[mP,jh (by rw[jA];omega),jA,show 784+i*19-784=i*19 by omega,ri (by rw[mO];omega) (by omega)];exact aqy h
def aqA{s:aZ}:Den.part true 152 (bn s) 784=some (.agg (ze s.bw)):=by
 rw[mP,Km (b:=[]) (jA _ _ _)];exact vm (mO _) (by omega)
theorem afx{s:aZ}(h:i<8):Den.part false 1 (bn s) (936+i)=some (.bool (s.alive i)):=by
 rw[mP,jh (by rw[jA];omega),jA,jh (by rw[mO];omega),mO,show 936+i-784-152=i by omega,ri (by trivial) (by omega)];exact afw h
def aqB{s:aZ}:Den.part true 8 (bn s) 936=some (.agg (pD s.alive)):=by
 rw[mP,jh (by rw[jA];omega),jA,Km (b:=[]) (mO _)];exact vm (vl _) (by omega)
theorem aqC{s:aZ}(h:i<8):Den.part false 1 (bn s) (944+i)=some (.bool (s.born i)):=by
 rw[mP,jh (by rw[jA];omega),jA,jh (by rw[mO];omega),mO,jh (by rw[vl];omega),vl,show 944+i-784-152-8=i by omega];exact afw h
def aqD{s:aZ}:Den.part true 8 (bn s) 944=some (.agg (pD s.born)):=by
 rw[mP,jh (by rw[jA];omega),jA,jh (by rw[mO];omega),mO,jh (by rw[vl];omega),vl];exact BF (vl _)
def aqE{s:aZ}{t:ar}:aN (bn s) 0 (aM t)=bn {s with T:=t}:=by
 unfold bn;rw[rj (by grind [ji]),mN (by rw[ji,ji])]
def aqF{s:aZ}{w:bP}:aN (bn s) 480 (cU w)=bn {s with O:=w}:=by
 unfold bn;rw[ij (by rw[ji];omega),ji,rj (by grind [sJ]),mN (by rfl)]
def aqG{s:aZ}{k:bp}:aN (bn s) 608 (ch k)=bn {s with K:=k}:=by
 unfold bn;rw[ij (by rw[ji];omega),ji,ij (by rw[sJ];omega),sJ,rj (by rw[zg,zg];omega),mN (by rfl)]
def aqH{s:aZ}{b:cA}(h:i<8):aN (bn s) (784+i*19) (cG b)=bn {s with bw:=ai s.bw i b}:=by
 rw[mP,ij (by rw[jA];omega),jA,show 784+i*19-784=i*19+0 by omega,rj (by rw[mO,zh];omega),mP];unfold ze;rw[ov (k:=19) (f:=λi=>cG (s.bw i)) (λ_=>zh _) h (by rw[zh];omega),mN (by rfl),pC]
def afy{f:Nat->Bool}{v:Bool}(h:i<8):aN (pD f) i [.bool v]=pD (ai f i v):=by
 have:=ov (n:=8) (k:=1) (i:=i) (o:=0) (vs:=[AV.bool v]) (f:=λi=>[AV.bool (f i)]) (λ_=>rfl) h (by simp);rw[show i*1+0=i by omega]at this;unfold pD;rw[this];exact ahR (arr 8) (pC (λv:Bool=>[AV.bool v]) f i v).symm
def afz{s:aZ}{v:Bool}(h:i<8):aN (bn s) (936+i) [.bool v]=bn {s with alive:=ai s.alive i v}:=by
 rw[mP,ij (by rw[jA];omega),jA,ij (by rw[mO];omega),mO,show 936+i-784-152=i by omega,rj (by trivial),afy h,mP]
def afA{s:aZ}{v:Bool}(h:i<8):aN (bn s) (944+i) [.bool v]=bn {s with born:=ai s.born i v}:=by
 rw[mP,ij (by rw[jA];omega),jA,ij (by rw[mO];omega),mO,ij (by rw[vl];omega),vl,show 944+i-784-152-8=i by omega,afy h,mP]
end
theorem afB{t:ar}: (aM t).take 480=aM t:=by rfl
theorem afC{k:bp}: (ch k).take 176=ch k:=by rfl
theorem afD{r:cQ}:Den.part true 12 (b8 r) 0=some (.agg (b8 r)):=by rfl
theorem afE{t:ar}:List.drop 96 (aM t)=wZ t.r:=by rfl
theorem afF{b:cN}{r:Nat->cQ}:b0 b++wZ r=aM ⟨b,r⟩:=rfl
theorem afG{u:Nat}{r:cQ}:AV.int .u32 (u:Nat)::List.drop 1 (b8 r)=b8 {r with up:=u}:=rfl
theorem afH{b:cN}{f:Nat->Tok}:b0 b++E4 f=ch ⟨b,f⟩:=rfl
theorem RU(r:aC): (aD r).length=2:=rfl
theorem afI{r:aC}:Den.part false 1 (aD r) 0=some (.int .i64 (r.1:Nat)):=rfl
theorem afJ{r:aC}:Den.part false 1 (aD r) 1=some (.int .i64 (r.2:Nat)):=rfl
theorem RW{r:aC}:Den.part true 2 (aD r) 0=some (.agg (aD r)):=rfl
theorem afK{r:aC}: (aD r).take 2=aD r:=rfl
theorem afL{r:aC}: (aD r).drop 2=[]:=rfl
theorem afM(r:aC):aL (aD r)=0:=rfl
def ML:=gG @RU<|gG @afK<|gG @afL<|gG @afM<|gG @afE<|gG @afF<|gG @afG<|gG @afH<|gG @ae9<|gG @ng<|gG @RH<|gG @afB<|gG @ji<|gG @w4<|gG @zf<|gG @RM<|gG @sJ<|gG @RN<|gG @afC<|gG @zg @Kl
def MP:=gG @afI<|gG @afJ<|gG @RW<|gG @RI<|gG @afe<|gG @aff<|gG @afg<|gG @afh<|gG @afi<|gG @afD<|gG @afj<|gG @afk<|gG @afp<|gG @afr @RQ
def Zz:type_of% @R2/\type_of% @C1/\type_of% @P1/\type_of% @N1/\type_of% @O1/\type_of% @V1/\type_of% @V2/\type_of% @V3/\type_of% @wrap_i64/\type_of% @wrap_u64/\type_of% @wrap_u8/\type_of% @wrap_u16/\type_of% @wrap_u32/\type_of% @wrap_i32/\type_of% @dB/\type_of% @bM/\type_of% @Hf/\type_of% @m7/\type_of% @mC/\type_of% @Yz/\type_of% @acO/\type_of% @Option.isSome_some.{0}/\type_of% @Option.isSome_none.{0}/\type_of% @Option.getD_some.{0}/\type_of% @Option.getD_none.{0}/\type_of% @Bool.not_true/\type_of% @Bool.not_false/\type_of% @cg0/\type_of% @cg1/\type_of% @cg2/\type_of% @cg3/\type_of% @cg4/\type_of% @cg5/\type_of% @N2/\type_of% @cs1/\type_of% @cs2/\type_of% @cs3/\type_of% @cs4/\type_of% @cs5/\type_of% @ct2/\type_of% @ct1/\type_of% @cp0/\type_of% @cp1/\type_of% @cp2/\type_of% @cp3/\type_of% @cp4/\type_of% @cp5/\type_of% @cq0/\type_of% @cq1/\type_of% @cq2/\type_of% @cq3/\type_of% @cq4/\type_of% @cq5/\type_of% @List.getElem?_set_ne.{0}/\type_of% @Q1/\type_of% @G1/\type_of% @Ho/\type_of% @Hp/\type_of% @Hq/\type_of% @Hr/\type_of% @Hs/\type_of% @Ht/\type_of% @Hu/\type_of% @Hv/\type_of% @Hw/\type_of% @Hx/\type_of% @ML/\type_of% @List.length_take.{0}/\type_of% @Nat.min_self/\type_of% @List.append_nil.{0}/\type_of% @Nat.zero_le/\type_of% @Nat.add_zero/\type_of% @Nat.zero_add/\type_of% @Nat.le_refl/\type_of% @and_true/\type_of% @true_and/\type_of% @if_true.{1}:=
 ⟨@R2,@C1,@P1,@N1,@O1,@V1,@V2,@V3,@wrap_i64,@wrap_u64,@wrap_u8,@wrap_u16,@wrap_u32,@wrap_i32,@dB,@bM,@Hf,@m7,@mC,@Yz,@acO,@awM.{0},@awN.{0},@aj3.{0},@azN.{0},@awD,@aBb,@cg0,@cg1,@cg2,@cg3,@cg4,@cg5,@N2,@cs1,@cs2,@cs3,@cs4,@cs5,@ct2,@ct1,@cp0,@cp1,@cp2,@cp3,@cp4,@cp5,@cq0,@cq1,@cq2,@cq3,@cq4,@cq5,@ach.{0},@Q1,@G1,@Ho,@Hp,@Hq,@Hr,@Hs,@Ht,@Hu,@Hv,@Hw,@Hx,@ML,@af9.{0},@aAO,@agc.{0},@adC,@aeS,@aka,@adA,@anj,@aA4,@ae4.{1}⟩
attribute [go_sem] Zz aeE aeF
attribute [go_sem ↓] R1 MP Int.cast_ofNat_Int
def aq(b:cN)(h:Nat):Bool:=match eX h with
 |some i=>decide (b i=⟨h/256,true,false⟩)
 |none=>false
def aI(h:Nat):Nat:=(eX h).getD 0
def ni(b:cN)(i:Nat):Bool:=!(b i).da&& !(b i).ret
def nj(b:cN):oN:=(List.range 32).find? (ni b)
def pG(b:cN):cN×Nat×Bool:=match nj b with
 |some i=>(ai b i {b i with da:=true},dh i (b i).gen,true)
 |none=>(b,0,false)
def nm(s:Slot):Slot:=if s.gen=8388607 then⟨s.gen,false,true⟩else⟨s.gen+1,false,s.ret⟩
def dC(b:cN)(h:Nat):cN×Bool:=if aq b h then(ai b (aI h) (nm (b (aI h))),true)else(b,false)
def bt(b:cN):lN:=((List.range 32).filter λi=>(b i).da).map λi=>dh i (b i).gen
def ke(r:aC):Bool:=decide (1<=r.2)&&decide (r.1+r.2<=64)
def gJ(x:aC)(b:Bool)(a:List aC):List aC->Option (List aC)
 | []=>some (if b then a else a++[x])
 |y::ys=>
  if y.1+y.2<x.1 then gJ x b (a++[y]) ys
  else if x.1+x.2<y.1 then gJ x true (a++(if b then[]else[x])++[y]) ys
  else if y.1+y.2=x.1 then gJ (y.1,y.2+x.2) b a ys
  else if y.1=x.1+x.2 then gJ (x.1,x.2+y.2) b a ys
  else none
def gL(l:List aC)(x:aC):Option (List aC):=if ke x then gJ x false [] l else none
def kI:List aC->List aC->Option (List aC)
 |all,[]=>some all
 |all,x::xs=>match gL all x with
  |some a=>kI a xs
  |none=>none
def aS(l:List aC):Nat:=(l.map (·.2)).sum
def ma(a:List aC)(len:Nat):Bool:=(kI [] a).isSome&&decide (len<=aS a*32)
def cY:cQ:=⟨0,0,[],0,λ_=>0⟩
def ar.aq(t:ar)(h:Nat):Bool:=Go.Proofs.YteplichagkpciaaGreatDoor.aq t.b h
def iO(t:ar)(i:Nat):Nat:=if t.aq (t.r i).up then(t.r i).up else 0
def aE(t:ar)(h:Nat):cQ×Nat:=if t.aq h then({t.r (aI h)with up:=iO t (aI h)},0)else(cY,4)
def kf(t:ar)(up n:Nat):ar×Nat×Nat:=
 if up≠0/\t.aq up=false then(t,0,4)
 else if 64<n then(t,0,2)
 else match nj t.b with
  |some i=>({b:=ai t.b i {t.b i with da:=true},r:=ai t.r i {cY with up:=up,cF:=n}},dh i (t.b i).gen,0)
  |none=>(t,0,7)
def fj(t:ar)(h:Nat):ar×Nat:=
 if t.aq h then({b:=(dC t.b h).1,r:=ai t.r (aI h) cY},0)else(t,4)
def ed(t:ar)(h:Nat)(r:cQ):ar×Nat:=
 if t.aq h=false then(t,4)
 else if 64<r.cF\/ma r.runs r.len=false then(t,2)
 else({t with r:=ai t.r (aI h) {r with up:=(t.r (aI h)).up}},0)
def bD(t:ar)(h:Nat):Nat:=if t.aq h then iO t (aI h)else 0
def eO(t:ar):Nat->Nat->lN
 |0,_=>[]
 |n+1,h=>if bD t h=0 then[]else bD t h::eO t n (bD t h)
def aR(t:ar)(h:Nat):lN:=eO t 32 h
def jB(t:ar)(h up:Nat):ar×Nat:=
 if t.aq h=false\/ (up≠0/\t.aq up=false)then(t,4)
 else if up≠0/\h∈up::aR t up then(t,12)
 else({t with r:=ai t.r (aI h) {t.r (aI h)with up:=up}},0)
def depth(t:ar)(h:Nat):Nat:=if t.aq h then 1+(aR t h).length else 0
def root(t:ar)(h:Nat):Nat:=if t.aq h then(aR t h).getLastD h else 0
def kJ(t:ar)(a b:Nat):Bool:=t.aq a&&t.aq b&& (decide (a=b)|| (aR t b).contains a)
def kids(t:ar)(h:Nat):lN:=if t.aq h then(bt t.b).filter (λx=>bD t x=h)else[]
def iP(t:ar):Nat->Nat->lN
 |0,h=>[h]
 |n+1,h=>h:: (kids t h).flatMap (iP t n)
def under(t:ar)(h:Nat):lN:=if t.aq h then iP t 32 h else[]
def eZ(t:ar)(a n:Nat):ar×Nat×Nat:=
 let x:=kf t a n
 if(x.2.2=0\/x.2.2=7)/\6<=depth t a then(t,0,8)else x
def vo(t0:ar)(h:Nat)(t:ar)(x:Nat):ar:=
 let r:=(aE t x).1
 (ed t x {r with cells:=λi=>if r.cells i≠h/\kJ t0 (r.cells i) h then 0 else r.cells i}).1
def iA(t:ar)(h:Nat):ar×Nat:=
 if t.aq h=false then(t,4)else jB ((iP t 32 h).foldl (vo t h) t) h 0
def sK(t:ar)(h:Nat):Nat:=(iP t 32 h).foldl (λn x=>max n (depth t x-depth t h+1)) 0
def mQ(t:ar)(h a:Nat):ar×Nat:=
 if t.aq h=false\/t.aq a=false then(t,4)
 else if root t h≠h\/kJ t h a then(t,12)
 else if 6<depth t a+sK t h then(t,8)
 else jB t h a
def ik(t:ar)(h:Nat):ar×lN×Nat:=
 if under t h=[]then(t,[],4)else((under t h).foldl (λt x=>(fj t x).1) t,under t h,0)
def vq:Ow:=⟨0,0,0⟩
def bH(o:bP)(t:ar)(h:Nat):Ow:=match eX (root t h)with
 |some i=>if(o i).root=root t h then(o i).own else vq
 |none=>vq
def eP(o:bP)(t:ar)(r:Nat)(aa:Nat)(x:Ow):bP×Nat:=
 if t.aq r=false then(o,4)
 else if root t r≠r then(o,12)
 else if 8<=aa then(o,2)
 else(ai o (aI r) ⟨r,x⟩,0)
def ow(o:bP)(t:ar)(r aa:Nat):bP×Nat:=eP o t r aa ⟨1,aa % 256,0⟩
def vt(o:bP)(t:ar)(r:Nat):bP×Nat:=eP o t r 0 ⟨2,0,0⟩
def eU(aa:Nat):Nat:=2^(aa % 8)
def zj(o:bP)(t:ar)(r aa:Nat):bP×Nat:=eP o t r aa ⟨3,0,eU aa⟩
def fT(x aa:Nat):Bool:=x.testBit (aa % 8)
def db(o:bP)(t:ar)(r aa:Nat)(hold:Bool):bP×Nat×Nat:=
 let x:=bH o t r
 let e:=(eP o t r aa x).2
 if e=4\/ (t.aq r=true/\root t r≠r)then(o,0,e)
 else if x.kind≠3 then(o,0,12)
 else if e≠0 then(o,0,e)
 else if fT x.hold aa&&hold then(o,0,7)
 else if !fT x.hold aa&& !hold then(o,0,5)
 else((eP o t r aa {x with hold:=x.hold^^^eU aa}).1,x.hold^^^eU aa,(eP o t r aa {x with hold:=x.hold^^^eU aa}).2)
def Ks:Tok:=⟨0,0,0,false,0⟩
def cq(k:bp)(h:Nat):Tok×Nat:=if aq k.b h then(k.t (aI h),0)else(Ks,4)
def sL(k:bp)(p:Tok->Bool):lN:=(bt k.b).filter λh=>p (cq k h).1
def isRight(b a:Nat)(x:Tok):Bool:=decide (x.aJ=b)&&decide (x.aR=a)
def BH(k:bp)(b a:Nat):Nat:=(sL k (isRight b a)).length
def sM(k:bp)(b a:Nat):Bool:=(bt k.b).any λh=>isRight b a (cq k h).1&& (cq k h).1.mu
def nq(k:bp)(h:Nat):Bool:=decide (h=0)||aq k.b h
def pJ(k:bp)(x:Tok):Nat:=
 if nq k x.aR=false then 4
 else if 8<=x.jz\/8<=x.to\/x.jz=x.to\/x.aJ=0 then 2
 else if x.aR≠0/\ ((cq k x.aR).1.aJ≠x.aJ\/ (cq k x.aR).1.to≠x.jz\/ (x.mu=true/\ (cq k x.aR).1.mu=false))then 12
 else if sM k x.aJ x.aR=true\/ (x.mu=true/\0<BH k x.aJ x.aR)then 5
 else 0
def lr(k:bp)(x:Tok):bp×Nat×Nat:=
 if pJ k x≠0 then(k,0,pJ k x)
 else match nj k.b with
  |some i=>if i<16 then({b:=ai k.b i {k.b i with da:=true},t:=ai k.t i x},dh i (k.b i).gen,0)else(k,0,7)
  |none=>(k,0,7)
def iB(b:cN):Prop:= ∀i,(b i).gen<=8388607/\ ((b i).da=true->(b i).ret=false)
def E5(e:eX h=some i):i<32/\h/256<=8388607/\h % 256=i+1/\h<2147483648:=by
 unfold eX at e;grind
def vu(h:Nat):aI h<32:=by
 unfold aI;cases e:eX h with
 |none=>simp
 |some i=>exact(E5 e).1
theorem BI(e:eX h=some i):aI h=i:=by simp[aI,e]
theorem RX(e:eX h=some i):dh i (h/256)=h:=by
 have:=E5 e;unfold dh;omega
theorem lu{b:cN}:aq b h=true↔ ∃i,eX h=some i/\b i=⟨h/256,true,false⟩:=by
 unfold aq
 grind
def gl{b:cN}(a:aq b h=true):h<4294967296:=by
 obtain⟨i,e,_⟩:=lu.1 a;have:=E5 e;omega
def Kt{b:cN}(a:aq b h=true):h≠0:=by
 obtain⟨i,e,_⟩:=lu.1 a;have:=E5 e;omega
theorem aqI(b:cN):aq b 0=false:=by rfl
def sO{b:cN}(a:aq b h=true):eX h=some (aI h)/\b (aI h)=⟨h/256,true,false⟩/\dh (aI h) (h/256)=h:=by grind [lu,BI,RX]
theorem RY{b:cN}(d:iB b)(c:i<32):aq b (dh i (b i).gen)=(b i).da:=by
 obtain⟨j,h⟩:=d i;have e:=Kj c j;have f:dh i (b i).gen/256=(b i).gen:=by unfold dh;omega
 unfold aq;rw[e];simp only[f];revert h;generalize b i=s;obtain⟨g,a,r⟩:=s;simp_all
theorem iQ{b:cN}(d:iB b):h∈bt b↔aq b h=true:=by
 unfold bt;simp only[aeO,ae2,anc];constructor
 ·grind [RY]
 ·intro c;obtain⟨i,e,a⟩:=lu.1 c;refine⟨i,⟨(E5 e).1,by grind⟩,?_⟩;rw[a];exact RX e
theorem nr(b:cN): (bt b).length<=32:=by
 unfold bt
 grind
def E6{g:Nat}(a:i<32)(b:g<=8388607):dh i g<4294967296:=by unfold dh;omega
theorem pK{b:cN}(e:nj b=some i):i<32/\ (b i).da=false/\ (b i).ret=false/\ ∀j,j<i->ni b j=false:=by
 unfold nj at e;rw[List.find?_range_eq_some]at e;obtain⟨a,d,c⟩:=e;unfold ni at a
 grind
theorem RZ{b:cN}(a:iB b)(e:nj b=some i):iB (ai b i {b i with da:=true}):=by
 intro j;by_cases h:j=i
 ·subst h;rw[bI];exact⟨(a j).1,λ_=>(pK e).2.2.1⟩
 ·rw[bA h];exact a j
theorem E7{b:cN}(a:iB b)(h:Nat):iB (dC b h).1:=by
 unfold dC;split
 ·intro j;by_cases e:j=aI h
  ·subst e;simp only[bI];have:=(a (aI h)).1;unfold nm;grind
  ·simp only[bA e];exact a j
 omega
structure gM(r:cQ):Prop where
 up:r.up<4294967296
 cF:r.cF<=64
 len:r.len<=2048
 cells: ∀i,r.cells i<4294967296
 runs: ∀x∈r.runs,1<=x.2/\x.1+x.2<=64
 aS:aS r.runs<=64
structure bS(t:ar):Prop where
 b:iB t.b
 r: ∀i,gM (t.r i)
def cu(t:ar):Prop:= ∀h,(aR t h).length<=5
def afN{t:ar}:iO t i<4294967296:=by
 unfold iO;split
 ·rename_i h;exact gl h
 ·omega
def aqJ{t:ar}:bD t h<4294967296:=by
 unfold bD;split
 ·exact afN
 ·omega
theorem E8{t:ar}(a:bD t h≠0):t.aq (bD t h)=true/\t.aq h=true:=by
 unfold bD at*;split at a
 ·unfold iO at*
  grind
 omega
theorem R0{t:ar}: ∀ (n:Nat) (h:Nat),(eO t n h).length<n-> ∀m,n<=m->eO t m h=eO t n h
 |0,_,a,_,_=>by omega
 |n+1,h,a,m,hm=>by
  obtain⟨m,rfl⟩: ∃k,m=k+1:=⟨m-1,by omega⟩;simp only[eO]at a⊢;by_cases hu:bD t h=0
  ·grind
  ·rw[ac0 hu]at a;simp only[aeV]at a;rw[R0 n _ (by omega) m (by omega)]
def pL{t:ar}(a:cu t)(h:Nat):aR t h=if bD t h=0 then[]else bD t h::aR t (bD t h):=by
 unfold aR;by_cases hu:bD t h=0
 ·rw[ac6 hu,eO,ac6 hu]
 ·have e:eO t 33 h=eO t 32 h:=R0 32 h (by have:=a h;unfold aR at this;omega) 33 (by omega);rw[<-e,eO,ac0 hu]
def aqK{t:ar}(c:cu t)(a:x∈aR t h):t.aq x=true:=by
 have key: ∀ (n h:Nat),(aR t h).length<=n->x∈aR t h->t.aq x=true:=by
  intro n
  induction n with
  |zero=>grind
  |succ n d=>
   intro h b a;rw[pL c]at a b;by_cases hu:bD t h=0
   ·grind
   ·rw[ac0 hu]at a b;rcases aeZ.1 a with rfl|a
    ·exact(E8 hu).1
    grind
 exact key _ h (adA _) a
def dep(t:ar)(h:Nat):Nat:=(aR t h).length
theorem BJ{t:ar}(b:cu t)(a:bD t h≠0):dep t h=dep t (bD t h)+1:=by
 unfold dep;rw[pL b,ac0 a];rfl
def Ku{t:ar}(a:x∈kids t h):t.aq h=true/\bD t x=h/\x∈bt t.b:=by
 unfold kids at a
 grind
theorem BK{t:ar}(a:cu t)(b:x∈kids t h):dep t x=dep t h+1:=by
 obtain⟨d,c,_⟩:=Ku b;have:=BJ a (h:=x) (by rw[c];exact Kt d)
 grind
def afO(t:ar)(h:Nat): (kids t h).length<=32:=by
 unfold kids;split
 ·grind [Nat.le_trans,List.length_filter_le,nr]
 ·simp
theorem R3{α β:Type}{f g:α->List β}: ∀ {l:List α},(∀x∈l,f x=g x)->l.flatMap f=l.flatMap g
 | [],_=>rfl
 |x::xs,h=>by
  rw[apj,apj,h x (aeX ..),R3 λy a=>h y (aeR _ a)]
theorem R5{t:ar}(a:cu t): ∀ (n h:Nat),5<=n+dep t h-> ∀m,n<=m->iP t m h=iP t n h
 |0,h,d,m,_=>by
  have c:kids t h=[]:=by
   cases e:kids t h with
   |nil=>rfl
   |cons x xs=>
    have:=BK a (h:=h) (x:=x) (by grind);have f:=a x;unfold dep at*;omega
  cases m with
  |zero=>rfl
  |succ m=>rw[iP,iP,c];rfl
 |n+1,h,d,m,hm=>by
  obtain⟨m,rfl⟩: ∃k,m=k+1:=⟨m-1,by omega⟩;refine ahR (h:: ·) (R3 λx b=>?_);exact R5 a n x (by have:=BK a b;omega) m (by omega)
def de(t:ar)(h:Nat):lN:=iP t 32 h
def R6{t:ar}(a:cu t)(h:Nat):de t h=h:: (kids t h).flatMap (de t):=by
 unfold de;rw[<-R5 a 32 h (by omega) 33 (by omega),iP]
theorem R7{α:Type}(f:α->Nat)(c:Nat): ∀l:List α,(∀x∈l,f x<=c)->(l.map f).sum<=l.length*c
 | [],_=>by simp
 |x::xs,h=>by
  have d:=h x (aeX ..);have b:=R7 f c xs λy a=>h y (aeR _ a)
  simp only[aj9,List.sum_cons,aeV,apB];omega
theorem afP(t:ar): ∀ (n h:Nat),(iP t n h).length<=33^n
 |0,h=>by simp[iP]
 |n+1,h=>by
  rw[iP,aeV,List.length_flatMap];have c:=R7 (λx=>(iP t n x).length) (33^n) (kids t h) λx _=>afP t n x
  have a:=afO t h;have b: (kids t h).length*33^n<=32*33^n:=ajv _ a
  grind
def R8{t:ar}(a:cu t)(h:Nat): (de t h).length<=39135393:=by
 have:=afP t 5 h;unfold de;rw[R5 a 5 h (by omega) 32 (by omega)];omega
def aqL{t:ar}(h:Nat):de t h≠[]:=by unfold de;rw[iP];simp
def zk{t:ar}(f:iB t.b)(b:t.aq h=true)(a:x∈de t h):t.aq x=true:=by
 have key: ∀ (n h:Nat),t.aq h=true->x∈iP t n h->t.aq x=true:=by
  intro n
  induction n with
  |zero=>intro h b a;rw[iP,aeH]at a;grind
  |succ n c=>
   intro h b a;rcases aeZ.1 a with rfl|a
   ·omega
   ·obtain⟨y,d,e⟩:=apm.1 a;exact c y ((iQ f).1 (Ku d).2.2) e
 exact key 32 h b a
def ns(k:bp)(a:Nat):lN:=sL k λx=>decide (x.aJ=a)
def rm(k:bp)(aa:Nat):lN:=sL k λx=>decide (x.to=aa)
def nu(k:bp)(l:lN):bp:=l.foldl (λk h=>{k with b:=(dC k.b h).1}) k
def Kv(k:bp)(a:Nat):bp:=nu k (ns k a)
def R9(k:bp)(h:Nat):lN:=sL k λx=>decide (x.aR=h)
def nv(k:bp):Nat->Nat->lN
 |0,h=>[h]
 |n+1,h=>h:: (R9 k h).flatMap (nv k n)
def rn(k:bp)(h:Nat):lN:=(bt k.b).filter λx=>(nv k 16 h).contains x
def jC(k:bp)(h:Nat):bp×lN×Nat:=if aq k.b h then(nu k (rn k h),rn k h,0)else(k,[],4)
def w5(k:bp)(b a:Nat):Bool:=nq k a&& !sM k b a
def zl(k:bp)(b a:Nat):Bool:=nq k a&&decide (BH k b a=0)
def E9(T:ar)(K:bp)(h a:Nat):Bool:=
 if a=0 then w5 K h 0 else if a=1 then zl K h 0 else if a=2 then !((under T h).any λx=>decide (0< (ns K x).length))else false
def Fa(K:bp)(aa h a:Nat):Bool:=(ns K h).any λt=>
 decide ((cq K t).1.to=aa)&& ((decide (a=0)&&w5 K h t)|| (decide (a=1)&& (cq K t).1.mu&&zl K h t))
def sP(T:ar)(O:bP)(K:bp)(aa h a:Nat):Nat:=
 if T.aq h=false then 4
 else if(bH O T h).kind=3 then(if a=0/\aa<8/\ (bH O T h).hold.testBit aa=true then 0 else 5)
 else if(bH O T h).kind=1 then(if((bH O T h).aa=aa/\E9 T K h a=true)\/Fa K aa h a=true then 0 else 5)
 else 5
def zm:eY:=⟨0,0,0,false⟩
def jk(b:cA)(i:Nat):Nat:=(b.fr+i) % 4
def iD(b:cA)(m:eY):cA×Nat:=
 if b.closed then(b,11)else if b.n=4 then(b,7)else({b with ring:=ai b.ring (jk b b.n) m,n:=b.n+1},0)
def iE(b:cA):cA×eY×Nat:=
 if b.n=0 then(b,zm,if b.closed then 11 else 10)else({b with fr:=jk b 1,n:=b.n-1},b.ring b.fr,0)
def pM(b:cA):cA×Nat:=if b.closed then(b,11)else({b with closed:=true},0)
def dG(b:cA):List eY:=(List.range b.n).map λi=>b.ring (jk b i)
def rp:cA:=⟨λ_=>zm,0,0,true⟩
def lv(t:ar)(r a to:Nat)(b:Bool):ar×Nat:=
 if t.aq r=false\/ (to≠0/\t.aq to=false)then(t,4)
 else if 8<=a then(t,2)
 else if to≠0/\b=false/\kJ t to r=false then(t,5)
 else
  let x:=(aE t r).1
  let n:=ed t r {x with cells:=ai x.cells a to}
  if n.2=0 then n else(t,n.2)
def sQ(t:ar)(r a:Nat):Nat×Nat:=
 if t.aq r=false then(0,4)
 else if 8<=a then(0,2)
 else
  let to:=(aE t r).1.cells a
  if to=0 then(0,10)else if t.aq to=false then(0,4)else(to,0)
structure az where
 s:aZ
 aa:Nat
 c:ck
 run:aC
 jW:Nat
 asks:Bool
 back:List aC
abbrev R(α:Type):=Except Nat α
def ask(b:Bool)(e:Nat):R Unit:=if b then .ok ()else .error e
def ca(e:Nat):R Unit:=if e=0 then .ok ()else .error e
def az.t(x:az)(T:ar):az:={x with s:={x.s with T:=T}}
def az.o(x:az)(O:bP):az:={x with s:={x.s with O:=O}}
def az.k(x:az)(K:bp):az:={x with s:={x.s with K:=K}}
def az.bx(x:az)(i:Nat)(b:cA):az:={x with s:={x.s with bw:=ai x.s.bw i b}}
def fU(x:az)(h a:Nat):R Unit:=ca (sP x.s.T x.s.O x.s.K x.aa h a)
def mR(x:az)(aa:Nat):R Unit:=ask (decide (aa<8)&&x.s.alive aa) 2
def fw(x:az)(y:Nat):az:={x.k (Kv x.s.K y)with back:=x.back++(aE x.s.T y).1.runs}
def eh(x:az)(h:Nat):az:=let y:=(under x.s.T h).foldl fw x;y.t (ik y.s.T h).1
def sR(x:az)(h:Nat):R az:=do ca (iA x.s.T h).2;return x.t (iA x.s.T h).1
def kK(x:az)(h aa:Nat):R az:=do ca (ow x.s.O x.s.T h aa).2;return x.o (ow x.s.O x.s.T h aa).1
def mb(x:az)(h:Nat)(r:cQ):R az:=do ca (ed x.s.T h r).2;return x.t (ed x.s.T h r).1
def bu:bE:=⟨0,0,0⟩
def pN(x:az):R (az×bE):=do
 if x.c.r≠0 then fU x x.c.r 1
 let n:=eZ x.s.T x.c.r (min x.c.a 65)
 ca n.2.2
 let y:=x.t n.1
 let y<-if x.c.r=0 then kK y n.2.1 x.aa else pure y
 return (y,{bu with w:=n.2.1})
def isObj(a b:Nat):Bool:=decide (1<=a)&&decide (a<=128)&& [1,2,4,8].contains b
def gn(c:List aC)(len b a:Nat):oN:=
 if isObj b a then(let at':=(len+a-1)/a*a;if at'+b<=aS c*32 then some at' else none)else none
def jX(a b:Nat):oN:=if isObj a b then some ((a+31)/32)else none
def kM(a:List aC):Nat->Nat->oN:=match a with
 | []=>λ_ _=>none
 |r::rs=>λbase at'=>if base<=at'/\at'<base+r.2*32 then some (r.1*32+at'-base)else kM rs (base+r.2*32) at'
def hO(x:az):R (az×bE):=do
 let size:=min x.c.a 129
 let align:=min x.c.b 9
 let n<-match jX size align with|some n=>pure n|none=>.error 2
 fU x x.c.r 1
 ca (aE x.s.T x.c.r).2
 let r:=(aE x.s.T x.c.r).1
 match gn r.runs r.len size align with
 |some at'=>do
  let y<-mb x x.c.r {r with len:=at'+size}
  return (y,{bu with v:=at'})
 |none=>do
  ask (decide (aS r.runs+n<=r.cF)) 6
  let x:={x with jW:=n}
  if x.asks then return (x,bu)
  let runs:=r.runs++[x.run]
  let len:=aS r.runs*32
  ask (decide (x.run.2=n)&&ma runs len) 2
  let at':=(gn runs len size align).getD 0
  let b:=match gn runs len size align with|some a=>a+size|none=>len
  let y<-mb x x.c.r {r with runs:=runs,len:=b}
  return (y,{bu with v:=at'})
def pO(x:az)(a:Nat):R (az×bE):=do
 ask (decide (1<=x.c.b)&&decide (x.c.b<=8)) 2
 fU x x.c.r a
 ca (aE x.s.T x.c.r).2
 ask (decide (x.c.a+x.c.b<=(aE x.s.T x.c.r).1.len)) 9
 return (x,bu)
def sS(x:az):R (az×bE):=do
 fU x x.c.r 1
 ca (aE x.s.T x.c.r).2
 let r:=(aE x.s.T x.c.r).1
 let y<-mb {x with back:=x.back++r.runs} x.c.r {cY with cF:=r.cF}
 return (y,bu)
def vx(x:az):R (az×bE):=do
 fU x x.c.r 2
 return (eh x x.c.r,bu)
def w8(x:az):R (az×bE):=do
 fU x x.c.r 2
 ask (decide (root x.s.T x.c.r≠x.c.r)) 12
 let y<-sR x x.c.r
 let y<-kK y x.c.r x.aa
 return (y,bu)
def w9(x:az):R (az×bE):=do
 fU x x.c.r 2
 fU x x.c.s 1
 let t:=mQ x.s.T x.c.r x.c.s
 ca t.2
 return (x.t t.1,bu)
def xa(x:az):R (az×bE):=do
 fU x x.c.r 2
 let y<-sR x x.c.r
 let o:=zj y.s.O y.s.T x.c.r x.aa
 ca o.2
 return (y.o o.1,bu)
def zn(x:az)(h:Nat):R Unit:=do
 ask (x.s.T.aq h) 4
 let o:=bH x.s.O x.s.T h
 ask (decide (root x.s.T h=h)&&decide (o.kind=3)) 12
 ask (o.hold.testBit x.aa) 5
def vy(x:az)(h aa:Nat):bP×Nat:=((db x.s.O x.s.T h aa true).1,(db x.s.O x.s.T h aa true).2.2)
def vz(x:az):R (az×bE):=do
 mR x x.c.a
 zn x x.c.r
 let o:=vy x x.c.r x.c.a
 ca o.2
 return (x.o o.1,bu)
def jl(x:az)(h aa:Nat):R az:=do
 let o:=db x.s.O x.s.T h aa false
 ca o.2.2
 let y:=x.o o.1
 return if o.2.1=0 then eh y h else y
def xb(x:az):R (az×bE):=do
 zn x x.c.r
 return (<-jl x x.c.r x.aa,bu)
def pP(x:az):R (az×bE):=do
 mR x x.c.a
 ask (decide (x.c.b<=1)) 2
 ask (x.s.T.aq x.c.r) 4
 if x.c.s=0 then ask (decide ((bH x.s.O x.s.T x.c.r).kind=1)&&decide ((bH x.s.O x.s.T x.c.r).aa=x.aa)) 5
 else do
  ca (cq x.s.K x.c.s).2
  ask (decide ((cq x.s.K x.c.s).1.to=x.aa)&&decide ((cq x.s.K x.c.s).1.aJ=x.c.r)) 5
 let k:=lr x.s.K ⟨x.c.r,x.aa % 256,x.c.a % 256,decide (x.c.b=1),x.c.s⟩
 ca k.2.2
 return (x.k k.1,{bu with w:=k.2.1})
def vA(x:az):R (az×bE):=do
 ca (cq x.s.K x.c.s).2
 ask (decide ((cq x.s.K x.c.s).1.to=x.aa)) 5
 return (x.k (jC x.s.K x.c.s).1,bu)
def mS(x:az):R (az×bE):=do
 mR x x.c.a
 ask (decide (x.c.b<=1)) 2
 let share:=decide (x.c.r≠0)&&decide (x.c.b=1)
 let y<-if share then do
     zn x x.c.r
     pure (if(vy x x.c.r x.c.a).2=0 then x.o (vy x x.c.r x.c.a).1 else x)
  else if x.c.r≠0 then do
   fU x x.c.r 2
   let y<-sR x x.c.r
   let o:=vt y.s.O y.s.T x.c.r
   ca o.2
   pure (y.o o.1)
  else pure x
 let b:=iD (y.s.bw x.c.a) ⟨x.aa % 256,x.c.v,x.c.r,share⟩
 ca b.2
 return (y.bx x.c.a b.1,bu)
def nw(x:az):R (az×bE):=do
 let b:=iE (x.s.bw x.aa)
 ca b.2.2
 let y:=x.bx x.aa b.1
 let m:=b.2.1
 let y<-if m.aJ≠0/\m.share=false then kK y m.aJ x.aa else pure y
 return (y,{bu with v:=m.word,w:=m.aJ})
def vB(x:az):R (az×bE):=do
 let b:=pM (x.s.bw x.aa)
 ca b.2
 return (x.bx x.aa b.1,bu)
def ox(x:az):R (az×bE):=do
 fU x x.c.r 1
 if x.c.s≠0 then fU x x.c.s 0
 let t:=lv x.s.T x.c.r (min x.c.a 8) x.c.s (decide ((bH x.s.O x.s.T x.c.s).kind=3))
 ca t.2
 return (x.t t.1,bu)
def vC(x:az):R (az×bE):=do
 fU x x.c.r 0
 let t:=sQ x.s.T x.c.r (min x.c.a 8)
 ca t.2
 return (x,{bu with w:=t.1})
def lC(x:az)(aa:Nat):R az:=do
 let l:=dG (x.s.bw aa)
 let y:=x.bx aa rp
 let y:={y with s:={y.s with alive:=ai y.s.alive aa false}}
 let y<-l.foldlM (λy m=>if m.aJ=0\/m.share=true then pure y else if y.s.alive m.fr then kK y m.aJ m.fr else pure (eh y m.aJ)) y
 let y:=(rm y.s.K aa).foldl (λy h=>y.k (jC y.s.K h).1) y
 let y:=((bt y.s.T.b).filter λh=>decide (root y.s.T h=h)&&decide ((bH y.s.O y.s.T h).kind=1)&&decide ((bH y.s.O y.s.T h).aa=aa)).foldl eh y
 ((bt y.s.T.b).filter λh=>decide (root y.s.T h=h)&&decide ((bH y.s.O y.s.T h).kind=3)&& (decide (aa<8)&&fT (bH y.s.O y.s.T h).hold aa)).foldlM (λy h=>jl y h aa) y
def xc(x:az):R (az×bE):=do
 mR x x.c.a
 return (<-lC x x.c.a,bu)
def pQ(x:az):R (az×bE):=do
 ask (decide (x.c.a<8)&& !x.s.born (x.c.a % 8)) 2
 return ({x with s:={x.s with alive:=ai x.s.alive x.c.a true,born:=ai x.s.born x.c.a true}},bu)
def gp(x:az):R (az×bE):=match x.c.op with
 |1=>pN x|2=>hO x|3=>pO x 0|4=>pO x 1|5=>sS x|6=>vx x|7=>w8 x|8=>w9 x|9=>xa x|10=>vz x
 |11=>xb x|12=>pP x|13=>vA x|14=>mS x|15=>nw x|16=>nw x|17=>vB x|18=>ox x|19=>vC x
 |20=>do return (<-lC x x.aa,bu)
 |21=>xc x|22=>pQ x
 |_=>.error 2
def fV(x:az):R (az×bE):=do
 ask (decide (x.aa<8)&&x.s.alive x.aa) 12
 gp x
def bN(s:aZ)(aa:Nat)(c:ck)(run:aC):aZ×bE×List aC:=match fV ⟨s,aa,c,run,0,false,[]⟩with
 |.ok (x,r)=>if r.e=0 then(x.s,r,x.back)else(s,r,[])
 |.error e=>(s,{bu with e:=e},[])
def bR(s:aZ)(aa:Nat)(c:ck):Nat:=if c.op≠2 then 0 else match fV ⟨s,aa,c,(0,0),0,true,[]⟩with
 |.ok (x,_)=>x.jW
 |.error _=>0
def gN(s:aZ)(c:ck):lN×Nat:=
 if(aE s.T c.r).2≠0 then([],(aE s.T c.r).2)
 else if(c.op≠3/\c.op≠4)\/c.b<1\/8<c.b then([],2)
 else if(aE s.T c.r).1.len<c.a+c.b then([],9)
 else((List.range c.b).map λi=>(kM (aE s.T c.r).1.runs 0 (c.a+i)).getD 0,0)
def lD(s:aZ)(aa:Nat)(c:ck):Nat:=if 0<bR s aa c then 0 else(bN s aa c (0,0)).2.1.e
def Kw(s:aZ)(aa:Nat)(c:ck):Bool:=decide (c.op=15)&&decide (lD s aa c=10)
def rq(s:aZ)(h:Nat):lN:=if s.T.aq h then[h]else[]
def xd(s:aZ)(c:ck):lN:=
 if[1,2,3,4,5,10,12,18,19].contains c.op then rq s c.r
 else if[6,7,9,11].contains c.op then under s.T c.r
 else if c.op=8 then
  (if under s.T c.r=[]\/s.T.aq c.s=false then[]else if(under s.T c.r).contains c.s then under s.T c.r else under s.T c.r++[c.s])
 else if c.op=13 then(if(cq s.K c.s).2=0 then rq s (cq s.K c.s).1.aJ else[])
 else if c.op=14 then(if c.b=1 then rq s c.r else under s.T c.r)
 else[]
structure fH where
 has:Nat
 n:Nat
 wait:Nat->Nat
abbrev Marks:=Nat->fH
def xe:fH:=⟨0,0,λ_=>0⟩
def ru(l:fH)(aa:Nat):oN:=(List.range l.n).find? λi=>decide (l.wait i=aa % 256)
def Sa(l:fH)(i:Nat):fH:={l with n:=l.n-1,wait:=ai (λj=>if i<=j/\j<7 then l.wait (j+1)else l.wait j) (l.n-1) 0}
def xf(l:fH)(aa:Nat):fH:=match ru l aa with
 |none=>l
 |some i=>Sa l i
def jD(a aa:Nat):Bool:=decide (a<32)&&decide (aa<8)
def jm(m:Marks)(a aa:Nat):Marks×Bool:=
 if jD a aa=false then(m,false)
 else if(m a).has=aa+1 then(m,true)
 else if(m a).has=0/\ ((m a).n=0\/ru (m a) aa=some 0)then(ai m a {xf (m a) aa with has:=aa+1},true)
 else if ru (m a) aa=none then(ai m a {m a with n:=(m a).n+1,wait:=ai (m a).wait (m a).n aa},false)
 else(m,false)
def BL(l:fH)(aa:Nat):fH:=if l.has=aa+1 then{l with has:=0}else l
def ry(m:Marks)(aa:Nat):Marks:=λi=>if jD i aa then xf (BL (m i) aa) aa else m i
structure cJ where
 n:Nat
 free:List aC
 bytes:Nat->Nat->Nat
 cK:Bool
def mT(l:List aC)(x:aC):Option (List aC):=
 if ke x=false then none
 else match l.findIdx? λy=>decide (x=y)|| (decide (y.1<=x.1)&&decide (x.1+x.2<=y.1+y.2))with
  |none=>none
  |some i=>
   let y:=l.getD i (0,0)
   some (l.take i++((if y.1<x.1 then[(y.1,x.1-y.1)]else[])++(if x.1+x.2<y.1+y.2 then[(x.1+x.2,y.1+y.2- (x.1+x.2))]else[]))++l.drop (i+1))
def Fb(l:List aC)(k:Nat):Bool:=decide (k<64)&&l.any λy=>decide ((k,1)=y)|| (decide (y.1<=k)&&decide (k+1<=y.1+y.2))
def fI(p:cJ)(n:Nat):cJ×Nat×Nat:=
 if n<1 then(p,0,2)
 else match p.free.find? λx=>decide (1<=n)&&decide (n<=x.2)with
  |none=>(p,0,6)
  |some x=>(match mT p.free (x.1,n)with
   |some l=>{p with free:=l,cK:=false}
   |none=>p,x.1,0)
def gx(p:cJ)(a:Nat):Nat:=if p.n<=a then 2 else if Fb p.free a then 12 else 0
def ny(p:cJ)(a:Nat):cJ:=if gx p a=0 then{p with bytes:=ai p.bytes a λ_=>0}else p
def BM(p:cJ)(a:Nat):cJ:=match gL p.free (a,1)with
 |some l=>{p with free:=l,cK:=false}
 |none=>p
def mc(p:cJ)(a:Nat):cJ:=if gx p a=0 then BM p a else p
def rA(p:cJ)(at':Nat):Nat:=if gx p (at'/32)=0 then p.bytes (at'/32) (at' % 32)else 0
def lE(p:cJ)(at' b:Nat):cJ:=if gx p (at'/32)=0 then{p with bytes:=ai p.bytes (at'/32) (ai (p.bytes (at'/32)) (at' % 32) b)}else p
structure Core where
 S:aZ
 P:cJ
 M:Marks
 Q:lN
structure Call where
 aa:Nat
 c:ck
 checked:Bool
 ba:lN
 run:aC
 fx:Nat
def gy(r:aC):lN:=(List.range r.2).map λi=>r.1+i
def bT(x:Core)(r:aC):Core:={x with Q:=x.Q++gy r}
def me(x:Core)(c:Call):Core:={bT x c.run with M:=ry x.M c.aa}
structure bK where
 x:Core
 c:Call
 r:bE
 ended:Bool
def oy(s:bK)(r:bE):bK:={s with r:=r,ended:=true,x:=me s.x s.c}
def gz(s:bK):bK×Bool:=
 if s.c.checked then(s,false)
 else if Kw s.x.S s.c.aa s.c.c then(s,true)
 else if lD s.x.S s.c.aa s.c.c≠0 then(oy s {bu with e:=lD s.x.S s.c.aa s.c.c},true)
 else({s with c:={s.c with checked:=true,ba:=xd s.x.S s.c.c}},true)
def gA(s:bK):bK×Bool:=match s.c.ba with
 | []=>(s,false)
 |h::a=>
  let m:=jm s.x.M (aI h) s.c.aa
  ({s with x:={s.x with M:=m.1},c:=if m.2 then{s.c with ba:=a}else s.c},true)
def gq(s:bK):bK×Bool:=
 let n:=bR s.x.S s.c.aa s.c.c
 if n=0\/0<s.c.run.2 then(s,false)
 else
  let p:=fI s.x.P n
  if p.2.2≠0 then(oy {s with x:={s.x with P:=p.1}} {bu with e:=p.2.2},true)
  else({s with x:={s.x with P:=p.1},c:={s.c with run:=(p.2.1,n)}},true)
def il(s:bK):bK×Bool:=
 if s.c.run.2<=s.c.fx then(s,false)
 else({s with x:={s.x with P:=ny s.x.P (s.c.run.1+s.c.fx)},c:={s.c with fx:=s.c.fx+1}},true)
def byteOf(v i:Nat):Nat:=v/2^(8*i) % 256
def nz(s:bK):bK:=
 let s:=if 0<s.c.run.2/\bR s.x.S s.c.aa s.c.c≠s.c.run.2 then{s with x:=bT s.x s.c.run,c:={s.c with run:=(0,0)}}else s
 let places:=(gN s.x.S s.c.c).1
 let d:=bN s.x.S s.c.aa s.c.c s.c.run
 if d.2.1.e≠0 then oy s d.2.1
 else
  let P:=if s.c.c.op=4 then(List.range places.length).foldl (λP i=>lE P (places.getD i 0) (byteOf s.c.c.v i)) s.x.P else s.x.P
  let v:=if s.c.c.op=3 then(List.range places.length).foldl (λv i=>v|||rA s.x.P (places.getD i 0)*2^(8*i)) d.2.1.v else d.2.1.v
  let x:=d.2.2.foldl bT {s.x with S:=d.1,P:=P}
  oy {s with x:=x,c:={s.c with run:=(0,0)}} {d.2.1 with v:=v}
def ee(x:Core)(c:Call):bK:=
 let d:bK:=⟨x,c,bu,false⟩
 let s1:=gz d
 if s1.2 then s1.1 else
 let s2:=gA s1.1
 if s2.2 then s2.1 else
 let b:=gq s2.1
 if b.2 then b.1 else
 let a:=il b.1
 if a.2 then a.1 else nz a.1
def gO(x:Core):Core×Bool:=match x.Q with
 | []=>(x,false)
 |q::a=>({x with P:=mc x.P q,Q:=a},true)
structure ef where
 op:Nat
 a:Nat
 b:Nat
 c:Nat
 n:Nat
 deriving DecidableEq,Inhabited
def rB(x:ef)(n:Nat):Bool:=
 (decide (x.op<=6)|| (decide (16<x.op)&&decide (x.op<=38)))&&decide (x.a<8/\x.b<8/\x.c<8)&& (!(decide (x.op=5)||decide (x.op=6))||decide (x.n<n))
def pR(l:List ef):Bool:=decide (l.length<=64)&&l.all λx=>rB x l.length
def rC:lB->List ef
 |a::b::c::d::e::f::r=>⟨a.toNat,b.toNat,c.toNat,d.toNat,e.toNat+256*f.toNat⟩::rC r
 |_=>[]
def decode(s:lB):Option (List ef):=
 if s.length % 6≠0\/384<s.length then none else if pR (rC s)then some (rC s)else none
structure Task where
 code:List ef
 next:Nat
 ba:Nat->Nat
def mf:Nat:=18446744073709551616
def rD(t:Task):Option ef:=t.code[t.next]?
def gP:ck:=⟨0,0,0,0,0,0⟩
def jn(t:Task):ck×Bool:=match rD t with
 |none=>({gP with op:=20},true)
 |some x=>
  if x.op=0 then({gP with op:=20},true)
  else if x.op<=16 then(gP,false)
  else(⟨x.op-16,t.ba (x.b % 8) % 4294967296,t.ba (x.c % 8) % 4294967296,t.ba 6 % 4294967296,x.n,t.ba 5⟩,true)
def nA(t:Task):Task:=
 if(jn t).2 then t
 else match rD t with
  |none=>t
  |some x=>
   let b:=t.ba (x.b % 8)
   let c:=t.ba (x.c % 8)
   let put:=λv=>{t with ba:=ai t.ba (x.a % 8) v,next:=t.next+1}
   if x.op=1 then put x.n
   else if x.op=2 then put ((b+c) % mf)
   else if x.op=3 then put ((b+mf-c) % mf)
   else if x.op=4 then put (b*2^x.n % mf)
   else if x.op=5 then{t with next:=x.n}
   else if x.op=6 then{t with next:=if t.ba (x.a % 8)≠0 then x.n else t.next+1}
   else{t with next:=t.next+1}
def sT(t:Task)(r:bE):Task:=match rD t with
 |none=>t
 |some x=>if(jn t).2 then{t with ba:=ai (ai (ai t.ba (x.a % 8) r.v) 4 r.w) 7 r.e,next:=t.next+1}else t
structure Runner where
 t:Task
 c:Call
 busy:Bool
 fr:Nat
structure Event where
 aa:Nat
 c:ck
 run:aC
 r:bE
 fr:Nat
 to:Nat
structure bg where
 av:Core
 aw:Nat->Runner
 now:Nat
 bz:List Event
def iR:Call:=⟨0,gP,false,[],(0,0),0⟩
def sU:Task:=⟨[],0,λ_=>0⟩
def xg:Runner:=⟨sU,iR,false,0⟩
def vD(m:bg)(t:Nat):Bool:=decide (t<8)&&m.av.S.alive t
def kN(m:bg)(i:Nat):bg:=
 if(m.aw i).busy=true/\vD m i=false then{m with av:=me m.av (m.aw i).c,aw:=ai m.aw i {m.aw i with busy:=false,c:=iR}}else m
def lF(m:bg):bg:=(List.range 8).foldl kN m
def handed(b:aC)(a c:Nat):aC:=if b.2<=c-a/\0<b.2 then(0,0)else b
def Fc(m:bg)(t:Nat)(c:Call)(run:aC)(r:bE):bg:=
 {m with bz:=m.bz++[⟨t,c.c,run,r,(m.aw t).fr,m.now⟩],aw:=ai m.aw t {m.aw t with t:=sT (m.aw t).t r,busy:=false,c:=iR}}
def pT(m:bg)(t:Nat):bg:=
 let c:=(m.aw t).c
 let s:=ee m.av c
 let m':={m with av:=s.x,aw:=ai m.aw t {m.aw t with c:=s.c}}
 if s.ended then
  let run:=if s.r.e≠0\/s.c.c.op≠2 then(0,0)else c.run
  Fc m' t s.c (handed run m.av.Q.length s.x.Q.length) s.r
 else m'
def pU(m:bg)(t:Nat):bg:=
 let x:=m.aw t
 if x.busy then pT m t
 else if(jn x.t).2 then pT {m with aw:=ai m.aw t {x with c:={iR with aa:=t,c:=(jn x.t).1},busy:=true,fr:=m.now}} t
 else{m with aw:=ai m.aw t {x with t:=nA x.t}}
def vE(m:bg)(t:Nat):bg:=
 let c:={gP with op:=20}
 let d:=bN m.av.S t c (0,0)
 {m with av:={d.2.2.foldl bT m.av with S:=d.1},bz:=m.bz++[⟨t,c,(0,0),d.2.1,m.now,m.now⟩]}
def jY(m:bg)(b:Nat):bg×Nat:=
 let t:=b % 8
 if(8<b/\b<16)\/24<=b then(m,2)
 else if b=8 then(if(gO m.av).2 then(lF {m with av:=(gO m.av).1,now:=m.now+1},0)else(m,10))
 else if vD m t=false then(m,12)
 else if 16<=b then(lF (vE {m with now:=m.now+1} t),0)
 else(lF (pU {m with now:=m.now+1} t),0)
structure Sb where
 aS:Int
 aF:List lB
 bh:lN
def lG(b:Nat):Bool:=decide (b<8)||decide (b=8)|| (decide (16<=b)&&decide (b<24))
def oz(s:Sb):Bool:=
 decide (1<=s.aS/\s.aS<=64/\1<=s.aF.length/\s.aF.length<=8/\s.bh.length<=4000)&&s.aF.all (λp=>(decode p).isSome)&&s.bh.all lG
def fW:aZ:=⟨⟨λ_=>⟨0,false,false⟩,λ_=>cY⟩,λ_=>⟨0,vq⟩,⟨λ_=>⟨0,false,false⟩,λ_=>Ks⟩,λ_=>⟨λ_=>zm,0,0,false⟩,λi=>decide (i=0),λi=>decide (i=0)⟩
def Sc(s:Sb):bg:=⟨⟨fW,⟨s.aS.toNat,[(0,s.aS.toNat)],λ_ _=>0,true⟩,λ_=>xe,[]⟩,λi=>{xg with t:={sU with code:=((s.aF[i]?).bind decode).getD []}},0,[]⟩
def Fe(s:Sb):bg×lN:=s.bh.foldl (λp b=>((jY p.1 b).1,p.2++[(jY p.1 b).2])) (Sc s,[])
def kL:lN:=[56,19,193,190,188,182,167,166]
noncomputable def X0:Ctx:={dS:=λg=>(BD.lookup g).map λ_=>[.lM g],code:=λf=>if kL.contains f then none else zb.lookup f,cg:=λ_=>none,gu:=λg=>(BD.lookup g).map sg}
def aqM(h:Nat)(c:h<4294967296):dE .and (.int .u32 h) (.int .u32 255)=some (.int .u32 ((h % 256:Nat):Int)):=by
 rw[Da];have e: (BitVec.ofInt IntKind.u32.bits (h:Int)&&&BitVec.ofInt IntKind.u32.bits 255).toNat=h % 256:=by
  show(BitVec.ofInt 32 (h:Int)&&&BitVec.ofInt 32 255).toNat=h % 256;rw[BitVec.toNat_and];have b: (BitVec.ofInt 32 (h:Int)).toNat=h:=by grind
  have a: (BitVec.ofInt 32 255).toNat=2^8-1:=by rfl
  rw[b,a,aBw]
 rw[e,wrap_u32 (by omega) (by omega)]
theorem p8: (2:Int)^min 8 IntKind.u32.bits=256:=by rfl
def afQ: ((a:Nat):Int).fdiv 256=((a/256:Nat):Int):=by grind
def aqN(s:Slot)(g:Nat)(a c:Bool):eI (.agg [.int,.bool,.bool]) (.agg (jv s)) (.agg [.int .u32 g,.bool a,.bool c])=some (decide (s=⟨g,a,c⟩)):=by
 obtain⟨b,a',d⟩:=s;simp only[eI,jv,aeV,anu,HD,aco,N9,ae4,and_self,Slot.mk.injEq,Int.natCast_inj]
 grind
def jo(h:Nat):AV:=.aA [.int .i64 ((eX h).getD 0:Nat),.bool (eX h).isSome]
def kg(h:Nat)(b:h<4294967296)(H:List ae)(lo:oN):D X0 (.fn (.func 82) [] []) [.int .u32 h] ⟨H,lo⟩=some (.ret (jo h) ⟨H,lo⟩):=by
 refine aK Pp λN c=>?_
 simp(disch:=omega) only[↓R1,Zz,simprocAttr,Pp,aqM h b];refine wj 19 (.bool (!(eX h).isSome)) [4] rfl rfl ?_ λd=>?_
 ·simp only[R4,↓R1,Zz,simprocAttr,p8,afQ]
  (repeat' (first|apply And.intro|intro _))
  all_goals(refine ahR AV.bool ?_;unfold eX;split<;>simp<;>omega)
 cases a:eX h with
 |none=>simp(disch:=omega) only[F1,↓R1,Zz,simprocAttr,jo,a]
 |some i=>
  have: (h % 256:Nat)- (1:Int)=(i:Nat):=by
   unfold eX at a;split at a<;>cases a;omega
  simp(disch:=omega) only[F1,↓R1,Zz,simprocAttr,jo,a,this]
def afR(i g:Nat)(a:i<32)(b:g<=8388607)(H:List ae)(lo:oN):D X0 (.fn (.func 117) [] []) [.int .i64 i,.int .u32 g] ⟨H,lo⟩=some (.ret (.int .u32 (dh i g)) ⟨H,lo⟩):=by
 refine aK PH λN c=>?_
 simp(disch:=omega) only[F1,↓R1,Zz,simprocAttr,PH,p8];exact dp (ahR _ (by rfl)) rfl
def eC(b:cN)(h:Nat)(e:h<4294967296)(H:List ae)(lo:oN):D X0 (.fn (.func 50) [] []) [.agg (b0 b),.int .u32 h] ⟨H,lo⟩=some (.ret (.bool (aq b h)) ⟨H,lo⟩):=by
 refine aK Pe λN f=>?_
 simp only[↓R1,Zz,simprocAttr,Pe,f,kg h e,jo];cases a:eX h with
 |none=>simp(disch:=omega) only[F1,↓R1,Zz,simprocAttr,aq,a]
 |some i=>
  have d:=afa a;have c: (i:Int)<32:=by omega
  simp(disch:=omega) only[F1,↓ao7,↓R1,Zz,simprocAttr,aq,a,ae5 d,c,p8,afQ,aqN]
def nC{p:Nat->Prop}{k:Nat}(h: ∀j,j<k->p j)(a:p k): ∀j,j<k+1->p j:=by grind
def aqO{p:Nat->Bool}{k:Nat}(b:k<n)(a:p k=true)(h: ∀j,j<k->p j=false): (List.range n).find? p=some k:=by simp_all
def aqP{p:Nat->Bool}(h: ∀j,j<n->p j=false): (List.range n).find? p=none:=by grind
def sV(b:cN):AV:=.aA [.agg (b0 (pG b).1),.int .u32 (pG b).2.1,.bool (pG b).2.2]
theorem Kx:wz.length=96:=by rfl
theorem Ky:List.drop 96 wz=[]:=by rfl
def Kz:type_of% Kx/\type_of% Ky:=by decide
def afS(b:cN)(r:iB b)(H:List ae)(lo:oN):D X0 (.fn (.func 302) [] []) [.agg (b0 b)] ⟨H,lo⟩=some (.ret (sV b) ⟨H,lo⟩):=by
 refine aK Q3 λN s=>?_
 simp only[go_sem,simprocAttr,Q3,s,↓RI];refine fE 32 (λk e H'=> ∃J,H'=cat H (.box (b0 b) none:: .box wz none::J)/\e 1= .ptr N 0/\e 2= .ptr (N+1) 0/\e 8= .agg (b0 b)/\e 9= .int .i64 k/\ ∀j,j<k->ni b j=false) 0 (by omega) ?_ ?_
 ·simp only[go_sem,simprocAttr];exact⟨[],fG.symm,by simp⟩
 rintro k t e H' ⟨J,rfl,m,l,p,o,f⟩ n q;have d: ∀a b,(cat H (a::b::J)).length=n:=λ_ _=>by rw[<-q,Kh,Kh];rfl
 simp(disch:=omega) only[cm,F1,go_sem,simprocAttr,aex,m,l,p,o];refine⟨λh=>?_,λh=>?_⟩
 ·have c:k<32:=by omega
  cases g: (b k).da
  ·cases i: (b k).ret
   ·simp(disch:=first|omega|apply d) only[F1,go_sem,simprocAttr,h,d,RJ c,jv,g,i,m,l,ae8 c,afR k (b k).gen c (r k).1,Kz];have e:nj b=some k:=aqO c (by simp[ni,g,i]) f;exact⟨by omega,by simp[sV,pG,e,i]⟩
   ·simp(disch:=first|omega|apply d) only[go_sem,simprocAttr,h,d,RJ c,jv,g,i,m,l,p,o];exact⟨c,_,RG,nC f (by simp[ni,i])⟩
  ·simp(disch:=first|omega|apply d) only[go_sem,simprocAttr,h,d,RJ c,jv,g,m,l,p,o];exact⟨c,_,RG,nC f (by simp[ni,g])⟩
 ·simp(disch:=first|omega|apply d) only[go_sem,simprocAttr,Kz];have e:nj b=none:=aqP λj u=>f j (by omega)
  simp[sV,pG,e]
def atR(b:cN)(k:Nat):AV:=.aA [.int .u32 (if k<32/\ (b k).da=true then dh k (b k).gen else 0:Nat),.bool (decide (k<32)&& (b k).da)]
def aqQ(b:cN)(h:iB b)(k:Nat)(H:List ae)(lo:oN):D X0 (.fn (.func 92) [] []) [.agg (b0 b),.int .i64 k] ⟨H,lo⟩=some (.ret (atR b k) ⟨H,lo⟩):=by
 refine aK Eu λN d=>?_
 have e: ¬(k:Int)<0:=by omega
 by_cases a:k<32
 ·have c: ¬(k:Int)>=32:=by omega
  have g: (k:Int)<32:=by omega
  cases f: (b k).da
  ·simp only[F1,go_sem,simprocAttr,Eu,d,e,c,g,ae7 a,f,atR,a]
  ·simp only[F1,go_sem,simprocAttr,Eu,d,e,c,g,ae7 a,ae6 a,f,afR k (b k).gen a (h k).1,atR,a]
 ·have c: (k:Int)>=32:=by omega
  simp only[F1,go_sem,simprocAttr,Eu,d,e,c,atR,a,false_and,agq]
def zo(b:cN)(h:Nat):AV:=.aA [.agg (b0 (dC b h).1),.bool (dC b h).2]
def afT(b:cN)(l:iB b)(h:Nat)(f:h<4294967296)(H:List ae)(lo:oN):D X0 (.fn (.func 330) [] []) [.agg (b0 b),.int .u32 h] ⟨H,lo⟩=some (.ret (zo b h) ⟨H,lo⟩):=by
 refine aK Ke λN g=>?_
 cases c:aq b h with
 |false=>
  simp only[F1,go_sem,simprocAttr,Ke,g,eC b h f,c,Kz,zo,dC]
 |true=>
  obtain⟨e1,m,e3⟩:=sO c;have d:=vu h;have e: (aI h:Int)<32:=by omega
  generalize a:aI h=i at*;have k:=(l i).1;simp(disch:=omega) only[cm,F1,go_sem,simprocAttr,Ke,g,eC b h f,c,Kz,kg h f,jo,e1,e,ae8 d,aqi d,aqh d,ae6 d,rh,bI];refine⟨by omega,λj=>⟨by omega,?_⟩,λj=>⟨by omega,?_⟩⟩
  ·simp[zo,dC,c,a,nm,show(b i).gen=8388607 by omega]
  ·simp[zo,dC,c,a,nm,show¬(b i).gen=8388607 by omega]
theorem BN:k9.length=480:=by rfl
theorem aqR:List.drop 480 k9=[]:=by rfl
def df:type_of% BN/\type_of% aqR/\type_of% Kx/\type_of% Ky:=by decide
def zp(n:Nat)(H:List ae)(lo:oN):D X0 (.fn (.func 322) [] []) [.int .i64 n] ⟨H,lo⟩=some (.ret (.bool (decide (n<=64))) ⟨H,lo⟩):=by
 refine aK Rh λN b=>?_
 have a: (n:Int)>=0:=by omega
 simp(disch:=omega) only[F1,go_sem,simprocAttr,Rh,a];exact dp (ahR AV.bool (anb.2 (by grind))) rfl
theorem afU:b8 cY=[.int .u32 0,.int .i64 0,.au,.int .i64 0,.int .u32 0,.int .u32 0,.int .u32 0,.int .u32 0,.int .u32 0,.int .u32 0,.int .u32 0,.int .u32 0]:=rfl
def afV(t:ar)(j:bS t)(h:Nat)(d:h<4294967296)(H:List ae)(lo:oN):D X0 (.fn (.func 83) [] []) [.agg (aM t),.int .u32 h] ⟨H,lo⟩=some (.ret (.int .u32 (iO t (aI h))) ⟨H,lo⟩):=by
 refine aK Jj λN g=>?_
 have c:=vu h;have a: (aI h:Int)<32:=by omega
 have e:jo h= .aA [.int .i64 (aI h:Nat),.bool (eX h).isSome]:=rfl;have hu:=(j.r (aI h)).up;generalize aI h=i at*;have f:aq t.b (t.r i).up=t.aq (t.r i).up:=rfl;cases b:t.aq (t.r i).up
 ·simp only[F1,go_sem,simprocAttr,Jj,g,kg h d,e,a,RP c,eC t.b (t.r i).up hu,f,b,iO,aeJ]
 ·simp only[F1,go_sem,simprocAttr,Jj,g,kg h d,e,a,RP c,eC t.b (t.r i).up hu,f,b,iO]
def nD(t:ar)(h:Nat):AV:=.aA [.agg (b8 (aE t h).1),.int .i64 (aE t h).2]
def vF(t:ar)(j:bS t)(h:Nat)(c:h<4294967296)(H:List ae)(lo:oN):D X0 (.fn (.func 44) [] []) [.agg (aM t),.int .u32 h] ⟨H,lo⟩=some (.ret (nD t h) ⟨H,lo⟩):=by
 refine aK Je λN i=>?_
 have k:=vu h;have f: (aI h:Int)<32:=by omega
 have e:jo h= .aA [.int .i64 (aI h:Nat),.bool (eX h).isSome]:=rfl;have d:=afV t j h c;have b:aE t h=if t.aq h then({t.r (aI h)with up:=iO t (aI h)},0)else(cY,4):=rfl
 unfold nD;rw[b];have g:aq t.b h=t.aq h:=rfl;cases a:t.aq h
 ·simp only[F1,go_sem,simprocAttr,Je,i,eC t.b h c,g,a,afU,aeJ]
 ·simp only[F1,go_sem,simprocAttr,Je,i,kg h c,e,f,aqn k,eC t.b h c,g,a,d]
def zq(t:ar)(a n:Nat):AV:=.aA [.agg (aM (kf t a n).1),.int .u32 (kf t a n).2.1,.int .i64 (kf t a n).2.2]
theorem afW: [AV.int .u32 0,.int .i64 n,.au,.int .i64 0,.int .u32 0,.int .u32 0,.int .u32 0,.int .u32 0,.int .u32 0,.int .u32 0,.int .u32 0,.int .u32 0]=b8 {cY with up:=0,cF:=n}:=rfl
theorem aqS{u:Nat}: [AV.int .u32 (u:Nat),.int .i64 n,.au,.int .i64 0,.int .u32 0,.int .u32 0,.int .u32 0,.int .u32 0,.int .u32 0,.int .u32 0,.int .u32 0,.int .u32 0]=b8 {cY with up:=u,cF:=n}:=rfl
def aqT(t:ar)(o:bS t)(a n:Nat)(m:a<4294967296)(H:List ae)(lo:oN):D X0 (.fn (.func 284) [] []) [.agg (aM t),.int .u32 a,.int .i64 n] ⟨H,lo⟩=some (.ret (zq t a n) ⟨H,lo⟩):=by
 refine aK vk λN j=>?_
 have p:aq t.b a=t.aq a:=rfl;have d:=afS t.b o.b;unfold zq kf;by_cases e:a≠0/\t.aq a=false
 ·rw[ac6 e];have b: ¬(a:Int)=0:=by omega
  simp only[F1,go_sem,simprocAttr,vk,j,b,eC t.b a m,p,e.2,df]
 ·rw[ac0 e];have c:a=0\/ (¬(a:Int)=0/\t.aq a=true):=by
   by_cases s:a=0
   ·exact .inl s
   ·refine .inr ⟨by omega,?_⟩;cases u:t.aq a
    ·exact absurd ⟨s,u⟩ e
    ·rfl
  by_cases r:64<n
  ·rw[ac6 r];have h:decide (n<=64)=false:=by simp;omega
   rcases c with rfl| ⟨b,g⟩
   ·simp only[F1,go_sem,simprocAttr,vk,j,zp,h,df]
   ·simp only[F1,go_sem,simprocAttr,vk,j,b,eC t.b a m,p,g,zp,h,df]
  ·rw[ac0 r];have h:decide (n<=64)=true:=by simp;omega
   cases l:nj t.b with
   |none=>
    rcases c with rfl| ⟨b,g⟩
    ·simp only[F1,go_sem,simprocAttr,vk,j,zp,h,df,d,sV,pG,l]
    ·simp only[F1,go_sem,simprocAttr,vk,j,b,eC t.b a m,p,g,zp,h,df,d,sV,pG,l]
   |some i=>
    obtain⟨f,x,w,v⟩:=pK l;have k: (i:Int)<32:=by omega
    have q:eX (dh i (t.b i).gen)=some i:=Kj f (o.b i).1;rcases c with rfl| ⟨b,g⟩
    ·simp only[F1,go_sem,simprocAttr,vk,j,zp,h,df,d,sV,pG,l,k,kg (dh i (t.b i).gen) (E6 f (o.b i).1),jo,q,afW,Ko f];omega
    ·simp only[F1,go_sem,simprocAttr,vk,j,b,eC t.b a m,p,g,zp,h,df,d,sV,pG,l,k,kg (dh i (t.b i).gen) (E6 f (o.b i).1),jo,q,aqS,Ko f];omega
def Se(t:ar)(h:Nat):AV:=.aA [.agg (aM (fj t h).1),.int .i64 (fj t h).2]
def aqU(t:ar)(i:bS t)(h:Nat)(f:h<4294967296)(H:List ae)(lo:oN):D X0 (.fn (.func 324) [] []) [.agg (aM t),.int .u32 h] ⟨H,lo⟩=some (.ret (Se t h) ⟨H,lo⟩):=by
 refine aK Kb λN g=>?_
 have j:=vu h;have a: (aI h:Int)<32:=by omega
 have e:jo h= .aA [.int .i64 (aI h:Nat),.bool (eX h).isSome]:=rfl;have d:=afT t.b i.b h f;have k:aq t.b h=t.aq h:=rfl;unfold Se fj;cases b:t.aq h
 ·have c:dC t.b h=(t.b,false):=by unfold dC;grind
  simp only[F1,go_sem,simprocAttr,Kb,g,d,zo,c,df,aeJ]
 ·have c: (dC t.b h).2=true:=by unfold dC;rw[k,b];rfl
  simp only[F1,go_sem,simprocAttr,Kb,g,d,zo,c,df,kg h f,e,a,<-afU,Ko j];omega
def fX[Inhabited α]{k:Nat}(h:k<l.length):l.getD k default∈l:=by grind
def kO{α:Type}(p:α->Bool)(l:List α):Int:=match l.findIdx? p with
 |some i=>i
 |none=> -1
def zr(p:α->Bool)(l:List α):decide (0<=kO p l)=l.any p:=by
 unfold kO
 grind
def zs[Inhabited α]{k:Nat}(b:k<l.length)(h: ∀j,j<k->p (l.getD j default)=false)(a:p (l.getD k default)=true):kO p l=k:=by
 have:l.findIdx? p=some k:=by grind [List.findIdx?_eq_some_iff_getElem]
 unfold kO;rw[this]
def zt[Inhabited α](h: ∀j,j<l.length->p (l.getD j default)=false):kO p l= -1:=by
 have:l.findIdx? p=none:=by grind [List.findIdx?_eq_none_iff,List.getElem_of_mem]
 unfold kO;rw[this]
def hC(h:Nat):lA:=[.int .u32 h]
theorem pH:Den.part false 1 (hC h) 0=some (.int .u32 h):=rfl
def bC(b:UInt8):lA:=[.int .u8 b.toNat]
theorem pB{b:UInt8}:Den.part false 1 (bC b) 0=some (.int .u8 b.toNat):=rfl
def sC(s:lB):lA:=[S s]
theorem pS{s:lB}:Den.part false 1 (sC s) 0=some (S s):=rfl
structure Instr where
 op:Nat
 a:Nat
 b:Nat
 c:Nat
 n:Nat
 deriving DecidableEq,Inhabited
def afX(v fv:AV)(l:List aC)(b:Rv v 2 (l.map aD))(r:l.length<2^40)(p:aC->Bool)(H:List ae)(lo:oN)
  (o: ∀x∈l,D X0 fv [.agg (aD x)] ⟨H,none⟩=some (.ret (.bool (p x)) ⟨H,none⟩)):D X0 (.fn (.func 112) [] []) [v,fv] ⟨H,lo⟩=some (.ret (.int .i64 (kO p l)) ⟨H,lo⟩):=by
 refine aK PD λN u=>?_
 simp only[go_sem,simprocAttr,PD,b.bZ];refine fE l.length (λk e H'=>H'=H/\e 0=v/\e 1=fv/\e 7= .int .i64 l.length/\e 8= .int .i64 k/\ ∀j,j<k->p (l.getD j default)=false) 0 (by omega) ?_ ?_
 ·simp only[go_sem,simprocAttr];omega
 ·rintro k s e H' ⟨rfl,i,g,f,d,c⟩ n q;simp(disch:=omega) only[cm,F1,go_sem,simprocAttr,adX,i,g,f,d];refine⟨λh=>?_,λh=>?_⟩
  ·have a:k<l.length:=by omega
   simp(disch:=omega) only[go_sem,simprocAttr,b.cn,b.cE,↓RW,o _ (fX a)];refine⟨by omega,?_⟩;cases m:p (l.getD k default)
   ·simp(disch:=omega) only[go_sem,simprocAttr,i,g,f,d]
    grind
   ·simp(disch:=omega) only[F1,go_sem,simprocAttr];rw[zs a c m]
  ·rw[zt (λj t=>c j (by omega))]
def aqV(v fv:AV)(l:List aC)(a:Rv v 2 (l.map aD))(b:l.length<2^40)(p:aC->Bool)(H:List ae)(lo:oN)
  (c: ∀x∈l,D X0 fv [.agg (aD x)] ⟨H,none⟩=some (.ret (.bool (p x)) ⟨H,none⟩)):D X0 (.fn (.func 79) [] []) [v,fv] ⟨H,lo⟩=some (.ret (.bool (l.any p)) ⟨H,lo⟩):=by
 refine aK Pn λN d=>?_
 simp(disch:=omega) only[F1,go_sem,simprocAttr,Pn,afX v fv l a b p H none c,zr]
def afY{X:Ctx}(a:Ext X0 X)(h:X0.code f=some pf)(b:X0.cg f=none):X.cg f=none:=by
 rcases a.cg f with e| ⟨_,e⟩
 ·grind
 grind
def afZ{X:Ctx}(a:Ext X0 X)(h:X0.code f=some pf):X.code f=some pf:=by rw[a.code];exact h
def up{X:Ctx}(a:Ext X0 X){args:lA}{E:AS}{r:aU}(h:D X0 v args E=some r):D X v args E=some r:=acX a _ _ _ _ h
def af0{X:Ctx}(f:Ext X0 X)(v fv:AV)(l:lN)(H:List ae)(b:Rd ⟨H,none⟩ v 1 (l.map hC))(s:l.length<2^40)(p:Nat->Bool)(lo:oN)
  (q: ∀x∈l,D X fv [.int .u32 x] ⟨H,none⟩=some (.ret (.bool (p x)) ⟨H,none⟩)):D X (.fn (.func 195) [] []) [v,fv] ⟨H,lo⟩=some (.ret (.int .i64 (kO p l)) ⟨H,lo⟩):=by
 refine Nu Qr (afY f rfl rfl) (afZ f rfl) rfl λN w=>?_
 simp only[go_sem,simprocAttr,Qr,b.bZ];refine fE l.length (λk e H'=>H'=H/\e 0=v/\e 1=fv/\e 7= .int .i64 l.length/\e 8= .int .i64 k/\ ∀j,j<k->p (l.getD j default)=false) 0 (by omega) ?_ ?_
 ·simp only[go_sem,simprocAttr];omega
 ·rintro k t e H' ⟨rfl,o,m,i,g,c⟩ n r;simp(disch:=omega) only[cm,F1,go_sem,simprocAttr,aeh,o,m,i,g];refine⟨λh=>?_,λh=>?_⟩
  ·have a:k<l.length:=by omega
   simp(disch:=omega) only[go_sem,simprocAttr,b.cn,b.cE,↓pH,q _ (fX a)];refine⟨by omega,?_⟩;cases d:p (l.getD k default)
   ·simp(disch:=omega) only[go_sem,simprocAttr,o,m,i,g];exact⟨a,nC c d⟩
   ·simp(disch:=omega) only[F1,go_sem,simprocAttr];rw[zs a c d]
  ·rw[zt (λj u=>c j (by omega))]
def af1{X:Ctx}(a:Ext X0 X)(v fv:AV)(l:lN)(H:List ae)(b:Rd ⟨H,none⟩ v 1 (l.map hC))(c:l.length<2^40)(p:Nat->Bool)(lo:oN)
  (d: ∀x∈l,D X fv [.int .u32 x] ⟨H,none⟩=some (.ret (.bool (p x)) ⟨H,none⟩)):D X (.fn (.func 319) [] []) [v,fv] ⟨H,lo⟩=some (.ret (.bool (l.any p)) ⟨H,lo⟩):=by
 refine Nu Re (afY a rfl rfl) (afZ a rfl) rfl λN e=>?_
 simp(disch:=omega) only[F1,go_sem,simprocAttr,Re,af0 a v fv l H b c p none d,zr]
def aqW(v fv:AV)(l:lB)(b:Rv v 1 (l.map bC))(r:l.length<2^40)(p:UInt8->Bool)(H:List ae)(lo:oN)
  (o: ∀x∈l,D X0 fv [.int .u8 x.toNat] ⟨H,none⟩=some (.ret (.bool (p x)) ⟨H,none⟩)):D X0 (.fn (.func 136) [] []) [v,fv] ⟨H,lo⟩=some (.ret (.int .i64 (kO p l)) ⟨H,lo⟩):=by
 refine aK PW λN u=>?_
 simp only[go_sem,simprocAttr,PW,b.bZ];refine fE l.length (λk e H'=>H'=H/\e 0=v/\e 1=fv/\e 7= .int .i64 l.length/\e 8= .int .i64 k/\ ∀j,j<k->p (l.getD j default)=false) 0 (by omega) ?_ ?_
 ·simp only[go_sem,simprocAttr];omega
 ·rintro k s e H' ⟨rfl,m,i,g,f,c⟩ n q;simp(disch:=omega) only[cm,F1,go_sem,simprocAttr,ad3,m,i,g,f];refine⟨λh=>?_,λh=>?_⟩
  ·have a:k<l.length:=by omega
   simp(disch:=omega) only[go_sem,simprocAttr,b.cn,b.cE,↓pB,o _ (fX a)];refine⟨by omega,?_⟩;cases d:p (l.getD k default)
   ·simp(disch:=omega) only[go_sem,simprocAttr,m,i,g,f];exact⟨a,nC c d⟩
   ·simp(disch:=omega) only[F1,go_sem,simprocAttr];rw[zs a c d]
  ·rw[zt (λj t=>c j (by omega))]
def aqX(v fv:AV)(l:lB)(a:Rv v 1 (l.map bC))(b:l.length<2^40)(p:UInt8->Bool)(H:List ae)(lo:oN)
  (c: ∀x∈l,D X0 fv [.int .u8 x.toNat] ⟨H,none⟩=some (.ret (.bool (p x)) ⟨H,none⟩)):D X0 (.fn (.func 101) [] []) [v,fv] ⟨H,lo⟩=some (.ret (.bool (l.any p)) ⟨H,lo⟩):=by
 refine aK Px λN d=>?_
 simp(disch:=omega) only[F1,go_sem,simprocAttr,Px,aqW v fv l a b p H none c,zr]
def aqY(v fv:AV)(l:List lB)(b:Rv v 1 (l.map sC))(r:l.length<2^40)(p: lB->Bool)(H:List ae)(lo:oN)
  (o: ∀x∈l,D X0 fv [S x] ⟨H,none⟩=some (.ret (.bool (p x)) ⟨H,none⟩)):D X0 (.fn (.func 135) [] []) [v,fv] ⟨H,lo⟩=some (.ret (.int .i64 (kO p l)) ⟨H,lo⟩):=by
 refine aK PV λN u=>?_
 simp only[go_sem,simprocAttr,PV,b.bZ];refine fE l.length (λk e H'=>H'=H/\e 0=v/\e 1=fv/\e 7= .int .i64 l.length/\e 8= .int .i64 k/\ ∀j,j<k->p (l.getD j default)=false) 0 (by omega) ?_ ?_
 ·simp only[go_sem,simprocAttr];omega
 ·rintro k s e H' ⟨rfl,m,i,g,f,c⟩ n q;simp(disch:=omega) only[cm,F1,go_sem,simprocAttr,ad2,m,i,g,f];refine⟨λh=>?_,λh=>?_⟩
  ·have a:k<l.length:=by omega
   simp(disch:=omega) only[go_sem,simprocAttr,b.cn,b.cE,↓pS,o _ (fX a)];refine⟨by omega,?_⟩;cases d:p (l.getD k default)
   ·simp(disch:=omega) only[go_sem,simprocAttr,m,i,g,f];exact⟨a,nC c d⟩
   ·simp(disch:=omega) only[F1,go_sem,simprocAttr];rw[zs a c d]
  ·rw[zt (λj t=>c j (by omega))]
def aqZ(v fv:AV)(l:List lB)(a:Rv v 1 (l.map sC))(b:l.length<2^40)(p: lB->Bool)(H:List ae)(lo:oN)
  (c: ∀x∈l,D X0 fv [S x] ⟨H,none⟩=some (.ret (.bool (p x)) ⟨H,none⟩)):D X0 (.fn (.func 100) [] []) [v,fv] ⟨H,lo⟩=some (.ret (.bool (l.any p)) ⟨H,lo⟩):=by
 refine aK Pw λN d=>?_
 simp(disch:=omega) only[F1,go_sem,simprocAttr,Pw,aqY v fv l a b p H none c,zr]
def BO(r:aC)(b:r.1+r.2<4294967296)(H:List ae)(lo:oN):D X0 (.fn (.func 113) [] []) [.agg (aD r)] ⟨H,lo⟩=some (.ret (.int .i64 (r.1+r.2:Nat)) ⟨H,lo⟩):=by
 refine aK PE λN a=>?_
 simp(disch:=omega) only[F1,go_sem,simprocAttr,PE,a,aD,aoU]
def Sf(r:aC)(c:r.1<4294967296)(b:r.2<4294967296)(H:List ae)(lo:oN):D X0 (.fn (.func 78) [] []) [.agg (aD r)] ⟨H,lo⟩=some (.ret (.bool (ke r)) ⟨H,lo⟩):=by
 refine aK Pm λN a=>?_
 simp(disch:=omega) only[R4,F1,go_sem,simprocAttr,Pm,a,aD,ke]
 (repeat' (first|apply And.intro|intro _))
 all_goals(first|omega| (refine dp (ahR AV.bool (anb.2 ?_)) rfl;grind))
def holds(y x:aC):Bool:=decide (x=y)|| (decide (y.1<=x.1)&&decide (x.1+x.2<=y.1+y.2))
def run_eq(a b:aC):eI (.agg [.int,.int]) (.agg (aD a)) (.agg (aD b))=some (decide (a=b)):=by
 obtain⟨f,e⟩:=a;obtain⟨d,c⟩:=b;simp only[eI,aD,aeV,anu,HD,N9,ae4,and_self,apA,Int.natCast_inj]
 grind
def af2(y x:aC)(d:y.1+y.2<4294967296)(e:x.1+x.2<4294967296)(H:List ae)(lo:oN):D X0 (.fn (.func 81) [] []) [.agg (aD y),.agg (aD x)] ⟨H,lo⟩=some (.ret (.bool (holds y x)) ⟨H,lo⟩):=by
 refine aK Et λN b=>?_
 have f:=BO y d;have ex:=BO x e;by_cases he:x=y
 ·simp only[F1,go_sem,simprocAttr,Et,b,run_eq,he,holds]
 ·by_cases c:y.1<=x.1
  ·have a: (y.1:Int)<=x.1:=by omega
   simp only[F1,go_sem,simprocAttr,Et,b,run_eq,he,holds,c,a,f,ex,aoU];refine dp (ahR AV.bool (anb.2 ?_)) rfl
   grind
  ·have a: ¬(y.1:Int)<=x.1:=by omega
   simp only[F1,go_sem,simprocAttr,Et,b,run_eq,he,holds,c,a,agq,avU]
def BP(l:List aC):Prop:=l.length<=64/\ ∀x∈l,x.1+x.2<=64
def aq0(x y:aC)(c:x.1+x.2<4294967296)(b:y.1+y.2<4294967296)(p:Nat)(H:List ae)(lo:oN)(e:H[p]?=some (.box (aD x) none)):
  D X0 (.fn (.func 80) [] [.ptr p 0]) [.agg (aD y)] ⟨H,lo⟩=some (.ret (.bool (holds y x)) ⟨H,lo⟩):=by
 refine fi Po λN d=>?_
 have a: ∀L,(H++L)[p]?=some (.box (aD x) none):=λL=>by grind
 simp only[F1,go_sem,simprocAttr,Po,d,a,af2 y x b c]
def KA(l:List aC)(k:Nat):Bool:=decide (k<64)&&l.any λy=>holds y (k,1)
def aq1(v:AV)(l:List aC)(f:Rv v 2 (l.map aD))(b:BP l)(k:Nat)(i:k<2147483648)(H:List ae)(lo:oN):
  D X0 (.fn (.func 43) [] []) [.agg [v],.int .i64 k] ⟨H,lo⟩=some (.ret (.bool (KA l k)) ⟨H,lo⟩):=by
 refine aK Jd λN a=>?_
 have hm:=Sf (k,1) (by omega) (by simp);have c:=aqV v (.fn (.func 80) [] [.ptr (N+1) 0]) l f (by have:=b.1;omega) (λy=>holds y (k,1)) (H++[.box [v] none,.box (aD (k,1)) none]) none (λy d=>aq0 (k,1) y (by omega) (by have:=b.2 y d;omega) (N+1) _ none (by rw[bM a];rfl));have g:aD (k,1)=[.int .i64 (k:Nat),.int .i64 1]:=rfl;rw[g]at hm c;by_cases h:k<64
 ·have e:ke (k,1)=true:=by simp[ke];omega
  simp only[F1,go_sem,simprocAttr,Jd,a,hm,e,c];simp[KA,h]
 ·have e:ke (k,1)=false:=by simp[ke];omega
  simp only[F1,go_sem,simprocAttr,Jd,a,hm,e];simp[KA,h]
def xh{X:Ctx}(pf:PF){args cap:lA}{H:List ae}{R:aU->Prop}(b:X.cg f=none)(e:X.code f=some pf)(d:Nat.ble (args++cap).length pf.ntmps=true)
  (h: ∀n,H.length=n->wp X f false pf.body ⟨dv (args++cap),[]⟩ ⟨H,none⟩ (dX X n lo pf.results R)): ∃a,D X (.fn (.func f) [] cap) args ⟨H,lo⟩=some a/\R a:=by
 have c:=ao6 d;refine Nt b e (by grind) ?_
 grind
def xi(l:List aC):List lA:=(List.range l.length).map λi=>[.int .i64 (i:Nat),.agg (aD (l.getD i default))]
def BQ(l:List aC): (xi l).length=l.length:=by simp[xi]
def Sg{l:List aC}(h:j<l.length): (xi l)[j]?=some [.int .i64 (j:Nat),.agg (aD (l.getD j default))]:=by
 unfold xi;grind
def BR{N id o:Nat}{f:Fn}{L:lA}{H:List ae}(h:N<=id):finish N lo (.fn f [] (.ptr id o::L)) ⟨H,none⟩=(.fn f [] (.ptr id o::L),⟨H,lo⟩):=by
 have a: ¬(AV.fn f [] (.ptr id o::L)).refs<=N:=by simp only[AV.refs,aL];omega
 refine acp a ?_;unfold Den.freeze;simp[a]
def Sh(a:Rv v sz af){H:List ae}{tg:Option TypeId}:sd ⟨H,lo⟩ v tg=some (.ptr H.length 0,⟨H++[.box [v] tg],lo⟩):=by
 obtain⟨h,_,_⟩:=a ⟨[],none⟩;cases v<;>first|rfl|grind
def dy(b:Rv v sz af)(c:b9 af=0):v.refs=0:=by
 obtain⟨d,a,e⟩:=b ⟨[],none⟩;cases v<;>simp only[]at d
 ·rfl
 ·simp only[Den.elems]at a;split at a
  ·cases a;simpa only[AV.refs]using c
  grind
 ·trivial
def af3(v:AV)(l:List aC)(d:Rv v 2 (l.map aD))(N:Nat)(H:List ae)(c:H.length=N)(lo:oN):
  D X0 (.fn (.func 74) [] []) [.agg [v]] ⟨H,lo⟩=some (.ret (.fn (.func 138) [] [.ptr (N+1) 0]) ⟨H++[.box [v] none,.box [v] none],lo⟩):=by
 have e:=λH'=>Sh (H:=H') (lo:=none) (tg:=none) d
 have e1:D X0 (.fn (.func 108) [] []) [v] ⟨H++[.box [v] none],none⟩=some (.ret (.fn (.func 138) [] [.ptr (N+1) 0]) ⟨H++[.box [v] none,.box [v] none],none⟩):=by
  refine aK PB λM a=>?_
  have b:M=N+1:=by rw[<-a];simp[c]
  subst b;simp only[go_sem,simprocAttr,PB,a,e];rw[BR (by omega)]
 refine aK Pl λM a=>?_
 obtain rfl:M=N:=by rw[<-a,c]
 simp only[go_sem,simprocAttr,Pl,a,e1];rw[BR (by omega)]
def nE{X:Ctx}{a:List RV}{R:aU->Prop}{e:Env}{p:Nat}{b:lN}{H:List ae}{l:oN}:
  dX X n lo a R .ret ⟨e,p::b⟩ ⟨H,l⟩=match H[p]? with|some .fO=>dX X n lo a R .ret ⟨e,b⟩ ⟨H.set p .dead,l⟩|_=>False:=by
 simp only[yn,dV];cases c:H[p]? with
 |none=>simp
 |some o=>cases o<;>simp[AS.set]
def fits(n:Nat)(x:aC):Bool:=decide (1<=n)&&decide (n<=x.2)
def KB(l:List aC)(n:Nat):AV:=match l.find? (fits n)with
 |some x=>.aA [.int .i64 (x.1:Nat),.bool true]
 |none=>.aA [.int .i64 0,.bool false]
def aq2[Inhabited α]{k:Nat}(b:k<l.length)(h: ∀j,j<k->p (l.getD j default)=false)(a:p (l.getD k default)=true):l.find? p=some (l.getD k default):=by
 rw[List.find?_eq_some_iff_getElem];refine⟨a,k,b,?_,λj c=>?_⟩
 ·grind
 grind
def aq3[Inhabited α](h: ∀j,j<l.length->p (l.getD j default)=false):l.find? p=none:=by
 rw[awO];intro x a;obtain⟨j,b,rfl⟩:=ara a
 grind
def af4(v:AV)(l:List aC)(z:Rv v 2 (l.map aD))(X:BP l)(a:Nat)(o:ae):
  uI X0 (.fn (.func 138) [] [.ptr (a+1) 0]) a [o,.box [v] none] (xi l):=by
 intro S V y I J b B p A W s hP h0 Z d hG lo;have U:l.length<=64:=X.1;have g: ∀i,V.dM i->i<b:=λi Y=>(p i Y).1
 suffices h: ∃w,D X0 (.fn (.func 138) [] [.ptr (a+1) 0]) [y] ⟨W,lo⟩=some w/\
  (λw=> ∃s' m aj,w=aU.ret (.aA []) ⟨m,aj⟩/\V.P s' m/\ (I (xi l).length s'\/J s')/\b<=m.length/\
    (∀i,i<b-> ¬V.dM i-> ¬(a<=i/\i<a+[o,ae.box [v] none].length)->m[i]?=W[i]?)/\k7 V.c b lo aj none (V.row s')) w by grind
 refine xh PY rfl rfl rfl λN hN=>?_
 obtain rfl:N=b:=by omega
 have t:W[a+1]?=some (.box [v] none):=hG 1 (by simp);simp only[go_sem,simprocAttr,PY,t,z.bZ];refine gZ l.length (λk e m aj=> ∃s',I k s'/\ky V N W (λi=>a<=i/\i<a+[o,ae.box [v] none].length) s' m aj/\e 0=y/\e 5=v/\e 6= .int .i64 l.length/\e 7= .int .i64 k) 0 (by omega) ?_ ?_
 ·simp only[go_sem,simprocAttr];exact⟨s,h0,⟨hP,by omega,λ_ _ _ _=>rfl,.inl ⟨rfl,d⟩,λr e=>by rw[d]at e;cases e⟩⟩
 rintro k hk e W1 x ⟨s1,G,F,K,H,e6,e7⟩ n T;simp only[cm,go_sem,simprocAttr,ad4,H,e6,e7];refine⟨λh=>?_,λh=>?_⟩
 ·have q:k<l.length:=by omega
  have j:=F.push B g [.box (aD (l.getD k default)) none];obtain⟨c,s2,W2,R,Q,P,O,M,L,E⟩:=A k _ s1 (Sg q) G (W1++[.box (aD (l.getD k default)) none]) j.P j.len x;have u:=j.step P O M L;simp(disch:=omega) only[go_sem,simprocAttr,z.cn,z.cE,h,T,K,Q];cases c
  ·obtain⟨C,f,f1,f2,f3,f4,f5⟩:=u.fin B g (dU:=lo);simp only[go_sem,simprocAttr,f1];exact⟨s2,C,f,rfl,f2,.inr E,f3,f4,f5⟩
  ·simp(disch:=omega) only[go_sem,simprocAttr,K,H,e6,e7];exact⟨q,s2,E,u⟩
 ·obtain⟨C,f,f1,f2,f3,f4,f5⟩:=F.fin B g (dU:=lo);simp only[go_sem,simprocAttr,f1];exact⟨s1,C,f,rfl,f2,.inl (by rw[BQ,show l.length=k by omega];exact G),f3,f4,f5⟩
def bm{H L:List ae}{o:ae}(h:H[i]?=some o): (H++L)[i]?=some o:=by grind
def cZ{H:List ae}{p:Nat}{x o:ae}(h:H[p]?=some x): (H.set p o)[p]?=some o:=by grind
def fy{H:List ae}{o:ae}(h:H[i]?=some o):i<H.length:=by grind
def lH{W H:List ae}{N:Nat}(a:H.length=N)(h: ∀i,i<N->W[i]?=H[i]?):W.take N=H:=by
 apply an2
 grind
def aq4(v:AV)(l:List aC)(Q:Rv v 2 (l.map aD))(Z:BP l)(m:Nat)(H:List ae)(lo:oN):
  D X0 (.fn (.func 173) [] []) [.agg [v],.int .i64 m] ⟨H,lo⟩=some (.ret (KB l m) ⟨H,lo⟩):=by
 refine aK Qc λN C=>?_
 have he:=af3 v l Q (N+4) (H++[.box [v] none,.box [.int .i64 m] none,.box [.int .i64 0] none,.box [.bool false] none]) (by simp[C]) none;simp only[go_sem,simprocAttr,Qc,C,he];refine wx (S:=Option aC) (λe=>e 3= .ptr (N+1) 0/\e 4= .ptr (N+2) 0/\e 5= .ptr (N+3) 0) (by simp only[go_sem,simprocAttr]) (xi l) C [.box [v] none,.box [v] none] (λs=>[.box [v] none,.box [.int .i64 m] none,.box [.int .i64 ((s.getD (0,0)).1:Nat)] none,.box [.bool s.isSome] none]) (nB:=4) (λ_=>rfl) none
  (λj s=>s=none/\ ∀i,i<j->fits m (l.getD i default)=false) (λex s=>ex= .ret/\s.isSome=true/\l.find? (fits m)=s) rfl ?_ (by simp) ⟨rfl,λi G=>absurd G (ao4 i)⟩ (λex s h=>⟨.ret,by rw[h.1];rfl,by rw[h.1];rfl,by rw[h.1];rfl⟩) ?_ ?_ ?_
 ·exact af4 v l Q Z (N+4) _
 ·rintro e ⟨e3,F,E⟩ j y s J ⟨rfl,f⟩;have R:j<l.length:=by
   have:=(ack.1 J).1;rwa[BQ]at this
  rw[Sg R]at J;cases J;have P:=aq2 (p:=fits m) R f;have z:=nC (p:=λi=>fits m (l.getD i default)=false) f;generalize l.getD j default=r at*;refine⟨rfl,λW n' Y X w=>?_⟩;simp only[go_sem,simprocAttr,iZ,Y];refine⟨[.box (aD r) none],rfl,λI n B=>?_⟩;simp only[gj,gi,anj,aeS,Nat.reduceAdd]at B;obtain⟨w0,w1,u,t⟩:=B;have f1: ∀L,(I++L)[N+1]?=some (.box [.int .i64 m] none):=λL=>bm w1
  have f2: ∀L,(I++L)[N+2]?=some (.box [.int .i64 (0:Nat)] none):=λL=>bm u
  have f3: ∀L,(I++L)[N+3]?=some (.box [.bool false] none):=λL=>bm t
  by_cases c:fits m r=true
  ·have c2:1<=m/\m<=r.2:=by unfold fits at c;simpa using c
   have g: (m:Int)>=1:=by omega
   have q: (r.2:Int)>=m:=by omega
   simp(disch:=omega) only[go_sem,simprocAttr,JG,e3,F,E,f1,f2,f3,n,g,q,adu];refine⟨some r,?_,by omega,λi G A=>?_,rfl,P c⟩
   ·simp only[gj,gi,anj,aeS,Nat.reduceAdd];refine⟨?_,?_,?_,?_⟩
    ·rw[ach (by omega),ach (by omega)];exact bm w0
    ·rw[ach (by omega),ach (by omega)];exact f1 _
    ·rw[ach (by omega),aeI (by simp;omega)];rfl
    ·rw[aeI (by simp;omega)];rfl
   ·rw[ach (by omega),ach (by omega),acj (by omega)]
  ·have c:fits m r=false:=by simpa using c
   have k:iJ (I++[ae.box (aD r) none]) N 0 [.box [v] none,.box [.int .i64 m] none,.box [.int .i64 (0:Nat)] none,.box [.bool false] none]:=by
    simp only[gj,gi,anj,aeS,Nat.reduceAdd];exact⟨bm w0,f1 _,f2 _,f3 _⟩
   by_cases h1:1<=m
   ·have g: (m:Int)>=1:=by omega
    have q: ¬(r.2:Int)>=m:=by unfold fits at c;simp[h1]at c;omega
    simp only[go_sem,simprocAttr,JG,e3,f1,n,g,q,o5];exact⟨none,k,by omega,λi G A=>acj (by omega),rfl,z c⟩
   ·have g: ¬(m:Int)>=1:=by omega
    simp only[go_sem,simprocAttr,JG,e3,f1,n,g,o5];exact⟨none,k,by omega,λi G A=>acj (by omega),rfl,z c⟩
 ·rintro e ⟨e3,F,E⟩ s W p V ⟨rfl,f⟩ d w O;simp only[gj,gi,anj,aeS,Nat.reduceAdd]at w;obtain⟨w0,w1,u,t⟩:=w;rw[BQ]at f;have K: ∀a b c,(((W.set (N+2) a).set (N+3) b).set p c).take N=H:=λa b c=>(((d.set (by omega)).set (by omega)).set (by omega)).take C
  have T: ∀a b,((W.set (N+2) a).set (N+3) b)[N+3]?=some b:=λa b=>aeI (by rw[aeU];exact fy t)
  have s2: ∀a b,((W.set (N+2) a).set (N+3) b)[N+2]?=some a:=λa b=>by rw[ach (by omega)];exact cZ u
  simp(disch:=omega) only[F1,go_sem,simprocAttr,F,E,u,t,O,nE,K,s2,T,KB,aq3 f]
 ·rintro e ⟨e3,F,E⟩ ex s W p V ⟨rfl,U,hI⟩ d w O;simp only[gj,gi,anj,aeS,Nat.reduceAdd]at w;obtain⟨w0,w1,u,t⟩:=w;have M: ∀o,(W.set p o).take N=H:=λo=>(d.set (by omega)).take C
  simp(disch:=omega) only[F1,go_sem,simprocAttr,F,E,u,t,O,nE,M];refine dp ?_ rfl;unfold KB;rw[hI];cases s with
  |none=>cases U
  |some x=>rfl
structure BS where
 x:aC
 put:Bool
 out:List aC
 row:oN
 res:AV
 ok:Bool
def af5(H:List ae)(N:Nat)(v:AV)(s:BS)(W:List ae):Prop:=
 (∀i,i<N->W[i]?=H[i]?)/\W[N]?=some (.box [v] none)/\W[N+1]?=some (.box [s.res] none)/\W[N+2]?=some (.box [.bool s.ok] none)/\W[N+3]?=some (.box (aD s.x) none)/\
   W[N+5]?=some (.box [.bool s.put] none)/\SV (N+4) 2 fF W s.row (s.out.map aD)
def Si(H:List ae)(N:Nat)(v:AV):YV BS:=⟨af5 H N v,BS.row,λi=>i<N+6,N⟩
def aq5(H:List ae)(N:Nat)(v:AV): (Si H N v).Ok where
 st:=λs W e ⟨m,l,k,j,g,f,b⟩ h=>by
  have d: ∀i,i<N+6->e[i]?=W[i]?:=λi a=>h i (.inl a)
  exact⟨λi a=>by grind,by grind,by grind,by grind,
   by simp_all,by simp_all,b.st (d _ (by omega)) λi a=>h i (.inr a)⟩
 lt:=λs W r ⟨_,_,_,_,_,_,b⟩ c=>b.row c
def Sj(l:List aC)(a:aC)(v:AV)(j:Nat)(s:BS):Prop:=
 gJ a false [] l=gJ s.x s.put s.out (l.drop j)/\s.x.1+s.x.2<=64/\s.out.length<=2*j/\s.res= .au/\s.ok=false
def af6(l:List aC)(a:aC)(v:AV)(b:Ex)(s:BS):Prop:=b= .ret/\gJ a false [] l=none/\s.res=v/\s.ok=false
def pV(v:AV)(l:List aC)(x:aC):AV:=match gL l x with
 |some a=>.aA [.agg [eL a],.bool true]
 |none=>.aA [.agg [v],.bool false]
def af7(v:AV)(l:List aC)(hv:Rv v 2 (l.map aD))(hl:BP l)(x:aC)(Sk:x.1<4294967296)(Sl:x.2<4294967296)(H:List ae)(lo:oN):
  D X0 (.fn (.func 120) [] []) [.agg [v],.int .i64 (x.1:Nat),.int .i64 (x.2:Nat)] ⟨H,lo⟩=some (.ret (pV v l x) ⟨H,lo⟩):=by
 refine aK Jr λN hN=>?_
 have hm:=Sf x Sk Sl;have hr:aD x=[.int .i64 (x.1:Nat),.int .i64 (x.2:Nat)]:=rfl;rw[hr]at hm;have Sm:v.refs=0:=dy hv (bL (λ_=>rfl) l);cases g:ke x with
 |false=>
  simp(disch:=omega) only[F1,go_sem,simprocAttr,Jr,hN,hm,g,Sm];have e1:pV v l x= .aA [.agg [v],.bool false]:=by unfold pV gL;rw[g];rfl
  rw[e1]
 |true=>
  have he:=af3 v l hv (N+6) (H++[.box [v] none,.box [.au] none,.box [.bool false] none,.box (aD x) none,.box [.au] none,.box [.bool false] none]) (by simp[hN]) none;rw[hr]at he;simp(disch:=omega) only[go_sem,simprocAttr,Jr,hN,hm,g,he];rw[<-hr];generalize F: ((((((((((((((dv _).set 3 _).set 6 _).set 7 _).set 13 _).set 14 _).set 15 _).set 8 _).set 16 _).set 17 _).set 18 _).set 9 _).set 10 _).set 20 _).set 21 _=e;have G:e 3= .ptr N 0:=by rw[<-F];rfl
  have q6:e 6= .ptr (N+1) 0:=by rw[<-F];rfl
  have q7:e 7= .ptr (N+2) 0:=by rw[<-F];rfl
  have q8:e 8= .ptr (N+3) 0:=by rw[<-F];rfl
  have q9:e 9= .ptr (N+4) 0:=by rw[<-F];rfl
  have KC:e 10= .ptr (N+5) 0:=by rw[<-F];rfl
  have q21: (ao.t 21).get e= .fn (.func 138) [] [.ptr (N+6+1) 0]:=by rw[<-F];rfl
  clear F;obtain⟨E,Ff⟩: ∃E,E=H++[ae.box [v] none,.box [.au] none,.box [.bool false] none,.box (aD x) none,.box [.au] none,.box [.bool false] none,.box [v] none,.box [v] none]:=⟨_,rfl⟩;have aq6:E.length=N+8:=by rw[Ff];simp[hN]
  rw[<-Ff];have m: ∀k,E[N+k]?=[ae.box [v] none,.box [.au] none,.box [.bool false] none,.box (aD x) none,.box [.au] none,.box [.bool false] none,.box [v] none,.box [v] none][k]?:=λk=>by rw[Ff,bM hN]
  have aq7:E[N]?=some (.box [v] none):=by rw[Ff,dB hN];rfl
  have Oo:af5 H N v ⟨x,false,[],none,.au,false⟩ E:=by
   refine⟨λi b=>by rw[Ff,acj (by omega)],aq7,m 1,m 2,m 3,m 5,.inl ⟨rfl,rfl,m 4⟩⟩
  have qE:x.1+x.2<=64:=by unfold ke at g;simp at g;omega
  refine Oq (Si H N v) (aq5 H N v) (xi l) (N+6) [.box [v] none,.box [v] none] E ⟨x,false,[],none,.au,false⟩ (by rw[q21];rfl) (by rw[q21];exact af4 v l hv hl (N+6) _)
   (λi b=>?_) (by simp[aq6]) (λi b=>?_) Oo rfl (Sj l x v) (af6 l x v) ⟨rfl,qE,by simp,rfl,rfl⟩ (λex s h=>?_) ?_ ?_ ?_
  ·match i,b with
   |0,_=>exact m 6
   |1,_=>exact m 7
  ·have:i<N+6:=b;simp only[aeV,anu];omega
  ·exact⟨.ret,by rw[h.1];rfl,by rw[h.1];rfl,by rw[h.1];rfl⟩
  ·intro j y s hy hI;have hj:j<l.length:=by
    have:=(ack.1 hy).1;rwa[BQ]at this
   rw[Sg hj]at hy;cases hy;have aq8:l.drop j=l.getD j default::l.drop (j+1):=by
    rw[anh hj,aeN,ac7 hj];rfl
   have hym:=hl.2 _ (fX hj);generalize l.getD j default=y at*;refine⟨rfl,λW hP yq=>?_⟩;obtain⟨n,hn⟩: ∃n,W.length=n:=⟨_,rfl⟩;simp(disch:=omega) only[go_sem,simprocAttr,iZ,hn];refine⟨[.box (aD y) none],rfl,λP hW2 Om=>?_⟩;obtain⟨g1,g2,g3,g4⟩:=hI;rw[aq8]at g1;obtain⟨p0,p1,p2,p3,p4,p5,X⟩:=Om;have t:P.length=n:=by omega
   have f3: ∀L,(P++L)[N+3]?=some (.box (aD s.x) none):=λL=>bm p4
   have f5: ∀L,(P++L)[N+5]?=some (.box [.bool s.put] none):=λL=>bm p5
   have f0: ∀L,(P++L)[N]?=some (.box [v] none):=λL=>bm p1
   have f1: ∀L,(P++L)[N+1]?=some (.box [s.res] none):=λL=>bm p2
   have f2: ∀L,(P++L)[N+2]?=some (.box [.bool s.ok] none):=λL=>bm p3
   have hnN:N+10<=n:=by omega
   have Sn:=hl.1;have ey:=BO y (by omega);have ex:=BO s.x (by omega);have K:SV (N+4) 2 fF (P++[.box (aD y) none]) s.row (s.out.map aD):=X.st (by rw[acj (by omega)]) λi b=>by
    obtain⟨_,_,_,_,q⟩:=X.row b;rw[acj (fy q)]
   have f: ∀i,s.row=some i->N+6<=i:=by
    intro i b;rcases X with⟨q,_⟩| ⟨id,ak,q,_,J,G,R⟩
    ·rw[q]at b;cases b
    ·rw[q]at b;cases b;have:i≠N+5:=by rintro rfl;rw[p5]at R;cases R
     omega
   have M7: (P++[ae.box (aD y) none]).length=n+1:=by simp[t]
   have fin: ∀ (w:List ae) (s':BS) (KD:oN) (fr:Fr),(∀i,i<n->i≠N+3->i≠N+4->i≠N+5->s.row≠some i->w[i]?=P[i]?)->w[N+3]?=some (.box (aD s'.x) none)->w[N+5]?=some (.box [.bool s'.put] none)->
     SV (N+4) 2 fF w s'.row (s'.out.map aD)->s'.res=s.res->s'.ok=s.ok->n<=w.length->((KD=none/\s'.row=s.row)\/ (∃j,N<=j/\j<N+10/\KD=some j/\ (s'.row=s.row\/ ∃r,s'.row=some r/\n<=r)))->Sj l x v (j+1) s'->
     Og (Si H N v) (E.length+2) s P (Sj l x v (j+1)) (af6 l x v) .normal fr ⟨w,KD⟩:=by
    intro w s' KD fr h1 h2 h3 h4 h5 h6 h7 h8 h9;have S: ∀i,i<N+3->w[i]?=P[i]?:=λi b=>h1 i (by omega) (by omega) (by omega) (by omega) (λe=>by have:=f i e;omega)
    refine⟨s',⟨λi b=>by rw[S i (by omega)];exact p0 i b,by rw[S N (by omega)];exact p1,by rw[S (N+1) (by omega),h5];exact p2,by rw[S (N+2) (by omega),h6];exact p3,h2,h3,h4⟩,⟨by show P.length<=w.length;omega,λi b hp hr=>?_⟩,?_,h9⟩
    ·have nZ: ¬i<N+6:=hp;exact h1 i (by omega) (by omega) (by omega) (by omega) hr
    ·rcases h8 with h8| ⟨j,A,J,G,R⟩
     ·exact .inl h8
     ·refine .inr ⟨j,A,by omega,G,?_⟩;rw[t];exact R
   have C: ∀af:List lA,af.length<=200->(af.length+1)*16<=room:=λaf h=>by unfold room;omega
   by_cases c1:y.1+y.2<s.x.1
   ·have M: (y.1:Int)+y.2<s.x.1:=by omega
    obtain⟨Q,v',W3,w,r',a1,a2,a3,a4,a5,O,a7⟩:=K.append (bytes:=16) (el:=aD y) (by omega) (by omega) rfl rfl (C _ (by simp;omega)) none;simp(disch:=omega) only[go_sem,simprocAttr,y5,q8,q9,t,f3,ey,M,a1,a2,a3,Dh,aoU];refine fin w {s with out:=s.out++[y],row:=r'} _ _ (λi A J G R q5=>?_) ?_ ?_ (by rw[aeP];exact a4) rfl rfl (by omega) (.inr ⟨N+4,by omega,by omega,rfl,?_⟩) ⟨?_,g2,by simp;omega,g4⟩
    ·rw[O i (by omega) G q5,acj (by omega)]
    ·rw[O _ (by omega) (by omega) (λq=>by have:=f _ q;omega)];exact f3 _
    ·rw[O _ (by omega) (by omega) (λq=>by have:=f _ q;omega)];exact f5 _
    ·rcases a7 with q| ⟨q,A,J⟩
     ·exact .inl q
     ·exact .inr ⟨q,A,by omega⟩
    ·rw[g1,gJ,ac6 c1]
   have M: ¬(y.1:Int)+y.2<s.x.1:=by omega
   by_cases c2:s.x.1+s.x.2<y.1
   ·have V: (y.1:Int)>s.x.1+s.x.2:=by omega
    cases c:s.put
    ·obtain⟨Q,v',W3,w,r',a1,a2,a3,a4,a5,O,a7⟩:=K.append (bytes:=16) (el:=aD s.x) (by omega) (by omega) rfl rfl (C _ (by simp;omega)) none;have Z: ∀i,r'=some i->N+6<=i:=by
      intro i b;rcases a7 with q| ⟨q,A,J⟩
      ·rw[q]at b;exact f i b
      ·rw[A]at b;cases b;omega
     have u5:w[N+5]?=some (.box [.bool false] none):=by
      rw[O _ (by omega) (by omega) (λq=>by have:=f _ q;omega),<-c];exact f5 _
     have un:w[n]?=some (.box (aD y) none):=by
      rw[O _ (by omega) (by omega) (λq=>?_),<-t]
      ·simp
      ·rcases X with⟨z,_⟩| ⟨id,ak,z,_,z2,z3,z4⟩
       ·rw[z]at q;cases q
       ·rw[z]at q;cases q;have:=fy z4;omega
     have aq9:SV (N+4) 2 fF (w.set (N+5) (.box [.bool true] none)) r' ((s.out++[s.x]).map aD):=by
      rw[aeP];exact SV.st a4 (ach (by omega)) λi b=>ach (by have:=Z i b;omega)
     obtain⟨vw,v2,U,W6,r2,b1,b2,b3,b4,b5,b6,b7⟩:=aq9.append (bytes:=16) (el:=aD y) (by rw[aeU];omega) (by omega) rfl rfl (C _ (by simp;omega)) (some (N+4));have b1':w[N+4]?=some (.box [vw] none):=by rw[<-b1,ach (by omega)]
     have agb:cO (some (N+4)) (N+4)=some (N+4):=by simp[cO]
     simp(disch:=omega) only[go_sem,simprocAttr,y5,q8,q9,KC,t,f3,f5,ey,ex,M,V,a1,a2,a3,Dh,aoU,c,u5,un,b1',b2,b3,agb];refine fin W6 {s with put:=true,out:=s.out++[s.x]++[y],row:=r2} _ _ (λi A J G R q5=>?_) ?_ ?_ (by rw[aeP];exact b4) rfl rfl (by rw[aeU]at b5;omega) (.inr ⟨N+4,by omega,by omega,rfl,?_⟩) ⟨?_,g2,by simp;omega,g4⟩
     ·have NZ:r'≠some i:=by
        intro q;rcases a7 with z| ⟨z,z1,z2⟩
        ·rw[z]at q;exact q5 q
        ·rw[z1]at q;cases q;omega
      rw[b6 i (by rw[aeU];omega) G NZ,ach (by omega),O i (by omega) G q5,acj (by omega)]
     ·rw[b6 _ (by rw[aeU];omega) (by omega) (λq=>by have:=Z _ q;omega),ach (by omega),O _ (by omega) (by omega) (λq=>by have:=f _ q;omega)];exact f3 _
     ·rw[b6 _ (by rw[aeU];omega) (by omega) (λq=>by have:=Z _ q;omega)];exact aeI (by omega)
     ·rcases b7 with q| ⟨q,A,J⟩
      ·rcases a7 with z| ⟨z,z1,z2⟩
       ·exact .inl (q.trans z)
       ·exact .inr ⟨z,q.trans z1,by omega⟩
      ·rw[aeU]at J;exact .inr ⟨q,A,by omega⟩
     ·rw[g1,gJ,ac0 c1,ac6 c2,c];simp
    ·obtain⟨Q,v',W3,w,r',a1,a2,a3,a4,a5,O,a7⟩:=K.append (bytes:=16) (el:=aD y) (by omega) (by omega) rfl rfl (C _ (by simp;omega)) none;simp(disch:=omega) only[go_sem,simprocAttr,y5,q8,q9,KC,t,f3,f5,ey,ex,M,V,a1,a2,a3,Dh,aoU,c];refine fin w {s with out:=s.out++[y],row:=r'} _ _ (λi A J G R q5=>?_) ?_ ?_ (by rw[aeP];exact a4) rfl rfl (by omega) (.inr ⟨N+4,by omega,by omega,rfl,?_⟩) ⟨?_,g2,by simp;omega,g4⟩
     ·rw[O i (by omega) G q5,acj (by omega)]
     ·rw[O _ (by omega) (by omega) (λq=>by have:=f _ q;omega)];exact f3 _
     ·rw[O _ (by omega) (by omega) (λq=>by have:=f _ q;omega)];exact f5 _
     ·rcases a7 with q| ⟨q,A,J⟩
      ·exact .inl q
      ·exact .inr ⟨q,A,by omega⟩
     ·rw[g1,gJ,ac0 c1,ac6 c2,c];simp
   have V: ¬(y.1:Int)>s.x.1+s.x.2:=by omega
   by_cases c3:y.1+y.2=s.x.1
   ·have KE: ((y.1:Int)+y.2=s.x.1)=True:=aBj (by omega);simp(disch:=omega) only[go_sem,simprocAttr,y5,q8,t,f3,ey,ex,M,V,KE,aoU];refine fin _ {s with x:=(y.1,y.2+s.x.2)} _ _ (λi A J G R q5=>?_) ?_ ?_ (K.st (ach (by omega)) λi b=>ach (by have:=f _ b;omega)) rfl rfl (by rw[aeU];omega) (.inl ⟨rfl,rfl⟩) ⟨?_,by simp;omega,by simp;omega,g4⟩
    ·rw[ach (by omega),acj (by omega)]
    ·rw[aeI (by omega)];rfl
    ·rw[ach (by omega)];exact f5 _
    ·rw[g1,gJ,ac0 c1,ac0 c2,ac6 c3]
   have KE: ¬(y.1:Int)+y.2=s.x.1:=by omega
   by_cases c4:y.1=s.x.1+s.x.2
   ·have So: ((y.1:Int)=s.x.1+s.x.2)=True:=aBj (by omega);simp(disch:=omega) only[go_sem,simprocAttr,y5,q8,t,f3,ey,ex,M,V,KE,So,aoU];refine fin _ {s with x:=(s.x.1,s.x.2+y.2)} _ _ (λi A J G R q5=>?_) ?_ ?_ (K.st (ach (by omega)) λi b=>ach (by have:=f _ b;omega)) rfl rfl (by rw[aeU];omega) (.inl ⟨rfl,rfl⟩) ⟨?_,by simp;omega,by simp;omega,g4⟩
    ·rw[ach (by omega),acj (by omega)]
    ·rw[aeI (by omega)];rfl
    ·rw[ach (by omega)];exact f5 _
    ·rw[g1,gJ,ac0 c1,ac0 c2,ac0 c3,ac6 c4]
   ·have So: ¬(y.1:Int)=s.x.1+s.x.2:=by omega
    simp(disch:=omega) only[go_sem,simprocAttr,y5,G,q6,q7,q8,t,f0,f1,f2,f3,ey,ex,M,V,KE,So,aoU,Sm];obtain⟨Wf,Fg⟩: ∃Wf,Wf=((P++[ae.box (aD y) none]).set (N+1) (ae.box [v] none)).set (N+2) (ae.box [AV.bool false] none):=⟨_,rfl⟩;rw[<-Fg];have hk: ∀i,i<n->i≠N+1->i≠N+2->Wf[i]?=P[i]?:=λi A J G=>by
     rw[Fg,ach (by omega),ach (by omega),acj (by omega)]
    have k1:Wf[N+1]?=some (.box [v] none):=by
     rw[Fg,ach (by omega)];exact aeI (by omega)
    have k2:Wf[N+2]?=some (.box [.bool false] none):=by
     rw[Fg];exact aeI (by rw[aeU];omega)
    have kl:Wf.length=n+1:=by rw[Fg];simp[t]
    refine⟨{s with res:=v,ok:=false},⟨λi b=>?_,?_,k1,k2,?_,?_,?_⟩,⟨?_,λi b hp hr=>?_⟩,.inl ⟨rfl,rfl⟩,rfl,?_,rfl,rfl⟩
    ·show Wf[i]?=_;rw[hk i (by omega) (by omega) (by omega)];exact p0 i b
    ·show Wf[N]?=_;rw[hk N (by omega) (by omega) (by omega)];exact p1
    ·show Wf[N+3]?=_;rw[hk _ (by omega) (by omega) (by omega)];exact p4
    ·show Wf[N+5]?=_;rw[hk _ (by omega) (by omega) (by omega)];exact p5
    ·exact X.st (hk _ (by omega) (by omega) (by omega)) λi b=>by
      obtain⟨_,_,_,_,q⟩:=X.row b;have:=fy q;have:=f i b;exact hk i (by omega) (by omega) (by omega)
    ·show P.length<=Wf.length;omega
    ·have nZ: ¬i<N+6:=hp;exact hk i (by omega) (by omega) (by omega)
    ·rw[g1,gJ,ac0 c1,ac0 c2,ac0 c3,ac0 c4]
  ·intro s' W' aj hI hP HH hd oZ Sp;obtain⟨p0,p1,p2,p3,p4,p5,X⟩:=hP;obtain⟨g1,g2,g3,g4,g5⟩:=hI;rw[BQ,aBB]at g1;rw[BQ]at g3;have Sn:=hl.1;have T:eB N aj:=by
    rcases Sp with⟨rfl,_⟩| ⟨q,A,J,rfl⟩
    ·exact .inl rfl
    ·exact .inr ⟨q,A,rfl⟩
   have f: ∀i,s'.row=some i->N+6<=i/\i≠E.length:=by
    intro i b;rcases X with⟨q,_⟩| ⟨id,ak,q,_,J,G,R⟩
    ·rw[q]at b;cases b
    ·rw[q]at b;cases b;have:i≠N+5:=by rintro rfl;rw[p5]at R;cases R
     exact⟨by omega,by rintro rfl;rw[hd]at R;cases R⟩
   obtain⟨B,hB⟩: ∃B,B=((PC.aJ [o 83 (I.load false 1 (ao.t 9)),o 84 (I.build [AV.au] [(0,1,ao.t 83)]),u (I.store 1 (ao.t 6) (ao.t 84)),u (I.store 1 (ao.t 7) (ao.c (AV.bool true)))]).seq PC.ret):=⟨_,rfl⟩;rw[<-hB];have fin: ∀ (U:List ae) (Y:oN) (fr:Env) (out:List aC) (r5:oN),(∀i,i<N->U[i]?=H[i]?)->SV (N+4) 2 fF U r5 (out.map aD)->(∃z,U[N+1]?=some (.box [z] none))->(∃z,U[N+2]?=some (.box [z] none))->
     U[E.length]?=some .fO->eB N Y->gJ x false [] l=some out->fr 9= .ptr (N+4) 0->fr 6= .ptr (N+1) 0->fr 7= .ptr (N+2) 0->
     wp X0 120 false B ⟨fr,[E.length]⟩ ⟨U,Y⟩
      (dX X0 N lo [RV.cell 6 true 1,RV.cell 7 false 1] λx_1=>x_1=aU.ret (pV v l x) ⟨H,lo⟩):=by
    intro U Y fr out r5 h1 h2 ⟨z1,h3⟩ ⟨z2,h4⟩ h5 h6 h7 h9 h10 yh;obtain⟨Q,b1,b2,b3,b4,b5⟩:=h2.own (N:=N) (by omega) (by intro el qA;obtain⟨r,_,rfl⟩:=aeO.1 qA;rfl);have hl5:E.length<U.length:=fy h5;have s1: (U.set (N+1) (ae.box [Q] none))[N+1]?=some (.box [Q] none):=aeI (by omega);have s2: ((U.set (N+1) (ae.box [Q] none)).set (N+2) (ae.box [AV.bool true] none))[N+2]?=some (.box [.bool true] none):=aeI (by rw[aeU];omega);have e1:pV v l x= .aA [.agg [eL out],.bool true]:=by unfold pV gL;rw[ac6 g,h7]
    have hor:b9 (out.map aD)=0:=bL (λ_=>rfl) out;have oZ:bG Q (out.map aD)=eL out:=by
     rcases b2.2 with⟨rfl,q⟩| ⟨id,ak,_,rfl,_⟩
     ·have:out=[]:=apR.1 q;subst this;rfl
     ·unfold eL;cases out with
      |nil=>
       rcases h2 with⟨_,_,q⟩| ⟨_,_,_,q,_⟩
       ·rw[q]at b1;cases b1
       ·exact absurd rfl q
      |cons a l2=>rfl
    rw[hB];simp(disch:=omega) only[go_sem,simprocAttr,h9,h10,yh,b1,b3,b4,h3,h4,h5,s1,s2,nE];have Sq: ∀Sr,Fz ⟨((U.set (N+1) (ae.box [Q] none)).set (N+2) (ae.box [AV.bool true] none)).set E.length ae.dead,Sr⟩ N 12 (.aA [.agg [Q],.bool true]) (.aA [.agg [eL out],.bool true]):=by
     intro Sr;have ard:aP N (((U.set (N+1) (ae.box [Q] none)).set (N+2) (ae.box [AV.bool true] none)).set E.length ae.dead) Q 2 fF (out.map aD):=by
      obtain⟨c1,c2⟩:=b2;refine⟨c1,?_⟩;rcases c2 with c2| ⟨id,ak,c3,c4,c5⟩
      ·exact .inl c2
      ·have d1:id≠N+1:=by rintro rfl;rw[h3]at c5;cases c5
       have d2:id≠N+2:=by rintro rfl;rw[h4]at c5;cases c5
       have d3:id≠E.length:=by rintro rfl;rw[h5]at c5;cases c5
       exact .inr ⟨id,ak,c3,c4,by rw[ach (by omega),ach (by omega),ach (by omega)];exact c5⟩
     have f1:=Fz.own (d:=0) (lo:=Sr) ard (by omega);rw[oZ]at f1;exact(Fz.aA (.cons (Fz.agg (.cons f1 .nil)) (.cons ((Fz.low (d:=0) (by simp[AV.refs])).mono (by omega)) .nil))).mono (by omega)
    have oA: (((U.set (N+1) (ae.box [Q] none)).set (N+2) (ae.box [AV.bool true] none)).set E.length ae.dead).take N=H:=lH hN λi b=>by
     rw[ach (by omega),ach (by omega),ach (by omega)];exact h1 i b
    have hl6:eB N (if Q.refs<=N+1+1 then Y else cO Y (N+1)):=by
     split
     ·exact h6
     ·exact h6.min (p:=N+1) (by omega) (.inr rfl)
    rw[uK hl6 (Sq _),oA,e1]
   have p0': ∀i,i<N->W'[i]?=H[i]?:=p0;have p1':W'[N+1]?=some (.box [s'.res] none):=p2;cases c:s'.put
   ·have K:SV (N+4) 2 fF W' s'.row (s'.out.map aD):=X;obtain⟨Q,v',W3,w,r',a1,a2,a3,a4,a5,O,a7⟩:=K.append (bytes:=16) (el:=aD s'.x) (by omega) (by omega) rfl rfl (by unfold room;simp;omega) aj;have k: ∀i,i<N+4->w[i]?=W'[i]?:=λi b=>O i (by omega) (by omega) (λq=>by have:=(f _ q).1;omega)
    simp(disch:=omega) only[go_sem,simprocAttr,q8,q9,KC,p4,p5,c,a1,a2,a3];refine fin w _ _ (s'.out++[s'.x]) r' (λi b=>by rw[k i (by omega)];exact p0' i b) (by rw[aeP];exact a4) ⟨_,by rw[k (N+1) (by omega)];exact p2⟩ ⟨_,by rw[k (N+2) (by omega)];exact p3⟩ ?_ (T.min (p:=N+4) (by omega) (.inr rfl)) ?_ q9 q6 q7
    ·rw[O E.length (by omega) (by omega) (λq=>(f _ q).2 rfl)];exact hd
    ·rw[g1,gJ,c];rfl
   ·simp(disch:=omega) only[go_sem,simprocAttr,KC,p5,c];refine fin W' _ _ s'.out s'.row p0' X ⟨_,p2⟩ ⟨_,p3⟩ hd T ?_ q9 q6 q7;rw[g1,gJ,c];rfl
  ·intro ex s' W' aj hJ hP HH hd oZ Sp;obtain⟨p0,p1,p2,p3,p4,p5,X⟩:=hP;obtain⟨rfl,g1,g2,g3⟩:=hJ;have T:eB N aj:=by
    rcases Sp with⟨rfl,_⟩| ⟨q,A,J,rfl⟩
    ·exact .inl rfl
    ·exact .inr ⟨q,A,rfl⟩
   rw[g2]at p2;rw[g3]at p3;have e1:pV v l x= .aA [.agg [v],.bool false]:=by unfold pV gL;rw[ac6 g,g1]
   have Sq:Fz ⟨W'.set E.length ae.dead,aj⟩ N 12 (.aA [.agg [v],.bool false]) (.aA [.agg [v],.bool false]):=Fz.low (by simp[AV.refs,aL,Sm]);have oA: (W'.set E.length ae.dead).take N=H:=lH hN λi b=>by rw[ach (by omega)];exact p0 i b
   simp(disch:=omega) only[go_sem,simprocAttr,q6,q7,nE,hd,p2,p3];rw[uK T Sq,oA,e1]
def agd(t:ar)(x:Nat): (aE t x).1.up=bD t x:=by unfold aE bD;split<;>rfl
theorem kQ{r:cQ}:aN [AV.int .u32 0,.int .i64 0,.au,.int .i64 0,.int .u32 0,.int .u32 0,.int .u32 0,.int .u32 0,.int .u32 0,.int .u32 0,.int .u32 0,.int .u32 0] 0 (b8 r)=b8 r:=by rfl
def Ss(t:ar)(h:Nat)(N:Nat)(H:List ae)(b:H.length=N)(lo:oN):D X0 (.fn (.func 293) [] []) [.agg (aM t),.int .u32 h] ⟨H,lo⟩=some (.ret (.fn (.func 325) [] [.ptr N 0,.ptr (N+1) 0]) ⟨H++[.box (aM t) none,.box [.int .u32 h] none],lo⟩):=by
 refine aK QZ λM a=>?_
 obtain rfl:M=N:=by omega
 simp only[go_sem,simprocAttr,QZ,a];rw[BR (by omega)]
def nF(t:ar)(h:Nat):List lA:=(aR t h).map λx=>[.int .u32 (x:Nat)]
def St(t:ar)(ht:bS t)(hT:cu t)(h:Nat)(hh:h<4294967296)(a:Nat):
  uI X0 (.fn (.func 325) [] [.ptr a 0,.ptr (a+1) 0]) a [.box (aM t) none,.box [.int .u32 h] none] (nF t h):=by
 intro S V y I J b O m uE W s hP h0 yq w hG lo;have o: ∀i,V.dM i->i<b:=λi hi=>(m i hi).1
 suffices h: ∃X,D X0 (.fn (.func 325) [] [.ptr a 0,.ptr (a+1) 0]) [y] ⟨W,lo⟩=some X/\
   (λX=> ∃s' u aj,X=aU.ret (.aA []) ⟨u,aj⟩/\V.P s' u/\ (I (nF t h).length s'\/J s')/\b<=u.length/\
     (∀i,i<b-> ¬V.dM i-> ¬(a<=i/\i<a+[ae.box (aM t) none,.box [.int .u32 (h:Nat)] none].length)->u[i]?=W[i]?)/\k7 V.c b lo aj none (V.row s')) X by
  obtain⟨X,h1,s',u,aj,rfl,q1,q2,q3,q4,q5⟩:=h;exact⟨s',u,aj,h1,q1,q2,q3,q4,q5⟩
 refine xh Rj rfl rfl rfl λN hN=>?_
 obtain rfl:N=b:=by omega
 have g0:W[a]?=some (.box (aM t) none):=hG 0 (by simp);have g1:W[a+1]?=some (.box [.int .u32 h] none):=hG 1 (by simp);have ha:=fy g1;have Su: ¬V.dM a:=λq=>(m a q).2 ⟨by omega,by simp⟩
 have z: ¬V.dM (a+1):=λq=>(m _ q).2 ⟨by omega,by simp⟩
 simp only[go_sem,simprocAttr,Rj];refine gZ ((aR t h).length+1) (λk e u aj=> ∃s' x,I k s'/\ky V N W (λi=>a<=i/\i<a+[ae.box (aM t) none,.box [.int .u32 (h:Nat)] none].length) s' u aj/\u[a]?=some (.box (aM t) none)/\u[a+1]?=some (.box [.int .u32 (x:Nat)] none)/\x<4294967296/\k<=(aR t h).length/\aR t x=(aR t h).drop k/\e 0=y/\e 1= .ptr a 0/\e 2= .ptr (a+1) 0) 0 (by omega) ?_ ?_
 ·simp only[go_sem,simprocAttr];exact⟨s,h,h0,⟨hP,by omega,λ_ _ _ _=>rfl,.inl ⟨rfl,w⟩,λr e=>by rw[w]at e;cases e⟩,g0,g1,hh,rfl⟩
 rintro k hk e W1 P ⟨s1,x,hI,U,w0,w1,hx,Sv,p,e0,e1,Z⟩ n T;have g:=pL hT x;have Sw:N<=n:=by have:=U.len;omega
 have f0: ∀L,(W1++L)[a]?=some (.box (aM t) none):=λL=>bm w0
 have f1: ∀L,(W1++L)[a+1]?=some (.box [.int .u32 x] none):=λL=>bm w1
 have Y:=vF t ht x hx;have hu:=agd t x;have f: (aE t x).2=if t.aq x then 0 else 4:=by unfold aE;split<;>rfl
 have A: ∀L,bD t x=0-> ∃j d,finish N lo (.aA []) ⟨W1++L,P⟩=(.aA [],⟨j,d⟩)/\V.P s1 j/\ (I (nF t h).length s1\/J s1)/\N<=j.length/\ (∀i,i<N-> ¬V.dM i-> ¬(a<=i/\i<a+[ae.box (aM t) none,.box [.int .u32 (h:Nat)] none].length)->j[i]?=W[i]?)/\k7 V.c N lo d none (V.row s1):=by
  intro L F;obtain⟨j,d,v,E,l,C,B⟩:=(U.push O o L).fin O o (dU:=lo);refine⟨j,d,v,E,.inl ?_,l,C,B⟩;rw[ac6 F]at g;rw[g]at p;have:=ahR List.length p;rw[am7]at this;have e: (nF t h).length=(aR t h).length:=by simp[nF]
  simp only[anu]at this;rw[e,show(aR t h).length=k by omega];exact hI
 cases G:t.aq x
 ·rw[G]at f;have F:bD t x=0:=by unfold bD;rw[G];rfl
  obtain⟨j,d,v,E,l,C,B,M⟩:=A [.box (b8 (aE t x).1) none] F;simp only[go_sem,simprocAttr,EY,e1,Z,w0,w1,Y,nD,kQ,f,T,v];exact⟨s1,j,d,rfl,E,l,C,B,M⟩
 ·rw[G]at f;by_cases F:bD t x=0
  ·obtain⟨j,d,v,E,l,C,B,M⟩:=A [.box (b8 (aE t x).1) none] F;simp only[go_sem,simprocAttr,EY,e1,Z,w0,w1,Y,nD,kQ,f,T,hu,F,v];exact⟨s1,j,d,rfl,E,l,C,B,M⟩
  ·have Q: ¬((bD t x:Nat):Int)=0:=by omega
   rw[ac0 F]at g;have hk':k< (aR t h).length:=by
    have:=ahR List.length (g ▸ p);rw[am7]at this;simp only[aeV]at this;omega
   have wm: (nF t h)[k]?=some [.int .u32 (bD t x:Nat)]:=by
    unfold nF;rw[agp];have: (aR t h)[k]?=((aR t h).drop k)[0]?:=by rw[aki];rfl
    rw[this,<-p,g];rfl
   have K:=U.push O o [.box (b8 (aE t x).1) none];obtain⟨c,s2,W2,mg,v,E,l,C,B,M⟩:=uE k _ s1 wm hI (W1++[.box (b8 (aE t x).1) none]) K.P K.len P;have H:=K.step E l C B;have R: ∀i,i<N->V.row s1≠some i:=λi hi q=>by have:=U.row _ q;omega
   have v0:W2[a]?=some (.box (aM t) none):=by rw[l.2 a (by simp;omega) Su (R _ (by omega))];exact f0 _
   have v1:W2[a+1]?=some (.box [.int .u32 x] none):=by rw[l.2 (a+1) (by simp;omega) z (R _ (by omega))];exact f1 _
   have hWn:n+1<=W2.length:=by have:=l.1;simp at this;omega
   have vn:W2[n]?=some (.box (b8 (aE t x).1) none):=by
    rw[l.2 n (by simp;omega) (λq=>by have:=o _ q;omega) (λq=>by have:=O.HI U.P q;omega)];rw[<-T];simp
   cases c
   ·obtain⟨j,d,q1,q2,q3,q4,q5⟩:=H.fin O o (dU:=lo);simp only[go_sem,simprocAttr,EY,e0,e1,Z,w0,w1,Y,nD,kQ,f,T,hu,Q,v,q1];exact⟨s2,j,d,rfl,q2,.inr M,q3,q4,q5⟩
   ·simp(disch:=omega) only[go_sem,simprocAttr,EY,e0,e1,Z,w0,w1,Y,nD,kQ,f,T,hu,Q,v,v0,v1,vn];refine⟨by omega,s2,bD t x,M,?_,?_,aqJ,by omega,?_⟩
    ·exact H.set O z (λq=>by have:=H.row _ q;omega) (.inl ⟨by omega,by simp⟩)
    ·exact aeI (by omega)
    ·have:=ahR (List.drop 1) (g ▸ p);rw[ape]at this;simpa using this
def Sx{t:ar}{x:lA}(a: (nF t h)[j]?=some x): ∃u,x=[.int .u32 (u:Nat)]/\ (aR t h)[j]?=some u:=by
 unfold nF at a
 grind
def Sy(t:ar)(h:Nat): (nF t h).length=(aR t h).length:=by simp[nF]
def KF(t:ar)(v:bS t)(q:cu t)(h:Nat)(m:h<4294967296)(H:List ae)(lo:oN):D X0 (.fn (.func 285) [] []) [.agg (aM t),.int .u32 h] ⟨H,lo⟩=some (.ret (.int .i64 (depth t h:Nat)) ⟨H,lo⟩):=by
 refine aK J3 λN f=>?_
 have g:aq t.b h=t.aq h:=rfl;have a:=eC t.b h m;simp only[g]at a;cases b:t.aq h
 ·simp only[F1,go_sem,simprocAttr,J3,f,a,depth,b,aeJ]
 ·rw[b]at a;have C:=Ss t h (N+2) (H++[.box (aM t) none,.box [.int .i64 1] none]) (by simp[f]) none;simp only[go_sem,simprocAttr,J3,f,a,C];refine wx (S:=Nat) (λe=>e 5= .ptr (N+1) 0) (by simp only[go_sem,simprocAttr]) (nF t h) f [.box (aM t) none,.box [.int .u32 h] none] (λn=>[.box (aM t) none,.box [.int .i64 (n+1:Nat)] none]) (nB:=2) (λ_=>rfl) 0 (λj s=>s=j) (λ_ _=>False) rfl ?_ (by simp) rfl (λ_ _ h=>h.elim) ?_ ?_ ?_
  ·exact St t v q h m (N+2)
  ·rintro e he j x s r rfl;obtain⟨u,rfl,hu⟩:=Sx r;refine⟨rfl,λW n I z k=>?_⟩;simp only[go_sem,simprocAttr,iZ];refine⟨[],by simp,λK E d=>?_⟩;simp only[gj,gi,anj,aeS]at d;obtain⟨w0,w1⟩:=d;have G:s< (aR t h).length:=(ack.1 hu).1;have w:=q h;simp(disch:=omega) only[go_sem,simprocAttr,aes,he,w1,agc,o5];refine⟨s+1,?_,λi J A=>ach (by omega),rfl⟩;simp only[gj,gi,anj,aeS];exact⟨by rw[ach (by omega)];exact w0,aeI (by omega)⟩
  ·rintro e he s W p y rfl c k B;simp only[gj,gi,anj,aeS]at k;obtain⟨w0,w1⟩:=k;have l: ∀o,(W.set p o).take N=H:=λo=>(c.set (by omega)).take f
   simp only[F1,go_sem,simprocAttr,he,w1,B,nE,l];rw[Sy];refine dp (ahR _ ?_) rfl;unfold depth;rw[ac6 b];omega
  ·rintro e he ex s W p y F;exact F.elim
def arf{t:ar}(b:cu t)(c:h<4294967296):root t h<4294967296:=by
 unfold root;split
 ·cases e:aR t h with
  |nil=>grind
  |cons a l=>
   have hm: (aR t h).getLastD h∈aR t h:=by grind
   rw[<-e];exact gl (aqK b hm)
 ·omega
def zu(t:ar)(r:bS t)(C:cu t)(h:Nat)(m:h<4294967296)(H:List ae)(lo:oN):D X0 (.fn (.func 259) [] []) [.agg (aM t),.int .u32 h] ⟨H,lo⟩=some (.ret (.int .u32 (root t h:Nat)) ⟨H,lo⟩):=by
 refine aK JV λN f=>?_
 have g:aq t.b h=t.aq h:=rfl;have a:=eC t.b h m;simp only[g]at a;cases b:t.aq h
 ·simp only[F1,go_sem,simprocAttr,JV,f,a,root,b,aeJ]
 ·rw[b]at a;have A:=Ss t h (N+2) (H++[.box (aM t) none,.box [.int .u32 h] none]) (by simp[f]) none;simp only[go_sem,simprocAttr,JV,f,a,A];refine wx (S:=Nat) (λe=>e 3= .ptr (N+1) 0) (by simp only[go_sem,simprocAttr]) (nF t h) f [.box (aM t) none,.box [.int .u32 h] none] (λn=>[.box (aM t) none,.box [.int .u32 (n:Nat)] none]) (nB:=2) (λ_=>rfl) h (λj s=>s=((aR t h).take j).getLastD h) (λ_ _=>False) rfl ?_ (by simp) rfl (λ_ _ h=>h.elim) ?_ ?_ ?_
  ·exact St t r C h m (N+2)
  ·rintro e he j x s q rfl;obtain⟨u,rfl,hu⟩:=Sx q;refine⟨rfl,λW n F w k=>?_⟩;simp only[go_sem,simprocAttr,iZ];refine⟨[],by simp,λI B d=>?_⟩;simp only[gj,gi,anj,aeS]at d;obtain⟨w0,w1⟩:=d;simp only[go_sem,simprocAttr,aeo,he,w1,agc,o5];refine⟨u,?_,λi G y=>ach (by omega),?_⟩
   ·simp only[gj,gi,anj,aeS];exact⟨by rw[ach (by omega)];exact w0,aeI (by omega)⟩
   ·rw[agn,hu];simp
  ·rintro e he s W p v rfl c k z;simp only[gj,gi,anj,aeS]at k;obtain⟨w0,w1⟩:=k;have l: ∀o,(W.set p o).take N=H:=λo=>(c.set (by omega)).take f
   simp only[F1,go_sem,simprocAttr,he,w1,z,nE,l];rw[Sy,aeQ];refine dp (ahR _ ?_) rfl;unfold root;rw[ac6 b]
  ·rintro e he ex s W p v E;exact E.elim
noncomputable def mh:lA->AS->Option aU:=oi X0 (D X0) Lw 56 Jf
noncomputable def X1:Ctx:={X0 with cg:=λf=>if f=56 then some mh else none}
noncomputable def mi:lA->AS->Option aU:=oi X1 (D X1) Lw 19 Jc
noncomputable def X2:Ctx:={X0 with cg:=λf=>if f=56 then some mh else if f=19 then some mi else none}
noncomputable def pW:lA->AS->Option aU:=oi X2 (D X2) Lw 193 EG
noncomputable def X3:Ctx:={X0 with cg:=λf=>if f=56 then some mh else if f=19 then some mi else if f=193 then some pW else none}
noncomputable def rE:lA->AS->Option aU:=oi X3 (D X3) Lw 190 JL
noncomputable def X4:Ctx:={X0 with cg:=λf=>if f=56 then some mh else if f=19 then some mi else if f=193 then some pW else if f=190 then some rE else none}
noncomputable def xj:lA->AS->Option aU:=oi X4 (D X4) Lw 188 JK
noncomputable def X5:Ctx:={X0 with cg:=λf=>if f=56 then some mh else if f=19 then some mi else if f=193 then some pW else if f=190 then some rE else if f=188 then some xj else none}
noncomputable def zv:lA->AS->Option aU:=oi X5 (D X5) Lw 182 JJ
noncomputable def X6:Ctx:={X0 with cg:=λf=>if f=56 then some mh else if f=19 then some mi else if f=193 then some pW else if f=190 then some rE else if f=188 then some xj else if f=182 then some zv else none}
noncomputable def BT:lA->AS->Option aU:=oi X6 (D X6) Lw 167 ED
noncomputable def X:Ctx:={X0 with cg:=λf=>if f=56 then some mh else if f=19 then some mi else if f=193 then some pW else if f=190 then some rE else if f=188 then some xj else if f=182 then some zv else if f=167 then some BT else none}
def Fh{P:FuncId->Option (lA->AS->Option aU)}(h: ∀f,kL.contains f=false->P f=none):Ext X0 {X0 with cg:=P}where
 dS:=rfl
 gu:=rfl
 code:=rfl
 cg:=λf=>by
  cases a:kL.contains f
  ·left;exact h f a
  ·right
   refine⟨rfl,?_⟩;show(if kL.contains f then none else zb.lookup f)=none
   grind
def iS{g:FuncId}(h:kL.contains f=false)(a:kL.contains g=true):f≠g:=by grind
def age:Ext X0 X2:=Fh λf h=>by rw[ac0 (iS h rfl),ac0 (iS h rfl)]
def arh:Ext X0 X3:=Fh λf h=>by rw[ac0 (iS h rfl),ac0 (iS h rfl),ac0 (iS h rfl)]
def ari:Ext X0 X4:=Fh λf h=>by rw[ac0 (iS h rfl),ac0 (iS h rfl),ac0 (iS h rfl),ac0 (iS h rfl)]
def agf:Ext X0 X6:=Fh λf h=>by rw[ac0 (iS h rfl),ac0 (iS h rfl),ac0 (iS h rfl),ac0 (iS h rfl),ac0 (iS h rfl),ac0 (iS h rfl)]
def dH:Ext X0 X:=Fh λf h=>by rw[ac0 (iS h rfl),ac0 (iS h rfl),ac0 (iS h rfl),ac0 (iS h rfl),ac0 (iS h rfl),ac0 (iS h rfl),ac0 (iS h rfl)]
def arj(p:Nat->Bool)(k:Nat): (List.range (k+1)).filter p=(List.range k).filter p++(if p k then[k]else[]):=by grind [List.range_succ]
def aP.le{N M:Nat}{H:List ae}{ty:TypeId}(h:aP N H v sz ty af)(b:M<=N):aP M H v sz ty af:=by
 obtain⟨a,c⟩:=h;refine⟨a,?_⟩
 grind
def rF(b:cN)(k:Nat):lN:=((List.range k).filter λi=>(b i).da).map λi=>dh i (b i).gen
def ark(b:cN)(k:Nat):rF b (k+1)=if(b k).da then rF b k++[dh k (b k).gen]else rF b k:=by
 unfold rF;rw[arj]
 grind
def arl(b:cN)(k:Nat): (rF b k).length<=k:=by
 unfold rF
 grind
def Sz(b:cN)(A:iB b)(N:Nat)(H:List ae)(w:H.length=N)(lo:oN): ∃v J,mh [.agg (b0 b)] ⟨H,lo⟩=some (.ret v ⟨H++J,lo⟩)/\aP (N+1) (H++J) v 1 cz ((bt b).map hC):=by
 suffices h: ∃o,mh [.agg (b0 b)] ⟨H,lo⟩=some o/\ (λo=> ∃v J,o=aU.ret v ⟨H++J,lo⟩/\aP (N+1) (H++J) v 1 cz ((bt b).map hC)) o by
  obtain⟨o,m,v,J,rfl,B⟩:=h;exact⟨v,J,m,B⟩
 refine wv (X:=X0) Jf rfl λM E=>?_
 obtain rfl:M=N:=by omega
 have u: (H++[ae.box (b0 b) none]).length=M+1:=by simp[w]
 simp only[go_sem,simprocAttr,Jf,w];refine fE 32 (λk e H'=>(H++[ae.box (b0 b) none])<+:H'/\ (∃v,e 3=v/\aP (M+1) H' v 1 cz ((rF b k).map hC))/\e 1= .ptr M 0/\e 7= .int .i64 k) 0 (by omega) ?_ ?_
 ·simp only[go_sem,simprocAttr];exact⟨arK,_,rfl,aP.au⟩
 rintro k D e H' ⟨⟨L,rfl⟩,⟨v,y,a⟩,m,x⟩ n C;have j: (H++[ae.box (b0 b) none]++L)[M]?=some (.box (b0 b) none):=by rw[ac8,dB w];rfl
 have t:=aqQ b A k (H++(.box (b0 b) none::L)) none;simp only[ac8,ah6,agt]at j;have q:=arl b k;simp only[cm,go_sem,simprocAttr,adP,m,y,x,j,t,atR];refine⟨λh=>?_,λh=>?_⟩
 ·have c:k<32:=by omega
  have d:=ark b k;cases z: (b k).da
  ·rw[z]at d;simp(disch:=omega) only[go_sem,simprocAttr,c,m,y,x,dT];rw[d];exact⟨⟨L,by simp⟩,v,rfl,by simpa using a⟩
  ·rw[z]at d;simp only[go_sem,simprocAttr,c,y,dT];have i: (H++[ae.box (b0 b) none])<+: (H++(.box (b0 b) none::L)):=⟨L,by simp⟩;have g:aP (M+1) (H++(.box (b0 b) none::L)) v 1 cz ((rF b k).map hC):=by simpa using a
   refine qL (H0:=H++[ae.box (b0 b) none]) (ys:=[[.int .u32 (dh k (b k).gen:Nat)]]) g i u (by omega) (by intro el s;rw[aeH.1 s];rfl) rfl (by unfold room;simp;omega) λv' F f r=>?_
   simp(disch:=omega) only[go_sem,simprocAttr,m,x];refine⟨c,r,?_⟩;rw[d];have:List.map hC (rF b k++[dh k (b k).gen])=List.map hC (rF b k)++[[.int .u32 (dh k (b k).gen:Nat)]]:=by simp[hC]
   simp only[ae4];rw[this];exact⟨v',rfl,f⟩
 ·obtain rfl:k=32:=by omega
  have:bt b=rF b 32:=rfl;rw[this];simp only[go_sem,simprocAttr,si,gS];exact⟨_,_,rfl,by simpa using a⟩
def pX{X:Ctx}{p:lA->AS->Option aU}{args:lA}{E:AS}{r:aU}(a:X.cg f=some p)(h:p args E=some r):D X (.fn (.func f) [] []) args E=some r:=Df a h
def KG(b:cN)(d:iB b)(N:Nat)(H:List ae)(e:H.length=N)(lo:oN): ∃v J,mi [.agg (b0 b)] ⟨H,lo⟩=some (.ret v ⟨H++J,lo⟩)/\aP (N+1) (H++J) v 1 cz ((bt b).map hC):=by
 suffices h: ∃a,mi [.agg (b0 b)] ⟨H,lo⟩=some a/\ (λa=> ∃v J,a=aU.ret v ⟨H++J,lo⟩/\aP (N+1) (H++J) v 1 cz ((bt b).map hC)) a by grind
 refine wv (X:=X1) Jc rfl λM g=>?_
 obtain rfl:M=N:=by omega
 obtain⟨v,J,e1,f⟩:=Sz b d (M+1) (H++[.box (b0 b) none]) (by grind) none;have c:D X1 (.fn (.func 56) [] []) [.agg (b0 b)] ⟨H++[.box (b0 b) none],none⟩=some (.ret v ⟨H++[.box (b0 b) none]++J,none⟩):=pX (p:=mh) rfl e1;simp only[go_sem,simprocAttr,Jc,e,c,si,gS];exact⟨_,_,rfl,(aP.le (M:=M+1) f (by omega)).mono (by simp)⟩
def pY{H:List ae}{o:ae}(h:H[i]?=some o):H.set i o=H:=by
 apply an2
 grind
def agh{H:List ae}{id:Nat}{ty:TypeId}(h:H[id]?=some (.row ak 1 ty af))(a:i<af.length)(b: ∀el∈af,el.length=1)(g:v.cx=false)(f:v.cells=[v])(d:v.refs=0):
  kp ⟨H,lo⟩ 1 (.dA id ak i 0) v=some ⟨H.set id (.row ak 1 ty (af.set i [v])),lo⟩:=by
 have c:=b _ (ass a);simp only[kp,h,ac7 a];rw[ac6 ⟨trivial,c,g,by grind,by omega⟩];have e:aN af[i] 0 v.cells=[v]:=by
  rw[f];simp only[aN,List.take_zero,agt,aeV,anu,aka]
  grind
 rw[e];simp[AS.set,d]
def Fi{H:List ae}{id:Nat}{ty:TypeId}{c:Bool}(h:H[id]?=some (.row ak 1 ty af))(d:n<=af.length)(b: ∀el∈af,el.length=1):Rd ⟨H,lo⟩ (.ref id ak 1 0 n c) 1 (af.take n):=by
 refine⟨trivial,?_,λel a=>b el (ahW a)⟩;simp only[Den.elems,h]
 grind
def arn{id:Nat}(h:i<=n):gE 1 (.ref id ak 1 0 n false) (some (.int .i64 (i:Nat))) none none=some (.ref id ak 1 i (n-i) false):=by
 simp only[gE,gT,lO,lP]
 grind
def agi{id:Nat}(h:i<=n):gE 1 (.ref id ak 1 0 n false) none (some (.int .i64 (i:Nat))) none=some (.ref id ak 1 0 i false):=by
 simp only[gE,gT,lO,lP]
 grind
def kept(p:Nat->Bool)(l:lN)(k:Nat):lN:=(l.take k).filter λh=>!p h
def hU(p:Nat->Bool)(l:lN)(k:Nat):lN:=kept p l k++l.drop (kept p l k).length
section
variable{p:Nat->Bool}{l:lN}{k:Nat}
def SA: (kept p l k).length<=k:=aga (ah5 _ _) (by grind)
def agj: (kept p l k).length<=l.length:=aga (ah5 _ _) (by grind)
def zw: (hU p l k).length=l.length:=by
 have:=agj (p:=p) (l:=l) (k:=k);simp only[hU,aeG,am7];omega
theorem getD_eq(a:k<l.length):l.getD k default=l[k]:=by grind
def Fj(a:k<l.length):kept p l (k+1)=if p (l.getD k default)=true then kept p l k else kept p l k++[l.getD k default]:=by
 have e:l.take (k+1)=l.take k++[l.getD k default]:=by simp_all
 unfold kept
 grind
def aro(a:k<l.length): (hU p l k).getD k default=l.getD k default:=by
 have b:=SA (p:=p) (l:=l) (k:=k);unfold hU
 grind
def arp(b:k<l.length)(a:p (l.getD k default)=false): (hU p l k).set (kept p l k).length (l.getD k default)=hU p l (k+1):=by
 have c:=SA (p:=p) (l:=l) (k:=k);have e:=Fj (p:=p) b;rw[a]at e;unfold hU;have d:l.drop (kept p l k).length=l[(kept p l k).length]'(by omega)::l.drop ((kept p l k).length+1):=anh (by omega)
 grind
def arq(b:k<l.length)(a:p (l.getD k default)=true):hU p l (k+1)=hU p l k:=by
 have e:=Fj (p:=p) b;rw[ac6 a]at e;unfold hU;rw[e]
def ars(h:l.findIdx? p=some b):b<l.length/\kept p l (b+1)=l.take b:=by
 rw[apD]at h;obtain⟨c,g,f⟩:=h;refine⟨c,?_⟩;rw[Fj c,ac6 (by grind)];unfold kept;rw[List.filter_eq_self];intro a d;obtain⟨j,e,rfl⟩:=ara d
 grind
def agk:kept p l l.length=l.filter λh=>!p h:=by unfold kept;grind
end
def art{H:List ae}{id off len:Nat}{c:Bool}{ty:TypeId}(h:H[id]?=some (.row ak 1 ty af))(a:off+len<=af.length):
  rT ⟨H,lo⟩ [.int .u32 0] (.ref id ak 1 off len c)=some ⟨H.set id (.row ak 1 ty (af.take off++(List.replicate len [.int .u32 0]++af.drop (off+len)))),lo⟩:=by
 simp only[rT,h];rw[ac6 ⟨trivial,trivial,rfl,a,rfl⟩];simp[AS.set]
def map_set{β:Type}(g:α->β)(l:List α)(i:Nat)(x:α): (l.map g).set i (g x)=(l.set i x).map g:=by simp
def aru(id ak:Nat)(H:List ae)(l:lN)(hl:l.length<=1000)(i:H[id]?=some (.row ak 1 cz (l.map hC)))(fv:AV)(p:Nat->Bool)
  (T: ∀af,∀h∈l,D X2 fv [.int .u32 h] ⟨H.set id (.row ak 1 cz af),none⟩=some (.ret (.bool (p h)) ⟨H.set id (.row ak 1 cz af),none⟩)) (lo:oN):
  ∃rest,pW [.ref id ak 1 0 l.length false,fv] ⟨H,lo⟩=some (.ret (.ref id ak 1 0 (l.filter λh=>!p h).length false) ⟨H.set id (.row ak 1 cz ((l.filter λh=>!p h).map hC++rest)),lo⟩)/\ ∀el∈rest,el=[.int .u32 0]:=by
 suffices h: ∃A,pW [.ref id ak 1 0 l.length false,fv] ⟨H,lo⟩=some A/\ (λA=> ∃rest,A=aU.ret (.ref id ak 1 0 (l.filter λh=>!p h).length false) ⟨H.set id (.row ak 1 cz ((l.filter λh=>!p h).map hC++rest)),lo⟩/\ ∀el∈rest,el=[.int .u32 0]) A by grind
 have J:=(ack.1 i).1;have V: ∀el∈l.map hC,el.length=1:=by intro el f;obtain⟨x,_,rfl⟩:=aeO.1 f;rfl
 have Q:=pY i;have O: ∀h∈l,D X2 fv [.int .u32 h] ⟨H,none⟩=some (.ret (.bool (p h)) ⟨H,none⟩):=λh hm=>by
  have:=T (l.map hC) h hm;rwa[Q]at this
 have G:Rd ⟨H,none⟩ (.ref id ak 1 0 l.length false) 1 (l.map hC):=by
  have:=Fi (lo:=none) (c:=false) (n:=l.length) i (by simp) V;rwa[adz (by simp)]at this
 have w:=af0 age (.ref id ak 1 0 l.length false) fv l H G (by omega) p none O;refine wv (X:=X2) EG rfl λM hM=>?_
 cases m:l.findIdx? p with
 |none=>
  have K:kO p l= -1:=by unfold kO;rw[m]
  have N:l.filter (λh=>!p h)=l:=by
   rw[List.filter_eq_self];intro a Z;rw[List.findIdx?_eq_none_iff]at m;simp[m a Z]
  simp only[go_sem,simprocAttr,EG,w,K,si,gS];exact⟨[],by rw[N,agc,Q],λ_ h=>by cases h⟩
 |some i0=>
  have K:kO p l=(i0:Nat):=by unfold kO;rw[m]
  have u: ((i0:Nat):Int)≠ -1:=by omega
  obtain⟨Y,v⟩:=ars m;have b: ∀af,(H.set id (.row ak 1 cz af))[id]?=some (.row ak 1 cz af):=λaf=>aeI J
  have P:hU p l (i0+1)=l:=by
   have e: (l.take i0).length=i0:=by rw[af9];omega
   unfold hU;rw[v,e,aoX]
  simp(disch:=omega) only[go_sem,simprocAttr,EG,w,K,u];refine fE l.length (λk e H'=>H'=H.set id (.row ak 1 cz ((hU p l k).map hC))/\e 0= .ref id ak 1 0 l.length false/\e 1=fv/\e 5= .int .i64 (kept p l k).length/\e 6= .int .i64 k) (i0+1) (by omega) ?_ ?_
  ·have e: (kept p l (i0+1)).length=i0:=by rw[v,af9];omega
   rw[P,e];simp only[go_sem,simprocAttr,Q]
  ·rintro k hk e H' ⟨rfl,z,U,y,R⟩ n hn;have q: ∀lo,Rd ⟨H.set id (.row ak 1 cz ((hU p l k).map hC)),lo⟩ (.ref id ak 1 0 l.length false) 1 ((hU p l k).map hC):=λlo=>by
    have:=Fi (lo:=lo) (c:=false) (n:=l.length) (b ((hU p l k).map hC)) (by rw[aeK,zw];exact adA _) (by intro el f;obtain⟨x,_,rfl⟩:=aeO.1 f;rfl);rwa[adz (by rw[aeK,zw];exact adA _)]at this
   have W:=SA (p:=p) (l:=l) (k:=k);have r:=agj (p:=p) (l:=l) (k:=k);have j: ∀E,gF E .sl (.ref id ak 1 0 l.length false)=some (.int .i64 l.length):=λE=>rfl
   simp only[cm,go_sem,simprocAttr,aeg,z,y,R,j];refine⟨λh=>?_,λh=>?_⟩
   ·have d:k<l.length:=by omega
    have I:k< (hU p l k).length:=by rw[zw];exact d
    have L:=aro (p:=p) d;have s:=λ (a:Int)=>(q none).cn (k:=.i64) (a:=a)
    have o:=(q none).cE (X:=X2) (off:=0) (n:=1) (agg:=false) I;have g:=T ((hU p l k).map hC) (l.getD k default) (fX d);rw[L]at o;simp only[dw,aka]at o;rw[zw]at s;cases t:p (l.getD k default)
    ·rw[t]at g;have B:kp ⟨H.set id (.row ak 1 cz ((hU p l k).map hC)),none⟩ 1 (.dA id ak (kept p l k).length 0) (.int .u32 (l.getD k default))=some ⟨H.set id (.row ak 1 cz ((hU p l (k+1)).map hC)),none⟩:=by
      rw[agh (b _) (by rw[aeK,zw];omega) (by intro el f;obtain⟨x,_,rfl⟩:=aeO.1 f;rfl) rfl rfl rfl,ake];have: ((hU p l k).map hC).set (kept p l k).length [.int .u32 (l.getD k default)]=(hU p l (k+1)).map hC:=by
       rw[<-arp d t,<-map_set];rfl
      rw[this]
     have S: (kept p l (k+1)).length=(kept p l k).length+1:=by rw[Fj d,t];simp
     simp(disch:=omega) only[go_sem,simprocAttr,S,s,o,↓pH,g,B,z,U,y,R,dw];exact⟨by omega,by omega,by omega⟩
    ·rw[t]at g;have S:kept p l (k+1)=kept p l k:=by rw[Fj d,t];simp
     have e6:=arq d t;simp(disch:=omega) only[go_sem,simprocAttr,S,e6,s,o,↓pH,g,z,U,y,R,dw];exact⟨by omega,by omega⟩
   ·obtain rfl:k=l.length:=by omega
    have F:=arn (id:=id) (ak:=ak) (n:=l.length) r;have C:=agi (id:=id) (ak:=ak) (n:=l.length) r;have g:=art (lo:=none) (off:=(kept p l l.length).length) (len:=l.length- (kept p l l.length).length) (c:=false) (b ((hU p l l.length).map hC)) (by rw[aeK,zw];omega);simp only[go_sem,simprocAttr,z,y,F,C,g,si,gS];refine⟨List.replicate (l.length- (kept p l l.length).length) [.int .u32 0],?_,λel f=>auf f⟩;rw[ake];have e1:List.take (kept p l l.length).length (List.map hC (hU p l l.length))=(l.filter λh=>!p h).map hC:=by
     unfold hU;rw[aeP,am6 (by simp),agk]
    have e2:List.drop ((kept p l l.length).length+(l.length- (kept p l l.length).length)) (List.map hC (hU p l l.length))=[]:=ahz (by rw[aeK,zw];omega);rw[e1,e2,agc,agk]
def arv{X:Ctx}(j:Ext X0 X)(t:ar)(f:bS t)(h x:Nat)(e:x<4294967296)(d a:Nat)(H:List ae)(b:H[d]?=some (.box (aM t) none))(c:H[a]?=some (.box [.int .u32 h] none))(lo:oN):
  D X (.fn (.func 194) [] [.ptr d 0,.ptr a 0]) [.int .u32 x] ⟨H,lo⟩=some (.ret (.bool (decide (bD t x≠h))) ⟨H,lo⟩):=by
 refine up j ?_;refine fi Qq λN i=>?_
 have m: ∀L,(H++L)[a]?=some (.box [.int .u32 h] none):=λL=>bm c
 have g:=vF t f x e;have hu:=agd t x;simp only[F1,go_sem,simprocAttr,Qq,i,b,m,g,nD,kQ,hu];refine dp (ahR AV.bool ?_) rfl
 grind
def agl(N:Nat)(H:List ae)(v:AV)(ty:TypeId)(af a:List lA):Prop:=
 (∃id ak,N<=id/\v= .ref id ak 1 0 af.length false/\H[id]?=some (.row ak 1 ty (af++a)))/\ ∀el∈a,el.length=1
def arw(t:ar)(q:bS t)(h:Nat)(r:t.aq h=true)(N:Nat)(H:List ae)(K:H.length=N)(lo:oN):
  ∃v J rest,rE [.agg (aM t),.int .u32 h] ⟨H,lo⟩=some (.ret v ⟨H++J,lo⟩)/\agl (N+2) (H++J) v cz ((kids t h).map hC) rest:=by
 have E:=gl r
 suffices B: ∃n,rE [.agg (aM t),.int .u32 h] ⟨H,lo⟩=some n/\ (λn=> ∃v J rest,n=aU.ret v ⟨H++J,lo⟩/\agl (N+2) (H++J) v cz ((kids t h).map hC) rest) n by
  obtain⟨n,G,v,J,rest,rfl,F⟩:=B;exact⟨v,J,rest,G,F⟩
 refine wv (X:=X3) JL rfl λM s=>?_
 obtain rfl:M=N:=by omega
 have i:=up arh (eC t.b h E (H++[.box (aM t) none,.box [.int .u32 h] none]) none);have u:Go.Proofs.YteplichagkpciaaGreatDoor.aq t.b h=t.aq h:=rfl;rw[u]at i;rw[r]at i;obtain⟨v,J,e1,I⟩:=KG t.b q.b (M+2) (H++[.box (aM t) none,.box [.int .u32 h] none]) (by simp[s]) none;have j:D X3 (.fn (.func 19) [] []) [.agg (b0 t.b)] ⟨H++[.box (aM t) none,.box [.int .u32 h] none],none⟩=some (.ret v ⟨H++[.box (aM t) none,.box [.int .u32 h] none]++J,none⟩):=pX (p:=mi) rfl e1;have f:h∈bt t.b:=(iQ q.b).2 r;have g: (bt t.b).filter (λx=>!decide (bD t x≠h))=kids t h:=by
  unfold kids;rw[ac6 r];refine List.filter_congr λx _=>?_
  by_cases e:bD t x=h<;>simp[e]
 rcases I.2 with⟨_,e⟩| ⟨id,ak,C,rfl,a⟩
 ·rw[apR.1 e]at f;cases f
 rw[aeK]at j;obtain⟨H1,c⟩: ∃H1,H1=H++[ae.box (aM t) none,.box [.int .u32 h] none]++J:=⟨_,rfl⟩;have b:=fy a;have z:H1[M]?=some (.box (aM t) none):=by rw[c,ac8,dB s];rfl
 have y:H1[M+1]?=some (.box [.int .u32 h] none):=by rw[c,ac8,bM s];rfl
 rw[<-c]at a b;obtain⟨rest,d1,d2⟩:=aru id ak H1 (bt t.b) (by have:=nr t.b;omega) a (.fn (.func 194) [] [.ptr M 0,.ptr (M+1) 0]) (λx=>decide (bD t x≠h))
  (λaf x A=>arv age t q h x (gl ((iQ q.b).1 A)) M (M+1) _ (by rw[ach (by omega)];exact z) (by rw[ach (by omega)];exact y) none) none
 rw[g]at d1;have m:D X3 (.fn (.func 193) [] []) [.ref id ak 1 0 (bt t.b).length false,.fn (.func 194) [] [.ptr M 0,.ptr (M+1) 0]] ⟨H1,none⟩=some _:=pX (p:=pW) rfl d1;rw[c]at m;simp only[ac8,ah6,agt]at m j;simp only[go_sem,simprocAttr,JL,s,i,j,m,si,gS];have d: ∀L:List ae,∀o,(H++L).set id o=H++L.set (id-H.length) o:=λL o=>apC _ _ (by omega)
 refine⟨_,_,rest,dp rfl (d _ _),⟨id,ak,by omega,by rw[aeK],?_⟩,λel w=>by rw[d2 el w];rfl⟩;rw[<-d];refine aeI ?_;rw[c]at b;simpa using b
def jq(l:lN)(k:Nat):lN:=(List.range l.length).map λi=>if i<k\/l.length-k<=i then l.getD (l.length-1-i) default else l.getD i default
section
variable{l:lN}{k:Nat}
def sW: (jq l k).length=l.length:=by simp[jq]
def arx(h:i<l.length): (jq l k).getD i default=if i<k\/l.length-k<=i then l.getD (l.length-1-i) default else l.getD i default:=by
 unfold jq
 grind
def ary:jq l 0=l:=by
 apply an2;unfold jq
 grind
def arz(h:l.length<=2*k+1):jq l k=l.reverse:=by
 apply an2;intro i;unfold jq;by_cases a:i<l.length
 ·rw[agp,apl a]
  grind
 grind
def arA(h:2*k+1<l.length): ((jq l k).set k (l.getD (l.length-1-k) default)).set (l.length-1-k) (l.getD k default)=jq l (k+1):=by
 apply an2;intro i;by_cases a:i<l.length
 ·by_cases e1:l.length-1-k=i
  ·unfold jq
   grind
  ·rw[ach e1];by_cases b:k=i
   ·subst b;rw[aeI (by rw[sW];omega)];unfold jq;rw[agp,apl a];simp only[aeM];rw[ac6 (by omega)]
   ·rw[ach b];unfold jq;rw[agp,agp,apl a];simp only[aeM];by_cases c:i<k\/l.length-k<=i
    ·rw[ac6 c,ac6 (by omega)]
    ·rw[ac0 c,ac0 (by omega)]
 ·rw[akh (by simp[sW];omega),akh (by rw[sW];omega)]
end
def arB(id ak:Nat)(H:List ae)(l:lN)(P:l.length<=1000)(b:List lA)(i:H[id]?=some (.row ak 1 cz (l.map hC++b)))(f: ∀el∈b,el.length=1)(lo:oN):
  D X0 (.fn (.func 191) [] []) [.ref id ak 1 0 l.length false] ⟨H,lo⟩=some (.ret (.aA []) ⟨H.set id (.row ak 1 cz (l.reverse.map hC++b)),lo⟩):=by
 refine aK Qp λN R=>?_
 have y:=fy i;have g: ∀E,gF E .sl (.ref id ak 1 0 l.length false)=some (.int .i64 l.length):=λE=>rfl
 have d: ∀af,(H.set id (.row ak 1 cz af))[id]?=some (.row ak 1 cz af):=λaf=>aeI y
 have M: ∀k,∀el∈(jq l k).map hC++b,el.length=1:=λk el p=>by
  rcases adB.1 p with h|h
  ·obtain⟨x,_,rfl⟩:=aeO.1 h;rfl
  ·exact f _ h
 simp(disch:=omega) only[go_sem,simprocAttr,Qp,g];refine fE l.length (λk e H'=>H'=H.set id (.row ak 1 cz ((jq l k).map hC++b))/\e 0= .ref id ak 1 0 l.length false/\e 2= .int .i64 k/\e 3= .int .i64 ((l.length:Int)-1-k)) 0 (by omega) ?_ ?_
 ·rw[ary,pY i];simp only[go_sem,simprocAttr];exact ahR _ (by omega)
 rintro k Q e H' ⟨rfl,K,J,I⟩ n O;simp only[cm,F1,go_sem,simprocAttr,aef,K,J,I];refine⟨λh=>?_,λh=>?_⟩
 ·have u:2*k+1<l.length:=by omega
  have w:k<l.length:=by omega
  obtain⟨m,hm⟩: ∃m,m=l.length-1-k:=⟨_,rfl⟩;have t: (l.length:Int)-1-k=(m:Nat):=by omega
  have o:Rd ⟨H.set id (.row ak 1 cz ((jq l k).map hC++b)),none⟩ (.ref id ak 1 0 l.length false) 1 ((jq l k).map hC):=by
   have:=Fi (lo:=none) (c:=false) (n:=l.length) (d ((jq l k).map hC++b)) (by rw[aeG,aeK,sW];omega) (M k);rwa[am6 (by rw[aeK,sW])]at this
  have C:jL 1 (.ref id ak 1 0 l.length false) (.int .i64 (m:Nat))=some (.dA id ak m 0):=by
   have:=o.cn (k:=.i64) (a:=(m:Nat));rw[sW,ac6 (by omega)]at this;rw[this];simp[dw]
  have B:jL 1 (.ref id ak 1 0 l.length false) (.int .i64 (k:Nat))=some (.dA id ak k 0):=by
   have:=o.cn (k:=.i64) (a:=(k:Nat));rw[sW,ac6 (by omega)]at this;rw[this];simp[dw]
  have A: ∀j,j<l.length->cp X0 ⟨H.set id (.row ak 1 cz ((jq l k).map hC++b)),none⟩ false 1 (.dA id ak j 0)=some (.int .u32 ((jq l k).getD j default:Nat)):=λj F=>by
   have:=o.cE (X:=X0) (j:=j) (off:=0) (n:=1) (agg:=false) (by rw[sW];exact F);simp only[dw,aka]at this;rw[this,pH]
  have s:=A m (by omega);have r:=A k (by omega);rw[arx (by omega),ac0 (by omega)]at s r;have G: ∀ (L:lN) (j v:Nat),L.length=l.length->j<l.length->kp ⟨H.set id (.row ak 1 cz (L.map hC++b)),none⟩ 1 (.dA id ak j 0) (.int .u32 v)=some ⟨H.set id (.row ak 1 cz ((L.set j v).map hC++b)),none⟩:=λL j v A F=>by
   rw[agh (d _) (by rw[aeG,aeK];omega) (λel p=>by
    rcases adB.1 p with h|h
    ·obtain⟨x,_,rfl⟩:=aeO.1 h;rfl
    ·exact f _ h) rfl rfl rfl,ake,asq _ _ (by rw[aeK];omega)]
   have: (L.map hC).set j [.int .u32 v]=(L.set j v).map hC:=by rw[<-map_set];rfl
   rw[this]
  have z:=G (jq l k) k (l.getD m default) sW (by omega);have q:=G ((jq l k).set k (l.getD m default)) m (l.getD k default) (by rw[aeU,sW]) (by omega);rw[hm,arA u,<-hm]at q;simp(disch:=omega) only[go_sem,simprocAttr,K,J,I,t,C,B,s,r,z,q];exact⟨w,ahR _ (by omega)⟩
 ·have he:=arz (l:=l) (k:=k) (by omega);rw[he,adz (by rw[aeU];omega)]
def SB(t:ar)(h:Nat)(N:Nat)(H:List ae)(b:H.length=N)(lo:oN):D X0 (.fn (.func 183) [] []) [.agg (aM t),.int .u32 h] ⟨H,lo⟩=some (.ret (.fn (.func 189) [] [.ptr (N+1) 0,.ptr N 0]) ⟨H++[.box (aM t) none,.box [.int .u32 h] none],lo⟩):=by
 refine aK Qi λM a=>?_
 obtain rfl:M=N:=by omega
 simp only[go_sem,simprocAttr,Qi,a];rw[BR (by omega)]
def rG(t:ar)(h:Nat):List lA:=(de t h).map hC
def SC(t:ar)(h:Nat): (rG t h).length=(de t h).length:=by simp[rG]
structure arC(W:List ae)(v:AV)(id:Nat)(st:lN):Prop where
 ex: ∃ak rest,v= .ref id ak 1 0 st.length false/\W[id]?=some (.row ak 1 cz (st.map hC++rest))/\ ∀el∈rest,el.length=1
theorem oS{t:ar}: ∀st:lN,st.length<=(st.flatMap (de t)).length
 | []=>by simp
 |x::xs=>by
  have d:1<=(de t x).length:=by
   cases e:de t x with
   |nil=>trivial
   |cons a b=>simp
  have c:=oS (t:=t) xs
  grind
def arD{H:List ae}{id:Nat}{ty:TypeId}{ys:List lA}(h:H[id]?=some (.row ak 1 ty af))(f:n<=af.length)(e: ∀el∈ys,el.length=1)(a:b9 ys=0)(d: (n+ys.length)*4<=room)(b:ys≠[]):
  dO ⟨H,lo⟩ ty 1 4 (.ref id ak 1 0 n false) ys=some (.ref id (ak+1) 1 0 (n+ys.length) false,⟨H.set id (.row (ak+1) 1 ty (af.take n++ys)),lo⟩):=by
 have c:0<1/\ys.all (λel=>el.length==1)=true:=⟨by omega,by grind⟩;unfold dO;rw[ac6 c];simp only[h];rw[ac6 ⟨trivial,trivial,trivial,trivial,by omega,d⟩,ac0 (by grind)];simp[AS.set,a]
def arE{H:List ae}{id:Nat}{ty:TypeId}(h:H[id]?=some (.row ak 1 ty af))(a:n<=af.length)(b:n*4<=room):
  dO ⟨H,lo⟩ ty 1 4 (.ref id ak 1 0 n false) []=some (.ref id ak 1 0 n false,⟨H,lo⟩):=by
 unfold dO
 grind
def arF{X Y:Ctx}(a:Ext X Y)(h:X.code f=some pf)(b:X.cg f=none):Y.cg f=none:=by
 rcases a.cg f with e| ⟨_,e⟩
 ·grind
 grind
def arG{X Y:Ctx}(a:Ext X Y)(h:X.code f=some pf):Y.code f=some pf:=by rw[a.code];exact h
def vG{X Y:Ctx}(a:Ext X Y){args:lA}{E:AS}{r:aU}(h:D X v args E=some r):D Y v args E=some r:=acX a _ _ _ _ h
def SD{Y:Ctx}(T:Ext X4 Y)(t:ar)(ht:bS t)(hT:cu t)(h:Nat)(hg:t.aq h=true)(a:Nat):
  uI Y (.fn (.func 189) [] [.ptr (a+1) 0,.ptr a 0]) a [.box (aM t) none,.box [.int .u32 h] none] (rG t h):=by
 intro S V y I J b hV agm uE W s hP h0 yq C hG lo;have hh:=gl hg;have o: ∀i,V.dM i->i<b:=λi hi=>(agm i hi).1
 suffices h: ∃cr,D Y (.fn (.func 189) [] [.ptr (a+1) 0,.ptr a 0]) [y] ⟨W,lo⟩=some cr/\
   (λcr=> ∃s' O aj,cr=aU.ret (.aA []) ⟨O,aj⟩/\V.P s' O/\ (I (rG t h).length s'\/J s')/\b<=O.length/\
     (∀i,i<b-> ¬V.dM i-> ¬(a<=i/\i<a+[ae.box (aM t) none,.box [.int .u32 (h:Nat)] none].length)->O[i]?=W[i]?)/\k7 V.c b lo aj none (V.row s')) cr by
  obtain⟨cr,h1,s',O,aj,rfl,q1,q2,q3,q4,q5⟩:=h;exact⟨s',O,aj,h1,q1,q2,q3,q4,q5⟩
 refine xh Qo (arF T rfl rfl) (arG T rfl) rfl λN hN=>?_
 obtain rfl:N=b:=by omega
 have g0:W[a]?=some (.box (aM t) none):=hG 0 (by simp);have g1:W[a+1]?=some (.box [.int .u32 h] none):=hG 1 (by simp);have ha:=fy g1;have Su: ¬V.dM a:=λq=>(agm a q).2 ⟨by omega,by simp⟩
 have hul:=R8 hT h;have F: ∀n:Nat,n<=40000000->n*4<=room:=λn hn=>by unfold room;omega
 simp only[go_sem,simprocAttr,Qo,hN,g1];refine gZ (de t h).length (λk e O aj=> ∃s' st id,I k s'/\ky V N W (λi=>a<=i/\i<a+[ae.box (aM t) none,.box [.int .u32 (h:Nat)] none].length) s' O aj/\O[a]?=some (.box (aM t) none)/\arC O (e 4) id st/\N<=id/\V.row s'≠some id/\
  st.reverse.flatMap (de t)=(de t h).drop k/\ (∀x∈st,t.aq x=true)/\e 0=y/\e 1= .ptr (a+1) 0/\e 2= .ptr a 0) 0 (by omega) ?_ ?_
 ·simp only[go_sem,simprocAttr];refine⟨s,[h],N,h0,?_,?_,?_,adA _,?_,by simp,by simpa using hg⟩
  ·exact ky.push hV o ⟨hP,by omega,λ_ _ _ _=>rfl,.inl ⟨rfl,C⟩,λr e=>by rw[C]at e;cases e⟩ _
  ·exact bm g0
  ·exact⟨0,[],rfl,by rw[dB hN];rfl,by simp⟩
  ·rw[C];simp
 rintro k hk e W1 Q ⟨s1,st,id,hI,hS,w0,⟨ak,rest,e4,hr,G⟩,hid,Z,A,jd,e0,e1,e2⟩ n hn;have Sw:N<=n:=by have:=hS.len;omega
 have aBz:=fy hr;have aBA:st.length<=(de t h).length-k:=by
  have:=oS (t:=t) st.reverse;rw[A,List.length_reverse,am7]at this;exact this
 have H: ∀E,gF E .sl (.ref id ak 1 0 st.length false)=some (.int .i64 st.length):=λE=>rfl
 simp(disch:=omega) only[cm,go_sem,simprocAttr,aee,e4,H];refine⟨λhc=>?_,λhc=>?_⟩
 ·obtain⟨d,x,rfl⟩: ∃d x,st=d++[x]:=⟨st.dropLast,st.getLast (by rintro rfl;simp at hc),(List.dropLast_concat_getLast _).symm⟩;have hgx:=jd x (by simp);have hx:=gl hgx;have R: (d++[x]).length=d.length+1:=by simp
  have u: (de t h).drop k=x:: ((kids t x).flatMap (de t)++d.reverse.flatMap (de t)):=by
   rw[<-A,List.reverse_append,aoV];show(x:: []).flatMap (de t)++_=_;rw[apj,List.flatMap_nil,agc,R6 hT x];rfl
  have Sv:k< (de t h).length:=by
   have:=ahR List.length u;rw[am7,aeV]at this;omega
  have wm: (rG t h)[k]?=some [.int .u32 (x:Nat)]:=by
   unfold rG;rw[agp];have: (de t h)[k]?=((de t h).drop k)[0]?:=by rw[aki];rfl
   rw[this,u];rfl
  obtain⟨c,s2,W2,l,p1,p2,p3,p4,p5,p6⟩:=uE k _ s1 wm hI W1 hS.P hS.len Q;have L:=hS.step p2 p3 p4 p5;have SE: ∀i,i<N->V.row s1≠some i:=λi hi q=>by have:=hS.row _ q;omega
  have v0:W2[a]?=some (.box (aM t) none):=by rw[p3.2 a (by omega) Su (SE _ (by omega))];exact w0
  have vr:W2[id]?=some (.row ak 1 cz ((d++[x]).map hC++rest)):=by rw[p3.2 id (by omega) (λq=>by have:=o _ q;omega) Z];exact hr
  have r8:Rd ⟨W1,Q⟩ (.ref id ak 1 0 (d++[x]).length false) 1 ((d++[x]).map hC):=by
   have:=Fi (lo:=Q) (c:=false) (n:=(d++[x]).length) hr (by simp) (λel g=>by
    rcases adB.1 g with h|h
    ·obtain⟨x,_,rfl⟩:=aeO.1 h;rfl
    ·exact G _ h)
   rwa[am6 (by simp)]at this
  have hA:jL 1 (.ref id ak 1 0 (d.length+1) false) (.int .i64 (d.length:Nat))=some (.dA id ak d.length 0):=by
   have:=r8.cn (k:=.i64) (a:=(d.length:Nat));rw[R,ac6 (by omega)]at this;rw[this];simp[dw]
  have hL:cp Y ⟨W1,Q⟩ false 1 (.dA id ak d.length 0)=some (.int .u32 (x:Nat)):=by
   have:=r8.cE (X:=Y) (j:=d.length) (off:=0) (n:=1) (agg:=false) (by simp);simp only[dw,aka]at this;rw[this,pH];simp
  have SF: ((d.length:Nat):Int)+1-1=(d.length:Nat):=by omega
  cases c
  ·obtain⟨M,KH,q1,q2,q3,q4,q5⟩:=L.fin hV o (dU:=lo);simp only[go_sem,simprocAttr,SF,e0,R,hA,hL,p1,q1];exact⟨s2,M,KH,rfl,q2,.inr p6,q3,q4,q5⟩
  ·obtain⟨kv,Jk,m,k1,⟨z,v,kid,rfl,U⟩,k3⟩:=arw t ht x hgx W2.length W2 rfl l;have hkn:=fy U;have kl:=afO t x;have w:=vG T (pX (X:=X4) (f:=190) (p:=rE) rfl k1);have r1:=vG T<|up ari (arB z v (W2++Jk) (kids t x) (by omega) m U k3 l);rw[aeK]at w;have aBC:id≠z:=by have:=fy vr;omega
   obtain⟨M,K⟩: ∃M,M=(W2++Jk).set z (.row v 1 cz ((kids t x).reverse.map hC++m)):=⟨_,rfl⟩;rw[<-K]at r1;have P:M[id]?=some (.row ak 1 cz ((d++[x]).map hC++rest)):=by rw[K,ach (by omega)];exact bm vr
   have v03:M[a]?=some (.box (aM t) none):=by rw[K,ach (by have:=fy v0;omega)];exact bm v0
   have g:Den.elems ⟨M,l⟩ 1 (.ref z v 1 0 (kids t x).length false)=some ((kids t x).reverse.map hC):=by
    have h3:M[z]?=some (.row v 1 cz ((kids t x).reverse.map hC++m)):=by rw[K];exact aeI hkn
    have:=(Fi (lo:=l) (c:=false) (n:=(kids t x).length) h3 (by simp) (λel g=>by
     rcases adB.1 g with h|h
     ·obtain⟨x,_,rfl⟩:=aeO.1 h;rfl
     ·exact k3 _ h)).eq
    rwa[am6 (by simp)]at this
   have hS3:ky V N W (λi=>a<=i/\i<a+[ae.box (aM t) none,.box [.int .u32 (h:Nat)] none].length) s2 M l:=by
    rw[K];exact(L.push hV o Jk).set hV (λq=>by have:=o _ q;have:=L.len;omega) (λq=>by have:=hV.HI L.P q;omega) (.inr (by have:=L.len;omega))
   have we:=agi (id:=id) (ak:=ak) (n:=d.length+1) (i:=d.length) (by omega);have B:V.row s2≠some id:=by
    rcases p4 with q| ⟨r,q,hq⟩
    ·rw[q];exact Z
    ·rw[q];intro e;cases e;omega
   have SG: ((d++(kids t x).reverse).reverse).flatMap (de t)=(de t h).drop (k+1):=by
    have:=ahR (List.drop 1) u;rw[ape]at this;rw[this,List.reverse_append,List.reverse_reverse,aoV];rfl
   have agr: ∀y∈d++(kids t x).reverse,t.aq y=true:=λy hy=>by
    rcases adB.1 hy with h|h
    ·exact jd y (by simp[h])
    ·exact(iQ ht.b).1 (Ku (List.mem_reverse.1 h)).2.2
   by_cases hke:kids t x=[]
   ·have sc:=arE (lo:=l) (n:=d.length) P (by simp) (F _ (by omega));rw[hke]at g w r1 SG agr;simp only[anu,List.reverse_nil,atZ]at g w r1;simp(disch:=omega) only[go_sem,simprocAttr,SF,e0,e1,e2,e4,R,hA,hL,p1,v0,w,r1,we,g,sc];refine⟨Sv,s2,d,id,p6,hS3,v03,⟨ak,[hC x]++rest,rfl,?_,?_⟩,hid,B,by simpa using SG,λy hy=>jd y (by simp[hy])⟩
    ·rw[P];simp
    ·intro el g;rcases adB.1 g with h|h
     ·rw[aeH.1 h];rfl
     ·exact G _ h
   ·have sc:=arD (lo:=l) (n:=d.length) (ys:=(kids t x).reverse.map hC) P (by simp) (λel g=>by obtain⟨x,_,rfl⟩:=aeO.1 g;rfl) (bL (λ_=>rfl) _) (F _ (by simp;omega)) (by simpa using hke);simp(disch:=omega) only[go_sem,simprocAttr,SF,e0,e1,e2,e4,R,hA,hL,p1,v0,w,r1,we,g,sc];refine⟨Sv,s2,d++(kids t x).reverse,id,p6,?_,?_,⟨ak+1,[],?_,?_,λ_ h=>by cases h⟩,hid,B,SG,agr⟩
    ·exact hS3.set hV (λq=>by have:=o _ q;omega) B (.inr (by omega))
    ·exact v03
    ·simp
    ·rw[aeI (fy P)];have e:List.take d.length (List.map hC (d++[x])++rest)=List.map hC d:=by
      rw[aeP,ac8,am6 (by simp)]
     rw[e,aeP,agc]
 ·obtain⟨M,KH,q1,q2,q3,q4,q5⟩:=hS.fin hV o (dU:=lo);have arJ:st=[]:=by
   have:st.length=0:=by omega
   exact ajx.1 this
  subst arJ;have hk2:k=(rG t h).length:=by
   rw[SC];have:=ahR List.length A;rw[am7]at this;simp at this;omega
  simp only[go_sem,simprocAttr,q1];exact⟨s1,M,KH,rfl,q2,.inl (hk2 ▸ hI),q3,q4,q5⟩
def arL{X:Ctx}{a:List RV}{R:aU->Prop}{e:Env}{p:Nat}{b:lN}{H:List ae}{l:oN}:
  AN X lo a R .ret ⟨e,p::b⟩ ⟨H,l⟩=match H[p]? with|some .fO=>AN X lo a R .ret ⟨e,b⟩ ⟨H.set p .dead,l⟩|_=>False:=by
 simp only[AN,dV];cases c:H[p]? with
 |none=>simp
 |some o=>cases o<;>simp[AS.set]
structure ASt where
 l:lN
 row:oN
def agu(H:List ae)(N a k:Nat):YV ASt:=⟨λs W=>(∀i,i<N-> ¬(a<=i/\i<a+k)->W[i]?=H[i]?)/\SV N 1 cz W s.row (s.l.map hC),ASt.row,λi=>i<N+1/\ ¬(a<=i/\i<a+k),N⟩
def arM{H:List ae}{N k:Nat}(h:a+k<=N): (agu H N a k).Ok where
 st:=λs W j ⟨g,c⟩ b=>by
  refine⟨λi d f=>?_,c.st (b _ (.inl ⟨avY _,by omega⟩)) λi d=>b i (.inr d)⟩;rw[b i (.inl ⟨by omega,f⟩)];grind
 lt:=λs W r ⟨_,c⟩ e=>c.row e
def arN(g:AV)(xs:lN)(wm:xs.length<=40000000)(a:Nat)(G:List ae)(D:qw X4 g=true)(B:uI X4 g a G (xs.map hC))(N:Nat)(H:List ae)(hN:H.length=N)(F:a+G.length<=N)
  (hG: ∀i,i<G.length->H[a+i]?=G[i]?) (lo:oN):
  ∃v W aj,xj [.au,g] ⟨H,lo⟩=some (.ret v ⟨W,aj⟩)/\aP N W v 1 cz (xs.map hC)/\ (∀i,i<N-> ¬(a<=i/\i<a+G.length)->W[i]?=H[i]?)/\N<=W.length/\ (aj=lo\/ ∃j,N<=j/\aj=cO lo j):=by
 suffices hs: ∃n,xj [.au,g] ⟨H,lo⟩=some n/\ (λn=> ∃v W aj,n=aU.ret v ⟨W,aj⟩/\aP N W v 1 cz (xs.map hC)/\ (∀i,i<N-> ¬(a<=i/\i<a+G.length)->W[i]?=H[i]?)/\N<=W.length/\ (aj=lo\/ ∃j,N<=j/\aj=cO lo j)) n by
  obtain⟨n,h1,v,W,aj,rfl,h2⟩:=hs;exact⟨v,W,aj,h1,h2⟩
 refine wv (X:=X4) JK rfl λM J=>?_
 obtain rfl:M=N:=by omega
 have hb:=Sh (H:=H) (lo:=none) (tg:=none) (Rv.au (sz:=1));simp only[go_sem,simprocAttr,JK,J,hb];obtain⟨k,c⟩: ∃k,k=H++[ae.box [.au] none]:=⟨_,rfl⟩;rw[<-c];have V:k.length=M+1:=by rw[c];simp[J]
 have m:SV M 1 cz k none []:=.inl ⟨rfl,rfl,by rw[c,dB J];rfl⟩;generalize d: ((((dv _).set 2 _).set 4 _).set 6 _)=e;have f:e 2= .ptr M 0:=by rw[<-d];rfl
 have Q: (ao.t 6).get e=g:=by rw[<-d];rfl
 clear d;refine Oq (agu H M a G.length) (arM F) (xs.map hC) a G k ⟨[],none⟩ (by rw[Q];exact D) (by rw[Q];exact B) (λi b=>?_) (by omega) (λi b=>⟨by have:=b.1;omega,b.2⟩) ⟨λi b p=>?_,m⟩ rfl
  (λj s=>s.l=xs.take j) (λ_ _=>False) rfl (λ_ _ h=>h.elim) ?_ ?_ (λ_ _ _ _ h=>h.elim)
 ·rw[c,acj (by omega)];exact hG i b
 ·rw[c,acj (by omega)]
 ·intro j y s S t;rw[agp,aeL]at S;obtain⟨x,T,rfl⟩:=S;have hj:=(ack.1 T).1;refine⟨rfl,λW Y yq=>?_⟩;simp only[go_sem,simprocAttr,iZ,hC];refine⟨[],by simp,λW2 hW2 I=>?_⟩;obtain⟨w,o⟩:=I;have we:s.l.length<=40000000:=by
   have:s.l=xs.take j:=t;rw[this,af9];omega
  obtain⟨vv,v',W3,O,P,a1,a2,a3,a4,a5,Z,a7⟩:=o.append (bytes:=4) (el:=hC x) (by omega) (by omega) rfl rfl (by rw[aeK];unfold room;omega) none;have C:hC x=[.int .u32 (x:Nat)]:=rfl;rw[C]at a2;simp only[go_sem,simprocAttr,aed,f,a1,a2,a3,Dh,agc];have l: ∀i,s.row=some i->M<i:=by
   intro i b;rcases o with⟨q,_⟩| ⟨id,ak,q,_,f,q3,q4⟩
   ·rw[q]at b;cases b
   ·rw[q]at b;cases b;exact f
  refine⟨⟨s.l++[x],P⟩,⟨λi b p=>?_,?_⟩,⟨by show W2.length<=O.length;omega,λi b hp hr=>?_⟩,.inr ⟨M,adA _,by omega,rfl,?_⟩,?_⟩
  ·show O[i]?=_;rw[Z i (by omega) (by omega) (λq=>by have:=l i q;omega)];exact w i b p
  ·show SV M 1 cz O P ((s.l++[x]).map hC);rw[aeP];exact a4
  ·have z: ¬(i<M+1/\ ¬(a<=i/\i<a+G.length)):=hp;exact Z i b (by rintro rfl;exact z ⟨by omega,by omega⟩) hr
  ·rcases a7 with q| ⟨q,u,f⟩
   ·exact .inl q
   ·exact .inr ⟨q,u,by omega⟩
  ·show s.l++[x]=xs.take (j+1);have:s.l=xs.take j:=t;rw[this,agn,T];rfl
 ·intro s' W' aj t Y hl U oZ A;obtain⟨w,o⟩:=Y;have K:s'.l=xs:=by
   have:s'.l=xs.take (xs.map hC).length:=t;rw[this,aeK,aeQ]
  obtain⟨v,o1,R,o3,o4,_⟩:=o.own (N:=M) (adA _) (by intro el E;obtain⟨r,_,rfl⟩:=aeO.1 E;rfl);rw[K]at R;have ho:aP M (W'.set k.length .dead) v 1 cz (xs.map hC):=by
   obtain⟨c1,L⟩:=R;refine⟨c1,?_⟩;rcases L with L| ⟨id,ak,d1,d2,d3⟩
   ·exact .inl L
   ·refine .inr ⟨id,ak,d1,d2,?_⟩;rw[ach];exact d3;rintro rfl;rw[U]at d3;cases d3
  simp only[go_sem,simprocAttr,f,o1,U,arL,si];refine⟨v,_,_,rfl,ho,λi b p=>?_,by rw[aeU];omega,?_⟩
  ·rw[ach (by omega)];exact w i b p
  ·rcases A with⟨rfl,_⟩| ⟨j,u,f,rfl⟩
   ·exact .inl rfl
   ·exact .inr ⟨j,u,rfl⟩
def arO(g:AV)(xs:lN)(c:xs.length<=40000000)(a:Nat)(G:List ae)(e:qw X4 g=true)(d:uI X4 g a G (xs.map hC))(N:Nat)(H:List ae)(s:H.length=N)(f:a+G.length<=N)
  (m: ∀i,i<G.length->H[a+i]?=G[i]?) (lo:oN):
  ∃v W aj,zv [g] ⟨H,lo⟩=some (.ret v ⟨W,aj⟩)/\aP N W v 1 cz (xs.map hC)/\ (∀i,i<N-> ¬(a<=i/\i<a+G.length)->W[i]?=H[i]?)/\N<=W.length/\ (aj=lo\/ ∃j,N<=j/\aj=cO lo j):=by
 suffices r: ∃b,zv [g] ⟨H,lo⟩=some b/\ (λb=> ∃v W aj,b=aU.ret v ⟨W,aj⟩/\aP N W v 1 cz (xs.map hC)/\ (∀i,i<N-> ¬(a<=i/\i<a+G.length)->W[i]?=H[i]?)/\N<=W.length/\ (aj=lo\/ ∃j,N<=j/\aj=cO lo j)) b by grind
 refine wv (X:=X5) JJ rfl λM l=>?_
 obtain rfl:M=N:=by omega
 obtain⟨v,W,aj,e1,q,e3,o,n⟩:=arN g xs c a G e d M H l f m none;have h:D X5 (.fn (.func 188) [] []) [.au,g] ⟨H,none⟩=some _:=pX (p:=xj) rfl e1;simp only[go_sem,simprocAttr,JJ,h,si];refine⟨v,W,_,rfl,q,e3,o,?_⟩;rcases n with rfl| ⟨j,k,rfl⟩
 ·exact .inl rfl
 ·exact .inr ⟨j,k,rfl⟩
def arP(t:ar)(q:bS t)(n:cu t)(h:Nat)(s:h<4294967296)(N:Nat)(H:List ae)(B:H.length=N)(lo:oN):
  ∃v J aj,BT [.agg (aM t),.int .u32 h] ⟨H,lo⟩=some (.ret v ⟨H++J,aj⟩)/\aP N (H++J) v 1 cz ((under t h).map hC)/\ (aj=lo\/ ∃j,N<=j/\aj=cO lo j):=by
 suffices A: ∃k,BT [.agg (aM t),.int .u32 h] ⟨H,lo⟩=some k/\ (λk=> ∃v J aj,k=aU.ret v ⟨H++J,aj⟩/\aP N (H++J) v 1 cz ((under t h).map hC)/\ (aj=lo\/ ∃j,N<=j/\aj=cO lo j)) k by grind
 refine wv (X:=X6) ED rfl λM e=>?_
 obtain rfl:M=N:=by omega
 have a:=up agf (eC t.b h s (H++[.box (aM t) none]) none);have l:Go.Proofs.YteplichagkpciaaGreatDoor.aq t.b h=t.aq h:=rfl;rw[l]at a;cases d:t.aq h with
 |false=>
  rw[d]at a;simp only[go_sem,simprocAttr,ED,e,a,si,gS];refine⟨_,_,_,rfl,?_,.inl rfl⟩;unfold under;rw[d];exact aP.au
 |true=>
  rw[d]at a;have hu:under t h=de t h:=by unfold under;rw[ac6 d];rfl
  obtain⟨H1,b⟩: ∃H1,H1=H++[ae.box (aM t) none,.box (aM t) none,.box [.int .u32 h] none]:=⟨_,rfl⟩;have o:=up agf (SB t h (M+1) (H++[.box (aM t) none]) (by simp[e]) none);have f:H1.length=M+3:=by rw[b];simp[e]
  have m: ∀i,i<2->H1[M+1+i]?=[ae.box (aM t) none,.box [.int .u32 h] none][i]?:=λi r=>by
   rw[b,aeY (by omega),show M+1+i-H.length=i+1 by omega];rfl
  obtain⟨v,W,aj,y,x,w,C,u⟩:=arO (.fn (.func 189) [] [.ptr (M+1+1) 0,.ptr (M+1) 0]) (de t h) (by have:=R8 n h;omega) (M+1) [.box (aM t) none,.box [.int .u32 h] none] rfl (SD ⟨rfl,rfl,rfl,λ_=>.inl rfl⟩ t q n h d (M+1)) (M+3) H1 f (by simp) m none;have g:D X6 (.fn (.func 182) [] []) [.fn (.func 189) [] [.ptr (M+1+1) 0,.ptr (M+1) 0]] ⟨H1,none⟩=some _:=pX (p:=zv) rfl y;have c:W=H++W.drop M:=by
   have:W.take M=H:=lH e λi r=>by
    rw[w i (by omega) (by omega),b,acj (by omega)]
   rw[<-this];simp
  rw[b]at g;simp only[ac8,ah6,agt]at o;simp only[go_sem,simprocAttr,ED,e,a,o,g,si];refine⟨v,W.drop M,_,dp rfl c,?_,?_⟩
  ·rw[<-c,hu];exact aP.le x (by omega)
  ·rcases u with rfl| ⟨j,z,rfl⟩
   ·exact .inl rfl
   ·exact .inr ⟨j,by omega,rfl⟩
def aP.nG{N:Nat}{H:List ae}{ty:TypeId}(h:aP N H v sz ty af){p:Nat}{cs:lA}{tg:Option TypeId}(b:H[p]?=some (.box cs tg)){o:ae}:aP N (H.set p o) v sz ty af:=by
 obtain⟨a,c⟩:=h;refine⟨a,?_⟩
 grind
def mj{N:Nat}{H:List ae}{ty:TypeId}{g:α->lA}(h:aP N H v sz ty (l.map g))(lo:oN):Rd ⟨H,lo⟩ v sz (l.map g):=h.rd
def KI(t:ar)(a:bS t)(c:cu t)(h:Nat)(b:h<4294967296)(N:Nat)(H:List ae)(d:H.length=N)(lo:oN):
  ∃v J aj,D X (.fn (.func 167) [] []) [.agg (aM t),.int .u32 h] ⟨H,lo⟩=some (.ret v ⟨H++J,aj⟩)/\aP N (H++J) v 1 cz ((under t h).map hC)/\ (aj=lo\/ ∃j,N<=j/\aj=cO lo j):=by
 obtain⟨v,J,aj,f,e⟩:=arP t a c h b N H d lo;exact⟨v,J,aj,pX (p:=BT) rfl f,e⟩
def eB.of{N:Nat}(h:aj=Option.none\/ ∃j,N<=j/\aj=cO Option.none j):eB N aj:=by trivial
def eB.le{N M:Nat}(h:eB N lo)(a:M<=N):eB M lo:=by
 rcases h with h| ⟨j,q,e⟩
 ·exact .inl h
 ·exact .inr ⟨j,by omega,e⟩
def KJ{t:ar}(b:bS t)(a:x∈under t h):t.aq x=true:=by
 unfold under at a;split at a
 ·rename_i c;exact zk b.b c a
 grind
def KK{t:ar}(a:cu t)(h:Nat): (under t h).length<=39135393:=by
 unfold under;split
 ·exact R8 a h
 ·simp
def arQ:gM cY:=⟨by trivial,by trivial,by trivial,by simp[cY],by trivial,by trivial⟩
def bS.drop{t:ar}(a:bS t)(h:Nat):bS (fj t h).1:=by
 unfold fj;split
 ·refine⟨E7 a.b h,λi=>?_⟩;show gM (ai t.r (aI h) cY i);by_cases e:i=aI h
  ·rw[e,bI];exact arQ
  ·rw[bA e];exact a.r i
 omega
def fY(t:ar)(l:lN):ar:=l.foldl (λt x=>(fj t x).1) t
theorem agv{t:ar}(a:bS t): ∀l:lN,bS (fY t l)
 | []=>a
 |x::xs=>agv (a.drop x) xs
def arR{t:ar}{l:lN}{k:Nat}(h:k<l.length):fY t (l.take (k+1))=(fj (fY t (l.take k)) (l.getD k default)).1:=by
 unfold fY;rw[agn,ac7 h,ang,getD_eq h];rfl
def jE{N:Nat}{H:List ae}(b:eB N aj)(a:v.refs<=N):finish N lo v ⟨H,aj⟩=(v,⟨H.take N,lo⟩):=uK b ((Fz.low (d:=11) a))
def Fk{N:Nat}{H:List ae}{ty:TypeId}(b:eB N aj)(h:aP N H v sz ty af)(a:b9 af<=N):finish N lo v ⟨H,aj⟩=(bG v af,⟨H.take N,lo⟩):=
 uK b ((Fz.own (d:=8) h a))
def agw{N:Nat}{a b:AV}{H:List ae}{ty:TypeId}(e:eB N aj)(h:aP N H v sz ty af)(c:b9 af<=N)(g:a.refs<=N)(f:b.refs<=N):
  finish N lo (.aA [a,v,b]) ⟨H,aj⟩=(.aA [a,bG v af,b],⟨H.take N,lo⟩):=
 uK e (Fz.aA (d:=11) (iI.cons ((Fz.low (d:=0) g).mono (by omega)) (iI.cons ((Fz.own (d:=0) h c).mono (by omega)) (iI.cons ((Fz.low (d:=0) f).mono (by omega)) iI.nil))))
def arS(t:ar)(z:bS t)(K:cu t)(h:Nat)(Q:h<4294967296)(H:List ae)(lo:oN):
  ∃w,D X (.fn (.func 292) [] []) [.agg (aM t),.int .u32 h] ⟨H,lo⟩=some (.ret (.aA [.agg (aM (ik t h).1),w,.int .i64 (ik t h).2.2]) ⟨H,lo⟩):=by
 suffices P: ∃l,D X (.fn (.func 292) [] []) [.agg (aM t),.int .u32 h] ⟨H,lo⟩=some l/\ (λl=> ∃w,l=aU.ret (.aA [.agg (aM (ik t h).1),w,.int .i64 (ik t h).2.2]) ⟨H,lo⟩) l by
  obtain⟨l,S,w,rfl⟩:=P;exact⟨w,S⟩
 refine cI J5 λN d=>?_
 obtain⟨v,J,y,s,r,E⟩:=KI t z K h Q (N+2) (H++[.box (aM t) none,.box k9 none]) (by simp[d]) none;have O:=KK K h;have a:=(mj r y).bZ;obtain⟨m,b⟩: ∃m,m=H++[ae.box (aM t) none,.box k9 none]++J:=⟨_,rfl⟩;have w0:m[N]?=some (.box (aM t) none):=by rw[b,ac8,dB d];rfl
 have w1:m[N+1]?=some (.box k9 none):=by rw[b,ac8,bM d];rfl
 have c:iK N H m:=by rw[b,ac8];exact iK.app d
 rw[<-b]at s r a;by_cases he:under t h=[]
 ·have e1:ik t h=(t,[],4):=by unfold ik;rw[ac6 he]
  have C: ((under t h).length:Int)=0:=by rw[he];rfl
  rw[e1];simp only[go_sem,simprocAttr,J5,d,s,a,C,w0,w1,df,cZ w1];rw[jE (eB.le (eB.of E) (by omega)) ?_]
  ·exact⟨_,dp rfl ((c.set (by omega)).take d)⟩
  ·simp[AV.refs,aL,w4]
 ·have C: ¬((under t h).length:Int)=0:=by
    have:=aBc.2 he;omega
  simp only[go_sem,simprocAttr,J5,d,s,a,C];refine gZ (under t h).length (λk e q aj=>iK N H q/\q[N]?=some (.box (aM (fY t ((under t h).take k))) none)/\q[N+1]?=some (.box k9 none)/\aP (N+2) q v 1 cz ((under t h).map hC)/\eB (N+2) aj/\
   e 2= .ptr N 0/\e 4= .ptr (N+1) 0/\e 7=v/\e 17=v/\e 18= .int .i64 (under t h).length/\e 19= .int .i64 k) 0 (by omega) ?_ ?_
  ·simp only[go_sem,simprocAttr];exact⟨c,w0,w1,r,eB.of E⟩
  rintro k V e T x ⟨G,p,o,u,F,M,L,e7,j,i,g⟩ n U;have B:=agv z ((under t h).take k);simp only[cm,go_sem,simprocAttr,aet,M,j,i,g];refine⟨λR=>?_,λR=>?_⟩
  ·have f:k< (under t h).length:=by omega
   have I:=mj u x;have A:=λH lo=>up dH<|aqU (fY t ((under t h).take k)) B ((under t h).getD k default) (gl (KJ z (fX f))) H lo
   simp(disch:=omega) only[go_sem,simprocAttr,I.cn,I.cE,↓pH,p,A,Se,M,L,e7,j,i,g,<-arR f];exact⟨by omega,f,G.set (by omega),cZ p,o,aP.nG u p,F⟩
  ·simp only[go_sem,simprocAttr,p,o,L,e7,df,cZ o];obtain rfl:k=(under t h).length:=by omega
   have ho:aP N (T.set (N+1) (ae.box (aM (fY t ((under t h).take (under t h).length))) none)) v 1 cz ((under t h).map hC):=aP.nG (aP.le u (by omega)) o;rw[agw (eB.le F (by omega)) ho ?_ ?_ ?_]
   ·refine⟨bG v ((under t h).map hC),dp ?_ ((G.set (by omega)).take d)⟩;unfold ik;rw[ac0 he,aeQ];rfl
   ·rw[bL (λ_=>rfl)];omega
   ·simp[AV.refs,w4]
   ·simp[AV.refs]
def RB(l:List aC):Prop:=l.length<=100/\ ∀x∈l,x.1<4294967296/\x.2<4294967296
def SH{l:List aC}{k:Nat}(h:k<l.length):aS (l.take (k+1))=aS (l.take k)+(l.getD k default).2:=by
 unfold aS;rw[agn,ac7 h,aeP,List.sum_append,aeN,ac7 h];simp
def arT{l:List aC}(h: ∀x∈l,x.2<4294967296):aS l<=l.length*4294967296:=by
 exact R7 (λx:aC=>x.2) 4294967296 l λx a=>Nat.le_of_lt (h x a)
def RB.bd{l:List aC}(h:RB l)(k:Nat):aS (l.take k)<=429496729600:=by
 have c:=arT (l:=l.take k) λx a=>(h.2 x (ahW a)).2
 have b: (l.take k).length<=100:=by have:=h.1;grind
 omega
def RB.ju{l:List aC}(h:RB l):aS l<=429496729600:=by
 have:=h.bd l.length;grind
def xk(l:List aC):List lA:=(List.range l.length).map λi=>[.int .i64 (32*aS (l.take i):Nat),.agg (aD (l.getD i default))]
def Fl(l:List aC): (xk l).length=l.length:=by simp[xk]
def SI{l:List aC}(h:j<l.length): (xk l)[j]?=some [.int .i64 (32*aS (l.take j):Nat),.agg (aD (l.getD j default))]:=by
 unfold xk;grind
def agx(v:AV)(n:Nat)(b:v.refs=0)(N:Nat)(H:List ae)(c:H.length=N)(lo:oN):D X0 (.fn (.func 84) [] []) [.agg [v,.int .i64 n]] ⟨H,lo⟩=some (.ret (.fn (.func 114) [] [.ptr N 0]) ⟨H++[.box [v,.int .i64 n] none],lo⟩):=by
 refine aK Pq λM a=>?_
 obtain rfl:M=N:=by omega
 simp only[go_sem,simprocAttr,Pq,a];rw[BR (by omega)]
def agy(v:AV)(x:Nat)(l:List aC)(C:Rv v 2 (l.map aD))(G:RB l)(a:Nat):
  uI X0 (.fn (.func 114) [] [.ptr a 0]) a [.box [v,.int .i64 x] none] (xk l):=by
 intro S V y I J b z p E W s hP h0 yq g hG lo;have Sn:=G.1;have d: ∀i,V.dM i->i<b:=λi hi=>(p i hi).1
 suffices h: ∃w,D X0 (.fn (.func 114) [] [.ptr a 0]) [y] ⟨W,lo⟩=some w/\
   (λw=> ∃s' j aj,w=aU.ret (.aA []) ⟨j,aj⟩/\V.P s' j/\ (I (xk l).length s'\/J s')/\b<=j.length/\
     (∀i,i<b-> ¬V.dM i-> ¬(a<=i/\i<a+[ae.box [v,.int .i64 x] none].length)->j[i]?=W[i]?)/\k7 V.c b lo aj none (V.row s')) w by
  obtain⟨w,h1,s',j,aj,rfl,q1,Z,Y,X,U⟩:=h;exact⟨s',j,aj,h1,q1,Z,Y,X,U⟩
 refine xh PG rfl rfl rfl λN hN=>?_
 obtain rfl:N=b:=by omega
 have t:W[a]?=some (.box [v,.int .i64 x] none):=hG 0 (by simp);simp only[go_sem,simprocAttr,PG,t,C.bZ];refine gZ l.length (λk e j aj=> ∃s',I k s'/\ky V N W (λi=>a<=i/\i<a+[ae.box [v,.int .i64 x] none].length) s' j aj/\e 0=y/\e 3= .int .i64 (32*aS (l.take k):Nat)/\e 7=v/\e 8= .int .i64 l.length/\e 9= .int .i64 k) 0 (by omega) ?_ ?_
 ·simp only[go_sem,simprocAttr];exact⟨s,h0,⟨hP,by omega,λ_ _ _ _=>rfl,.inl ⟨rfl,g⟩,λr e=>by rw[g]at e;cases e⟩,by simp[aS]⟩
 rintro k hk e W1 B ⟨s1,P,A,R,e3,e7,e8,Q⟩ n O;simp only[cm,go_sem,simprocAttr,adY,e7,e8,Q];refine⟨λh=>?_,λh=>?_⟩
 ·have f:k<l.length:=by omega
  have uJ:=G.2 _ (fX f);have hpg:=G.bd k;have GG:=SH f;have hx:=SI f;generalize F:l.getD k default=r at*;have o:=A.push z d [.box (aD r) none];obtain⟨c,s2,W2,mg,M,p2,L,p4,p5,K⟩:=E k _ s1 hx P (W1++[.box (aD r) none]) o.P o.len B;have u:=o.step p2 L p4 p5;have Sw:N<=n:=by have:=A.len;omega
  have T:W2[n]?=some (.box (aD r) none):=by
   rw[L.2 n (by simp;omega) (λq=>by have:=d _ q;omega) (λq=>by have:=z.HI A.P q;omega)];rw[<-O];simp
  simp(disch:=omega) only[go_sem,simprocAttr,C.cn,C.cE,h,O,R,e3,F];cases c
  ·obtain⟨H,m,f1,f2,f3,f4,f5⟩:=u.fin z d (dU:=lo);simp only[go_sem,simprocAttr,M,f1];exact⟨s2,H,m,rfl,f2,.inr K,f3,f4,f5⟩
  ·simp(disch:=omega) only[go_sem,simprocAttr,R,e3,e7,e8,Q,M,T];exact⟨f,s2,K,u,ahR _ (by omega)⟩
 ·obtain⟨H,m,f1,f2,f3,f4,f5⟩:=A.fin z d (dU:=lo);simp only[go_sem,simprocAttr,f1];exact⟨s1,H,m,rfl,f2,.inl (by rw[Fl,show l.length=k by omega];exact P),f3,f4,f5⟩
theorem KM{r:aC}:aN [AV.int .i64 0,.int .i64 0] 0 (aD r)=aD r:=rfl
def KN(v:AV)(n:Nat)(l:List aC)(w:Rv v 2 (l.map aD))(g:RB l)(H:List ae)(lo:oN):
  D X0 (.fn (.func 45) [] []) [.agg [v,.int .i64 n]] ⟨H,lo⟩=some (.ret (.int .i64 (aS l:Nat)) ⟨H,lo⟩):=by
 refine aK Pb λN u=>?_
 have d:v.refs=0:=dy w (bL (λ_=>rfl) l);have F:=agx v n d (N+2) (H++[.box [v,.int .i64 n] none,.box [.int .i64 0] none]) (by grind) none;simp only[go_sem,simprocAttr,Pb,u,F];refine wx (S:=Nat) (λe=>e 3= .ptr (N+1) 0) (by rfl) (xk l) u [.box [v,.int .i64 n] none] (λm=>[.box [v,.int .i64 n] none,.box [.int .i64 (m:Nat)] none]) (nB:=2) (λ_=>rfl) 0 (λj s=>s=aS (l.take j)) (λ_ _=>False) rfl ?_ (by simp) (by rfl) (λ_ _ h=>h.elim) ?_ ?_ ?_
 ·exact agy v n l w g (N+2)
 ·rintro e he j x s c rfl;have k:j<l.length:=by
   have:=(ack.1 c).1;rwa[Fl]at this
  rw[SI k]at c;cases c;have y:=g.2 _ (fX k);have z:=g.bd j;have f:=SH k;refine⟨rfl,λW I C A q=>?_⟩;simp only[go_sem,simprocAttr,iZ,C,KM];refine⟨[.box (aD (l.getD j default)) none],rfl,λG t b=>?_⟩;simp only[gj,gi,anj,aeS]at b;obtain⟨w0,w1⟩:=b;have f1: ∀L,(G++L)[N+1]?=some (.box [.int .i64 (aS (l.take j):Nat)] none):=λL=>bm w1
  simp(disch:=omega) only[go_sem,simprocAttr,adM,he,f1,t,o5];refine⟨aS (l.take (j+1)),?_,by omega,λi K B=>?_,rfl⟩
  ·simp only[gj,gi,anj,aeS];refine⟨by rw[ach (by omega)];exact bm w0,?_⟩;rw[aeI (by simp;omega),f,aoU]
  ·rw[ach (by omega),acj (by omega)]
 ·rintro e he s W p J rfl a q E;simp only[gj,gi,anj,aeS]at q;obtain⟨w0,w1⟩:=q;have r: ∀o,(W.set p o).take N=H:=λo=>(a.set (by omega)).take u
  simp only[F1,go_sem,simprocAttr,he,w1,E,nE,r];rw[Fl,aeQ]
 grind
def iC(n:Nat):lA:=[.int .i64 n]
theorem pI:Den.part false 1 (iC n) 0=some (.int .i64 n):=rfl
def arV(v:AV)(l:lN)(b:Rv v 1 (l.map iC))(q:l.length<2^40)(x:Nat)(H:List ae)(lo:oN):
  D X0 (.fn (.func 335) [] []) [v,.int .i64 x] ⟨H,lo⟩=some (.ret (.int .i64 (kO (λy=>decide (x=y)) l)) ⟨H,lo⟩):=by
 refine aK Ro λN t=>?_
 simp only[go_sem,simprocAttr,Ro,b.bZ];refine fE l.length (λk e H'=>H'=H/\e 0=v/\e 1= .int .i64 x/\e 7= .int .i64 l.length/\e 8= .int .i64 k/\ ∀j,j<k->decide (x=l.getD j default)=false) 0 (by omega) ?_ ?_
 ·simp only[go_sem,simprocAttr];omega
 ·rintro k r e H' ⟨rfl,o,m,i,g,f⟩ n p;simp(disch:=omega) only[cm,F1,go_sem,simprocAttr,aeB,o,m,i,g];refine⟨λh=>?_,λh=>?_⟩
  ·have c:k<l.length:=by omega
   by_cases d:x=l.getD k default
   ·have a: ((x:Nat):Int)=((l.getD k default:Nat):Int):=by rw[<-d]
    simp(disch:=omega) only[F1,go_sem,simprocAttr,b.cn,b.cE,↓pI,a];rw[zs c f (ady d)];exact⟨by omega,rfl⟩
   ·have a: ¬((x:Nat):Int)=((l.getD k default:Nat):Int):=by omega
    simp(disch:=omega) only[go_sem,simprocAttr,b.cn,b.cE,↓pI,a,o,m,i,g];exact⟨by omega,c,nC f (adb d)⟩
  ·rw[zt (λj s=>f j (by omega))]
def arW(v:AV)(l:lN)(a:Rv v 1 (l.map iC))(b:l.length<2^40)(x:Nat)(H:List ae)(lo:oN):
  D X0 (.fn (.func 323) [] []) [v,.int .i64 x] ⟨H,lo⟩=some (.ret (.bool (l.contains x)) ⟨H,lo⟩):=by
 refine aK Ri λN c=>?_
 simp only[F1,go_sem,simprocAttr,Ri,arV v l a b x,zr]
 grind
def agz(a b:Nat)(h:a<2147483648)(g:b<2147483648)(H:List ae)(lo:oN):
  D X0 (.fn (.func 287) [] []) [.int .i64 a,.int .i64 b] ⟨H,lo⟩=some (.ret (.bool (isObj a b)) ⟨H,lo⟩):=by
 refine aK EU λN f=>?_
 have e:=arW (.sl [[.int .i64 1],[.int .i64 2],[.int .i64 4],[.int .i64 8]] true) [1,2,4,8] (.sl (by simp)) (by simp) b H none;by_cases c: (a:Int)>=1
 ·by_cases d: (a:Int)<=128
  ·simp only[F1,go_sem,simprocAttr,EU,c,d,e];unfold isObj
   grind
  ·simp(disch:=omega) only[F1,go_sem,simprocAttr,EU,c,d];refine dp (ahR AV.bool ?_) rfl;unfold isObj;rw[adb (by omega: ¬a<=128)];simp
 ·simp(disch:=omega) only[F1,go_sem,simprocAttr,EU,c];refine dp (ahR AV.bool ?_) rfl;unfold isObj;rw[adb (by omega: ¬1<=a)];simp
theorem Fo: ∀ (l:List aC) (x:aC) (put:Bool) (out a:List aC),x.1+x.2<=64->(∀y∈l,y.1+y.2<=64)->(∀y∈out,y.1+y.2<=64)->gJ x put out l=some a->
  (∀y∈a,y.1+y.2<=64)/\a.length<=out.length+l.length+(if put then 0 else 1)
 | [],x,put,out,a,e,_,ho,h=>by
   unfold gJ at h
   grind
 |y::ys,x,put,out,a,e,g,ho,h=>by
  have i:=g y (aeX ..);have b: ∀z∈ys,z.1+z.2<=64:=λz d=>g z (aeR _ d)
  unfold gJ at h;split at h
  ·obtain⟨c,f⟩:=Fo ys x put _ a e b (λz d=>by grind) h
   grind
  ·split at h
   ·obtain⟨c,f⟩:=Fo ys x true _ a e b (λz d=>by
      rcases adB.1 d with h|h
      ·rcases adB.1 h with h|h
       ·exact ho z h
       ·cases put
        ·simp only[aeJ,ags]at h;rw[aeH.1 h];exact e
        ·simp at h
      ·rw[aeH.1 h];exact i) h
    refine⟨c,?_⟩;cases put<;>simp only[aeG,aeV,anu,ae4,ags,aeJ]at f⊢ <;>omega
   ·split at h
    ·obtain⟨c,f⟩:=Fo ys _ put out a (by simp;omega) b ho h;exact⟨c,by simp only[aeV];omega⟩
    ·split at h
     ·obtain⟨c,f⟩:=Fo ys _ put out a (by simp;omega) b ho h;exact⟨c,by simp only[aeV];omega⟩
     ·cases h
def arX{x:aC}(h:ke x=true):1<=x.2/\x.1+x.2<=64:=by
 unfold ke at h;grind
def arY{l a:List aC}{x:aC}(b: ∀y∈l,y.1+y.2<=64)(h:gL l x=some a): (∀y∈a,y.1+y.2<=64)/\a.length<=l.length+1:=by
 unfold gL at h;split at h
 ·rename_i hm;have:=Fo l x false [] a (arX hm).2 b (by simp) h
  grind
 grind
theorem KO: ∀ (a b all:List aC),kI all (a++b)=(kI all a).bind λm=>kI m b
 | [],b,all=>rfl
 |x::a,b,all=>by
  simp only[ah6,kI];cases gL all x with
  |none=>rfl
  |some m=>exact KO a b m
def arZ{l:List aC}{k:Nat}(h:k<l.length)(a:List aC):kI a (l.take (k+1))=(kI a (l.take k)).bind λm=>gL m (l.getD k default):=by
 rw[agn,ac7 h,KO,aeN,ac7 h];simp only[Option.toList_some,kI,aj3]
 grind
def ar0{l:List aC}{k:Nat}{a:List aC}(h:kI a (l.take k)=none):kI a l=none:=by grind [List.take_append_drop,KO]
def agA(v:AV)(n:Nat)(l:List aC)(w:n<4294967296)(g:Rv v 2 (l.map aD))(s:RB l)(C:l.length<=65)(H:List ae)(lo:oN):
  D X0 (.fn (.func 212) [] []) [.agg [v,.int .i64 n]] ⟨H,lo⟩=some (.ret (.bool (ma l n)) ⟨H,lo⟩):=by
 refine aK Qs λN E=>?_
 have r:=KN v n l g s;have B:=s.ju;simp only[go_sem,simprocAttr,Qs,E,g.bZ];refine fE l.length (λk e H'=> ∃J A,H'=cat H (.box [v,.int .i64 n] none:: .box [eL A] none::J)/\kI [] (l.take k)=some A/\A.length<=k/\ (∀x∈A,x.1+x.2<=64)/\e 1= .ptr N 0/\e 3= .ptr (N+1) 0/\e 9=v/\e 10= .int .i64 l.length/\e 11= .int .i64 k) 0 (by omega) ?_ ?_
 ·simp only[go_sem,simprocAttr];exact⟨[],[],fG.symm,by simp[kI],by simp,by simp⟩
 rintro k I e H' ⟨J,A,rfl,t,F,o,e1,e3,y,q,p⟩ z w;have d: ∀a b,(cat H (a::b::J)).length=z:=λ_ _=>by rw[<-w,Kh,Kh];rfl
 simp(disch:=omega) only[cm,go_sem,simprocAttr,aei,e1,y,q,p];refine⟨λh=>?_,λh=>?_⟩
 ·have f:k<l.length:=by omega
  have i:=s.2 _ (fX f);have j:=af7 (eL A) A (nh A) ⟨by omega,o⟩ (l.getD k default) i.1 i.2;have c:=arZ f [];rw[t]at c;simp only[apb]at c;cases m:gL A (l.getD k default)with
  |none=>
   rw[m]at c;have u:ma l n=false:=by unfold ma;rw[ar0 c];rfl
   simp(disch:=first|omega|apply d) only[F1,go_sem,simprocAttr,g.cn,g.cE,h,d,e3,KM,j,pV,m,u,RL]
  |some A'=>
   rw[m]at c;obtain⟨G,K⟩:=arY o m;simp(disch:=first|omega|apply d) only[go_sem,simprocAttr,g.cn,g.cE,h,d,e1,e3,y,q,p,KM,j,pV,m,RL];exact⟨f,_,A',RG,c,by omega,G⟩
 ·obtain rfl:k=l.length:=by omega
  rw[aeQ]at t;have u:ma l n=decide (n<=aS l*32):=by unfold ma;rw[t];rfl
  simp(disch:=first|omega|apply d) only[F1,go_sem,simprocAttr,r];rw[u];exact dp (ahR AV.bool (ae0.2 (by omega))) rfl
def ar1(a k:Nat)(e:a<4611686018427387904)(g:k<=3): (BitVec.ofInt 64 (a:Int)&&& ~~~ (BitVec.ofInt 64 ((2^k:Nat)-1:Int))).toNat=a/2^k*2^k:=by
 have e1:BitVec.ofInt 64 (a:Int)=BitVec.ofNat 64 a:=by simp
 have f:BitVec.ofInt 64 ((2^k:Nat)-1:Int)=BitVec.ofNat 64 (2^k-1):=by
  have: ((2^k:Nat)-1:Int)=((2^k-1:Nat):Int):=by
   have:=Nat.pow_pos (n:=k) (show 0<2 by omega);omega
  rw[this];simp
 rw[e1,f];apply Nat.eq_of_testBit_eq;intro i;rw[<-Nat.shiftLeft_eq,Nat.testBit_shiftLeft,Nat.testBit_div_two_pow,BitVec.testBit_toNat,BitVec.getLsbD_and,BitVec.getLsbD_not,BitVec.getLsbD_ofNat,BitVec.getLsbD_ofNat,Nat.testBit_two_pow_sub_one];by_cases b:i<64
 ·by_cases c:i<k
  ·simp[b,c];intro d;omega
  ·simp[b,c,show k<=i by omega,show i-k+k=i by omega]
 ·have:a.testBit i=false:=Nat.testBit_lt_two_pow (ah7 e (by
    have: (4611686018427387904:Nat)=2^62:=by decide
    rw[this];exact Nat.pow_le_pow_right (by omega) (by omega)))
  by_cases c:k<=i
  ·simp[b,c,show i-k+k=i by omega,this]
  ·simp[b,c]
def ar2(f:a<4611686018427387904)(h: [1,2,4,8].contains b=true):dE .andNot (.int .i64 (a:Nat)) (.int .i64 ((b:Nat)-1))=some (.int .i64 (a/b*b:Nat)):=by
 have c: ∀k,k<=3->b=2^k->dE .andNot (.int .i64 (a:Nat)) (.int .i64 ((b:Nat)-1))=some (.int .i64 (a/b*b:Nat)):=by
  intro k d e;subst e;rw[NG];have e3:=ar1 a k f d;have g: (BitVec.ofInt IntKind.i64.bits (a:Int)&&& ~~~ (BitVec.ofInt IntKind.i64.bits ((2^k:Nat)-1:Int))).toNat=a/2^k*2^k:=e3;rw[g];have i:a/2^k*2^k<=a:=Nat.div_mul_le_self a _;rw[wrap_i64 (by omega) (by omega)]
 have:b=1\/b=2\/b=4\/b=8:=by grind
 rcases this with e|e|e|e
 ·exact c 0 (by omega) e
 ·exact c 1 (by omega) e
 ·exact c 2 (by omega) e
 ·exact c 3 (by omega) e
def ar3(h:isObj b a=true):1<=b/\b<=128/\ [1,2,4,8].contains a=true/\1<=a/\a<=8:=by
 unfold isObj at h
 grind
def xl(l:List aC)(n b a:Nat):AV:=.aA [.int .i64 ((gn l n b a).getD 0:Nat),.bool (gn l n b a).isSome]
def agB(v:AV)(n:Nat)(l:List aC)(y:n<4294967296)(o:Rv v 2 (l.map aD))(j:RB l)(c b:Nat)(s:c<2147483648)(r:b<2147483648)(H:List ae)(lo:oN):
  D X0 (.fn (.func 252) [] []) [.agg [v,.int .i64 n],.int .i64 c,.int .i64 b] ⟨H,lo⟩=some (.ret (xl l n c b) ⟨H,lo⟩):=by
 refine aK EM λN i=>?_
 have h:=KN v n l o j;have p:=j.ju;have ho:=agz c b s r;cases d:isObj c b with
 |false=>
  have e:gn l n c b=none:=by unfold gn;rw[d];rfl
  simp only[F1,go_sem,simprocAttr,EM,i,ho,d,xl,e]
 |true=>
  obtain⟨x,w,m,u,t⟩:=ar3 d;have g:D X0 (.fn (.func 288) [] [.ptr (N+1) 0]) [.int .i64 n] ⟨H++[.box [v,.int .i64 n] none,.box [.int .i64 b] none],none⟩=some (.ret (.int .i64 ((n+b-1)/b*b:Nat)) ⟨H++[.box [v,.int .i64 n] none,.box [.int .i64 b] none],none⟩):=by
   refine fi QX λM A=>?_
   have e1: (n:Int)+b-1=((n+b-1:Nat):Int):=by omega
   simp(disch:=omega) only[F1,go_sem,simprocAttr,QX,e1,ar2 (a:=n+b-1) (by omega) m]
  have z: (n+b-1)/b*b<=n+b-1:=Nat.div_mul_le_self _ _;have e:gn l n c b=if(n+b-1)/b*b+c<=aS l*32 then some ((n+b-1)/b*b)else none:=by unfold gn;rw[d];rfl
  generalize q: (n+b-1)/b*b=at' at*;by_cases k:at'+c<=aS l*32
  ·have f: ¬(at':Int)+c>aS l*32:=by omega
   rw[ac6 k]at e;simp(disch:=omega) only[F1,go_sem,simprocAttr,EM,i,ho,d,g,h,f,xl,e]
  ·have f: (at':Int)+c>aS l*32:=by omega
   rw[ac0 k]at e;simp(disch:=omega) only[F1,go_sem,simprocAttr,EM,i,ho,d,g,h,f,xl,e]
def vH(l:List aC)(n b c:Nat):Nat:=match gn l n b c with|some a=>a+b|none=>n
def agC(v:AV)(n:Nat)(l:List aC)(k:n<4294967296)(f:Rv v 2 (l.map aD))(g:RB l)(c b:Nat)(o:c<2147483648)(m:b<2147483648)(H:List ae)(lo:oN):
  D X0 (.fn (.func 254) [] []) [.agg [v,.int .i64 n],.int .i64 c,.int .i64 b] ⟨H,lo⟩=some (.ret (.aA [.agg [v,.int .i64 (vH l n c b:Nat)],.int .i64 ((gn l n c b).getD 0:Nat),.bool (gn l n c b).isSome]) ⟨H,lo⟩):=by
 refine aK JT λN i=>?_
 have h:=agB v n l k f g c b o m;have d:v.refs=0:=dy f (bL (λ_=>rfl) l);have j:=g.ju;cases e:gn l n c b with
 |none=>simp only[F1,go_sem,simprocAttr,JT,i,h,xl,e,vH,d]
 |some a=>
  have p:a<=20000000000000:=by
   unfold gn at e
   grind
  simp(disch:=omega) only[F1,go_sem,simprocAttr,JT,i,h,xl,e,vH,d,aoU]
def ar4(a b:Nat)(f:a<2147483648)(d:b<2147483648)(H:List ae)(lo:oN):
  D X0 (.fn (.func 250) [] []) [.int .i64 a,.int .i64 b] ⟨H,lo⟩=some (.ret (.aA [.int .i64 ((jX a b).getD 0:Nat),.bool (jX a b).isSome]) ⟨H,lo⟩):=by
 refine aK JS λN g=>?_
 have ho:=agz a b f d;cases c:isObj a b with
 |false=>
  have e:jX a b=none:=by unfold jX;grind
  simp(disch:=omega) only[F1,go_sem,simprocAttr,JS,ho,c,e]
 |true=>
  have e:jX a b=some ((a+31)/32):=by unfold jX;grind
  have e1: ((a:Int)+32-1).tdiv 32=(((a+31)/32:Nat):Int):=by
   rw[Int.tdiv_eq_ediv_of_nonneg (by omega)];omega
  simp(disch:=omega) only[F1,go_sem,simprocAttr,JS,ho,c,e,e1]
def ar5{H:List ae}{bytes:Nat}{ty:TypeId}{ys:List lA}(a:0<sz)(d: ∀el∈ys,el.length=sz)(b:ys≠[])(c:ys.length*bytes<=room):
  dO ⟨H,lo⟩ ty sz bytes .au ys=some (.ref H.length 0 sz 0 ys.length false,⟨H++[.row 0 sz ty ys],lo⟩):=by
 unfold dO;rw[ac6 ⟨a,by grind⟩];rw[ac0 (by grind),ac6 c];rfl
def ar6{H:List ae}{bytes:Nat}{ty:TypeId}{ys:List lA}(a:0<sz)(e: ∀el∈af,el.length=sz)(d: ∀el∈ys,el.length=sz)(b:ys≠[])(c: (af.length+ys.length)*bytes<=room):
  dO ⟨H,lo⟩ ty sz bytes (.sl af true) ys=some (.ref H.length 0 sz 0 (af.length+ys.length) false,⟨H++[.row 0 sz ty (af++ys)],lo⟩):=by
 unfold dO;rw[ac6 ⟨a,by grind⟩];simp only;rw[ac0 (by grind),ac6 ⟨c,by grind⟩];rfl
def BU(v:AV):AV:=match v with
 |.sl af _=>.sl af true
 |v=>v
def ar7(v:AV)(l:List aC)(d:Rv v 2 (l.map aD))(H:List ae)(lo:oN):
  D X0 (.fn (.func 289) [] []) [v] ⟨H,lo⟩=some (.ret (BU v) ⟨H,lo⟩):=by
 refine aK J4 λN i=>?_
 obtain⟨h,a,j⟩:=d ⟨[],none⟩;have f:=bL (g:=aD) (λ_=>rfl) l;cases v<;>simp only[]at h
 ·have b:gE 2 .au none (some (.int .i64 0)) (some (.int .i64 0))=some .au:=by rfl
  simp(disch:=omega) only[F1,go_sem,simprocAttr,J4,b,BU]
 ·rename_i af c;simp only[Den.elems]at a;split at a
  ·cases a;have e:gE 2 (.sl (l.map aD) c) none (some (.int .i64 (l.length:Nat))) (some (.int .i64 (l.length:Nat)))=some (.sl (l.map aD) true):=by
    simp[gE,gT,lO,lP,aD];exact adz (by simp)
   simp(disch:=omega) only[F1,go_sem,simprocAttr,J4,e,aeK,f,adC,BU]
  grind
 ·simp[Den.elems]at a
def ar8(v:AV)(n:Nat)(l:List aC)(k:Rv v 2 (l.map aD))(s:RB l)(r:aC)(H:List ae)(lo:oN):
  D X0 (.fn (.func 253) [] []) [.agg [v,.int .i64 n],.agg (aD r)] ⟨H,lo⟩=some (.ret (.agg [eL (l++[r]),.int .i64 (aS l*32:Nat)]) ⟨H,lo⟩):=by
 refine aK QJ λN m=>?_
 have p:=KN v n l k s;have w:=s.ju;have y:=s.1;have u:v.refs=0:=dy k (bL (λ_=>rfl) l);have z:=ar7 v l k;obtain⟨id,j⟩: ∃id,(H++[ae.box [v,.int .i64 n] none,.box (aD r) none,.box [.au,.int .i64 0] none]).length=id:=⟨_,rfl⟩;have t: ∀lo,dO ⟨H++[ae.box [v,.int .i64 n] none,.box (aD r) none,.box [.au,.int .i64 0] none],lo⟩ fF 2 16 (BU v) [aD r]=some (.ref id 0 2 0 (l.length+1) false,⟨H++[ae.box [v,.int .i64 n] none,.box (aD r) none,.box [.au,.int .i64 0] none]++[.row 0 2 fF (l.map aD++[aD r])],lo⟩):=by
  intro lo;obtain⟨A,b,B⟩:=k ⟨[],none⟩;rw[<-j];cases v<;>simp only[]at A
  ·simp only[Den.elems]at b;have:l=[]:=by
    have:=(ah8 b).symm;exact apR.1 this
   subst this;rw[show BU .au= .au from rfl,ar5 (by omega) (λel a=>by rw[aeH.1 a];rfl) (by simp) (by simp[room])];rfl
  ·simp only[Den.elems]at b;split at b
   ·cases b;rw[show ∀c,BU (.sl (l.map aD) c)= .sl (l.map aD) true fromλ_=>rfl,ar6 (by omega) (λel a=>by obtain⟨x,_,rfl⟩:=aeO.1 a;rfl) (λel a=>by rw[aeH.1 a];rfl) (by simp) (by simp[room];omega)];simp
   ·cases b
  ·simp[Den.elems]at b
 have i:id=N+3:=by rw[<-j];simp[m]
 subst i;simp(disch:=omega) only[go_sem,simprocAttr,QJ,m,z,t,p];have q:eB N (if N+1<=N then none else cO none (N+2)):=by rw[ac0 (by omega)];exact .inr ⟨N+2,by omega,rfl⟩
 have f:aP N (H++[ae.box [v,AV.int IntKind.i64 ↑n] none,ae.box (aD r) none,ae.box [AV.ref (N+3) 0 2 0 (l.length+1) false,AV.int IntKind.i64 (↑(aS l)*32)] none,ae.row 0 2 fF (List.map aD l++[aD r])]) (.ref (N+3) 0 2 0 (l.length+1) false) 2 fF (l.map aD++[aD r]):=by
  refine⟨λel a=>?_,.inr ⟨N+3,0,by omega,by simp,?_⟩⟩
  ·rcases adB.1 a with h|h
   ·obtain⟨x,_,rfl⟩:=aeO.1 h;rfl
   ·rw[aeH.1 h];rfl
  ·rw[bM m];rfl
 have o:b9 (l.map aD++[aD r])=0:=by
  have:=bL (g:=aD) (λ_=>rfl) (l++[r]);rwa[aeP]at this
 rw[uK q (Fz.agg (d:=11) (iI.cons (Fz.mono (Fz.own (d:=0) f (by rw[o];omega)) (by omega)) (iI.cons (Fz.mono (Fz.low (d:=0) (v:=.int .i64 (↑(aS l)*32)) (by simp[AV.refs])) (by omega)) iI.nil)))];refine dp ?_ (mC m);have e:eL (l++[r])= .sl (l.map aD++[aD r]) false:=by
  unfold eL;have: (l++[r]).isEmpty=false:=by cases l<;>rfl
  rw[this];simp
 rw[e,Int.natCast_mul];rfl
def KQ(l:List aC)(x:Nat):AV:=.aA [.int .i64 ((kM l 0 x).getD 0:Nat),.bool (kM l 0 x).isSome]
theorem agD(r:aC)(l:List aC)(b x:Nat):kM (r::l) b x=if b<=x/\x<b+r.2*32 then some (r.1*32+x-b)else kM l (b+r.2*32) x:=rfl
def ar9(v:AV)(n:Nat)(l:List aC)(T:Rv v 2 (l.map aD))(M:RB l)(x:Nat)(hx:x<1099511627776)(H:List ae)(lo:oN):
  D X0 (.fn (.func 176) [] []) [.agg [v,.int .i64 n],.int .i64 x] ⟨H,lo⟩=some (.ret (KQ l x) ⟨H,lo⟩):=by
 refine aK Qe λN F=>?_
 have K:v.refs=0:=dy T (bL (λ_=>rfl) l);have ha:=agx v n K (N+4) (H++[.box [v,.int .i64 n] none,.box [.int .i64 x] none,.box [.int .i64 0] none,.box [.bool false] none]) (by simp[F]) none;simp only[go_sem,simprocAttr,Qe,F,ha];refine wx (S:=Nat×Bool) (λe=>e 3= .ptr (N+1) 0/\e 4= .ptr (N+2) 0/\e 5= .ptr (N+3) 0) (by simp only[go_sem,simprocAttr]) (xk l) F [.box [v,.int .i64 n] none] (λs=>[.box [v,.int .i64 n] none,.box [.int .i64 x] none,.box [.int .i64 (s.1:Nat)] none,.box [.bool s.2] none]) (nB:=4) (λ_=>rfl) (0,false)
  (λj s=>s=(0,false)/\kM l 0 x=kM (l.drop j) (32*aS (l.take j)) x) (λex s=>ex= .ret/\kM l 0 x=some s.1/\s.2=true) rfl ?_ (by simp) ⟨rfl,by simp[aS]⟩ (λex s h=>?_) ?_ ?_ ?_
 ·exact agy v n l T M (N+4)
 ·exact⟨.ret,by rw[h.1];rfl,by rw[h.1];rfl,by rw[h.1];rfl⟩
 ·rintro e ⟨e3,I,G⟩ j y s J ⟨rfl,d⟩;have C:j<l.length:=by
   have:=(ack.1 J).1;rwa[Fl]at this
  rw[SI C]at J;cases J;have uJ:=M.2 _ (fX C);have hpg:=M.bd j;have A:=SH C;have m:l.drop j=l.getD j default::l.drop (j+1):=by
   rw[anh C,aeN,ac7 C];rfl
  rw[m,agD]at d;generalize hrg:l.getD j default=r at*;refine⟨rfl,λW n' hn hnl w=>?_⟩;simp only[go_sem,simprocAttr,iZ,hn,KM];refine⟨[.box (aD r) none],rfl,λR q E=>?_⟩;simp only[gj,gi,anj,aeS,Nat.reduceAdd]at E;obtain⟨w0,w1,k,u⟩:=E;have f1: ∀L,(R++L)[N+1]?=some (.box [.int .i64 x] none):=λL=>bm w1
  have f2: ∀L,(R++L)[N+2]?=some (.box [.int .i64 (0:Nat)] none):=λL=>bm k
  have f3: ∀L,(R++L)[N+3]?=some (.box [.bool false] none):=λL=>bm u
  by_cases X:32*aS (l.take j)<=x
  ·have g: (x:Int)>=((32*aS (l.take j):Nat):Int):=by omega
   by_cases V:x<32*aS (l.take j)+r.2*32
   ·have t: (x:Int)< ((32*aS (l.take j):Nat):Int)+r.2*32:=by omega
    rw[ac6 ⟨X,V⟩]at d;have z: (r.1:Int)*32+x- ((32*aS (l.take j):Nat):Int)=((r.1*32+x-32*aS (l.take j):Nat):Int):=by omega
    simp(disch:=omega) only[go_sem,simprocAttr,JH,e3,I,G,f1,f2,f3,q,g,t,z,adu];refine⟨(r.1*32+x-32*aS (l.take j),true),?_,by omega,λi U B=>?_,d,rfl⟩
    ·simp only[gj,gi,anj,aeS,Nat.reduceAdd];refine⟨?_,?_,?_,?_⟩
     ·rw[ach (by omega),ach (by omega)];exact bm w0
     ·rw[ach (by omega),ach (by omega)];exact f1 _
     ·rw[ach (by omega),aeI (by simp;omega)]
     ·rw[aeI (by simp;omega)]
    ·rw[ach (by omega),ach (by omega),acj (by omega)]
   ·have t: ¬(x:Int)< ((32*aS (l.take j):Nat):Int)+r.2*32:=by omega
    rw[ac0 (λh=>V h.2)]at d;simp(disch:=omega) only[go_sem,simprocAttr,JH,e3,f1,q,g,t,o5];refine⟨(0,false),?_,by omega,λi U B=>acj (by omega),rfl,?_⟩
    ·simp only[gj,gi,anj,aeS,Nat.reduceAdd];exact⟨bm w0,f1 _,f2 _,f3 _⟩
    ·rw[d,A,Nat.mul_add,Nat.mul_comm 32 r.2]
  ·have g: ¬(x:Int)>=((32*aS (l.take j):Nat):Int):=by omega
   rw[ac0 (λh=>X h.1)]at d;simp only[go_sem,simprocAttr,JH,e3,f1,q,g,o5];refine⟨(0,false),?_,by omega,λi U B=>acj (by omega),rfl,?_⟩
   ·simp only[gj,gi,anj,aeS,Nat.reduceAdd];exact⟨bm w0,f1 _,f2 _,f3 _⟩
   ·rw[d,A,Nat.mul_add,Nat.mul_comm 32 r.2]
 ·rintro e ⟨e3,I,G⟩ s W p hp ⟨rfl,d⟩ f w Q;simp only[gj,gi,anj,aeS,Nat.reduceAdd]at w;obtain⟨w0,w1,k,u⟩:=w;rw[Fl,aBB]at d;have e0:kM l 0 x=none:=d;have O: ∀a b c,(((W.set (N+2) a).set (N+3) b).set p c).take N=H:=λa b c=>(((f.set (by omega)).set (by omega)).set (by omega)).take F
  have s2:=cZ (o:=.box [.int .i64 0] none) k;have Y: ∀a b,((W.set (N+2) a).set (N+3) b)[N+3]?=some b:=λa b=>aeI (by rw[aeU];exact fy u)
  have s2: ∀a b,((W.set (N+2) a).set (N+3) b)[N+2]?=some a:=λa b=>by rw[ach (by omega)];exact cZ k
  simp(disch:=omega) only[F1,go_sem,simprocAttr,I,G,k,u,Q,nE,O,s2,Y,KQ,e0]
 ·rintro e ⟨e3,I,G⟩ ex s W p hp ⟨rfl,d,Z⟩ f w Q;simp only[gj,gi,anj,aeS,Nat.reduceAdd]at w;obtain⟨w0,w1,k,u⟩:=w;have P: ∀o,(W.set p o).take N=H:=λo=>(f.set (by omega)).take F
  simp(disch:=omega) only[F1,go_sem,simprocAttr,I,G,k,u,Q,nE,P];refine dp ?_ rfl;unfold KQ;rw[d,Z];rfl
def SJ(t:ar)(M:bS t)(T:cu t)(a b:Nat)(R:a<4294967296)(J:b<4294967296)(H:List ae)(lo:oN):
  D X0 (.fn (.func 295) [] []) [.agg (aM t),.int .u32 a,.int .u32 b] ⟨H,lo⟩=some (.ret (.bool (kJ t a b)) ⟨H,lo⟩):=by
 refine aK EV λN q=>?_
 have A: ∀h,aq t.b h=t.aq h:=λh=>rfl
 have f:=eC t.b a R;have g:=eC t.b b J;simp only[A]at f g;cases y:t.aq a
 ·rw[y]at f;simp only[F1,go_sem,simprocAttr,EV,q,f,kJ,y,agq]
 ·rw[y]at f;cases z:t.aq b
  ·rw[z]at g;simp only[F1,go_sem,simprocAttr,EV,q,f,g,kJ,y,z,agq,aph]
  ·rw[z]at g;have F:=Ss t b (N+3) (H++[.box (aM t) none,.box [.int .u32 a] none,.box [.bool (decide ((a:Int)=b))] none]) (by simp[q]) none;simp only[go_sem,simprocAttr,EV,q,f,g,F];have E:decide ((a:Int)=(b:Int))=decide (a=b):=ae0.2 (by omega);refine wx (S:=Bool) (λe=>e 4= .ptr (N+1) 0/\e 7= .ptr (N+2) 0) (by simp only[go_sem,simprocAttr]) (nF t b) q [.box (aM t) none,.box [.int .u32 b] none] (λs=>[.box (aM t) none,.box [.int .u32 a] none,.box [.bool s] none]) (nB:=3) (λ_=>rfl) (decide ((a:Int)=b)) (λj s=>s=(decide (a=b)|| ((aR t b).take j).contains a)) (λ_ _=>False) rfl ?_ (by simp) (by simp[E]) (λ_ _ h=>h.elim) ?_ ?_ ?_
   ·exact St t M T b J (N+3)
   ·rintro e ⟨G,e7⟩ j x s L V;obtain⟨u,rfl,hu⟩:=Sx L;refine⟨rfl,λW n Z P B=>?_⟩;simp only[go_sem,simprocAttr,iZ];refine⟨[],by simp,λK l w=>?_⟩;simp only[gj,gi,anj,aeS,Nat.reduceAdd]at w;obtain⟨w0,w1,m⟩:=w;have d: (decide (a=b)|| ((aR t b).take (j+1)).contains a)=(s||decide ((u:Int)=a)):=by
     rw[V,agn,hu];have:decide ((u:Int)=a)=decide (a=u):=ae0.2 (by omega);rw[this];by_cases Y:a=b<;>by_cases X:a=u<;>simp[Y,X]
    have k: ∀s',(K.set (N+2) (.box [.bool s'] none)).length=n->iJ (K.set (N+2) (.box [.bool s'] none)) N 0 [.box (aM t) none,.box [.int .u32 a] none,.box [.bool s'] none]:=λs' hl=>by
     simp only[gj,gi,anj,aeS,Nat.reduceAdd];exact⟨by rw[ach (by omega)];exact w0,by rw[ach (by omega)];exact w1,cZ m⟩
    cases s
    ·by_cases c: (u:Int)=a
     ·simp only[go_sem,simprocAttr,J7,G,e7,w1,m,agc,o5,c];exact⟨_,k _ (by rw[aeU];exact l),λi I v=>ach (by omega),by rw[d];simp[c]⟩
     ·simp only[go_sem,simprocAttr,J7,G,e7,w1,m,agc,o5,c];exact⟨_,k _ (by rw[aeU];exact l),λi I v=>ach (by omega),by rw[d];simp[c]⟩
    ·simp only[go_sem,simprocAttr,J7,e7,m,agc,o5];exact⟨_,k _ (by rw[aeU];exact l),λi I v=>ach (by omega),by rw[d];simp⟩
   ·rintro e ⟨G,e7⟩ s W p O rfl r B Q;simp only[gj,gi,anj,aeS,Nat.reduceAdd]at B;obtain⟨w0,w1,m⟩:=B;have C: ∀o,(W.set p o).take N=H:=λo=>(r.set (by omega)).take q
    simp only[F1,go_sem,simprocAttr,e7,m,Q,nE,C];rw[Sy,aeQ];refine dp (ahR _ ?_) rfl;unfold kJ;rw[y,z];rfl
   ·rintro e he ex s W p O U;exact U.elim
def sX(t:ar)(h:Nat)(r:cQ):AV:=.aA [.agg (aM (ed t h r).1),.int .i64 (ed t h r).2]
def SM(t:ar)(u:bS t)(h:Nat)(o:h<4294967296)(r:cQ)(q:RB r.runs)(s:r.runs.length<=65)(k:r.len<4294967296)(H:List ae)(lo:oN):
  D X0 (.fn (.func 290) [] []) [.agg (aM t),.int .u32 h,.agg (b8 r)] ⟨H,lo⟩=some (.ret (sX t h r) ⟨H,lo⟩):=by
 refine aK BA λN i=>?_
 have n:=vu h;have l: (aI h:Int)<32:=by omega
 have p:jo h= .aA [.int .i64 (aI h:Nat),.bool (eX h).isSome]:=rfl;have a:=eC t.b h o;have m:aq t.b h=t.aq h:=rfl;simp only[m]at a;have hm:=agA (eL r.runs) r.len r.runs k (nh _) q s;have d:ed t h r=if t.aq h=false then(t,4)else if 64<r.cF\/ma r.runs r.len=false then(t,2)else({t with r:=ai t.r (aI h) {r with up:=(t.r (aI h)).up}},0):=rfl
 cases g:t.aq h with
 |false=>
  rw[g]at a;have e:ed t h r=(t,4):=by rw[d,ac6 g]
  simp only[F1,go_sem,simprocAttr,BA,i,a,df,sX,e]
 |true=>
  rw[g]at a;rw[ac0 (by rw[g];simp)]at d;have j:=zp r.cF;by_cases f:r.cF<=64
  ·have c:decide (r.cF<=64)=true:=ady f;cases b:ma r.runs r.len with
   |false=>
    rw[ac6 (.inr b)]at d;simp only[F1,go_sem,simprocAttr,BA,i,a,df,j,c,hm,b,sX,d]
   |true=>
    rw[ac0 (by rw[b];simp;omega)]at d;simp only[F1,go_sem,simprocAttr,BA,i,a,df,j,c,hm,b,sX,d,kg h o,p,l,RP n,aqo,Ko n];omega
  ·have c:decide (r.cF<=64)=false:=adb f;rw[ac6 (.inl (by omega))]at d;simp only[F1,go_sem,simprocAttr,BA,i,a,df,j,c,sX,d]
def vI(t:ar)(h u:Nat):AV:=.aA [.agg (aM (jB t h u).1),.int .i64 (jB t h u).2]
def agE(t:ar)(Z:bS t)(hT:cu t)(h w:Nat)(S:h<4294967296)(Y:w<4294967296)(H:List ae)(lo:oN):
  D X0 (.fn (.func 297) [] []) [.agg (aM t),.int .u32 h,.int .u32 w] ⟨H,lo⟩=some (.ret (vI t h w) ⟨H,lo⟩):=by
 refine aK BB λN F=>?_
 have X:=vu h;have B: (aI h:Int)<32:=by omega
 have W:jo h= .aA [.int .i64 (aI h:Nat),.bool (eX h).isSome]:=rfl;have b:=eC t.b h S;have g:=eC t.b w Y;have T: ∀h,aq t.b h=t.aq h:=λh=>rfl
 simp only[T]at b g;have j:jB t h w=if t.aq h=false\/ (w≠0/\t.aq w=false)then(t,4)else if w≠0/\h∈w::aR t w then(t,12)else({t with r:=ai t.r (aI h) {t.r (aI h)with up:=w}},0):=rfl
 cases E:t.aq h with
 |false=>
  rw[E]at b;rw[ac6 (.inl E)]at j;simp only[F1,go_sem,simprocAttr,BB,F,b,df,vI,j]
 |true=>
  rw[E]at b;by_cases c:w≠0/\t.aq w=false
  ·rw[ac6 (.inr c)]at j;rw[c.2]at g;have y: ¬(w:Int)=0:=by omega
   simp only[F1,go_sem,simprocAttr,BB,F,b,g,y,df,vI,j]
  ·rw[ac0 (by rw[E];simpa using c)]at j;have i:w=0\/ (¬(w:Int)=0/\t.aq w=true):=by
    by_cases l:w=0
    ·exact .inl l
    ·refine .inr ⟨by omega,?_⟩;cases I:t.aq w
     ·exact absurd ⟨l,I⟩ c
     ·rfl
   obtain⟨L,V⟩: ∃L,L=if w=0 then[]else w::aR t w:=⟨_,rfl⟩
   have o: (w≠0/\h∈w::aR t w)↔h∈L:=by
    rw[V];by_cases l:w=0
    ·simp[l]
    ·rw[ac0 l];exact⟨λq=>q.2,λq=>⟨l,q⟩⟩
   have key: ∀Q:bY,(∀e:Env,e 1= .int .u32 h->e 2= .int .u32 w->e 3= .ptr N 0->e 6= .ptr (N+1) 0->h∉L->Q (.exit 0) ⟨e,[]⟩ ⟨H++[.box (aM t) none,.box k9 none],none⟩)->
     (∀e:Env,e 6= .ptr (N+1) 0->e 7= .int .i64 12->h∈L->Q .ret ⟨e,[]⟩ ⟨H++[.box (aM t) none,.box (aM t) none],none⟩)->
     ∀e:Env,e 1= .int .u32 h/\e 2= .int .u32 w/\e 3= .ptr N 0/\e 6= .ptr (N+1) 0/\e 8= .int .u32 w->wp X0 297 false (PC.loop EW) ⟨e,[]⟩ ⟨H++[.box (aM t) none,.box k9 none],none⟩ Q:=by
    rintro Q I hr e ⟨e1,p,e3,e6,e8⟩;refine fE L.length (λk e H'=>H'=H++[.box (aM t) none,.box k9 none]/\e 1= .int .u32 h/\e 2= .int .u32 w/\e 3= .ptr N 0/\e 6= .ptr (N+1) 0/\ ∃x,e 8= .int .u32 (x:Nat)/\ (if x=0 then[]else x::aR t x)=L.drop k/\ (x≠0->t.aq x=true)/\h∉L.take k) 0 (by omega) ?_ ?_
    ·refine⟨rfl,e1,p,e3,e6,w,e8,by rw[V];simp,λl=>?_,by simp⟩;rcases i with rfl|q
     ·exact absurd rfl l
     ·exact q.2
    rintro k hk e H' ⟨rfl,e1,p,e3,e6,x,e8,z,m,a⟩ n hn;by_cases s:x=0
    ·subst s;have P:L.take k=L:=by
      have:=ahR List.length z;rw[ac6 rfl,am7]at this;exact adz (by simp at this;omega)
     rw[P]at a;simp only[go_sem,simprocAttr,EW,e8];exact I _ (by simp only[go_sem,simprocAttr,e1]) (by simp only[go_sem,simprocAttr,p]) (by simp only[go_sem,simprocAttr,e3]) (by simp only[go_sem,simprocAttr,e6]) a
    ·have A: ¬(x:Int)=0:=by omega
     have m:=m s;rw[ac0 s]at z;have O:k<L.length:=by
      have:=ahR List.length z;rw[am7,aeV]at this;omega
     have M:L.take (k+1)=L.take k++[x]:=by
      rw[agn];have:L[k]?=(L.drop k)[0]?:=by rw[aki];rfl
      rw[this,<-z];rfl
     by_cases G:x=h
     ·have f: (x:Int)=h:=by omega
      have d:h∈L:=by
       rw[<-aoX k L,<-z,G];simp
      have R: ¬(h:Int)=0:=by omega
      simp(disch:=omega) only[go_sem,simprocAttr,EW,e1,e3,e6,e8,f,R,df];exact hr _ (by simp only[go_sem,simprocAttr,e6]) (by simp only[go_sem,simprocAttr]) d
     ·have f: ¬(x:Int)=h:=by omega
      have J:=afV t Z x (gl m);have v:bD t x=iO t (aI x):=by unfold bD;rw[ac6 m]
      have U:=pL hT x;simp(disch:=omega) only[go_sem,simprocAttr,EW,e1,p,e3,e6,e8,A,f,J];refine⟨O,iO t (aI x),rfl,?_,λl=>?_,?_⟩
      ·rw[<-v,<-ape,<-z,asR,aoT,U]
      ·exact(E8 (by rw[v];exact l)).1 ▸ (by rw[v])
      ·rw[M];simp[a];omega
   rcases i with rfl| ⟨y,C⟩
   ·rw[ac0 (by simp)]at j;simp only[go_sem,simprocAttr,BB,F,b];refine key _ ?_ ?_ _ (by simp only[go_sem,simprocAttr])
    ·intro e e1 p e3 e6 _;have K:aN (aM t) (96+aI h*12) [.int .u32 0]=aM {t with r:=ai t.r (aI h) {t.r (aI h)with up:=0}}:=afm (u:=0) X;simp(disch:=omega) only[F1,go_sem,simprocAttr,e1,p,e3,e6,kg h S,W,B,K,df,vI,j];omega
    ·intro e e6 e7 d;rw[V]at d;simp at d
   ·rw[C]at g;simp only[go_sem,simprocAttr,BB,F,b,g,y];refine key _ ?_ ?_ _ (by simp only[go_sem,simprocAttr])
    ·intro e e1 p e3 e6 a;rw[ac0 (λq=>a (o.1 q))]at j;simp(disch:=omega) only[F1,go_sem,simprocAttr,e1,p,e3,e6,kg h S,W,B,afm X,df,vI,j];omega
    ·intro e e6 e7 d;rw[ac6 (o.2 d)]at j;simp(disch:=omega) only[F1,go_sem,simprocAttr,e6,e7,vI,j]
def zx(t:ar)(a n:Nat):AV:=.aA [.agg (aM (eZ t a n).1),.int .u32 (eZ t a n).2.1,.int .i64 (eZ t a n).2.2]
def asb(t:ar)(k:bS t)(m:cu t)(a n:Nat)(j:a<4294967296)(H:List ae)(lo:oN):
  D X0 (.fn (.func 247) [] []) [.agg (aM t),.int .u32 a,.int .i64 n] ⟨H,lo⟩=some (.ret (zx t a n) ⟨H,lo⟩):=by
 refine aK y9 λN f=>?_
 have e:=aqT t k a n j;have g:=KF t k m a j;have d:eZ t a n=if((kf t a n).2.2=0\/ (kf t a n).2.2=7)/\6<=depth t a then(t,0,8)else kf t a n:=rfl
 by_cases i: (kf t a n).2.2=0\/ (kf t a n).2.2=7
 ·by_cases l:6<=depth t a
  ·rw[ac6 ⟨i,l⟩]at d;have b: (depth t a:Int)>=6:=by omega
   rcases i with c|c
   ·simp only[F1,go_sem,simprocAttr,y9,f,e,zq,c,g,b,df,zx,d]
   ·simp only[F1,go_sem,simprocAttr,y9,f,e,zq,c,g,b,df,zx,d]
  ·rw[ac0 (λh=>l h.2)]at d;have b: ¬(depth t a:Int)>=6:=by omega
   rcases i with c|c
   ·simp only[F1,go_sem,simprocAttr,y9,f,e,zq,c,g,b,df,zx,d]
   ·simp only[F1,go_sem,simprocAttr,y9,f,e,zq,c,g,b,df,zx,d]
 ·rw[ac0 (λh=>i h.1)]at d;have p: ¬((kf t a n).2.2:Int)=0:=by omega
  have o: ¬((kf t a n).2.2:Int)=7:=by omega
  simp only[F1,go_sem,simprocAttr,y9,f,e,zq,p,o,df,zx,d]
theorem agF:Ext X4 X where
 dS:=rfl
 gu:=rfl
 code:=rfl
 cg:=λf=>by
  show(if f=56 then some mh else if f=19 then some mi else if f=193 then some pW else if f=190 then some rE else if f=188 then some xj else if f=182 then some zv else if f=167 then some BT else none)=(if f=56 then some mh else if f=19 then some mi else if f=193 then some pW else if f=190 then some rE else none)\/_;by_cases i:f=56
  ·grind
  by_cases h:f=19
  ·grind
  by_cases d:f=193
  ·grind
  by_cases c:f=190
  ·grind
  by_cases j:kL.contains f=true
  ·right
   refine⟨?_,?_⟩
   ·show(if f=56 then some mh else if f=19 then some mi else if f=193 then some pW else if f=190 then some rE else none)=none
    grind
   ·show(if kL.contains f then none else zb.lookup f)=none
    grind
  ·left
   have a:kL.contains f=false:=by grind
   have e: ∀g,kL.contains g=true->f≠g:=λg b=>iS a b
   simp only[ac0 i,ac0 h,ac0 d,ac0 c,ac0 (e 188 rfl),ac0 (e 182 rfl),ac0 (e 167 rfl)]
theorem SN: ∀ {l:List aC},(∀x∈l,1<=x.2)->l.length<=aS l
 | [],_=>by simp
 |x::xs,h=>by
  have c:=h x (aeX ..);have b:=SN (l:=xs) λy a=>h y (aeR _ a)
  simp only[aS,aj9,List.sum_cons,aeV]at b⊢;omega
def gM.rb{r:cQ}(h:gM r):RB r.runs/\r.runs.length<=64:=by
 have c:=SN λx a=>(h.runs x a).1
 have b:=h.aS;refine⟨⟨by omega,λx a=>?_⟩,by omega⟩;have:=h.runs x a;omega
def gM.KR{r:cQ}(h:gM r)(a:x<4294967296):gM {r with up:=x}:=⟨a,h.cF,h.len,h.cells,h.runs,h.aS⟩
def gM.setCells{r:cQ}(h:gM r){f:Nat->Nat}(a: ∀i,f i<4294967296):gM {r with cells:=f}:=⟨h.up,h.cF,h.len,a,h.runs,h.aS⟩
def BV:gM cY:=⟨by trivial,by trivial,by trivial,by simp[cY],by trivial,by trivial⟩
def bS.get{t:ar}(a:bS t)(h:Nat):gM (aE t h).1:=by
 unfold aE;split
 ·exact(a.r _).KR afN
 ·exact BV
theorem bS.ai{t:ar}(a:bS t){i:Nat}{r:cQ}(b:gM r):bS {t with r:=ai t.r i r}:=⟨a.b,λj=>by
 show gM (Go.Proofs.YteplichagkpciaaGreatDoor.ai t.r i r j);by_cases e:j=i
 ·rw[e,bI];exact b
 ·rw[bA e];exact a.r j⟩
def bS.set{t:ar}(a:bS t){r:cQ}(b:gM r):bS (ed t h r).1:=by
 unfold ed;split
 ·omega
 ·split
  ·omega
  ·exact a.ai (b.KR (a.r _).up)
def bS.raise{t:ar}(a:bS t)(b:x<4294967296):bS (jB t h x).1:=by
 unfold jB;split
 ·omega
 ·split
  ·omega
  ·exact a.ai ((a.r _).KR b)
def iT(t t':ar):Prop:=t'.b=t.b/\ ∀i,(t'.r i).up=(t.r i).up
theorem iT.refl(t:ar):iT t t:=⟨rfl,λ_=>rfl⟩
theorem iT.trans{a b c:ar}(e:iT a b)(d:iT b c):iT a c:=⟨d.1.trans e.1,λi=>(d.2 i).trans (e.2 i)⟩
theorem iT.aq{t t':ar}(h:iT t t')(x:Nat):t'.aq x=t.aq x:=by unfold ar.aq;rw[h.1]
theorem iT.bD{t t':ar}(h:iT t t')(x:Nat):bD t' x=Go.Proofs.YteplichagkpciaaGreatDoor.bD t x:=by
 unfold Go.Proofs.YteplichagkpciaaGreatDoor.bD iO;simp only[h.aq,h.2]
theorem iT.eO{t t':ar}(h:iT t t'): ∀n x,eO t' n x=Go.Proofs.YteplichagkpciaaGreatDoor.eO t n x
 |0,_=>rfl
 |n+1,x=>by simp only[Go.Proofs.YteplichagkpciaaGreatDoor.eO,h.bD,h.eO n]
theorem iT.aR{t t':ar}(h:iT t t')(x:Nat):aR t' x=Go.Proofs.YteplichagkpciaaGreatDoor.aR t x:=h.eO 32 x
def iT.tree{t t':ar}(h:iT t t')(a:cu t):cu t':=λx=>by rw[h.aR];exact a x
def iT.set(t:ar)(h:Nat)(r:cQ):iT t (ed t h r).1:=by
 unfold ed;split
 ·exact .refl t
 ·split
  ·exact .refl t
  ·refine⟨rfl,λi=>?_⟩;show(ai t.r (aI h) _ i).up=_;by_cases e:i=aI h
   ·rw[e,bI]
   ·rw[bA e]
def asc{t:ar}(c:cu t)(a:x∈de t h):dep t h<=dep t x:=by
 have key: ∀n h,x∈iP t n h->dep t h<=dep t x:=by
  intro n
  induction n with
  |zero=>intro h a;rw[iP,aeH]at a;grind
  |succ n b=>
   intro h a;rcases aeZ.1 a with rfl|a
   ·simp
   ·grind [BK]
 exact key 32 h a
def SO{t:ar}(a:t.aq h=true):depth t h=1+dep t h:=by unfold depth;rw[ac6 a];rfl
def asd{t0 t:ar}(a:bS t)(h x:Nat):bS (vo t0 h t x):=by
 refine a.set (gM.setCells (a.get x) λi=>?_);have:=(a.get x).cells i
 grind
def ase(t0 t:ar)(h x:Nat):iT t (vo t0 h t x):=iT.set _ _ _
def xm(t0:ar)(h:Nat)(t:ar)(l:lN):ar:=l.foldl (vo t0 h) t
def SP{t0 t:ar}(a:bS t)(h:Nat): ∀l,bS (xm t0 h t l):=by
 intro l
 induction l generalizing t with
 |nil=>exact a
 |cons x xs b=>exact b (asd a h x)
theorem KT(t0:ar)(h:Nat): ∀ (l:lN) (t:ar),iT t (xm t0 h t l)
 | [],t=>.refl t
 |x::xs,t=>(ase t0 t h x).trans (KT t0 h xs _)
def asf{t0 t:ar}{l:lN}{k:Nat}(a:l[k]?=some x):xm t0 h t (l.take (k+1))=vo t0 h (xm t0 h t (l.take k)) x:=by
 unfold xm;rw[agn,a,ang];rfl
theorem KU(t:ar)(h:Nat):iA t h=if t.aq h=false then(t,4)else jB (xm t h t (de t h)) h 0:=rfl
def agG{t:ar}{x:lA}(a: (rG t h)[j]?=some x): ∃y,x=[.int .u32 (y:Nat)]/\ (de t h)[j]?=some y:=by
 unfold rG at a;rw[agp,aeL]at a;obtain⟨y,b,rfl⟩:=a;exact⟨y,rfl,b⟩
def asg{t:ar}(a:cu t)(h:Nat):depth t h<=6:=by
 unfold depth;split
 ·have:=a h;omega
 ·omega
theorem agH{f:Nat->Nat}{c:Nat}: ∀ (l:lN) (s:Nat),(∀x∈l,f x<=c)->s<=c->l.foldl (λn x=>max n (f x)) s<=c
 | [],s,_,a=>a
 |x::xs,s,d,a=>agH xs _ (λy b=>d y (aeR _ b)) (by grind)
def ash{t:ar}(a:cu t)(h:Nat):sK t h<=7:=by
 exact agH (f:=λx=>depth t x-depth t h+1) _ _ (λx _=>by have:=asg a x;omega) (by omega)
def asi(t:ar)(m:bS t)(k:cu t)(h:Nat)(a:t.aq h=true)(H:List ae)(lo:oN):
  D X (.fn (.func 296) [] []) [.agg (aM t),.int .u32 h] ⟨H,lo⟩=some (.ret (.int .i64 (sK t h:Nat)) ⟨H,lo⟩):=by
 refine aK Q0 λN q=>?_
 have K:=up dH (SB t h (N+3) (H++[.box (aM t) none,.box [.int .u32 h] none,.box [.int .i64 0] none]) (by simp[q]) none);simp only[go_sem,simprocAttr,Q0,q,K];refine wx (S:=Nat) (λe=>e 2= .ptr N 0/\e 3= .ptr (N+1) 0/\e 5= .ptr (N+2) 0) (by simp only[go_sem,simprocAttr]) (rG t h) q [.box (aM t) none,.box [.int .u32 h] none] (λs=>[.box (aM t) none,.box [.int .u32 h] none,.box [.int .i64 (s:Nat)] none]) (nB:=3) (λ_=>rfl) 0
  (λj s=>s=((de t h).take j).foldl (λn x=>max n (depth t x-depth t h+1)) 0/\s<=100) (λ_ _=>False) rfl ?_ (by simp) ⟨rfl,by omega⟩ (λ_ _ h=>h.elim) ?_ ?_ ?_
 ·exact SD agF t m k h a (N+3)
 ·rintro e ⟨A,e3,w⟩ j x s B ⟨E,C⟩;obtain⟨y,rfl,z⟩:=agG B;have c:y∈de t h:=amF z;have f:=zk m.b a c;have I:=asc k c;have M:=k y;have U:=SO f;have T:=SO a;have R:dep t y<=5:=M;have b:=λH lo=>up dH (KF t m k y (gl f) H lo)
  have v:=λH lo=>up dH (KF t m k h (gl a) H lo)
  refine⟨rfl,λW n P F u=>?_⟩;simp only[go_sem,simprocAttr,iZ];refine⟨[],by simp,λV L g=>?_⟩;simp only[gj,gi,anj,aeS,Nat.reduceAdd]at g;obtain⟨w0,w1,l⟩:=g;have r:max (s:Int) ((depth t y:Int)-depth t h+1)=((max s (depth t y-depth t h+1):Nat):Int):=by omega
  simp(disch:=omega) only[go_sem,simprocAttr,aew,A,e3,w,w0,w1,l,b,v,NI,NH,r,o5];refine⟨max s (depth t y-depth t h+1),?_,λi Q G=>ach (by omega),?_,?_⟩
  ·simp only[gj,gi,anj,aeS,Nat.reduceAdd];exact⟨by rw[ach (by omega)];exact w0,by rw[ach (by omega)];exact w1,cZ l⟩
  ·rw[agn,z,ang,<-E];rfl
  ·omega
 ·rintro e ⟨A,e3,w⟩ s W p O ⟨rfl,_⟩ d u J;simp only[gj,gi,anj,aeS,Nat.reduceAdd]at u;obtain⟨w0,w1,l⟩:=u;have b: ∀o,(W.set p o).take N=H:=λo=>(d.set (by omega)).take q
  simp only[F1,go_sem,simprocAttr,w,l,J,nE,b];rw[SC,aeQ];rfl
 grind
def xn(t:ar)(h w:Nat):AV:=.aA [.agg (aM (mQ t h w).1),.int .i64 (mQ t h w).2]
def asj(t:ar)(k:bS t)(f:cu t)(h w:Nat)(q:h<4294967296)(p:w<4294967296)(H:List ae)(lo:oN):
  D X (.fn (.func 261) [] []) [.agg (aM t),.int .u32 h,.int .u32 w] ⟨H,lo⟩=some (.ret (xn t h w) ⟨H,lo⟩):=by
 refine aK wT λN i=>?_
 have a:=λH lo=>up dH (eC t.b h q H lo)
 have b:=λH lo=>up dH (eC t.b w p H lo)
 have v: ∀h,aq t.b h=t.aq h:=λh=>rfl
 simp only[v]at a b;have c:mQ t h w=if t.aq h=false\/t.aq w=false then(t,4)else if root t h≠h\/kJ t h w then(t,12)else if 6<depth t w+sK t h then(t,8)else jB t h w:=rfl
 have d:=λH lo=>up dH (zu t k f h q H lo)
 have e:=λH lo=>up dH (SJ t k f h w q p H lo)
 have l:=λH lo=>up dH (KF t k f w p H lo)
 have u:=λH lo=>up dH (agE t k f h w q p H lo)
 cases n:t.aq h with
 |false=>
  rw[n]at a;rw[ac6 (.inl n)]at c;simp only[F1,go_sem,simprocAttr,wT,i,a,df,xn,c]
 |true=>
  rw[n]at a;have j:=asi t k f h n;cases m:t.aq w with
  |false=>
   rw[m]at b;rw[ac6 (.inr m)]at c;simp only[F1,go_sem,simprocAttr,wT,i,a,b,df,xn,c]
  |true=>
   rw[m]at b;rw[ac0 (by rw[n,m];simp)]at c;by_cases s:root t h=h
   ·have o: ((root t h:Nat):Int)=(h:Nat):=by omega
    cases r:kJ t h w with
    |true=>
     rw[ac6 (.inr r)]at c;rw[r]at e;rw[s]at d;simp only[F1,go_sem,simprocAttr,wT,i,a,b,d,e,df,xn,c]
    |false=>
     rw[ac0 (by rw[r];simp[s])]at c;rw[r]at e;rw[s]at d;have y:sK t h<=7:=ash f h;have z:depth t w<=100:=by
      have:=f w;rw[SO m];show 1+(aR t w).length<=100;omega
     by_cases x:6<depth t w+sK t h
     ·have g: (depth t w:Int)+sK t h>6:=by omega
      rw[ac6 x]at c;simp(disch:=omega) only[F1,go_sem,simprocAttr,wT,i,a,b,d,e,l,j,g,df,xn,c]
     ·have g: ¬(depth t w:Int)+sK t h>6:=by omega
      rw[ac0 x]at c;simp(disch:=omega) only[F1,go_sem,simprocAttr,wT,i,a,b,d,e,l,j,g,u,vI,df,xn,c]
   ·have o: ¬((root t h:Nat):Int)=(h:Nat):=by omega
    rw[ac6 (.inl s)]at c;simp only[F1,go_sem,simprocAttr,wT,i,a,b,d,o,df,xn,c]
def vJ(t:ar)(h c:Nat):Bool:=decide (c≠h)&&kJ t c h
def asl(t:ar)(i:bS t)(l:cu t)(h c:Nat)(j:h<4294967296)(k:c<4294967296)(g f:Nat)(H:List ae)(b:H[f]?=some (.box (aM t) none))(a:H[g]?=some (.box [.int .u32 h] none))(lo:oN):
  D X (.fn (.func 326) [] [.ptr g 0,.ptr f 0]) [.int .u32 c] ⟨H,lo⟩=some (.ret (.bool (vJ t h c)) ⟨H,lo⟩):=by
 refine fi Kc λN n=>?_
 have d:=λH lo=>up dH (SJ t i l c h k j H lo)
 by_cases e:c=h
 ·simp(disch:=omega) only[F1,go_sem,simprocAttr,Kc,a,vJ,e,not_true,dF,agq]
 ·have m: ¬(c:Int)=h:=by omega
  simp(disch:=omega) only[F1,go_sem,simprocAttr,Kc,b,a,m,d,vJ,e]
def sY(t:ar)(h:Nat)(f:Nat->Nat)(k:Nat):Nat->Nat:=λi=>if i<k/\vJ t h (f i)=true then 0 else f i
theorem Fp{t:ar}{f:Nat->Nat}{k:Nat}:sY t h f k i=if i<k/\vJ t h (f i)=true then 0 else f i:=rfl
def asm(t:ar)(h:Nat)(f:Nat->Nat)(k:Nat):sY t h f (k+1)=if vJ t h (f k)=true then ai (sY t h f k) k 0 else sY t h f k:=by
 funext i
 by_cases a:vJ t h (f k)=true
 ·by_cases e:i=k
  ·simp_all[bI,Fp,ac6]
  ·grind [bA,Fp]
 ·rw[ac0 a,Fp,Fp]
  grind
def asn(t:ar)(h:Nat)(r:cQ):b8 {r with cells:=sY t h r.cells 8}=b8 {r with cells:=λi=>if r.cells i≠h/\kJ t (r.cells i) h then 0 else r.cells i}:=by
 refine afb (E2 λi a=>?_);simp only[sY,vJ,a,aA4]
 grind
def KV(t:ar)(h:Nat):AV:=.aA [.agg (aM (iA t h).1),.int .i64 (iA t h).2]
def aso(t:ar)(I:bS t)(hT:cu t)(h:Nat)(hh:h<4294967296)(H:List ae)(lo:oN):
  D X (.fn (.func 294) [] []) [.agg (aM t),.int .u32 h] ⟨H,lo⟩=some (.ret (KV t h) ⟨H,lo⟩):=by
 refine aK J6 λN U=>?_
 have q:=λH lo=>up dH (eC t.b h hh H lo)
 have hgg: ∀h,aq t.b h=t.aq h:=λh=>rfl
 simp only[hgg]at q;cases d:t.aq h with
 |false=>
  rw[d]at q;have Z:iA t h=(t,4):=by rw[KU,ac6 d]
  simp only[F1,go_sem,simprocAttr,J6,U,q,df,KV,Z]
 |true=>
  rw[d]at q;have Z:iA t h=jB (xm t h t (de t h)) h 0:=by rw[KU,ac0 (by rw[d];simp)]
  have ha:=up dH (SB t h (N+5) (H++[.box (aM t) none,.box [.int .u32 h] none,.box k9 none,.box [.fn (.func 326) [] [.ptr (N+1) 0,.ptr N 0]] none,.box (aM t) none]) (by simp[U]) none);have hmx:max (N+1+1) (N+1)<=N+3+1:=by omega
  simp only[go_sem,simprocAttr,J6,U,q,df,ha,hmx];refine wx (S:=ar) (λe=>e 3= .ptr (N+1) 0/\e 4= .ptr (N+2) 0/\e 6= .ptr (N+3) 0/\e 7= .ptr (N+4) 0) (by simp only[go_sem,simprocAttr]) (rG t h) U [.box (aM t) none,.box [.int .u32 h] none] (λs=>[.box (aM t) none,.box [.int .u32 h] none,.box k9 none,.box [.fn (.func 326) [] [.ptr (N+1) 0,.ptr N 0]] none,.box (aM s) none]) (nB:=5) (λ_=>rfl) t
   (λj s=>s=xm t h t ((de t h).take j)) (λ_ _=>False) rfl ?_ (by simp) rfl (λ_ _ h=>h.elim) ?_ ?_ ?_
  ·exact SD agF t I hT h d (N+5)
  ·rintro e ⟨e3,e4,e6,e7⟩ j x s hx A;obtain⟨y,rfl,hy⟩:=agG hx;have hym:y∈de t h:=amF hy;have P:=zk I.b d hym;have J:=asf (t0:=t) (t:=t) (h:=h) hy;have b:bS s:=by rw[A];exact SP I h _
   rw[<-A]at J;have Q:=λH lo=>up dH (vF s b y (gl P) H lo)
   have B:=b.get y;have c:vo t h s y=(ed s y {(aE s y).1 with cells:=λi=>if(aE s y).1.cells i≠h/\kJ t ((aE s y).1.cells i) h then 0 else(aE s y).1.cells i}).1:=rfl;generalize hr: (aE s y).1=r at*;have g:gM {r with cells:=λi=>if r.cells i≠h/\kJ t (r.cells i) h then 0 else r.cells i}:=gM.setCells B λi=>by
    have:=B.cells i;show(if _ then _ else _)<_;split<;>omega
   have K:=λH lo=>up dH (SM s b y (gl P) _ g.rb.1 (by have:=g.rb.2;omega) (by have:=g.len;omega) H lo)
   refine⟨rfl,λW n hn hnl hg=>?_⟩;simp only[go_sem,simprocAttr,iZ];refine⟨[],by simp,λG T R=>?_⟩;simp only[gj,gi,anj,aeS,Nat.reduceAdd]at R;obtain⟨w0,w1,Y,w3,V⟩:=R;have f0: ∀L,(G++L)[N]?=_:=λL=>bm w0
   have f1: ∀L,(G++L)[N+1]?=_:=λL=>bm w1
   have f3: ∀L,(G++L)[N+3]?=_:=λL=>bm w3
   have f4: ∀L,(G++L)[N+4]?=_:=λL=>bm V
   have hpc:Den.part true 8 (b8 r) 4=_:=Kn (r:=r);simp only[go_sem,simprocAttr,aev,e7,V,Q,nD,hr,kQ,T,hpc,agc];refine fE 8 (λk C H'=>H'=G++[.box (b8 {r with cells:=sY t h r.cells k}) none]/\C 6= .ptr (N+3) 0/\C 7= .ptr (N+4) 0/\C 8= .int .u32 y/\C 9= .ptr n 0/\C 33= .agg (arr 8 λi=>[.int .u32 (r.cells i)])/\C 34= .int .i64 k) 0 (by omega) ?_ ?_
   ·simp only[go_sem,simprocAttr,e6,e7];have:sY t h r.cells 0=r.cells:=by funext i;rw[Fp,ac0 (by omega)]
    rw[this]
   ·rintro k hk C H' ⟨rfl,a6,a7,a8,a9,F,E⟩ n' GC;simp only[cm,go_sem,simprocAttr,aeu,a7,F,E];refine⟨λhc=>?_,λhc=>?_⟩
    ·have l:k<8:=by omega
     have w:qu false 8 1 (.agg (arr 8 λi=>[AV.int .u32 (r.cells i)])) (.int .i64 (k:Nat))=some (.int .u32 (r.cells k)):=
      RF l (by have:=lq (ag:=false) (m:=1) (n:=8) (k:=1) (i:=k) (o:=0) (f:=λi=>[AV.int .u32 (r.cells i)]) (λ_=>rfl) l (by omega) (by omega);rw[aeS]at this;rw[this];rfl)
     have v:=asl t I hT h (r.cells k) hh (B.cells k) (N+1) N (G++[.box (b8 {r with cells:=sY t h r.cells k}) none]) (f0 _) (f1 _) none;have c:=asm t h r.cells k;cases ho:vJ t h (r.cells k)
     ·rw[ho]at c v;rw[ac0 (by simp)]at c;simp(disch:=omega) only[go_sem,simprocAttr,a6,a7,a8,a9,F,E,w,f3,v];rw[c];exact⟨l,rfl⟩
     ·rw[ho]at c v;rw[ac6 rfl]at c;simp(disch:=omega) only[go_sem,simprocAttr,a6,a7,a8,a9,F,E,w,f3,v];have hsp:=afn (r:={r with cells:=sY t h r.cells k}) (u:=0) l;rw[c];exact⟨by omega,by omega,l,ahR (λz=>G++[ae.box z none]) hsp⟩
    ·obtain rfl:k=8:=by omega
     have SQ:=asn t h r;simp only[go_sem,simprocAttr,a7,a8,a9,f4,SQ,K,sX,o5,T];have ic:List.drop 480 (aM s)=[]:=ahz (by rw[ji];omega);rw[ic,agc];refine⟨vo t h s y,?_,by omega,λi hi GS=>?_,J.symm⟩
     ·simp only[gj,gi,anj,aeS,Nat.reduceAdd];refine⟨?_,?_,?_,?_,?_⟩
      ·rw[ach (by omega)];exact f0 _
      ·rw[ach (by omega)];exact f1 _
      ·rw[ach (by omega)];exact bm Y
      ·rw[ach (by omega)];exact f3 _
      ·rw[c];exact cZ (f4 _)
     ·rw[ach (by omega),acj (by omega)]
  ·rintro e ⟨e3,e4,e6,e7⟩ s W p hp A O hg hd;simp only[gj,gi,anj,aeS,Nat.reduceAdd]at hg;obtain⟨w0,w1,Y,w3,V⟩:=hg;rw[SC,aeQ]at A;have b:bS s:=by rw[A];exact SP I h _
   have hsT:cu s:=by rw[A];exact(KT t h _ t).tree hT
   have SE:=λH lo=>up dH (agE s b hsT h 0 hh (by omega) H lo)
   rw[<-A]at Z;have N0: ∀a o,((W.set (N+2) a).set p o).take N=H:=λa o=>((O.set (by omega)).set (by omega)).take U
   have M: ∀H lo,D X (.fn (.func 297) [] []) [.agg (aM s),.int .u32 h,.int .u32 0] ⟨H,lo⟩=some (.ret (vI s h 0) ⟨H,lo⟩):=SE;simp(disch:=omega) only[F1,go_sem,simprocAttr,e3,e4,e7,w1,Y,V,M,vI,hd,nE,N0,df,cZ Y,KV,Z]
  ·rintro e he ex s W p hp hJ;exact hJ.elim
structure xo(x:Ow):Prop where
 kind:x.kind<256
 aa:x.aa<256
 hold:x.hold<256
structure gr(o:bP):Prop where
 root: ∀i,(o i).root<4294967296
 own: ∀i,xo (o i).own
def SR:xo vq:=⟨by trivial,by trivial,by trivial⟩
def gr.of{o:bP}(ho:gr o)(t:ar)(h:Nat):xo (bH o t h):=by
 unfold bH;split
 ·split
  ·exact ho.own _
  ·exact SR
 ·exact SR
def gr.KW{o:bP}(ho:gr o){t:ar}{r:Nat}{x:Ow}(b:r<4294967296)(a:xo x):gr (eP o t r aa x).1:=by
 unfold eP;split
 ·omega
 ·split
  ·omega
  ·split
   ·omega
   ·refine⟨λi=>?_,λi=>?_⟩
    ·show(ai o (aI r) ⟨r,x⟩ i).root<_;by_cases e:i=aI r
     ·rw[e,bI];exact b
     ·rw[bA e];exact ho.root i
    ·show xo (ai o (aI r) ⟨r,x⟩ i).own;by_cases e:i=aI r
     ·rw[e,bI];exact a
     ·rw[bA e];exact ho.own i
def zy(aa:Nat):eU aa<256:=by
 unfold eU;have:2^(aa % 8)<=2^7:=Nat.pow_le_pow_right (by omega) (by omega);omega
def aBE(b:a<256): (BitVec.ofInt 8 (a:Int)).toNat=a:=by grind
def KX(d:a<256)(c:b<256):dE .and (.int .u8 (a:Nat)) (.int .u8 (b:Nat))=some (.int .u8 ((a&&&b:Nat):Int)):=by
 rw[Da];have e: (BitVec.ofInt IntKind.u8.bits (a:Int)&&&BitVec.ofInt IntKind.u8.bits (b:Int)).toNat=a&&&b:=by
  show(BitVec.ofInt 8 (a:Int)&&&BitVec.ofInt 8 (b:Int)).toNat=_
  grind
 have f:a&&&b<=a:=Nat.and_le_left;rw[e,wrap_u8 (by omega) (by omega)]
def asu(d:a<256)(c:b<256):dE .xor (.int .u8 (a:Nat)) (.int .u8 (b:Nat))=some (.int .u8 ((a^^^b:Nat):Int)):=by
 rw[NF];have e: (BitVec.ofInt IntKind.u8.bits (a:Int)^^^BitVec.ofInt IntKind.u8.bits (b:Int)).toNat=a^^^b:=by
  show(BitVec.ofInt 8 (a:Int)^^^BitVec.ofInt 8 (b:Int)).toNat=_
  grind
 have f:a^^^b<2^8:=aBh (by omega) (by omega);rw[e,wrap_u8 (by omega) (by omega)]
theorem agI{k:Nat}:x&&&2^k=0↔x.testBit k=false:=by
 constructor
 ·intro h;have: (x&&&2^k).testBit k=false:=by grind
  grind
 ·intro h;apply Nat.eq_of_testBit_eq
  grind
def agJ:decide (¬((x&&&eU aa:Nat):Int)=0)=fT x aa:=by
 unfold fT eU;cases h:x.testBit (aa % 8)
 ·rw[agI.2 h];simp
 ·grind [agI]
def SS(aa:Nat)(f:aa<4611686018427387904)(H:List ae)(lo:oN):D X0 (.fn (.func 280) [] []) [.int .i64 aa] ⟨H,lo⟩=some (.ret (.int .u8 (eU aa:Nat)) ⟨H,lo⟩):=by
 refine aK QT λN h=>?_
 have e:dE .and (.int .i64 (aa:Nat)) (.int .i64 7)=some (.int .i64 ((aa % 8:Nat):Int)):=by
  rw[Da];have e: (BitVec.ofInt IntKind.i64.bits (aa:Int)&&&BitVec.ofInt IntKind.i64.bits 7).toNat=aa % 8:=by
   show(BitVec.ofInt 64 (aa:Int)&&&BitVec.ofInt 64 7).toNat=_;have c: (BitVec.ofInt 64 (aa:Int)).toNat=aa:=by grind
   have b: (BitVec.ofInt 64 7).toNat=2^3-1:=by rfl
   rw[BitVec.toNat_and,c,b,aBw]
  rw[e,wrap_i64 (by omega) (by omega)]
 have g:=zy aa;have d:k5 .shl (.int .u8 1) (.int .i64 ((aa % 8:Nat):Int))=some (.int .u8 (eU aa:Nat)):=by
  rw[AA,ac6 (by omega)];have: (1:Int)*2^(min ((aa % 8:Nat):Int).toNat IntKind.u8.bits)=(eU aa:Nat):=by
   have a:IntKind.u8.bits=8:=rfl;rw[a,aBo,apJ (by omega),Int.one_mul];unfold eU;simp
  rw[this,wrap_u8 (by omega) (by omega)]
 simp(disch:=omega) only[F1,go_sem,simprocAttr,QT,e,d]
def BW(o:bP)(ho:gr o)(t:ar)(p:bS t)(n:cu t)(h:Nat)(m:h<4294967296)(H:List ae)(lo:oN):
  D X0 (.fn (.func 267) [] []) [.agg (cU o),.agg (aM t),.int .u32 h] ⟨H,lo⟩=some (.ret (.agg (kc (bH o t h))) ⟨H,lo⟩):=by
 refine aK EO λN k=>?_
 have a:=zu t p n h m;have b:=arf (h:=h) n m;have f:bH o t h=match eX (root t h)with|some i=>if(o i).root=root t h then(o i).own else vq|none=>vq:=rfl
 cases d:eX (root t h)with
 |none=>
  rw[d]at f;have e1:bH o t h=vq:=f;simp only[F1,go_sem,simprocAttr,EO,k,a,kg (root t h) b,jo,d,e1];rfl
 |some i=>
  rw[d]at f;have j:=afa d;have e: (i:Int)<32:=by omega
  by_cases l: (o i).root=root t h
  ·have c: (((o i).root:Nat):Int)=(root t h:Nat):=by omega
   have e1:bH o t h=(o i).own:=by rw[f];exact ac6 l
   have g:kc (o i).own=[.int .u8 (o i).own.kind,.int .u8 (o i).own.aa,.int .u8 (o i).own.hold]:=rfl;simp only[F1,go_sem,simprocAttr,EO,k,a,kg (root t h) b,jo,d,e1,e,afq j,c,aqp j,g]
  ·have c: ¬(((o i).root:Nat):Int)=(root t h:Nat):=by omega
   have e1:bH o t h=vq:=by rw[f];exact ac0 l
   simp only[F1,go_sem,simprocAttr,EO,k,a,kg (root t h) b,jo,d,e1,e,afq j,c];rfl
def lI(o:bP)(t:ar)(r aa:Nat)(x:Ow):AV:=.aA [.agg (cU (eP o t r aa x).1),.int .i64 (eP o t r aa x).2]
theorem asv:uN.length=128:=by rfl
theorem asw:List.drop 128 uN=[]:=by rfl
def hY:type_of% asv/\type_of% asw:=by decide
def Fs(o:bP)(t:ar)(v:bS t)(A:cu t)(r:Nat)(k:r<4294967296)(aa:Nat)(u:aa<4611686018427387904)(x:Ow)(H:List ae)(lo:oN):
  D X0 (.fn (.func 298) [] []) [.agg (cU o),.agg (aM t),.int .u32 r,.int .i64 aa,.agg (kc x)] ⟨H,lo⟩=some (.ret (lI o t r aa x) ⟨H,lo⟩):=by
 refine aK BC λN i=>?_
 have c:=zu t v A r k;have a:=eC t.b r k;have m: ∀h,aq t.b h=t.aq h:=λh=>rfl
 simp only[m]at a;have z:=vu r;have l: (aI r:Int)<32:=by omega
 have y:jo r= .aA [.int .i64 (aI r:Nat),.bool (eX r).isSome]:=rfl;have b:eP o t r aa x=if t.aq r=false then(o,4)else if root t r≠r then(o,12)else if 8<=aa then(o,2)else(ai o (aI r) ⟨r,x⟩,0):=rfl
 have d:kc x=[.int .u8 x.kind,.int .u8 x.aa,.int .u8 x.hold]:=rfl;cases g:t.aq r with
 |false=>
  rw[ac6 g]at b;rw[g]at a;simp only[F1,go_sem,simprocAttr,BC,i,a,lI,b,hY,d]
 |true=>
  rw[ac0 (by rw[g];simp)]at b;rw[g]at a;by_cases q:root t r=r
  ·rw[ac0 (by simpa using q)]at b;rw[q]at c;by_cases s:8<=aa
   ·rw[ac6 s]at b;have f: (aa:Int)>=8:=by omega
    have n: ¬(aa:Int)<0:=by omega
    simp only[F1,go_sem,simprocAttr,BC,i,a,c,f,n,lI,b,hY,d]
   ·rw[ac0 s]at b;have f: ¬(aa:Int)>=8:=by omega
    have n: ¬(aa:Int)<0:=by omega
    have e:=aqq (w:=o) (x:=⟨r,x⟩) z;have j:sI ⟨r,x⟩=[.int .u32 r,.int .u8 x.kind,.int .u8 x.aa,.int .u8 x.hold]:=rfl;rw[j]at e;simp only[F1,go_sem,simprocAttr,BC,i,a,c,f,n,lI,b,hY,d,kg r k,y,l,e];omega
  ·rw[ac6 q]at b;have p: ¬((root t r:Nat):Int)=(r:Nat):=by omega
   simp only[F1,go_sem,simprocAttr,BC,i,a,c,p,lI,b,hY,d]
section
variable(o:bP)(t:ar)(ht:bS t)(hT:cu t)(r:Nat)(hr:r<4294967296)(aa:Nat)(oA:aa<256)(H:List ae)(lo:oN)
include ht hT hr oA
theorem asx:D X0 (.fn (.func 286) [] []) [.agg (cU o),.agg (aM t),.int .u32 r,.int .i64 aa] ⟨H,lo⟩=some (.ret (.aA [.agg (cU (ow o t r aa).1),.int .i64 (ow o t r aa).2]) ⟨H,lo⟩):=by
 refine aK QW λN c=>?_
 have b:=Fs o t ht hT r hr aa (by omega) ⟨1,aa % 256,0⟩;have a:kc ⟨1,aa % 256,0⟩=[.int .u8 1,.int .u8 aa,.int .u8 0]:=by rw[amX oA];rfl
 rw[a]at b;have d:ow o t r aa=eP o t r aa ⟨1,aa % 256,0⟩:=rfl;simp(disch:=omega) only[F1,go_sem,simprocAttr,QW,c,b,lI,hY,d]
theorem asy:D X0 (.fn (.func 262) [] []) [.agg (cU o),.agg (aM t),.int .u32 r,.int .i64 aa] ⟨H,lo⟩=some (.ret (.aA [.agg (cU (zj o t r aa).1),.int .i64 (zj o t r aa).2]) ⟨H,lo⟩):=by
 refine aK QN λN d=>?_
 have b:=Fs o t ht hT r hr aa (by omega) ⟨3,0,eU aa⟩;have a:kc ⟨3,0,eU aa⟩=[.int .u8 3,.int .u8 0,.int .u8 (eU aa)]:=rfl;rw[a]at b;have e:zj o t r aa=eP o t r aa ⟨3,0,eU aa⟩:=rfl;have c:=SS aa (by omega);simp only[F1,go_sem,simprocAttr,QN,d,b,c,lI,hY,e]
end
def asz(o:bP)(t:ar)(ht:bS t)(hT:cu t)(r:Nat)(hr:r<4294967296)(H:List ae)(lo:oN):
  D X0 (.fn (.func 270) [] []) [.agg (cU o),.agg (aM t),.int .u32 r] ⟨H,lo⟩=some (.ret (.aA [.agg (cU (vt o t r).1),.int .i64 (vt o t r).2]) ⟨H,lo⟩):=by
 refine aK QP λN b=>?_
 have a: ∀H lo,D X0 (.fn (.func 298) [] []) [.agg (cU o),.agg (aM t),.int .u32 r,.int .i64 0,.agg [.int .u8 2,.int .u8 0,.int .u8 0]] ⟨H,lo⟩=_:=Fs o t ht hT r hr 0 (by omega) ⟨2,0,0⟩;have c:vt o t r=eP o t r 0 ⟨2,0,0⟩:=rfl;simp only[F1,go_sem,simprocAttr,QP,b,a,lI,hY,c]
theorem agK{o:bP}:List.drop 128 (cU o)=[]:=by rfl
def pZ(o:bP)(t:ar)(r aa:Nat)(hold:Bool):AV:=.aA [.agg (cU (db o t r aa hold).1),.int .u8 (db o t r aa hold).2.1,.int .i64 (db o t r aa hold).2.2]
def asA{o:bP}{t:ar}{r:Nat}{x y:Ow}(h: (eP o t r aa x).2=0):eP (eP o t r aa x).1 t r aa y=eP o t r aa y:=by
 unfold eP at h⊢;split at h
 ·cases h
 ·simp_all[ac0,rh]
def asB(o:bP)(t:ar)(r aa:Nat)(x:Ow): (eP o t r aa x).2=if t.aq r=false then 4 else if root t r≠r then 12 else if 8<=aa then 2 else 0:=by
 unfold eP
 grind
def agL(o:bP)(ho:gr o)(t:ar)(ht:bS t)(hT:cu t)(r:Nat)(hr:r<4294967296)(aa:Nat)(oA:aa<256)(hold:Bool)(H:List ae)(lo:oN):
  D X0 (.fn (.func 299) [] []) [.agg (cU o),.agg (aM t),.int .u32 r,.int .i64 aa,.bool hold] ⟨H,lo⟩=some (.ret (pZ o t r aa hold) ⟨H,lo⟩):=by
 refine aK re λN l=>?_
 have c:=BW o ho t ht hT r hr;have k:=SS aa (by omega);have d:=zu t ht hT r hr;have b:=eC t.b r hr;have C: ∀h,aq t.b h=t.aq h:=λh=>rfl
 simp only[C]at b;have s:=ho.of t r;have g:db o t r aa hold=(let x:=bH o t r
  let e:=(eP o t r aa x).2
  if e=4\/ (t.aq r=true/\root t r≠r)then(o,0,e)
  else if x.kind≠3 then(o,0,12)
  else if e≠0 then(o,0,e)
  else if fT x.hold aa&&hold then(o,0,7)
  else if !fT x.hold aa&& !hold then(o,0,5)
  else((eP o t r aa {x with hold:=x.hold^^^eU aa}).1,x.hold^^^eU aa,(eP o t r aa {x with hold:=x.hold^^^eU aa}).2)):=rfl
 generalize G:bH o t r=x at*;have j:=Fs o t ht hT r hr aa (by omega) x;have a:=asB o t r aa x;have B:kc x=[.int .u8 x.kind,.int .u8 x.aa,.int .u8 x.hold]:=rfl;have hand:=KX s.hold (zy aa);have f:=agJ (x:=x.hold) (aa:=aa);rw[B]at j c;simp only at g;cases z:t.aq r with
 |false=>
  rw[ac6 z]at a;rw[a,ac6 (.inl rfl)]at g;rw[z]at b;simp only[F1,go_sem,simprocAttr,re,l,c,j,lI,a,k,hand,f,hY,pZ,g]
 |true=>
  rw[ac0 (by rw[z];simp)]at a;rw[z]at b;by_cases q:root t r=r
  ·rw[ac0 (by simpa using q)]at a;rw[q]at d;by_cases E:x.kind=3
   ·have i:decide (¬(x.kind:Int)=3)=false:=adb (by omega);by_cases A:8<=aa
    ·rw[ac6 A]at a;rw[a,ac0 (by simp[q]),ac0 (by simpa using E),ac6 (by omega)]at g;simp only[F1,go_sem,simprocAttr,re,l,b,d,c,j,lI,a,k,hand,f,i,hY,pZ,g]
    ·rw[ac0 A]at a;rw[a,ac0 (by simp[q]),ac0 (by simpa using E),ac0 (by omega)]at g;have p:=Fs (eP o t r aa x).1 t ht hT r hr aa (by omega) {x with hold:=x.hold^^^eU aa};have v:kc {x with hold:=x.hold^^^eU aa}=[.int .u8 x.kind,.int .u8 x.aa,.int .u8 (x.hold^^^eU aa:Nat)]:=rfl;have u:=asA (y:={x with hold:=x.hold^^^eU aa}) a;have w: (N+1 !=N)=true:=by simp
     have m:=asu s.hold (zy aa);rw[v]at p;cases n:fT x.hold aa<;>cases hold
     ·rw[n,ac0 (by simp),ac6 (by simp)]at g;simp only[F1,go_sem,simprocAttr,re,l,b,d,c,j,lI,a,k,hand,f,n,i,hY,pZ,g]
     ·rw[n,ac0 (by simp),ac0 (by simp)]at g;simp only[F1,go_sem,simprocAttr,re,l,b,d,c,j,lI,a,k,hand,f,n,i,hY,pZ,g,m,p,u,agK,w,avd]
     ·rw[n,ac0 (by simp),ac0 (by simp)]at g;simp only[F1,go_sem,simprocAttr,re,l,b,d,c,j,lI,a,k,hand,f,n,i,hY,pZ,g,m,p,u,agK,w,avd]
     ·rw[n,ac6 (by simp)]at g;simp only[F1,go_sem,simprocAttr,re,l,b,d,c,j,lI,a,k,hand,f,n,i,hY,pZ,g]
   ·have i: ¬(x.kind:Int)=3:=by omega
    rw[ac0 (by rw[a];simp[q];split<;>simp),ac6 E]at g;by_cases A:8<=aa
    ·rw[ac6 A]at a;simp only[F1,go_sem,simprocAttr,re,l,b,d,c,j,lI,a,k,hand,f,i,hY,pZ,g]
    ·rw[ac0 A]at a;simp only[F1,go_sem,simprocAttr,re,l,b,d,c,j,lI,a,k,hand,f,i,hY,pZ,g]
  ·rw[ac6 q]at a;have F: ¬((root t r:Nat):Int)=(r:Nat):=by omega
   rw[ac6 (.inr ⟨z,q⟩),a]at g;simp only[F1,go_sem,simprocAttr,re,l,b,d,F,c,j,lI,a,k,hand,f,hY,pZ,g]
def agM(o:bP)(ho:gr o)(t:ar)(ht:bS t)(hT:cu t)(r:Nat)(hr:r<4294967296)(aa:Nat)(oA:aa<256)(H:List ae)(lo:oN):
  D X0 (.fn (.func 265) [] []) [.agg (cU o),.agg (aM t),.int .u32 r,.int .i64 aa] ⟨H,lo⟩=some (.ret (.aA [.agg (cU (db o t r aa true).1),.int .i64 (db o t r aa true).2.2]) ⟨H,lo⟩):=by
 refine aK QO λN b=>?_
 have a:=agL o ho t ht hT r hr aa oA true;simp only[F1,go_sem,simprocAttr,QO,b,a,pZ,hY]
def Ft(x:Nat):Nat:=(HJ.getD x 0).toNat
def asC: ∀x,x<256->(Ft x=0↔x=0):=by decide
def agN{o:bP}(ho:gr o){t:ar}{r:Nat}{hold:Bool}: (db o t r aa hold).2.1<256:=by
 unfold db;simp only;split
 ·simp
 ·split
  ·simp
  ·split
   ·simp
   ·split
    ·simp
    ·split
     ·simp
     ·exact aBh (n:=8) (ho.of t r).hold (zy aa)
def asD(o:bP)(ho:gr o)(t:ar)(ht:bS t)(hT:cu t)(r:Nat)(hr:r<4294967296)(aa:Nat)(oA:aa<256)(H:List ae)(lo:oN):
  D X0 (.fn (.func 300) [] []) [.agg (cU o),.agg (aM t),.int .u32 r,.int .i64 aa] ⟨H,lo⟩=some (.ret (.aA [.agg (cU (db o t r aa false).1),.int .i64 (Ft (db o t r aa false).2.1),.int .i64 (db o t r aa false).2.2]) ⟨H,lo⟩):=by
 refine aK Q2 λN b=>?_
 have e:=agL o ho t ht hT r hr aa oA false;have c:=agN ho (t:=t) (r:=r) (aa:=aa) (hold:=false);have a: ∀H lo,D X0 (.fn (.func 327) [] []) [.int .u8 ((db o t r aa false).2.1:Nat)] ⟨H,lo⟩=some (.ret (.int .i64 (Ft (db o t r aa false).2.1:Nat)) ⟨H,lo⟩):=by
  intro H lo;generalize(db o t r aa false).2.1=x at*;refine aK Rk λN b=>?_
  have d:HJ.length=256:=by rfl
  have f:=UInt8.toNat_lt (HJ.getD x 0);simp(disch:=omega) only[F1,go_sem,simprocAttr,Rk,d];exact⟨by omega,rfl⟩
 simp only[F1,go_sem,simprocAttr,Q2,b,e,pZ,a,hY]
structure sZ(x:Tok):Prop where
 aJ:x.aJ<4294967296
 jz:x.jz<256
 to:x.to<256
 aR:x.aR<4294967296
structure im(k:bp):Prop where
 b:iB k.b
 lt: ∀i,(k.b i).da=true->i<16
 t: ∀i,sZ (k.t i)
def agO:sZ Ks:=⟨by trivial,by trivial,by trivial,by trivial⟩
def im.get{k:bp}(a:im k)(h:Nat):sZ (cq k h).1:=by
 unfold cq;split
 ·exact a.t _
 ·exact agO
def im.slot{k:bp}(a:im k)(b:aq k.b h=true):aI h<16:=by
 obtain⟨_,e,_⟩:=sO b;exact a.lt _ (by rw[e])
def BX(k:bp)(j:im k)(h:Nat)(f:h<4294967296)(H:List ae)(lo:oN):
  D X0 (.fn (.func 171) [] []) [.agg (ch k),.int .u32 h] ⟨H,lo⟩=some (.ret (.aA [.agg (gk (cq k h).1),.int .i64 (cq k h).2]) ⟨H,lo⟩):=by
 refine aK JE λN g=>?_
 have a:=eC k.b h f;have i:jo h= .aA [.int .i64 (aI h:Nat),.bool (eX h).isSome]:=rfl;cases d:aq k.b h with
 |false=>
  rw[d]at a;have e:cq k h=(Ks,4):=by unfold cq;grind
  simp only[F1,go_sem,simprocAttr,JE,g,a,e];rfl
 |true=>
  rw[d]at a;have e:cq k h=(k.t (aI h),0):=by unfold cq;grind
  have l:=j.slot d;have c: (aI h:Int)<16:=by omega
  have b:gk (k.t (aI h))=[.int .u32 (k.t (aI h)).aJ,.int .u8 (k.t (aI h)).jz,.int .u8 (k.t (aI h)).to,.bool (k.t (aI h)).mu,.int .u32 (k.t (aI h)).aR]:=rfl;simp only[F1,go_sem,simprocAttr,JE,g,a,e,kg h f,i,c,aqs l,b]
def SU(k:bp)(h:Nat)(d:h<4294967296)(H:List ae)(lo:oN):
  D X0 (.fn (.func 329) [] []) [.agg (ch k),.int .u32 h] ⟨H,lo⟩=some (.ret (.bool (nq k h)) ⟨H,lo⟩):=by
 refine aK Kd λN c=>?_
 have b:=eC k.b h d;by_cases e:h=0
 ·have a: (h:Int)=0:=by omega
  simp only[F1,go_sem,simprocAttr,Kd,c,a,nq]
  grind
 ·have a: ¬(h:Int)=0:=by omega
  simp only[F1,go_sem,simprocAttr,Kd,c,a,b,nq]
  grind
def agP{N:Nat}{A A' P M:List ae}{ty:TypeId}(h:aP N (A++P) v sz ty af)(b:A'.length=A.length)(c:A.length<=N):aP N (A'++(P++M)) v sz ty af:=by
 obtain⟨a,d⟩:=h;refine⟨a,?_⟩
 grind
def vK(k:bp)(p:Tok->Bool)(n:Nat):lN:=((bt k.b).take n).filter λh=>p (cq k h).1
def asE{k:bp}{p:Tok->Bool}(h:n< (bt k.b).length):vK k p (n+1)=if p (cq k ((bt k.b).getD n default)).1 then vK k p n++[(bt k.b).getD n default]else vK k p n:=by
 unfold vK;rw[agn,ac7 h,ave,getD_eq h]
 grind
def asF{k:bp}{p:Tok->Bool}: (vK k p n).length<=n:=aga (ah5 _ _) (by grind)
def jZ{S:Type}(k:bp)(f:S->Tok->S)(s:S)(n:Nat):S:=((bt k.b).take n).foldl (λs h=>f s (cq k h).1) s
def asG{S:Type}{k:bp}{f:S->Tok->S}{s:S}(h:n< (bt k.b).length):jZ k f s (n+1)=f (jZ k f s n) (cq k ((bt k.b).getD n default)).1:=by
 unfold jZ;rw[agn,ac7 h,ang,getD_eq h];rfl
def KY{S:Type}(k:bp)(W:im k)(fv:AV)(p:Tok->Bool)(f:S->Tok->S)(c:S)(N:Nat)(b:S->List ae)(r: ∀s,(b s).length=N)
  (hf: ∀s x L,sZ x->D X fv [.agg (gk x)] ⟨b s++L,none⟩=some (.ret (.bool (p x)) ⟨b (f s x)++L,none⟩)) (lo:oN):
  ∃w,D X (.fn (.func 281) [] []) [.agg (ch k),fv] ⟨b c,lo⟩=some (.ret w ⟨b (jZ k f c (bt k.b).length),lo⟩)/\Rv w 1 ((sL k p).map hC)/\w.refs=0:=by
 suffices hs: ∃V,D X (.fn (.func 281) [] []) [.agg (ch k),fv] ⟨b c,lo⟩=some V/\ (λV=> ∃w,V=aU.ret w ⟨b (jZ k f c (bt k.b).length),lo⟩/\Rv w 1 ((sL k p).map hC)/\w.refs=0) V by
  obtain⟨V,h1,w,rfl,h2⟩:=hs;exact⟨w,h1,h2⟩
 refine cI QU λM hM=>?_
 obtain rfl:M=N:=by rw[<-hM,r]
 obtain⟨v,J,e1,Y⟩:=Sz k.b W.b (M+1) (b c++[.box (ch k) none]) (by simp[r]) none;have F:D X (.fn (.func 56) [] []) [.agg (b0 k.b)] ⟨b c++[.box (ch k) none],none⟩=some _:=pX (p:=mh) rfl e1;have g:=(mj Y none).bZ;have sa:=nr k.b;rw[ac8]at F Y g;obtain⟨j,U⟩: ∃j,j=[ae.box (ch k) none]++J:=⟨_,rfl⟩;have T: ∀s L,(b s++(j++L))[M]?=some (.box (ch k) none):=λs L=>by rw[dB (r s),U];rfl
 rw[<-U]at F Y g;simp only[go_sem,simprocAttr,QU,hM,F,g];refine fE (bt k.b).length (λn e H'=> ∃L,H'=b (jZ k f c n)++(j++L)/\ (∃G,e 5=G/\aP (M+j.length) H' G 1 cz ((vK k p n).map hC))/\e 1=fv/\e 2= .ptr M 0/\e 12=v/\e 13= .int .i64 (bt k.b).length/\e 14= .int .i64 n) 0 (by omega) ?_ ?_
 ·simp only[go_sem,simprocAttr];exact⟨[],by simp[jZ],_,rfl,aP.au⟩
 rintro n hn e H' ⟨L,rfl,⟨G,e5,i⟩,e1,A,E,C,B⟩ n' u;have R:=T (jZ k f c n);simp only[cm,go_sem,simprocAttr,aer,e5,E,C,B];refine⟨λhc=>?_,λhc=>?_⟩
 ·have l:n< (bt k.b).length:=by omega
  have O:=fX l;have jd:=(iQ W.b).1 O;have q:=asE (p:=p) l;have I:=asG (f:=f) (s:=c) l;have K:Rd ⟨b (jZ k f c n)++(j++L),none⟩ v 1 ((bt k.b).map hC):=mj (agP Y (by rw[r,r]) (by rw[r];omega)) none;have y:=λH lo=>up dH (BX k W ((bt k.b).getD n default) (gl jd) H lo)
  have Z:=W.get ((bt k.b).getD n default);have m:=hf (jZ k f c n) (cq k ((bt k.b).getD n default)).1 (j++(L++[.box (gk (cq k ((bt k.b).getD n default)).1) none])) Z;generalize hh: (bt k.b).getD n default=h at*;generalize hx: (cq k h).1=x at*;have t:gk x=[.int .u32 x.aJ,.int .u8 x.jz,.int .u8 x.to,.bool x.mu,.int .u32 x.aR]:=rfl;have r9:=asF (k:=k) (p:=p) (n:=n);have hA:=λ (a:Int)=>K.cn (k:=.i64) (a:=a)
  have hL:=K.cE (X:=X) (off:=0) (n:=1) (agg:=false) l;rw[hh,pH]at hL;have Q: ∀o,(b (jZ k f c n)++(j++(L++[o])))[n']?=some o:=λo=>by rw[<-u,<-ac8 j,<-ac8 (b _)];simp
  have P: ∀o o',(b (jZ k f c n)++(j++(L++[o]))).set n' o'=b (jZ k f c n)++(j++(L++[o'])):=λo o'=>by
   have e: ∀o:ae,b (jZ k f c n)++(j++(L++[o]))=(b (jZ k f c n)++(j++L))++[o]:=λo=>by simp
   rw[e,e,<-u,apC _ _ (adA _)];simp
  have d:aP (M+j.length) (b (f (jZ k f c n) x)++(j++(L++[.box (gk x) none]))) G 1 cz ((vK k p n).map hC):=by
   have:=agP (A':=b (f (jZ k f c n) x)) (M:=[.box (gk x) none]) i (by rw[r,r]) (by rw[r];omega);rwa[ac8]at this
  cases hp:p x
  ·rw[hp]at m q;rw[t]at m d;simp(disch:=omega) only[go_sem,simprocAttr,e1,A,e5,E,C,B,hA,hL,R,y,u,t,Q,P,m,ac8,q,I];exact⟨by omega,l,_,rfl,G,rfl,d⟩
  ·rw[hp]at m q;rw[t]at m d;simp only[go_sem,simprocAttr,e1,A,e5,hA,hL,R,y,u,t,Q,P,m,ac8];refine⟨by omega,qL (H0:=b (f (jZ k f c n) x)++j) (ys:=[[.int .u32 (h:Nat)]]) d ⟨_,ac8 _ _ _⟩ (by simp[r]) (by omega) (by intro el qA;rw[aeH.1 qA];rfl) rfl (by unfold room;simp;omega) λv' H2 z Di=>?_⟩;obtain⟨L2,rfl⟩:=Di;simp(disch:=omega) only[go_sem,simprocAttr,e1,A,E,C,B];rw[ac6 rfl]at q;refine⟨l,L2,by rw[I],v',rfl,?_⟩;rw[q,aeP];rwa[ac8]at z
 ·obtain rfl:n=(bt k.b).length:=by omega
  have ht:vK k p (bt k.b).length=sL k p:=by unfold vK sL;rw[aeQ]
  rw[ht]at i;have h0:b9 ((sL k p).map hC)=0:=bL (λ_=>rfl) _;rw[aP.AJ (aP.le i (by omega)) (by omega)];refine⟨_,dp rfl (am6 (r _)),i.qM,dy i.qM h0⟩
theorem nH(x:Tok):gk x=[.int .u32 x.aJ,.int .u8 x.jz,.int .u8 x.to,.bool x.mu,.int .u32 x.aR]:=rfl
theorem xp{N:Nat}{H:List ae}(h:v.refs=0):finish N lo v ⟨H,none⟩=(v,⟨H.take N,lo⟩):=jE (.inl rfl) (by omega)
def asH(aJ:Nat)(x:Tok)(p:Nat)(H:List ae)(a:H[p]?=some (.box [.int .u32 (aJ:Nat)] none))(lo:oN):
  D X (.fn (.func 334) [] [.ptr p 0]) [.agg (gk x)] ⟨H,lo⟩=some (.ret (.bool (decide (x.aJ=aJ))) ⟨H,lo⟩):=by
 refine fi Rn λN b=>?_
 have c: ∀L,(H++L)[p]?=_:=λL=>bm a
 simp only[F1,go_sem,simprocAttr,Rn,b,nH,c];exact dp (ahR AV.bool (ae0.2 (by omega))) rfl
def asI(aa:Nat)(x:Tok)(a:sZ x)(p:Nat)(H:List ae)(b:H[p]?=some (.box [.int .i64 (aa:Nat)] none))(lo:oN):
  D X (.fn (.func 282) [] [.ptr p 0]) [.agg (gk x)] ⟨H,lo⟩=some (.ret (.bool (decide (x.to=aa))) ⟨H,lo⟩):=by
 refine fi QV λN c=>?_
 have d: ∀L,(H++L)[p]?=_:=λL=>bm b
 have:=a.to;simp(disch:=omega) only[F1,go_sem,simprocAttr,QV,c,nH,d];exact dp (ahR AV.bool (ae0.2 (by omega))) rfl
def SW(k:bp)(hk:im k)(aJ:Nat)(H:List ae)(lo:oN):
  ∃w,D X (.fn (.func 321) [] []) [.agg (ch k),.int .u32 aJ] ⟨H,lo⟩=some (.ret w ⟨H,lo⟩)/\Rv w 1 ((ns k aJ).map hC)/\w.refs=0:=by
 obtain⟨N,c⟩: ∃N,H.length=N:=⟨_,rfl⟩;obtain⟨w,e1,b,e3⟩:=KY (S:=Unit) k hk (.fn (.func 334) [] [.ptr (N+1) 0]) (λx=>decide (x.aJ=aJ)) (λs _=>s) () (N+2) (λ_=>H++[.box (ch k) none,.box [.int .u32 aJ] none]) (λ_=>by grind)
  (λs x L _=>asH aJ x (N+1) _ (by grind) none) none
 refine⟨w,?_,b,e3⟩;refine aK Rg λM a=>?_
 obtain rfl:M=N:=by omega
 simp only[go_sem,simprocAttr,Rg,a,e1];rw[xp e3,mC a]
def asJ(k:bp)(hk:im k)(aa:Nat)(H:List ae)(lo:oN):
  ∃w,D X (.fn (.func 214) [] []) [.agg (ch k),.int .i64 aa] ⟨H,lo⟩=some (.ret w ⟨H,lo⟩)/\Rv w 1 ((rm k aa).map hC)/\w.refs=0:=by
 obtain⟨N,d⟩: ∃N,H.length=N:=⟨_,rfl⟩;obtain⟨w,e1,c,e3⟩:=KY (S:=Unit) k hk (.fn (.func 282) [] [.ptr (N+1) 0]) (λx=>decide (x.to=aa)) (λs _=>s) () (N+2) (λ_=>H++[.box (ch k) none,.box [.int .i64 aa] none]) (λ_=>by grind)
  (λs x L b=>asI aa x b (N+1) _ (by grind) none) none
 refine⟨w,?_,c,e3⟩;refine aK Qu λM a=>?_
 obtain rfl:M=N:=by omega
 simp only[go_sem,simprocAttr,Qu,a,e1];rw[xp e3,mC a]
theorem agQ{α:Type}(q:α->Bool): ∀ (l:List α) (s:Bool),l.foldl (λs x=>s||q x) s=(s||l.any q)
 | [],s=>by simp
 |x::xs,s=>by rw[asp,agQ q xs,List.any_cons,Bool.or_assoc]
def asK(k:bp)(aJ ab:Nat)(s:Bool)(x:Tok)(N:Nat)(H:List ae)(h:H.length=N)(L:List ae):
  D X (.fn (.func 336) [] [.ptr (N+1) 0,.ptr (N+2) 0,.ptr (N+3) 0]) [.agg (gk x)] ⟨H++[.box (ch k) none,.box [.int .u32 aJ] none,.box [.int .u32 ab] none,.box [.bool s] none]++L,none⟩=
    some (.ret (.bool (isRight aJ ab x)) ⟨H++[.box (ch k) none,.box [.int .u32 aJ] none,.box [.int .u32 ab] none,.box [.bool (s|| (isRight aJ ab x&&x.mu))] none]++L,none⟩):=by
 refine fi wX λM p=>?_
 rw[ac8]at p⊢;have m:M=N+4+L.length:=by rw[<-p];simp[h];omega
 have g1: ∀a b c d f,(H++(a::b::c::d::f))[N+1]?=some b:=λa b c d f=>by rw[bM h];rfl
 have g2: ∀a b c d f,(H++(a::b::c::d::f))[N+2]?=some c:=λa b c d f=>by rw[bM h];rfl
 have j: ∀a b c d f,(H++(a::b::c::d::f))[N+3]?=some d:=λa b c d f=>by rw[bM h];rfl
 have gm: ∀a b c d o,(H++(a::b::c::d:: (L++[o])))[M]?=some o:=λa b c d o=>by
  have:H++(a::b::c::d:: (L++[o]))=(H++(a::b::c::d::L))++[o]:=by simp
  rw[this,show M=(H++(a::b::c::d::L)).length by rw[m,aeG,h];simp only[aeV];omega];simp
 have i: ∀a b c d f o,(H++(a::b::c::d::f)).set (N+3) o=H++(a::b::c::o::f):=λa b c d f o=>by rw[m7 h];rfl
 have tk: ∀a b c d o,(H++(a::b::c::d:: (L++[o]))).take M=H++(a::b::c::d::L):=λa b c d o=>by
  have:H++(a::b::c::d:: (L++[o]))=(H++(a::b::c::d::L))++[o]:=by simp
  rw[this];exact am6 (by simp[h,m];omega)
 have q:isRight aJ ab x=(decide (x.aJ=aJ)&&decide (x.aR=ab)):=rfl;rw[q];by_cases l:x.aJ=aJ
 ·have e: (x.aJ:Int)=aJ:=by omega
  by_cases n:x.aR=ab
  ·have g: (x.aR:Int)=ab:=by omega
   cases s
   ·simp only[F1,go_sem,simprocAttr,wX,nH,g1,g2,j,i,tk,e,g,ac8,ah6,agt];simp[l,n]
   ·simp only[F1,go_sem,simprocAttr,wX,nH,g1,g2,j,i,tk,e,g,ac8,ah6,agt];simp[l,n]
  ·have g: ¬(x.aR:Int)=ab:=by omega
   cases s
   ·simp only[F1,go_sem,simprocAttr,wX,nH,g1,g2,j,i,tk,e,g,ac8,ah6,agt];simp[l,n]
   ·simp only[F1,go_sem,simprocAttr,wX,nH,g1,g2,j,i,tk,e,g,ac8,ah6,agt];simp[l,n]
 ·have e: ¬(x.aJ:Int)=aJ:=by omega
  cases s
  ·simp only[F1,go_sem,simprocAttr,wX,nH,g1,j,i,tk,e,ac8,ah6,agt];simp[l]
  ·simp only[F1,go_sem,simprocAttr,wX,nH,g1,j,i,tk,e,ac8,ah6,agt];simp[l]
def SX(k:bp)(hk:im k)(aJ ab:Nat)(H:List ae)(lo:oN):
  D X (.fn (.func 328) [] []) [.agg (ch k),.int .u32 aJ,.int .u32 ab] ⟨H,lo⟩=some (.ret (.aA [.int .i64 (BH k aJ ab:Nat),.bool (sM k aJ ab)]) ⟨H,lo⟩):=by
 obtain⟨N,a⟩: ∃N,H.length=N:=⟨_,rfl⟩;obtain⟨w,e1,c,e3⟩:=KY (S:=Bool) k hk (.fn (.func 336) [] [.ptr (N+1) 0,.ptr (N+2) 0,.ptr (N+3) 0]) (isRight aJ ab) (λs x=>s|| (isRight aJ ab x&&x.mu)) false (N+4)
  (λs=>H++[.box (ch k) none,.box [.int .u32 aJ] none,.box [.int .u32 ab] none,.box [.bool s] none]) (λ_=>by grind) (λs x L _=>asK k aJ ab s x N H a L) none
 have hm:jZ k (λs x=>s|| (isRight aJ ab x&&x.mu)) false (bt k.b).length=sM k aJ ab:=by
  unfold jZ sM;rw[aeQ,agQ (λh=>isRight aJ ab (cq k h).1&& (cq k h).1.mu),avU]
 rw[hm]at e1;refine aK Rl λM b=>?_
 obtain rfl:M=N:=by rw[<-b,a]
 simp only[F1,go_sem,simprocAttr,Rl,b,e1,c.bZ];rfl
section
variable(k:bp)(hk:im k)(aJ ab:Nat)(ha:ab<4294967296)(H:List ae)(lo:oN)
include hk ha
theorem agR:D X (.fn (.func 315) [] []) [.agg (ch k),.int .u32 aJ,.int .u32 ab] ⟨H,lo⟩=some (.ret (.bool (w5 k aJ ab)) ⟨H,lo⟩):=by
 refine aK J9 λN e=>?_
 have d:=SX k hk aJ ab;have b:=λH lo=>up dH (SU k ab ha H lo)
 have c:w5 k aJ ab=(nq k ab&& !sM k aJ ab):=rfl;cases a:nq k ab
 ·rw[a]at b c;simp only[F1,go_sem,simprocAttr,J9,e,d,b,c,agq]
 ·rw[a]at b c;simp only[F1,go_sem,simprocAttr,J9,e,d,b,c,amH]
theorem agS:D X (.fn (.func 317) [] []) [.agg (ch k),.int .u32 aJ,.int .u32 ab] ⟨H,lo⟩=some (.ret (.bool (zl k aJ ab)) ⟨H,lo⟩):=by
 refine aK Ka λN e=>?_
 have d:=SX k hk aJ ab;have b:=λH lo=>up dH (SU k ab ha H lo)
 have c:zl k aJ ab=(nq k ab&&decide (BH k aJ ab=0)):=rfl;cases a:nq k ab
 ·rw[a]at b c;simp only[F1,go_sem,simprocAttr,Ka,e,d,b,c,agq]
 ·rw[a]at b c;simp only[F1,go_sem,simprocAttr,Ka,e,d,b,c,amH];simp_all
end
section
set_option maxHeartbeats 2000000
def asL(k:bp)(B:im k)(x:Tok)(C:sZ x)(H:List ae)(lo:oN):
  D X (.fn (.func 301) [] []) [.agg (ch k),.agg (gk x)] ⟨H,lo⟩=some (.ret (.int .i64 (pJ k x:Nat)) ⟨H,lo⟩):=by
 refine aK kb λN p=>?_
 have j:=SX k B x.aJ x.aR;have m:=λH lo=>up dH (SU k x.aR C.aR H lo)
 have a:=λH lo=>up dH (BX k B x.aR C.aR H lo)
 have E:=B.get x.aR;have b:pJ k x=if nq k x.aR=false then 4
  else if 8<=x.jz\/8<=x.to\/x.jz=x.to\/x.aJ=0 then 2
  else if x.aR≠0/\ ((cq k x.aR).1.aJ≠x.aJ\/ (cq k x.aR).1.to≠x.jz\/ (x.mu=true/\ (cq k x.aR).1.mu=false))then 12
  else if sM k x.aJ x.aR=true\/ (x.mu=true/\0<BH k x.aJ x.aR)then 5
  else 0:=rfl
 generalize hu: (cq k x.aR).1=w at*;generalize K:BH k x.aJ x.aR=n at*;have A:=nH w;have z:=nH x;rw[A]at a;rw[z];cases s:nq k x.aR with
 |false=>
  rw[ac6 s]at b;rw[s]at m;simp only[F1,go_sem,simprocAttr,kb,p,j,m,a,b]
 |true=>
  rw[ac0 (by rw[s];simp)]at b;rw[s]at m;by_cases J:8<=x.jz
  ·rw[ac6 (.inl J)]at b;have d: (x.jz:Int)>=8:=by omega
   simp only[F1,go_sem,simprocAttr,kb,p,j,m,a,b,d]
  ·have d: ¬(x.jz:Int)>=8:=by omega
   by_cases I:8<=x.to
   ·rw[ac6 (.inr (.inl I))]at b;have e: (x.to:Int)>=8:=by omega
    simp only[F1,go_sem,simprocAttr,kb,p,j,m,a,b,d,e]
   ·have e: ¬(x.to:Int)>=8:=by omega
    by_cases G:x.jz=x.to
    ·rw[ac6 (.inr (.inr (.inl G)))]at b;have f:decide ((x.jz:Int)=x.to)=true:=ady (by omega);simp only[F1,go_sem,simprocAttr,kb,p,j,m,a,b,d,e,f]
    ·have f: ¬(x.jz:Int)=x.to:=by omega
     by_cases F:x.aJ=0
     ·rw[ac6 (.inr (.inr (.inr F)))]at b;have g:decide ((x.aJ:Int)=0)=true:=ady (by omega);simp only[F1,go_sem,simprocAttr,kb,p,j,m,a,b,d,e,f,g]
     ·have g: ¬(x.aJ:Int)=0:=by omega
      rw[ac0 (by omega)]at b;by_cases u:x.aR=0
      ·have i:decide (¬(x.aR:Int)=0)=false:=adb (by omega);rw[ac0 (λh=>h.1 u)]at b;cases hm:sM k x.aJ x.aR
       ·rw[hm]at j b;cases r:x.mu
        ·rw[r,ac0 (by simp)]at b;simp only[F1,go_sem,simprocAttr,kb,p,j,m,a,b,d,e,f,g,i]
        ·rw[r]at b;by_cases c:0<n
         ·have t: (n:Int)>0:=by omega
          rw[ac6 (.inr ⟨rfl,c⟩)]at b;simp only[F1,go_sem,simprocAttr,kb,p,j,m,a,b,d,e,f,g,i,t]
         ·have t: ¬(n:Int)>0:=by omega
          rw[ac0 (by simp;omega)]at b;simp only[F1,go_sem,simprocAttr,kb,p,j,m,a,b,d,e,f,g,i,t]
       ·rw[hm]at j b;rw[ac6 (.inl rfl)]at b;simp only[F1,go_sem,simprocAttr,kb,p,j,m,a,b,d,e,f,g,i]
      ·have i: ¬(x.aR:Int)=0:=by omega
       by_cases y:w.aJ=x.aJ
       ·have l:decide (¬(w.aJ:Int)=x.aJ)=false:=adb (by omega);by_cases v:w.to=x.jz
        ·have o:decide (¬(w.to:Int)=x.jz)=false:=adb (by omega);cases r:x.mu
         ·rw[r,ac0 (by simp[y,v])]at b;cases hm:sM k x.aJ x.aR
          ·rw[hm,ac0 (by simp)]at b;rw[hm]at j;simp only[F1,go_sem,simprocAttr,kb,p,j,m,a,b,d,e,f,g,i,l,o]
          ·rw[hm]at j b;rw[ac6 (.inl rfl)]at b;simp only[F1,go_sem,simprocAttr,kb,p,j,m,a,b,d,e,f,g,i,l,o]
         ·cases q:w.mu
          ·rw[r,q,ac6 (by simp[u])]at b;simp only[F1,go_sem,simprocAttr,kb,p,j,m,a,b,d,e,f,g,i,l,o,q]
          ·rw[r,q,ac0 (by simp[y,v])]at b;cases hm:sM k x.aJ x.aR
           ·rw[hm]at j b;by_cases c:0<n
            ·have t: (n:Int)>0:=by omega
             rw[ac6 (.inr ⟨rfl,c⟩)]at b;simp only[F1,go_sem,simprocAttr,kb,p,j,m,a,b,d,e,f,g,i,l,o,q,t]
            ·have t: ¬(n:Int)>0:=by omega
             rw[ac0 (by simp;omega)]at b;simp only[F1,go_sem,simprocAttr,kb,p,j,m,a,b,d,e,f,g,i,l,o,q,t]
           ·rw[hm]at j b;rw[ac6 (.inl rfl)]at b;simp only[F1,go_sem,simprocAttr,kb,p,j,m,a,b,d,e,f,g,i,l,o,q]
        ·have o: ¬(w.to:Int)=x.jz:=by omega
         rw[ac6 ⟨u,.inr (.inl v)⟩]at b;simp only[F1,go_sem,simprocAttr,kb,p,j,m,a,b,d,e,f,g,i,l,o]
       ·have l: ¬(w.aJ:Int)=x.aJ:=by omega
        rw[ac6 ⟨u,.inl y⟩]at b;simp only[F1,go_sem,simprocAttr,kb,p,j,m,a,b,d,e,f,g,i,l]
end
theorem agT:sj.length=176:=by rfl
theorem agU:List.drop 176 sj=[]:=by rfl
theorem agV{k:bp}:List.drop 176 (ch k)=[]:=by rfl
def qa:type_of% agT/\type_of% agU/\type_of% @agV/\type_of% Kx/\type_of% Ky:=⟨agT,agU,@agV,Kx,Ky⟩
def asM(k:bp)(q:im k)(x:Tok)(w:sZ x)(H:List ae)(lo:oN):
  D X (.fn (.func 268) [] []) [.agg (ch k),.agg (gk x)] ⟨H,lo⟩=some (.ret (.aA [.agg (ch (lr k x).1),.int .u32 (lr k x).2.1,.int .i64 (lr k x).2.2]) ⟨H,lo⟩):=by
 refine aK Bz λN r=>?_
 have hm:=asL k q x w;have e:=λH lo=>up dH (afS k.b q.b H lo)
 have a:=nH x;have d:lr k x=if pJ k x≠0 then(k,0,pJ k x)
  else match nj k.b with
  |some i=>if i<16 then({b:=ai k.b i {k.b i with da:=true},t:=ai k.t i x},dh i (k.b i).gen,0)else(k,0,7)
  |none=>(k,0,7):=rfl
 by_cases c:pJ k x=0
 ·rw[ac0 (by omega)]at d;have p:decide (¬(pJ k x:Int)=0)=false:=adb (by omega);cases j:nj k.b with
  |none=>
   rw[j]at d;simp only at d;have s:=λH lo=>up dH (kg 0 (by omega) H lo)
   have m: ∀H lo,D X (.fn (.func 82) [] []) [.int .u32 0] ⟨H,lo⟩=some (.ret (jo 0) ⟨H,lo⟩):=s;have u:jo 0= .aA [.int .i64 0,.bool false]:=rfl;rw[a]at hm;rw[a];simp only[F1,go_sem,simprocAttr,Bz,r,hm,p,e,sV,pG,j,m,u,qa,d]
  |some i=>
   rw[j]at d;simp only at d;obtain⟨n,A,z,y⟩:=pK j;have v:eX (dh i (k.b i).gen)=some i:=Kj n (q.b i).1;have l:=λH lo=>up dH (kg (dh i (k.b i).gen) (E6 n (q.b i).1) H lo)
   by_cases h:i<16
   ·rw[ac6 h]at d;have f: ¬(i:Int)>=16:=by omega
    have o: (i:Int)<16:=by omega
    have g:=aqt (k:={k with b:=ai k.b i {k.b i with da:=true}}) (x:=x) h;rw[a]at hm g;rw[a];simp only[F1,go_sem,simprocAttr,Bz,r,hm,p,e,sV,pG,j,l,jo,v,f,o,qa,afs,g,d];exact⟨by simp,by omega⟩
   ·rw[ac0 h]at d;have f: (i:Int)>=16:=by omega
    rw[a]at hm;rw[a];simp only[F1,go_sem,simprocAttr,Bz,r,hm,p,e,sV,pG,j,l,jo,v,f,qa,d]
 ·rw[ac6 c]at d;have p: ¬(pJ k x:Int)=0:=by omega
  rw[a]at hm;rw[a];simp only[F1,go_sem,simprocAttr,Bz,r,hm,p,qa,d]
def agW{k:bp}(a:im k): ∀l,im (nu k l):=by
 intro l
 induction l generalizing k with
 |nil=>exact a
 |cons h l b=>
  refine b ⟨E7 a.b h,λi c=>?_,a.t⟩;refine a.lt i ?_;revert c;show((dC k.b h).1 i).da=true->_;unfold dC;split
  ·show(ai k.b (aI h) (nm (k.b (aI h))) i).da=true->_;by_cases e:i=aI h
   ·rw[e,bI];unfold nm;grind
   ·rw[bA e];exact id
  grind
def asN{k:bp}{l:lN}(h:n<l.length):nu k (l.take (n+1))={nu k (l.take n)with b:=(dC (nu k (l.take n)).b (l.getD n default)).1}:=by
 unfold nu;rw[agn,ac7 h,ang,getD_eq h];rfl
def agX(k:bp)(r:im k)(w:AV)(l:lN)(H:List ae)(c:Rd ⟨H,none⟩ w 1 (l.map hC))(q: ∀h∈l,h<4294967296)(p:l.length<2^40)(lo:oN):
  D X (.fn (.func 305) [] []) [.agg (ch k),w] ⟨H,lo⟩=some (.ret (.agg (ch (nu k l))) ⟨H,lo⟩):=by
 refine aK Q6 λN t=>?_
 have a: ∀L lo,gF ⟨H++L,lo⟩ .sl w=some (.int .i64 l.length):=λL lo=>(c.ext (L:=L) (aj:=lo)).bZ
 simp only[go_sem,simprocAttr,Q6,t,a];refine fE l.length (λn e H'=>H'=H++[.box (ch (nu k (l.take n))) none,.box sj none]/\e 2= .ptr N 0/\e 4= .ptr (N+1) 0/\e 7=w/\e 8= .int .i64 l.length/\e 9= .int .i64 n) 0 (by omega) ?_ ?_
 ·trivial
 rintro n x e H' ⟨rfl,j,i,e7,e8,g⟩ v o;simp(disch:=omega) only[cm,F1,go_sem,simprocAttr,aez,j,i,e7,e8,g];refine⟨λs=>?_,λs=>?_⟩
 ·have b:n<l.length:=by omega
  have f:=agW r (l.take n);have m:=λH lo=>up dH (afT (nu k (l.take n)).b f.b (l.getD n default) (q _ (fX b)) H lo)
  have d:=asN (k:=k) b;have u: ∀L lo,cp X ⟨H++L,lo⟩ false 1 (dw w n 0)=some (.int .u32 (l.getD n default:Nat)):=λL lo=>by rw[(c.ext (L:=L) (aj:=lo)).cE b,pH]
  simp(disch:=omega) only[go_sem,simprocAttr,c.cn,u,m,zo,afs,j,i,e7,e8,g];exact⟨by omega,b,by rw[d]⟩
 ·obtain rfl:n=l.length:=by omega
  rw[aeQ];simp only[go_sem,simprocAttr,qa]
def asO(k:bp)(c:im k)(a:Nat)(H:List ae)(lo:oN):
  D X (.fn (.func 291) [] []) [.agg (ch k),.int .u32 a] ⟨H,lo⟩=some (.ret (.agg (ch (Kv k a))) ⟨H,lo⟩):=by
 refine aK QY λN d=>?_
 obtain⟨w,e1,e,e3⟩:=SW k c a (H++[.box (ch k) none,.box sj none]) none;have b:=λH lo=>agX k c w (ns k a) H (e _) (λh hm=>gl ((iQ c.b).1 (ae2.1 hm).1)) (by have:=nr k.b;have: (ns k a).length<=_:=ah5 _ _;omega) lo
 have f:nu k (ns k a)=Kv k a:=rfl;simp only[F1,go_sem,simprocAttr,QY,d,e1,b,qa,f]
def nI(h:Nat):AV×AV:=(.int .u32 h,.bool true)
def mU(a:lN)(k:Nat):lN:=if k∈a then a else a++[k]
def agY(a b:Nat):oP (.int .u32 a) (.int .u32 b)=some (decide (a=b)):=by
 have h:oP (.int .u32 (a:Nat)) (.int .u32 (b:Nat))=some ((a:Int)==(b:Int)):=rfl;rw[h]
 congr 1
 grind
theorem agZ(k:Nat): ∀b:lN,ew (.int .u32 k) (b.map nI)=some (if k∈b then some (.bool true)else none)
 | []=>rfl
 |a::b=>by
  simp only[aj9,nI,ew,agY];by_cases h:k=a
  ·grind
  ·simp only[h,aAM,aeZ,false_or];exact agZ k b
theorem ag0(k:Nat): ∀b:lN,lQ (.int .u32 k) (.bool true) (b.map nI)=some ((mU b k).map nI)
 | []=>rfl
 |a::b=>by
  simp only[aj9,nI,lQ,agY];unfold mU;by_cases h:k=a
  ·subst h;simp[nI]
  ·simp only[h,aAM,aeZ,false_or];rw[ag0 k b];unfold mU;split<;>rfl
def asP{gm:Nat->Option (List (AV×AV))}{H:List ae}{id:Nat}{a:lN}(h:H[id]?=some (.map (a.map nI)))(k:Nat):jK gm ⟨H,lo⟩ .int (.bool false) (.mp id) (.int .u32 k) false=some (.bool (a.contains k)):=by
 unfold jK;rw[ac6 (show kT .int (.int .u32 (k:Nat))=true from rfl)];simp only[mapOf,h,agZ]
 grind
def asQ{H:List ae}{id:Nat}{a:lN}(h:H[id]?=some (.map (a.map nI)))(k:Nat):mv ⟨H,lo⟩ .int (.mp id) (.int .u32 k) (.bool true)=some ⟨H.set id (.map ((mU a k).map nI)),lo⟩:=by
 unfold mv;simp only[h,ag0];rfl
theorem asS{a:lN}{k:Nat}:x∈mU a k↔x=k\/x∈a:=by
 unfold mU
 grind
def asT{l:lN}: ∀ {b:lN} {x:Nat},x∈l.foldl mU b↔x∈l\/x∈b:=by
 induction l with
 |nil=>simp
 |cons a l c=>grind [asS]
def xq(k:bp):Nat->Nat->Prop
 |0,_=>False
 |n+1,h=> ∀x∈R9 k h,xq k n x
def dI(k:bp)(N:Nat)(H:List ae)(m:lN):List ae:=H++[.box (ch k) none,.box sj none,.map (m.map nI),.box [.mp (N+2)] none,.box [.fn (.func 303) [] [.ptr (N+3) 0,.ptr N 0,.ptr (N+4) 0]] none]
def BY{k:bp}{N:Nat}{H:List ae}(a:H.length=N)(m:lN): (dI k N H m).length=N+5:=by simp[dI,a]
def asU(h:Nat)(x:Tok)(p:Nat)(H:List ae)(a:H[p]?=some (.box [.int .u32 (h:Nat)] none))(lo:oN):
  D X (.fn (.func 304) [] [.ptr p 0]) [.agg (gk x)] ⟨H,lo⟩=some (.ret (.bool (decide (x.aR=h))) ⟨H,lo⟩):=by
 refine fi Q5 λN b=>?_
 have c: ∀L,(H++L)[p]?=_:=λL=>bm a
 simp only[F1,go_sem,simprocAttr,Q5,b,nH,c];exact dp (ahR AV.bool (ae0.2 (by omega))) rfl
def asV(k:bp)(A:im k)(N:Nat)(H:List ae)(d:H.length=N): ∀ (n h:Nat),h<4294967296->xq k n h-> ∀ (m:lN) (L:List ae),
  D X (.fn (.func 303) [] [.ptr (N+3) 0,.ptr N 0,.ptr (N+4) 0]) [.int .u32 h] ⟨dI k N H m++L,none⟩=some (.ret (.aA []) ⟨dI k N H ((nv k n h).foldl mU m)++L,none⟩):=by
 intro n
 induction n with
 |zero=>intro h _ u;exact u.elim
 |succ n C=>
  intro h R u m L;refine fi Q4 λM B=>?_
  have g:M=N+5+L.length:=by rw[<-B,aeG,BY d]
  have O: ∀m a,(dI k N H m++a)[N]?=some (.box (ch k) none):=λm a=>by unfold dI;rw[ac8,dB d];rfl
  have g2: ∀m a,(dI k N H m++a)[N+2]?=some (.map (m.map nI)):=λm a=>by unfold dI;rw[ac8,bM d];rfl
  have K: ∀m a,(dI k N H m++a)[N+3]?=some (.box [.mp (N+2)] none):=λm a=>by unfold dI;rw[ac8,bM d];rfl
  have J: ∀m a,(dI k N H m++a)[N+4]?=some (.box [.fn (.func 303) [] [.ptr (N+3) 0,.ptr N 0,.ptr (N+4) 0]] none):=λm a=>by unfold dI;rw[ac8,bM d];rfl
  have gm: ∀m o,(dI k N H m++(L++[o]))[M]?=some o:=λm o=>by
   have:M=(dI k N H m++L).length:=by rw[g,aeG,BY d]
   rw[<-ac8,this];simp
  have s2: ∀m m' a,(dI k N H m++a).set (N+2) (.map (m'.map nI))=dI k N H m'++a:=λm m' a=>by unfold dI;rw[ac8,m7 d,ac8];rfl
  have tk: ∀m o,(dI k N H m++(L++[o])).take M=dI k N H m++L:=λm o=>by
   rw[<-ac8];exact am6 (by rw[g,aeG,BY d])
  have v: ∀m a lo,mv ⟨dI k N H m++a,lo⟩ .int (.mp (N+2)) (.int .u32 (h:Nat)) (.bool true)=some ⟨dI k N H (mU m h)++a,lo⟩:=λm a lo=>by rw[asQ (g2 m a),s2]
  obtain⟨w,e1,r,e3⟩:=KY (S:=Unit) k A (.fn (.func 304) [] [.ptr M 0]) (λx=>decide (x.aR=h)) (λs _=>s) () (M+1) (λ_=>dI k N H (mU m h)++(L++[.box [.int .u32 h] none])) (λ_=>by rw[g,aeG,BY d];simp;omega)
   (λs x a _=>asU h x M _ (bm (gm _ _)) none) none
  simp only[go_sem,simprocAttr,Q4,B,O,K,gm,v,e1,r.bZ,ac8];obtain⟨b,c⟩: ∃b,b=R9 k h:=⟨_,rfl⟩;have i:sL k (λx=>decide (x.aR=h))=b:=c.symm;rw[i]at r⊢;have F:b.length<=32:=by rw[c];exact aga (ah5 _ _) (nr k.b)
  have z: ∀j,j<b.length->(b.take (j+1)).flatMap (nv k n)=(b.take j).flatMap (nv k n)++nv k n (b.getD j default):=λj y=>by
   rw[agn,ac7 y,aoV,getD_eq y];simp
  refine fE b.length (λj e H'=>H'=dI k N H (((b.take j).flatMap (nv k n)).foldl mU (mU m h))++(L++[.box [.int .u32 h] none])/\e 3= .ptr (N+4) 0/\e 11=w/\e 12= .int .i64 b.length/\e 13= .int .i64 j) 0 (by omega) ?_ ?_
  ·simp only[go_sem,simprocAttr];simp
  rintro j y e H' ⟨rfl,P,q,p,l⟩ Q E;simp only[cm,F1,go_sem,simprocAttr,aey,q,p,l];refine⟨λI=>?_,λI=>?_⟩
  ·have f:j<b.length:=by omega
   have hm:=fX f;have t:aq k.b (b.getD j default)=true:=(iQ A.b).1 (by rw[c]at hm⊢;exact(ae2.1 hm).1);have G:=C (b.getD j default) (gl t) (u _ (by rw[c]at hm⊢;exact hm)) (((b.take j).flatMap (nv k n)).foldl mU (mU m h)) (L++[.box [.int .u32 h] none]);simp(disch:=omega) only[go_sem,simprocAttr,r.cn,r.cE,↓pH,P,q,p,l,J,G];refine⟨by omega,f,?_⟩;rw[z j f,ang]
  ·obtain rfl:j=b.length:=by omega
   rw[aeQ];simp only[go_sem,simprocAttr,tk];rw[c];rfl
def xr(k:bp)(h n:Nat):lN:=((bt k.b).take n).filter λx=>(nv k 16 h).contains x
def asW{k:bp}(a:n< (bt k.b).length):xr k h (n+1)=if(nv k 16 h).contains ((bt k.b).getD n default)then xr k h n++[(bt k.b).getD n default]else xr k h n:=by
 unfold xr;rw[agn,ac7 a,ave,getD_eq a]
 grind
def asX{k:bp}: (xr k h n).length<=n:=aga (ah5 _ _) (by grind)
def ag1(k:bp)(A:im k)(h:Nat)(Y:h<4294967296)(ht:aq k.b h=true->xq k 16 h)(H:List ae)(lo:oN):
  ∃w,D X (.fn (.func 269) [] []) [.agg (ch k),.int .u32 h] ⟨H,lo⟩=some (.ret (.aA [.agg (ch (jC k h).1),w,.int .i64 (jC k h).2.2]) ⟨H,lo⟩):=by
 suffices hs: ∃z,D X (.fn (.func 269) [] []) [.agg (ch k),.int .u32 h] ⟨H,lo⟩=some z/\ (λz=> ∃w,z=aU.ret (.aA [.agg (ch (jC k h).1),w,.int .i64 (jC k h).2.2]) ⟨H,lo⟩) z by
  obtain⟨z,h1,w,rfl⟩:=hs;exact⟨w,h1⟩
 refine cI JY λN c=>?_
 have j:=λH lo=>up dH (eC k.b h Y H lo)
 cases y:aq k.b h with
 |false=>
  rw[y]at j;have V:jC k h=(k,[],4):=by unfold jC;rw[y];rfl
  simp only[F1,go_sem,simprocAttr,JY,c,j,qa,V];exact⟨_,rfl⟩
 |true=>
  rw[y]at j;have V:jC k h=(nu k (rn k h),rn k h,0):=by unfold jC;rw[y];rfl
  have B:=asV k A N H c 16 h Y (ht y) [] [];have F: ∀m,dI k N H m=H++[.box (ch k) none,.box sj none,.map (m.map nI),.box [.mp (N+2)] none,.box [.fn (.func 303) [] [.ptr (N+3) 0,.ptr N 0,.ptr (N+4) 0]] none]:=λ_=>rfl
  rw[agc,agc,F []]at B;obtain⟨m,hm⟩: ∃m,m=(nv k 16 h).foldl mU []:=⟨_,rfl⟩;rw[<-hm]at B;obtain⟨v,J,i1,i2⟩:=Sz k.b A.b (N+5) (dI k N H m) (BY c m) none;have C:D X (.fn (.func 56) [] []) [.agg (b0 k.b)] ⟨dI k N H m,none⟩=some _:=pX (p:=mh) rfl i1;have g0: ∀d,(dI k N H m++d)[N]?=some (.box (ch k) none):=λd=>by unfold dI;rw[ac8,dB c];rfl
  have g:=(mj i2 none).bZ;have I:max (N+3+1) (max (N+1) (N+4+1))<=N+4+1:=by omega
  simp only[atZ]at B;have P:N<=N+1:=Nat.le_succ N;have R: (dI k N H m)[N]?=some (.box (ch k) none):=by have:=g0 [];rwa[agc]at this
  simp only[go_sem,simprocAttr,JY,c,j,B,C,g,I,P,R];have g1: ∀d,(dI k N H m++d)[N+1]?=some (.box sj none):=λd=>by unfold dI;rw[ac8,bM c];rfl
  have g2: ∀d,(dI k N H m++d)[N+2]?=some (.map (m.map nI)):=λd=>by unfold dI;rw[ac8,bM c];rfl
  have Z: ∀d,(dI k N H m++d)[N+3]?=some (.box [.mp (N+2)] none):=λd=>by unfold dI;rw[ac8,bM c];rfl
  have K: ∀x,m.contains x=(nv k 16 h).contains x:=λx=>by
   rw[anb,avX,avX,hm,asT];simp
  have sa:=nr k.b;refine fE (bt k.b).length (λn e H'=> ∃L,H'=dI k N H m++(J++L)/\ (∃l,e 9=l/\aP (N+5+J.length) H' l 1 cz ((xr k h n).map hC))/\e 2= .ptr N 0/\e 4= .ptr (N+1) 0/\e 7= .ptr (N+3) 0/\e 25=v/\e 26= .int .i64 (bt k.b).length/\e 27= .int .i64 n) 0 (by omega) ?_ ?_
  ·simp only[go_sem,simprocAttr];exact⟨[],by simp,_,rfl,aP.au⟩
  rintro n hn e H' ⟨L,rfl,⟨l,S,a⟩,U,T,e7,t,s,r⟩ n' GC;simp only[cm,go_sem,simprocAttr,aep,U,t,s,r];refine⟨λhc=>?_,λhc=>?_⟩
  ·have i:n< (bt k.b).length:=by omega
   have b:=asW (k:=k) (h:=h) i;have o:Rd ⟨dI k N H m++(J++L),none⟩ v 1 ((bt k.b).map hC):=mj (by have:=i2.ext (L:=L);rwa[ac8]at this) none;have Q:=o.cE (X:=X) (off:=0) (n:=1) (agg:=false) i;rw[pH]at Q;generalize(bt k.b).getD n default=x at*;have f: ∀gm,jK gm ⟨dI k N H m++(J++L),none⟩ .int (.bool false) (.mp (N+2)) (.int .u32 (x:Nat)) false=some (.bool ((nv k 16 h).contains x)):=λgm=>by rw[asP (g2 _),K]
   have r9:=asX (k:=k) (h:=h) (n:=n);cases W: (nv k 16 h).contains x
   ·rw[W]at f b;simp(disch:=omega) only[go_sem,simprocAttr,U,T,e7,S,t,s,r,o.cn,Q,Z,f];rw[ac0 (by simp)]at b;exact⟨by omega,i,L,rfl,l,rfl,by rw[b];exact a⟩
   ·rw[W]at f b;simp only[go_sem,simprocAttr,e7,S,o.cn,Q,Z,f];refine⟨by omega,qL (H0:=dI k N H m++J) (ys:=[[.int .u32 (x:Nat)]]) a ⟨_,ac8 _ _ _⟩ (by rw[aeG,BY c]) (by omega) (by intro el O;rw[aeH.1 O];rfl) rfl (by unfold room;simp;omega) λv' H2 q G=>?_⟩;obtain⟨L2,rfl⟩:=G;simp(disch:=omega) only[go_sem,simprocAttr,U,T,e7,t,s,r];rw[ac6 rfl]at b;refine⟨i,L2,by simp,v',rfl,?_⟩;rw[b,aeP];rwa[ac8]at q
  ·obtain rfl:n=(bt k.b).length:=by omega
   have M:xr k h (bt k.b).length=rn k h:=by unfold xr rn;rw[aeQ]
   rw[M]at a;have E:=agX k A l (rn k h) (dI k N H m++(J++L)) (mj a none) (λx hx=>gl ((iQ A.b).1 (ae2.1 hx).1)) (by have: (rn k h).length<=_:=ah5 _ _;omega) none;simp only[go_sem,simprocAttr,T,S,g0,g1,E,qa,cZ (g1 _)];have u:iK N H (dI k N H m++(J++L)):=by unfold dI;rw[ac8];exact iK.app c
   have ho:aP N ((dI k N H m++(J++L)).set (N+1) (ae.box (ch (nu k (rn k h))) none)) l 1 cz ((rn k h).map hC):=aP.nG (aP.le a (by omega)) (g1 _);rw[V,agw (.inl rfl) ho ?_ ?_ ?_]
   ·exact⟨bG l ((rn k h).map hC),dp rfl ((u.set (by omega)).take c)⟩
   ·rw[bL (λ_=>rfl)];omega
   ·simp[AV.refs,Kl]
   ·simp[AV.refs]
end Go.Proofs.YteplichagkpciaaGreatDoor
