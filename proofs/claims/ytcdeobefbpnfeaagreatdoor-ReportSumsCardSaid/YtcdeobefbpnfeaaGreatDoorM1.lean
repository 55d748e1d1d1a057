/- A part. -/
import Derived.Test.YtcdeobefbpnfeaaGreatDoorC
set_option linter.all false
set_option maxRecDepth 10000
set_option maxHeartbeats 1000000
namespace Go.Proofs.YtcdeobefbpnfeaaGreatDoor
open Go Go.Den
variable{α:Type}{f:FuncId}{i j n sz h a x aj b aa:Nat}{v:AV}{l:List α}{p:α->Bool}{pf:PF}{lo ak:oN}{af:List lA}
def adZ:=@decide_eq_false
def afD:=@List.mem_singleton
def afS:=@decide_eq_decide
def ag7:=@List.length_filter_le
def ahj:=@Bool.false_and
def ai4:=@List.mem_cons_self
def alg:=@List.set_set
def al2:=@List.foldl_append
def amt:=@Bool.eq_iff_iff
def amS:=@Int.natCast_add
def aog:=@List.take_left'
def aoK:=@Int.cast_ofNat_Int
def aqd:=@List.set_append_right
def aqe:=@List.filter_append
def aqq:=@List.map_eq_nil_iff
def aqs:=@List.getElem_of_mem
def aqO:=@List.prefix_rfl
def aqZ:=@Bool.and_false
def ass:=@List.findIdx?_eq_some_iff_getElem
def au7:=@List.sum_append
def avo:=@Option.isSome_some
def awj:=@Option.isSome_none
def aw0:=@Bool.not_false
def az4:=@List.length_pos_iff
def aAe:=@Nat.xor_lt_two_pow
def aAg:=@eq_true
def aAR:=@Nat.and_two_pow_sub_one_eq_mod
def av{α:Type}(f:Nat->α)(i:Nat)(x:α):Nat->α:=λj=>if j=i then x else f j
theorem ch{f:Nat->α}{x:α}:av f i x i=x:=adV rfl
theorem cF{f:Nat->α}{x:α}(h:j≠i):av f i x j=f j:=ada h
def mE{f:Nat->α}:av f i (f i)=f:=by
 unfold av;grind
def sJ{f:Nat->α}{x y:α}:av (av f i x) i y=av f i y:=by
 unfold av;grind
def ou{β:Type}(g:α->β)(f:Nat->α)(i:Nat)(x:α): (λj=>g (av f i x j))=av (λj=>g (f j)) i (g x):=by
 unfold av;grind
def arr(n:Nat)(f:Nat->lA):lA:=(List.range n).flatMap f
theorem zq(n:Nat)(f:Nat->lA):arr (n+1) f=arr n f++f n:=by
 simp[arr,aoH]
theorem zr{k:Nat}{f:Nat->lA}(h: ∀i,(f i).length=k): ∀n,(arr n f).length=n*k
 |0=>by simp[arr]
 |n+1=>by rw[zq,aem,zr h n,h,aou]
theorem zs{f g:Nat->lA}: ∀ {n:Nat},(∀i,i<n->f i=g i)->arr n f=arr n g
 |0,_=>rfl
 |n+1,h=>by rw[zq,zq,zs (n:=n) λi j=>h i (by omega),h n (by omega)]
def arv(n m:Nat)(f:Nat->lA):arr (n+m) f=arr n f++arr m (λj=>f (n+j)):=by
 induction m with
 |zero=>simp[arr]
 |succ m h=>grind [Nat.add_assoc,zq,List.append_assoc]
def Sv{f:Nat->lA}(h:i<n):arr n f=arr i f++(f i++arr (n-i-1) λj=>f (i+1+j)):=by
 obtain⟨m,rfl⟩: ∃m,n=i+1+m:=⟨n-i-1,by omega⟩;rw[arv,zq,adW,show i+1+m-i-1=m by omega]
theorem B2{f:Nat->lA}(h: ∀i,aI (f i)=0): ∀n,aI (arr n f)=0
 |0=>rfl
 |n+1=>by
  rw[zq];have: ∀a b:lA,aI (a++b)=max (aI a) (aI b):=by
   intro a b
   induction a with
   |nil=>rfl
   |cons x a j=>simp[aI,j,Nat.max_assoc]
  rw[this,B2 h n,h];rfl
def FE(a b:lA):aI (a++b)=max (aI a) (aI b):=by
 induction a with
 |nil=>rfl
 |cons x a f=>simp[aI,f,Nat.max_assoc]
section
variable{ag:Bool}{m off:Nat}{a r vs:lA}
theorem jg(h:a.length<=off):Den.part ag m (a++r) off=Den.part ag m r (off-a.length):=by
 unfold Den.part;cases ag
 ·grind
 ·grind [List.drop_append,List.drop_eq_nil_of_le,List.length_append]
theorem l7(h:off+m<=a.length)(f:0<m):Den.part ag m (a++r) off=Den.part ag m a off:=by
 unfold Den.part
 grind
theorem zt(h:a.length=m):Den.part true m a 0=some (.agg a):=by
 unfold Den.part
 grind
def jF{k o:Nat}{f:Nat->lA}(h: ∀i,(f i).length=k)(j:i<n)(ho:o+m<=k)(l:0<m):Den.part ag m (arr n f) (i*k+o)=Den.part ag m (f i) o:=by
 rw[Sv j,jg (by rw[zr h];omega),zr h,show i*k+o-i*k=o by omega,l7 (by grind) l]
def fo(h:a.length<=off):aK (a++r) off vs=a++aK r (off-a.length) vs:=by
 unfold aK;rw[axK,ael h,aty,ahl (by omega),ahk,adW,show off+vs.length-a.length=off-a.length+vs.length by omega]
def nd(h:off+vs.length<=a.length):aK (a++r) off vs=aK a off vs++r:=by
 unfold aK
 grind
def ko(h:a.length=vs.length):aK a 0 vs=vs:=by
 unfold aK
 grind
def l8{k o:Nat}{f:Nat->lA}(h: ∀i,(f i).length=k)(l:i<n)(ho:o+vs.length<=k):aK (arr n f) (i*k+o) vs=arr n (av f i (aK (f i) o vs)):=by
 have e1:arr i (av f i (aK (f i) o vs))=arr i f:=zs λj q=>cF (by omega)
 have p: (arr (n-i-1) λj=>av f i (aK (f i) o vs) (i+1+j))=arr (n-i-1) λj=>f (i+1+j):=zs λj _=>cF (by omega)
 rw[Sv (f:=av f i (aK (f i) o vs)) l,ch,e1,p];rw[Sv l,fo (by rw[zr h];omega),zr h,show i*k+o-i*k=o by omega,nd (by grind)]
end
def Sw{ag:Bool}{k:Nat}{cs:lA}(f:k<n)(h:Den.part ag sz cs (k*sz)=some v):qw ag n sz (.agg cs) (.int .i64 k)=some v:=by
 have:qw ag n sz (.agg cs) (.int .i64 k)=if 0<=(k:Int)/\ (k:Int)<n then Den.part ag sz cs ((k:Int).toNat*sz)else none:=rfl
 grind
theorem afB{id off:Nat}:Den.wg n (.ptr id off)= .rd id off (Nat.max n 1):=rfl
theorem afC{id off:Nat}:HP n (.ptr id off)= .wr id off n:=rfl
@[irreducible]def cat (H L:List ae):List ae:=H++L
section
variable{H L M:List ae}{a b c d e g x:ae}{n:Nat}
theorem ft:cat H L=H++L:=by unfold cat;rfl
def KV: (cat H L).length=H.length+L.length:=by rw[ft,aem]
def Sx:cat H L++M=cat H (L++M):=by rw[ft,ft,adW]
def ct2(h:H.length=n): (cat H L++M).take n=H:=by rw[ft,adW];grind
def ct1(h:H.length=n): (cat H L).take n=H:=by rw[ft];grind
def cg0(h:H.length=n): (cat H (a::L)++M)[n]?=some a:=by rw[ft,adW,dv h];rfl
def OQ(h:H.length=n): (cat H (a::L)++M).set n x=cat H (x::L)++M:=by grind [ft,List.append_assoc,HJ]
def cp0(h:H.length=n): (cat H (a::L))[n]?=some a:=by rw[ft,dv h];rfl
def cq0(h:H.length=n): (cat H (a::L)).set n x=cat H (x::L):=by grind [ft,HJ]
def cg1(h:H.length=n): (cat H (a::b::L)++M)[n+1]?=some b:=by rw[ft,adW,bA h];rfl
def cs1(h:H.length=n): (cat H (a::b::L)++M).set (n+1) x=cat H (a::x::L)++M:=by grind [ft,List.append_assoc,mZ]
def cp1(h:H.length=n): (cat H (a::b::L))[n+1]?=some b:=by rw[ft,bA h];rfl
def cq1(h:H.length=n): (cat H (a::b::L)).set (n+1) x=cat H (a::x::L):=by grind [ft,mZ]
def cg2(h:H.length=n): (cat H (a::b::c::L)++M)[n+2]?=some c:=by rw[ft,adW,bA h];rfl
def cs2(h:H.length=n): (cat H (a::b::c::L)++M).set (n+2) x=cat H (a::b::x::L)++M:=by grind [ft,List.append_assoc,mZ]
def cp2(h:H.length=n): (cat H (a::b::c::L))[n+2]?=some c:=by rw[ft,bA h];rfl
def cq2(h:H.length=n): (cat H (a::b::c::L)).set (n+2) x=cat H (a::b::x::L):=by grind [ft,mZ]
def cg3(h:H.length=n): (cat H (a::b::c::d::L)++M)[n+3]?=some d:=by rw[ft,adW,bA h];rfl
def cs3(h:H.length=n): (cat H (a::b::c::d::L)++M).set (n+3) x=cat H (a::b::c::x::L)++M:=by grind [ft,List.append_assoc,mZ]
def cp3(h:H.length=n): (cat H (a::b::c::d::L))[n+3]?=some d:=by rw[ft,bA h];rfl
def cq3(h:H.length=n): (cat H (a::b::c::d::L)).set (n+3) x=cat H (a::b::c::x::L):=by grind [ft,mZ]
def cg4(h:H.length=n): (cat H (a::b::c::d::e::L)++M)[n+4]?=some e:=by rw[ft,adW,bA h];rfl
def cs4(h:H.length=n): (cat H (a::b::c::d::e::L)++M).set (n+4) x=cat H (a::b::c::d::x::L)++M:=by grind [ft,List.append_assoc,mZ]
def cp4(h:H.length=n): (cat H (a::b::c::d::e::L))[n+4]?=some e:=by rw[ft,bA h];rfl
def cq4(h:H.length=n): (cat H (a::b::c::d::e::L)).set (n+4) x=cat H (a::b::c::d::x::L):=by grind [ft,mZ]
def cg5(h:H.length=n): (cat H (a::b::c::d::e::g::L)++M)[n+5]?=some g:=by rw[ft,adW,bA h];rfl
def cs5(h:H.length=n): (cat H (a::b::c::d::e::g::L)++M).set (n+5) x=cat H (a::b::c::d::e::x::L)++M:=by grind [ft,List.append_assoc,mZ]
def cp5(h:H.length=n): (cat H (a::b::c::d::e::g::L))[n+5]?=some g:=by rw[ft,bA h];rfl
def cq5(h:H.length=n): (cat H (a::b::c::d::e::g::L)).set (n+5) x=cat H (a::b::c::d::e::x::L):=by grind [ft,mZ]
end
structure Slot where
 gen:Nat
 ea:Bool
 ret:Bool
 deriving DecidableEq,Inhabited
abbrev cJ:=Nat->Slot
def jc(s:Slot):lA:=[.int .u32 s.gen,.bool s.ea,.bool s.ret]
def bX(b:cJ):lA:=arr 32 λi=>jc (b i)
theorem KW(s:Slot): (jc s).length=3:=rfl
theorem ov(b:cJ): (bX b).length=96:=by rfl
theorem Sy(b:cJ):aI (bX b)=0:=by rfl
section
variable{b:cJ}{i:Nat}
theorem Sz:Den.part true 96 (bX b) 0=some (.agg (bX b)):=by rfl
def af2(h:i<32):Den.part true 3 (bX b) (i*3)=some (.agg (jc (b i))):=jF (k:=3) (o:=0) (f:=λi=>jc (b i)) (λi=>KW (b i)) h (by omega) (by omega)
def SA(h:i<32):qw true 32 3 (.agg (bX b)) (.int .i64 i)=some (.agg (jc (b i))):=Sw h (af2 h)
def af3(h:i<32):Den.part false 1 (bX b) (i*3)=some (.int .u32 (b i).gen):=jF (k:=3) (o:=0) (f:=λi=>jc (b i)) (λi=>KW (b i)) h (by omega) (by omega)
def af4(h:i<32):Den.part false 1 (bX b) (i*3+1)=some (.bool (b i).ea):=jF (k:=3) (o:=1) (f:=λi=>jc (b i)) (λi=>KW (b i)) h (by omega) (by omega)
def SB{s:Slot}{o:Nat}{vs:lA}(h:i<32)(ho:o+vs.length<=3)(j:aK (jc (b i)) o vs=jc s):aK (bX b) (i*3+o) vs=bX (av b i s):=by
 unfold bX;rw[l8 (k:=3) (f:=λi=>jc (b i)) (λi=>KW (b i)) h ho,j,ou]
theorem arw{g:Nat}(h:i<32):aK (bX b) (i*3) [.int .u32 g]=bX (av b i {b i with gen:=g}):=SB (o:=0) h (by simp) rfl
def arx{g:Nat}(h:i<32):aK (bX b) (i*3) [.int .u32 ((g:Int)+1)]=bX (av b i {b i with gen:=g+1}):=arw (g:=g+1) h
theorem af5{v:Bool}(h:i<32):aK (bX b) (i*3+1) [.bool v]=bX (av b i {b i with ea:=v}):=SB (o:=1) h (by simp) rfl
theorem ary{v:Bool}(h:i<32):aK (bX b) (i*3+2) [.bool v]=bX (av b i {b i with ret:=v}):=SB (o:=2) h (by simp) rfl
theorem af6: (bX b).take 96=bX b:=by rfl
end
def eN(h:Nat):oN:=if 1<=h % 256/\h % 256<=32/\h/256<=8388607 then some (h % 256-1)else none
def c7(i f:Nat):Nat:=f*256+i+1
def af7(e:eN h=some i):i<32:=by
 unfold eN at e;grind
def KX{f:Nat}(h:i<32)(j:f<=8388607):eN (c7 i f)=some i:=by
 unfold eN c7
 grind
def af8{a b c:lA}(h:b=c):a++b=a++c:=by rw[h]
def aCx{a b c:lA}(h:b=c):b++a=c++a:=by rw[h]
abbrev aD:=Nat×Nat
structure dm where
 up:Nat
 dn:Nat
 runs:List aD
 len:Nat
 cells:Nat->Nat
structure aw where
 b:cJ
 r:Nat->dm
structure Ow where
 kind:Nat
 aa:Nat
 hold:Nat
 deriving DecidableEq
structure Sd where
 root:Nat
 own:Ow
 deriving DecidableEq
abbrev bI:=Nat->Sd
structure Tok where
 aR:Nat
 jh:Nat
 to:Nat
 mu:Bool
 aU:Nat
 deriving DecidableEq
structure br where
 b:cJ
 t:Nat->Tok
structure kp where
 fr:Nat
 word:Nat
 aR:Nat
 share:Bool
 deriving DecidableEq
structure cS where
 ring:Nat->kp
 fr:Nat
 n:Nat
 closed:Bool
structure bu where
 T:aw
 O:bI
 K:br
 cw:Nat->cS
 alive:Nat->Bool
 born:Nat->Bool
structure cx where
 op:Nat
 r:Nat
 s:Nat
 a:Nat
 b:Nat
 v:Nat
 deriving DecidableEq
structure bF where
 e:Nat
 v:Nat
 w:Nat
 deriving DecidableEq
def aA(r:aD):lA:=[.int .i64 (r.1:Nat),.int .i64 (r.2:Nat)]
def ed(l:List aD):AV:=if l.isEmpty then .aq else .sl (l.map aA) false
def bR(r:dm):lA:=[.int .u32 r.up,.int .i64 r.dn,ed r.runs,.int .i64 r.len]++arr 8 λi=>[.int .u32 (r.cells i)]
def wV(f:Nat->dm):lA:=arr 32 λi=>bR (f i)
def aO(t:aw):lA:=bX t.b++wV t.r
def jG(o:Ow):lA:=[.int .u8 o.kind,.int .u8 o.aa,.int .u8 o.hold]
def sK(x:Sd):lA:=[.int .u32 x.root,.int .u8 x.own.kind,.int .u8 x.own.aa,.int .u8 x.own.hold]
def cN(o:bI):lA:=arr 32 λi=>sK (o i)
def fL(x:Tok):lA:=[.int .u32 x.aR,.int .u8 x.jh,.int .u8 x.to,.bool x.mu,.int .u32 x.aU]
def FF(f:Nat->Tok):lA:=arr 16 λi=>fL (f i)
def b9(k:br):lA:=bX k.b++FF k.t
def eF(m:kp):lA:=[.int .u8 m.fr,.int .u64 m.word,.int .u32 m.aR,.bool m.share]
def KY(f:Nat->kp):lA:=arr 4 λi=>eF (f i)
def cA(b:cS):lA:=KY b.ring++[.int .i64 b.fr,.int .i64 b.n,.bool b.closed]
def zu(f:Nat->cS):lA:=arr 8 λi=>cA (f i)
def sL(f:Nat->Bool):lA:=arr 8 λi=>[.bool (f i)]
def gC(T:aw)(O:bI)(K:br):lA:=aO T++(cN O++b9 K)
def bo(s:bu):lA:=aO s.T++(cN s.O++(b9 s.K++(zu s.cw++(sL s.alive++sL s.born))))
def bp(c:cx):lA:=[.int .u8 c.op,.int .u32 c.r,.int .u32 c.s,.int .u32 c.a,.int .u32 c.b,.int .u64 c.v]
def bG(r:bF):lA:=[.int .i64 r.e,.int .u64 r.v,.int .u32 r.w]
theorem zv(r:dm): (bR r).length=12:=by rfl
theorem aCy(f:Nat->dm): (wV f).length=384:=by rfl
theorem iv(t:aw): (aO t).length=480:=by rfl
theorem sM(o:bI): (cN o).length=128:=by rfl
theorem aCz(f:Nat->Tok): (FF f).length=80:=by rfl
theorem zw(k:br): (b9 k).length=176:=by rfl
theorem af9(f:Nat->kp): (KY f).length=16:=by rfl
theorem zx(b:cS): (cA b).length=19:=by rfl
theorem pO(f:Nat->cS): (zu f).length=152:=by rfl
theorem FG(f:Nat->Bool): (sL f).length=8:=by rfl
theorem lb(T:aw)(O:bI)(K:br): (gC T O K).length=784:=by simp only[gC,aem,iv,sM,zw]
def ee(s:bu): (bo s).length=952:=by simp only[bo,aem,iv,sM,zw,pO,FG]
def SC(l:List aD): (ed l).refs=0:=by
 unfold ed;split
 ·rfl
 ·exact bB (λ_=>rfl) l
def arz{g:Nat->AV}(h: ∀i,(g i).refs=0)(n:Nat):aI (arr n λi=>[g i])=0:=B2 (λi=>by simp[aI,h]) n
def SD(r:dm):aI (bR r)=0:=by
 rw[bR,FE,arz (λ_=>rfl)];simp[aI,AV.refs,SC]
def arA(f:Nat->dm):aI (wV f)=0:=B2 (λi=>SD (f i)) 32
def wW(t:aw):aI (aO t)=0:=by rw[aO,FE,Sy,arA];rfl
theorem SE(o:bI):aI (cN o)=0:=by rfl
theorem KZ(k:br):aI (b9 k)=0:=by rfl
theorem aga(b:cS):aI (cA b)=0:=by rfl
theorem arB(f:Nat->cS):aI (zu f)=0:=by rfl
theorem arC(f:Nat->Bool):aI (sL f)=0:=by rfl
def mF(s:bu):aI (bo s)=0:=by simp only[bo,FE,wW,SE,KZ,arB,arC];rfl
def mG(l:List aD):Rv (ed l) 2 (l.map aA):=by
 cases l with
 |nil=>exact .aq
 |cons a l=>exact .sl (by intro el h;obtain⟨x,_,rfl⟩:=afJ.1 h;rfl)
def SF{ag:Bool}{m:Nat}{a b r:lA}{off:Nat}(c:a.length=off):Den.part ag m (a++r) off=Den.part ag m r 0:=by grind [jg]
theorem wX{m:Nat}{a r:lA}(c:a.length=m)(b:0<m):Den.part true m (a++r) 0=some (.agg a):=by grind [l7,zt]
section
variable{ag:Bool}{m o i:Nat}
theorem agb{r:dm}:Den.part false 1 (bR r) 0=some (.int .u32 r.up):=rfl
theorem agc{r:dm}:Den.part false 1 (bR r) 1=some (.int .i64 r.dn):=rfl
theorem agd{r:dm}:Den.part false 1 (bR r) 2=some (ed r.runs):=rfl
theorem age{r:dm}:Den.part false 1 (bR r) 3=some (.int .i64 r.len):=rfl
theorem agf{r:dm}:Den.part true 2 (bR r) 2=some (.agg [ed r.runs,.int .i64 r.len]):=rfl
theorem K0{r:dm}:Den.part true 8 (bR r) 4=some (.agg (arr 8 λi=>[.int .u32 (r.cells i)])):=by rfl
theorem SG{t:aw}:Den.part true 96 (aO t) 0=some (.agg (bX t.b)):=by rfl
theorem agh{t:aw}:Den.part true 480 (aO t) 0=some (.agg (aO t)):=by rfl
def agi{t:aw}(h:i<32)(ho:o+m<=12)(a:0<m):Den.part ag m (aO t) (96+i*12+o)=Den.part ag m (bR (t.r i)) o:=by
 unfold aO;rw[jg (by rw[ov];omega),ov,show 96+i*12+o-96=i*12+o by omega];exact jF (k:=12) (f:=λi=>bR (t.r i)) (λi=>zv _) h ho a
def arD{t:aw}(h:i<32):Den.part true 12 (aO t) (96+i*12)=some (.agg (bR (t.r i))):=by
 have:=agi (ag:=true) (m:=12) (o:=0) (t:=t) h (by omega) (by omega);rw[afM]at this;rw[this,zt (zv _)]
def SH{t:aw}(h:i<32):Den.part false 1 (aO t) (96+i*12)=some (.int .u32 (t.r i).up):=agi (o:=0) h (by omega) (by omega)
def K1{t:aw}{r:dm}(h:i<32):aK (aO t) (96+i*12) (bR r)=aO {t with r:=av t.r i r}:=by
 unfold aO;rw[fo (by rw[ov];omega),ov,show 96+i*12-96=i*12+0 by omega];unfold wV;rw[l8 (k:=12) (f:=λi=>bR (t.r i)) (λi=>zv _) h (by rw[zv];omega),ko (by rfl),ou]
def agj{t:aw}{u:Nat}(h:i<32):aK (aO t) (96+i*12) [.int .u32 u]=aO {t with r:=av t.r i {t.r i with up:=u}}:=by
 unfold aO;rw[fo (by rw[ov];omega),ov,show 96+i*12-96=i*12+0 by omega];unfold wV;rw[l8 (k:=12) (f:=λi=>bR (t.r i)) (λi=>zv _) h (by simp),ou];rfl
theorem arE{r:dm}{u:Nat}:aK (bR r) 0 [.int .u32 u]=bR {r with up:=u}:=rfl
def agk{r:dm}{u:Nat}(h:i<8):aK (bR r) (4+i) [.int .u32 u]=bR {r with cells:=av r.cells i u}:=by
 unfold bR;rw[fo (by simp)];refine af8 ?_;have:=l8 (n:=8) (k:=1) (i:=i) (o:=0) (vs:=[AV.int .u32 u]) (f:=λi=>[AV.int .u32 (r.cells i)]) (λ_=>rfl) h (by simp);rw[show 4+i- [AV.int .u32 r.up,.int .i64 r.dn,ed r.runs,.int .i64 r.len].length=i*1+0 by simp,this];exact ag9 (arr 8) (ou (λu:Nat=>[AV.int .u32 u]) r.cells i u).symm
def agl{w:bI}(h:i<32)(ho:o+m<=4)(a:0<m):Den.part ag m (cN w) (i*4+o)=Den.part ag m (sK (w i)) o:=
 jF (k:=4) (f:=λi=>sK (w i)) (λ_=>rfl) h ho a
theorem agm{w:bI}:Den.part true 128 (cN w) 0=some (.agg (cN w)):=by rfl
def agn{w:bI}(h:i<32):Den.part false 1 (cN w) (i*4)=some (.int .u32 (w i).root):=agl (o:=0) h (by omega) (by omega)
def arF{w:bI}(h:i<32):Den.part true 3 (cN w) (i*4+1)=some (.agg (jG (w i).own)):=agl (o:=1) h (by omega) (by omega)
def arG{w:bI}{x:Sd}(h:i<32):aK (cN w) (i*4) (sK x)=cN (av w i x):=by
 have:=l8 (n:=32) (k:=4) (i:=i) (o:=0) (vs:=sK x) (f:=λi=>sK (w i)) (λ_=>rfl) h (by simp[sK]);unfold cN;rw[show i*4=i*4+0 by omega,this,ko (a:=sK (w i)) (vs:=sK x) rfl,ou]
theorem ago{k:br}:Den.part true 96 (b9 k) 0=some (.agg (bX k.b)):=by rfl
theorem SI{k:br}:Den.part true 176 (b9 k) 0=some (.agg (b9 k)):=by rfl
def arH{f:Nat->Tok}(h:i<16):Den.part true 5 (FF f) (i*5)=some (.agg (fL (f i))):=
 jF (k:=5) (o:=0) (f:=λi=>fL (f i)) (λ_=>rfl) h (by omega) (by omega)
def arI{k:br}(h:i<16):Den.part true 5 (b9 k) (96+i*5)=some (.agg (fL (k.t i))):=by
 unfold b9;rw[jg (by rw[ov];omega),ov,show 96+i*5-96=i*5 by omega];exact arH h
theorem agp{k:br}{b:cJ}:aK (b9 k) 0 (bX b)=b9 {k with b:=b}:=by rfl
def arJ{k:br}{x:Tok}(h:i<16):aK (b9 k) (96+i*5) (fL x)=b9 {k with t:=av k.t i x}:=by
 unfold b9;rw[fo (by rw[ov];omega),ov,show 96+i*5-96=i*5+0 by omega];unfold FF;rw[l8 (k:=5) (f:=λi=>fL (k.t i)) (λ_=>rfl) h (by simp[fL]),ko (a:=fL (k.t i)) (vs:=fL x) rfl,ou]
def arK{f:Nat->kp}(h:i<4):Den.part true 4 (KY f) (i*4)=some (.agg (eF (f i))):=
 jF (k:=4) (o:=0) (f:=λi=>eF (f i)) (λ_=>rfl) h (by omega) (by omega)
theorem qY{b:cS}:Den.part true 19 (cA b) 0=some (.agg (cA b)):=by rfl
def agq{b:cS}(h:i<4):Den.part true 4 (cA b) (i*4)=some (.agg (eF (b.ring i))):=by
 unfold cA;rw[l7 (by rw[af9];omega) (by omega)];exact arK h
theorem agr{b:cS}:Den.part false 1 (cA b) 16=some (.int .i64 b.fr):=by rfl
theorem B3{b:cS}:Den.part false 1 (cA b) 17=some (.int .i64 b.n):=by rfl
theorem zy{b:cS}:Den.part false 1 (cA b) 18=some (.bool b.closed):=by rfl
def arL{b:cS}{x:kp}(h:i<4):aK (cA b) (i*4) (eF x)=cA {b with ring:=av b.ring i x}:=by
 unfold cA;rw[nd (by rw[af9];simp[eF];omega)];unfold KY;rw[show i*4=i*4+0 by omega,l8 (k:=4) (f:=λi=>eF (b.ring i)) (λ_=>rfl) h (by simp[eF]),ko (a:=eF (b.ring i)) (vs:=eF x) rfl,ou]
theorem arM{b:cS}:aK (cA b) 16 [.int .i64 x]=cA {b with fr:=x}:=by rfl
theorem ags{b:cS}:aK (cA b) 17 [.int .i64 x]=cA {b with n:=x}:=by rfl
theorem arN{b:cS}{x:Bool}:aK (cA b) 18 [.bool x]=cA {b with closed:=x}:=by rfl
def agt{f:Nat->Bool}(h:i<8):Den.part false 1 (sL f) i=some (.bool (f i)):=by
 have:=jF (ag:=false) (m:=1) (n:=8) (k:=1) (i:=i) (o:=0) (f:=λi=>[AV.bool (f i)]) (λ_=>rfl) h (by omega) (by omega);rw[show i*1+0=i by omega]at this;exact this
def arO{f:Nat->cS}(h:i<8):Den.part true 19 (zu f) (i*19)=some (.agg (cA (f i))):=by
 have:=jF (ag:=true) (m:=19) (n:=8) (k:=19) (i:=i) (o:=0) (f:=λi=>cA (f i)) (λ_=>zx _) h (by omega) (by omega);exact this.trans qY
def pP{T:aw}{O:bI}{K:br}:Den.part true 480 (gC T O K) 0=some (.agg (aO T)):=wX (iv _) (by omega)
theorem pQ{T:aw}{O:bI}{K:br}:Den.part true 128 (gC T O K) 480=some (.agg (cN O)):=by
 unfold gC;rw[SF (b:=[]) (iv _)];exact wX (sM _) (by omega)
theorem qZ{T:aw}{O:bI}{K:br}:Den.part true 176 (gC T O K) 608=some (.agg (b9 K)):=by
 unfold gC;rw[jg (by rw[iv];omega),iv,SF (b:=[]) (sM _)];exact SI
theorem ow(s:bu):bo s=gC s.T s.O s.K++(zu s.cw++(sL s.alive++sL s.born)):=by simp[bo,gC]
theorem SJ{s:bu}:Den.part true 784 (bo s) 0=some (.agg (gC s.T s.O s.K)):=by grind [ow,wX,lb]
theorem SM{s:bu}:Den.part true 952 (bo s) 0=some (.agg (bo s)):=zt (ee s)
theorem wY{s:bu}:Den.part true 480 (bo s) 0=some (.agg (aO s.T)):=wX (iv _) (by omega)
theorem B4{s:bu}:Den.part true 128 (bo s) 480=some (.agg (cN s.O)):=by grind [ow,l7,lb,pQ]
theorem K2{s:bu}:Den.part true 176 (bo s) 608=some (.agg (b9 s.K)):=by grind [ow,l7,lb,qZ]
theorem arP{s:bu}(h:i<8):Den.part true 19 (bo s) (784+i*19)=some (.agg (cA (s.cw i))):=by
 rw[ow,jg (by rw[lb];omega),lb,show 784+i*19-784=i*19 by omega,l7 (by rw[pO];omega) (by omega)];exact arO h
def aCA{s:bu}:Den.part true 152 (bo s) 784=some (.agg (zu s.cw)):=by
 rw[ow,SF (b:=[]) (lb _ _ _)];exact wX (pO _) (by omega)
theorem SN{s:bu}(h:i<8):Den.part false 1 (bo s) (936+i)=some (.bool (s.alive i)):=by
 rw[ow,jg (by rw[lb];omega),lb,jg (by rw[pO];omega),pO,show 936+i-784-152=i by omega,l7 (by trivial) (by omega)];exact agt h
theorem arQ{s:bu}(h:i<8):Den.part false 1 (bo s) (944+i)=some (.bool (s.born i)):=by
 rw[ow,jg (by rw[lb];omega),lb,jg (by rw[pO];omega),pO,jg (by rw[FG];omega),FG,show 944+i-784-152-8=i by omega];exact agt h
def arR{s:bu}{t:aw}:aK (bo s) 0 (aO t)=bo {s with T:=t}:=by
 unfold bo;rw[nd (by grind [iv]),ko (by rw[iv,iv])]
def arS{s:bu}{w:bI}:aK (bo s) 480 (cN w)=bo {s with O:=w}:=by
 unfold bo;rw[fo (by rw[iv];omega),iv,nd (by grind [sM]),ko (by rfl)]
def arT{s:bu}{k:br}:aK (bo s) 608 (b9 k)=bo {s with K:=k}:=by
 unfold bo;rw[fo (by rw[iv];omega),iv,fo (by rw[sM];omega),sM,nd (by rw[zw,zw];omega),ko (by rfl)]
def arU{s:bu}{b:cS}(h:i<8):aK (bo s) (784+i*19) (cA b)=bo {s with cw:=av s.cw i b}:=by
 rw[ow,fo (by rw[lb];omega),lb,show 784+i*19-784=i*19+0 by omega,nd (by rw[pO,zx];omega),ow];unfold zu;rw[l8 (k:=19) (f:=λi=>cA (s.cw i)) (λ_=>zx _) h (by rw[zx];omega),ko (by rfl),ou]
def agu{f:Nat->Bool}{v:Bool}(h:i<8):aK (sL f) i [.bool v]=sL (av f i v):=by
 have:=l8 (n:=8) (k:=1) (i:=i) (o:=0) (vs:=[AV.bool v]) (f:=λi=>[AV.bool (f i)]) (λ_=>rfl) h (by simp);rw[show i*1+0=i by omega]at this;unfold sL;rw[this];exact ag9 (arr 8) (ou (λv:Bool=>[AV.bool v]) f i v).symm
def agv{s:bu}{v:Bool}(h:i<8):aK (bo s) (936+i) [.bool v]=bo {s with alive:=av s.alive i v}:=by
 rw[ow,fo (by rw[lb];omega),lb,fo (by rw[pO];omega),pO,show 936+i-784-152=i by omega,nd (by trivial),agu h,ow]
def agw{s:bu}{v:Bool}(h:i<8):aK (bo s) (944+i) [.bool v]=bo {s with born:=av s.born i v}:=by
 rw[ow,fo (by rw[lb];omega),lb,fo (by rw[pO];omega),pO,fo (by rw[FG];omega),FG,show 944+i-784-152-8=i by omega,agu h,ow]
end
theorem agx{t:aw}: (aO t).take 480=aO t:=by rfl
theorem agy{k:br}: (b9 k).take 176=b9 k:=by rfl
theorem agz{r:dm}:Den.part true 12 (bR r) 0=some (.agg (bR r)):=by rfl
theorem agA{t:aw}:List.drop 96 (aO t)=wV t.r:=by rfl
theorem agB{b:cJ}{r:Nat->dm}:bX b++wV r=aO ⟨b,r⟩:=rfl
theorem agC{u:Nat}{r:dm}:AV.int .u32 (u:Nat)::List.drop 1 (bR r)=bR {r with up:=u}:=rfl
theorem agD{b:cJ}{f:Nat->Tok}:bX b++FF f=b9 ⟨b,f⟩:=rfl
theorem SO(r:aD): (aA r).length=2:=rfl
theorem agE{r:aD}:Den.part false 1 (aA r) 0=some (.int .i64 (r.1:Nat)):=rfl
theorem agF{r:aD}:Den.part false 1 (aA r) 1=some (.int .i64 (r.2:Nat)):=rfl
theorem SP{r:aD}:Den.part true 2 (aA r) 0=some (.agg (aA r)):=rfl
theorem agG{r:aD}: (aA r).take 2=aA r:=rfl
theorem agH{r:aD}: (aA r).drop 2=[]:=rfl
theorem agI(r:aD):aI (aA r)=0:=rfl
def ML:=gG @SO<|gG @agG<|gG @agH<|gG @agI<|gG @agA<|gG @agB<|gG @agC<|gG @agD<|gG @af6<|gG @ov<|gG @Sy<|gG @agx<|gG @iv<|gG @wW<|gG @zv<|gG @SD<|gG @sM<|gG @SE<|gG @agy<|gG @zw @KZ
def MP:=gG @agE<|gG @agF<|gG @SP<|gG @Sz<|gG @agb<|gG @agc<|gG @agd<|gG @age<|gG @agf<|gG @agz<|gG @SG<|gG @agh<|gG @agm<|gG @ago @SI
def Zz:type_of% @R2/\type_of% @C1/\type_of% @P1/\type_of% @N1/\type_of% @O1/\type_of% @V1/\type_of% @V2/\type_of% @V3/\type_of% @wrap_i64/\type_of% @wrap_u64/\type_of% @wrap_u8/\type_of% @wrap_u16/\type_of% @wrap_u32/\type_of% @wrap_i32/\type_of% @dv/\type_of% @bA/\type_of% @HJ/\type_of% @mZ/\type_of% @kb/\type_of% @Zn/\type_of% @adE/\type_of% @Option.isSome_some.{0}/\type_of% @Option.isSome_none.{0}/\type_of% @Option.getD_some.{0}/\type_of% @Option.getD_none.{0}/\type_of% @Bool.not_true/\type_of% @Bool.not_false/\type_of% @cg0/\type_of% @cg1/\type_of% @cg2/\type_of% @cg3/\type_of% @cg4/\type_of% @cg5/\type_of% @OQ/\type_of% @cs1/\type_of% @cs2/\type_of% @cs3/\type_of% @cs4/\type_of% @cs5/\type_of% @ct2/\type_of% @ct1/\type_of% @cp0/\type_of% @cp1/\type_of% @cp2/\type_of% @cp3/\type_of% @cp4/\type_of% @cp5/\type_of% @cq0/\type_of% @cq1/\type_of% @cq2/\type_of% @cq3/\type_of% @cq4/\type_of% @cq5/\type_of% @List.getElem?_set_ne.{0}/\type_of% @Q1/\type_of% @G1/\type_of% @HQ/\type_of% @HR/\type_of% @HS/\type_of% @HT/\type_of% @HU/\type_of% @HV/\type_of% @HW/\type_of% @HX/\type_of% @HY/\type_of% @HZ/\type_of% @ML/\type_of% @List.length_take.{0}/\type_of% @Nat.min_self/\type_of% @List.append_nil.{0}/\type_of% @Nat.zero_le/\type_of% @Nat.add_zero/\type_of% @Nat.zero_add/\type_of% @Nat.le_refl/\type_of% @and_true/\type_of% @true_and/\type_of% @if_true.{1}:=
 ⟨@R2,@C1,@P1,@N1,@O1,@V1,@V2,@V3,@wrap_i64,@wrap_u64,@wrap_u8,@wrap_u16,@wrap_u32,@wrap_i32,@dv,@bA,@HJ,@mZ,@kb,@Zn,@adE,@avo.{0},@awj.{0},@ak7.{0},@axE.{0},@asR,@aw0,@cg0,@cg1,@cg2,@cg3,@cg4,@cg5,@OQ,@cs1,@cs2,@cs3,@cs4,@cs5,@ct2,@ct1,@cp0,@cp1,@cp2,@cp3,@cp4,@cp5,@cq0,@cq1,@cq2,@cq3,@cq4,@cq5,@acK.{0},@Q1,@G1,@HQ,@HR,@HS,@HT,@HU,@HV,@HW,@HX,@HY,@HZ,@ML,@afT.{0},@axP,@afZ.{0},@aep,@afM,@alf,@aen,@alc,@aza,@af1.{1}⟩
attribute [go_sem] Zz afB afC
attribute [go_sem ↓] R1 MP Int.cast_ofNat_Int
def au(b:cJ)(h:Nat):Bool:=match eN h with
 |some i=>decide (b i=⟨h/256,true,false⟩)
 |none=>false
def aP(h:Nat):Nat:=(eN h).getD 0
def nf(b:cJ)(i:Nat):Bool:=!(b i).ea&& !(b i).ret
def ng(b:cJ):oN:=(List.range 32).find? (nf b)
def pR(b:cJ):cJ×Nat×Bool:=match ng b with
 |some i=>(av b i {b i with ea:=true},c7 i (b i).gen,true)
 |none=>(b,0,false)
def pT(s:Slot):Slot:=if s.gen=8388607 then⟨s.gen,false,true⟩else⟨s.gen+1,false,s.ret⟩
def dS(b:cJ)(h:Nat):cJ×Bool:=if au b h then(av b (aP h) (pT (b (aP h))),true)else(b,false)
def a0(b:cJ):lN:=((List.range 32).filter λi=>(b i).ea).map λi=>c7 i (b i).gen
def ld(r:aD):Bool:=decide (1<=r.2)&&decide (r.1+r.2<=64)
def iw(x:aD)(b:Bool)(a:List aD):List aD->Option (List aD)
 | []=>some (if b then a else a++[x])
 |y::ys=>
  if y.1+y.2<x.1 then iw x b (a++[y]) ys
  else if x.1+x.2<y.1 then iw x true (a++(if b then[]else[x])++[y]) ys
  else if y.1+y.2=x.1 then iw (y.1,y.2+x.2) b a ys
  else if y.1=x.1+x.2 then iw (x.1,x.2+y.2) b a ys
  else none
def iT(l:List aD)(x:aD):Option (List aD):=if ld x then iw x false [] l else none
def mH:List aD->List aD->Option (List aD)
 |all,[]=>some all
 |all,x::xs=>match iT all x with
  |some a=>mH a xs
  |none=>none
def aM(l:List aD):Nat:=(l.map (·.2)).sum
def pU(a:List aD)(len:Nat):Bool:=(mH [] a).isSome&&decide (len<=aM a*32)
def dq:dm:=⟨0,0,[],0,λ_=>0⟩
def aw.au(t:aw)(h:Nat):Bool:=Go.Proofs.YtcdeobefbpnfeaaGreatDoor.au t.b h
def iz(t:aw)(i:Nat):Nat:=if t.au (t.r i).up then(t.r i).up else 0
def aN(t:aw)(h:Nat):dm×Nat:=if t.au h then({t.r (aP h)with up:=iz t (aP h)},0)else(dq,4)
def lg(t:aw)(up n:Nat):aw×Nat×Nat:=
 if up≠0/\t.au up=false then(t,0,4)
 else if 64<n then(t,0,2)
 else match ng t.b with
  |some i=>({b:=av t.b i {t.b i with ea:=true},r:=av t.r i {dq with up:=up,dn:=n}},c7 i (t.b i).gen,0)
  |none=>(t,0,7)
def iA(t:aw)(h:Nat):aw×Nat:=
 if t.au h then({b:=(dS t.b h).1,r:=av t.r (aP h) dq},0)else(t,4)
def fN(t:aw)(h:Nat)(r:dm):aw×Nat:=
 if t.au h=false then(t,4)
 else if 64<r.dn\/pU r.runs r.len=false then(t,2)
 else({t with r:=av t.r (aP h) {r with up:=(t.r (aP h)).up}},0)
def bn(t:aw)(h:Nat):Nat:=if t.au h then iz t (aP h)else 0
def eG(t:aw):Nat->Nat->lN
 |0,_=>[]
 |n+1,h=>if bn t h=0 then[]else bn t h::eG t n (bn t h)
def aU(t:aw)(h:Nat):lN:=eG t 32 h
def jU(t:aw)(h up:Nat):aw×Nat:=
 if t.au h=false\/ (up≠0/\t.au up=false)then(t,4)
 else if up≠0/\h∈up::aU t up then(t,12)
 else({t with r:=av t.r (aP h) {t.r (aP h)with up:=up}},0)
def depth(t:aw)(h:Nat):Nat:=if t.au h then 1+(aU t h).length else 0
def root(t:aw)(h:Nat):Nat:=if t.au h then(aU t h).getLastD h else 0
def kq(t:aw)(a b:Nat):Bool:=t.au a&&t.au b&& (decide (a=b)|| (aU t b).contains a)
def kids(t:aw)(h:Nat):lN:=if t.au h then(a0 t.b).filter (λx=>bn t x=h)else[]
def iB(t:aw):Nat->Nat->lN
 |0,h=>[h]
 |n+1,h=>h:: (kids t h).flatMap (iB t n)
def under(t:aw)(h:Nat):lN:=if t.au h then iB t 32 h else[]
def fu(t:aw)(a n:Nat):aw×Nat×Nat:=
 let x:=lg t a n
 if(x.2.2=0\/x.2.2=7)/\6<=depth t a then(t,0,8)else x
def zA(t0:aw)(h:Nat)(t:aw)(x:Nat):aw:=
 let r:=(aN t x).1
 (fN t x {r with cells:=λi=>if r.cells i≠h/\kq t0 (r.cells i) h then 0 else r.cells i}).1
def iU(t:aw)(h:Nat):aw×Nat:=
 if t.au h=false then(t,4)else jU ((iB t 32 h).foldl (zA t h) t) h 0
def sO(t:aw)(h:Nat):Nat:=(iB t 32 h).foldl (λn x=>max n (depth t x-depth t h+1)) 0
def ox(t:aw)(h a:Nat):aw×Nat:=
 if t.au h=false\/t.au a=false then(t,4)
 else if root t h≠h\/kq t h a then(t,12)
 else if 6<depth t a+sO t h then(t,8)
 else jU t h a
def iV(t:aw)(h:Nat):aw×lN×Nat:=
 if under t h=[]then(t,[],4)else((under t h).foldl (λt x=>(iA t x).1) t,under t h,0)
def vl:Ow:=⟨0,0,0⟩
def bt(o:bI)(t:aw)(h:Nat):Ow:=match eN (root t h)with
 |some i=>if(o i).root=root t h then(o i).own else vl
 |none=>vl
def eZ(o:bI)(t:aw)(r:Nat)(aa:Nat)(x:Ow):bI×Nat:=
 if t.au r=false then(o,4)
 else if root t r≠r then(o,12)
 else if 8<=aa then(o,2)
 else(av o (aP r) ⟨r,x⟩,0)
def ra(o:bI)(t:aw)(r aa:Nat):bI×Nat:=eZ o t r aa ⟨1,aa % 256,0⟩
def wZ(o:bI)(t:aw)(r:Nat):bI×Nat:=eZ o t r 0 ⟨2,0,0⟩
def gP(aa:Nat):Nat:=2^(aa % 8)
def zD(o:bI)(t:aw)(r aa:Nat):bI×Nat:=eZ o t r aa ⟨3,0,gP aa⟩
def mI(x aa:Nat):Bool:=x.testBit (aa % 8)
def c9(o:bI)(t:aw)(r aa:Nat)(hold:Bool):bI×Nat×Nat:=
 let x:=bt o t r
 let e:=(eZ o t r aa x).2
 if e=4\/ (t.au r=true/\root t r≠r)then(o,0,e)
 else if x.kind≠3 then(o,0,12)
 else if e≠0 then(o,0,e)
 else if mI x.hold aa&&hold then(o,0,7)
 else if !mI x.hold aa&& !hold then(o,0,5)
 else((eZ o t r aa {x with hold:=x.hold^^^gP aa}).1,x.hold^^^gP aa,(eZ o t r aa {x with hold:=x.hold^^^gP aa}).2)
def K3:Tok:=⟨0,0,0,false,0⟩
def cn(k:br)(h:Nat):Tok×Nat:=if au k.b h then(k.t (aP h),0)else(K3,4)
def sP(k:br)(p:Tok->Bool):lN:=(a0 k.b).filter λh=>p (cn k h).1
def isRight(b a:Nat)(x:Tok):Bool:=decide (x.aR=b)&&decide (x.aU=a)
def B5(k:br)(b a:Nat):Nat:=(sP k (isRight b a)).length
def sQ(k:br)(b a:Nat):Bool:=(a0 k.b).any λh=>isRight b a (cn k h).1&& (cn k h).1.mu
def nh(k:br)(h:Nat):Bool:=decide (h=0)||au k.b h
def pV(k:br)(x:Tok):Nat:=
 if nh k x.aU=false then 4
 else if 8<=x.jh\/8<=x.to\/x.jh=x.to\/x.aR=0 then 2
 else if x.aU≠0/\ ((cn k x.aU).1.aR≠x.aR\/ (cn k x.aU).1.to≠x.jh\/ (x.mu=true/\ (cn k x.aU).1.mu=false))then 12
 else if sQ k x.aR x.aU=true\/ (x.mu=true/\0<B5 k x.aR x.aU)then 5
 else 0
def lh(k:br)(x:Tok):br×Nat×Nat:=
 if pV k x≠0 then(k,0,pV k x)
 else match ng k.b with
  |some i=>if i<16 then({b:=av k.b i {k.b i with ea:=true},t:=av k.t i x},c7 i (k.b i).gen,0)else(k,0,7)
  |none=>(k,0,7)
def hU(b:cJ):Prop:= ∀i,(b i).gen<=8388607/\ ((b i).ea=true->(b i).ret=false)
def FH(e:eN h=some i):i<32/\h/256<=8388607/\h % 256=i+1/\h<2147483648:=by
 unfold eN at e;grind
def zE(h:Nat):aP h<32:=by
 unfold aP;cases e:eN h with
 |none=>simp
 |some i=>exact(FH e).1
theorem B6(e:eN h=some i):aP h=i:=by simp[aP,e]
theorem SQ(e:eN h=some i):c7 i (h/256)=h:=by
 have:=FH e;unfold c7;omega
theorem lj{b:cJ}:au b h=true↔ ∃i,eN h=some i/\b i=⟨h/256,true,false⟩:=by
 unfold au
 grind
def fC{b:cJ}(a:au b h=true):h<4294967296:=by
 obtain⟨i,e,_⟩:=lj.1 a;have:=FH e;omega
def K4{b:cJ}(a:au b h=true):h≠0:=by
 obtain⟨i,e,_⟩:=lj.1 a;have:=FH e;omega
theorem arV(b:cJ):au b 0=false:=by rfl
def vm{b:cJ}(a:au b h=true):eN h=some (aP h)/\b (aP h)=⟨h/256,true,false⟩/\c7 (aP h) (h/256)=h:=by grind [lj,B6,SQ]
theorem SR{b:cJ}(d:hU b)(c:i<32):au b (c7 i (b i).gen)=(b i).ea:=by
 obtain⟨j,h⟩:=d i;have e:=KX c j;have f:c7 i (b i).gen/256=(b i).gen:=by unfold c7;omega
 unfold au;rw[e];simp only[f];revert h;generalize b i=s;obtain⟨g,a,r⟩:=s;simp_all
theorem fO{b:cJ}(d:hU b):h∈a0 b↔au b h=true:=by
 unfold a0;simp only[afJ,afR,alJ];constructor
 ·grind [SR]
 ·intro c;obtain⟨i,e,a⟩:=lj.1 c;refine⟨i,⟨(FH e).1,by grind⟩,?_⟩;rw[a];exact SQ e
theorem kr(b:cJ): (a0 b).length<=32:=by
 unfold a0
 grind
def FI{g:Nat}(a:i<32)(b:g<=8388607):c7 i g<4294967296:=by unfold c7;omega
theorem re{b:cJ}(e:ng b=some i):i<32/\ (b i).ea=false/\ (b i).ret=false/\ ∀j,j<i->nf b j=false:=by
 unfold ng at e;rw[List.find?_range_eq_some]at e;obtain⟨a,d,c⟩:=e;unfold nf at a
 grind
theorem SS{b:cJ}(a:hU b)(e:ng b=some i):hU (av b i {b i with ea:=true}):=by
 intro j;by_cases h:j=i
 ·subst h;rw[ch];exact⟨(a j).1,λ_=>(re e).2.2.1⟩
 ·rw[cF h];exact a j
theorem FJ{b:cJ}(a:hU b)(h:Nat):hU (dS b h).1:=by
 unfold dS;split
 ·intro j;by_cases e:j=aP h
  ·subst e;simp only[ch];have:=(a (aP h)).1;unfold pT;grind
  ·simp only[cF e];exact a j
 omega
structure gg(r:dm):Prop where
 up:r.up<4294967296
 dn:r.dn<=64
 len:r.len<=2048
 cells: ∀i,r.cells i<4294967296
 runs: ∀x∈r.runs,1<=x.2/\x.1+x.2<=64
 aM:aM r.runs<=64
structure bS(t:aw):Prop where
 b:hU t.b
 r: ∀i,gg (t.r i)
def bY(t:aw):Prop:= ∀h,(aU t h).length<=5
def agJ{t:aw}:iz t i<4294967296:=by
 unfold iz;split
 ·rename_i h;exact fC h
 ·omega
def arW{t:aw}:bn t h<4294967296:=by
 unfold bn;split
 ·exact agJ
 ·omega
theorem FK{t:aw}(a:bn t h≠0):t.au (bn t h)=true/\t.au h=true:=by
 unfold bn at*;split at a
 ·unfold iz at*
  grind
 omega
theorem SU{t:aw}: ∀ (n:Nat) (h:Nat),(eG t n h).length<n-> ∀m,n<=m->eG t m h=eG t n h
 |0,_,a,_,_=>by omega
 |n+1,h,a,m,hm=>by
  obtain⟨m,rfl⟩: ∃k,m=k+1:=⟨m-1,by omega⟩;simp only[eG]at a⊢;by_cases hu:bn t h=0
  ·grind
  ·rw[ada hu]at a;simp only[afO]at a;rw[SU n _ (by omega) m (by omega)]
def oy{t:aw}(a:bY t)(h:Nat):aU t h=if bn t h=0 then[]else bn t h::aU t (bn t h):=by
 unfold aU;by_cases hu:bn t h=0
 ·rw[adV hu,eG,adV hu]
 ·have e:eG t 33 h=eG t 32 h:=SU 32 h (by have:=a h;unfold aU at this;omega) 33 (by omega);rw[<-e,eG,ada hu]
def K5{t:aw}(c:bY t)(a:x∈aU t h):t.au x=true:=by
 have key: ∀ (n h:Nat),(aU t h).length<=n->x∈aU t h->t.au x=true:=by
  intro n
  induction n with
  |zero=>grind
  |succ n d=>
   intro h b a;rw[oy c]at a b;by_cases hu:bn t h=0
   ·grind
   ·rw[ada hu]at a b;rcases ag6.1 a with rfl|a
    ·exact(FK hu).1
    grind
 exact key _ h (aen _) a
def dep(t:aw)(h:Nat):Nat:=(aU t h).length
theorem B7{t:aw}(b:bY t)(a:bn t h≠0):dep t h=dep t (bn t h)+1:=by
 unfold dep;rw[oy b,ada a];rfl
def K6{t:aw}(a:x∈kids t h):t.au h=true/\bn t x=h/\x∈a0 t.b:=by
 unfold kids at a
 grind
theorem B8{t:aw}(a:bY t)(b:x∈kids t h):dep t x=dep t h+1:=by
 obtain⟨d,c,_⟩:=K6 b;have:=B7 a (h:=x) (by rw[c];exact K4 d)
 grind
def agK(t:aw)(h:Nat): (kids t h).length<=32:=by
 unfold kids;split
 ·grind [Nat.le_trans,List.length_filter_le,kr]
 ·simp
theorem agL{α β:Type}{f g:α->List β}: ∀ {l:List α},(∀x∈l,f x=g x)->l.flatMap f=l.flatMap g
 | [],_=>rfl
 |x::xs,h=>by
  rw[aqR,aqR,h x (ai4 ..),agL λy a=>h y (afU _ a)]
theorem SW{t:aw}(a:bY t): ∀ (n h:Nat),5<=n+dep t h-> ∀m,n<=m->iB t m h=iB t n h
 |0,h,d,m,_=>by
  have c:kids t h=[]:=by
   cases e:kids t h with
   |nil=>rfl
   |cons x xs=>
    have:=B8 a (h:=h) (x:=x) (by grind);have f:=a x;unfold dep at*;omega
  cases m with
  |zero=>rfl
  |succ m=>rw[iB,iB,c];rfl
 |n+1,h,d,m,hm=>by
  obtain⟨m,rfl⟩: ∃k,m=k+1:=⟨m-1,by omega⟩;refine ag9 (h:: ·) (agL λx b=>?_);exact SW a n x (by have:=B8 a b;omega) m (by omega)
def cP(t:aw)(h:Nat):lN:=iB t 32 h
def SX{t:aw}(a:bY t)(h:Nat):cP t h=h:: (kids t h).flatMap (cP t):=by
 unfold cP;rw[<-SW a 32 h (by omega) 33 (by omega),iB]
theorem SY{α:Type}(f:α->Nat)(c:Nat): ∀l:List α,(∀x∈l,f x<=c)->(l.map f).sum<=l.length*c
 | [],_=>by simp
 |x::xs,h=>by
  have d:=h x (ai4 ..);have b:=SY f c xs λy a=>h y (afU _ a)
  simp only[al0,List.sum_cons,afO,aou];omega
theorem agM(t:aw): ∀ (n h:Nat),(iB t n h).length<=33^n
 |0,h=>by simp[iB]
 |n+1,h=>by
  rw[iB,afO,List.length_flatMap];have c:=SY (λx=>(iB t n x).length) (33^n) (kids t h) λx _=>agM t n x
  have a:=agK t h;have b: (kids t h).length*33^n<=32*33^n:=alZ _ a
  grind
def SZ{t:aw}(a:bY t)(h:Nat): (cP t h).length<=39135393:=by
 have:=agM t 5 h;unfold cP;rw[SW a 5 h (by omega) 32 (by omega)];omega
def arX{t:aw}(h:Nat):cP t h≠[]:=by unfold cP;rw[iB];simp
def zF{t:aw}(f:hU t.b)(b:t.au h=true)(a:x∈cP t h):t.au x=true:=by
 have key: ∀ (n h:Nat),t.au h=true->x∈iB t n h->t.au x=true:=by
  intro n
  induction n with
  |zero=>intro h b a;rw[iB,afD]at a;grind
  |succ n c=>
   intro h b a;rcases ag6.1 a with rfl|a
   ·omega
   ·obtain⟨y,d,e⟩:=ap8.1 a;exact c y ((fO f).1 (K6 d).2.2) e
 exact key 32 h b a
def ni(k:br)(a:Nat):lN:=sP k λx=>decide (x.aR=a)
def sR(k:br)(aa:Nat):lN:=sP k λx=>decide (x.to=aa)
def nj(k:br)(l:lN):br:=l.foldl (λk h=>{k with b:=(dS k.b h).1}) k
def K7(k:br)(a:Nat):br:=nj k (ni k a)
def S0(k:br)(h:Nat):lN:=sP k λx=>decide (x.aU=h)
def nm(k:br):Nat->Nat->lN
 |0,h=>[h]
 |n+1,h=>h:: (S0 k h).flatMap (nm k n)
def rf(k:br)(h:Nat):lN:=(a0 k.b).filter λx=>(nm k 16 h).contains x
def l9(k:br)(h:Nat):br×lN×Nat:=if au k.b h then(nj k (rf k h),rf k h,0)else(k,[],4)
def w4(k:br)(b a:Nat):Bool:=nh k a&& !sQ k b a
def zG(k:br)(b a:Nat):Bool:=nh k a&&decide (B5 k b a=0)
def FL(T:aw)(K:br)(h a:Nat):Bool:=
 if a=0 then w4 K h 0 else if a=1 then zG K h 0 else if a=2 then !((under T h).any λx=>decide (0< (ni K x).length))else false
def FM(K:br)(aa h a:Nat):Bool:=(ni K h).any λt=>
 decide ((cn K t).1.to=aa)&& ((decide (a=0)&&w4 K h t)|| (decide (a=1)&& (cn K t).1.mu&&zG K h t))
def w5(T:aw)(O:bI)(K:br)(aa h a:Nat):Nat:=
 if T.au h=false then 4
 else if(bt O T h).kind=3 then(if a=0/\aa<8/\ (bt O T h).hold.testBit aa=true then 0 else 5)
 else if(bt O T h).kind=1 then(if((bt O T h).aa=aa/\FL T K h a=true)\/FM K aa h a=true then 0 else 5)
 else 5
def zH:kp:=⟨0,0,0,false⟩
def ma(b:cS)(i:Nat):Nat:=(b.fr+i) % 4
def mJ(b:cS)(m:kp):cS×Nat:=
 if b.closed then(b,11)else if b.n=4 then(b,7)else({b with ring:=av b.ring (ma b b.n) m,n:=b.n+1},0)
def lk(b:cS):cS×kp×Nat:=
 if b.n=0 then(b,zH,if b.closed then 11 else 10)else({b with fr:=ma b 1,n:=b.n-1},b.ring b.fr,0)
def vo(b:cS):cS×Nat:=if b.closed then(b,11)else({b with closed:=true},0)
def gh(b:cS):List kp:=(List.range b.n).map λi=>b.ring (ma b i)
def zI:cS:=⟨λ_=>zH,0,0,true⟩
def mK(t:aw)(r a to:Nat)(b:Bool):aw×Nat:=
 if t.au r=false\/ (to≠0/\t.au to=false)then(t,4)
 else if 8<=a then(t,2)
 else if to≠0/\b=false/\kq t to r=false then(t,5)
 else
  let x:=(aN t r).1
  let n:=fN t r {x with cells:=av x.cells a to}
  if n.2=0 then n else(t,n.2)
def sS(t:aw)(r a:Nat):Nat×Nat:=
 if t.au r=false then(0,4)
 else if 8<=a then(0,2)
 else
  let to:=(aN t r).1.cells a
  if to=0 then(0,10)else if t.au to=false then(0,4)else(to,0)
structure aB where
 s:bu
 aa:Nat
 c:cx
 run:aD
 mb:Nat
 asks:Bool
 back:List aD
abbrev R(α:Type):=Except Nat α
def ask(b:Bool)(e:Nat):R Unit:=if b then .ok ()else .error e
def cp(e:Nat):R Unit:=if e=0 then .ok ()else .error e
def aB.t(x:aB)(T:aw):aB:={x with s:={x.s with T:=T}}
def aB.o(x:aB)(O:bI):aB:={x with s:={x.s with O:=O}}
def aB.k(x:aB)(K:br):aB:={x with s:={x.s with K:=K}}
def aB.bx(x:aB)(i:Nat)(b:cS):aB:={x with s:={x.s with cw:=av x.s.cw i b}}
def fY(x:aB)(h a:Nat):R Unit:=cp (w5 x.s.T x.s.O x.s.K x.aa h a)
def mL(x:aB)(aa:Nat):R Unit:=ask (decide (aa<8)&&x.s.alive aa) 2
def gi(x:aB)(y:Nat):aB:={x.k (K7 x.s.K y)with back:=x.back++(aN x.s.T y).1.runs}
def fP(x:aB)(h:Nat):aB:=let y:=(under x.s.T h).foldl gi x;y.t (iV y.s.T h).1
def vq(x:aB)(h:Nat):R aB:=do cp (iU x.s.T h).2;return x.t (iU x.s.T h).1
def mM(x:aB)(h aa:Nat):R aB:=do cp (ra x.s.O x.s.T h aa).2;return x.o (ra x.s.O x.s.T h aa).1
def nq(x:aB)(h:Nat)(r:dm):R aB:=do cp (fN x.s.T h r).2;return x.t (fN x.s.T h r).1
def bO:bF:=⟨0,0,0⟩
def sT(x:aB):R (aB×bF):=do
 if x.c.r≠0 then fY x x.c.r 1
 let n:=fu x.s.T x.c.r (min x.c.a 65)
 cp n.2.2
 let y:=x.t n.1
 let y<-if x.c.r=0 then mM y n.2.1 x.aa else pure y
 return (y,{bO with w:=n.2.1})
def isObj(a b:Nat):Bool:=decide (1<=a)&&decide (a<=128)&& [1,2,4,8].contains b
def hY(c:List aD)(len b a:Nat):oN:=
 if isObj b a then(let at':=(len+a-1)/a*a;if at'+b<=aM c*32 then some at' else none)else none
def oz(a b:Nat):oN:=if isObj a b then some ((a+31)/32)else none
def ku(a:List aD):Nat->Nat->oN:=match a with
 | []=>λ_ _=>none
 |r::rs=>λbase at'=>if base<=at'/\at'<base+r.2*32 then some (r.1*32+at'-base)else ku rs (base+r.2*32) at'
def ll(x:aB):R (aB×bF):=do
 let size:=min x.c.a 129
 let align:=min x.c.b 9
 let n<-match oz size align with|some n=>pure n|none=>.error 2
 fY x x.c.r 1
 cp (aN x.s.T x.c.r).2
 let r:=(aN x.s.T x.c.r).1
 match hY r.runs r.len size align with
 |some at'=>do
  let y<-nq x x.c.r {r with len:=at'+size}
  return (y,{bO with v:=at'})
 |none=>do
  ask (decide (aM r.runs+n<=r.dn)) 6
  let x:={x with mb:=n}
  if x.asks then return (x,bO)
  let runs:=r.runs++[x.run]
  let len:=aM r.runs*32
  ask (decide (x.run.2=n)&&pU runs len) 2
  let at':=(hY runs len size align).getD 0
  let b:=match hY runs len size align with|some a=>a+size|none=>len
  let y<-nq x x.c.r {r with runs:=runs,len:=b}
  return (y,{bO with v:=at'})
def rh(x:aB)(a:Nat):R (aB×bF):=do
 ask (decide (1<=x.c.b)&&decide (x.c.b<=8)) 2
 fY x x.c.r a
 cp (aN x.s.T x.c.r).2
 ask (decide (x.c.a+x.c.b<=(aN x.s.T x.c.r).1.len)) 9
 return (x,bO)
def vt(x:aB):R (aB×bF):=do
 fY x x.c.r 1
 cp (aN x.s.T x.c.r).2
 let r:=(aN x.s.T x.c.r).1
 let y<-nq {x with back:=x.back++r.runs} x.c.r {dq with dn:=r.dn}
 return (y,bO)
def w8(x:aB):R (aB×bF):=do
 fY x x.c.r 2
 return (fP x x.c.r,bO)
def w9(x:aB):R (aB×bF):=do
 fY x x.c.r 2
 ask (decide (root x.s.T x.c.r≠x.c.r)) 12
 let y<-vq x x.c.r
 let y<-mM y x.c.r x.aa
 return (y,bO)
def xa(x:aB):R (aB×bF):=do
 fY x x.c.r 2
 fY x x.c.s 1
 let t:=ox x.s.T x.c.r x.c.s
 cp t.2
 return (x.t t.1,bO)
def xb(x:aB):R (aB×bF):=do
 fY x x.c.r 2
 let y<-vq x x.c.r
 let o:=zD y.s.O y.s.T x.c.r x.aa
 cp o.2
 return (y.o o.1,bO)
def zJ(x:aB)(h:Nat):R Unit:=do
 ask (x.s.T.au h) 4
 let o:=bt x.s.O x.s.T h
 ask (decide (root x.s.T h=h)&&decide (o.kind=3)) 12
 ask (o.hold.testBit x.aa) 5
def vu(x:aB)(h aa:Nat):bI×Nat:=((c9 x.s.O x.s.T h aa true).1,(c9 x.s.O x.s.T h aa true).2.2)
def xc(x:aB):R (aB×bF):=do
 mL x x.c.a
 zJ x x.c.r
 let o:=vu x x.c.r x.c.a
 cp o.2
 return (x.o o.1,bO)
def kx(x:aB)(h aa:Nat):R aB:=do
 let o:=c9 x.s.O x.s.T h aa false
 cp o.2.2
 let y:=x.o o.1
 return if o.2.1=0 then fP y h else y
def zK(x:aB):R (aB×bF):=do
 zJ x x.c.r
 return (<-kx x x.c.r x.aa,bO)
def ri(x:aB):R (aB×bF):=do
 mL x x.c.a
 ask (decide (x.c.b<=1)) 2
 ask (x.s.T.au x.c.r) 4
 if x.c.s=0 then ask (decide ((bt x.s.O x.s.T x.c.r).kind=1)&&decide ((bt x.s.O x.s.T x.c.r).aa=x.aa)) 5
 else do
  cp (cn x.s.K x.c.s).2
  ask (decide ((cn x.s.K x.c.s).1.to=x.aa)&&decide ((cn x.s.K x.c.s).1.aR=x.c.r)) 5
 let k:=lh x.s.K ⟨x.c.r,x.aa % 256,x.c.a % 256,decide (x.c.b=1),x.c.s⟩
 cp k.2.2
 return (x.k k.1,{bO with w:=k.2.1})
def xd(x:aB):R (aB×bF):=do
 cp (cn x.s.K x.c.s).2
 ask (decide ((cn x.s.K x.c.s).1.to=x.aa)) 5
 return (x.k (l9 x.s.K x.c.s).1,bO)
def oA(x:aB):R (aB×bF):=do
 mL x x.c.a
 ask (decide (x.c.b<=1)) 2
 let share:=decide (x.c.r≠0)&&decide (x.c.b=1)
 let y<-if share then do
     zJ x x.c.r
     pure (if(vu x x.c.r x.c.a).2=0 then x.o (vu x x.c.r x.c.a).1 else x)
  else if x.c.r≠0 then do
   fY x x.c.r 2
   let y<-vq x x.c.r
   let o:=wZ y.s.O y.s.T x.c.r
   cp o.2
   pure (y.o o.1)
  else pure x
 let b:=mJ (y.s.cw x.c.a) ⟨x.aa % 256,x.c.v,x.c.r,share⟩
 cp b.2
 return (y.bx x.c.a b.1,bO)
def pW(x:aB):R (aB×bF):=do
 let b:=lk (x.s.cw x.aa)
 cp b.2.2
 let y:=x.bx x.aa b.1
 let m:=b.2.1
 let y<-if m.aR≠0/\m.share=false then mM y m.aR x.aa else pure y
 return (y,{bO with v:=m.word,w:=m.aR})
def xe(x:aB):R (aB×bF):=do
 let b:=vo (x.s.cw x.aa)
 cp b.2
 return (x.bx x.aa b.1,bO)
def pX(x:aB):R (aB×bF):=do
 fY x x.c.r 1
 if x.c.s≠0 then fY x x.c.s 0
 let t:=mK x.s.T x.c.r (min x.c.a 8) x.c.s (decide ((bt x.s.O x.s.T x.c.s).kind=3))
 cp t.2
 return (x.t t.1,bO)
def xf(x:aB):R (aB×bF):=do
 fY x x.c.r 0
 let t:=sS x.s.T x.c.r (min x.c.a 8)
 cp t.2
 return (x,{bO with w:=t.1})
def nr(x:aB)(aa:Nat):R aB:=do
 let l:=gh (x.s.cw aa)
 let y:=x.bx aa zI
 let y:={y with s:={y.s with alive:=av y.s.alive aa false}}
 let y<-l.foldlM (λy m=>if m.aR=0\/m.share=true then pure y else if y.s.alive m.fr then mM y m.aR m.fr else pure (fP y m.aR)) y
 let y:=(sR y.s.K aa).foldl (λy h=>y.k (l9 y.s.K h).1) y
 let y:=((a0 y.s.T.b).filter λh=>decide (root y.s.T h=h)&&decide ((bt y.s.O y.s.T h).kind=1)&&decide ((bt y.s.O y.s.T h).aa=aa)).foldl fP y
 ((a0 y.s.T.b).filter λh=>decide (root y.s.T h=h)&&decide ((bt y.s.O y.s.T h).kind=3)&& (decide (aa<8)&&mI (bt y.s.O y.s.T h).hold aa)).foldlM (λy h=>kx y h aa) y
def zL(x:aB):R (aB×bF):=do
 mL x x.c.a
 return (<-nr x x.c.a,bO)
def rj(x:aB):R (aB×bF):=do
 ask (decide (x.c.a<8)&& !x.s.born (x.c.a % 8)) 2
 return ({x with s:={x.s with alive:=av x.s.alive x.c.a true,born:=av x.s.born x.c.a true}},bO)
def jV(x:aB):R (aB×bF):=match x.c.op with
 |1=>sT x|2=>ll x|3=>rh x 0|4=>rh x 1|5=>vt x|6=>w8 x|7=>w9 x|8=>xa x|9=>xb x|10=>xc x
 |11=>zK x|12=>ri x|13=>xd x|14=>oA x|15=>pW x|16=>pW x|17=>xe x|18=>pX x|19=>xf x
 |20=>do return (<-nr x x.aa,bO)
 |21=>zL x|22=>rj x
 |_=>.error 2
def ji(x:aB):R (aB×bF):=do
 ask (decide (x.aa<8)&&x.s.alive x.aa) 12
 jV x
def dx(s:bu)(aa:Nat)(c:cx)(run:aD):bu×bF×List aD:=match ji ⟨s,aa,c,run,0,false,[]⟩with
 |.ok (x,r)=>if r.e=0 then(x.s,r,x.back)else(s,r,[])
 |.error e=>(s,{bO with e:=e},[])
def fa(s:bu)(aa:Nat)(c:cx):Nat:=if c.op≠2 then 0 else match ji ⟨s,aa,c,(0,0),0,true,[]⟩with
 |.ok (x,_)=>x.mb
 |.error _=>0
def jk(s:bu)(c:cx):lN×Nat:=
 if(aN s.T c.r).2≠0 then([],(aN s.T c.r).2)
 else if(c.op≠3/\c.op≠4)\/c.b<1\/8<c.b then([],2)
 else if(aN s.T c.r).1.len<c.a+c.b then([],9)
 else((List.range c.b).map λi=>(ku (aN s.T c.r).1.runs 0 (c.a+i)).getD 0,0)
def oB(s:bu)(aa:Nat)(c:cx):Nat:=if 0<fa s aa c then 0 else(dx s aa c (0,0)).2.1.e
def B9(s:bu)(aa:Nat)(c:cx):Bool:=decide (c.op=15)&&decide (oB s aa c=10)
def oC(s:bu)(h:Nat):lN:=if s.T.au h then[h]else[]
def sU(s:bu)(c:cx):lN:=
 if[1,2,3,4,5,10,12,18,19].contains c.op then oC s c.r
 else if[6,7,9,11].contains c.op then under s.T c.r
 else if c.op=8 then
  (if under s.T c.r=[]\/s.T.au c.s=false then[]else if(under s.T c.r).contains c.s then under s.T c.r else under s.T c.r++[c.s])
 else if c.op=13 then(if(cn s.K c.s).2=0 then oC s (cn s.K c.s).1.aR else[])
 else if c.op=14 then(if c.b=1 then oC s c.r else under s.T c.r)
 else[]
structure fw where
 has:Nat
 n:Nat
 wait:Nat->Nat
abbrev Marks:=Nat->fw
def xg:fw:=⟨0,0,λ_=>0⟩
def rk(l:fw)(aa:Nat):oN:=(List.range l.n).find? λi=>decide (l.wait i=aa % 256)
def S1(l:fw)(i:Nat):fw:={l with n:=l.n-1,wait:=av (λj=>if i<=j/\j<7 then l.wait (j+1)else l.wait j) (l.n-1) 0}
def xh(l:fw)(aa:Nat):fw:=match rk l aa with
 |none=>l
 |some i=>S1 l i
def jl(a aa:Nat):Bool:=decide (a<32)&&decide (aa<8)
def jm(m:Marks)(a aa:Nat):Marks×Bool:=
 if jl a aa=false then(m,false)
 else if(m a).has=aa+1 then(m,true)
 else if(m a).has=0/\ ((m a).n=0\/rk (m a) aa=some 0)then(av m a {xh (m a) aa with has:=aa+1},true)
 else if rk (m a) aa=none then(av m a {m a with n:=(m a).n+1,wait:=av (m a).wait (m a).n aa},false)
 else(m,false)
def Ca(l:fw)(aa:Nat):fw:=if l.has=aa+1 then{l with has:=0}else l
def rl(m:Marks)(aa:Nat):Marks:=λi=>if jl i aa then xh (Ca (m i) aa) aa else m i
structure cT where
 n:Nat
 free:List aD
 bytes:Nat->Nat->Nat
 cH:Bool
def rm(l:List aD)(x:aD):Option (List aD):=
 if ld x=false then none
 else match l.findIdx? λy=>decide (x=y)|| (decide (y.1<=x.1)&&decide (x.1+x.2<=y.1+y.2))with
  |none=>none
  |some i=>
   let y:=l.getD i (0,0)
   some (l.take i++((if y.1<x.1 then[(y.1,x.1-y.1)]else[])++(if x.1+x.2<y.1+y.2 then[(x.1+x.2,y.1+y.2- (x.1+x.2))]else[]))++l.drop (i+1))
def S2(l:List aD)(k:Nat):Bool:=decide (k<64)&&l.any λy=>decide ((k,1)=y)|| (decide (y.1<=k)&&decide (k+1<=y.1+y.2))
def jH(p:cT)(n:Nat):cT×Nat×Nat:=
 if n<1 then(p,0,2)
 else match p.free.find? λx=>decide (1<=n)&&decide (n<=x.2)with
  |none=>(p,0,6)
  |some x=>(match rm p.free (x.1,n)with
   |some l=>{p with free:=l,cH:=false}
   |none=>p,x.1,0)
def gE(p:cT)(a:Nat):Nat:=if p.n<=a then 2 else if S2 p.free a then 12 else 0
def rn(p:cT)(a:Nat):cT:=if gE p a=0 then{p with bytes:=av p.bytes a λ_=>0}else p
def K8(p:cT)(a:Nat):cT:=match iT p.free (a,1)with
 |some l=>{p with free:=l,cH:=false}
 |none=>p
def rp(p:cT)(a:Nat):cT:=if gE p a=0 then K8 p a else p
def sV(p:cT)(at':Nat):Nat:=if gE p (at'/32)=0 then p.bytes (at'/32) (at' % 32)else 0
def vx(p:cT)(at' b:Nat):cT:=if gE p (at'/32)=0 then{p with bytes:=av p.bytes (at'/32) (av (p.bytes (at'/32)) (at' % 32) b)}else p
structure Core where
 S:bu
 P:cT
 M:Marks
 Q:lN
structure Call where
 aa:Nat
 c:cx
 checked:Bool
 aY:lN
 run:aD
 fb:Nat
def gj(r:aD):lN:=(List.range r.2).map λi=>r.1+i
def cQ(x:Core)(r:aD):Core:={x with Q:=x.Q++gj r}
def xi(x:Core)(c:Call):Core:={cQ x c.run with M:=rl x.M c.aa}
structure bL where
 x:Core
 c:Call
 r:bF
 ended:Bool
def oD(s:bL)(r:bF):bL:={s with r:=r,ended:=true,x:=xi s.x s.c}
def ky(s:bL):bL×Bool:=
 if s.c.checked then(s,false)
 else if B9 s.x.S s.c.aa s.c.c then(s,true)
 else if oB s.x.S s.c.aa s.c.c≠0 then(oD s {bO with e:=oB s.x.S s.c.aa s.c.c},true)
 else({s with c:={s.c with checked:=true,aY:=sU s.x.S s.c.c}},true)
def kz(s:bL):bL×Bool:=match s.c.aY with
 | []=>(s,false)
 |h::a=>
  let m:=jm s.x.M (aP h) s.c.aa
  ({s with x:={s.x with M:=m.1},c:=if m.2 then{s.c with aY:=a}else s.c},true)
def kA(s:bL):bL×Bool:=
 let n:=fa s.x.S s.c.aa s.c.c
 if n=0\/0<s.c.run.2 then(s,false)
 else
  let p:=jH s.x.P n
  if p.2.2≠0 then(oD {s with x:={s.x with P:=p.1}} {bO with e:=p.2.2},true)
  else({s with x:={s.x with P:=p.1},c:={s.c with run:=(p.2.1,n)}},true)
def ln(s:bL):bL×Bool:=
 if s.c.run.2<=s.c.fb then(s,false)
 else({s with x:={s.x with P:=rn s.x.P (s.c.run.1+s.c.fb)},c:={s.c with fb:=s.c.fb+1}},true)
def byteOf(v i:Nat):Nat:=v/2^(8*i) % 256
def rq(s:bL):bL:=
 let s:=if 0<s.c.run.2/\fa s.x.S s.c.aa s.c.c≠s.c.run.2 then{s with x:=cQ s.x s.c.run,c:={s.c with run:=(0,0)}}else s
 let places:=(jk s.x.S s.c.c).1
 let d:=dx s.x.S s.c.aa s.c.c s.c.run
 if d.2.1.e≠0 then oD s d.2.1
 else
  let P:=if s.c.c.op=4 then(List.range places.length).foldl (λP i=>vx P (places.getD i 0) (byteOf s.c.c.v i)) s.x.P else s.x.P
  let v:=if s.c.c.op=3 then(List.range places.length).foldl (λv i=>v|||sV s.x.P (places.getD i 0)*2^(8*i)) d.2.1.v else d.2.1.v
  let x:=d.2.2.foldl cQ {s.x with S:=d.1,P:=P}
  oD {s with x:=x,c:={s.c with run:=(0,0)}} {d.2.1 with v:=v}
def fQ(x:Core)(c:Call):bL:=
 let d:bL:=⟨x,c,bO,false⟩
 let s1:=ky d
 if s1.2 then s1.1 else
 let s2:=kz s1.1
 if s2.2 then s2.1 else
 let b:=kA s2.1
 if b.2 then b.1 else
 let a:=ln b.1
 if a.2 then a.1 else rq a.1
def iW(x:Core):Core×Bool:=match x.Q with
 | []=>(x,false)
 |q::a=>({x with P:=rp x.P q,Q:=a},true)
structure dR where
 op:Nat
 a:Nat
 b:Nat
 c:Nat
 n:Nat
 deriving DecidableEq,Inhabited
def ru(x:dR)(n:Nat):Bool:=
 (decide (x.op<=6)|| (decide (16<x.op)&&decide (x.op<=38)))&&decide (x.a<8/\x.b<8/\x.c<8)&& (!(decide (x.op=5)||decide (x.op=6))||decide (x.n<n))
def pY(l:List dR):Bool:=decide (l.length<=64)&&l.all λx=>ru x l.length
def ry:lB->List dR
 |a::b::c::d::e::f::r=>⟨a.toNat,b.toNat,c.toNat,d.toNat,e.toNat+256*f.toNat⟩::ry r
 |_=>[]
def decode(s:lB):Option (List dR):=
 if s.length % 6≠0\/384<s.length then none else if pY (ry s)then some (ry s)else none
structure Task where
 code:List dR
 next:Nat
 aY:Nat->Nat
def mc:Nat:=18446744073709551616
def rA(t:Task):Option dR:=t.code[t.next]?
def mN:cx:=⟨0,0,0,0,0,0⟩
def iD(t:Task):cx×Bool:=match rA t with
 |none=>({mN with op:=20},true)
 |some x=>
  if x.op=0 then({mN with op:=20},true)
  else if x.op<=16 then(mN,false)
  else(⟨x.op-16,t.aY (x.b % 8) % 4294967296,t.aY (x.c % 8) % 4294967296,t.aY 6 % 4294967296,x.n,t.aY 5⟩,true)
def rB(t:Task):Task:=
 if(iD t).2 then t
 else match rA t with
  |none=>t
  |some x=>
   let b:=t.aY (x.b % 8)
   let c:=t.aY (x.c % 8)
   let put:=λv=>{t with aY:=av t.aY (x.a % 8) v,next:=t.next+1}
   if x.op=1 then put x.n
   else if x.op=2 then put ((b+c) % mc)
   else if x.op=3 then put ((b+mc-c) % mc)
   else if x.op=4 then put (b*2^x.n % mc)
   else if x.op=5 then{t with next:=x.n}
   else if x.op=6 then{t with next:=if t.aY (x.a % 8)≠0 then x.n else t.next+1}
   else{t with next:=t.next+1}
def sW(t:Task)(r:bF):Task:=match rA t with
 |none=>t
 |some x=>if(iD t).2 then{t with aY:=av (av (av t.aY (x.a % 8) r.v) 4 r.w) 7 r.e,next:=t.next+1}else t
structure Runner where
 t:Task
 c:Call
 busy:Bool
 fr:Nat
structure Event where
 aa:Nat
 c:cx
 run:aD
 r:bF
 fr:Nat
 to:Nat
structure aS where
 ai:Core
 aC:Nat->Runner
 now:Nat
 bq:List Event
def gQ:Call:=⟨0,mN,false,[],(0,0),0⟩
def sX:Task:=⟨[],0,λ_=>0⟩
def Cb:Runner:=⟨sX,gQ,false,0⟩
def lp(m:aS)(t:Nat):Bool:=decide (t<8)&&m.ai.S.alive t
def lq(m:aS)(i:Nat):aS:=
 if(m.aC i).busy=true/\lp m i=false then{m with ai:=xi m.ai (m.aC i).c,aC:=av m.aC i {m.aC i with busy:=false,c:=gQ}}else m
def jW(m:aS):aS:=(List.range 8).foldl lq m
def handed(b:aD)(a c:Nat):aD:=if b.2<=c-a/\0<b.2 then(0,0)else b
def K9(m:aS)(t:Nat)(c:Call)(run:aD)(r:bF):aS:=
 {m with bq:=m.bq++[⟨t,c.c,run,r,(m.aC t).fr,m.now⟩],aC:=av m.aC t {m.aC t with t:=sW (m.aC t).t r,busy:=false,c:=gQ}}
def pZ(m:aS)(t:Nat):aS:=
 let c:=(m.aC t).c
 let s:=fQ m.ai c
 let m':={m with ai:=s.x,aC:=av m.aC t {m.aC t with c:=s.c}}
 if s.ended then
  let run:=if s.r.e≠0\/s.c.c.op≠2 then(0,0)else c.run
  K9 m' t s.c (handed run m.ai.Q.length s.x.Q.length) s.r
 else m'
def rC(m:aS)(t:Nat):aS:=
 let x:=m.aC t
 if x.busy then pZ m t
 else if(iD x.t).2 then pZ {m with aC:=av m.aC t {x with c:={gQ with aa:=t,c:=(iD x.t).1},busy:=true,fr:=m.now}} t
 else{m with aC:=av m.aC t {x with t:=rB x.t}}
def zM(m:aS)(t:Nat):aS:=
 let c:={mN with op:=20}
 let d:=dx m.ai.S t c (0,0)
 {m with ai:={d.2.2.foldl cQ m.ai with S:=d.1},bq:=m.bq++[⟨t,c,(0,0),d.2.1,m.now,m.now⟩]}
def jX(m:aS)(b:Nat):aS×Nat:=
 let t:=b % 8
 if(8<b/\b<16)\/24<=b then(m,2)
 else if b=8 then(if(iW m.ai).2 then(jW {m with ai:=(iW m.ai).1,now:=m.now+1},0)else(m,10))
 else if lp m t=false then(m,12)
 else if 16<=b then(jW (zM {m with now:=m.now+1} t),0)
 else(jW (rC {m with now:=m.now+1} t),0)
def ns(m:aS)(t:Nat):Option Call:=if t<8/\ (m.aC t).busy=true then some (m.aC t).c else none
def rD(m:aS)(t:Nat):Bool:=match ns m t with
 |none=>false
 |some c=>lp m t&& !c.checked&&B9 m.ai.S t c.c
def sY(m:aS)(t:Nat):Bool:=decide (t<8)&&lp m t&& !rD m t
structure S3 where
 aM:Int
 aE:List lB
 aJ:lN
def lr(b:Nat):Bool:=decide (b<8)||decide (b=8)|| (decide (16<=b)&&decide (b<24))
def nu(s:S3):Bool:=
 decide (1<=s.aM/\s.aM<=64/\1<=s.aE.length/\s.aE.length<=8/\s.aJ.length<=4000)&&s.aE.all (λp=>(decode p).isSome)&&s.aJ.all lr
def mO:bu:=⟨⟨λ_=>⟨0,false,false⟩,λ_=>dq⟩,λ_=>⟨0,vl⟩,⟨λ_=>⟨0,false,false⟩,λ_=>K3⟩,λ_=>⟨λ_=>zH,0,0,false⟩,λi=>decide (i=0),λi=>decide (i=0)⟩
def S4(s:S3):aS:=⟨⟨mO,⟨s.aM.toNat,[(0,s.aM.toNat)],λ_ _=>0,true⟩,λ_=>xg,[]⟩,λi=>{Cb with t:={sX with code:=((s.aE[i]?).bind decode).getD []}},0,[]⟩
def zN(s:S3):aS×lN:=s.aJ.foldl (λp b=>((jX p.1 b).1,p.2++[(jX p.1 b).2])) (S4 s,[])
def kL:lN:=[46,19,179,158,156,108,73,207]
noncomputable def X0:Ctx:={dJ:=λg=>(B1.lookup g).map λ_=>[.lG g],code:=λf=>if kL.contains f then none else zp.lookup f,b8:=λ_=>none,fU:=λg=>(B1.lookup g).map sg}
def arY(h:Nat)(c:h<4294967296):dt .and (.int .u32 h) (.int .u32 255)=some (.int .u32 ((h % 256:Nat):Int)):=by
 rw[DD];have e: (BitVec.ofInt IntKind.u32.bits (h:Int)&&&BitVec.ofInt IntKind.u32.bits 255).toNat=h % 256:=by
  show(BitVec.ofInt 32 (h:Int)&&&BitVec.ofInt 32 255).toNat=h % 256;rw[BitVec.toNat_and];have b: (BitVec.ofInt 32 (h:Int)).toNat=h:=by grind
  have a: (BitVec.ofInt 32 255).toNat=2^8-1:=by rfl
  rw[b,a,aAR]
 rw[e,wrap_u32 (by omega) (by omega)]
theorem p8: (2:Int)^min 8 IntKind.u32.bits=256:=by rfl
def agN: ((a:Nat):Int).fdiv 256=((a/256:Nat):Int):=by grind
def arZ(s:Slot)(g:Nat)(a c:Bool):dE (.agg [.int,.bool,.bool]) (.agg (jc s)) (.agg [.int .u32 g,.bool a,.bool c])=some (decide (s=⟨g,a,c⟩)):=by
 obtain⟨b,a',d⟩:=s;simp only[dE,jc,afO,amQ,adf,aqE,adg,af1,and_self,Slot.mk.injEq,Int.natCast_inj]
 grind
def iX(h:Nat):AV:=.ay [.int .i64 ((eN h).getD 0:Nat),.bool (eN h).isSome]
def jY(h:Nat)(b:h<4294967296)(H:List ae)(lo:oN):D X0 (.fn (.func 47) [] []) [.int .u32 h] ⟨H,lo⟩=some (.ret (iX h) ⟨H,lo⟩):=by
 refine aH P5 λN c=>?_
 simp(disch:=omega) only[↓R1,Zz,simprocAttr,P5,arY h b];refine we 19 (.bool (!(eN h).isSome)) [4] rfl rfl ?_ λd=>?_
 ·simp only[R4,↓R1,Zz,simprocAttr,p8,agN]
  (repeat' (first|apply And.intro|intro _))
  all_goals(refine ag9 AV.bool ?_;unfold eN;split<;>simp<;>omega)
 cases a:eN h with
 |none=>simp(disch:=omega) only[F1,↓R1,Zz,simprocAttr,iX,a]
 |some i=>
  have: (h % 256:Nat)- (1:Int)=(i:Nat):=by
   unfold eN at a;split at a<;>cases a;omega
  simp(disch:=omega) only[F1,↓R1,Zz,simprocAttr,iX,a,this]
def agO(i g:Nat)(a:i<32)(b:g<=8388607)(H:List ae)(lo:oN):D X0 (.fn (.func 114) [] []) [.int .i64 i,.int .u32 g] ⟨H,lo⟩=some (.ret (.int .u32 (c7 i g)) ⟨H,lo⟩):=by
 refine aH Qw λN c=>?_
 simp(disch:=omega) only[F1,↓R1,Zz,simprocAttr,Qw,p8];exact dj (ag9 _ (by rfl)) rfl
def eH(b:cJ)(h:Nat)(e:h<4294967296)(H:List ae)(lo:oN):D X0 (.fn (.func 48) [] []) [.agg (bX b),.int .u32 h] ⟨H,lo⟩=some (.ret (.bool (au b h)) ⟨H,lo⟩):=by
 refine aH P6 λN f=>?_
 simp only[↓R1,Zz,simprocAttr,P6,f,jY h e,iX];cases a:eN h with
 |none=>simp(disch:=omega) only[F1,↓R1,Zz,simprocAttr,au,a]
 |some i=>
  have d:=af7 a;have c: (i:Int)<32:=by omega
  simp(disch:=omega) only[F1,↓aoK,↓R1,Zz,simprocAttr,au,a,af2 d,c,p8,agN,arZ]
def nv{p:Nat->Prop}{k:Nat}(h: ∀j,j<k->p j)(a:p k): ∀j,j<k+1->p j:=by grind
def ar0{p:Nat->Bool}{k:Nat}(b:k<n)(a:p k=true)(h: ∀j,j<k->p j=false): (List.range n).find? p=some k:=by simp_all
def ar1{p:Nat->Bool}(h: ∀j,j<n->p j=false): (List.range n).find? p=none:=by grind
def sZ(b:cJ):AV:=.ay [.agg (bX (pR b).1),.int .u32 (pR b).2.1,.bool (pR b).2.2]
theorem La:wx.length=96:=by rfl
theorem Lb:List.drop 96 wx=[]:=by rfl
def Lc:type_of% La/\type_of% Lb:=by decide
def agP(b:cJ)(r:hU b)(H:List ae)(lo:oN):D X0 (.fn (.func 320) [] []) [.agg (bX b)] ⟨H,lo⟩=some (.ret (sZ b) ⟨H,lo⟩):=by
 refine aH RY λN s=>?_
 simp only[go_sem,simprocAttr,RY,s,↓Sz];refine dP 32 (λk e H'=> ∃J,H'=cat H (.box (bX b) none:: .box wx none::J)/\e 1= .ptr N 0/\e 2= .ptr (N+1) 0/\e 8= .agg (bX b)/\e 9= .int .i64 k/\ ∀j,j<k->nf b j=false) 0 (by omega) ?_ ?_
 ·simp only[go_sem,simprocAttr];exact⟨[],ft.symm,by simp⟩
 rintro k t e H' ⟨J,rfl,m,l,p,o,f⟩ n q;have d: ∀a b,(cat H (a::b::J)).length=n:=λ_ _=>by rw[<-q,KV,KV];rfl
 simp(disch:=omega) only[bQ,F1,go_sem,simprocAttr,afw,m,l,p,o];refine⟨λh=>?_,λh=>?_⟩
 ·have c:k<32:=by omega
  cases g: (b k).ea
  ·cases i: (b k).ret
   ·simp(disch:=first|omega|apply d) only[F1,go_sem,simprocAttr,h,d,SA c,jc,g,i,m,l,af5 c,agO k (b k).gen c (r k).1,Lc];have e:ng b=some k:=ar0 c (by simp[nf,g,i]) f;exact⟨by omega,by simp[sZ,pR,e,i]⟩
   ·simp(disch:=first|omega|apply d) only[go_sem,simprocAttr,h,d,SA c,jc,g,i,m,l,p,o];exact⟨c,_,Sx,nv f (by simp[nf,i])⟩
  ·simp(disch:=first|omega|apply d) only[go_sem,simprocAttr,h,d,SA c,jc,g,m,l,p,o];exact⟨c,_,Sx,nv f (by simp[nf,g])⟩
 ·simp(disch:=first|omega|apply d) only[go_sem,simprocAttr,Lc];have e:ng b=none:=ar1 λj u=>f j (by omega)
  simp[sZ,pR,e]
def atR(b:cJ)(k:Nat):AV:=.ay [.int .u32 (if k<32/\ (b k).ea=true then c7 k (b k).gen else 0:Nat),.bool (decide (k<32)&& (b k).ea)]
def ar2(b:cJ)(h:hU b)(k:Nat)(H:List ae)(lo:oN):D X0 (.fn (.func 81) [] []) [.agg (bX b),.int .i64 k] ⟨H,lo⟩=some (.ret (atR b k) ⟨H,lo⟩):=by
 refine aH E5 λN d=>?_
 have e: ¬(k:Int)<0:=by omega
 by_cases a:k<32
 ·have c: ¬(k:Int)>=32:=by omega
  have g: (k:Int)<32:=by omega
  cases f: (b k).ea
  ·simp only[F1,go_sem,simprocAttr,E5,d,e,c,g,af4 a,f,atR,a]
  ·simp only[F1,go_sem,simprocAttr,E5,d,e,c,g,af4 a,af3 a,f,agO k (b k).gen a (h k).1,atR,a]
 ·have c: (k:Int)>=32:=by omega
  simp only[F1,go_sem,simprocAttr,E5,d,e,c,atR,a,false_and,ahj]
def zO(b:cJ)(h:Nat):AV:=.ay [.agg (bX (dS b h).1),.bool (dS b h).2]
def agQ(b:cJ)(l:hU b)(h:Nat)(f:h<4294967296)(H:List ae)(lo:oN):D X0 (.fn (.func 344) [] []) [.agg (bX b),.int .u32 h] ⟨H,lo⟩=some (.ret (zO b h) ⟨H,lo⟩):=by
 refine aH KU λN g=>?_
 cases c:au b h with
 |false=>
  simp only[F1,go_sem,simprocAttr,KU,g,eH b h f,c,Lc,zO,dS]
 |true=>
  obtain⟨e1,m,e3⟩:=vm c;have d:=zE h;have e: (aP h:Int)<32:=by omega
  generalize a:aP h=i at*;have k:=(l i).1;simp(disch:=omega) only[bQ,F1,go_sem,simprocAttr,KU,g,eH b h f,c,Lc,jY h f,iX,e1,e,af5 d,ary d,arx d,af3 d,sJ,ch];refine⟨by omega,λj=>⟨by omega,?_⟩,λj=>⟨by omega,?_⟩⟩
  ·simp[zO,dS,c,a,pT,show(b i).gen=8388607 by omega]
  ·simp[zO,dS,c,a,pT,show¬(b i).gen=8388607 by omega]
theorem Cc:kS.length=480:=by rfl
theorem ar3:List.drop 480 kS=[]:=by rfl
def cU:type_of% Cc/\type_of% ar3/\type_of% La/\type_of% Lb:=by decide
def zP(n:Nat)(H:List ae)(lo:oN):D X0 (.fn (.func 337) [] []) [.int .i64 n] ⟨H,lo⟩=some (.ret (.bool (decide (n<=64))) ⟨H,lo⟩):=by
 refine aH Sc λN b=>?_
 have a: (n:Int)>=0:=by omega
 simp(disch:=omega) only[F1,go_sem,simprocAttr,Sc,a];exact dj (ag9 AV.bool (amt.2 (by grind))) rfl
theorem agR:bR dq=[.int .u32 0,.int .i64 0,.aq,.int .i64 0,.int .u32 0,.int .u32 0,.int .u32 0,.int .u32 0,.int .u32 0,.int .u32 0,.int .u32 0,.int .u32 0]:=rfl
def agS(t:aw)(j:bS t)(h:Nat)(d:h<4294967296)(H:List ae)(lo:oN):D X0 (.fn (.func 113) [] []) [.agg (aO t),.int .u32 h] ⟨H,lo⟩=some (.ret (.int .u32 (iz t (aP h))) ⟨H,lo⟩):=by
 refine aH J5 λN g=>?_
 have c:=zE h;have a: (aP h:Int)<32:=by omega
 have e:iX h= .ay [.int .i64 (aP h:Nat),.bool (eN h).isSome]:=rfl;have hu:=(j.r (aP h)).up;generalize aP h=i at*;have f:au t.b (t.r i).up=t.au (t.r i).up:=rfl;cases b:t.au (t.r i).up
 ·simp only[F1,go_sem,simprocAttr,J5,g,jY h d,e,a,SH c,eH t.b (t.r i).up hu,f,b,iz,afG]
 ·simp only[F1,go_sem,simprocAttr,J5,g,jY h d,e,a,SH c,eH t.b (t.r i).up hu,f,b,iz]
def me(t:aw)(h:Nat):AV:=.ay [.agg (bR (aN t h).1),.int .i64 (aN t h).2]
def s6(t:aw)(j:bS t)(h:Nat)(c:h<4294967296)(H:List ae)(lo:oN):D X0 (.fn (.func 80) [] []) [.agg (aO t),.int .u32 h] ⟨H,lo⟩=some (.ret (me t h) ⟨H,lo⟩):=by
 refine aH JW λN i=>?_
 have k:=zE h;have f: (aP h:Int)<32:=by omega
 have e:iX h= .ay [.int .i64 (aP h:Nat),.bool (eN h).isSome]:=rfl;have d:=agS t j h c;have b:aN t h=if t.au h then({t.r (aP h)with up:=iz t (aP h)},0)else(dq,4):=rfl
 unfold me;rw[b];have g:au t.b h=t.au h:=rfl;cases a:t.au h
 ·simp only[F1,go_sem,simprocAttr,JW,i,eH t.b h c,g,a,agR,afG]
 ·simp only[F1,go_sem,simprocAttr,JW,i,jY h c,e,f,arD k,eH t.b h c,g,a,d]
def zQ(t:aw)(a n:Nat):AV:=.ay [.agg (aO (lg t a n).1),.int .u32 (lg t a n).2.1,.int .i64 (lg t a n).2.2]
theorem agT: [AV.int .u32 0,.int .i64 n,.aq,.int .i64 0,.int .u32 0,.int .u32 0,.int .u32 0,.int .u32 0,.int .u32 0,.int .u32 0,.int .u32 0,.int .u32 0]=bR {dq with up:=0,dn:=n}:=rfl
theorem ar4{u:Nat}: [AV.int .u32 (u:Nat),.int .i64 n,.aq,.int .i64 0,.int .u32 0,.int .u32 0,.int .u32 0,.int .u32 0,.int .u32 0,.int .u32 0,.int .u32 0,.int .u32 0]=bR {dq with up:=u,dn:=n}:=rfl
def ar5(t:aw)(o:bS t)(a n:Nat)(m:a<4294967296)(H:List ae)(lo:oN):D X0 (.fn (.func 303) [] []) [.agg (aO t),.int .u32 a,.int .i64 n] ⟨H,lo⟩=some (.ret (zQ t a n) ⟨H,lo⟩):=by
 refine aH vk λN j=>?_
 have p:au t.b a=t.au a:=rfl;have d:=agP t.b o.b;unfold zQ lg;by_cases e:a≠0/\t.au a=false
 ·rw[adV e];have b: ¬(a:Int)=0:=by omega
  simp only[F1,go_sem,simprocAttr,vk,j,b,eH t.b a m,p,e.2,cU]
 ·rw[ada e];have c:a=0\/ (¬(a:Int)=0/\t.au a=true):=by
   by_cases s:a=0
   ·exact .inl s
   ·refine .inr ⟨by omega,?_⟩;cases u:t.au a
    ·exact absurd ⟨s,u⟩ e
    ·rfl
  by_cases r:64<n
  ·rw[adV r];have h:decide (n<=64)=false:=by simp;omega
   rcases c with rfl| ⟨b,g⟩
   ·simp only[F1,go_sem,simprocAttr,vk,j,zP,h,cU]
   ·simp only[F1,go_sem,simprocAttr,vk,j,b,eH t.b a m,p,g,zP,h,cU]
  ·rw[ada r];have h:decide (n<=64)=true:=by simp;omega
   cases l:ng t.b with
   |none=>
    rcases c with rfl| ⟨b,g⟩
    ·simp only[F1,go_sem,simprocAttr,vk,j,zP,h,cU,d,sZ,pR,l]
    ·simp only[F1,go_sem,simprocAttr,vk,j,b,eH t.b a m,p,g,zP,h,cU,d,sZ,pR,l]
   |some i=>
    obtain⟨f,x,w,v⟩:=re l;have k: (i:Int)<32:=by omega
    have q:eN (c7 i (t.b i).gen)=some i:=KX f (o.b i).1;rcases c with rfl| ⟨b,g⟩
    ·simp only[F1,go_sem,simprocAttr,vk,j,zP,h,cU,d,sZ,pR,l,k,jY (c7 i (t.b i).gen) (FI f (o.b i).1),iX,q,agT,K1 f];omega
    ·simp only[F1,go_sem,simprocAttr,vk,j,b,eH t.b a m,p,g,zP,h,cU,d,sZ,pR,l,k,jY (c7 i (t.b i).gen) (FI f (o.b i).1),iX,q,ar4,K1 f];omega
def S5(t:aw)(h:Nat):AV:=.ay [.agg (aO (iA t h).1),.int .i64 (iA t h).2]
def ar6(t:aw)(i:bS t)(h:Nat)(f:h<4294967296)(H:List ae)(lo:oN):D X0 (.fn (.func 339) [] []) [.agg (aO t),.int .u32 h] ⟨H,lo⟩=some (.ret (S5 t h) ⟨H,lo⟩):=by
 refine aH KQ λN g=>?_
 have j:=zE h;have a: (aP h:Int)<32:=by omega
 have e:iX h= .ay [.int .i64 (aP h:Nat),.bool (eN h).isSome]:=rfl;have d:=agQ t.b i.b h f;have k:au t.b h=t.au h:=rfl;unfold S5 iA;cases b:t.au h
 ·have c:dS t.b h=(t.b,false):=by unfold dS;grind
  simp only[F1,go_sem,simprocAttr,KQ,g,d,zO,c,cU,afG]
 ·have c: (dS t.b h).2=true:=by unfold dS;rw[k,b];rfl
  simp only[F1,go_sem,simprocAttr,KQ,g,d,zO,c,cU,jY h f,e,a,<-agR,K1 j];omega
def eo[Inhabited α]{k:Nat}(h:k<l.length):l.getD k default∈l:=by grind
def kC{α:Type}(p:α->Bool)(l:List α):Int:=match l.findIdx? p with
 |some i=>i
 |none=> -1
def zR(p:α->Bool)(l:List α):decide (0<=kC p l)=l.any p:=by
 unfold kC
 grind
def zS[Inhabited α]{k:Nat}(b:k<l.length)(h: ∀j,j<k->p (l.getD j default)=false)(a:p (l.getD k default)=true):kC p l=k:=by
 have:l.findIdx? p=some k:=by grind [List.findIdx?_eq_some_iff_getElem]
 unfold kC;rw[this]
def zT[Inhabited α](h: ∀j,j<l.length->p (l.getD j default)=false):kC p l= -1:=by
 have:l.findIdx? p=none:=by grind [List.findIdx?_eq_none_iff,List.getElem_of_mem]
 unfold kC;rw[this]
def hC(h:Nat):lA:=[.int .u32 h]
theorem pH:Den.part false 1 (hC h) 0=some (.int .u32 h):=rfl
def bC(b:UInt8):lA:=[.int .u8 b.toNat]
theorem pB{b:UInt8}:Den.part false 1 (bC b) 0=some (.int .u8 b.toNat):=rfl
def sC(s:lB):lA:=[S s]
theorem pS{s:lB}:Den.part false 1 (sC s) 0=some (S s):=rfl
structure Instr where
 op:Nat
 a:Nat
 b:Nat
 c:Nat
 n:Nat
 deriving DecidableEq,Inhabited
def agU(v fv:AV)(l:List aD)(b:Rv v 2 (l.map aA))(r:l.length<2^40)(p:aD->Bool)(H:List ae)(lo:oN)
  (o: ∀x∈l,D X0 fv [.agg (aA x)] ⟨H,none⟩=some (.ret (.bool (p x)) ⟨H,none⟩)):D X0 (.fn (.func 203) [] []) [v,fv] ⟨H,lo⟩=some (.ret (.int .i64 (kC p l)) ⟨H,lo⟩):=by
 refine aH Q9 λN u=>?_
 simp only[go_sem,simprocAttr,Q9,b.bN];refine dP l.length (λk e H'=>H'=H/\e 0=v/\e 1=fv/\e 7= .int .i64 l.length/\e 8= .int .i64 k/\ ∀j,j<k->p (l.getD j default)=false) 0 (by omega) ?_ ?_
 ·simp only[go_sem,simprocAttr];omega
 ·rintro k s e H' ⟨rfl,i,g,f,d,c⟩ n q;simp(disch:=omega) only[bQ,F1,go_sem,simprocAttr,afc,i,g,f,d];refine⟨λh=>?_,λh=>?_⟩
  ·have a:k<l.length:=by omega
   simp(disch:=omega) only[go_sem,simprocAttr,b.ca,b.cD,↓SP,o _ (eo a)];refine⟨by omega,?_⟩;cases m:p (l.getD k default)
   ·simp(disch:=omega) only[go_sem,simprocAttr,i,g,f,d]
    grind
   ·simp(disch:=omega) only[F1,go_sem,simprocAttr];rw[zS a c m]
  ·rw[zT (λj t=>c j (by omega))]
def ar7(v fv:AV)(l:List aD)(a:Rv v 2 (l.map aA))(b:l.length<2^40)(p:aD->Bool)(H:List ae)(lo:oN)
  (c: ∀x∈l,D X0 fv [.agg (aA x)] ⟨H,none⟩=some (.ret (.bool (p x)) ⟨H,none⟩)):D X0 (.fn (.func 184) [] []) [v,fv] ⟨H,lo⟩=some (.ret (.bool (l.any p)) ⟨H,lo⟩):=by
 refine aH QW λN d=>?_
 simp(disch:=omega) only[F1,go_sem,simprocAttr,QW,agU v fv l a b p H none c,zR]
def agV{X:Ctx}(a:Ext X0 X)(h:X0.code f=some pf)(b:X0.b8 f=none):X.b8 f=none:=by
 rcases a.b8 f with e| ⟨_,e⟩
 ·grind
 grind
def agW{X:Ctx}(a:Ext X0 X)(h:X0.code f=some pf):X.code f=some pf:=by rw[a.code];exact h
def up{X:Ctx}(a:Ext X0 X){args:lA}{E:AS}{r:aX}(h:D X0 v args E=some r):D X v args E=some r:=adN a _ _ _ _ h
def agX{X:Ctx}(f:Ext X0 X)(v fv:AV)(l:lN)(H:List ae)(b:Rd ⟨H,none⟩ v 1 (l.map hC))(s:l.length<2^40)(p:Nat->Bool)(lo:oN)
  (q: ∀x∈l,D X fv [.int .u32 x] ⟨H,none⟩=some (.ret (.bool (p x)) ⟨H,none⟩)):D X (.fn (.func 200) [] []) [v,fv] ⟨H,lo⟩=some (.ret (.int .i64 (kC p l)) ⟨H,lo⟩):=by
 refine Oi Q6 (agV f rfl rfl) (agW f rfl) rfl λN w=>?_
 simp only[go_sem,simprocAttr,Q6,b.bN];refine dP l.length (λk e H'=>H'=H/\e 0=v/\e 1=fv/\e 7= .int .i64 l.length/\e 8= .int .i64 k/\ ∀j,j<k->p (l.getD j default)=false) 0 (by omega) ?_ ?_
 ·simp only[go_sem,simprocAttr];omega
 ·rintro k t e H' ⟨rfl,o,m,i,g,c⟩ n r;simp(disch:=omega) only[bQ,F1,go_sem,simprocAttr,afa,o,m,i,g];refine⟨λh=>?_,λh=>?_⟩
  ·have a:k<l.length:=by omega
   simp(disch:=omega) only[go_sem,simprocAttr,b.ca,b.cD,↓pH,q _ (eo a)];refine⟨by omega,?_⟩;cases d:p (l.getD k default)
   ·simp(disch:=omega) only[go_sem,simprocAttr,o,m,i,g];exact⟨a,nv c d⟩
   ·simp(disch:=omega) only[F1,go_sem,simprocAttr];rw[zS a c d]
  ·rw[zT (λj u=>c j (by omega))]
def agY{X:Ctx}(a:Ext X0 X)(v fv:AV)(l:lN)(H:List ae)(b:Rd ⟨H,none⟩ v 1 (l.map hC))(c:l.length<2^40)(p:Nat->Bool)(lo:oN)
  (d: ∀x∈l,D X fv [.int .u32 x] ⟨H,none⟩=some (.ret (.bool (p x)) ⟨H,none⟩)):D X (.fn (.func 334) [] []) [v,fv] ⟨H,lo⟩=some (.ret (.bool (l.any p)) ⟨H,lo⟩):=by
 refine Oi R9 (agV a rfl rfl) (agW a rfl) rfl λN e=>?_
 simp(disch:=omega) only[F1,go_sem,simprocAttr,R9,agX a v fv l H b c p none d,zR]
def ar8(v fv:AV)(l:lB)(b:Rv v 1 (l.map bC))(r:l.length<2^40)(p:UInt8->Bool)(H:List ae)(lo:oN)
  (o: ∀x∈l,D X0 fv [.int .u8 x.toNat] ⟨H,none⟩=some (.ret (.bool (p x)) ⟨H,none⟩)):D X0 (.fn (.func 138) [] []) [v,fv] ⟨H,lo⟩=some (.ret (.int .i64 (kC p l)) ⟨H,lo⟩):=by
 refine aH Qy λN u=>?_
 simp only[go_sem,simprocAttr,Qy,b.bN];refine dP l.length (λk e H'=>H'=H/\e 0=v/\e 1=fv/\e 7= .int .i64 l.length/\e 8= .int .i64 k/\ ∀j,j<k->p (l.getD j default)=false) 0 (by omega) ?_ ?_
 ·simp only[go_sem,simprocAttr];omega
 ·rintro k s e H' ⟨rfl,m,i,g,f,c⟩ n q;simp(disch:=omega) only[bQ,F1,go_sem,simprocAttr,aeX,m,i,g,f];refine⟨λh=>?_,λh=>?_⟩
  ·have a:k<l.length:=by omega
   simp(disch:=omega) only[go_sem,simprocAttr,b.ca,b.cD,↓pB,o _ (eo a)];refine⟨by omega,?_⟩;cases d:p (l.getD k default)
   ·simp(disch:=omega) only[go_sem,simprocAttr,m,i,g,f];exact⟨a,nv c d⟩
   ·simp(disch:=omega) only[F1,go_sem,simprocAttr];rw[zS a c d]
  ·rw[zT (λj t=>c j (by omega))]
def ar9(v fv:AV)(l:lB)(a:Rv v 1 (l.map bC))(b:l.length<2^40)(p:UInt8->Bool)(H:List ae)(lo:oN)
  (c: ∀x∈l,D X0 fv [.int .u8 x.toNat] ⟨H,none⟩=some (.ret (.bool (p x)) ⟨H,none⟩)):D X0 (.fn (.func 95) [] []) [v,fv] ⟨H,lo⟩=some (.ret (.bool (l.any p)) ⟨H,lo⟩):=by
 refine aH Qo λN d=>?_
 simp(disch:=omega) only[F1,go_sem,simprocAttr,Qo,ar8 v fv l a b p H none c,zR]
def asa(v fv:AV)(l:List lB)(b:Rv v 1 (l.map sC))(r:l.length<2^40)(p: lB->Bool)(H:List ae)(lo:oN)
  (o: ∀x∈l,D X0 fv [S x] ⟨H,none⟩=some (.ret (.bool (p x)) ⟨H,none⟩)):D X0 (.fn (.func 137) [] []) [v,fv] ⟨H,lo⟩=some (.ret (.int .i64 (kC p l)) ⟨H,lo⟩):=by
 refine aH Qx λN u=>?_
 simp only[go_sem,simprocAttr,Qx,b.bN];refine dP l.length (λk e H'=>H'=H/\e 0=v/\e 1=fv/\e 7= .int .i64 l.length/\e 8= .int .i64 k/\ ∀j,j<k->p (l.getD j default)=false) 0 (by omega) ?_ ?_
 ·simp only[go_sem,simprocAttr];omega
 ·rintro k s e H' ⟨rfl,m,i,g,f,c⟩ n q;simp(disch:=omega) only[bQ,F1,go_sem,simprocAttr,aeW,m,i,g,f];refine⟨λh=>?_,λh=>?_⟩
  ·have a:k<l.length:=by omega
   simp(disch:=omega) only[go_sem,simprocAttr,b.ca,b.cD,↓pS,o _ (eo a)];refine⟨by omega,?_⟩;cases d:p (l.getD k default)
   ·simp(disch:=omega) only[go_sem,simprocAttr,m,i,g,f];exact⟨a,nv c d⟩
   ·simp(disch:=omega) only[F1,go_sem,simprocAttr];rw[zS a c d]
  ·rw[zT (λj t=>c j (by omega))]
def asb(v fv:AV)(l:List lB)(a:Rv v 1 (l.map sC))(b:l.length<2^40)(p: lB->Bool)(H:List ae)(lo:oN)
  (c: ∀x∈l,D X0 fv [S x] ⟨H,none⟩=some (.ret (.bool (p x)) ⟨H,none⟩)):D X0 (.fn (.func 94) [] []) [v,fv] ⟨H,lo⟩=some (.ret (.bool (l.any p)) ⟨H,lo⟩):=by
 refine aH Qn λN d=>?_
 simp(disch:=omega) only[F1,go_sem,simprocAttr,Qn,asa v fv l a b p H none c,zR]
def Cd(r:aD)(b:r.1+r.2<4294967296)(H:List ae)(lo:oN):D X0 (.fn (.func 169) [] []) [.agg (aA r)] ⟨H,lo⟩=some (.ret (.int .i64 (r.1+r.2:Nat)) ⟨H,lo⟩):=by
 refine aH QS λN a=>?_
 simp(disch:=omega) only[F1,go_sem,simprocAttr,QS,a,aA,amS]
def S6(r:aD)(c:r.1<4294967296)(b:r.2<4294967296)(H:List ae)(lo:oN):D X0 (.fn (.func 167) [] []) [.agg (aA r)] ⟨H,lo⟩=some (.ret (.bool (ld r)) ⟨H,lo⟩):=by
 refine aH QQ λN a=>?_
 simp(disch:=omega) only[R4,F1,go_sem,simprocAttr,QQ,a,aA,ld]
 (repeat' (first|apply And.intro|intro _))
 all_goals(first|omega| (refine dj (ag9 AV.bool (amt.2 ?_)) rfl;grind))
def holds(y x:aD):Bool:=decide (x=y)|| (decide (y.1<=x.1)&&decide (x.1+x.2<=y.1+y.2))
def run_eq(a b:aD):dE (.agg [.int,.int]) (.agg (aA a)) (.agg (aA b))=some (decide (a=b)):=by
 obtain⟨f,e⟩:=a;obtain⟨d,c⟩:=b;simp only[dE,aA,afO,amQ,adf,adg,af1,and_self,aqb,Int.natCast_inj]
 grind
def agZ(y x:aD)(d:y.1+y.2<4294967296)(e:x.1+x.2<4294967296)(H:List ae)(lo:oN):D X0 (.fn (.func 186) [] []) [.agg (aA y),.agg (aA x)] ⟨H,lo⟩=some (.ret (.bool (holds y x)) ⟨H,lo⟩):=by
 refine aH Fj λN b=>?_
 have f:=Cd y d;have ex:=Cd x e;by_cases he:x=y
 ·simp only[F1,go_sem,simprocAttr,Fj,b,run_eq,he,holds]
 ·by_cases c:y.1<=x.1
  ·have a: (y.1:Int)<=x.1:=by omega
   simp only[F1,go_sem,simprocAttr,Fj,b,run_eq,he,holds,c,a,f,ex,amS];refine dj (ag9 AV.bool (amt.2 ?_)) rfl
   grind
  ·have a: ¬(y.1:Int)<=x.1:=by omega
   simp only[F1,go_sem,simprocAttr,Fj,b,run_eq,he,holds,c,a,ahj,aqw]
def Ce(l:List aD):Prop:=l.length<=64/\ ∀x∈l,x.1+x.2<=64
def asc(x y:aD)(c:x.1+x.2<4294967296)(b:y.1+y.2<4294967296)(p:Nat)(H:List ae)(lo:oN)(e:H[p]?=some (.box (aA x) none)):
  D X0 (.fn (.func 185) [] [.ptr p 0]) [.agg (aA y)] ⟨H,lo⟩=some (.ret (.bool (holds y x)) ⟨H,lo⟩):=by
 refine eY QX λN d=>?_
 have a: ∀L,(H++L)[p]?=some (.box (aA x) none):=λL=>by grind
 simp only[F1,go_sem,simprocAttr,QX,d,a,agZ y x b c]
def Ld(l:List aD)(k:Nat):Bool:=decide (k<64)&&l.any λy=>holds y (k,1)
def asd(v:AV)(l:List aD)(f:Rv v 2 (l.map aA))(b:Ce l)(k:Nat)(i:k<2147483648)(H:List ae)(lo:oN):
  D X0 (.fn (.func 166) [] []) [.agg [v],.int .i64 k] ⟨H,lo⟩=some (.ret (.bool (Ld l k)) ⟨H,lo⟩):=by
 refine aH Kd λN a=>?_
 have hm:=S6 (k,1) (by omega) (by simp);have c:=ar7 v (.fn (.func 185) [] [.ptr (N+1) 0]) l f (by have:=b.1;omega) (λy=>holds y (k,1)) (H++[.box [v] none,.box (aA (k,1)) none]) none (λy d=>asc (k,1) y (by omega) (by have:=b.2 y d;omega) (N+1) _ none (by rw[bA a];rfl));have g:aA (k,1)=[.int .i64 (k:Nat),.int .i64 1]:=rfl;rw[g]at hm c;by_cases h:k<64
 ·have e:ld (k,1)=true:=by simp[ld];omega
  simp only[F1,go_sem,simprocAttr,Kd,a,hm,e,c];simp[Ld,h]
 ·have e:ld (k,1)=false:=by simp[ld];omega
  simp only[F1,go_sem,simprocAttr,Kd,a,hm,e];simp[Ld,h]
def s8{X:Ctx}(pf:PF){args cap:lA}{H:List ae}{R:aX->Prop}(b:X.b8 f=none)(e:X.code f=some pf)(d:Nat.ble (args++cap).length pf.ntmps=true)
  (h: ∀n,H.length=n->wp X f false pf.body ⟨di (args++cap),[]⟩ ⟨H,none⟩ (dO X n lo pf.results R)): ∃a,D X (.fn (.func f) [] cap) args ⟨H,lo⟩=some a/\R a:=by
 have c:=aoG d;refine Oh b e (by grind) ?_
 grind
def xj(l:List aD):List lA:=(List.range l.length).map λi=>[.int .i64 (i:Nat),.agg (aA (l.getD i default))]
def Cf(l:List aD): (xj l).length=l.length:=by simp[xj]
def S7{l:List aD}(h:j<l.length): (xj l)[j]?=some [.int .i64 (j:Nat),.agg (aA (l.getD j default))]:=by
 unfold xj;grind
def zU{N id o:Nat}{f:Fn}{L:lA}{H:List ae}(h:N<=id):finish N lo (.fn f [] (.ptr id o::L)) ⟨H,none⟩=(.fn f [] (.ptr id o::L),⟨H,lo⟩):=by
 have a: ¬(AV.fn f [] (.ptr id o::L)).refs<=N:=by simp only[AV.refs,aI];omega
 refine adh a ?_;unfold Den.freeze;simp[a]
def ag0(a:Rv v sz af){H:List ae}{tg:Option TypeId}:nV ⟨H,lo⟩ v tg=some (.ptr H.length 0,⟨H++[.box [v] tg],lo⟩):=by
 obtain⟨h,_,_⟩:=a ⟨[],none⟩;cases v<;>first|rfl|grind
def cK(b:Rv v sz af)(c:bZ af=0):v.refs=0:=by
 obtain⟨d,a,e⟩:=b ⟨[],none⟩;cases v<;>simp only[]at d
 ·rfl
 ·simp only[Den.elems]at a;split at a
  ·cases a;simpa only[AV.refs]using c
  grind
 ·trivial
def ag1(v:AV)(l:List aD)(d:Rv v 2 (l.map aA))(N:Nat)(H:List ae)(c:H.length=N)(lo:oN):
  D X0 (.fn (.func 168) [] []) [.agg [v]] ⟨H,lo⟩=some (.ret (.fn (.func 204) [] [.ptr (N+1) 0]) ⟨H++[.box [v] none,.box [v] none],lo⟩):=by
 have e:=λH'=>ag0 (H:=H') (lo:=none) (tg:=none) d
 have e1:D X0 (.fn (.func 187) [] []) [v] ⟨H++[.box [v] none],none⟩=some (.ret (.fn (.func 204) [] [.ptr (N+1) 0]) ⟨H++[.box [v] none,.box [v] none],none⟩):=by
  refine aH QY λM a=>?_
  have b:M=N+1:=by rw[<-a];simp[c]
  subst b;simp only[go_sem,simprocAttr,QY,a,e];rw[zU (by omega)]
 refine aH QR λM a=>?_
 obtain rfl:M=N:=by rw[<-a,c]
 simp only[go_sem,simprocAttr,QR,a,e1];rw[zU (by omega)]
def lu{X:Ctx}{a:List RV}{R:aX->Prop}{e:Env}{p:Nat}{b:lN}{H:List ae}{l:oN}:
  dO X n lo a R .ret ⟨e,p::b⟩ ⟨H,l⟩=match H[p]? with|some .fk=>dO X n lo a R .ret ⟨e,b⟩ ⟨H.set p .dead,l⟩|_=>False:=by
 simp only[yy,dM];cases c:H[p]? with
 |none=>simp
 |some o=>cases o<;>simp[AS.set]
def fits(n:Nat)(x:aD):Bool:=decide (1<=n)&&decide (n<=x.2)
def Le(l:List aD)(n:Nat):AV:=match l.find? (fits n)with
 |some x=>.ay [.int .i64 (x.1:Nat),.bool true]
 |none=>.ay [.int .i64 0,.bool false]
def ase[Inhabited α]{k:Nat}(b:k<l.length)(h: ∀j,j<k->p (l.getD j default)=false)(a:p (l.getD k default)=true):l.find? p=some (l.getD k default):=by
 rw[List.find?_eq_some_iff_getElem];refine⟨a,k,b,?_,λj c=>?_⟩
 ·grind
 grind
def asf[Inhabited α](h: ∀j,j<l.length->p (l.getD j default)=false):l.find? p=none:=by
 rw[awX];intro x a;obtain⟨j,b,rfl⟩:=aqs a
 grind
def ag2(v:AV)(l:List aD)(z:Rv v 2 (l.map aA))(X:Ce l)(a:Nat)(o:ae):
  uN X0 (.fn (.func 204) [] [.ptr (a+1) 0]) a [o,.box [v] none] (xj l):=by
 intro S V y I J b B p A W s hP h0 Z d hG lo;have U:l.length<=64:=X.1;have g: ∀i,V.cE i->i<b:=λi Y=>(p i Y).1
 suffices h: ∃w,D X0 (.fn (.func 204) [] [.ptr (a+1) 0]) [y] ⟨W,lo⟩=some w/\
  (λw=> ∃s' m ak,w=aX.ret (.ay []) ⟨m,ak⟩/\V.P s' m/\ (I (xj l).length s'\/J s')/\b<=m.length/\
    (∀i,i<b-> ¬V.cE i-> ¬(a<=i/\i<a+[o,ae.box [v] none].length)->m[i]?=W[i]?)/\kR V.c b lo ak none (V.row s')) w by grind
 refine s8 Ra rfl rfl rfl λN hN=>?_
 obtain rfl:N=b:=by omega
 have t:W[a+1]?=some (.box [v] none):=hG 1 (by simp);simp only[go_sem,simprocAttr,Ra,t,z.bN];refine gN l.length (λk e m ak=> ∃s',I k s'/\kf V N W (λi=>a<=i/\i<a+[o,ae.box [v] none].length) s' m ak/\e 0=y/\e 5=v/\e 6= .int .i64 l.length/\e 7= .int .i64 k) 0 (by omega) ?_ ?_
 ·simp only[go_sem,simprocAttr];exact⟨s,h0,⟨hP,by omega,λ_ _ _ _=>rfl,.inl ⟨rfl,d⟩,λr e=>by rw[d]at e;cases e⟩⟩
 rintro k hk e W1 x ⟨s1,G,F,K,H,e6,e7⟩ n T;simp only[bQ,go_sem,simprocAttr,afd,H,e6,e7];refine⟨λh=>?_,λh=>?_⟩
 ·have q:k<l.length:=by omega
  have j:=F.push B g [.box (aA (l.getD k default)) none];obtain⟨c,s2,W2,R,Q,P,O,M,L,E⟩:=A k _ s1 (S7 q) G (W1++[.box (aA (l.getD k default)) none]) j.P j.len x;have u:=j.step P O M L;simp(disch:=omega) only[go_sem,simprocAttr,z.ca,z.cD,h,T,K,Q];cases c
  ·obtain⟨C,f,f1,f2,f3,f4,f5⟩:=u.fin B g (dL:=lo);simp only[go_sem,simprocAttr,f1];exact⟨s2,C,f,rfl,f2,.inr E,f3,f4,f5⟩
  ·simp(disch:=omega) only[go_sem,simprocAttr,K,H,e6,e7];exact⟨q,s2,E,u⟩
 ·obtain⟨C,f,f1,f2,f3,f4,f5⟩:=F.fin B g (dL:=lo);simp only[go_sem,simprocAttr,f1];exact⟨s1,C,f,rfl,f2,.inl (by rw[Cf,show l.length=k by omega];exact G),f3,f4,f5⟩
def bc{H L:List ae}{o:ae}(h:H[i]?=some o): (H++L)[i]?=some o:=by grind
def cO{H:List ae}{p:Nat}{x o:ae}(h:H[p]?=some x): (H.set p o)[p]?=some o:=by grind
def dU{H:List ae}{o:ae}(h:H[i]?=some o):i<H.length:=by grind
def lv{W H:List ae}{N:Nat}(a:H.length=N)(h: ∀i,i<N->W[i]?=H[i]?):W.take N=H:=by
 apply anX
 grind
def asg(v:AV)(l:List aD)(Q:Rv v 2 (l.map aA))(Z:Ce l)(m:Nat)(H:List ae)(lo:oN):
  D X0 (.fn (.func 212) [] []) [.agg [v],.int .i64 m] ⟨H,lo⟩=some (.ret (Le l m) ⟨H,lo⟩):=by
 refine aH Re λN C=>?_
 have he:=ag1 v l Q (N+4) (H++[.box [v] none,.box [.int .i64 m] none,.box [.int .i64 0] none,.box [.bool false] none]) (by simp[C]) none;simp only[go_sem,simprocAttr,Re,C,he];refine wv (S:=Option aD) (λe=>e 3= .ptr (N+1) 0/\e 4= .ptr (N+2) 0/\e 5= .ptr (N+3) 0) (by simp only[go_sem,simprocAttr]) (xj l) C [.box [v] none,.box [v] none] (λs=>[.box [v] none,.box [.int .i64 m] none,.box [.int .i64 ((s.getD (0,0)).1:Nat)] none,.box [.bool s.isSome] none]) (nB:=4) (λ_=>rfl) none
  (λj s=>s=none/\ ∀i,i<j->fits m (l.getD i default)=false) (λex s=>ex= .ret/\s.isSome=true/\l.find? (fits m)=s) rfl ?_ (by simp) ⟨rfl,λi G=>absurd G (an0 i)⟩ (λex s h=>⟨.ret,by rw[h.1];rfl,by rw[h.1];rfl,by rw[h.1];rfl⟩) ?_ ?_ ?_
 ·exact ag2 v l Q Z (N+4) _
 ·rintro e ⟨e3,F,E⟩ j y s J ⟨rfl,f⟩;have R:j<l.length:=by
   have:=(ac9.1 J).1;rwa[Cf]at this
  rw[S7 R]at J;cases J;have P:=ase (p:=fits m) R f;have z:=nv (p:=λi=>fits m (l.getD i default)=false) f;generalize l.getD j default=r at*;refine⟨rfl,λW n' Y X w=>?_⟩;simp only[go_sem,simprocAttr,ie,Y];refine⟨[.box (aA r) none],rfl,λI n B=>?_⟩;simp only[eD,eC,alc,afM,Nat.reduceAdd]at B;obtain⟨w0,w1,u,t⟩:=B;have f1: ∀L,(I++L)[N+1]?=some (.box [.int .i64 m] none):=λL=>bc w1
  have f2: ∀L,(I++L)[N+2]?=some (.box [.int .i64 (0:Nat)] none):=λL=>bc u
  have f3: ∀L,(I++L)[N+3]?=some (.box [.bool false] none):=λL=>bc t
  by_cases c:fits m r=true
  ·have c2:1<=m/\m<=r.2:=by unfold fits at c;simpa using c
   have g: (m:Int)>=1:=by omega
   have q: (r.2:Int)>=m:=by omega
   simp(disch:=omega) only[go_sem,simprocAttr,Kq,e3,F,E,f1,f2,f3,n,g,q,Il];refine⟨some r,?_,by omega,λi G A=>?_,rfl,P c⟩
   ·simp only[eD,eC,alc,afM,Nat.reduceAdd];refine⟨?_,?_,?_,?_⟩
    ·rw[acK (by omega),acK (by omega)];exact bc w0
    ·rw[acK (by omega),acK (by omega)];exact f1 _
    ·rw[acK (by omega),aeo (by simp;omega)];rfl
    ·rw[aeo (by simp;omega)];rfl
   ·rw[acK (by omega),acK (by omega),ac7 (by omega)]
  ·have c:fits m r=false:=by simpa using c
   have k:il (I++[ae.box (aA r) none]) N 0 [.box [v] none,.box [.int .i64 m] none,.box [.int .i64 (0:Nat)] none,.box [.bool false] none]:=by
    simp only[eD,eC,alc,afM,Nat.reduceAdd];exact⟨bc w0,f1 _,f2 _,f3 _⟩
   by_cases h1:1<=m
   ·have g: (m:Int)>=1:=by omega
    have q: ¬(r.2:Int)>=m:=by unfold fits at c;simp[h1]at c;omega
    simp only[go_sem,simprocAttr,Kq,e3,f1,n,g,q,oc];exact⟨none,k,by omega,λi G A=>ac7 (by omega),rfl,z c⟩
   ·have g: ¬(m:Int)>=1:=by omega
    simp only[go_sem,simprocAttr,Kq,e3,f1,n,g,oc];exact⟨none,k,by omega,λi G A=>ac7 (by omega),rfl,z c⟩
 ·rintro e ⟨e3,F,E⟩ s W p V ⟨rfl,f⟩ d w O;simp only[eD,eC,alc,afM,Nat.reduceAdd]at w;obtain⟨w0,w1,u,t⟩:=w;rw[Cf]at f;have K: ∀a b c,(((W.set (N+2) a).set (N+3) b).set p c).take N=H:=λa b c=>(((d.set (by omega)).set (by omega)).set (by omega)).take C
  have T: ∀a b,((W.set (N+2) a).set (N+3) b)[N+3]?=some b:=λa b=>aeo (by rw[afL];exact dU t)
  have s2: ∀a b,((W.set (N+2) a).set (N+3) b)[N+2]?=some a:=λa b=>by rw[acK (by omega)];exact cO u
  simp(disch:=omega) only[F1,go_sem,simprocAttr,F,E,u,t,O,lu,K,s2,T,Le,asf f]
 ·rintro e ⟨e3,F,E⟩ ex s W p V ⟨rfl,U,hI⟩ d w O;simp only[eD,eC,alc,afM,Nat.reduceAdd]at w;obtain⟨w0,w1,u,t⟩:=w;have M: ∀o,(W.set p o).take N=H:=λo=>(d.set (by omega)).take C
  simp(disch:=omega) only[F1,go_sem,simprocAttr,F,E,u,t,O,lu,M];refine dj ?_ rfl;unfold Le;rw[hI];cases s with
  |none=>cases U
  |some x=>rfl
structure Cg where
 x:aD
 put:Bool
 out:List aD
 row:oN
 res:AV
 ok:Bool
def ag3(H:List ae)(N:Nat)(v:AV)(s:Cg)(W:List ae):Prop:=
 (∀i,i<N->W[i]?=H[i]?)/\W[N]?=some (.box [v] none)/\W[N+1]?=some (.box [s.res] none)/\W[N+2]?=some (.box [.bool s.ok] none)/\W[N+3]?=some (.box (aA s.x) none)/\
   W[N+5]?=some (.box [.bool s.put] none)/\SV (N+4) 2 eL W s.row (s.out.map aA)
def S8(H:List ae)(N:Nat)(v:AV):YV Cg:=⟨ag3 H N v,Cg.row,λi=>i<N+6,N⟩
def ash(H:List ae)(N:Nat)(v:AV): (S8 H N v).Ok where
 st:=λs W e ⟨m,l,k,j,g,f,b⟩ h=>by
  have d: ∀i,i<N+6->e[i]?=W[i]?:=λi a=>h i (.inl a)
  exact⟨λi a=>by grind,by grind,by grind,by grind,
   by simp_all,by simp_all,b.st (d _ (by omega)) λi a=>h i (.inr a)⟩
 lt:=λs W r ⟨_,_,_,_,_,_,b⟩ c=>b.row c
def S9(l:List aD)(a:aD)(v:AV)(j:Nat)(s:Cg):Prop:=
 iw a false [] l=iw s.x s.put s.out (l.drop j)/\s.x.1+s.x.2<=64/\s.out.length<=2*j/\s.res= .aq/\s.ok=false
def ag4(l:List aD)(a:aD)(v:AV)(b:Ex)(s:Cg):Prop:=b= .ret/\iw a false [] l=none/\s.res=v/\s.ok=false
def p7(v:AV)(l:List aD)(x:aD):AV:=match iT l x with
 |some a=>.ay [.agg [ed a],.bool true]
 |none=>.ay [.agg [v],.bool false]
def ag5(v:AV)(l:List aD)(hv:Rv v 2 (l.map aA))(hl:Ce l)(x:aD)(FN:x.1<4294967296)(Ta:x.2<4294967296)(H:List ae)(lo:oN):
  D X0 (.fn (.func 142) [] []) [.agg [v],.int .i64 (x.1:Nat),.int .i64 (x.2:Nat)] ⟨H,lo⟩=some (.ret (p7 v l x) ⟨H,lo⟩):=by
 refine aH J8 λN hN=>?_
 have hm:=S6 x FN Ta;have hr:aA x=[.int .i64 (x.1:Nat),.int .i64 (x.2:Nat)]:=rfl;rw[hr]at hm;have Tb:v.refs=0:=cK hv (bB (λ_=>rfl) l);cases g:ld x with
 |false=>
  simp(disch:=omega) only[F1,go_sem,simprocAttr,J8,hN,hm,g,Tb];have e1:p7 v l x= .ay [.agg [v],.bool false]:=by unfold p7 iT;rw[g];rfl
  rw[e1]
 |true=>
  have he:=ag1 v l hv (N+6) (H++[.box [v] none,.box [.aq] none,.box [.bool false] none,.box (aA x) none,.box [.aq] none,.box [.bool false] none]) (by simp[hN]) none;rw[hr]at he;simp(disch:=omega) only[go_sem,simprocAttr,J8,hN,hm,g,he];rw[<-hr];generalize E: ((((((((((((((di _).set 3 _).set 6 _).set 7 _).set 13 _).set 14 _).set 15 _).set 8 _).set 16 _).set 17 _).set 18 _).set 9 _).set 10 _).set 20 _).set 21 _=e;have F:e 3= .ptr N 0:=by rw[<-E];rfl
  have q6:e 6= .ptr (N+1) 0:=by rw[<-E];rfl
  have q7:e 7= .ptr (N+2) 0:=by rw[<-E];rfl
  have q8:e 8= .ptr (N+3) 0:=by rw[<-E];rfl
  have q9:e 9= .ptr (N+4) 0:=by rw[<-E];rfl
  have Lf:e 10= .ptr (N+5) 0:=by rw[<-E];rfl
  have q21: (ao.t 21).get e= .fn (.func 204) [] [.ptr (N+6+1) 0]:=by rw[<-E];rfl
  clear E;obtain⟨W0,FO⟩: ∃W0,W0=H++[ae.box [v] none,.box [.aq] none,.box [.bool false] none,.box (aA x) none,.box [.aq] none,.box [.bool false] none,.box [v] none,.box [v] none]:=⟨_,rfl⟩;have asi:W0.length=N+8:=by rw[FO];simp[hN]
  rw[<-FO];have m: ∀k,W0[N+k]?=[ae.box [v] none,.box [.aq] none,.box [.bool false] none,.box (aA x) none,.box [.aq] none,.box [.bool false] none,.box [v] none,.box [v] none][k]?:=λk=>by rw[FO,bA hN]
  have asj:W0[N]?=some (.box [v] none):=by rw[FO,dv hN];rfl
  have DN:ag3 H N v ⟨x,false,[],none,.aq,false⟩ W0:=by
   refine⟨λi b=>by rw[FO,ac7 (by omega)],asj,m 1,m 2,m 3,m 5,.inl ⟨rfl,rfl,m 4⟩⟩
  have qF:x.1+x.2<=64:=by unfold ld at g;simp at g;omega
  refine O7 (S8 H N v) (ash H N v) (xj l) (N+6) [.box [v] none,.box [v] none] W0 ⟨x,false,[],none,.aq,false⟩ (by rw[q21];rfl) (by rw[q21];exact ag2 v l hv hl (N+6) _)
   (λi b=>?_) (by simp[asi]) (λi b=>?_) DN rfl (S9 l x v) (ag4 l x v) ⟨rfl,qF,by simp,rfl,rfl⟩ (λex s h=>?_) ?_ ?_ ?_
  ·match i,b with
   |0,_=>exact m 6
   |1,_=>exact m 7
  ·have:i<N+6:=b;simp only[afO,amQ];omega
  ·exact⟨.ret,by rw[h.1];rfl,by rw[h.1];rfl,by rw[h.1];rfl⟩
  ·intro j y s hy hI;have hj:j<l.length:=by
    have:=(ac9.1 hy).1;rwa[Cf]at this
   rw[S7 hj]at hy;cases hy;have asl:l.drop j=l.getD j default::l.drop (j+1):=by
    rw[an1 hj,afK,adR hj];rfl
   have hym:=hl.2 _ (eo hj);generalize l.getD j default=y at*;refine⟨rfl,λW hP wu=>?_⟩;obtain⟨n,hn⟩: ∃n,W.length=n:=⟨_,rfl⟩;simp(disch:=omega) only[go_sem,simprocAttr,ie,hn];refine⟨[.box (aA y) none],rfl,λO Tc O5=>?_⟩;obtain⟨g1,g2,g3,g4⟩:=hI;rw[asl]at g1;obtain⟨p0,p1,p2,p3,p4,p5,V⟩:=O5;have t:O.length=n:=by omega
   have f3: ∀L,(O++L)[N+3]?=some (.box (aA s.x) none):=λL=>bc p4
   have f5: ∀L,(O++L)[N+5]?=some (.box [.bool s.put] none):=λL=>bc p5
   have f0: ∀L,(O++L)[N]?=some (.box [v] none):=λL=>bc p1
   have f1: ∀L,(O++L)[N+1]?=some (.box [s.res] none):=λL=>bc p2
   have f2: ∀L,(O++L)[N+2]?=some (.box [.bool s.ok] none):=λL=>bc p3
   have hnN:N+10<=n:=by omega
   have Lg:=hl.1;have ey:=Cd y (by omega);have ex:=Cd s.x (by omega);have J:SV (N+4) 2 eL (O++[.box (aA y) none]) s.row (s.out.map aA):=V.st (by rw[ac7 (by omega)]) λi b=>by
    obtain⟨_,_,_,_,q⟩:=V.row b;rw[ac7 (dU q)]
   have f: ∀i,s.row=some i->N+6<=i:=by
    intro i b;rcases V with⟨q,_⟩| ⟨id,aj,q,_,G,F,Q⟩
    ·rw[q]at b;cases b
    ·rw[q]at b;cases b;have:i≠N+5:=by rintro rfl;rw[p5]at Q;cases Q
     omega
   have NV: (O++[ae.box (aA y) none]).length=n+1:=by simp[t]
   have fin: ∀ (w:List ae) (s':Cg) (Lh:oN) (fr:Fr),(∀i,i<n->i≠N+3->i≠N+4->i≠N+5->s.row≠some i->w[i]?=O[i]?)->w[N+3]?=some (.box (aA s'.x) none)->w[N+5]?=some (.box [.bool s'.put] none)->
     SV (N+4) 2 eL w s'.row (s'.out.map aA)->s'.res=s.res->s'.ok=s.ok->n<=w.length->((Lh=none/\s'.row=s.row)\/ (∃j,N<=j/\j<N+10/\Lh=some j/\ (s'.row=s.row\/ ∃r,s'.row=some r/\n<=r)))->S9 l x v (j+1) s'->
     O2 (S8 H N v) (W0.length+2) s O (S9 l x v (j+1)) (ag4 l x v) .normal fr ⟨w,Lh⟩:=by
    intro w s' Lh fr h1 h2 h3 h4 h5 h6 h7 h8 h9;have R: ∀i,i<N+3->w[i]?=O[i]?:=λi b=>h1 i (by omega) (by omega) (by omega) (by omega) (λe=>by have:=f i e;omega)
    refine⟨s',⟨λi b=>by rw[R i (by omega)];exact p0 i b,by rw[R N (by omega)];exact p1,by rw[R (N+1) (by omega),h5];exact p2,by rw[R (N+2) (by omega),h6];exact p3,h2,h3,h4⟩,⟨by show O.length<=w.length;omega,λi b hp hr=>?_⟩,?_,h9⟩
    ·have oZ: ¬i<N+6:=hp;exact h1 i (by omega) (by omega) (by omega) (by omega) hr
    ·rcases h8 with h8| ⟨j,A,G,F,Q⟩
     ·exact .inl h8
     ·refine .inr ⟨j,A,by omega,F,?_⟩;rw[t];exact Q
   have C: ∀af:List lA,af.length<=200->(af.length+1)*16<=room:=λaf h=>by unfold room;omega
   by_cases c1:y.1+y.2<s.x.1
   ·have K: (y.1:Int)+y.2<s.x.1:=by omega
    obtain⟨P,v',W3,w,r',a1,a2,a3,a4,a5,M,a7⟩:=J.append (bytes:=16) (el:=aA y) (by omega) (by omega) rfl rfl (C _ (by simp;omega)) none;simp(disch:=omega) only[go_sem,simprocAttr,zj,q8,q9,t,f3,ey,K,a1,a2,a3,DM,amS];refine fin w {s with out:=s.out++[y],row:=r'} _ _ (λi A G F Q q5=>?_) ?_ ?_ (by rw[afI];exact a4) rfl rfl (by omega) (.inr ⟨N+4,by omega,by omega,rfl,?_⟩) ⟨?_,g2,by simp;omega,g4⟩
    ·rw[M i (by omega) F q5,ac7 (by omega)]
    ·rw[M _ (by omega) (by omega) (λq=>by have:=f _ q;omega)];exact f3 _
    ·rw[M _ (by omega) (by omega) (λq=>by have:=f _ q;omega)];exact f5 _
    ·rcases a7 with q| ⟨q,A,G⟩
     ·exact .inl q
     ·exact .inr ⟨q,A,by omega⟩
    ·rw[g1,iw,adV c1]
   have K: ¬(y.1:Int)+y.2<s.x.1:=by omega
   by_cases c2:s.x.1+s.x.2<y.1
   ·have U: (y.1:Int)>s.x.1+s.x.2:=by omega
    cases c:s.put
    ·obtain⟨P,v',W3,w,r',a1,a2,a3,a4,a5,M,a7⟩:=J.append (bytes:=16) (el:=aA s.x) (by omega) (by omega) rfl rfl (C _ (by simp;omega)) none;have Y: ∀i,r'=some i->N+6<=i:=by
      intro i b;rcases a7 with q| ⟨q,A,G⟩
      ·rw[q]at b;exact f i b
      ·rw[A]at b;cases b;omega
     have u5:w[N+5]?=some (.box [.bool false] none):=by
      rw[M _ (by omega) (by omega) (λq=>by have:=f _ q;omega),<-c];exact f5 _
     have un:w[n]?=some (.box (aA y) none):=by
      rw[M _ (by omega) (by omega) (λq=>?_),<-t]
      ·simp
      ·rcases V with⟨z,_⟩| ⟨id,aj,z,_,z2,z3,z4⟩
       ·rw[z]at q;cases q
       ·rw[z]at q;cases q;have:=dU z4;omega
     have asn:SV (N+4) 2 eL (w.set (N+5) (.box [.bool true] none)) r' ((s.out++[s.x]).map aA):=by
      rw[afI];exact SV.st a4 (acK (by omega)) λi b=>acK (by have:=Y i b;omega)
     obtain⟨vw,v2,T,W6,r2,b1,b2,b3,b4,b5,b6,b7⟩:=asn.append (bytes:=16) (el:=aA y) (by rw[afL];omega) (by omega) rfl rfl (C _ (by simp;omega)) (some (N+4));have b1':w[N+4]?=some (.box [vw] none):=by rw[<-b1,acK (by omega)]
     have ag8:cL (some (N+4)) (N+4)=some (N+4):=by simp[cL]
     simp(disch:=omega) only[go_sem,simprocAttr,zj,q8,q9,Lf,t,f3,f5,ey,ex,K,U,a1,a2,a3,DM,amS,c,u5,un,b1',b2,b3,ag8];refine fin W6 {s with put:=true,out:=s.out++[s.x]++[y],row:=r2} _ _ (λi A G F Q q5=>?_) ?_ ?_ (by rw[afI];exact b4) rfl rfl (by rw[afL]at b5;omega) (.inr ⟨N+4,by omega,by omega,rfl,?_⟩) ⟨?_,g2,by simp;omega,g4⟩
     ·have OP:r'≠some i:=by
        intro q;rcases a7 with z| ⟨z,z1,z2⟩
        ·rw[z]at q;exact q5 q
        ·rw[z1]at q;cases q;omega
      rw[b6 i (by rw[afL];omega) F OP,acK (by omega),M i (by omega) F q5,ac7 (by omega)]
     ·rw[b6 _ (by rw[afL];omega) (by omega) (λq=>by have:=Y _ q;omega),acK (by omega),M _ (by omega) (by omega) (λq=>by have:=f _ q;omega)];exact f3 _
     ·rw[b6 _ (by rw[afL];omega) (by omega) (λq=>by have:=Y _ q;omega)];exact aeo (by omega)
     ·rcases b7 with q| ⟨q,A,G⟩
      ·rcases a7 with z| ⟨z,z1,z2⟩
       ·exact .inl (q.trans z)
       ·exact .inr ⟨z,q.trans z1,by omega⟩
      ·rw[afL]at G;exact .inr ⟨q,A,by omega⟩
     ·rw[g1,iw,ada c1,adV c2,c];simp
    ·obtain⟨P,v',W3,w,r',a1,a2,a3,a4,a5,M,a7⟩:=J.append (bytes:=16) (el:=aA y) (by omega) (by omega) rfl rfl (C _ (by simp;omega)) none;simp(disch:=omega) only[go_sem,simprocAttr,zj,q8,q9,Lf,t,f3,f5,ey,ex,K,U,a1,a2,a3,DM,amS,c];refine fin w {s with out:=s.out++[y],row:=r'} _ _ (λi A G F Q q5=>?_) ?_ ?_ (by rw[afI];exact a4) rfl rfl (by omega) (.inr ⟨N+4,by omega,by omega,rfl,?_⟩) ⟨?_,g2,by simp;omega,g4⟩
     ·rw[M i (by omega) F q5,ac7 (by omega)]
     ·rw[M _ (by omega) (by omega) (λq=>by have:=f _ q;omega)];exact f3 _
     ·rw[M _ (by omega) (by omega) (λq=>by have:=f _ q;omega)];exact f5 _
     ·rcases a7 with q| ⟨q,A,G⟩
      ·exact .inl q
      ·exact .inr ⟨q,A,by omega⟩
     ·rw[g1,iw,ada c1,adV c2,c];simp
   have U: ¬(y.1:Int)>s.x.1+s.x.2:=by omega
   by_cases c3:y.1+y.2=s.x.1
   ·have Lk: ((y.1:Int)+y.2=s.x.1)=True:=aAg (by omega);simp(disch:=omega) only[go_sem,simprocAttr,zj,q8,t,f3,ey,ex,K,U,Lk,amS];refine fin _ {s with x:=(y.1,y.2+s.x.2)} _ _ (λi A G F Q q5=>?_) ?_ ?_ (J.st (acK (by omega)) λi b=>acK (by have:=f _ b;omega)) rfl rfl (by rw[afL];omega) (.inl ⟨rfl,rfl⟩) ⟨?_,by simp;omega,by simp;omega,g4⟩
    ·rw[acK (by omega),ac7 (by omega)]
    ·rw[aeo (by omega)];rfl
    ·rw[acK (by omega)];exact f5 _
    ·rw[g1,iw,ada c1,ada c2,adV c3]
   have Lk: ¬(y.1:Int)+y.2=s.x.1:=by omega
   by_cases c4:y.1=s.x.1+s.x.2
   ·have Td: ((y.1:Int)=s.x.1+s.x.2)=True:=aAg (by omega);simp(disch:=omega) only[go_sem,simprocAttr,zj,q8,t,f3,ey,ex,K,U,Lk,Td,amS];refine fin _ {s with x:=(s.x.1,s.x.2+y.2)} _ _ (λi A G F Q q5=>?_) ?_ ?_ (J.st (acK (by omega)) λi b=>acK (by have:=f _ b;omega)) rfl rfl (by rw[afL];omega) (.inl ⟨rfl,rfl⟩) ⟨?_,by simp;omega,by simp;omega,g4⟩
    ·rw[acK (by omega),ac7 (by omega)]
    ·rw[aeo (by omega)];rfl
    ·rw[acK (by omega)];exact f5 _
    ·rw[g1,iw,ada c1,ada c2,ada c3,adV c4]
   ·have Td: ¬(y.1:Int)=s.x.1+s.x.2:=by omega
    simp(disch:=omega) only[go_sem,simprocAttr,zj,F,q6,q7,q8,t,f0,f1,f2,f3,ey,ex,K,U,Lk,Td,amS,Tb];obtain⟨Wf,Z⟩: ∃Wf,Wf=((O++[ae.box (aA y) none]).set (N+1) (ae.box [v] none)).set (N+2) (ae.box [AV.bool false] none):=⟨_,rfl⟩;rw[<-Z];have hk: ∀i,i<n->i≠N+1->i≠N+2->Wf[i]?=O[i]?:=λi A G F=>by
     rw[Z,acK (by omega),acK (by omega),ac7 (by omega)]
    have k1:Wf[N+1]?=some (.box [v] none):=by
     rw[Z,acK (by omega)];exact aeo (by omega)
    have k2:Wf[N+2]?=some (.box [.bool false] none):=by
     rw[Z];exact aeo (by rw[afL];omega)
    have kl:Wf.length=n+1:=by rw[Z];simp[t]
    refine⟨{s with res:=v,ok:=false},⟨λi b=>?_,?_,k1,k2,?_,?_,?_⟩,⟨?_,λi b hp hr=>?_⟩,.inl ⟨rfl,rfl⟩,rfl,?_,rfl,rfl⟩
    ·show Wf[i]?=_;rw[hk i (by omega) (by omega) (by omega)];exact p0 i b
    ·show Wf[N]?=_;rw[hk N (by omega) (by omega) (by omega)];exact p1
    ·show Wf[N+3]?=_;rw[hk _ (by omega) (by omega) (by omega)];exact p4
    ·show Wf[N+5]?=_;rw[hk _ (by omega) (by omega) (by omega)];exact p5
    ·exact V.st (hk _ (by omega) (by omega) (by omega)) λi b=>by
      obtain⟨_,_,_,_,q⟩:=V.row b;have:=dU q;have:=f i b;exact hk i (by omega) (by omega) (by omega)
    ·show O.length<=Wf.length;omega
    ·have oZ: ¬i<N+6:=hp;exact hk i (by omega) (by omega) (by omega)
    ·rw[g1,iw,ada c1,ada c2,ada c3,ada c4]
  ·intro s' W' ak hI hP Ba hd pa Te;obtain⟨p0,p1,p2,p3,p4,p5,V⟩:=hP;obtain⟨g1,g2,g3,g4,g5⟩:=hI;rw[Cf,List.drop_length]at g1;rw[Cf]at g3;have Lg:=hl.1;have S:en N ak:=by
    rcases Te with⟨rfl,_⟩| ⟨q,A,G,rfl⟩
    ·exact .inl rfl
    ·exact .inr ⟨q,A,rfl⟩
   have f: ∀i,s'.row=some i->N+6<=i/\i≠W0.length:=by
    intro i b;rcases V with⟨q,_⟩| ⟨id,aj,q,_,G,F,Q⟩
    ·rw[q]at b;cases b
    ·rw[q]at b;cases b;have:i≠N+5:=by rintro rfl;rw[p5]at Q;cases Q
     exact⟨by omega,by rintro rfl;rw[hd]at Q;cases Q⟩
   obtain⟨B,hB⟩: ∃B,B=((PC.aR [o 83 (I.load false 1 (ao.t 9)),o 84 (I.build [AV.aq] [(0,1,ao.t 83)]),u (I.store 1 (ao.t 6) (ao.t 84)),u (I.store 1 (ao.t 7) (ao.c (AV.bool true)))]).seq PC.ret):=⟨_,rfl⟩;rw[<-hB];have fin: ∀ (T:List ae) (X:oN) (fr:Env) (out:List aD) (r5:oN),(∀i,i<N->T[i]?=H[i]?)->SV (N+4) 2 eL T r5 (out.map aA)->(∃z,T[N+1]?=some (.box [z] none))->(∃z,T[N+2]?=some (.box [z] none))->
     T[W0.length]?=some .fk->en N X->iw x false [] l=some out->fr 9= .ptr (N+4) 0->fr 6= .ptr (N+1) 0->fr 7= .ptr (N+2) 0->
     wp X0 142 false B ⟨fr,[W0.length]⟩ ⟨T,X⟩
      (dO X0 N lo [RV.cell 6 true 1,RV.cell 7 false 1] λx_1=>x_1=aX.ret (p7 v l x) ⟨H,lo⟩):=by
    intro T X fr out r5 h1 h2 ⟨z1,h3⟩ ⟨z2,h4⟩ h5 h6 h7 h9 h10 yr;obtain⟨P,b1,b2,b3,b4,b5⟩:=h2.own (N:=N) (by omega) (by intro el qB;obtain⟨r,_,rfl⟩:=afJ.1 qB;rfl);have hl5:W0.length<T.length:=dU h5;have s1: (T.set (N+1) (ae.box [P] none))[N+1]?=some (.box [P] none):=aeo (by omega);have s2: ((T.set (N+1) (ae.box [P] none)).set (N+2) (ae.box [AV.bool true] none))[N+2]?=some (.box [.bool true] none):=aeo (by rw[afL];omega);have e1:p7 v l x= .ay [.agg [ed out],.bool true]:=by unfold p7 iT;rw[adV g,h7]
    have hor:bZ (out.map aA)=0:=bB (λ_=>rfl) out;have pa:bD P (out.map aA)=ed out:=by
     rcases b2.2 with⟨rfl,q⟩| ⟨id,aj,_,rfl,_⟩
     ·have:out=[]:=aqq.1 q;subst this;rfl
     ·unfold ed;cases out with
      |nil=>
       rcases h2 with⟨_,_,q⟩| ⟨_,_,_,q,_⟩
       ·rw[q]at b1;cases b1
       ·exact absurd rfl q
      |cons a l2=>rfl
    rw[hB];simp(disch:=omega) only[go_sem,simprocAttr,h9,h10,yr,b1,b3,b4,h3,h4,h5,s1,s2,lu];have Tf: ∀Tg,Fz ⟨((T.set (N+1) (ae.box [P] none)).set (N+2) (ae.box [AV.bool true] none)).set W0.length ae.dead,Tg⟩ N 12 (.ay [.agg [P],.bool true]) (.ay [.agg [ed out],.bool true]):=by
     intro Tg;have asr:aT N (((T.set (N+1) (ae.box [P] none)).set (N+2) (ae.box [AV.bool true] none)).set W0.length ae.dead) P 2 eL (out.map aA):=by
      obtain⟨c1,c2⟩:=b2;refine⟨c1,?_⟩;rcases c2 with c2| ⟨id,aj,c3,c4,c5⟩
      ·exact .inl c2
      ·have d1:id≠N+1:=by rintro rfl;rw[h3]at c5;cases c5
       have d2:id≠N+2:=by rintro rfl;rw[h4]at c5;cases c5
       have d3:id≠W0.length:=by rintro rfl;rw[h5]at c5;cases c5
       exact .inr ⟨id,aj,c3,c4,by rw[acK (by omega),acK (by omega),acK (by omega)];exact c5⟩
     have f1:=Fz.own (d:=0) (lo:=Tg) asr (by omega);rw[pa]at f1;exact(Fz.ay (.cons (Fz.agg (.cons f1 .nil)) (.cons ((Fz.low (d:=0) (by simp[AV.refs])).mono (by omega)) .nil))).mono (by omega)
    have oE: (((T.set (N+1) (ae.box [P] none)).set (N+2) (ae.box [AV.bool true] none)).set W0.length ae.dead).take N=H:=lv hN λi b=>by
     rw[acK (by omega),acK (by omega),acK (by omega)];exact h1 i b
    have hl6:en N (if P.refs<=N+1+1 then X else cL X (N+1)):=by
     split
     ·exact h6
     ·exact h6.min (p:=N+1) (by omega) (.inr rfl)
    rw[uP hl6 (Tf _),oE,e1]
   have p0': ∀i,i<N->W'[i]?=H[i]?:=p0;have p1':W'[N+1]?=some (.box [s'.res] none):=p2;cases c:s'.put
   ·have J:SV (N+4) 2 eL W' s'.row (s'.out.map aA):=V;obtain⟨P,v',W3,w,r',a1,a2,a3,a4,a5,M,a7⟩:=J.append (bytes:=16) (el:=aA s'.x) (by omega) (by omega) rfl rfl (by unfold room;simp;omega) ak;have k: ∀i,i<N+4->w[i]?=W'[i]?:=λi b=>M i (by omega) (by omega) (λq=>by have:=(f _ q).1;omega)
    simp(disch:=omega) only[go_sem,simprocAttr,q8,q9,Lf,p4,p5,c,a1,a2,a3];refine fin w _ _ (s'.out++[s'.x]) r' (λi b=>by rw[k i (by omega)];exact p0' i b) (by rw[afI];exact a4) ⟨_,by rw[k (N+1) (by omega)];exact p2⟩ ⟨_,by rw[k (N+2) (by omega)];exact p3⟩ ?_ (S.min (p:=N+4) (by omega) (.inr rfl)) ?_ q9 q6 q7
    ·rw[M W0.length (by omega) (by omega) (λq=>(f _ q).2 rfl)];exact hd
    ·rw[g1,iw,c];rfl
   ·simp(disch:=omega) only[go_sem,simprocAttr,Lf,p5,c];refine fin W' _ _ s'.out s'.row p0' V ⟨_,p2⟩ ⟨_,p3⟩ hd S ?_ q9 q6 q7;rw[g1,iw,c];rfl
  ·intro ex s' W' ak hJ hP Ba hd pa Te;obtain⟨p0,p1,p2,p3,p4,p5,V⟩:=hP;obtain⟨rfl,g1,g2,g3⟩:=hJ;have S:en N ak:=by
    rcases Te with⟨rfl,_⟩| ⟨q,A,G,rfl⟩
    ·exact .inl rfl
    ·exact .inr ⟨q,A,rfl⟩
   rw[g2]at p2;rw[g3]at p3;have e1:p7 v l x= .ay [.agg [v],.bool false]:=by unfold p7 iT;rw[adV g,g1]
   have Tf:Fz ⟨W'.set W0.length ae.dead,ak⟩ N 12 (.ay [.agg [v],.bool false]) (.ay [.agg [v],.bool false]):=Fz.low (by simp[AV.refs,aI,Tb]);have oE: (W'.set W0.length ae.dead).take N=H:=lv hN λi b=>by rw[acK (by omega)];exact p0 i b
   simp(disch:=omega) only[go_sem,simprocAttr,q6,q7,lu,hd,p2,p3];rw[uP S Tf,oE,e1]
def aha(t:aw)(x:Nat): (aN t x).1.up=bn t x:=by unfold aN bn;split<;>rfl
theorem jI{r:dm}:aK [AV.int .u32 0,.int .i64 0,.aq,.int .i64 0,.int .u32 0,.int .u32 0,.int .u32 0,.int .u32 0,.int .u32 0,.int .u32 0,.int .u32 0,.int .u32 0] 0 (bR r)=bR r:=by rfl
def Th(t:aw)(h:Nat)(N:Nat)(H:List ae)(b:H.length=N)(lo:oN):D X0 (.fn (.func 49) [] []) [.agg (aO t),.int .u32 h] ⟨H,lo⟩=some (.ret (.fn (.func 82) [] [.ptr N 0,.ptr (N+1) 0]) ⟨H++[.box (aO t) none,.box [.int .u32 h] none],lo⟩):=by
 refine aH P7 λM a=>?_
 obtain rfl:M=N:=by omega
 simp only[go_sem,simprocAttr,P7,a];rw[zU (by omega)]
def nw(t:aw)(h:Nat):List lA:=(aU t h).map λx=>[.int .u32 (x:Nat)]
def Ti(t:aw)(ht:bS t)(hT:bY t)(h:Nat)(hh:h<4294967296)(a:Nat):
  uN X0 (.fn (.func 82) [] [.ptr a 0,.ptr (a+1) 0]) a [.box (aO t) none,.box [.int .u32 h] none] (nw t h):=by
 intro S V y I J b O m uK W s hP h0 wu w hG lo;have o: ∀i,V.cE i->i<b:=λi hi=>(m i hi).1
 suffices h: ∃X,D X0 (.fn (.func 82) [] [.ptr a 0,.ptr (a+1) 0]) [y] ⟨W,lo⟩=some X/\
   (λX=> ∃s' u ak,X=aX.ret (.ay []) ⟨u,ak⟩/\V.P s' u/\ (I (nw t h).length s'\/J s')/\b<=u.length/\
     (∀i,i<b-> ¬V.cE i-> ¬(a<=i/\i<a+[ae.box (aO t) none,.box [.int .u32 (h:Nat)] none].length)->u[i]?=W[i]?)/\kR V.c b lo ak none (V.row s')) X by
  obtain⟨X,h1,s',u,ak,rfl,q1,q2,q3,q4,q5⟩:=h;exact⟨s',u,ak,h1,q1,q2,q3,q4,q5⟩
 refine s8 Qk rfl rfl rfl λN hN=>?_
 obtain rfl:N=b:=by omega
 have g0:W[a]?=some (.box (aO t) none):=hG 0 (by simp);have g1:W[a+1]?=some (.box [.int .u32 h] none):=hG 1 (by simp);have ha:=dU g1;have Tj: ¬V.cE a:=λq=>(m a q).2 ⟨by omega,by simp⟩
 have z: ¬V.cE (a+1):=λq=>(m _ q).2 ⟨by omega,by simp⟩
 simp only[go_sem,simprocAttr,Qk];refine gN ((aU t h).length+1) (λk e u ak=> ∃s' x,I k s'/\kf V N W (λi=>a<=i/\i<a+[ae.box (aO t) none,.box [.int .u32 (h:Nat)] none].length) s' u ak/\u[a]?=some (.box (aO t) none)/\u[a+1]?=some (.box [.int .u32 (x:Nat)] none)/\x<4294967296/\k<=(aU t h).length/\aU t x=(aU t h).drop k/\e 0=y/\e 1= .ptr a 0/\e 2= .ptr (a+1) 0) 0 (by omega) ?_ ?_
 ·simp only[go_sem,simprocAttr];exact⟨s,h,h0,⟨hP,by omega,λ_ _ _ _=>rfl,.inl ⟨rfl,w⟩,λr e=>by rw[w]at e;cases e⟩,g0,g1,hh,rfl⟩
 rintro k hk e W1 P ⟨s1,x,hI,U,w0,w1,hx,Tk,p,e0,e1,Z⟩ n T;have g:=oy hT x;have Ll:N<=n:=by have:=U.len;omega
 have f0: ∀L,(W1++L)[a]?=some (.box (aO t) none):=λL=>bc w0
 have f1: ∀L,(W1++L)[a+1]?=some (.box [.int .u32 x] none):=λL=>bc w1
 have Y:=s6 t ht x hx;have hu:=aha t x;have f: (aN t x).2=if t.au x then 0 else 4:=by unfold aN;split<;>rfl
 have A: ∀L,bn t x=0-> ∃j d,finish N lo (.ay []) ⟨W1++L,P⟩=(.ay [],⟨j,d⟩)/\V.P s1 j/\ (I (nw t h).length s1\/J s1)/\N<=j.length/\ (∀i,i<N-> ¬V.cE i-> ¬(a<=i/\i<a+[ae.box (aO t) none,.box [.int .u32 (h:Nat)] none].length)->j[i]?=W[i]?)/\kR V.c N lo d none (V.row s1):=by
  intro L F;obtain⟨j,d,v,E,l,C,B⟩:=(U.push O o L).fin O o (dL:=lo);refine⟨j,d,v,E,.inl ?_,l,C,B⟩;rw[adV F]at g;rw[g]at p;have:=ag9 List.length p;rw[ams]at this;have e: (nw t h).length=(aU t h).length:=by simp[nw]
  simp only[amQ]at this;rw[e,show(aU t h).length=k by omega];exact hI
 cases G:t.au x
 ·rw[G]at f;have F:bn t x=0:=by unfold bn;rw[G];rfl
  obtain⟨j,d,v,E,l,C,B,M⟩:=A [.box (bR (aN t x).1) none] F;simp only[go_sem,simprocAttr,E6,e1,Z,w0,w1,Y,me,jI,f,T,v];exact⟨s1,j,d,rfl,E,l,C,B,M⟩
 ·rw[G]at f;by_cases F:bn t x=0
  ·obtain⟨j,d,v,E,l,C,B,M⟩:=A [.box (bR (aN t x).1) none] F;simp only[go_sem,simprocAttr,E6,e1,Z,w0,w1,Y,me,jI,f,T,hu,F,v];exact⟨s1,j,d,rfl,E,l,C,B,M⟩
  ·have Q: ¬((bn t x:Nat):Int)=0:=by omega
   rw[ada F]at g;have hk':k< (aU t h).length:=by
    have:=ag9 List.length (g ▸ p);rw[ams]at this;simp only[afO]at this;omega
   have wj: (nw t h)[k]?=some [.int .u32 (bn t x:Nat)]:=by
    unfold nw;rw[afW];have: (aU t h)[k]?=((aU t h).drop k)[0]?:=by rw[ali];rfl
    rw[this,<-p,g];rfl
   have K:=U.push O o [.box (bR (aN t x).1) none];obtain⟨c,s2,W2,ny,v,E,l,C,B,M⟩:=uK k _ s1 wj hI (W1++[.box (bR (aN t x).1) none]) K.P K.len P;have H:=K.step E l C B;have R: ∀i,i<N->V.row s1≠some i:=λi hi q=>by have:=U.row _ q;omega
   have v0:W2[a]?=some (.box (aO t) none):=by rw[l.2 a (by simp;omega) Tj (R _ (by omega))];exact f0 _
   have v1:W2[a+1]?=some (.box [.int .u32 x] none):=by rw[l.2 (a+1) (by simp;omega) z (R _ (by omega))];exact f1 _
   have hWn:n+1<=W2.length:=by have:=l.1;simp at this;omega
   have vn:W2[n]?=some (.box (bR (aN t x).1) none):=by
    rw[l.2 n (by simp;omega) (λq=>by have:=o _ q;omega) (λq=>by have:=O.Ik U.P q;omega)];rw[<-T];simp
   cases c
   ·obtain⟨j,d,q1,q2,q3,q4,q5⟩:=H.fin O o (dL:=lo);simp only[go_sem,simprocAttr,E6,e0,e1,Z,w0,w1,Y,me,jI,f,T,hu,Q,v,q1];exact⟨s2,j,d,rfl,q2,.inr M,q3,q4,q5⟩
   ·simp(disch:=omega) only[go_sem,simprocAttr,E6,e0,e1,Z,w0,w1,Y,me,jI,f,T,hu,Q,v,v0,v1,vn];refine⟨by omega,s2,bn t x,M,?_,?_,arW,by omega,?_⟩
    ·exact H.set O z (λq=>by have:=H.row _ q;omega) (.inl ⟨by omega,by simp⟩)
    ·exact aeo (by omega)
    ·have:=ag9 (List.drop 1) (g ▸ p);rw[apf]at this;simpa using this
def Tl{t:aw}{x:lA}(a: (nw t h)[j]?=some x): ∃u,x=[.int .u32 (u:Nat)]/\ (aU t h)[j]?=some u:=by
 unfold nw at a
 grind
def Tm(t:aw)(h:Nat): (nw t h).length=(aU t h).length:=by simp[nw]
def Lm(t:aw)(v:bS t)(q:bY t)(h:Nat)(m:h<4294967296)(H:List ae)(lo:oN):D X0 (.fn (.func 304) [] []) [.agg (aO t),.int .u32 h] ⟨H,lo⟩=some (.ret (.int .i64 (depth t h:Nat)) ⟨H,lo⟩):=by
 refine aH KH λN f=>?_
 have g:au t.b h=t.au h:=rfl;have a:=eH t.b h m;simp only[g]at a;cases b:t.au h
 ·simp only[F1,go_sem,simprocAttr,KH,f,a,depth,b,afG]
 ·rw[b]at a;have C:=Th t h (N+2) (H++[.box (aO t) none,.box [.int .i64 1] none]) (by simp[f]) none;simp only[go_sem,simprocAttr,KH,f,a,C];refine wv (S:=Nat) (λe=>e 5= .ptr (N+1) 0) (by simp only[go_sem,simprocAttr]) (nw t h) f [.box (aO t) none,.box [.int .u32 h] none] (λn=>[.box (aO t) none,.box [.int .i64 (n+1:Nat)] none]) (nB:=2) (λ_=>rfl) 0 (λj s=>s=j) (λ_ _=>False) rfl ?_ (by simp) rfl (λ_ _ h=>h.elim) ?_ ?_ ?_
  ·exact Ti t v q h m (N+2)
  ·rintro e he j x s r rfl;obtain⟨u,rfl,hu⟩:=Tl r;refine⟨rfl,λW n I z k=>?_⟩;simp only[go_sem,simprocAttr,ie];refine⟨[],by simp,λK E d=>?_⟩;simp only[eD,eC,alc,afM]at d;obtain⟨w0,w1⟩:=d;have G:s< (aU t h).length:=(ac9.1 hu).1;have w:=q h;simp(disch:=omega) only[go_sem,simprocAttr,afr,he,w1,afZ,oc];refine⟨s+1,?_,λi J A=>acK (by omega),rfl⟩;simp only[eD,eC,alc,afM];exact⟨by rw[acK (by omega)];exact w0,aeo (by omega)⟩
  ·rintro e he s W p y rfl c k B;simp only[eD,eC,alc,afM]at k;obtain⟨w0,w1⟩:=k;have l: ∀o,(W.set p o).take N=H:=λo=>(c.set (by omega)).take f
   simp only[F1,go_sem,simprocAttr,he,w1,B,lu,l];rw[Tm];refine dj (ag9 _ ?_) rfl;unfold depth;rw[adV b];omega
  ·rintro e he ex s W p y F;exact F.elim
def ast{t:aw}(b:bY t)(c:h<4294967296):root t h<4294967296:=by
 unfold root;split
 ·cases e:aU t h with
  |nil=>grind
  |cons a l=>
   have hm: (aU t h).getLastD h∈aU t h:=by grind
   rw[<-e];exact fC (K5 b hm)
 ·omega
def zV(t:aw)(r:bS t)(C:bY t)(h:Nat)(m:h<4294967296)(H:List ae)(lo:oN):D X0 (.fn (.func 21) [] []) [.agg (aO t),.int .u32 h] ⟨H,lo⟩=some (.ret (.int .u32 (root t h:Nat)) ⟨H,lo⟩):=by
 refine aH JM λN f=>?_
 have g:au t.b h=t.au h:=rfl;have a:=eH t.b h m;simp only[g]at a;cases b:t.au h
 ·simp only[F1,go_sem,simprocAttr,JM,f,a,root,b,afG]
 ·rw[b]at a;have A:=Th t h (N+2) (H++[.box (aO t) none,.box [.int .u32 h] none]) (by simp[f]) none;simp only[go_sem,simprocAttr,JM,f,a,A];refine wv (S:=Nat) (λe=>e 3= .ptr (N+1) 0) (by simp only[go_sem,simprocAttr]) (nw t h) f [.box (aO t) none,.box [.int .u32 h] none] (λn=>[.box (aO t) none,.box [.int .u32 (n:Nat)] none]) (nB:=2) (λ_=>rfl) h (λj s=>s=((aU t h).take j).getLastD h) (λ_ _=>False) rfl ?_ (by simp) rfl (λ_ _ h=>h.elim) ?_ ?_ ?_
  ·exact Ti t r C h m (N+2)
  ·rintro e he j x s q rfl;obtain⟨u,rfl,hu⟩:=Tl q;refine⟨rfl,λW n F w k=>?_⟩;simp only[go_sem,simprocAttr,ie];refine⟨[],by simp,λI B d=>?_⟩;simp only[eD,eC,alc,afM]at d;obtain⟨w0,w1⟩:=d;simp only[go_sem,simprocAttr,aeB,he,w1,afZ,oc];refine⟨u,?_,λi G y=>acK (by omega),?_⟩
   ·simp only[eD,eC,alc,afM];exact⟨by rw[acK (by omega)];exact w0,aeo (by omega)⟩
   ·rw[afP,hu];simp
  ·rintro e he s W p v rfl c k z;simp only[eD,eC,alc,afM]at k;obtain⟨w0,w1⟩:=k;have l: ∀o,(W.set p o).take N=H:=λo=>(c.set (by omega)).take f
   simp only[F1,go_sem,simprocAttr,he,w1,z,lu,l];rw[Tm,afH];refine dj (ag9 _ ?_) rfl;unfold root;rw[adV b]
  ·rintro e he ex s W p v E;exact E.elim
noncomputable def mf:lA->AS->Option aX:=nZ X0 (D X0) Lw 46 JQ
noncomputable def X1:Ctx:={X0 with b8:=λf=>if f=46 then some mf else none}
noncomputable def mg:lA->AS->Option aX:=nZ X1 (D X1) Lw 19 JL
noncomputable def X2:Ctx:={X0 with b8:=λf=>if f=46 then some mf else if f=19 then some mg else none}
noncomputable def p9:lA->AS->Option aX:=nZ X2 (D X2) Lw 179 Fh
noncomputable def X3:Ctx:={X0 with b8:=λf=>if f=46 then some mf else if f=19 then some mg else if f=179 then some p9 else none}
noncomputable def rE:lA->AS->Option aX:=nZ X3 (D X3) Lw 158 Kc
noncomputable def X4:Ctx:={X0 with b8:=λf=>if f=46 then some mf else if f=19 then some mg else if f=179 then some p9 else if f=158 then some rE else none}
noncomputable def xk:lA->AS->Option aX:=nZ X4 (D X4) Lw 156 Kb
noncomputable def X5:Ctx:={X0 with b8:=λf=>if f=46 then some mf else if f=19 then some mg else if f=179 then some p9 else if f=158 then some rE else if f=156 then some xk else none}
noncomputable def zW:lA->AS->Option aX:=nZ X5 (D X5) Lw 108 J3
noncomputable def X6:Ctx:={X0 with b8:=λf=>if f=46 then some mf else if f=19 then some mg else if f=179 then some p9 else if f=158 then some rE else if f=156 then some xk else if f=108 then some zW else none}
noncomputable def Ch:lA->AS->Option aX:=nZ X6 (D X6) Lw 73 E4
noncomputable def X:Ctx:={X0 with b8:=λf=>if f=46 then some mf else if f=19 then some mg else if f=179 then some p9 else if f=158 then some rE else if f=156 then some xk else if f=108 then some zW else if f=73 then some Ch else none}
def FQ{P:FuncId->Option (lA->AS->Option aX)}(h: ∀f,kL.contains f=false->P f=none):Ext X0 {X0 with b8:=P}where
 dJ:=rfl
 fU:=rfl
 code:=rfl
 b8:=λf=>by
  cases a:kL.contains f
  ·left;exact h f a
  ·right
   refine⟨rfl,?_⟩;show(if kL.contains f then none else zp.lookup f)=none
   grind
def iE{g:FuncId}(h:kL.contains f=false)(a:kL.contains g=true):f≠g:=by grind
def ahb:Ext X0 X2:=FQ λf h=>by rw[ada (iE h rfl),ada (iE h rfl)]
def asu:Ext X0 X3:=FQ λf h=>by rw[ada (iE h rfl),ada (iE h rfl),ada (iE h rfl)]
def asv:Ext X0 X4:=FQ λf h=>by rw[ada (iE h rfl),ada (iE h rfl),ada (iE h rfl),ada (iE h rfl)]
def ahc:Ext X0 X6:=FQ λf h=>by rw[ada (iE h rfl),ada (iE h rfl),ada (iE h rfl),ada (iE h rfl),ada (iE h rfl),ada (iE h rfl)]
def dy:Ext X0 X:=FQ λf h=>by rw[ada (iE h rfl),ada (iE h rfl),ada (iE h rfl),ada (iE h rfl),ada (iE h rfl),ada (iE h rfl),ada (iE h rfl)]
def asw(p:Nat->Bool)(k:Nat): (List.range (k+1)).filter p=(List.range k).filter p++(if p k then[k]else[]):=by grind [List.range_succ]
def aT.le{N M:Nat}{H:List ae}{ty:TypeId}(h:aT N H v sz ty af)(b:M<=N):aT M H v sz ty af:=by
 obtain⟨a,c⟩:=h;refine⟨a,?_⟩
 grind
def rF(b:cJ)(k:Nat):lN:=((List.range k).filter λi=>(b i).ea).map λi=>c7 i (b i).gen
def asx(b:cJ)(k:Nat):rF b (k+1)=if(b k).ea then rF b k++[c7 k (b k).gen]else rF b k:=by
 unfold rF;rw[asw]
 grind
def asy(b:cJ)(k:Nat): (rF b k).length<=k:=by
 unfold rF
 grind
def Tn(b:cJ)(A:hU b)(N:Nat)(H:List ae)(w:H.length=N)(lo:oN): ∃v J,mf [.agg (bX b)] ⟨H,lo⟩=some (.ret v ⟨H++J,lo⟩)/\aT (N+1) (H++J) v 1 cb ((a0 b).map hC):=by
 suffices h: ∃o,mf [.agg (bX b)] ⟨H,lo⟩=some o/\ (λo=> ∃v J,o=aX.ret v ⟨H++J,lo⟩/\aT (N+1) (H++J) v 1 cb ((a0 b).map hC)) o by
  obtain⟨o,m,v,J,rfl,B⟩:=h;exact⟨v,J,m,B⟩
 refine wq (X:=X0) JQ rfl λM E=>?_
 obtain rfl:M=N:=by omega
 have u: (H++[ae.box (bX b) none]).length=M+1:=by simp[w]
 simp only[go_sem,simprocAttr,JQ,w];refine dP 32 (λk e H'=>(H++[ae.box (bX b) none])<+:H'/\ (∃v,e 3=v/\aT (M+1) H' v 1 cb ((rF b k).map hC))/\e 1= .ptr M 0/\e 7= .int .i64 k) 0 (by omega) ?_ ?_
 ·simp only[go_sem,simprocAttr];exact⟨aqO,_,rfl,aT.aq⟩
 rintro k D e H' ⟨⟨L,rfl⟩,⟨v,y,a⟩,m,x⟩ n C;have j: (H++[ae.box (bX b) none]++L)[M]?=some (.box (bX b) none):=by rw[adW,dv w];rfl
 have t:=ar2 b A k (H++(.box (bX b) none::L)) none;simp only[adW,ahn,ahk]at j;have q:=asy b k;simp only[bQ,go_sem,simprocAttr,aeI,m,y,x,j,t,atR];refine⟨λh=>?_,λh=>?_⟩
 ·have c:k<32:=by omega
  have d:=asx b k;cases z: (b k).ea
  ·rw[z]at d;simp(disch:=omega) only[go_sem,simprocAttr,c,m,y,x,dT];rw[d];exact⟨⟨L,by simp⟩,v,rfl,by simpa using a⟩
  ·rw[z]at d;simp only[go_sem,simprocAttr,c,y,dT];have i: (H++[ae.box (bX b) none])<+: (H++(.box (bX b) none::L)):=⟨L,by simp⟩;have g:aT (M+1) (H++(.box (bX b) none::L)) v 1 cb ((rF b k).map hC):=by simpa using a
   refine o7 (H0:=H++[ae.box (bX b) none]) (ys:=[[.int .u32 (c7 k (b k).gen:Nat)]]) g i u (by omega) (by intro el s;rw[afD.1 s];rfl) rfl (by unfold room;simp;omega) λv' F f r=>?_
   simp(disch:=omega) only[go_sem,simprocAttr,m,x];refine⟨c,r,?_⟩;rw[d];have:List.map hC (rF b k++[c7 k (b k).gen])=List.map hC (rF b k)++[[.int .u32 (c7 k (b k).gen:Nat)]]:=by simp[hC]
   simp only[af1];rw[this];exact⟨v',rfl,f⟩
 ·obtain rfl:k=32:=by omega
  have:a0 b=rF b 32:=rfl;rw[this];simp only[go_sem,simprocAttr,si,gq];exact⟨_,_,rfl,by simpa using a⟩
def qa{X:Ctx}{p:lA->AS->Option aX}{args:lA}{E:AS}{r:aX}(a:X.b8 f=some p)(h:p args E=some r):D X (.fn (.func f) [] []) args E=some r:=DK a h
def Ln(b:cJ)(d:hU b)(N:Nat)(H:List ae)(e:H.length=N)(lo:oN): ∃v J,mg [.agg (bX b)] ⟨H,lo⟩=some (.ret v ⟨H++J,lo⟩)/\aT (N+1) (H++J) v 1 cb ((a0 b).map hC):=by
 suffices h: ∃a,mg [.agg (bX b)] ⟨H,lo⟩=some a/\ (λa=> ∃v J,a=aX.ret v ⟨H++J,lo⟩/\aT (N+1) (H++J) v 1 cb ((a0 b).map hC)) a by grind
 refine wq (X:=X1) JL rfl λM g=>?_
 obtain rfl:M=N:=by omega
 obtain⟨v,J,e1,f⟩:=Tn b d (M+1) (H++[.box (bX b) none]) (by grind) none;have c:D X1 (.fn (.func 46) [] []) [.agg (bX b)] ⟨H++[.box (bX b) none],none⟩=some (.ret v ⟨H++[.box (bX b) none]++J,none⟩):=qa (p:=mf) rfl e1;simp only[go_sem,simprocAttr,JL,e,c,si,gq];exact⟨_,_,rfl,(aT.le (M:=M+1) f (by omega)).mono (by simp)⟩
def qb{H:List ae}{o:ae}(h:H[i]?=some o):H.set i o=H:=by
 apply anX
 grind
def ahd{H:List ae}{id:Nat}{ty:TypeId}(h:H[id]?=some (.row aj 1 ty af))(a:i<af.length)(b: ∀el∈af,el.length=1)(g:v.cq=false)(f:v.cells=[v])(d:v.refs=0):
  j7 ⟨H,lo⟩ 1 (.dp id aj i 0) v=some ⟨H.set id (.row aj 1 ty (af.set i [v])),lo⟩:=by
 have c:=b _ (aq0 a);simp only[j7,h,adR a];rw[adV ⟨trivial,c,g,by grind,by omega⟩];have e:aK af[i] 0 v.cells=[v]:=by
  rw[f];simp only[aK,List.take_zero,ahk,afO,amQ,alf]
  grind
 rw[e];simp[AS.set,d]
def FR{H:List ae}{id:Nat}{ty:TypeId}{c:Bool}(h:H[id]?=some (.row aj 1 ty af))(d:n<=af.length)(b: ∀el∈af,el.length=1):Rd ⟨H,lo⟩ (.ref id aj 1 0 n c) 1 (af.take n):=by
 refine⟨trivial,?_,λel a=>b el (ahz a)⟩;simp only[Den.elems,h]
 grind
def asz{id:Nat}(h:i<=n):gu 1 (.ref id aj 1 0 n false) (some (.int .i64 (i:Nat))) none none=some (.ref id aj 1 i (n-i) false):=by
 simp only[gu,gr,lH,lI]
 grind
def ahe{id:Nat}(h:i<=n):gu 1 (.ref id aj 1 0 n false) none (some (.int .i64 (i:Nat))) none=some (.ref id aj 1 0 i false):=by
 simp only[gu,gr,lH,lI]
 grind
def kept(p:Nat->Bool)(l:lN)(k:Nat):lN:=(l.take k).filter λh=>!p h
def gF(p:Nat->Bool)(l:lN)(k:Nat):lN:=kept p l k++l.drop (kept p l k).length
section
variable{p:Nat->Bool}{l:lN}{k:Nat}
def To: (kept p l k).length<=k:=afY (ag7 _ _) (by grind)
def ahf: (kept p l k).length<=l.length:=afY (ag7 _ _) (by grind)
def zX: (gF p l k).length=l.length:=by
 have:=ahf (p:=p) (l:=l) (k:=k);simp only[gF,aem,ams];omega
theorem getD_eq(a:k<l.length):l.getD k default=l[k]:=by grind
def FT(a:k<l.length):kept p l (k+1)=if p (l.getD k default)=true then kept p l k else kept p l k++[l.getD k default]:=by
 have e:l.take (k+1)=l.take k++[l.getD k default]:=by simp_all
 unfold kept
 grind
def asA(a:k<l.length): (gF p l k).getD k default=l.getD k default:=by
 have b:=To (p:=p) (l:=l) (k:=k);unfold gF
 grind
def asB(b:k<l.length)(a:p (l.getD k default)=false): (gF p l k).set (kept p l k).length (l.getD k default)=gF p l (k+1):=by
 have c:=To (p:=p) (l:=l) (k:=k);have e:=FT (p:=p) b;rw[a]at e;unfold gF;have d:l.drop (kept p l k).length=l[(kept p l k).length]'(by omega)::l.drop ((kept p l k).length+1):=an1 (by omega)
 grind
def asC(b:k<l.length)(a:p (l.getD k default)=true):gF p l (k+1)=gF p l k:=by
 have e:=FT (p:=p) b;rw[adV a]at e;unfold gF;rw[e]
def asD(h:l.findIdx? p=some b):b<l.length/\kept p l (b+1)=l.take b:=by
 rw[ass]at h;obtain⟨c,g,f⟩:=h;refine⟨c,?_⟩;rw[FT c,adV (by grind)];unfold kept;rw[List.filter_eq_self];intro a d;obtain⟨j,e,rfl⟩:=aqs d
 grind
def ahg:kept p l l.length=l.filter λh=>!p h:=by unfold kept;grind
end
def asE{H:List ae}{id off len:Nat}{c:Bool}{ty:TypeId}(h:H[id]?=some (.row aj 1 ty af))(a:off+len<=af.length):
  rU ⟨H,lo⟩ [.int .u32 0] (.ref id aj 1 off len c)=some ⟨H.set id (.row aj 1 ty (af.take off++(List.replicate len [.int .u32 0]++af.drop (off+len)))),lo⟩:=by
 simp only[rU,h];rw[adV ⟨trivial,trivial,rfl,a,rfl⟩];simp[AS.set]
def map_set{β:Type}(g:α->β)(l:List α)(i:Nat)(x:α): (l.map g).set i (g x)=(l.set i x).map g:=by simp
def asF(id aj:Nat)(H:List ae)(l:lN)(hl:l.length<=1000)(i:H[id]?=some (.row aj 1 cb (l.map hC)))(fv:AV)(p:Nat->Bool)
  (T: ∀af,∀h∈l,D X2 fv [.int .u32 h] ⟨H.set id (.row aj 1 cb af),none⟩=some (.ret (.bool (p h)) ⟨H.set id (.row aj 1 cb af),none⟩)) (lo:oN):
  ∃rest,p9 [.ref id aj 1 0 l.length false,fv] ⟨H,lo⟩=some (.ret (.ref id aj 1 0 (l.filter λh=>!p h).length false) ⟨H.set id (.row aj 1 cb ((l.filter λh=>!p h).map hC++rest)),lo⟩)/\ ∀el∈rest,el=[.int .u32 0]:=by
 suffices h: ∃A,p9 [.ref id aj 1 0 l.length false,fv] ⟨H,lo⟩=some A/\ (λA=> ∃rest,A=aX.ret (.ref id aj 1 0 (l.filter λh=>!p h).length false) ⟨H.set id (.row aj 1 cb ((l.filter λh=>!p h).map hC++rest)),lo⟩/\ ∀el∈rest,el=[.int .u32 0]) A by grind
 have J:=(ac9.1 i).1;have V: ∀el∈l.map hC,el.length=1:=by intro el f;obtain⟨x,_,rfl⟩:=afJ.1 f;rfl
 have Q:=qb i;have O: ∀h∈l,D X2 fv [.int .u32 h] ⟨H,none⟩=some (.ret (.bool (p h)) ⟨H,none⟩):=λh hm=>by
  have:=T (l.map hC) h hm;rwa[Q]at this
 have G:Rd ⟨H,none⟩ (.ref id aj 1 0 l.length false) 1 (l.map hC):=by
  have:=FR (lo:=none) (c:=false) (n:=l.length) i (by simp) V;rwa[ael (by simp)]at this
 have w:=agX ahb (.ref id aj 1 0 l.length false) fv l H G (by omega) p none O;refine wq (X:=X2) Fh rfl λM hM=>?_
 cases m:l.findIdx? p with
 |none=>
  have K:kC p l= -1:=by unfold kC;rw[m]
  have N:l.filter (λh=>!p h)=l:=by
   rw[List.filter_eq_self];intro a Z;rw[List.findIdx?_eq_none_iff]at m;simp[m a Z]
  simp only[go_sem,simprocAttr,Fh,w,K,si,gq];exact⟨[],by rw[N,afZ,Q],λ_ h=>by cases h⟩
 |some i0=>
  have K:kC p l=(i0:Nat):=by unfold kC;rw[m]
  have u: ((i0:Nat):Int)≠ -1:=by omega
  obtain⟨Y,v⟩:=asD m;have b: ∀af,(H.set id (.row aj 1 cb af))[id]?=some (.row aj 1 cb af):=λaf=>aeo J
  have P:gF p l (i0+1)=l:=by
   have e: (l.take i0).length=i0:=by rw[afT];omega
   unfold gF;rw[v,e,al5]
  simp(disch:=omega) only[go_sem,simprocAttr,Fh,w,K,u];refine dP l.length (λk e H'=>H'=H.set id (.row aj 1 cb ((gF p l k).map hC))/\e 0= .ref id aj 1 0 l.length false/\e 1=fv/\e 5= .int .i64 (kept p l k).length/\e 6= .int .i64 k) (i0+1) (by omega) ?_ ?_
  ·have e: (kept p l (i0+1)).length=i0:=by rw[v,afT];omega
   rw[P,e];simp only[go_sem,simprocAttr,Q]
  ·rintro k hk e H' ⟨rfl,z,U,y,R⟩ n hn;have q: ∀lo,Rd ⟨H.set id (.row aj 1 cb ((gF p l k).map hC)),lo⟩ (.ref id aj 1 0 l.length false) 1 ((gF p l k).map hC):=λlo=>by
    have:=FR (lo:=lo) (c:=false) (n:=l.length) (b ((gF p l k).map hC)) (by rw[aer,zX];exact aen _) (by intro el f;obtain⟨x,_,rfl⟩:=afJ.1 f;rfl);rwa[ael (by rw[aer,zX];exact aen _)]at this
   have W:=To (p:=p) (l:=l) (k:=k);have r:=ahf (p:=p) (l:=l) (k:=k);have j: ∀E,fW E .sl (.ref id aj 1 0 l.length false)=some (.int .i64 l.length):=λE=>rfl
   simp only[bQ,go_sem,simprocAttr,ae6,z,y,R,j];refine⟨λh=>?_,λh=>?_⟩
   ·have d:k<l.length:=by omega
    have I:k< (gF p l k).length:=by rw[zX];exact d
    have L:=asA (p:=p) d;have s:=λ (a:Int)=>(q none).ca (k:=.i64) (a:=a)
    have o:=(q none).cD (X:=X2) (off:=0) (n:=1) (agg:=false) I;have g:=T ((gF p l k).map hC) (l.getD k default) (eo d);rw[L]at o;simp only[gA,alf]at o;rw[zX]at s;cases t:p (l.getD k default)
    ·rw[t]at g;have B:j7 ⟨H.set id (.row aj 1 cb ((gF p l k).map hC)),none⟩ 1 (.dp id aj (kept p l k).length 0) (.int .u32 (l.getD k default))=some ⟨H.set id (.row aj 1 cb ((gF p l (k+1)).map hC)),none⟩:=by
      rw[ahd (b _) (by rw[aer,zX];omega) (by intro el f;obtain⟨x,_,rfl⟩:=afJ.1 f;rfl) rfl rfl rfl,alg];have: ((gF p l k).map hC).set (kept p l k).length [.int .u32 (l.getD k default)]=(gF p l (k+1)).map hC:=by
       rw[<-asB d t,<-map_set];rfl
      rw[this]
     have S: (kept p l (k+1)).length=(kept p l k).length+1:=by rw[FT d,t];simp
     simp(disch:=omega) only[go_sem,simprocAttr,S,s,o,↓pH,g,B,z,U,y,R,gA];exact⟨by omega,by omega,by omega⟩
    ·rw[t]at g;have S:kept p l (k+1)=kept p l k:=by rw[FT d,t];simp
     have e6:=asC d t;simp(disch:=omega) only[go_sem,simprocAttr,S,e6,s,o,↓pH,g,z,U,y,R,gA];exact⟨by omega,by omega⟩
   ·obtain rfl:k=l.length:=by omega
    have F:=asz (id:=id) (aj:=aj) (n:=l.length) r;have C:=ahe (id:=id) (aj:=aj) (n:=l.length) r;have g:=asE (lo:=none) (off:=(kept p l l.length).length) (len:=l.length- (kept p l l.length).length) (c:=false) (b ((gF p l l.length).map hC)) (by rw[aer,zX];omega);simp only[go_sem,simprocAttr,z,y,F,C,g,si,gq];refine⟨List.replicate (l.length- (kept p l l.length).length) [.int .u32 0],?_,λel f=>aso f⟩;rw[alg];have e1:List.take (kept p l l.length).length (List.map hC (gF p l l.length))=(l.filter λh=>!p h).map hC:=by
     unfold gF;rw[afI,aog (by simp),ahg]
    have e2:List.drop ((kept p l l.length).length+(l.length- (kept p l l.length).length)) (List.map hC (gF p l l.length))=[]:=ahl (by rw[aer,zX];omega);rw[e1,e2,afZ,ahg]
def asG{X:Ctx}(j:Ext X0 X)(t:aw)(f:bS t)(h x:Nat)(e:x<4294967296)(d a:Nat)(H:List ae)(b:H[d]?=some (.box (aO t) none))(c:H[a]?=some (.box [.int .u32 h] none))(lo:oN):
  D X (.fn (.func 180) [] [.ptr d 0,.ptr a 0]) [.int .u32 x] ⟨H,lo⟩=some (.ret (.bool (decide (bn t x≠h))) ⟨H,lo⟩):=by
 refine up j ?_;refine eY QT λN i=>?_
 have m: ∀L,(H++L)[a]?=some (.box [.int .u32 h] none):=λL=>bc c
 have g:=s6 t f x e;have hu:=aha t x;simp only[F1,go_sem,simprocAttr,QT,i,b,m,g,me,jI,hu];refine dj (ag9 AV.bool ?_) rfl
 grind
def ahh(N:Nat)(H:List ae)(v:AV)(ty:TypeId)(af a:List lA):Prop:=
 (∃id aj,N<=id/\v= .ref id aj 1 0 af.length false/\H[id]?=some (.row aj 1 ty (af++a)))/\ ∀el∈a,el.length=1
def asH(t:aw)(q:bS t)(h:Nat)(r:t.au h=true)(N:Nat)(H:List ae)(K:H.length=N)(lo:oN):
  ∃v J rest,rE [.agg (aO t),.int .u32 h] ⟨H,lo⟩=some (.ret v ⟨H++J,lo⟩)/\ahh (N+2) (H++J) v cb ((kids t h).map hC) rest:=by
 have E:=fC r
 suffices B: ∃n,rE [.agg (aO t),.int .u32 h] ⟨H,lo⟩=some n/\ (λn=> ∃v J rest,n=aX.ret v ⟨H++J,lo⟩/\ahh (N+2) (H++J) v cb ((kids t h).map hC) rest) n by
  obtain⟨n,G,v,J,rest,rfl,F⟩:=B;exact⟨v,J,rest,G,F⟩
 refine wq (X:=X3) Kc rfl λM s=>?_
 obtain rfl:M=N:=by omega
 have i:=up asu (eH t.b h E (H++[.box (aO t) none,.box [.int .u32 h] none]) none);have u:Go.Proofs.YtcdeobefbpnfeaaGreatDoor.au t.b h=t.au h:=rfl;rw[u]at i;rw[r]at i;obtain⟨v,J,e1,I⟩:=Ln t.b q.b (M+2) (H++[.box (aO t) none,.box [.int .u32 h] none]) (by simp[s]) none;have j:D X3 (.fn (.func 19) [] []) [.agg (bX t.b)] ⟨H++[.box (aO t) none,.box [.int .u32 h] none],none⟩=some (.ret v ⟨H++[.box (aO t) none,.box [.int .u32 h] none]++J,none⟩):=qa (p:=mg) rfl e1;have f:h∈a0 t.b:=(fO q.b).2 r;have g: (a0 t.b).filter (λx=>!decide (bn t x≠h))=kids t h:=by
  unfold kids;rw[adV r];refine List.filter_congr λx _=>?_
  by_cases e:bn t x=h<;>simp[e]
 rcases I.2 with⟨_,e⟩| ⟨id,aj,C,rfl,a⟩
 ·rw[aqq.1 e]at f;cases f
 rw[aer]at j;obtain⟨H1,c⟩: ∃H1,H1=H++[ae.box (aO t) none,.box [.int .u32 h] none]++J:=⟨_,rfl⟩;have b:=dU a;have z:H1[M]?=some (.box (aO t) none):=by rw[c,adW,dv s];rfl
 have y:H1[M+1]?=some (.box [.int .u32 h] none):=by rw[c,adW,bA s];rfl
 rw[<-c]at a b;obtain⟨rest,d1,d2⟩:=asF id aj H1 (a0 t.b) (by have:=kr t.b;omega) a (.fn (.func 180) [] [.ptr M 0,.ptr (M+1) 0]) (λx=>decide (bn t x≠h))
  (λaf x A=>asG ahb t q h x (fC ((fO q.b).1 A)) M (M+1) _ (by rw[acK (by omega)];exact z) (by rw[acK (by omega)];exact y) none) none
 rw[g]at d1;have m:D X3 (.fn (.func 179) [] []) [.ref id aj 1 0 (a0 t.b).length false,.fn (.func 180) [] [.ptr M 0,.ptr (M+1) 0]] ⟨H1,none⟩=some _:=qa (p:=p9) rfl d1;rw[c]at m;simp only[adW,ahn,ahk]at m j;simp only[go_sem,simprocAttr,Kc,s,i,j,m,si,gq];have d: ∀L:List ae,∀o,(H++L).set id o=H++L.set (id-H.length) o:=λL o=>aqd _ _ (by omega)
 refine⟨_,_,rest,dj rfl (d _ _),⟨id,aj,by omega,by rw[aer],?_⟩,λel w=>by rw[d2 el w];rfl⟩;rw[<-d];refine aeo ?_;rw[c]at b;simpa using b
def iY(l:lN)(k:Nat):lN:=(List.range l.length).map λi=>if i<k\/l.length-k<=i then l.getD (l.length-1-i) default else l.getD i default
section
variable{l:lN}{k:Nat}
def s9: (iY l k).length=l.length:=by simp[iY]
def asI(h:i<l.length): (iY l k).getD i default=if i<k\/l.length-k<=i then l.getD (l.length-1-i) default else l.getD i default:=by
 unfold iY
 grind
def asJ:iY l 0=l:=by
 apply anX;unfold iY
 grind
def asK(h:l.length<=2*k+1):iY l k=l.reverse:=by
 apply anX;intro i;unfold iY;by_cases a:i<l.length
 ·rw[afW,ap6 a]
  grind
 grind
def asL(h:2*k+1<l.length): ((iY l k).set k (l.getD (l.length-1-k) default)).set (l.length-1-k) (l.getD k default)=iY l (k+1):=by
 apply anX;intro i;by_cases a:i<l.length
 ·by_cases e1:l.length-1-k=i
  ·unfold iY
   grind
  ·rw[acK e1];by_cases b:k=i
   ·subst b;rw[aeo (by rw[s9];omega)];unfold iY;rw[afW,ap6 a];simp only[afF];rw[adV (by omega)]
   ·rw[acK b];unfold iY;rw[afW,afW,ap6 a];simp only[afF];by_cases c:i<k\/l.length-k<=i
    ·rw[adV c,adV (by omega)]
    ·rw[ada c,ada (by omega)]
 ·rw[alh (by simp[s9];omega),alh (by rw[s9];omega)]
end
def asM(id aj:Nat)(H:List ae)(l:lN)(P:l.length<=1000)(b:List lA)(i:H[id]?=some (.row aj 1 cb (l.map hC++b)))(f: ∀el∈b,el.length=1)(lo:oN):
  D X0 (.fn (.func 159) [] []) [.ref id aj 1 0 l.length false] ⟨H,lo⟩=some (.ret (.ay []) ⟨H.set id (.row aj 1 cb (l.reverse.map hC++b)),lo⟩):=by
 refine aH QL λN R=>?_
 have y:=dU i;have g: ∀E,fW E .sl (.ref id aj 1 0 l.length false)=some (.int .i64 l.length):=λE=>rfl
 have d: ∀af,(H.set id (.row aj 1 cb af))[id]?=some (.row aj 1 cb af):=λaf=>aeo y
 have M: ∀k,∀el∈(iY l k).map hC++b,el.length=1:=λk el p=>by
  rcases aeq.1 p with h|h
  ·obtain⟨x,_,rfl⟩:=afJ.1 h;rfl
  ·exact f _ h
 simp(disch:=omega) only[go_sem,simprocAttr,QL,g];refine dP l.length (λk e H'=>H'=H.set id (.row aj 1 cb ((iY l k).map hC++b))/\e 0= .ref id aj 1 0 l.length false/\e 2= .int .i64 k/\e 3= .int .i64 ((l.length:Int)-1-k)) 0 (by omega) ?_ ?_
 ·rw[asJ,qb i];simp only[go_sem,simprocAttr];exact ag9 _ (by omega)
 rintro k Q e H' ⟨rfl,K,J,I⟩ n O;simp only[bQ,F1,go_sem,simprocAttr,ae3,K,J,I];refine⟨λh=>?_,λh=>?_⟩
 ·have u:2*k+1<l.length:=by omega
  have w:k<l.length:=by omega
  obtain⟨m,hm⟩: ∃m,m=l.length-1-k:=⟨_,rfl⟩;have t: (l.length:Int)-1-k=(m:Nat):=by omega
  have o:Rd ⟨H.set id (.row aj 1 cb ((iY l k).map hC++b)),none⟩ (.ref id aj 1 0 l.length false) 1 ((iY l k).map hC):=by
   have:=FR (lo:=none) (c:=false) (n:=l.length) (d ((iY l k).map hC++b)) (by rw[aem,aer,s9];omega) (M k);rwa[aog (by rw[aer,s9])]at this
  have C:j8 1 (.ref id aj 1 0 l.length false) (.int .i64 (m:Nat))=some (.dp id aj m 0):=by
   have:=o.ca (k:=.i64) (a:=(m:Nat));rw[s9,adV (by omega)]at this;rw[this];simp[gA]
  have B:j8 1 (.ref id aj 1 0 l.length false) (.int .i64 (k:Nat))=some (.dp id aj k 0):=by
   have:=o.ca (k:=.i64) (a:=(k:Nat));rw[s9,adV (by omega)]at this;rw[this];simp[gA]
  have A: ∀j,j<l.length->ck X0 ⟨H.set id (.row aj 1 cb ((iY l k).map hC++b)),none⟩ false 1 (.dp id aj j 0)=some (.int .u32 ((iY l k).getD j default:Nat)):=λj F=>by
   have:=o.cD (X:=X0) (j:=j) (off:=0) (n:=1) (agg:=false) (by rw[s9];exact F);simp only[gA,alf]at this;rw[this,pH]
  have s:=A m (by omega);have r:=A k (by omega);rw[asI (by omega),ada (by omega)]at s r;have G: ∀ (L:lN) (j v:Nat),L.length=l.length->j<l.length->j7 ⟨H.set id (.row aj 1 cb (L.map hC++b)),none⟩ 1 (.dp id aj j 0) (.int .u32 v)=some ⟨H.set id (.row aj 1 cb ((L.set j v).map hC++b)),none⟩:=λL j v A F=>by
   rw[ahd (d _) (by rw[aem,aer];omega) (λel p=>by
    rcases aeq.1 p with h|h
    ·obtain⟨x,_,rfl⟩:=afJ.1 h;rfl
    ·exact f _ h) rfl rfl rfl,alg,aqU _ _ (by rw[aer];omega)]
   have: (L.map hC).set j [.int .u32 v]=(L.set j v).map hC:=by rw[<-map_set];rfl
   rw[this]
  have z:=G (iY l k) k (l.getD m default) s9 (by omega);have q:=G ((iY l k).set k (l.getD m default)) m (l.getD k default) (by rw[afL,s9]) (by omega);rw[hm,asL u,<-hm]at q;simp(disch:=omega) only[go_sem,simprocAttr,K,J,I,t,C,B,s,r,z,q];exact⟨w,ag9 _ (by omega)⟩
 ·have he:=asK (l:=l) (k:=k) (by omega);rw[he,ael (by rw[afL];omega)]
def Tp(t:aw)(h:Nat)(N:Nat)(H:List ae)(b:H.length=N)(lo:oN):D X0 (.fn (.func 109) [] []) [.agg (aO t),.int .u32 h] ⟨H,lo⟩=some (.ret (.fn (.func 157) [] [.ptr (N+1) 0,.ptr N 0]) ⟨H++[.box (aO t) none,.box [.int .u32 h] none],lo⟩):=by
 refine aH Qv λM a=>?_
 obtain rfl:M=N:=by omega
 simp only[go_sem,simprocAttr,Qv,a];rw[zU (by omega)]
def rG(t:aw)(h:Nat):List lA:=(cP t h).map hC
def Tq(t:aw)(h:Nat): (rG t h).length=(cP t h).length:=by simp[rG]
structure asN(W:List ae)(v:AV)(id:Nat)(st:lN):Prop where
 ex: ∃aj rest,v= .ref id aj 1 0 st.length false/\W[id]?=some (.row aj 1 cb (st.map hC++rest))/\ ∀el∈rest,el.length=1
theorem oW{t:aw}: ∀st:lN,st.length<=(st.flatMap (cP t)).length
 | []=>by simp
 |x::xs=>by
  have d:1<=(cP t x).length:=by
   cases e:cP t x with
   |nil=>trivial
   |cons a b=>simp
  have c:=oW (t:=t) xs
  grind
def asO{H:List ae}{id:Nat}{ty:TypeId}{ys:List lA}(h:H[id]?=some (.row aj 1 ty af))(f:n<=af.length)(e: ∀el∈ys,el.length=1)(a:bZ ys=0)(d: (n+ys.length)*4<=room)(b:ys≠[]):
  du ⟨H,lo⟩ ty 1 4 (.ref id aj 1 0 n false) ys=some (.ref id (aj+1) 1 0 (n+ys.length) false,⟨H.set id (.row (aj+1) 1 ty (af.take n++ys)),lo⟩):=by
 have c:0<1/\ys.all (λel=>el.length==1)=true:=⟨by omega,by grind⟩;unfold du;rw[adV c];simp only[h];rw[adV ⟨trivial,trivial,trivial,trivial,by omega,d⟩,ada (by grind)];simp[AS.set,a]
def asP{H:List ae}{id:Nat}{ty:TypeId}(h:H[id]?=some (.row aj 1 ty af))(a:n<=af.length)(b:n*4<=room):
  du ⟨H,lo⟩ ty 1 4 (.ref id aj 1 0 n false) []=some (.ref id aj 1 0 n false,⟨H,lo⟩):=by
 unfold du
 grind
def asQ{X Y:Ctx}(a:Ext X Y)(h:X.code f=some pf)(b:X.b8 f=none):Y.b8 f=none:=by
 rcases a.b8 f with e| ⟨_,e⟩
 ·grind
 grind
def asS{X Y:Ctx}(a:Ext X Y)(h:X.code f=some pf):Y.code f=some pf:=by rw[a.code];exact h
def vy{X Y:Ctx}(a:Ext X Y){args:lA}{E:AS}{r:aX}(h:D X v args E=some r):D Y v args E=some r:=adN a _ _ _ _ h
def Tr{Y:Ctx}(T:Ext X4 Y)(t:aw)(ht:bS t)(hT:bY t)(h:Nat)(hg:t.au h=true)(a:Nat):
  uN Y (.fn (.func 157) [] [.ptr (a+1) 0,.ptr a 0]) a [.box (aO t) none,.box [.int .u32 h] none] (rG t h):=by
 intro S V y I J b hV FU uK W s hP h0 wu C hG lo;have hh:=fC hg;have o: ∀i,V.cE i->i<b:=λi hi=>(FU i hi).1
 suffices h: ∃cr,D Y (.fn (.func 157) [] [.ptr (a+1) 0,.ptr a 0]) [y] ⟨W,lo⟩=some cr/\
   (λcr=> ∃s' O ak,cr=aX.ret (.ay []) ⟨O,ak⟩/\V.P s' O/\ (I (rG t h).length s'\/J s')/\b<=O.length/\
     (∀i,i<b-> ¬V.cE i-> ¬(a<=i/\i<a+[ae.box (aO t) none,.box [.int .u32 (h:Nat)] none].length)->O[i]?=W[i]?)/\kR V.c b lo ak none (V.row s')) cr by
  obtain⟨cr,h1,s',O,ak,rfl,q1,q2,q3,q4,q5⟩:=h;exact⟨s',O,ak,h1,q1,q2,q3,q4,q5⟩
 refine s8 QK (asQ T rfl rfl) (asS T rfl) rfl λN hN=>?_
 obtain rfl:N=b:=by omega
 have g0:W[a]?=some (.box (aO t) none):=hG 0 (by simp);have g1:W[a+1]?=some (.box [.int .u32 h] none):=hG 1 (by simp);have ha:=dU g1;have Tj: ¬V.cE a:=λq=>(FU a q).2 ⟨by omega,by simp⟩
 have hul:=SZ hT h;have F: ∀n:Nat,n<=40000000->n*4<=room:=λn hn=>by unfold room;omega
 simp only[go_sem,simprocAttr,QK,hN,g1];refine gN (cP t h).length (λk e O ak=> ∃s' st id,I k s'/\kf V N W (λi=>a<=i/\i<a+[ae.box (aO t) none,.box [.int .u32 (h:Nat)] none].length) s' O ak/\O[a]?=some (.box (aO t) none)/\asN O (e 4) id st/\N<=id/\V.row s'≠some id/\
  st.reverse.flatMap (cP t)=(cP t h).drop k/\ (∀x∈st,t.au x=true)/\e 0=y/\e 1= .ptr (a+1) 0/\e 2= .ptr a 0) 0 (by omega) ?_ ?_
 ·simp only[go_sem,simprocAttr];refine⟨s,[h],N,h0,?_,?_,?_,aen _,?_,by simp,by simpa using hg⟩
  ·exact kf.push hV o ⟨hP,by omega,λ_ _ _ _=>rfl,.inl ⟨rfl,C⟩,λr e=>by rw[C]at e;cases e⟩ _
  ·exact bc g0
  ·exact⟨0,[],rfl,by rw[dv hN];rfl,by simp⟩
  ·rw[C];simp
 rintro k hk e W1 Q ⟨s1,st,id,hI,hS,w0,⟨aj,rest,e4,hr,G⟩,hid,Z,A,gy,e0,e1,e2⟩ n hn;have Ll:N<=n:=by have:=hS.len;omega
 have aCF:=dU hr;have aCG:st.length<=(cP t h).length-k:=by
  have:=oW (t:=t) st.reverse;rw[A,List.length_reverse,ams]at this;exact this
 have H: ∀E,fW E .sl (.ref id aj 1 0 st.length false)=some (.int .i64 st.length):=λE=>rfl
 simp(disch:=omega) only[bQ,go_sem,simprocAttr,ae2,e4,H];refine⟨λhc=>?_,λhc=>?_⟩
 ·obtain⟨d,x,rfl⟩: ∃d x,st=d++[x]:=⟨st.dropLast,st.getLast (by rintro rfl;simp at hc),(List.dropLast_concat_getLast _).symm⟩;have hgx:=gy x (by simp);have hx:=fC hgx;have R: (d++[x]).length=d.length+1:=by simp
  have u: (cP t h).drop k=x:: ((kids t x).flatMap (cP t)++d.reverse.flatMap (cP t)):=by
   rw[<-A,List.reverse_append,al7];show(x:: []).flatMap (cP t)++_=_;rw[aqR,List.flatMap_nil,afZ,SX hT x];rfl
  have Tk:k< (cP t h).length:=by
   have:=ag9 List.length u;rw[ams,afO]at this;omega
  have wj: (rG t h)[k]?=some [.int .u32 (x:Nat)]:=by
   unfold rG;rw[afW];have: (cP t h)[k]?=((cP t h).drop k)[0]?:=by rw[ali];rfl
   rw[this,u];rfl
  obtain⟨c,s2,W2,l,p1,p2,p3,p4,p5,p6⟩:=uK k _ s1 wj hI W1 hS.P hS.len Q;have L:=hS.step p2 p3 p4 p5;have Ts: ∀i,i<N->V.row s1≠some i:=λi hi q=>by have:=hS.row _ q;omega
  have v0:W2[a]?=some (.box (aO t) none):=by rw[p3.2 a (by omega) Tj (Ts _ (by omega))];exact w0
  have vr:W2[id]?=some (.row aj 1 cb ((d++[x]).map hC++rest)):=by rw[p3.2 id (by omega) (λq=>by have:=o _ q;omega) Z];exact hr
  have lR:Rd ⟨W1,Q⟩ (.ref id aj 1 0 (d++[x]).length false) 1 ((d++[x]).map hC):=by
   have:=FR (lo:=Q) (c:=false) (n:=(d++[x]).length) hr (by simp) (λel g=>by
    rcases aeq.1 g with h|h
    ·obtain⟨x,_,rfl⟩:=afJ.1 h;rfl
    ·exact G _ h)
   rwa[aog (by simp)]at this
  have hA:j8 1 (.ref id aj 1 0 (d.length+1) false) (.int .i64 (d.length:Nat))=some (.dp id aj d.length 0):=by
   have:=lR.ca (k:=.i64) (a:=(d.length:Nat));rw[R,adV (by omega)]at this;rw[this];simp[gA]
  have hL:ck Y ⟨W1,Q⟩ false 1 (.dp id aj d.length 0)=some (.int .u32 (x:Nat)):=by
   have:=lR.cD (X:=Y) (j:=d.length) (off:=0) (n:=1) (agg:=false) (by simp);simp only[gA,alf]at this;rw[this,pH];simp
  have Tt: ((d.length:Nat):Int)+1-1=(d.length:Nat):=by omega
  cases c
  ·obtain⟨M,Lo,q1,q2,q3,q4,q5⟩:=L.fin hV o (dL:=lo);simp only[go_sem,simprocAttr,Tt,e0,R,hA,hL,p1,q1];exact⟨s2,M,Lo,rfl,q2,.inr p6,q3,q4,q5⟩
  ·obtain⟨kv,Jk,m,k1,⟨z,v,kid,rfl,U⟩,k3⟩:=asH t ht x hgx W2.length W2 rfl l;have hkn:=dU U;have kl:=agK t x;have w:=vy T (qa (X:=X4) (f:=158) (p:=rE) rfl k1);have r1:=vy T<|up asv (asM z v (W2++Jk) (kids t x) (by omega) m U k3 l);rw[aer]at w;have aCI:id≠z:=by have:=dU vr;omega
   obtain⟨M,K⟩: ∃M,M=(W2++Jk).set z (.row v 1 cb ((kids t x).reverse.map hC++m)):=⟨_,rfl⟩;rw[<-K]at r1;have P:M[id]?=some (.row aj 1 cb ((d++[x]).map hC++rest)):=by rw[K,acK (by omega)];exact bc vr
   have v03:M[a]?=some (.box (aO t) none):=by rw[K,acK (by have:=dU v0;omega)];exact bc v0
   have g:Den.elems ⟨M,l⟩ 1 (.ref z v 1 0 (kids t x).length false)=some ((kids t x).reverse.map hC):=by
    have h3:M[z]?=some (.row v 1 cb ((kids t x).reverse.map hC++m)):=by rw[K];exact aeo hkn
    have:=(FR (lo:=l) (c:=false) (n:=(kids t x).length) h3 (by simp) (λel g=>by
     rcases aeq.1 g with h|h
     ·obtain⟨x,_,rfl⟩:=afJ.1 h;rfl
     ·exact k3 _ h)).eq
    rwa[aog (by simp)]at this
   have hS3:kf V N W (λi=>a<=i/\i<a+[ae.box (aO t) none,.box [.int .u32 (h:Nat)] none].length) s2 M l:=by
    rw[K];exact(L.push hV o Jk).set hV (λq=>by have:=o _ q;have:=L.len;omega) (λq=>by have:=hV.Ik L.P q;omega) (.inr (by have:=L.len;omega))
   have v9:=ahe (id:=id) (aj:=aj) (n:=d.length+1) (i:=d.length) (by omega);have B:V.row s2≠some id:=by
    rcases p4 with q| ⟨r,q,hq⟩
    ·rw[q];exact Z
    ·rw[q];intro e;cases e;omega
   have Tu: ((d++(kids t x).reverse).reverse).flatMap (cP t)=(cP t h).drop (k+1):=by
    have:=ag9 (List.drop 1) u;rw[apf]at this;rw[this,List.reverse_append,List.reverse_reverse,al7];rfl
   have ahm: ∀y∈d++(kids t x).reverse,t.au y=true:=λy hy=>by
    rcases aeq.1 hy with h|h
    ·exact gy y (by simp[h])
    ·exact(fO ht.b).1 (K6 (List.mem_reverse.1 h)).2.2
   by_cases Lp:kids t x=[]
   ·have sc:=asP (lo:=l) (n:=d.length) P (by simp) (F _ (by omega));rw[Lp]at g w r1 Tu ahm;simp only[amQ,List.reverse_nil,awk]at g w r1;simp(disch:=omega) only[go_sem,simprocAttr,Tt,e0,e1,e2,e4,R,hA,hL,p1,v0,w,r1,v9,g,sc];refine⟨Tk,s2,d,id,p6,hS3,v03,⟨aj,[hC x]++rest,rfl,?_,?_⟩,hid,B,by simpa using Tu,λy hy=>gy y (by simp[hy])⟩
    ·rw[P];simp
    ·intro el g;rcases aeq.1 g with h|h
     ·rw[afD.1 h];rfl
     ·exact G _ h
   ·have sc:=asO (lo:=l) (n:=d.length) (ys:=(kids t x).reverse.map hC) P (by simp) (λel g=>by obtain⟨x,_,rfl⟩:=afJ.1 g;rfl) (bB (λ_=>rfl) _) (F _ (by simp;omega)) (by simpa using Lp);simp(disch:=omega) only[go_sem,simprocAttr,Tt,e0,e1,e2,e4,R,hA,hL,p1,v0,w,r1,v9,g,sc];refine⟨Tk,s2,d++(kids t x).reverse,id,p6,?_,?_,⟨aj+1,[],?_,?_,λ_ h=>by cases h⟩,hid,B,Tu,ahm⟩
    ·exact hS3.set hV (λq=>by have:=o _ q;omega) B (.inr (by omega))
    ·exact v03
    ·simp
    ·rw[aeo (dU P)];have e:List.take d.length (List.map hC (d++[x])++rest)=List.map hC d:=by
      rw[afI,adW,aog (by simp)]
     rw[e,afI,afZ]
 ·obtain⟨M,Lo,q1,q2,q3,q4,q5⟩:=hS.fin hV o (dL:=lo);have asV:st=[]:=by
   have:st.length=0:=by omega
   exact ak2.1 this
  subst asV;have Lq:k=(rG t h).length:=by
   rw[Tq];have:=ag9 List.length A;rw[ams]at this;simp at this;omega
  simp only[go_sem,simprocAttr,q1];exact⟨s1,M,Lo,rfl,q2,.inl (Lq ▸ hI),q3,q4,q5⟩
def asW{X:Ctx}{a:List RV}{R:aX->Prop}{e:Env}{p:Nat}{b:lN}{H:List ae}{l:oN}:
  Bd X lo a R .ret ⟨e,p::b⟩ ⟨H,l⟩=match H[p]? with|some .fk=>Bd X lo a R .ret ⟨e,b⟩ ⟨H.set p .dead,l⟩|_=>False:=by
 simp only[Bd,dM];cases c:H[p]? with
 |none=>simp
 |some o=>cases o<;>simp[AS.set]
structure ASt where
 l:lN
 row:oN
def aho(H:List ae)(N a k:Nat):YV ASt:=⟨λs W=>(∀i,i<N-> ¬(a<=i/\i<a+k)->W[i]?=H[i]?)/\SV N 1 cb W s.row (s.l.map hC),ASt.row,λi=>i<N+1/\ ¬(a<=i/\i<a+k),N⟩
def asX{H:List ae}{N k:Nat}(h:a+k<=N): (aho H N a k).Ok where
 st:=λs W j ⟨g,c⟩ b=>by
  refine⟨λi d f=>?_,c.st (b _ (.inl ⟨aqx _,by omega⟩)) λi d=>b i (.inr d)⟩;rw[b i (.inl ⟨by omega,f⟩)];grind
 lt:=λs W r ⟨_,c⟩ e=>c.row e
def asY(g:AV)(xs:lN)(wj:xs.length<=40000000)(a:Nat)(G:List ae)(C:qx X4 g=true)(A:uN X4 g a G (xs.map hC))(N:Nat)(H:List ae)(hN:H.length=N)(E:a+G.length<=N)
  (hG: ∀i,i<G.length->H[a+i]?=G[i]?) (lo:oN):
  ∃v W ak,xk [.aq,g] ⟨H,lo⟩=some (.ret v ⟨W,ak⟩)/\aT N W v 1 cb (xs.map hC)/\ (∀i,i<N-> ¬(a<=i/\i<a+G.length)->W[i]?=H[i]?)/\N<=W.length/\ (ak=lo\/ ∃j,N<=j/\ak=cL lo j):=by
 suffices hs: ∃m,xk [.aq,g] ⟨H,lo⟩=some m/\ (λm=> ∃v W ak,m=aX.ret v ⟨W,ak⟩/\aT N W v 1 cb (xs.map hC)/\ (∀i,i<N-> ¬(a<=i/\i<a+G.length)->W[i]?=H[i]?)/\N<=W.length/\ (ak=lo\/ ∃j,N<=j/\ak=cL lo j)) m by
  obtain⟨m,h1,v,W,ak,rfl,h2⟩:=hs;exact⟨v,W,ak,h1,h2⟩
 refine wq (X:=X4) Kb rfl λM I=>?_
 obtain rfl:M=N:=by omega
 have hb:=ag0 (H:=H) (lo:=none) (tg:=none) (Rv.aq (sz:=1));simp only[go_sem,simprocAttr,Kb,I,hb];obtain⟨W0,c⟩: ∃W0,W0=H++[ae.box [.aq] none]:=⟨_,rfl⟩;rw[<-c];have U:W0.length=M+1:=by rw[c];simp[I]
 have l:SV M 1 cb W0 none []:=.inl ⟨rfl,rfl,by rw[c,dv I];rfl⟩;generalize d: ((((di _).set 2 _).set 4 _).set 6 _)=e;have f:e 2= .ptr M 0:=by rw[<-d];rfl
 have P: (ao.t 6).get e=g:=by rw[<-d];rfl
 clear d;refine O7 (aho H M a G.length) (asX E) (xs.map hC) a G W0 ⟨[],none⟩ (by rw[P];exact C) (by rw[P];exact A) (λi b=>?_) (by omega) (λi b=>⟨by have:=b.1;omega,b.2⟩) ⟨λi b o=>?_,l⟩ rfl
  (λj s=>s.l=xs.take j) (λ_ _=>False) rfl (λ_ _ h=>h.elim) ?_ ?_ (λ_ _ _ _ h=>h.elim)
 ·rw[c,ac7 (by omega)];exact hG i b
 ·rw[c,ac7 (by omega)]
 ·intro j y s R p;rw[afW,afE]at R;obtain⟨x,S,rfl⟩:=R;have hj:=(ac9.1 S).1;refine⟨rfl,λW V wu=>?_⟩;simp only[go_sem,simprocAttr,ie,hC];refine⟨[],by simp,λW2 Tc F=>?_⟩;obtain⟨u,n⟩:=F;have v9:s.l.length<=40000000:=by
   have:s.l=xs.take j:=p;rw[this,afT];omega
  obtain⟨vv,v',W3,L,O,a1,Z,a3,a4,a5,Y,a7⟩:=n.append (bytes:=4) (el:=hC x) (by omega) (by omega) rfl rfl (by rw[aer];unfold room;omega) none;have B:hC x=[.int .u32 (x:Nat)]:=rfl;rw[B]at Z;simp only[go_sem,simprocAttr,ae1,f,a1,Z,a3,DM,afZ];have k: ∀i,s.row=some i->M<i:=by
   intro i b;rcases n with⟨q,_⟩| ⟨id,aj,q,_,f,q3,q4⟩
   ·rw[q]at b;cases b
   ·rw[q]at b;cases b;exact f
  refine⟨⟨s.l++[x],O⟩,⟨λi b o=>?_,?_⟩,⟨by show W2.length<=L.length;omega,λi b hp hr=>?_⟩,.inr ⟨M,aen _,by omega,rfl,?_⟩,?_⟩
  ·show L[i]?=_;rw[Y i (by omega) (by omega) (λq=>by have:=k i q;omega)];exact u i b o
  ·show SV M 1 cb L O ((s.l++[x]).map hC);rw[afI];exact a4
  ·have w: ¬(i<M+1/\ ¬(a<=i/\i<a+G.length)):=hp;exact Y i b (by rintro rfl;exact w ⟨by omega,by omega⟩) hr
  ·rcases a7 with q| ⟨q,t,f⟩
   ·exact .inl q
   ·exact .inr ⟨q,t,by omega⟩
  ·show s.l++[x]=xs.take (j+1);have:s.l=xs.take j:=p;rw[this,afP,S];rfl
 ·intro s' W' ak p V hl T pa z;obtain⟨u,n⟩:=V;have J:s'.l=xs:=by
   have:s'.l=xs.take (xs.map hC).length:=p;rw[this,aer,afH]
  obtain⟨v,o1,Q,o3,o4,_⟩:=n.own (N:=M) (aen _) (by intro el D;obtain⟨r,_,rfl⟩:=afJ.1 D;rfl);rw[J]at Q;have ho:aT M (W'.set W0.length .dead) v 1 cb (xs.map hC):=by
   obtain⟨c1,K⟩:=Q;refine⟨c1,?_⟩;rcases K with K| ⟨id,aj,d1,d2,d3⟩
   ·exact .inl K
   ·refine .inr ⟨id,aj,d1,d2,?_⟩;rw[acK];exact d3;rintro rfl;rw[T]at d3;cases d3
  simp only[go_sem,simprocAttr,f,o1,T,asW,si];refine⟨v,_,_,rfl,ho,λi b o=>?_,by rw[afL];omega,?_⟩
  ·rw[acK (by omega)];exact u i b o
  ·rcases z with⟨rfl,_⟩| ⟨j,t,f,rfl⟩
   ·exact .inl rfl
   ·exact .inr ⟨j,t,rfl⟩
def asZ(g:AV)(xs:lN)(c:xs.length<=40000000)(a:Nat)(G:List ae)(e:qx X4 g=true)(d:uN X4 g a G (xs.map hC))(N:Nat)(H:List ae)(s:H.length=N)(f:a+G.length<=N)
  (m: ∀i,i<G.length->H[a+i]?=G[i]?) (lo:oN):
  ∃v W ak,zW [g] ⟨H,lo⟩=some (.ret v ⟨W,ak⟩)/\aT N W v 1 cb (xs.map hC)/\ (∀i,i<N-> ¬(a<=i/\i<a+G.length)->W[i]?=H[i]?)/\N<=W.length/\ (ak=lo\/ ∃j,N<=j/\ak=cL lo j):=by
 suffices r: ∃b,zW [g] ⟨H,lo⟩=some b/\ (λb=> ∃v W ak,b=aX.ret v ⟨W,ak⟩/\aT N W v 1 cb (xs.map hC)/\ (∀i,i<N-> ¬(a<=i/\i<a+G.length)->W[i]?=H[i]?)/\N<=W.length/\ (ak=lo\/ ∃j,N<=j/\ak=cL lo j)) b by grind
 refine wq (X:=X5) J3 rfl λM l=>?_
 obtain rfl:M=N:=by omega
 obtain⟨v,W,ak,e1,q,e3,o,n⟩:=asY g xs c a G e d M H l f m none;have h:D X5 (.fn (.func 156) [] []) [.aq,g] ⟨H,none⟩=some _:=qa (p:=xk) rfl e1;simp only[go_sem,simprocAttr,J3,h,si];refine⟨v,W,_,rfl,q,e3,o,?_⟩;rcases n with rfl| ⟨j,k,rfl⟩
 ·exact .inl rfl
 ·exact .inr ⟨j,k,rfl⟩
def as0(t:aw)(q:bS t)(n:bY t)(h:Nat)(s:h<4294967296)(N:Nat)(H:List ae)(B:H.length=N)(lo:oN):
  ∃v J ak,Ch [.agg (aO t),.int .u32 h] ⟨H,lo⟩=some (.ret v ⟨H++J,ak⟩)/\aT N (H++J) v 1 cb ((under t h).map hC)/\ (ak=lo\/ ∃j,N<=j/\ak=cL lo j):=by
 suffices A: ∃k,Ch [.agg (aO t),.int .u32 h] ⟨H,lo⟩=some k/\ (λk=> ∃v J ak,k=aX.ret v ⟨H++J,ak⟩/\aT N (H++J) v 1 cb ((under t h).map hC)/\ (ak=lo\/ ∃j,N<=j/\ak=cL lo j)) k by grind
 refine wq (X:=X6) E4 rfl λM e=>?_
 obtain rfl:M=N:=by omega
 have a:=up ahc (eH t.b h s (H++[.box (aO t) none]) none);have l:Go.Proofs.YtcdeobefbpnfeaaGreatDoor.au t.b h=t.au h:=rfl;rw[l]at a;cases d:t.au h with
 |false=>
  rw[d]at a;simp only[go_sem,simprocAttr,E4,e,a,si,gq];refine⟨_,_,_,rfl,?_,.inl rfl⟩;unfold under;rw[d];exact aT.aq
 |true=>
  rw[d]at a;have hu:under t h=cP t h:=by unfold under;rw[adV d];rfl
  obtain⟨H1,b⟩: ∃H1,H1=H++[ae.box (aO t) none,.box (aO t) none,.box [.int .u32 h] none]:=⟨_,rfl⟩;have o:=up ahc (Tp t h (M+1) (H++[.box (aO t) none]) (by simp[e]) none);have f:H1.length=M+3:=by rw[b];simp[e]
  have m: ∀i,i<2->H1[M+1+i]?=[ae.box (aO t) none,.box [.int .u32 h] none][i]?:=λi r=>by
   rw[b,afN (by omega),show M+1+i-H.length=i+1 by omega];rfl
  obtain⟨v,W,ak,y,x,w,C,u⟩:=asZ (.fn (.func 157) [] [.ptr (M+1+1) 0,.ptr (M+1) 0]) (cP t h) (by have:=SZ n h;omega) (M+1) [.box (aO t) none,.box [.int .u32 h] none] rfl (Tr ⟨rfl,rfl,rfl,λ_=>.inl rfl⟩ t q n h d (M+1)) (M+3) H1 f (by simp) m none;have g:D X6 (.fn (.func 108) [] []) [.fn (.func 157) [] [.ptr (M+1+1) 0,.ptr (M+1) 0]] ⟨H1,none⟩=some _:=qa (p:=zW) rfl y;have c:W=H++W.drop M:=by
   have:W.take M=H:=lv e λi r=>by
    rw[w i (by omega) (by omega),b,ac7 (by omega)]
   rw[<-this];simp
  rw[b]at g;simp only[adW,ahn,ahk]at o;simp only[go_sem,simprocAttr,E4,e,a,o,g,si];refine⟨v,W.drop M,_,dj rfl c,?_,?_⟩
  ·rw[<-c,hu];exact aT.le x (by omega)
  ·rcases u with rfl| ⟨j,z,rfl⟩
   ·exact .inl rfl
   ·exact .inr ⟨j,by omega,rfl⟩
def aT.nz{N:Nat}{H:List ae}{ty:TypeId}(h:aT N H v sz ty af){p:Nat}{cs:lA}{tg:Option TypeId}(b:H[p]?=some (.box cs tg)){o:ae}:aT N (H.set p o) v sz ty af:=by
 obtain⟨a,c⟩:=h;refine⟨a,?_⟩
 grind
def jJ{N:Nat}{H:List ae}{ty:TypeId}{g:α->lA}(h:aT N H v sz ty (l.map g))(lo:oN):Rd ⟨H,lo⟩ v sz (l.map g):=h.rd
def FV(t:aw)(a:bS t)(c:bY t)(h:Nat)(b:h<4294967296)(N:Nat)(H:List ae)(d:H.length=N)(lo:oN):
  ∃v J ak,D X (.fn (.func 73) [] []) [.agg (aO t),.int .u32 h] ⟨H,lo⟩=some (.ret v ⟨H++J,ak⟩)/\aT N (H++J) v 1 cb ((under t h).map hC)/\ (ak=lo\/ ∃j,N<=j/\ak=cL lo j):=by
 obtain⟨v,J,ak,f,e⟩:=as0 t a c h b N H d lo;exact⟨v,J,ak,qa (p:=Ch) rfl f,e⟩
def en.of{N:Nat}(h:ak=Option.none\/ ∃j,N<=j/\ak=cL Option.none j):en N ak:=by trivial
def en.le{N M:Nat}(h:en N lo)(a:M<=N):en M lo:=by
 rcases h with h| ⟨j,q,e⟩
 ·exact .inl h
 ·exact .inr ⟨j,by omega,e⟩
def Lr{t:aw}(b:bS t)(a:x∈under t h):t.au x=true:=by
 unfold under at a;split at a
 ·rename_i c;exact zF b.b c a
 grind
def zY{t:aw}(a:bY t)(h:Nat): (under t h).length<=39135393:=by
 unfold under;split
 ·exact SZ a h
 ·simp
def as1:gg dq:=⟨by trivial,by trivial,by trivial,by simp[dq],by trivial,by trivial⟩
def bS.drop{t:aw}(a:bS t)(h:Nat):bS (iA t h).1:=by
 unfold iA;split
 ·refine⟨FJ a.b h,λi=>?_⟩;show gg (av t.r (aP h) dq i);by_cases e:i=aP h
  ·rw[e,ch];exact as1
  ·rw[cF e];exact a.r i
 omega
def gk(t:aw)(l:lN):aw:=l.foldl (λt x=>(iA t x).1) t
theorem ahp{t:aw}(a:bS t): ∀l:lN,bS (gk t l)
 | []=>a
 |x::xs=>ahp (a.drop x) xs
def as2{t:aw}{l:lN}{k:Nat}(h:k<l.length):gk t (l.take (k+1))=(iA (gk t (l.take k)) (l.getD k default)).1:=by
 unfold gk;rw[afP,adR h,al2,getD_eq h];rfl
def iF{N:Nat}{H:List ae}(b:en N ak)(a:v.refs<=N):finish N lo v ⟨H,ak⟩=(v,⟨H.take N,lo⟩):=uP b ((Fz.low (d:=11) a))
def FW{N:Nat}{H:List ae}{ty:TypeId}(b:en N ak)(h:aT N H v sz ty af)(a:bZ af<=N):finish N lo v ⟨H,ak⟩=(bD v af,⟨H.take N,lo⟩):=
 uP b ((Fz.own (d:=8) h a))
def ahq{N:Nat}{a b:AV}{H:List ae}{ty:TypeId}(e:en N ak)(h:aT N H v sz ty af)(c:bZ af<=N)(g:a.refs<=N)(f:b.refs<=N):
  finish N lo (.ay [a,v,b]) ⟨H,ak⟩=(.ay [a,bD v af,b],⟨H.take N,lo⟩):=
 uP e (Fz.ay (d:=11) (ik.cons ((Fz.low (d:=0) g).mono (by omega)) (ik.cons ((Fz.own (d:=0) h c).mono (by omega)) (ik.cons ((Fz.low (d:=0) f).mono (by omega)) ik.nil))))
def as3(t:aw)(y:bS t)(I:bY t)(h:Nat)(P:h<4294967296)(H:List ae)(lo:oN):
  ∃w,D X (.fn (.func 311) [] []) [.agg (aO t),.int .u32 h] ⟨H,lo⟩=some (.ret (.ay [.agg (aO (iV t h).1),w,.int .i64 (iV t h).2.2]) ⟨H,lo⟩):=by
 suffices O: ∃l,D X (.fn (.func 311) [] []) [.agg (aO t),.int .u32 h] ⟨H,lo⟩=some l/\ (λl=> ∃w,l=aX.ret (.ay [.agg (aO (iV t h).1),w,.int .i64 (iV t h).2.2]) ⟨H,lo⟩) l by
  obtain⟨l,R,w,rfl⟩:=O;exact⟨w,R⟩
 refine cz KJ λN d=>?_
 obtain⟨v,J,x,r,q,C⟩:=FV t y I h P (N+2) (H++[.box (aO t) none,.box kS none]) (by simp[d]) none;have M:=zY I h;have a:=(jJ q x).bN;obtain⟨W0,b⟩: ∃W0,W0=H++[ae.box (aO t) none,.box kS none]++J:=⟨_,rfl⟩;have w0:W0[N]?=some (.box (aO t) none):=by rw[b,adW,dv d];rfl
 have w1:W0[N+1]?=some (.box kS none):=by rw[b,adW,bA d];rfl
 have c:iP N H W0:=by rw[b,adW];exact iP.app d
 rw[<-b]at r q a;by_cases he:under t h=[]
 ·have e1:iV t h=(t,[],4):=by unfold iV;rw[adV he]
  have B: ((under t h).length:Int)=0:=by rw[he];rfl
  rw[e1];simp only[go_sem,simprocAttr,KJ,d,r,a,B,w0,w1,cU,cO w1];rw[iF (en.le (en.of C) (by omega)) ?_]
  ·exact⟨_,dj rfl ((c.set (by omega)).take d)⟩
  ·simp[AV.refs,aI,wW]
 ·have B: ¬((under t h).length:Int)=0:=by
    have:=az4.2 he;omega
  simp only[go_sem,simprocAttr,KJ,d,r,a,B];refine gN (under t h).length (λk e p ak=>iP N H p/\p[N]?=some (.box (aO (gk t ((under t h).take k))) none)/\p[N+1]?=some (.box kS none)/\aT (N+2) p v 1 cb ((under t h).map hC)/\en (N+2) ak/\
   e 2= .ptr N 0/\e 4= .ptr (N+1) 0/\e 7=v/\e 17=v/\e 18= .int .i64 (under t h).length/\e 19= .int .i64 k) 0 (by omega) ?_ ?_
  ·simp only[go_sem,simprocAttr];exact⟨c,w0,w1,q,en.of C⟩
  rintro k U e S u ⟨F,o,m,s,E,L,K,e7,j,i,g⟩ n T;have A:=ahp y ((under t h).take k);simp only[bQ,go_sem,simprocAttr,afs,L,j,i,g];refine⟨λQ=>?_,λQ=>?_⟩
  ·have f:k< (under t h).length:=by omega
   have G:=jJ s u;have z:=λH lo=>up dy<|ar6 (gk t ((under t h).take k)) A ((under t h).getD k default) (fC (Lr y (eo f))) H lo
   simp(disch:=omega) only[go_sem,simprocAttr,G.ca,G.cD,↓pH,o,z,S5,L,K,e7,j,i,g,<-as2 f];exact⟨by omega,f,F.set (by omega),cO o,m,aT.nz s o,E⟩
  ·simp only[go_sem,simprocAttr,o,m,K,e7,cU,cO m];obtain rfl:k=(under t h).length:=by omega
   have ho:aT N (S.set (N+1) (ae.box (aO (gk t ((under t h).take (under t h).length))) none)) v 1 cb ((under t h).map hC):=aT.nz (aT.le s (by omega)) m;rw[ahq (en.le E (by omega)) ho ?_ ?_ ?_]
   ·refine⟨bD v ((under t h).map hC),dj ?_ ((F.set (by omega)).take d)⟩;unfold iV;rw[ada he,afH];rfl
   ·rw[bB (λ_=>rfl)];omega
   ·simp[AV.refs,wW]
   ·simp[AV.refs]
def RB(l:List aD):Prop:=l.length<=100/\ ∀x∈l,x.1<4294967296/\x.2<4294967296
def Ls{l:List aD}{k:Nat}(h:k<l.length):aM (l.take (k+1))=aM (l.take k)+(l.getD k default).2:=by
 unfold aM;rw[afP,adR h,afI,au7,afK,adR h];simp
def as4{l:List aD}(h: ∀x∈l,x.2<4294967296):aM l<=l.length*4294967296:=by
 exact SY (λx:aD=>x.2) 4294967296 l λx a=>Nat.le_of_lt (h x a)
def RB.bd{l:List aD}(h:RB l)(k:Nat):aM (l.take k)<=429496729600:=by
 have c:=as4 (l:=l.take k) λx a=>(h.2 x (ahz a)).2
 have b: (l.take k).length<=100:=by have:=h.1;grind
 omega
def RB.jb{l:List aD}(h:RB l):aM l<=429496729600:=by
 have:=h.bd l.length;grind
def xl(l:List aD):List lA:=(List.range l.length).map λi=>[.int .i64 (32*aM (l.take i):Nat),.agg (aA (l.getD i default))]
def FX(l:List aD): (xl l).length=l.length:=by simp[xl]
def Tv{l:List aD}(h:j<l.length): (xl l)[j]?=some [.int .i64 (32*aM (l.take j):Nat),.agg (aA (l.getD j default))]:=by
 unfold xl;grind
def ahr(v:AV)(n:Nat)(b:v.refs=0)(N:Nat)(H:List ae)(c:H.length=N)(lo:oN):D X0 (.fn (.func 224) [] []) [.agg [v,.int .i64 n]] ⟨H,lo⟩=some (.ret (.fn (.func 227) [] [.ptr N 0]) ⟨H++[.box [v,.int .i64 n] none],lo⟩):=by
 refine aH Rn λM a=>?_
 obtain rfl:M=N:=by omega
 simp only[go_sem,simprocAttr,Rn,a];rw[zU (by omega)]
def ahs(v:AV)(x:Nat)(l:List aD)(C:Rv v 2 (l.map aA))(G:RB l)(a:Nat):
  uN X0 (.fn (.func 227) [] [.ptr a 0]) a [.box [v,.int .i64 x] none] (xl l):=by
 intro S V y I J b z p E W s hP h0 wu g hG lo;have Lg:=G.1;have d: ∀i,V.cE i->i<b:=λi hi=>(p i hi).1
 suffices h: ∃w,D X0 (.fn (.func 227) [] [.ptr a 0]) [y] ⟨W,lo⟩=some w/\
   (λw=> ∃s' j ak,w=aX.ret (.ay []) ⟨j,ak⟩/\V.P s' j/\ (I (xl l).length s'\/J s')/\b<=j.length/\
     (∀i,i<b-> ¬V.cE i-> ¬(a<=i/\i<a+[ae.box [v,.int .i64 x] none].length)->j[i]?=W[i]?)/\kR V.c b lo ak none (V.row s')) w by
  obtain⟨w,h1,s',j,ak,rfl,q1,Z,Y,X,U⟩:=h;exact⟨s',j,ak,h1,q1,Z,Y,X,U⟩
 refine s8 Rp rfl rfl rfl λN hN=>?_
 obtain rfl:N=b:=by omega
 have t:W[a]?=some (.box [v,.int .i64 x] none):=hG 0 (by simp);simp only[go_sem,simprocAttr,Rp,t,C.bN];refine gN l.length (λk e j ak=> ∃s',I k s'/\kf V N W (λi=>a<=i/\i<a+[ae.box [v,.int .i64 x] none].length) s' j ak/\e 0=y/\e 3= .int .i64 (32*aM (l.take k):Nat)/\e 7=v/\e 8= .int .i64 l.length/\e 9= .int .i64 k) 0 (by omega) ?_ ?_
 ·simp only[go_sem,simprocAttr];exact⟨s,h0,⟨hP,by omega,λ_ _ _ _=>rfl,.inl ⟨rfl,g⟩,λr e=>by rw[g]at e;cases e⟩,by simp[aM]⟩
 rintro k hk e W1 B ⟨s1,P,A,R,e3,e7,e8,Q⟩ n O;simp only[bQ,go_sem,simprocAttr,afi,e7,e8,Q];refine⟨λh=>?_,λh=>?_⟩
 ·have f:k<l.length:=by omega
  have uO:=G.2 _ (eo f);have hpg:=G.bd k;have Hh:=Ls f;have hx:=Tv f;generalize F:l.getD k default=r at*;have o:=A.push z d [.box (aA r) none];obtain⟨c,s2,W2,ny,M,p2,L,p4,p5,K⟩:=E k _ s1 hx P (W1++[.box (aA r) none]) o.P o.len B;have u:=o.step p2 L p4 p5;have Ll:N<=n:=by have:=A.len;omega
  have T:W2[n]?=some (.box (aA r) none):=by
   rw[L.2 n (by simp;omega) (λq=>by have:=d _ q;omega) (λq=>by have:=z.Ik A.P q;omega)];rw[<-O];simp
  simp(disch:=omega) only[go_sem,simprocAttr,C.ca,C.cD,h,O,R,e3,F];cases c
  ·obtain⟨H,m,f1,f2,f3,f4,f5⟩:=u.fin z d (dL:=lo);simp only[go_sem,simprocAttr,M,f1];exact⟨s2,H,m,rfl,f2,.inr K,f3,f4,f5⟩
  ·simp(disch:=omega) only[go_sem,simprocAttr,R,e3,e7,e8,Q,M,T];exact⟨f,s2,K,u,ag9 _ (by omega)⟩
 ·obtain⟨H,m,f1,f2,f3,f4,f5⟩:=A.fin z d (dL:=lo);simp only[go_sem,simprocAttr,f1];exact⟨s1,H,m,rfl,f2,.inl (by rw[FX,show l.length=k by omega];exact P),f3,f4,f5⟩
theorem Lt{r:aD}:aK [AV.int .i64 0,.int .i64 0] 0 (aA r)=aA r:=rfl
def Lu(v:AV)(n:Nat)(l:List aD)(w:Rv v 2 (l.map aA))(g:RB l)(H:List ae)(lo:oN):
  D X0 (.fn (.func 279) [] []) [.agg [v,.int .i64 n]] ⟨H,lo⟩=some (.ret (.int .i64 (aM l:Nat)) ⟨H,lo⟩):=by
 refine aH RI λN u=>?_
 have d:v.refs=0:=cK w (bB (λ_=>rfl) l);have F:=ahr v n d (N+2) (H++[.box [v,.int .i64 n] none,.box [.int .i64 0] none]) (by grind) none;simp only[go_sem,simprocAttr,RI,u,F];refine wv (S:=Nat) (λe=>e 3= .ptr (N+1) 0) (by rfl) (xl l) u [.box [v,.int .i64 n] none] (λm=>[.box [v,.int .i64 n] none,.box [.int .i64 (m:Nat)] none]) (nB:=2) (λ_=>rfl) 0 (λj s=>s=aM (l.take j)) (λ_ _=>False) rfl ?_ (by simp) (by rfl) (λ_ _ h=>h.elim) ?_ ?_ ?_
 ·exact ahs v n l w g (N+2)
 ·rintro e he j x s c rfl;have k:j<l.length:=by
   have:=(ac9.1 c).1;rwa[FX]at this
  rw[Tv k]at c;cases c;have y:=g.2 _ (eo k);have z:=g.bd j;have f:=Ls k;refine⟨rfl,λW I C A q=>?_⟩;simp only[go_sem,simprocAttr,ie,C,Lt];refine⟨[.box (aA (l.getD j default)) none],rfl,λG t b=>?_⟩;simp only[eD,eC,alc,afM]at b;obtain⟨w0,w1⟩:=b;have f1: ∀L,(G++L)[N+1]?=some (.box [.int .i64 (aM (l.take j):Nat)] none):=λL=>bc w1
  simp(disch:=omega) only[go_sem,simprocAttr,afo,he,f1,t,oc];refine⟨aM (l.take (j+1)),?_,by omega,λi K B=>?_,rfl⟩
  ·simp only[eD,eC,alc,afM];refine⟨by rw[acK (by omega)];exact bc w0,?_⟩;rw[aeo (by simp;omega),f,amS]
  ·rw[acK (by omega),ac7 (by omega)]
 ·rintro e he s W p J rfl a q E;simp only[eD,eC,alc,afM]at q;obtain⟨w0,w1⟩:=q;have r: ∀o,(W.set p o).take N=H:=λo=>(a.set (by omega)).take u
  simp only[F1,go_sem,simprocAttr,he,w1,E,lu,r];rw[FX,afH]
 grind
def iC(n:Nat):lA:=[.int .i64 n]
theorem pI:Den.part false 1 (iC n) 0=some (.int .i64 n):=rfl
def as6(v:AV)(l:lN)(b:Rv v 1 (l.map iC))(q:l.length<2^40)(x:Nat)(H:List ae)(lo:oN):
  D X0 (.fn (.func 347) [] []) [v,.int .i64 x] ⟨H,lo⟩=some (.ret (.int .i64 (kC (λy=>decide (x=y)) l)) ⟨H,lo⟩):=by
 refine aH Si λN t=>?_
 simp only[go_sem,simprocAttr,Si,b.bN];refine dP l.length (λk e H'=>H'=H/\e 0=v/\e 1= .int .i64 x/\e 7= .int .i64 l.length/\e 8= .int .i64 k/\ ∀j,j<k->decide (x=l.getD j default)=false) 0 (by omega) ?_ ?_
 ·simp only[go_sem,simprocAttr];omega
 ·rintro k r e H' ⟨rfl,o,m,i,g,f⟩ n p;simp(disch:=omega) only[bQ,F1,go_sem,simprocAttr,afz,o,m,i,g];refine⟨λh=>?_,λh=>?_⟩
  ·have c:k<l.length:=by omega
   by_cases d:x=l.getD k default
   ·have a: ((x:Nat):Int)=((l.getD k default:Nat):Int):=by rw[<-d]
    simp(disch:=omega) only[F1,go_sem,simprocAttr,b.ca,b.cD,↓pI,a];rw[zS c f (ad0 d)];exact⟨by omega,rfl⟩
   ·have a: ¬((x:Nat):Int)=((l.getD k default:Nat):Int):=by omega
    simp(disch:=omega) only[go_sem,simprocAttr,b.ca,b.cD,↓pI,a,o,m,i,g];exact⟨by omega,c,nv f (adZ d)⟩
  ·rw[zT (λj s=>f j (by omega))]
def as7(v:AV)(l:lN)(a:Rv v 1 (l.map iC))(b:l.length<2^40)(x:Nat)(H:List ae)(lo:oN):
  D X0 (.fn (.func 338) [] []) [v,.int .i64 x] ⟨H,lo⟩=some (.ret (.bool (l.contains x)) ⟨H,lo⟩):=by
 refine aH Se λN c=>?_
 simp only[F1,go_sem,simprocAttr,Se,as6 v l a b x,zR]
 grind
def aht(a b:Nat)(h:a<2147483648)(g:b<2147483648)(H:List ae)(lo:oN):
  D X0 (.fn (.func 306) [] []) [.int .i64 a,.int .i64 b] ⟨H,lo⟩=some (.ret (.bool (isObj a b)) ⟨H,lo⟩):=by
 refine aH FA λN f=>?_
 have e:=as7 (.sl [[.int .i64 1],[.int .i64 2],[.int .i64 4],[.int .i64 8]] true) [1,2,4,8] (.sl (by simp)) (by simp) b H none;by_cases c: (a:Int)>=1
 ·by_cases d: (a:Int)<=128
  ·simp only[F1,go_sem,simprocAttr,FA,c,d,e];unfold isObj
   grind
  ·simp(disch:=omega) only[F1,go_sem,simprocAttr,FA,c,d];refine dj (ag9 AV.bool ?_) rfl;unfold isObj;rw[adZ (by omega: ¬a<=128)];simp
 ·simp(disch:=omega) only[F1,go_sem,simprocAttr,FA,c];refine dj (ag9 AV.bool ?_) rfl;unfold isObj;rw[adZ (by omega: ¬1<=a)];simp
theorem FY: ∀ (l:List aD) (x:aD) (put:Bool) (out a:List aD),x.1+x.2<=64->(∀y∈l,y.1+y.2<=64)->(∀y∈out,y.1+y.2<=64)->iw x put out l=some a->
  (∀y∈a,y.1+y.2<=64)/\a.length<=out.length+l.length+(if put then 0 else 1)
 | [],x,put,out,a,e,_,ho,h=>by
   unfold iw at h
   grind
 |y::ys,x,put,out,a,e,g,ho,h=>by
  have i:=g y (ai4 ..);have b: ∀z∈ys,z.1+z.2<=64:=λz d=>g z (afU _ d)
  unfold iw at h;split at h
  ·obtain⟨c,f⟩:=FY ys x put _ a e b (λz d=>by grind) h
   grind
  ·split at h
   ·obtain⟨c,f⟩:=FY ys x true _ a e b (λz d=>by
      rcases aeq.1 d with h|h
      ·rcases aeq.1 h with h|h
       ·exact ho z h
       ·cases put
        ·simp only[afG,aiz]at h;rw[afD.1 h];exact e
        ·simp at h
      ·rw[afD.1 h];exact i) h
    refine⟨c,?_⟩;cases put<;>simp only[aem,afO,amQ,af1,aiz,afG]at f⊢ <;>omega
   ·split at h
    ·obtain⟨c,f⟩:=FY ys _ put out a (by simp;omega) b ho h;exact⟨c,by simp only[afO];omega⟩
    ·split at h
     ·obtain⟨c,f⟩:=FY ys _ put out a (by simp;omega) b ho h;exact⟨c,by simp only[afO];omega⟩
     ·cases h
def as8{x:aD}(h:ld x=true):1<=x.2/\x.1+x.2<=64:=by
 unfold ld at h;grind
def as9{l a:List aD}{x:aD}(b: ∀y∈l,y.1+y.2<=64)(h:iT l x=some a): (∀y∈a,y.1+y.2<=64)/\a.length<=l.length+1:=by
 unfold iT at h;split at h
 ·rename_i hm;have:=FY l x false [] a (as8 hm).2 b (by simp) h
  grind
 grind
theorem Lv: ∀ (a b all:List aD),mH all (a++b)=(mH all a).bind λm=>mH m b
 | [],b,all=>rfl
 |x::a,b,all=>by
  simp only[ahn,mH];cases iT all x with
  |none=>rfl
  |some m=>exact Lv a b m
def ata{l:List aD}{k:Nat}(h:k<l.length)(a:List aD):mH a (l.take (k+1))=(mH a (l.take k)).bind λm=>iT m (l.getD k default):=by
 rw[afP,adR h,Lv,afK,adR h];simp only[Option.toList_some,mH,ak7]
 grind
def atb{l:List aD}{k:Nat}{a:List aD}(h:mH a (l.take k)=none):mH a l=none:=by grind [List.take_append_drop,Lv]
def ahu(v:AV)(n:Nat)(l:List aD)(w:n<4294967296)(g:Rv v 2 (l.map aA))(s:RB l)(C:l.length<=65)(H:List ae)(lo:oN):
  D X0 (.fn (.func 244) [] []) [.agg [v,.int .i64 n]] ⟨H,lo⟩=some (.ret (.bool (pU l n)) ⟨H,lo⟩):=by
 refine aH Rq λN E=>?_
 have r:=Lu v n l g s;have B:=s.jb;simp only[go_sem,simprocAttr,Rq,E,g.bN];refine dP l.length (λk e H'=> ∃J A,H'=cat H (.box [v,.int .i64 n] none:: .box [ed A] none::J)/\mH [] (l.take k)=some A/\A.length<=k/\ (∀x∈A,x.1+x.2<=64)/\e 1= .ptr N 0/\e 3= .ptr (N+1) 0/\e 9=v/\e 10= .int .i64 l.length/\e 11= .int .i64 k) 0 (by omega) ?_ ?_
 ·simp only[go_sem,simprocAttr];exact⟨[],[],ft.symm,by simp[mH],by simp,by simp⟩
 rintro k I e H' ⟨J,A,rfl,t,F,o,e1,e3,y,q,p⟩ z w;have d: ∀a b,(cat H (a::b::J)).length=z:=λ_ _=>by rw[<-w,KV,KV];rfl
 simp(disch:=omega) only[bQ,go_sem,simprocAttr,afj,e1,y,q,p];refine⟨λh=>?_,λh=>?_⟩
 ·have f:k<l.length:=by omega
  have i:=s.2 _ (eo f);have j:=ag5 (ed A) A (mG A) ⟨by omega,o⟩ (l.getD k default) i.1 i.2;have c:=ata f [];rw[t]at c;simp only[aoM]at c;cases m:iT A (l.getD k default)with
  |none=>
   rw[m]at c;have u:pU l n=false:=by unfold pU;rw[atb c];rfl
   simp(disch:=first|omega|apply d) only[F1,go_sem,simprocAttr,g.ca,g.cD,h,d,e3,Lt,j,p7,m,u,SC]
  |some A'=>
   rw[m]at c;obtain⟨G,K⟩:=as9 o m;simp(disch:=first|omega|apply d) only[go_sem,simprocAttr,g.ca,g.cD,h,d,e1,e3,y,q,p,Lt,j,p7,m,SC];exact⟨f,_,A',Sx,c,by omega,G⟩
 ·obtain rfl:k=l.length:=by omega
  rw[afH]at t;have u:pU l n=decide (n<=aM l*32):=by unfold pU;rw[t];rfl
  simp(disch:=first|omega|apply d) only[F1,go_sem,simprocAttr,r];rw[u];exact dj (ag9 AV.bool (afS.2 (by omega))) rfl
def atc(a k:Nat)(e:a<4611686018427387904)(g:k<=3): (BitVec.ofInt 64 (a:Int)&&& ~~~ (BitVec.ofInt 64 ((2^k:Nat)-1:Int))).toNat=a/2^k*2^k:=by
 have e1:BitVec.ofInt 64 (a:Int)=BitVec.ofNat 64 a:=by simp
 have f:BitVec.ofInt 64 ((2^k:Nat)-1:Int)=BitVec.ofNat 64 (2^k-1):=by
  have: ((2^k:Nat)-1:Int)=((2^k-1:Nat):Int):=by
   have:=Nat.pow_pos (n:=k) (show 0<2 by omega);omega
  rw[this];simp
 rw[e1,f];apply Nat.eq_of_testBit_eq;intro i;rw[<-Nat.shiftLeft_eq,Nat.testBit_shiftLeft,Nat.testBit_div_two_pow,BitVec.testBit_toNat,BitVec.getLsbD_and,BitVec.getLsbD_not,BitVec.getLsbD_ofNat,BitVec.getLsbD_ofNat,Nat.testBit_two_pow_sub_one];by_cases b:i<64
 ·by_cases c:i<k
  ·simp[b,c];intro d;omega
  ·simp[b,c,show k<=i by omega,show i-k+k=i by omega]
 ·have:a.testBit i=false:=Nat.testBit_lt_two_pow (ai3 e (by
    have: (4611686018427387904:Nat)=2^62:=by decide
    rw[this];exact Nat.pow_le_pow_right (by omega) (by omega)))
  by_cases c:k<=i
  ·simp[b,c,show i-k+k=i by omega,this]
  ·simp[b,c]
def atd(f:a<4611686018427387904)(h: [1,2,4,8].contains b=true):dt .andNot (.int .i64 (a:Nat)) (.int .i64 ((b:Nat)-1))=some (.int .i64 (a/b*b:Nat)):=by
 have c: ∀k,k<=3->b=2^k->dt .andNot (.int .i64 (a:Nat)) (.int .i64 ((b:Nat)-1))=some (.int .i64 (a/b*b:Nat)):=by
  intro k d e;subst e;rw[Ox];have e3:=atc a k f d;have g: (BitVec.ofInt IntKind.i64.bits (a:Int)&&& ~~~ (BitVec.ofInt IntKind.i64.bits ((2^k:Nat)-1:Int))).toNat=a/2^k*2^k:=e3;rw[g];have i:a/2^k*2^k<=a:=Nat.div_mul_le_self a _;rw[wrap_i64 (by omega) (by omega)]
 have:b=1\/b=2\/b=4\/b=8:=by grind
 rcases this with e|e|e|e
 ·exact c 0 (by omega) e
 ·exact c 1 (by omega) e
 ·exact c 2 (by omega) e
 ·exact c 3 (by omega) e
def ate(h:isObj b a=true):1<=b/\b<=128/\ [1,2,4,8].contains a=true/\1<=a/\a<=8:=by
 unfold isObj at h
 grind
def xm(l:List aD)(n b a:Nat):AV:=.ay [.int .i64 ((hY l n b a).getD 0:Nat),.bool (hY l n b a).isSome]
def ahv(v:AV)(n:Nat)(l:List aD)(y:n<4294967296)(o:Rv v 2 (l.map aA))(j:RB l)(c b:Nat)(s:c<2147483648)(r:b<2147483648)(H:List ae)(lo:oN):
  D X0 (.fn (.func 278) [] []) [.agg [v,.int .i64 n],.int .i64 c,.int .i64 b] ⟨H,lo⟩=some (.ret (xm l n c b) ⟨H,lo⟩):=by
 refine aH Fv λN i=>?_
 have h:=Lu v n l o j;have p:=j.jb;have ho:=aht c b s r;cases d:isObj c b with
 |false=>
  have e:hY l n c b=none:=by unfold hY;rw[d];rfl
  simp only[F1,go_sem,simprocAttr,Fv,i,ho,d,xm,e]
 |true=>
  obtain⟨x,w,m,u,t⟩:=ate d;have g:D X0 (.fn (.func 307) [] [.ptr (N+1) 0]) [.int .i64 n] ⟨H++[.box [v,.int .i64 n] none,.box [.int .i64 b] none],none⟩=some (.ret (.int .i64 ((n+b-1)/b*b:Nat)) ⟨H++[.box [v,.int .i64 n] none,.box [.int .i64 b] none],none⟩):=by
   refine eY RT λM A=>?_
   have e1: (n:Int)+b-1=((n+b-1:Nat):Int):=by omega
   simp(disch:=omega) only[F1,go_sem,simprocAttr,RT,e1,atd (a:=n+b-1) (by omega) m]
  have z: (n+b-1)/b*b<=n+b-1:=Nat.div_mul_le_self _ _;have e:hY l n c b=if(n+b-1)/b*b+c<=aM l*32 then some ((n+b-1)/b*b)else none:=by unfold hY;rw[d];rfl
  generalize q: (n+b-1)/b*b=at' at*;by_cases k:at'+c<=aM l*32
  ·have f: ¬(at':Int)+c>aM l*32:=by omega
   rw[adV k]at e;simp(disch:=omega) only[F1,go_sem,simprocAttr,Fv,i,ho,d,g,h,f,xm,e]
  ·have f: (at':Int)+c>aM l*32:=by omega
   rw[ada k]at e;simp(disch:=omega) only[F1,go_sem,simprocAttr,Fv,i,ho,d,g,h,f,xm,e]
def vz(l:List aD)(n b c:Nat):Nat:=match hY l n b c with|some a=>a+b|none=>n
def ahw(v:AV)(n:Nat)(l:List aD)(k:n<4294967296)(f:Rv v 2 (l.map aA))(g:RB l)(c b:Nat)(o:c<2147483648)(m:b<2147483648)(H:List ae)(lo:oN):
  D X0 (.fn (.func 281) [] []) [.agg [v,.int .i64 n],.int .i64 c,.int .i64 b] ⟨H,lo⟩=some (.ret (.ay [.agg [v,.int .i64 (vz l n c b:Nat)],.int .i64 ((hY l n c b).getD 0:Nat),.bool (hY l n c b).isSome]) ⟨H,lo⟩):=by
 refine aH KA λN i=>?_
 have h:=ahv v n l k f g c b o m;have d:v.refs=0:=cK f (bB (λ_=>rfl) l);have j:=g.jb;cases e:hY l n c b with
 |none=>simp only[F1,go_sem,simprocAttr,KA,i,h,xm,e,vz,d]
 |some a=>
  have p:a<=20000000000000:=by
   unfold hY at e
   grind
  simp(disch:=omega) only[F1,go_sem,simprocAttr,KA,i,h,xm,e,vz,d,amS]
def atf(a b:Nat)(f:a<2147483648)(d:b<2147483648)(H:List ae)(lo:oN):
  D X0 (.fn (.func 276) [] []) [.int .i64 a,.int .i64 b] ⟨H,lo⟩=some (.ret (.ay [.int .i64 ((oz a b).getD 0:Nat),.bool (oz a b).isSome]) ⟨H,lo⟩):=by
 refine aH Kz λN g=>?_
 have ho:=aht a b f d;cases c:isObj a b with
 |false=>
  have e:oz a b=none:=by unfold oz;grind
  simp(disch:=omega) only[F1,go_sem,simprocAttr,Kz,ho,c,e]
 |true=>
  have e:oz a b=some ((a+31)/32):=by unfold oz;grind
  have e1: ((a:Int)+32-1).tdiv 32=(((a+31)/32:Nat):Int):=by
   rw[Int.tdiv_eq_ediv_of_nonneg (by omega)];omega
  simp(disch:=omega) only[F1,go_sem,simprocAttr,Kz,ho,c,e,e1]
def atg{H:List ae}{bytes:Nat}{ty:TypeId}{ys:List lA}(a:0<sz)(d: ∀el∈ys,el.length=sz)(b:ys≠[])(c:ys.length*bytes<=room):
  du ⟨H,lo⟩ ty sz bytes .aq ys=some (.ref H.length 0 sz 0 ys.length false,⟨H++[.row 0 sz ty ys],lo⟩):=by
 unfold du;rw[adV ⟨a,by grind⟩];rw[ada (by grind),adV c];rfl
def ath{H:List ae}{bytes:Nat}{ty:TypeId}{ys:List lA}(a:0<sz)(e: ∀el∈af,el.length=sz)(d: ∀el∈ys,el.length=sz)(b:ys≠[])(c: (af.length+ys.length)*bytes<=room):
  du ⟨H,lo⟩ ty sz bytes (.sl af true) ys=some (.ref H.length 0 sz 0 (af.length+ys.length) false,⟨H++[.row 0 sz ty (af++ys)],lo⟩):=by
 unfold du;rw[adV ⟨a,by grind⟩];simp only;rw[ada (by grind),adV ⟨c,by grind⟩];rfl
def Ci(v:AV):AV:=match v with
 |.sl af _=>.sl af true
 |v=>v
def ati(v:AV)(l:List aD)(d:Rv v 2 (l.map aA))(H:List ae)(lo:oN):
  D X0 (.fn (.func 308) [] []) [v] ⟨H,lo⟩=some (.ret (Ci v) ⟨H,lo⟩):=by
 refine aH KI λN i=>?_
 obtain⟨h,a,j⟩:=d ⟨[],none⟩;have f:=bB (g:=aA) (λ_=>rfl) l;cases v<;>simp only[]at h
 ·have b:gu 2 .aq none (some (.int .i64 0)) (some (.int .i64 0))=some .aq:=by rfl
  simp(disch:=omega) only[F1,go_sem,simprocAttr,KI,b,Ci]
 ·rename_i af c;simp only[Den.elems]at a;split at a
  ·cases a;have e:gu 2 (.sl (l.map aA) c) none (some (.int .i64 (l.length:Nat))) (some (.int .i64 (l.length:Nat)))=some (.sl (l.map aA) true):=by
    simp[gu,gr,lH,lI,aA];exact ael (by simp)
   simp(disch:=omega) only[F1,go_sem,simprocAttr,KI,e,aer,f,aep,Ci]
  grind
 ·simp[Den.elems]at a
def atj(v:AV)(n:Nat)(l:List aD)(k:Rv v 2 (l.map aA))(s:RB l)(r:aD)(H:List ae)(lo:oN):
  D X0 (.fn (.func 280) [] []) [.agg [v,.int .i64 n],.agg (aA r)] ⟨H,lo⟩=some (.ret (.agg [ed (l++[r]),.int .i64 (aM l*32:Nat)]) ⟨H,lo⟩):=by
 refine aH RJ λN m=>?_
 have p:=Lu v n l k s;have w:=s.jb;have y:=s.1;have u:v.refs=0:=cK k (bB (λ_=>rfl) l);have z:=ati v l k;obtain⟨id,j⟩: ∃id,(H++[ae.box [v,.int .i64 n] none,.box (aA r) none,.box [.aq,.int .i64 0] none]).length=id:=⟨_,rfl⟩;have t: ∀lo,du ⟨H++[ae.box [v,.int .i64 n] none,.box (aA r) none,.box [.aq,.int .i64 0] none],lo⟩ eL 2 16 (Ci v) [aA r]=some (.ref id 0 2 0 (l.length+1) false,⟨H++[ae.box [v,.int .i64 n] none,.box (aA r) none,.box [.aq,.int .i64 0] none]++[.row 0 2 eL (l.map aA++[aA r])],lo⟩):=by
  intro lo;obtain⟨A,b,B⟩:=k ⟨[],none⟩;rw[<-j];cases v<;>simp only[]at A
  ·simp only[Den.elems]at b;have:l=[]:=by
    have:=(akw b).symm;exact aqq.1 this
   subst this;rw[show Ci .aq= .aq from rfl,atg (by omega) (λel a=>by rw[afD.1 a];rfl) (by simp) (by simp[room])];rfl
  ·simp only[Den.elems]at b;split at b
   ·cases b;rw[show ∀c,Ci (.sl (l.map aA) c)= .sl (l.map aA) true fromλ_=>rfl,ath (by omega) (λel a=>by obtain⟨x,_,rfl⟩:=afJ.1 a;rfl) (λel a=>by rw[afD.1 a];rfl) (by simp) (by simp[room];omega)];simp
   ·cases b
  ·simp[Den.elems]at b
 have i:id=N+3:=by rw[<-j];simp[m]
 subst i;simp(disch:=omega) only[go_sem,simprocAttr,RJ,m,z,t,p];have q:en N (if N+1<=N then none else cL none (N+2)):=by rw[ada (by omega)];exact .inr ⟨N+2,by omega,rfl⟩
 have f:aT N (H++[ae.box [v,AV.int IntKind.i64 ↑n] none,ae.box (aA r) none,ae.box [AV.ref (N+3) 0 2 0 (l.length+1) false,AV.int IntKind.i64 (↑(aM l)*32)] none,ae.row 0 2 eL (List.map aA l++[aA r])]) (.ref (N+3) 0 2 0 (l.length+1) false) 2 eL (l.map aA++[aA r]):=by
  refine⟨λel a=>?_,.inr ⟨N+3,0,by omega,by simp,?_⟩⟩
  ·rcases aeq.1 a with h|h
   ·obtain⟨x,_,rfl⟩:=afJ.1 h;rfl
   ·rw[afD.1 h];rfl
  ·rw[bA m];rfl
 have o:bZ (l.map aA++[aA r])=0:=by
  have:=bB (g:=aA) (λ_=>rfl) (l++[r]);rwa[afI]at this
 rw[uP q (Fz.agg (d:=11) (ik.cons (Fz.mono (Fz.own (d:=0) f (by rw[o];omega)) (by omega)) (ik.cons (Fz.mono (Fz.low (d:=0) (v:=.int .i64 (↑(aM l)*32)) (by simp[AV.refs])) (by omega)) ik.nil)))];refine dj ?_ (kb m);have e:ed (l++[r])= .sl (l.map aA++[aA r]) false:=by
  unfold ed;have: (l++[r]).isEmpty=false:=by cases l<;>rfl
  rw[this];simp
 rw[e,Int.natCast_mul];rfl
def Lx(l:List aD)(x:Nat):AV:=.ay [.int .i64 ((ku l 0 x).getD 0:Nat),.bool (ku l 0 x).isSome]
theorem ahx(r:aD)(l:List aD)(b x:Nat):ku (r::l) b x=if b<=x/\x<b+r.2*32 then some (r.1*32+x-b)else ku l (b+r.2*32) x:=rfl
def atk(v:AV)(n:Nat)(l:List aD)(T:Rv v 2 (l.map aA))(M:RB l)(x:Nat)(hx:x<1099511627776)(H:List ae)(lo:oN):
  D X0 (.fn (.func 215) [] []) [.agg [v,.int .i64 n],.int .i64 x] ⟨H,lo⟩=some (.ret (Lx l x) ⟨H,lo⟩):=by
 refine aH Rg λN F=>?_
 have K:v.refs=0:=cK T (bB (λ_=>rfl) l);have ha:=ahr v n K (N+4) (H++[.box [v,.int .i64 n] none,.box [.int .i64 x] none,.box [.int .i64 0] none,.box [.bool false] none]) (by simp[F]) none;simp only[go_sem,simprocAttr,Rg,F,ha];refine wv (S:=Nat×Bool) (λe=>e 3= .ptr (N+1) 0/\e 4= .ptr (N+2) 0/\e 5= .ptr (N+3) 0) (by simp only[go_sem,simprocAttr]) (xl l) F [.box [v,.int .i64 n] none] (λs=>[.box [v,.int .i64 n] none,.box [.int .i64 x] none,.box [.int .i64 (s.1:Nat)] none,.box [.bool s.2] none]) (nB:=4) (λ_=>rfl) (0,false)
  (λj s=>s=(0,false)/\ku l 0 x=ku (l.drop j) (32*aM (l.take j)) x) (λex s=>ex= .ret/\ku l 0 x=some s.1/\s.2=true) rfl ?_ (by simp) ⟨rfl,by simp[aM]⟩ (λex s h=>?_) ?_ ?_ ?_
 ·exact ahs v n l T M (N+4)
 ·exact⟨.ret,by rw[h.1];rfl,by rw[h.1];rfl,by rw[h.1];rfl⟩
 ·rintro e ⟨e3,I,G⟩ j y s J ⟨rfl,d⟩;have C:j<l.length:=by
   have:=(ac9.1 J).1;rwa[FX]at this
  rw[Tv C]at J;cases J;have uO:=M.2 _ (eo C);have hpg:=M.bd j;have A:=Ls C;have m:l.drop j=l.getD j default::l.drop (j+1):=by
   rw[an1 C,afK,adR C];rfl
  rw[m,ahx]at d;generalize hrg:l.getD j default=r at*;refine⟨rfl,λW n' hn hnl w=>?_⟩;simp only[go_sem,simprocAttr,ie,hn,Lt];refine⟨[.box (aA r) none],rfl,λR q E=>?_⟩;simp only[eD,eC,alc,afM,Nat.reduceAdd]at E;obtain⟨w0,w1,k,u⟩:=E;have f1: ∀L,(R++L)[N+1]?=some (.box [.int .i64 x] none):=λL=>bc w1
  have f2: ∀L,(R++L)[N+2]?=some (.box [.int .i64 (0:Nat)] none):=λL=>bc k
  have f3: ∀L,(R++L)[N+3]?=some (.box [.bool false] none):=λL=>bc u
  by_cases X:32*aM (l.take j)<=x
  ·have g: (x:Int)>=((32*aM (l.take j):Nat):Int):=by omega
   by_cases V:x<32*aM (l.take j)+r.2*32
   ·have t: (x:Int)< ((32*aM (l.take j):Nat):Int)+r.2*32:=by omega
    rw[adV ⟨X,V⟩]at d;have z: (r.1:Int)*32+x- ((32*aM (l.take j):Nat):Int)=((r.1*32+x-32*aM (l.take j):Nat):Int):=by omega
    simp(disch:=omega) only[go_sem,simprocAttr,Kr,e3,I,G,f1,f2,f3,q,g,t,z,Il];refine⟨(r.1*32+x-32*aM (l.take j),true),?_,by omega,λi U B=>?_,d,rfl⟩
    ·simp only[eD,eC,alc,afM,Nat.reduceAdd];refine⟨?_,?_,?_,?_⟩
     ·rw[acK (by omega),acK (by omega)];exact bc w0
     ·rw[acK (by omega),acK (by omega)];exact f1 _
     ·rw[acK (by omega),aeo (by simp;omega)]
     ·rw[aeo (by simp;omega)]
    ·rw[acK (by omega),acK (by omega),ac7 (by omega)]
   ·have t: ¬(x:Int)< ((32*aM (l.take j):Nat):Int)+r.2*32:=by omega
    rw[ada (λh=>V h.2)]at d;simp(disch:=omega) only[go_sem,simprocAttr,Kr,e3,f1,q,g,t,oc];refine⟨(0,false),?_,by omega,λi U B=>ac7 (by omega),rfl,?_⟩
    ·simp only[eD,eC,alc,afM,Nat.reduceAdd];exact⟨bc w0,f1 _,f2 _,f3 _⟩
    ·rw[d,A,Nat.mul_add,Nat.mul_comm 32 r.2]
  ·have g: ¬(x:Int)>=((32*aM (l.take j):Nat):Int):=by omega
   rw[ada (λh=>X h.1)]at d;simp only[go_sem,simprocAttr,Kr,e3,f1,q,g,oc];refine⟨(0,false),?_,by omega,λi U B=>ac7 (by omega),rfl,?_⟩
   ·simp only[eD,eC,alc,afM,Nat.reduceAdd];exact⟨bc w0,f1 _,f2 _,f3 _⟩
   ·rw[d,A,Nat.mul_add,Nat.mul_comm 32 r.2]
 ·rintro e ⟨e3,I,G⟩ s W p hp ⟨rfl,d⟩ f w Q;simp only[eD,eC,alc,afM,Nat.reduceAdd]at w;obtain⟨w0,w1,k,u⟩:=w;rw[FX,List.drop_length]at d;have e0:ku l 0 x=none:=d;have O: ∀a b c,(((W.set (N+2) a).set (N+3) b).set p c).take N=H:=λa b c=>(((f.set (by omega)).set (by omega)).set (by omega)).take F
  have s2:=cO (o:=.box [.int .i64 0] none) k;have Y: ∀a b,((W.set (N+2) a).set (N+3) b)[N+3]?=some b:=λa b=>aeo (by rw[afL];exact dU u)
  have s2: ∀a b,((W.set (N+2) a).set (N+3) b)[N+2]?=some a:=λa b=>by rw[acK (by omega)];exact cO k
  simp(disch:=omega) only[F1,go_sem,simprocAttr,I,G,k,u,Q,lu,O,s2,Y,Lx,e0]
 ·rintro e ⟨e3,I,G⟩ ex s W p hp ⟨rfl,d,Z⟩ f w Q;simp only[eD,eC,alc,afM,Nat.reduceAdd]at w;obtain⟨w0,w1,k,u⟩:=w;have P: ∀o,(W.set p o).take N=H:=λo=>(f.set (by omega)).take F
  simp(disch:=omega) only[F1,go_sem,simprocAttr,I,G,k,u,Q,lu,P];refine dj ?_ rfl;unfold Lx;rw[d,Z];rfl
def Tw(t:aw)(M:bS t)(T:bY t)(a b:Nat)(R:a<4294967296)(J:b<4294967296)(H:List ae)(lo:oN):
  D X0 (.fn (.func 313) [] []) [.agg (aO t),.int .u32 a,.int .u32 b] ⟨H,lo⟩=some (.ret (.bool (kq t a b)) ⟨H,lo⟩):=by
 refine aH FB λN q=>?_
 have A: ∀h,au t.b h=t.au h:=λh=>rfl
 have f:=eH t.b a R;have g:=eH t.b b J;simp only[A]at f g;cases y:t.au a
 ·rw[y]at f;simp only[F1,go_sem,simprocAttr,FB,q,f,kq,y,ahj]
 ·rw[y]at f;cases z:t.au b
  ·rw[z]at g;simp only[F1,go_sem,simprocAttr,FB,q,f,g,kq,y,z,ahj,aqZ]
  ·rw[z]at g;have F:=Th t b (N+3) (H++[.box (aO t) none,.box [.int .u32 a] none,.box [.bool (decide ((a:Int)=b))] none]) (by simp[q]) none;simp only[go_sem,simprocAttr,FB,q,f,g,F];have E:decide ((a:Int)=(b:Int))=decide (a=b):=afS.2 (by omega);refine wv (S:=Bool) (λe=>e 4= .ptr (N+1) 0/\e 7= .ptr (N+2) 0) (by simp only[go_sem,simprocAttr]) (nw t b) q [.box (aO t) none,.box [.int .u32 b] none] (λs=>[.box (aO t) none,.box [.int .u32 a] none,.box [.bool s] none]) (nB:=3) (λ_=>rfl) (decide ((a:Int)=b)) (λj s=>s=(decide (a=b)|| ((aU t b).take j).contains a)) (λ_ _=>False) rfl ?_ (by simp) (by simp[E]) (λ_ _ h=>h.elim) ?_ ?_ ?_
   ·exact Ti t M T b J (N+3)
   ·rintro e ⟨G,e7⟩ j x s L V;obtain⟨u,rfl,hu⟩:=Tl L;refine⟨rfl,λW n Z P B=>?_⟩;simp only[go_sem,simprocAttr,ie];refine⟨[],by simp,λK l w=>?_⟩;simp only[eD,eC,alc,afM,Nat.reduceAdd]at w;obtain⟨w0,w1,m⟩:=w;have d: (decide (a=b)|| ((aU t b).take (j+1)).contains a)=(s||decide ((u:Int)=a)):=by
     rw[V,afP,hu];have:decide ((u:Int)=a)=decide (a=u):=afS.2 (by omega);rw[this];by_cases Y:a=b<;>by_cases X:a=u<;>simp[Y,X]
    have k: ∀s',(K.set (N+2) (.box [.bool s'] none)).length=n->il (K.set (N+2) (.box [.bool s'] none)) N 0 [.box (aO t) none,.box [.int .u32 a] none,.box [.bool s'] none]:=λs' hl=>by
     simp only[eD,eC,alc,afM,Nat.reduceAdd];exact⟨by rw[acK (by omega)];exact w0,by rw[acK (by omega)];exact w1,cO m⟩
    cases s
    ·by_cases c: (u:Int)=a
     ·simp only[go_sem,simprocAttr,KM,G,e7,w1,m,afZ,oc,c];exact⟨_,k _ (by rw[afL];exact l),λi I v=>acK (by omega),by rw[d];simp[c]⟩
     ·simp only[go_sem,simprocAttr,KM,G,e7,w1,m,afZ,oc,c];exact⟨_,k _ (by rw[afL];exact l),λi I v=>acK (by omega),by rw[d];simp[c]⟩
    ·simp only[go_sem,simprocAttr,KM,e7,m,afZ,oc];exact⟨_,k _ (by rw[afL];exact l),λi I v=>acK (by omega),by rw[d];simp⟩
   ·rintro e ⟨G,e7⟩ s W p O rfl r B Q;simp only[eD,eC,alc,afM,Nat.reduceAdd]at B;obtain⟨w0,w1,m⟩:=B;have C: ∀o,(W.set p o).take N=H:=λo=>(r.set (by omega)).take q
    simp only[F1,go_sem,simprocAttr,e7,m,Q,lu,C];rw[Tm,afH];refine dj (ag9 _ ?_) rfl;unfold kq;rw[y,z];rfl
   ·rintro e he ex s W p O U;exact U.elim
def ua(t:aw)(h:Nat)(r:dm):AV:=.ay [.agg (aO (fN t h r).1),.int .i64 (fN t h r).2]
def Tx(t:aw)(u:bS t)(h:Nat)(o:h<4294967296)(r:dm)(q:RB r.runs)(s:r.runs.length<=65)(k:r.len<4294967296)(H:List ae)(lo:oN):
  D X0 (.fn (.func 309) [] []) [.agg (aO t),.int .u32 h,.agg (bR r)] ⟨H,lo⟩=some (.ret (ua t h r) ⟨H,lo⟩):=by
 refine aH BY λN i=>?_
 have n:=zE h;have l: (aP h:Int)<32:=by omega
 have p:iX h= .ay [.int .i64 (aP h:Nat),.bool (eN h).isSome]:=rfl;have a:=eH t.b h o;have m:au t.b h=t.au h:=rfl;simp only[m]at a;have hm:=ahu (ed r.runs) r.len r.runs k (mG _) q s;have d:fN t h r=if t.au h=false then(t,4)else if 64<r.dn\/pU r.runs r.len=false then(t,2)else({t with r:=av t.r (aP h) {r with up:=(t.r (aP h)).up}},0):=rfl
 cases g:t.au h with
 |false=>
  rw[g]at a;have e:fN t h r=(t,4):=by rw[d,adV g]
  simp only[F1,go_sem,simprocAttr,BY,i,a,cU,ua,e]
 |true=>
  rw[g]at a;rw[ada (by rw[g];simp)]at d;have j:=zP r.dn;by_cases f:r.dn<=64
  ·have c:decide (r.dn<=64)=true:=ad0 f;cases b:pU r.runs r.len with
   |false=>
    rw[adV (.inr b)]at d;simp only[F1,go_sem,simprocAttr,BY,i,a,cU,j,c,hm,b,ua,d]
   |true=>
    rw[ada (by rw[b];simp;omega)]at d;simp only[F1,go_sem,simprocAttr,BY,i,a,cU,j,c,hm,b,ua,d,jY h o,p,l,SH n,arE,K1 n];omega
  ·have c:decide (r.dn<=64)=false:=adZ f;rw[adV (.inl (by omega))]at d;simp only[F1,go_sem,simprocAttr,BY,i,a,cU,j,c,ua,d]
def vA(t:aw)(h u:Nat):AV:=.ay [.agg (aO (jU t h u).1),.int .i64 (jU t h u).2]
def ahA(t:aw)(Z:bS t)(hT:bY t)(h w:Nat)(S:h<4294967296)(Y:w<4294967296)(H:List ae)(lo:oN):
  D X0 (.fn (.func 315) [] []) [.agg (aO t),.int .u32 h,.int .u32 w] ⟨H,lo⟩=some (.ret (vA t h w) ⟨H,lo⟩):=by
 refine aH BZ λN F=>?_
 have X:=zE h;have B: (aP h:Int)<32:=by omega
 have W:iX h= .ay [.int .i64 (aP h:Nat),.bool (eN h).isSome]:=rfl;have b:=eH t.b h S;have g:=eH t.b w Y;have T: ∀h,au t.b h=t.au h:=λh=>rfl
 simp only[T]at b g;have j:jU t h w=if t.au h=false\/ (w≠0/\t.au w=false)then(t,4)else if w≠0/\h∈w::aU t w then(t,12)else({t with r:=av t.r (aP h) {t.r (aP h)with up:=w}},0):=rfl
 cases E:t.au h with
 |false=>
  rw[E]at b;rw[adV (.inl E)]at j;simp only[F1,go_sem,simprocAttr,BZ,F,b,cU,vA,j]
 |true=>
  rw[E]at b;by_cases c:w≠0/\t.au w=false
  ·rw[adV (.inr c)]at j;rw[c.2]at g;have y: ¬(w:Int)=0:=by omega
   simp only[F1,go_sem,simprocAttr,BZ,F,b,g,y,cU,vA,j]
  ·rw[ada (by rw[E];simpa using c)]at j;have i:w=0\/ (¬(w:Int)=0/\t.au w=true):=by
    by_cases l:w=0
    ·exact .inl l
    ·refine .inr ⟨by omega,?_⟩;cases I:t.au w
     ·exact absurd ⟨l,I⟩ c
     ·rfl
   obtain⟨L,V⟩: ∃L,L=if w=0 then[]else w::aU t w:=⟨_,rfl⟩
   have o: (w≠0/\h∈w::aU t w)↔h∈L:=by
    rw[V];by_cases l:w=0
    ·simp[l]
    ·rw[ada l];exact⟨λq=>q.2,λq=>⟨l,q⟩⟩
   have key: ∀Q:bW,(∀e:Env,e 1= .int .u32 h->e 2= .int .u32 w->e 3= .ptr N 0->e 6= .ptr (N+1) 0->h∉L->Q (.exit 0) ⟨e,[]⟩ ⟨H++[.box (aO t) none,.box kS none],none⟩)->
     (∀e:Env,e 6= .ptr (N+1) 0->e 7= .int .i64 12->h∈L->Q .ret ⟨e,[]⟩ ⟨H++[.box (aO t) none,.box (aO t) none],none⟩)->
     ∀e:Env,e 1= .int .u32 h/\e 2= .int .u32 w/\e 3= .ptr N 0/\e 6= .ptr (N+1) 0/\e 8= .int .u32 w->wp X0 315 false (PC.loop FC) ⟨e,[]⟩ ⟨H++[.box (aO t) none,.box kS none],none⟩ Q:=by
    rintro Q I hr e ⟨e1,p,e3,e6,e8⟩;refine dP L.length (λk e H'=>H'=H++[.box (aO t) none,.box kS none]/\e 1= .int .u32 h/\e 2= .int .u32 w/\e 3= .ptr N 0/\e 6= .ptr (N+1) 0/\ ∃x,e 8= .int .u32 (x:Nat)/\ (if x=0 then[]else x::aU t x)=L.drop k/\ (x≠0->t.au x=true)/\h∉L.take k) 0 (by omega) ?_ ?_
    ·refine⟨rfl,e1,p,e3,e6,w,e8,by rw[V];simp,λl=>?_,by simp⟩;rcases i with rfl|q
     ·exact absurd rfl l
     ·exact q.2
    rintro k hk e H' ⟨rfl,e1,p,e3,e6,x,e8,z,m,a⟩ n hn;by_cases s:x=0
    ·subst s;have P:L.take k=L:=by
      have:=ag9 List.length z;rw[adV rfl,ams]at this;exact ael (by simp at this;omega)
     rw[P]at a;simp only[go_sem,simprocAttr,FC,e8];exact I _ (by simp only[go_sem,simprocAttr,e1]) (by simp only[go_sem,simprocAttr,p]) (by simp only[go_sem,simprocAttr,e3]) (by simp only[go_sem,simprocAttr,e6]) a
    ·have A: ¬(x:Int)=0:=by omega
     have m:=m s;rw[ada s]at z;have O:k<L.length:=by
      have:=ag9 List.length z;rw[ams,afO]at this;omega
     have M:L.take (k+1)=L.take k++[x]:=by
      rw[afP];have:L[k]?=(L.drop k)[0]?:=by rw[ali];rfl
      rw[this,<-z];rfl
     by_cases G:x=h
     ·have f: (x:Int)=h:=by omega
      have d:h∈L:=by
       rw[<-al5 k L,<-z,G];simp
      have R: ¬(h:Int)=0:=by omega
      simp(disch:=omega) only[go_sem,simprocAttr,FC,e1,e3,e6,e8,f,R,cU];exact hr _ (by simp only[go_sem,simprocAttr,e6]) (by simp only[go_sem,simprocAttr]) d
     ·have f: ¬(x:Int)=h:=by omega
      have J:=agS t Z x (fC m);have v:bn t x=iz t (aP x):=by unfold bn;rw[adV m]
      have U:=oy hT x;simp(disch:=omega) only[go_sem,simprocAttr,FC,e1,p,e3,e6,e8,A,f,J];refine⟨O,iz t (aP x),rfl,?_,λl=>?_,?_⟩
      ·rw[<-v,<-apf,<-z,ap7,amu,U]
      ·exact(FK (by rw[v];exact l)).1 ▸ (by rw[v])
      ·rw[M];simp[a];omega
   rcases i with rfl| ⟨y,C⟩
   ·rw[ada (by simp)]at j;simp only[go_sem,simprocAttr,BZ,F,b];refine key _ ?_ ?_ _ (by simp only[go_sem,simprocAttr])
    ·intro e e1 p e3 e6 _;have K:aK (aO t) (96+aP h*12) [.int .u32 0]=aO {t with r:=av t.r (aP h) {t.r (aP h)with up:=0}}:=agj (u:=0) X;simp(disch:=omega) only[F1,go_sem,simprocAttr,e1,p,e3,e6,jY h S,W,B,K,cU,vA,j];omega
    ·intro e e6 e7 d;rw[V]at d;simp at d
   ·rw[C]at g;simp only[go_sem,simprocAttr,BZ,F,b,g,y];refine key _ ?_ ?_ _ (by simp only[go_sem,simprocAttr])
    ·intro e e1 p e3 e6 a;rw[ada (λq=>a (o.1 q))]at j;simp(disch:=omega) only[F1,go_sem,simprocAttr,e1,p,e3,e6,jY h S,W,B,agj X,cU,vA,j];omega
    ·intro e e6 e7 d;rw[adV (o.2 d)]at j;simp(disch:=omega) only[F1,go_sem,simprocAttr,e6,e7,vA,j]
def zZ(t:aw)(a n:Nat):AV:=.ay [.agg (aO (fu t a n).1),.int .u32 (fu t a n).2.1,.int .i64 (fu t a n).2.2]
def atl(t:aw)(k:bS t)(m:bY t)(a n:Nat)(j:a<4294967296)(H:List ae)(lo:oN):
  D X0 (.fn (.func 273) [] []) [.agg (aO t),.int .u32 a,.int .i64 n] ⟨H,lo⟩=some (.ret (zZ t a n) ⟨H,lo⟩):=by
 refine aH zn λN f=>?_
 have e:=ar5 t k a n j;have g:=Lm t k m a j;have d:fu t a n=if((lg t a n).2.2=0\/ (lg t a n).2.2=7)/\6<=depth t a then(t,0,8)else lg t a n:=rfl
 by_cases i: (lg t a n).2.2=0\/ (lg t a n).2.2=7
 ·by_cases l:6<=depth t a
  ·rw[adV ⟨i,l⟩]at d;have b: (depth t a:Int)>=6:=by omega
   rcases i with c|c
   ·simp only[F1,go_sem,simprocAttr,zn,f,e,zQ,c,g,b,cU,zZ,d]
   ·simp only[F1,go_sem,simprocAttr,zn,f,e,zQ,c,g,b,cU,zZ,d]
  ·rw[ada (λh=>l h.2)]at d;have b: ¬(depth t a:Int)>=6:=by omega
   rcases i with c|c
   ·simp only[F1,go_sem,simprocAttr,zn,f,e,zQ,c,g,b,cU,zZ,d]
   ·simp only[F1,go_sem,simprocAttr,zn,f,e,zQ,c,g,b,cU,zZ,d]
 ·rw[ada (λh=>i h.1)]at d;have p: ¬((lg t a n).2.2:Int)=0:=by omega
  have o: ¬((lg t a n).2.2:Int)=7:=by omega
  simp only[F1,go_sem,simprocAttr,zn,f,e,zQ,p,o,cU,zZ,d]
theorem ahB:Ext X4 X where
 dJ:=rfl
 fU:=rfl
 code:=rfl
 b8:=λf=>by
  show(if f=46 then some mf else if f=19 then some mg else if f=179 then some p9 else if f=158 then some rE else if f=156 then some xk else if f=108 then some zW else if f=73 then some Ch else none)=(if f=46 then some mf else if f=19 then some mg else if f=179 then some p9 else if f=158 then some rE else none)\/_;by_cases i:f=46
  ·grind
  by_cases h:f=19
  ·grind
  by_cases d:f=179
  ·grind
  by_cases c:f=158
  ·grind
  by_cases j:kL.contains f=true
  ·right
   refine⟨?_,?_⟩
   ·show(if f=46 then some mf else if f=19 then some mg else if f=179 then some p9 else if f=158 then some rE else none)=none
    grind
   ·show(if kL.contains f then none else zp.lookup f)=none
    grind
  ·left
   have a:kL.contains f=false:=by grind
   have e: ∀g,kL.contains g=true->f≠g:=λg b=>iE a b
   simp only[ada i,ada h,ada d,ada c,ada (e 156 rfl),ada (e 108 rfl),ada (e 73 rfl)]
theorem Ty: ∀ {l:List aD},(∀x∈l,1<=x.2)->l.length<=aM l
 | [],_=>by simp
 |x::xs,h=>by
  have c:=h x (ai4 ..);have b:=Ty (l:=xs) λy a=>h y (afU _ a)
  simp only[aM,al0,List.sum_cons,afO]at b⊢;omega
def gg.rb{r:dm}(h:gg r):RB r.runs/\r.runs.length<=64:=by
 have c:=Ty λx a=>(h.runs x a).1
 have b:=h.aM;refine⟨⟨by omega,λx a=>?_⟩,by omega⟩;have:=h.runs x a;omega
def gg.Ly{r:dm}(h:gg r)(a:x<4294967296):gg {r with up:=x}:=⟨a,h.dn,h.len,h.cells,h.runs,h.aM⟩
def gg.setCells{r:dm}(h:gg r){f:Nat->Nat}(a: ∀i,f i<4294967296):gg {r with cells:=f}:=⟨h.up,h.dn,h.len,a,h.runs,h.aM⟩
def Cj:gg dq:=⟨by trivial,by trivial,by trivial,by simp[dq],by trivial,by trivial⟩
def bS.get{t:aw}(a:bS t)(h:Nat):gg (aN t h).1:=by
 unfold aN;split
 ·exact(a.r _).Ly agJ
 ·exact Cj
theorem bS.av{t:aw}(a:bS t){i:Nat}{r:dm}(b:gg r):bS {t with r:=av t.r i r}:=⟨a.b,λj=>by
 show gg (Go.Proofs.YtcdeobefbpnfeaaGreatDoor.av t.r i r j);by_cases e:j=i
 ·rw[e,ch];exact b
 ·rw[cF e];exact a.r j⟩
def bS.set{t:aw}(a:bS t){r:dm}(b:gg r):bS (fN t h r).1:=by
 unfold fN;split
 ·omega
 ·split
  ·omega
  ·exact a.av (b.Ly (a.r _).up)
def bS.raise{t:aw}(a:bS t)(b:x<4294967296):bS (jU t h x).1:=by
 unfold jU;split
 ·omega
 ·split
  ·omega
  ·exact a.av ((a.r _).Ly b)
def iG(t a:aw):Prop:=a.b=t.b/\ ∀i,(a.r i).up=(t.r i).up
theorem iG.refl(t:aw):iG t t:=⟨rfl,λ_=>rfl⟩
theorem iG.trans{a b c:aw}(e:iG a b)(d:iG b c):iG a c:=⟨d.1.trans e.1,λi=>(d.2 i).trans (e.2 i)⟩
theorem iG.au{t a:aw}(h:iG t a)(x:Nat):a.au x=t.au x:=by unfold aw.au;rw[h.1]
theorem iG.bn{t a:aw}(h:iG t a)(x:Nat):bn a x=Go.Proofs.YtcdeobefbpnfeaaGreatDoor.bn t x:=by
 unfold Go.Proofs.YtcdeobefbpnfeaaGreatDoor.bn iz;simp only[h.au,h.2]
theorem iG.eG{t a:aw}(h:iG t a): ∀n x,eG a n x=Go.Proofs.YtcdeobefbpnfeaaGreatDoor.eG t n x
 |0,_=>rfl
 |n+1,x=>by simp only[Go.Proofs.YtcdeobefbpnfeaaGreatDoor.eG,h.bn,h.eG n]
theorem iG.aU{t a:aw}(h:iG t a)(x:Nat):aU a x=Go.Proofs.YtcdeobefbpnfeaaGreatDoor.aU t x:=h.eG 32 x
def iG.tree{t a:aw}(h:iG t a)(b:bY t):bY a:=λx=>by rw[h.aU];exact b x
def iG.set(t:aw)(h:Nat)(r:dm):iG t (fN t h r).1:=by
 unfold fN;split
 ·exact .refl t
 ·split
  ·exact .refl t
  ·refine⟨rfl,λi=>?_⟩;show(av t.r (aP h) _ i).up=_;by_cases e:i=aP h
   ·rw[e,ch]
   ·rw[cF e]
def atm{t:aw}(c:bY t)(a:x∈cP t h):dep t h<=dep t x:=by
 have key: ∀n h,x∈iB t n h->dep t h<=dep t x:=by
  intro n
  induction n with
  |zero=>intro h a;rw[iB,afD]at a;grind
  |succ n b=>
   intro h a;rcases ag6.1 a with rfl|a
   ·simp
   ·grind [B8]
 exact key 32 h a
def Tz{t:aw}(a:t.au h=true):depth t h=1+dep t h:=by unfold depth;rw[adV a];rfl
def atn{t0 t:aw}(a:bS t)(h x:Nat):bS (zA t0 h t x):=by
 refine a.set (gg.setCells (a.get x) λi=>?_);have:=(a.get x).cells i
 grind
def ato(t0 t:aw)(h x:Nat):iG t (zA t0 h t x):=iG.set _ _ _
def xn(t0:aw)(h:Nat)(t:aw)(l:lN):aw:=l.foldl (zA t0 h) t
def TA{t0 t:aw}(a:bS t)(h:Nat): ∀l,bS (xn t0 h t l):=by
 intro l
 induction l generalizing t with
 |nil=>exact a
 |cons x xs b=>exact b (atn a h x)
theorem Lz(t0:aw)(h:Nat): ∀ (l:lN) (t:aw),iG t (xn t0 h t l)
 | [],t=>.refl t
 |x::xs,t=>(ato t0 t h x).trans (Lz t0 h xs _)
def atp{t0 t:aw}{l:lN}{k:Nat}(a:l[k]?=some x):xn t0 h t (l.take (k+1))=zA t0 h (xn t0 h t (l.take k)) x:=by
 unfold xn;rw[afP,a,al2];rfl
theorem LA(t:aw)(h:Nat):iU t h=if t.au h=false then(t,4)else jU (xn t h t (cP t h)) h 0:=rfl
def ahC{t:aw}{x:lA}(a: (rG t h)[j]?=some x): ∃y,x=[.int .u32 (y:Nat)]/\ (cP t h)[j]?=some y:=by
 unfold rG at a;rw[afW,afE]at a;obtain⟨y,b,rfl⟩:=a;exact⟨y,rfl,b⟩
def atq{t:aw}(a:bY t)(h:Nat):depth t h<=6:=by
 unfold depth;split
 ·have:=a h;omega
 ·omega
theorem ahD{f:Nat->Nat}{c:Nat}: ∀ (l:lN) (s:Nat),(∀x∈l,f x<=c)->s<=c->l.foldl (λn x=>max n (f x)) s<=c
 | [],s,_,a=>a
 |x::xs,s,d,a=>ahD xs _ (λy b=>d y (afU _ b)) (by grind)
def atr{t:aw}(a:bY t)(h:Nat):sO t h<=7:=by
 exact ahD (f:=λx=>depth t x-depth t h+1) _ _ (λx _=>by have:=atq a x;omega) (by omega)
def ats(t:aw)(m:bS t)(k:bY t)(h:Nat)(a:t.au h=true)(H:List ae)(lo:oN):
  D X (.fn (.func 314) [] []) [.agg (aO t),.int .u32 h] ⟨H,lo⟩=some (.ret (.int .i64 (sO t h:Nat)) ⟨H,lo⟩):=by
 refine aH RW λN q=>?_
 have K:=up dy (Tp t h (N+3) (H++[.box (aO t) none,.box [.int .u32 h] none,.box [.int .i64 0] none]) (by simp[q]) none);simp only[go_sem,simprocAttr,RW,q,K];refine wv (S:=Nat) (λe=>e 2= .ptr N 0/\e 3= .ptr (N+1) 0/\e 5= .ptr (N+2) 0) (by simp only[go_sem,simprocAttr]) (rG t h) q [.box (aO t) none,.box [.int .u32 h] none] (λs=>[.box (aO t) none,.box [.int .u32 h] none,.box [.int .i64 (s:Nat)] none]) (nB:=3) (λ_=>rfl) 0
  (λj s=>s=((cP t h).take j).foldl (λn x=>max n (depth t x-depth t h+1)) 0/\s<=100) (λ_ _=>False) rfl ?_ (by simp) ⟨rfl,by omega⟩ (λ_ _ h=>h.elim) ?_ ?_ ?_
 ·exact Tr ahB t m k h a (N+3)
 ·rintro e ⟨A,e3,w⟩ j x s B ⟨E,C⟩;obtain⟨y,rfl,z⟩:=ahC B;have c:y∈cP t h:=ak8 z;have f:=zF m.b a c;have I:=atm k c;have M:=k y;have U:=Tz f;have T:=Tz a;have R:dep t y<=5:=M;have b:=λH lo=>up dy (Lm t m k y (fC f) H lo)
  have v:=λH lo=>up dy (Lm t m k h (fC a) H lo)
  refine⟨rfl,λW n P F u=>?_⟩;simp only[go_sem,simprocAttr,ie];refine⟨[],by simp,λV L g=>?_⟩;simp only[eD,eC,alc,afM,Nat.reduceAdd]at g;obtain⟨w0,w1,l⟩:=g;have r:max (s:Int) ((depth t y:Int)-depth t h+1)=((max s (depth t y-depth t h+1):Nat):Int):=by omega
  simp(disch:=omega) only[go_sem,simprocAttr,afv,A,e3,w,w0,w1,l,b,v,Oz,Oy,r,oc];refine⟨max s (depth t y-depth t h+1),?_,λi Q G=>acK (by omega),?_,?_⟩
  ·simp only[eD,eC,alc,afM,Nat.reduceAdd];exact⟨by rw[acK (by omega)];exact w0,by rw[acK (by omega)];exact w1,cO l⟩
  ·rw[afP,z,al2,<-E];rfl
  ·omega
 ·rintro e ⟨A,e3,w⟩ s W p O ⟨rfl,_⟩ d u J;simp only[eD,eC,alc,afM,Nat.reduceAdd]at u;obtain⟨w0,w1,l⟩:=u;have b: ∀o,(W.set p o).take N=H:=λo=>(d.set (by omega)).take q
  simp only[F1,go_sem,simprocAttr,w,l,J,lu,b];rw[Tq,afH];rfl
 grind
def xo(t:aw)(h w:Nat):AV:=.ay [.agg (aO (ox t h w).1),.int .i64 (ox t h w).2]
def att(t:aw)(k:bS t)(f:bY t)(h w:Nat)(q:h<4294967296)(p:w<4294967296)(H:List ae)(lo:oN):
  D X (.fn (.func 287) [] []) [.agg (aO t),.int .u32 h,.int .u32 w] ⟨H,lo⟩=some (.ret (xo t h w) ⟨H,lo⟩):=by
 refine aH wP λN i=>?_
 have a:=λH lo=>up dy (eH t.b h q H lo)
 have b:=λH lo=>up dy (eH t.b w p H lo)
 have v: ∀h,au t.b h=t.au h:=λh=>rfl
 simp only[v]at a b;have c:ox t h w=if t.au h=false\/t.au w=false then(t,4)else if root t h≠h\/kq t h w then(t,12)else if 6<depth t w+sO t h then(t,8)else jU t h w:=rfl
 have d:=λH lo=>up dy (zV t k f h q H lo)
 have e:=λH lo=>up dy (Tw t k f h w q p H lo)
 have l:=λH lo=>up dy (Lm t k f w p H lo)
 have u:=λH lo=>up dy (ahA t k f h w q p H lo)
 cases n:t.au h with
 |false=>
  rw[n]at a;rw[adV (.inl n)]at c;simp only[F1,go_sem,simprocAttr,wP,i,a,cU,xo,c]
 |true=>
  rw[n]at a;have j:=ats t k f h n;cases m:t.au w with
  |false=>
   rw[m]at b;rw[adV (.inr m)]at c;simp only[F1,go_sem,simprocAttr,wP,i,a,b,cU,xo,c]
  |true=>
   rw[m]at b;rw[ada (by rw[n,m];simp)]at c;by_cases s:root t h=h
   ·have o: ((root t h:Nat):Int)=(h:Nat):=by omega
    cases r:kq t h w with
    |true=>
     rw[adV (.inr r)]at c;rw[r]at e;rw[s]at d;simp only[F1,go_sem,simprocAttr,wP,i,a,b,d,e,cU,xo,c]
    |false=>
     rw[ada (by rw[r];simp[s])]at c;rw[r]at e;rw[s]at d;have y:sO t h<=7:=atr f h;have z:depth t w<=100:=by
      have:=f w;rw[Tz m];show 1+(aU t w).length<=100;omega
     by_cases x:6<depth t w+sO t h
     ·have g: (depth t w:Int)+sO t h>6:=by omega
      rw[adV x]at c;simp(disch:=omega) only[F1,go_sem,simprocAttr,wP,i,a,b,d,e,l,j,g,cU,xo,c]
     ·have g: ¬(depth t w:Int)+sO t h>6:=by omega
      rw[ada x]at c;simp(disch:=omega) only[F1,go_sem,simprocAttr,wP,i,a,b,d,e,l,j,g,u,vA,cU,xo,c]
   ·have o: ¬((root t h:Nat):Int)=(h:Nat):=by omega
    rw[adV (.inl s)]at c;simp only[F1,go_sem,simprocAttr,wP,i,a,b,d,o,cU,xo,c]
def vB(t:aw)(h c:Nat):Bool:=decide (c≠h)&&kq t c h
def atu(t:aw)(i:bS t)(l:bY t)(h c:Nat)(j:h<4294967296)(k:c<4294967296)(g f:Nat)(H:List ae)(b:H[f]?=some (.box (aO t) none))(a:H[g]?=some (.box [.int .u32 h] none))(lo:oN):
  D X (.fn (.func 340) [] [.ptr g 0,.ptr f 0]) [.int .u32 c] ⟨H,lo⟩=some (.ret (.bool (vB t h c)) ⟨H,lo⟩):=by
 refine eY KR λN n=>?_
 have d:=λH lo=>up dy (Tw t i l c h k j H lo)
 by_cases e:c=h
 ·simp(disch:=omega) only[F1,go_sem,simprocAttr,KR,a,vB,e,not_true,dF,ahj]
 ·have m: ¬(c:Int)=h:=by omega
  simp(disch:=omega) only[F1,go_sem,simprocAttr,KR,b,a,m,d,vB,e]
def ub(t:aw)(h:Nat)(f:Nat->Nat)(k:Nat):Nat->Nat:=λi=>if i<k/\vB t h (f i)=true then 0 else f i
theorem FZ{t:aw}{f:Nat->Nat}{k:Nat}:ub t h f k i=if i<k/\vB t h (f i)=true then 0 else f i:=rfl
def atv(t:aw)(h:Nat)(f:Nat->Nat)(k:Nat):ub t h f (k+1)=if vB t h (f k)=true then av (ub t h f k) k 0 else ub t h f k:=by
 funext i
 by_cases a:vB t h (f k)=true
 ·by_cases e:i=k
  ·simp_all[ch,FZ,adV]
  ·grind [cF,FZ]
 ·rw[ada a,FZ,FZ]
  grind
def atw(t:aw)(h:Nat)(r:dm):bR {r with cells:=ub t h r.cells 8}=bR {r with cells:=λi=>if r.cells i≠h/\kq t (r.cells i) h then 0 else r.cells i}:=by
 refine af8 (zs λi a=>?_);simp only[ub,vB,a,aza]
 grind
def LB(t:aw)(h:Nat):AV:=.ay [.agg (aO (iU t h).1),.int .i64 (iU t h).2]
def atx(t:aw)(I:bS t)(hT:bY t)(h:Nat)(hh:h<4294967296)(H:List ae)(lo:oN):
  D X (.fn (.func 312) [] []) [.agg (aO t),.int .u32 h] ⟨H,lo⟩=some (.ret (LB t h) ⟨H,lo⟩):=by
 refine aH KK λN U=>?_
 have q:=λH lo=>up dy (eH t.b h hh H lo)
 have hgg: ∀h,au t.b h=t.au h:=λh=>rfl
 simp only[hgg]at q;cases d:t.au h with
 |false=>
  rw[d]at q;have Z:iU t h=(t,4):=by rw[LA,adV d]
  simp only[F1,go_sem,simprocAttr,KK,U,q,cU,LB,Z]
 |true=>
  rw[d]at q;have Z:iU t h=jU (xn t h t (cP t h)) h 0:=by rw[LA,ada (by rw[d];simp)]
  have ha:=up dy (Tp t h (N+5) (H++[.box (aO t) none,.box [.int .u32 h] none,.box kS none,.box [.fn (.func 340) [] [.ptr (N+1) 0,.ptr N 0]] none,.box (aO t) none]) (by simp[U]) none);have hmx:max (N+1+1) (N+1)<=N+3+1:=by omega
  simp only[go_sem,simprocAttr,KK,U,q,cU,ha,hmx];refine wv (S:=aw) (λe=>e 3= .ptr (N+1) 0/\e 4= .ptr (N+2) 0/\e 6= .ptr (N+3) 0/\e 7= .ptr (N+4) 0) (by simp only[go_sem,simprocAttr]) (rG t h) U [.box (aO t) none,.box [.int .u32 h] none] (λs=>[.box (aO t) none,.box [.int .u32 h] none,.box kS none,.box [.fn (.func 340) [] [.ptr (N+1) 0,.ptr N 0]] none,.box (aO s) none]) (nB:=5) (λ_=>rfl) t
   (λj s=>s=xn t h t ((cP t h).take j)) (λ_ _=>False) rfl ?_ (by simp) rfl (λ_ _ h=>h.elim) ?_ ?_ ?_
  ·exact Tr ahB t I hT h d (N+5)
  ·rintro e ⟨e3,e4,e6,e7⟩ j x s hx A;obtain⟨y,rfl,hy⟩:=ahC hx;have hym:y∈cP t h:=ak8 hy;have P:=zF I.b d hym;have J:=atp (t0:=t) (t:=t) (h:=h) hy;have b:bS s:=by rw[A];exact TA I h _
   rw[<-A]at J;have Q:=λH lo=>up dy (s6 s b y (fC P) H lo)
   have B:=b.get y;have c:zA t h s y=(fN s y {(aN s y).1 with cells:=λi=>if(aN s y).1.cells i≠h/\kq t ((aN s y).1.cells i) h then 0 else(aN s y).1.cells i}).1:=rfl;generalize hr: (aN s y).1=r at*;have g:gg {r with cells:=λi=>if r.cells i≠h/\kq t (r.cells i) h then 0 else r.cells i}:=gg.setCells B λi=>by
    have:=B.cells i;show(if _ then _ else _)<_;split<;>omega
   have K:=λH lo=>up dy (Tx s b y (fC P) _ g.rb.1 (by have:=g.rb.2;omega) (by have:=g.len;omega) H lo)
   refine⟨rfl,λW n hn hnl hg=>?_⟩;simp only[go_sem,simprocAttr,ie];refine⟨[],by simp,λG T R=>?_⟩;simp only[eD,eC,alc,afM,Nat.reduceAdd]at R;obtain⟨w0,w1,Y,w3,V⟩:=R;have f0: ∀L,(G++L)[N]?=_:=λL=>bc w0
   have f1: ∀L,(G++L)[N+1]?=_:=λL=>bc w1
   have f3: ∀L,(G++L)[N+3]?=_:=λL=>bc w3
   have f4: ∀L,(G++L)[N+4]?=_:=λL=>bc V
   have hpc:Den.part true 8 (bR r) 4=_:=K0 (r:=r);simp only[go_sem,simprocAttr,afu,e7,V,Q,me,hr,jI,T,hpc,afZ];refine dP 8 (λk C H'=>H'=G++[.box (bR {r with cells:=ub t h r.cells k}) none]/\C 6= .ptr (N+3) 0/\C 7= .ptr (N+4) 0/\C 8= .int .u32 y/\C 9= .ptr n 0/\C 33= .agg (arr 8 λi=>[.int .u32 (r.cells i)])/\C 34= .int .i64 k) 0 (by omega) ?_ ?_
   ·simp only[go_sem,simprocAttr,e6,e7];have:ub t h r.cells 0=r.cells:=by funext i;rw[FZ,ada (by omega)]
    rw[this]
   ·rintro k hk C H' ⟨rfl,a6,a7,a8,a9,F,E⟩ n' He;simp only[bQ,go_sem,simprocAttr,aft,a7,F,E];refine⟨λhc=>?_,λhc=>?_⟩
    ·have l:k<8:=by omega
     have w:qw false 8 1 (.agg (arr 8 λi=>[AV.int .u32 (r.cells i)])) (.int .i64 (k:Nat))=some (.int .u32 (r.cells k)):=
      Sw l (by have:=jF (ag:=false) (m:=1) (n:=8) (k:=1) (i:=k) (o:=0) (f:=λi=>[AV.int .u32 (r.cells i)]) (λ_=>rfl) l (by omega) (by omega);rw[afM]at this;rw[this];rfl)
     have v:=atu t I hT h (r.cells k) hh (B.cells k) (N+1) N (G++[.box (bR {r with cells:=ub t h r.cells k}) none]) (f0 _) (f1 _) none;have c:=atv t h r.cells k;cases ho:vB t h (r.cells k)
     ·rw[ho]at c v;rw[ada (by simp)]at c;simp(disch:=omega) only[go_sem,simprocAttr,a6,a7,a8,a9,F,E,w,f3,v];rw[c];exact⟨l,rfl⟩
     ·rw[ho]at c v;rw[adV rfl]at c;simp(disch:=omega) only[go_sem,simprocAttr,a6,a7,a8,a9,F,E,w,f3,v];have LC:=agk (r:={r with cells:=ub t h r.cells k}) (u:=0) l;rw[c];exact⟨by omega,by omega,l,ag9 (λz=>G++[ae.box z none]) LC⟩
    ·obtain rfl:k=8:=by omega
     have TB:=atw t h r;simp only[go_sem,simprocAttr,a7,a8,a9,f4,TB,K,ua,oc,T];have gJ:List.drop 480 (aO s)=[]:=ahl (by rw[iv];omega);rw[gJ,afZ];refine⟨zA t h s y,?_,by omega,λi hi Hs=>?_,J.symm⟩
     ·simp only[eD,eC,alc,afM,Nat.reduceAdd];refine⟨?_,?_,?_,?_,?_⟩
      ·rw[acK (by omega)];exact f0 _
      ·rw[acK (by omega)];exact f1 _
      ·rw[acK (by omega)];exact bc Y
      ·rw[acK (by omega)];exact f3 _
      ·rw[c];exact cO (f4 _)
     ·rw[acK (by omega),ac7 (by omega)]
  ·rintro e ⟨e3,e4,e6,e7⟩ s W p hp A O hg hd;simp only[eD,eC,alc,afM,Nat.reduceAdd]at hg;obtain⟨w0,w1,Y,w3,V⟩:=hg;rw[Tq,afH]at A;have b:bS s:=by rw[A];exact TA I h _
   have hsT:bY s:=by rw[A];exact(Lz t h _ t).tree hT
   have Ts:=λH lo=>up dy (ahA s b hsT h 0 hh (by omega) H lo)
   rw[<-A]at Z;have DI: ∀a o,((W.set (N+2) a).set p o).take N=H:=λa o=>((O.set (by omega)).set (by omega)).take U
   have M: ∀H lo,D X (.fn (.func 315) [] []) [.agg (aO s),.int .u32 h,.int .u32 0] ⟨H,lo⟩=some (.ret (vA s h 0) ⟨H,lo⟩):=Ts;simp(disch:=omega) only[F1,go_sem,simprocAttr,e3,e4,e7,w1,Y,V,M,vA,hd,lu,DI,cU,cO Y,LB,Z]
  ·rintro e he ex s W p hp hJ;exact hJ.elim
structure xp(x:Ow):Prop where
 kind:x.kind<256
 aa:x.aa<256
 hold:x.hold<256
structure fR(o:bI):Prop where
 root: ∀i,(o i).root<4294967296
 own: ∀i,xp (o i).own
def TC:xp vl:=⟨by trivial,by trivial,by trivial⟩
def fR.of{o:bI}(ho:fR o)(t:aw)(h:Nat):xp (bt o t h):=by
 unfold bt;split
 ·split
  ·exact ho.own _
  ·exact TC
 ·exact TC
def fR.LD{o:bI}(ho:fR o){t:aw}{r:Nat}{x:Ow}(b:r<4294967296)(a:xp x):fR (eZ o t r aa x).1:=by
 unfold eZ;split
 ·omega
 ·split
  ·omega
  ·split
   ·omega
   ·refine⟨λi=>?_,λi=>?_⟩
    ·show(av o (aP r) ⟨r,x⟩ i).root<_;by_cases e:i=aP r
     ·rw[e,ch];exact b
     ·rw[cF e];exact ho.root i
    ·show xp (av o (aP r) ⟨r,x⟩ i).own;by_cases e:i=aP r
     ·rw[e,ch];exact a
     ·rw[cF e];exact ho.own i
def z5(aa:Nat):gP aa<256:=by
 unfold gP;have:2^(aa % 8)<=2^7:=Nat.pow_le_pow_right (by omega) (by omega);omega
def aCJ(b:a<256): (BitVec.ofInt 8 (a:Int)).toNat=a:=by grind
def LF(d:a<256)(c:b<256):dt .and (.int .u8 (a:Nat)) (.int .u8 (b:Nat))=some (.int .u8 ((a&&&b:Nat):Int)):=by
 rw[DD];have e: (BitVec.ofInt IntKind.u8.bits (a:Int)&&&BitVec.ofInt IntKind.u8.bits (b:Int)).toNat=a&&&b:=by
  show(BitVec.ofInt 8 (a:Int)&&&BitVec.ofInt 8 (b:Int)).toNat=_
  grind
 have f:a&&&b<=a:=Nat.and_le_left;rw[e,wrap_u8 (by omega) (by omega)]
def atC(d:a<256)(c:b<256):dt .xor (.int .u8 (a:Nat)) (.int .u8 (b:Nat))=some (.int .u8 ((a^^^b:Nat):Int)):=by
 rw[Ov];have e: (BitVec.ofInt IntKind.u8.bits (a:Int)^^^BitVec.ofInt IntKind.u8.bits (b:Int)).toNat=a^^^b:=by
  show(BitVec.ofInt 8 (a:Int)^^^BitVec.ofInt 8 (b:Int)).toNat=_
  grind
 have f:a^^^b<2^8:=aAe (by omega) (by omega);rw[e,wrap_u8 (by omega) (by omega)]
theorem ahE{k:Nat}:x&&&2^k=0↔x.testBit k=false:=by
 constructor
 ·intro h;have: (x&&&2^k).testBit k=false:=by grind
  grind
 ·intro h;apply Nat.eq_of_testBit_eq
  grind
def ahF:decide (¬((x&&&gP aa:Nat):Int)=0)=mI x aa:=by
 unfold mI gP;cases h:x.testBit (aa % 8)
 ·rw[ahE.2 h];simp
 ·grind [ahE]
def TD(aa:Nat)(f:aa<4611686018427387904)(H:List ae)(lo:oN):D X0 (.fn (.func 106) [] []) [.int .i64 aa] ⟨H,lo⟩=some (.ret (.int .u8 (gP aa:Nat)) ⟨H,lo⟩):=by
 refine aH Qu λN h=>?_
 have e:dt .and (.int .i64 (aa:Nat)) (.int .i64 7)=some (.int .i64 ((aa % 8:Nat):Int)):=by
  rw[DD];have e: (BitVec.ofInt IntKind.i64.bits (aa:Int)&&&BitVec.ofInt IntKind.i64.bits 7).toNat=aa % 8:=by
   show(BitVec.ofInt 64 (aa:Int)&&&BitVec.ofInt 64 7).toNat=_;have c: (BitVec.ofInt 64 (aa:Int)).toNat=aa:=by grind
   have b: (BitVec.ofInt 64 7).toNat=2^3-1:=by rfl
   rw[BitVec.toNat_and,c,b,aAR]
  rw[e,wrap_i64 (by omega) (by omega)]
 have g:=z5 aa;have d:kN .shl (.int .u8 1) (.int .i64 ((aa % 8:Nat):Int))=some (.int .u8 (gP aa:Nat)):=by
  rw[A1,adV (by omega)];have: (1:Int)*2^(min ((aa % 8:Nat):Int).toNat IntKind.u8.bits)=(gP aa:Nat):=by
   have a:IntKind.u8.bits=8:=rfl;rw[a,aAM,aqk (by omega),Int.one_mul];unfold gP;simp
  rw[this,wrap_u8 (by omega) (by omega)]
 simp(disch:=omega) only[F1,go_sem,simprocAttr,Qu,e,d]
def z6(o:bI)(ho:fR o)(t:aw)(p:bS t)(n:bY t)(h:Nat)(m:h<4294967296)(H:List ae)(lo:oN):
  D X0 (.fn (.func 20) [] []) [.agg (cN o),.agg (aO t),.int .u32 h] ⟨H,lo⟩=some (.ret (.agg (jG (bt o t h))) ⟨H,lo⟩):=by
 refine aH EY λN k=>?_
 have a:=zV t p n h m;have b:=ast (h:=h) n m;have f:bt o t h=match eN (root t h)with|some i=>if(o i).root=root t h then(o i).own else vl|none=>vl:=rfl
 cases d:eN (root t h)with
 |none=>
  rw[d]at f;have e1:bt o t h=vl:=f;simp only[F1,go_sem,simprocAttr,EY,k,a,jY (root t h) b,iX,d,e1];rfl
 |some i=>
  rw[d]at f;have j:=af7 d;have e: (i:Int)<32:=by omega
  by_cases l: (o i).root=root t h
  ·have c: (((o i).root:Nat):Int)=(root t h:Nat):=by omega
   have e1:bt o t h=(o i).own:=by rw[f];exact adV l
   have g:jG (o i).own=[.int .u8 (o i).own.kind,.int .u8 (o i).own.aa,.int .u8 (o i).own.hold]:=rfl;simp only[F1,go_sem,simprocAttr,EY,k,a,jY (root t h) b,iX,d,e1,e,agn j,c,arF j,g]
  ·have c: ¬(((o i).root:Nat):Int)=(root t h:Nat):=by omega
   have e1:bt o t h=vl:=by rw[f];exact ada l
   simp only[F1,go_sem,simprocAttr,EY,k,a,jY (root t h) b,iX,d,e1,e,agn j,c];rfl
def lC(o:bI)(t:aw)(r aa:Nat)(x:Ow):AV:=.ay [.agg (cN (eZ o t r aa x).1),.int .i64 (eZ o t r aa x).2]
theorem atD:uS.length=128:=by rfl
theorem atE:List.drop 128 uS=[]:=by rfl
def gH:type_of% atD/\type_of% atE:=by decide
def F0(o:bI)(t:aw)(v:bS t)(A:bY t)(r:Nat)(k:r<4294967296)(aa:Nat)(u:aa<4611686018427387904)(x:Ow)(H:List ae)(lo:oN):
  D X0 (.fn (.func 316) [] []) [.agg (cN o),.agg (aO t),.int .u32 r,.int .i64 aa,.agg (jG x)] ⟨H,lo⟩=some (.ret (lC o t r aa x) ⟨H,lo⟩):=by
 refine aH B0 λN i=>?_
 have c:=zV t v A r k;have a:=eH t.b r k;have m: ∀h,au t.b h=t.au h:=λh=>rfl
 simp only[m]at a;have z:=zE r;have l: (aP r:Int)<32:=by omega
 have y:iX r= .ay [.int .i64 (aP r:Nat),.bool (eN r).isSome]:=rfl;have b:eZ o t r aa x=if t.au r=false then(o,4)else if root t r≠r then(o,12)else if 8<=aa then(o,2)else(av o (aP r) ⟨r,x⟩,0):=rfl
 have d:jG x=[.int .u8 x.kind,.int .u8 x.aa,.int .u8 x.hold]:=rfl;cases g:t.au r with
 |false=>
  rw[adV g]at b;rw[g]at a;simp only[F1,go_sem,simprocAttr,B0,i,a,lC,b,gH,d]
 |true=>
  rw[ada (by rw[g];simp)]at b;rw[g]at a;by_cases q:root t r=r
  ·rw[ada (by simpa using q)]at b;rw[q]at c;by_cases s:8<=aa
   ·rw[adV s]at b;have f: (aa:Int)>=8:=by omega
    have n: ¬(aa:Int)<0:=by omega
    simp only[F1,go_sem,simprocAttr,B0,i,a,c,f,n,lC,b,gH,d]
   ·rw[ada s]at b;have f: ¬(aa:Int)>=8:=by omega
    have n: ¬(aa:Int)<0:=by omega
    have e:=arG (w:=o) (x:=⟨r,x⟩) z;have j:sK ⟨r,x⟩=[.int .u32 r,.int .u8 x.kind,.int .u8 x.aa,.int .u8 x.hold]:=rfl;rw[j]at e;simp only[F1,go_sem,simprocAttr,B0,i,a,c,f,n,lC,b,gH,d,jY r k,y,l,e];omega
  ·rw[adV q]at b;have p: ¬((root t r:Nat):Int)=(r:Nat):=by omega
   simp only[F1,go_sem,simprocAttr,B0,i,a,c,p,lC,b,gH,d]
section
variable(o:bI)(t:aw)(ht:bS t)(hT:bY t)(r:Nat)(hr:r<4294967296)(aa:Nat)(oE:aa<256)(H:List ae)(lo:oN)
include ht hT hr oE
theorem atF:D X0 (.fn (.func 305) [] []) [.agg (cN o),.agg (aO t),.int .u32 r,.int .i64 aa] ⟨H,lo⟩=some (.ret (.ay [.agg (cN (ra o t r aa).1),.int .i64 (ra o t r aa).2]) ⟨H,lo⟩):=by
 refine aH RS λN c=>?_
 have b:=F0 o t ht hT r hr aa (by omega) ⟨1,aa % 256,0⟩;have a:jG ⟨1,aa % 256,0⟩=[.int .u8 1,.int .u8 aa,.int .u8 0]:=by rw[an2 oE];rfl
 rw[a]at b;have d:ra o t r aa=eZ o t r aa ⟨1,aa % 256,0⟩:=rfl;simp(disch:=omega) only[F1,go_sem,simprocAttr,RS,c,b,lC,gH,d]
theorem atG:D X0 (.fn (.func 288) [] []) [.agg (cN o),.agg (aO t),.int .u32 r,.int .i64 aa] ⟨H,lo⟩=some (.ret (.ay [.agg (cN (zD o t r aa).1),.int .i64 (zD o t r aa).2]) ⟨H,lo⟩):=by
 refine aH RN λN d=>?_
 have b:=F0 o t ht hT r hr aa (by omega) ⟨3,0,gP aa⟩;have a:jG ⟨3,0,gP aa⟩=[.int .u8 3,.int .u8 0,.int .u8 (gP aa)]:=rfl;rw[a]at b;have e:zD o t r aa=eZ o t r aa ⟨3,0,gP aa⟩:=rfl;have c:=TD aa (by omega);simp only[F1,go_sem,simprocAttr,RN,d,b,c,lC,gH,e]
end
def atH(o:bI)(t:aw)(ht:bS t)(hT:bY t)(r:Nat)(hr:r<4294967296)(H:List ae)(lo:oN):
  D X0 (.fn (.func 295) [] []) [.agg (cN o),.agg (aO t),.int .u32 r] ⟨H,lo⟩=some (.ret (.ay [.agg (cN (wZ o t r).1),.int .i64 (wZ o t r).2]) ⟨H,lo⟩):=by
 refine aH RQ λN b=>?_
 have a: ∀H lo,D X0 (.fn (.func 316) [] []) [.agg (cN o),.agg (aO t),.int .u32 r,.int .i64 0,.agg [.int .u8 2,.int .u8 0,.int .u8 0]] ⟨H,lo⟩=_:=F0 o t ht hT r hr 0 (by omega) ⟨2,0,0⟩;have c:wZ o t r=eZ o t r 0 ⟨2,0,0⟩:=rfl;simp only[F1,go_sem,simprocAttr,RQ,b,a,lC,gH,c]
theorem ahG{o:bI}:List.drop 128 (cN o)=[]:=by rfl
def qc(o:bI)(t:aw)(r aa:Nat)(hold:Bool):AV:=.ay [.agg (cN (c9 o t r aa hold).1),.int .u8 (c9 o t r aa hold).2.1,.int .i64 (c9 o t r aa hold).2.2]
def atI{o:bI}{t:aw}{r:Nat}{x y:Ow}(h: (eZ o t r aa x).2=0):eZ (eZ o t r aa x).1 t r aa y=eZ o t r aa y:=by
 unfold eZ at h⊢;split at h
 ·cases h
 ·simp_all[ada,sJ]
def atJ(o:bI)(t:aw)(r aa:Nat)(x:Ow): (eZ o t r aa x).2=if t.au r=false then 4 else if root t r≠r then 12 else if 8<=aa then 2 else 0:=by
 unfold eZ
 grind
def ahH(o:bI)(ho:fR o)(t:aw)(ht:bS t)(hT:bY t)(r:Nat)(hr:r<4294967296)(aa:Nat)(oE:aa<256)(hold:Bool)(H:List ae)(lo:oN):
  D X0 (.fn (.func 317) [] []) [.agg (cN o),.agg (aO t),.int .u32 r,.int .i64 aa,.bool hold] ⟨H,lo⟩=some (.ret (qc o t r aa hold) ⟨H,lo⟩):=by
 refine aH qW λN l=>?_
 have c:=z6 o ho t ht hT r hr;have k:=TD aa (by omega);have d:=zV t ht hT r hr;have b:=eH t.b r hr;have C: ∀h,au t.b h=t.au h:=λh=>rfl
 simp only[C]at b;have s:=ho.of t r;have g:c9 o t r aa hold=(let x:=bt o t r
  let e:=(eZ o t r aa x).2
  if e=4\/ (t.au r=true/\root t r≠r)then(o,0,e)
  else if x.kind≠3 then(o,0,12)
  else if e≠0 then(o,0,e)
  else if mI x.hold aa&&hold then(o,0,7)
  else if !mI x.hold aa&& !hold then(o,0,5)
  else((eZ o t r aa {x with hold:=x.hold^^^gP aa}).1,x.hold^^^gP aa,(eZ o t r aa {x with hold:=x.hold^^^gP aa}).2)):=rfl
 generalize G:bt o t r=x at*;have j:=F0 o t ht hT r hr aa (by omega) x;have a:=atJ o t r aa x;have B:jG x=[.int .u8 x.kind,.int .u8 x.aa,.int .u8 x.hold]:=rfl;have hand:=LF s.hold (z5 aa);have f:=ahF (x:=x.hold) (aa:=aa);rw[B]at j c;simp only at g;cases z:t.au r with
 |false=>
  rw[adV z]at a;rw[a,adV (.inl rfl)]at g;rw[z]at b;simp only[F1,go_sem,simprocAttr,qW,l,c,j,lC,a,k,hand,f,gH,qc,g]
 |true=>
  rw[ada (by rw[z];simp)]at a;rw[z]at b;by_cases q:root t r=r
  ·rw[ada (by simpa using q)]at a;rw[q]at d;by_cases E:x.kind=3
   ·have i:decide (¬(x.kind:Int)=3)=false:=adZ (by omega);by_cases A:8<=aa
    ·rw[adV A]at a;rw[a,ada (by simp[q]),ada (by simpa using E),adV (by omega)]at g;simp only[F1,go_sem,simprocAttr,qW,l,b,d,c,j,lC,a,k,hand,f,i,gH,qc,g]
    ·rw[ada A]at a;rw[a,ada (by simp[q]),ada (by simpa using E),ada (by omega)]at g;have p:=F0 (eZ o t r aa x).1 t ht hT r hr aa (by omega) {x with hold:=x.hold^^^gP aa};have v:jG {x with hold:=x.hold^^^gP aa}=[.int .u8 x.kind,.int .u8 x.aa,.int .u8 (x.hold^^^gP aa:Nat)]:=rfl;have u:=atI (y:={x with hold:=x.hold^^^gP aa}) a;have w: (N+1 !=N)=true:=by simp
     have m:=atC s.hold (z5 aa);rw[v]at p;cases n:mI x.hold aa<;>cases hold
     ·rw[n,ada (by simp),adV (by simp)]at g;simp only[F1,go_sem,simprocAttr,qW,l,b,d,c,j,lC,a,k,hand,f,n,i,gH,qc,g]
     ·rw[n,ada (by simp),ada (by simp)]at g;simp only[F1,go_sem,simprocAttr,qW,l,b,d,c,j,lC,a,k,hand,f,n,i,gH,qc,g,m,p,u,ahG,w,aqf]
     ·rw[n,ada (by simp),ada (by simp)]at g;simp only[F1,go_sem,simprocAttr,qW,l,b,d,c,j,lC,a,k,hand,f,n,i,gH,qc,g,m,p,u,ahG,w,aqf]
     ·rw[n,adV (by simp)]at g;simp only[F1,go_sem,simprocAttr,qW,l,b,d,c,j,lC,a,k,hand,f,n,i,gH,qc,g]
   ·have i: ¬(x.kind:Int)=3:=by omega
    rw[ada (by rw[a];simp[q];split<;>simp),adV E]at g;by_cases A:8<=aa
    ·rw[adV A]at a;simp only[F1,go_sem,simprocAttr,qW,l,b,d,c,j,lC,a,k,hand,f,i,gH,qc,g]
    ·rw[ada A]at a;simp only[F1,go_sem,simprocAttr,qW,l,b,d,c,j,lC,a,k,hand,f,i,gH,qc,g]
  ·rw[adV q]at a;have F: ¬((root t r:Nat):Int)=(r:Nat):=by omega
   rw[adV (.inr ⟨z,q⟩),a]at g;simp only[F1,go_sem,simprocAttr,qW,l,b,d,F,c,j,lC,a,k,hand,f,gH,qc,g]
def ahI(o:bI)(ho:fR o)(t:aw)(ht:bS t)(hT:bY t)(r:Nat)(hr:r<4294967296)(aa:Nat)(oE:aa<256)(H:List ae)(lo:oN):
  D X0 (.fn (.func 291) [] []) [.agg (cN o),.agg (aO t),.int .u32 r,.int .i64 aa] ⟨H,lo⟩=some (.ret (.ay [.agg (cN (c9 o t r aa true).1),.int .i64 (c9 o t r aa true).2.2]) ⟨H,lo⟩):=by
 refine aH RP λN b=>?_
 have a:=ahH o ho t ht hT r hr aa oE true;simp only[F1,go_sem,simprocAttr,RP,b,a,qc,gH]
def F2(x:Nat):Nat:=(Im.getD x 0).toNat
def atK: ∀x,x<256->(F2 x=0↔x=0):=by decide
def ahJ{o:bI}(ho:fR o){t:aw}{r:Nat}{hold:Bool}: (c9 o t r aa hold).2.1<256:=by
 unfold c9;simp only;split
 ·simp
 ·split
  ·simp
  ·split
   ·simp
   ·split
    ·simp
    ·split
     ·simp
     ·exact aAe (n:=8) (ho.of t r).hold (z5 aa)
def atL(o:bI)(ho:fR o)(t:aw)(ht:bS t)(hT:bY t)(r:Nat)(hr:r<4294967296)(aa:Nat)(oE:aa<256)(H:List ae)(lo:oN):
  D X0 (.fn (.func 318) [] []) [.agg (cN o),.agg (aO t),.int .u32 r,.int .i64 aa] ⟨H,lo⟩=some (.ret (.ay [.agg (cN (c9 o t r aa false).1),.int .i64 (F2 (c9 o t r aa false).2.1),.int .i64 (c9 o t r aa false).2.2]) ⟨H,lo⟩):=by
 refine aH RX λN b=>?_
 have e:=ahH o ho t ht hT r hr aa oE false;have c:=ahJ ho (t:=t) (r:=r) (aa:=aa) (hold:=false);have a: ∀H lo,D X0 (.fn (.func 341) [] []) [.int .u8 ((c9 o t r aa false).2.1:Nat)] ⟨H,lo⟩=some (.ret (.int .i64 (F2 (c9 o t r aa false).2.1:Nat)) ⟨H,lo⟩):=by
  intro H lo;generalize(c9 o t r aa false).2.1=x at*;refine aH Sf λN b=>?_
  have d:Im.length=256:=by rfl
  have f:=UInt8.toNat_lt (Im.getD x 0);simp(disch:=omega) only[F1,go_sem,simprocAttr,Sf,d];exact⟨by omega,rfl⟩
 simp only[F1,go_sem,simprocAttr,RX,b,e,qc,a,gH]
structure uc(x:Tok):Prop where
 aR:x.aR<4294967296
 jh:x.jh<256
 to:x.to<256
 aU:x.aU<4294967296
structure gR(k:br):Prop where
 b:hU k.b
 lt: ∀i,(k.b i).ea=true->i<16
 t: ∀i,uc (k.t i)
def ahK:uc K3:=⟨by trivial,by trivial,by trivial,by trivial⟩
def gR.get{k:br}(a:gR k)(h:Nat):uc (cn k h).1:=by
 unfold cn;split
 ·exact a.t _
 ·exact ahK
def gR.slot{k:br}(a:gR k)(b:au k.b h=true):aP h<16:=by
 obtain⟨_,e,_⟩:=vm b;exact a.lt _ (by rw[e])
def Ck(k:br)(j:gR k)(h:Nat)(f:h<4294967296)(H:List ae)(lo:oN):
  D X0 (.fn (.func 83) [] []) [.agg (b9 k),.int .u32 h] ⟨H,lo⟩=some (.ret (.ay [.agg (fL (cn k h).1),.int .i64 (cn k h).2]) ⟨H,lo⟩):=by
 refine aH JX λN g=>?_
 have a:=eH k.b h f;have i:iX h= .ay [.int .i64 (aP h:Nat),.bool (eN h).isSome]:=rfl;cases d:au k.b h with
 |false=>
  rw[d]at a;have e:cn k h=(K3,4):=by unfold cn;grind
  simp only[F1,go_sem,simprocAttr,JX,g,a,e];rfl
 |true=>
  rw[d]at a;have e:cn k h=(k.t (aP h),0):=by unfold cn;grind
  have l:=j.slot d;have c: (aP h:Int)<16:=by omega
  have b:fL (k.t (aP h))=[.int .u32 (k.t (aP h)).aR,.int .u8 (k.t (aP h)).jh,.int .u8 (k.t (aP h)).to,.bool (k.t (aP h)).mu,.int .u32 (k.t (aP h)).aU]:=rfl;simp only[F1,go_sem,simprocAttr,JX,g,a,e,jY h f,i,c,arI l,b]
def TE(k:br)(h:Nat)(d:h<4294967296)(H:List ae)(lo:oN):
  D X0 (.fn (.func 343) [] []) [.agg (b9 k),.int .u32 h] ⟨H,lo⟩=some (.ret (.bool (nh k h)) ⟨H,lo⟩):=by
 refine aH KT λN c=>?_
 have b:=eH k.b h d;by_cases e:h=0
 ·have a: (h:Int)=0:=by omega
  simp only[F1,go_sem,simprocAttr,KT,c,a,nh]
  grind
 ·have a: ¬(h:Int)=0:=by omega
  simp only[F1,go_sem,simprocAttr,KT,c,a,b,nh]
  grind
def ahL{N:Nat}{A A' P M:List ae}{ty:TypeId}(h:aT N (A++P) v sz ty af)(b:A'.length=A.length)(c:A.length<=N):aT N (A'++(P++M)) v sz ty af:=by
 obtain⟨a,d⟩:=h;refine⟨a,?_⟩
 grind
def vC(k:br)(p:Tok->Bool)(n:Nat):lN:=((a0 k.b).take n).filter λh=>p (cn k h).1
def atM{k:br}{p:Tok->Bool}(h:n< (a0 k.b).length):vC k p (n+1)=if p (cn k ((a0 k.b).getD n default)).1 then vC k p n++[(a0 k.b).getD n default]else vC k p n:=by
 unfold vC;rw[afP,adR h,aqe,getD_eq h]
 grind
def atN{k:br}{p:Tok->Bool}: (vC k p n).length<=n:=afY (ag7 _ _) (by grind)
def jK{S:Type}(k:br)(f:S->Tok->S)(s:S)(n:Nat):S:=((a0 k.b).take n).foldl (λs h=>f s (cn k h).1) s
def atO{S:Type}{k:br}{f:S->Tok->S}{s:S}(h:n< (a0 k.b).length):jK k f s (n+1)=f (jK k f s n) (cn k ((a0 k.b).getD n default)).1:=by
 unfold jK;rw[afP,adR h,al2,getD_eq h];rfl
def LH{S:Type}(k:br)(W:gR k)(fv:AV)(p:Tok->Bool)(f:S->Tok->S)(c:S)(N:Nat)(b:S->List ae)(r: ∀s,(b s).length=N)
  (hf: ∀s x L,uc x->D X fv [.agg (fL x)] ⟨b s++L,none⟩=some (.ret (.bool (p x)) ⟨b (f s x)++L,none⟩)) (lo:oN):
  ∃w,D X (.fn (.func 50) [] []) [.agg (b9 k),fv] ⟨b c,lo⟩=some (.ret w ⟨b (jK k f c (a0 k.b).length),lo⟩)/\Rv w 1 ((sP k p).map hC)/\w.refs=0:=by
 suffices hs: ∃V,D X (.fn (.func 50) [] []) [.agg (b9 k),fv] ⟨b c,lo⟩=some V/\ (λV=> ∃w,V=aX.ret w ⟨b (jK k f c (a0 k.b).length),lo⟩/\Rv w 1 ((sP k p).map hC)/\w.refs=0) V by
  obtain⟨V,h1,w,rfl,h2⟩:=hs;exact⟨w,h1,h2⟩
 refine cz P8 λM hM=>?_
 obtain rfl:M=N:=by rw[<-hM,r]
 obtain⟨v,J,e1,Y⟩:=Tn k.b W.b (M+1) (b c++[.box (b9 k) none]) (by simp[r]) none;have F:D X (.fn (.func 46) [] []) [.agg (bX k.b)] ⟨b c++[.box (b9 k) none],none⟩=some _:=qa (p:=mf) rfl e1;have g:=(jJ Y none).bN;have sa:=kr k.b;rw[adW]at F Y g;obtain⟨j,U⟩: ∃j,j=[ae.box (b9 k) none]++J:=⟨_,rfl⟩;have T: ∀s L,(b s++(j++L))[M]?=some (.box (b9 k) none):=λs L=>by rw[dv (r s),U];rfl
 rw[<-U]at F Y g;simp only[go_sem,simprocAttr,P8,hM,F,g];refine dP (a0 k.b).length (λn e H'=> ∃L,H'=b (jK k f c n)++(j++L)/\ (∃G,e 5=G/\aT (M+j.length) H' G 1 cb ((vC k p n).map hC))/\e 1=fv/\e 2= .ptr M 0/\e 12=v/\e 13= .int .i64 (a0 k.b).length/\e 14= .int .i64 n) 0 (by omega) ?_ ?_
 ·simp only[go_sem,simprocAttr];exact⟨[],by simp[jK],_,rfl,aT.aq⟩
 rintro n hn e H' ⟨L,rfl,⟨G,e5,i⟩,e1,A,E,C,B⟩ n' u;have R:=T (jK k f c n);simp only[bQ,go_sem,simprocAttr,aeJ,e5,E,C,B];refine⟨λhc=>?_,λhc=>?_⟩
 ·have l:n< (a0 k.b).length:=by omega
  have O:=eo l;have gy:=(fO W.b).1 O;have q:=atM (p:=p) l;have I:=atO (f:=f) (s:=c) l;have K:Rd ⟨b (jK k f c n)++(j++L),none⟩ v 1 ((a0 k.b).map hC):=jJ (ahL Y (by rw[r,r]) (by rw[r];omega)) none;have y:=λH lo=>up dy (Ck k W ((a0 k.b).getD n default) (fC gy) H lo)
  have Z:=W.get ((a0 k.b).getD n default);have m:=hf (jK k f c n) (cn k ((a0 k.b).getD n default)).1 (j++(L++[.box (fL (cn k ((a0 k.b).getD n default)).1) none])) Z;generalize hh: (a0 k.b).getD n default=h at*;generalize hx: (cn k h).1=x at*;have t:fL x=[.int .u32 x.aR,.int .u8 x.jh,.int .u8 x.to,.bool x.mu,.int .u32 x.aU]:=rfl;have r9:=atN (k:=k) (p:=p) (n:=n);have hA:=λ (a:Int)=>K.ca (k:=.i64) (a:=a)
  have hL:=K.cD (X:=X) (off:=0) (n:=1) (agg:=false) l;rw[hh,pH]at hL;have Q: ∀o,(b (jK k f c n)++(j++(L++[o])))[n']?=some o:=λo=>by rw[<-u,<-adW j,<-adW (b _)];simp
  have P: ∀o o',(b (jK k f c n)++(j++(L++[o]))).set n' o'=b (jK k f c n)++(j++(L++[o'])):=λo o'=>by
   have e: ∀o:ae,b (jK k f c n)++(j++(L++[o]))=(b (jK k f c n)++(j++L))++[o]:=λo=>by simp
   rw[e,e,<-u,aqd _ _ (aen _)];simp
  have d:aT (M+j.length) (b (f (jK k f c n) x)++(j++(L++[.box (fL x) none]))) G 1 cb ((vC k p n).map hC):=by
   have:=ahL (A':=b (f (jK k f c n) x)) (M:=[.box (fL x) none]) i (by rw[r,r]) (by rw[r];omega);rwa[adW]at this
  cases hp:p x
  ·rw[hp]at m q;rw[t]at m d;simp(disch:=omega) only[go_sem,simprocAttr,e1,A,e5,E,C,B,hA,hL,R,y,u,t,Q,P,m,adW,q,I];exact⟨by omega,l,_,rfl,G,rfl,d⟩
  ·rw[hp]at m q;rw[t]at m d;simp only[go_sem,simprocAttr,e1,A,e5,hA,hL,R,y,u,t,Q,P,m,adW];refine⟨by omega,o7 (H0:=b (f (jK k f c n) x)++j) (ys:=[[.int .u32 (h:Nat)]]) d ⟨_,adW _ _ _⟩ (by simp[r]) (by omega) (by intro el qB;rw[afD.1 qB];rfl) rfl (by unfold room;simp;omega) λv' H2 z yE=>?_⟩;obtain⟨L2,rfl⟩:=yE;simp(disch:=omega) only[go_sem,simprocAttr,e1,A,E,C,B];rw[adV rfl]at q;refine⟨l,L2,by rw[I],v',rfl,?_⟩;rw[q,afI];rwa[adW]at z
 ·obtain rfl:n=(a0 k.b).length:=by omega
  have ht:vC k p (a0 k.b).length=sP k p:=by unfold vC sP;rw[afH]
  rw[ht]at i;have h0:bZ ((sP k p).map hC)=0:=bB (λ_=>rfl) _;rw[aT.DJ (aT.le i (by omega)) (by omega)];refine⟨_,dj rfl (aog (r _)),i.o8,cK i.o8 h0⟩
theorem nA(x:Tok):fL x=[.int .u32 x.aR,.int .u8 x.jh,.int .u8 x.to,.bool x.mu,.int .u32 x.aU]:=rfl
theorem oF{N:Nat}{H:List ae}(h:v.refs=0):finish N lo v ⟨H,none⟩=(v,⟨H.take N,lo⟩):=iF (.inl rfl) (by omega)
def atP(aR:Nat)(x:Tok)(p:Nat)(H:List ae)(a:H[p]?=some (.box [.int .u32 (aR:Nat)] none))(lo:oN):
  D X (.fn (.func 346) [] [.ptr p 0]) [.agg (fL x)] ⟨H,lo⟩=some (.ret (.bool (decide (x.aR=aR))) ⟨H,lo⟩):=by
 refine eY Sh λN b=>?_
 have c: ∀L,(H++L)[p]?=_:=λL=>bc a
 simp only[F1,go_sem,simprocAttr,Sh,b,nA,c];exact dj (ag9 AV.bool (afS.2 (by omega))) rfl
def atQ(aa:Nat)(x:Tok)(a:uc x)(p:Nat)(H:List ae)(b:H[p]?=some (.box [.int .i64 (aa:Nat)] none))(lo:oN):
  D X (.fn (.func 51) [] [.ptr p 0]) [.agg (fL x)] ⟨H,lo⟩=some (.ret (.bool (decide (x.to=aa))) ⟨H,lo⟩):=by
 refine eY P9 λN c=>?_
 have d: ∀L,(H++L)[p]?=_:=λL=>bc b
 have:=a.to;simp(disch:=omega) only[F1,go_sem,simprocAttr,P9,c,nA,d];exact dj (ag9 AV.bool (afS.2 (by omega))) rfl
def TF(k:br)(hk:gR k)(aR:Nat)(H:List ae)(lo:oN):
  ∃w,D X (.fn (.func 336) [] []) [.agg (b9 k),.int .u32 aR] ⟨H,lo⟩=some (.ret w ⟨H,lo⟩)/\Rv w 1 ((ni k aR).map hC)/\w.refs=0:=by
 obtain⟨N,c⟩: ∃N,H.length=N:=⟨_,rfl⟩;obtain⟨w,e1,b,e3⟩:=LH (S:=Unit) k hk (.fn (.func 346) [] [.ptr (N+1) 0]) (λx=>decide (x.aR=aR)) (λs _=>s) () (N+2) (λ_=>H++[.box (b9 k) none,.box [.int .u32 aR] none]) (λ_=>by grind)
  (λs x L _=>atP aR x (N+1) _ (by grind) none) none
 refine⟨w,?_,b,e3⟩;refine aH Sb λM a=>?_
 obtain rfl:M=N:=by omega
 simp only[go_sem,simprocAttr,Sb,a,e1];rw[oF e3,kb a]
def ahM(k:br)(hk:gR k)(aa:Nat)(H:List ae)(lo:oN):
  ∃w,D X (.fn (.func 22) [] []) [.agg (b9 k),.int .i64 aa] ⟨H,lo⟩=some (.ret w ⟨H,lo⟩)/\Rv w 1 ((sR k aa).map hC)/\w.refs=0:=by
 obtain⟨N,d⟩: ∃N,H.length=N:=⟨_,rfl⟩;obtain⟨w,e1,c,e3⟩:=LH (S:=Unit) k hk (.fn (.func 51) [] [.ptr (N+1) 0]) (λx=>decide (x.to=aa)) (λs _=>s) () (N+2) (λ_=>H++[.box (b9 k) none,.box [.int .i64 aa] none]) (λ_=>by grind)
  (λs x L b=>atQ aa x b (N+1) _ (by grind) none) none
 refine⟨w,?_,c,e3⟩;refine aH PX λM a=>?_
 obtain rfl:M=N:=by omega
 simp only[go_sem,simprocAttr,PX,a,e1];rw[oF e3,kb a]
theorem ahN{α:Type}(q:α->Bool): ∀ (l:List α) (s:Bool),l.foldl (λs x=>s||q x) s=(s||l.any q)
 | [],s=>by simp
 |x::xs,s=>by rw[ayo,ahN q xs,List.any_cons,Bool.or_assoc]
def atS(k:br)(aR ab:Nat)(s:Bool)(x:Tok)(N:Nat)(H:List ae)(h:H.length=N)(L:List ae):
  D X (.fn (.func 348) [] [.ptr (N+1) 0,.ptr (N+2) 0,.ptr (N+3) 0]) [.agg (fL x)] ⟨H++[.box (b9 k) none,.box [.int .u32 aR] none,.box [.int .u32 ab] none,.box [.bool s] none]++L,none⟩=
    some (.ret (.bool (isRight aR ab x)) ⟨H++[.box (b9 k) none,.box [.int .u32 aR] none,.box [.int .u32 ab] none,.box [.bool (s|| (isRight aR ab x&&x.mu))] none]++L,none⟩):=by
 refine eY wT λM p=>?_
 rw[adW]at p⊢;have m:M=N+4+L.length:=by rw[<-p];simp[h];omega
 have g1: ∀a b c d f,(H++(a::b::c::d::f))[N+1]?=some b:=λa b c d f=>by rw[bA h];rfl
 have g2: ∀a b c d f,(H++(a::b::c::d::f))[N+2]?=some c:=λa b c d f=>by rw[bA h];rfl
 have j: ∀a b c d f,(H++(a::b::c::d::f))[N+3]?=some d:=λa b c d f=>by rw[bA h];rfl
 have gm: ∀a b c d o,(H++(a::b::c::d:: (L++[o])))[M]?=some o:=λa b c d o=>by
  have:H++(a::b::c::d:: (L++[o]))=(H++(a::b::c::d::L))++[o]:=by simp
  rw[this,show M=(H++(a::b::c::d::L)).length by rw[m,aem,h];simp only[afO];omega];simp
 have i: ∀a b c d f o,(H++(a::b::c::d::f)).set (N+3) o=H++(a::b::c::o::f):=λa b c d f o=>by rw[mZ h];rfl
 have tk: ∀a b c d o,(H++(a::b::c::d:: (L++[o]))).take M=H++(a::b::c::d::L):=λa b c d o=>by
  have:H++(a::b::c::d:: (L++[o]))=(H++(a::b::c::d::L))++[o]:=by simp
  rw[this];exact aog (by simp[h,m];omega)
 have q:isRight aR ab x=(decide (x.aR=aR)&&decide (x.aU=ab)):=rfl;rw[q];by_cases l:x.aR=aR
 ·have e: (x.aR:Int)=aR:=by omega
  by_cases n:x.aU=ab
  ·have g: (x.aU:Int)=ab:=by omega
   cases s
   ·simp only[F1,go_sem,simprocAttr,wT,nA,g1,g2,j,i,tk,e,g,adW,ahn,ahk];simp[l,n]
   ·simp only[F1,go_sem,simprocAttr,wT,nA,g1,g2,j,i,tk,e,g,adW,ahn,ahk];simp[l,n]
  ·have g: ¬(x.aU:Int)=ab:=by omega
   cases s
   ·simp only[F1,go_sem,simprocAttr,wT,nA,g1,g2,j,i,tk,e,g,adW,ahn,ahk];simp[l,n]
   ·simp only[F1,go_sem,simprocAttr,wT,nA,g1,g2,j,i,tk,e,g,adW,ahn,ahk];simp[l,n]
 ·have e: ¬(x.aR:Int)=aR:=by omega
  cases s
  ·simp only[F1,go_sem,simprocAttr,wT,nA,g1,j,i,tk,e,adW,ahn,ahk];simp[l]
  ·simp only[F1,go_sem,simprocAttr,wT,nA,g1,j,i,tk,e,adW,ahn,ahk];simp[l]
def TG(k:br)(hk:gR k)(aR ab:Nat)(H:List ae)(lo:oN):
  D X (.fn (.func 342) [] []) [.agg (b9 k),.int .u32 aR,.int .u32 ab] ⟨H,lo⟩=some (.ret (.ay [.int .i64 (B5 k aR ab:Nat),.bool (sQ k aR ab)]) ⟨H,lo⟩):=by
 obtain⟨N,a⟩: ∃N,H.length=N:=⟨_,rfl⟩;obtain⟨w,e1,c,e3⟩:=LH (S:=Bool) k hk (.fn (.func 348) [] [.ptr (N+1) 0,.ptr (N+2) 0,.ptr (N+3) 0]) (isRight aR ab) (λs x=>s|| (isRight aR ab x&&x.mu)) false (N+4)
  (λs=>H++[.box (b9 k) none,.box [.int .u32 aR] none,.box [.int .u32 ab] none,.box [.bool s] none]) (λ_=>by grind) (λs x L _=>atS k aR ab s x N H a L) none
 have hm:jK k (λs x=>s|| (isRight aR ab x&&x.mu)) false (a0 k.b).length=sQ k aR ab:=by
  unfold jK sQ;rw[afH,ahN (λh=>isRight aR ab (cn k h).1&& (cn k h).1.mu),aqw]
 rw[hm]at e1;refine aH Sg λM b=>?_
 obtain rfl:M=N:=by rw[<-b,a]
 simp only[F1,go_sem,simprocAttr,Sg,b,e1,c.bN];rfl
section
variable(k:br)(hk:gR k)(aR ab:Nat)(ha:ab<4294967296)(H:List ae)(lo:oN)
include hk ha
theorem ahO:D X (.fn (.func 330) [] []) [.agg (b9 k),.int .u32 aR,.int .u32 ab] ⟨H,lo⟩=some (.ret (.bool (w4 k aR ab)) ⟨H,lo⟩):=by
 refine aH KN λN e=>?_
 have d:=TG k hk aR ab;have b:=λH lo=>up dy (TE k ab ha H lo)
 have c:w4 k aR ab=(nh k ab&& !sQ k aR ab):=rfl;cases a:nh k ab
 ·rw[a]at b c;simp only[F1,go_sem,simprocAttr,KN,e,d,b,c,ahj]
 ·rw[a]at b c;simp only[F1,go_sem,simprocAttr,KN,e,d,b,c,al1]
theorem ahP:D X (.fn (.func 332) [] []) [.agg (b9 k),.int .u32 aR,.int .u32 ab] ⟨H,lo⟩=some (.ret (.bool (zG k aR ab)) ⟨H,lo⟩):=by
 refine aH KO λN e=>?_
 have d:=TG k hk aR ab;have b:=λH lo=>up dy (TE k ab ha H lo)
 have c:zG k aR ab=(nh k ab&&decide (B5 k aR ab=0)):=rfl;cases a:nh k ab
 ·rw[a]at b c;simp only[F1,go_sem,simprocAttr,KO,e,d,b,c,ahj]
 ·rw[a]at b c;simp only[F1,go_sem,simprocAttr,KO,e,d,b,c,al1];simp_all
end
section
set_option maxHeartbeats 2000000
def atT(k:br)(B:gR k)(x:Tok)(C:uc x)(H:List ae)(lo:oN):
  D X (.fn (.func 319) [] []) [.agg (b9 k),.agg (fL x)] ⟨H,lo⟩=some (.ret (.int .i64 (pV k x:Nat)) ⟨H,lo⟩):=by
 refine aH jT λN p=>?_
 have j:=TG k B x.aR x.aU;have m:=λH lo=>up dy (TE k x.aU C.aU H lo)
 have a:=λH lo=>up dy (Ck k B x.aU C.aU H lo)
 have E:=B.get x.aU;have b:pV k x=if nh k x.aU=false then 4
  else if 8<=x.jh\/8<=x.to\/x.jh=x.to\/x.aR=0 then 2
  else if x.aU≠0/\ ((cn k x.aU).1.aR≠x.aR\/ (cn k x.aU).1.to≠x.jh\/ (x.mu=true/\ (cn k x.aU).1.mu=false))then 12
  else if sQ k x.aR x.aU=true\/ (x.mu=true/\0<B5 k x.aR x.aU)then 5
  else 0:=rfl
 generalize hu: (cn k x.aU).1=w at*;generalize K:B5 k x.aR x.aU=n at*;have A:=nA w;have z:=nA x;rw[A]at a;rw[z];cases s:nh k x.aU with
 |false=>
  rw[adV s]at b;rw[s]at m;simp only[F1,go_sem,simprocAttr,jT,p,j,m,a,b]
 |true=>
  rw[ada (by rw[s];simp)]at b;rw[s]at m;by_cases J:8<=x.jh
  ·rw[adV (.inl J)]at b;have d: (x.jh:Int)>=8:=by omega
   simp only[F1,go_sem,simprocAttr,jT,p,j,m,a,b,d]
  ·have d: ¬(x.jh:Int)>=8:=by omega
   by_cases I:8<=x.to
   ·rw[adV (.inr (.inl I))]at b;have e: (x.to:Int)>=8:=by omega
    simp only[F1,go_sem,simprocAttr,jT,p,j,m,a,b,d,e]
   ·have e: ¬(x.to:Int)>=8:=by omega
    by_cases G:x.jh=x.to
    ·rw[adV (.inr (.inr (.inl G)))]at b;have f:decide ((x.jh:Int)=x.to)=true:=ad0 (by omega);simp only[F1,go_sem,simprocAttr,jT,p,j,m,a,b,d,e,f]
    ·have f: ¬(x.jh:Int)=x.to:=by omega
     by_cases F:x.aR=0
     ·rw[adV (.inr (.inr (.inr F)))]at b;have g:decide ((x.aR:Int)=0)=true:=ad0 (by omega);simp only[F1,go_sem,simprocAttr,jT,p,j,m,a,b,d,e,f,g]
     ·have g: ¬(x.aR:Int)=0:=by omega
      rw[ada (by omega)]at b;by_cases u:x.aU=0
      ·have i:decide (¬(x.aU:Int)=0)=false:=adZ (by omega);rw[ada (λh=>h.1 u)]at b;cases hm:sQ k x.aR x.aU
       ·rw[hm]at j b;cases r:x.mu
        ·rw[r,ada (by simp)]at b;simp only[F1,go_sem,simprocAttr,jT,p,j,m,a,b,d,e,f,g,i]
        ·rw[r]at b;by_cases c:0<n
         ·have t: (n:Int)>0:=by omega
          rw[adV (.inr ⟨rfl,c⟩)]at b;simp only[F1,go_sem,simprocAttr,jT,p,j,m,a,b,d,e,f,g,i,t]
         ·have t: ¬(n:Int)>0:=by omega
          rw[ada (by simp;omega)]at b;simp only[F1,go_sem,simprocAttr,jT,p,j,m,a,b,d,e,f,g,i,t]
       ·rw[hm]at j b;rw[adV (.inl rfl)]at b;simp only[F1,go_sem,simprocAttr,jT,p,j,m,a,b,d,e,f,g,i]
      ·have i: ¬(x.aU:Int)=0:=by omega
       by_cases y:w.aR=x.aR
       ·have l:decide (¬(w.aR:Int)=x.aR)=false:=adZ (by omega);by_cases v:w.to=x.jh
        ·have o:decide (¬(w.to:Int)=x.jh)=false:=adZ (by omega);cases r:x.mu
         ·rw[r,ada (by simp[y,v])]at b;cases hm:sQ k x.aR x.aU
          ·rw[hm,ada (by simp)]at b;rw[hm]at j;simp only[F1,go_sem,simprocAttr,jT,p,j,m,a,b,d,e,f,g,i,l,o]
          ·rw[hm]at j b;rw[adV (.inl rfl)]at b;simp only[F1,go_sem,simprocAttr,jT,p,j,m,a,b,d,e,f,g,i,l,o]
         ·cases q:w.mu
          ·rw[r,q,adV (by simp[u])]at b;simp only[F1,go_sem,simprocAttr,jT,p,j,m,a,b,d,e,f,g,i,l,o,q]
          ·rw[r,q,ada (by simp[y,v])]at b;cases hm:sQ k x.aR x.aU
           ·rw[hm]at j b;by_cases c:0<n
            ·have t: (n:Int)>0:=by omega
             rw[adV (.inr ⟨rfl,c⟩)]at b;simp only[F1,go_sem,simprocAttr,jT,p,j,m,a,b,d,e,f,g,i,l,o,q,t]
            ·have t: ¬(n:Int)>0:=by omega
             rw[ada (by simp;omega)]at b;simp only[F1,go_sem,simprocAttr,jT,p,j,m,a,b,d,e,f,g,i,l,o,q,t]
           ·rw[hm]at j b;rw[adV (.inl rfl)]at b;simp only[F1,go_sem,simprocAttr,jT,p,j,m,a,b,d,e,f,g,i,l,o,q]
        ·have o: ¬(w.to:Int)=x.jh:=by omega
         rw[adV ⟨u,.inr (.inl v)⟩]at b;simp only[F1,go_sem,simprocAttr,jT,p,j,m,a,b,d,e,f,g,i,l,o]
       ·have l: ¬(w.aR:Int)=x.aR:=by omega
        rw[adV ⟨u,.inl y⟩]at b;simp only[F1,go_sem,simprocAttr,jT,p,j,m,a,b,d,e,f,g,i,l]
end
theorem ahQ:sj.length=176:=by rfl
theorem ahR:List.drop 176 sj=[]:=by rfl
theorem ahS{k:br}:List.drop 176 (b9 k)=[]:=by rfl
def qd:type_of% ahQ/\type_of% ahR/\type_of% @ahS/\type_of% La/\type_of% Lb:=⟨ahQ,ahR,@ahS,La,Lb⟩
def atU(k:br)(q:gR k)(x:Tok)(w:uc x)(H:List ae)(lo:oN):
  D X (.fn (.func 293) [] []) [.agg (b9 k),.agg (fL x)] ⟨H,lo⟩=some (.ret (.ay [.agg (b9 (lh k x).1),.int .u32 (lh k x).2.1,.int .i64 (lh k x).2.2]) ⟨H,lo⟩):=by
 refine aH BX λN r=>?_
 have hm:=atT k q x w;have e:=λH lo=>up dy (agP k.b q.b H lo)
 have a:=nA x;have d:lh k x=if pV k x≠0 then(k,0,pV k x)
  else match ng k.b with
  |some i=>if i<16 then({b:=av k.b i {k.b i with ea:=true},t:=av k.t i x},c7 i (k.b i).gen,0)else(k,0,7)
  |none=>(k,0,7):=rfl
 by_cases c:pV k x=0
 ·rw[ada (by omega)]at d;have p:decide (¬(pV k x:Int)=0)=false:=adZ (by omega);cases j:ng k.b with
  |none=>
   rw[j]at d;simp only at d;have s:=λH lo=>up dy (jY 0 (by omega) H lo)
   have m: ∀H lo,D X (.fn (.func 47) [] []) [.int .u32 0] ⟨H,lo⟩=some (.ret (iX 0) ⟨H,lo⟩):=s;have u:iX 0= .ay [.int .i64 0,.bool false]:=rfl;rw[a]at hm;rw[a];simp only[F1,go_sem,simprocAttr,BX,r,hm,p,e,sZ,pR,j,m,u,qd,d]
  |some i=>
   rw[j]at d;simp only at d;obtain⟨n,A,z,y⟩:=re j;have v:eN (c7 i (k.b i).gen)=some i:=KX n (q.b i).1;have l:=λH lo=>up dy (jY (c7 i (k.b i).gen) (FI n (q.b i).1) H lo)
   by_cases h:i<16
   ·rw[adV h]at d;have f: ¬(i:Int)>=16:=by omega
    have o: (i:Int)<16:=by omega
    have g:=arJ (k:={k with b:=av k.b i {k.b i with ea:=true}}) (x:=x) h;rw[a]at hm g;rw[a];simp only[F1,go_sem,simprocAttr,BX,r,hm,p,e,sZ,pR,j,l,iX,v,f,o,qd,agp,g,d];exact⟨by simp,by omega⟩
   ·rw[ada h]at d;have f: (i:Int)>=16:=by omega
    rw[a]at hm;rw[a];simp only[F1,go_sem,simprocAttr,BX,r,hm,p,e,sZ,pR,j,l,iX,v,f,qd,d]
 ·rw[adV c]at d;have p: ¬(pV k x:Int)=0:=by omega
  rw[a]at hm;rw[a];simp only[F1,go_sem,simprocAttr,BX,r,hm,p,qd,d]
def ahT{k:br}(a:gR k): ∀l,gR (nj k l):=by
 intro l
 induction l generalizing k with
 |nil=>exact a
 |cons h l b=>
  refine b ⟨FJ a.b h,λi c=>?_,a.t⟩;refine a.lt i ?_;revert c;show((dS k.b h).1 i).ea=true->_;unfold dS;split
  ·show(av k.b (aP h) (pT (k.b (aP h))) i).ea=true->_;by_cases e:i=aP h
   ·rw[e,ch];unfold pT;grind
   ·rw[cF e];exact id
  grind
def atV{k:br}{l:lN}(h:n<l.length):nj k (l.take (n+1))={nj k (l.take n)with b:=(dS (nj k (l.take n)).b (l.getD n default)).1}:=by
 unfold nj;rw[afP,adR h,al2,getD_eq h];rfl
def ahU(k:br)(r:gR k)(w:AV)(l:lN)(H:List ae)(c:Rd ⟨H,none⟩ w 1 (l.map hC))(q: ∀h∈l,h<4294967296)(p:l.length<2^40)(lo:oN):
  D X (.fn (.func 323) [] []) [.agg (b9 k),w] ⟨H,lo⟩=some (.ret (.agg (b9 (nj k l))) ⟨H,lo⟩):=by
 refine aH R3 λN t=>?_
 have a: ∀L lo,fW ⟨H++L,lo⟩ .sl w=some (.int .i64 l.length):=λL lo=>(c.ext (L:=L) (ak:=lo)).bN
 simp only[go_sem,simprocAttr,R3,t,a];refine dP l.length (λn e H'=>H'=H++[.box (b9 (nj k (l.take n))) none,.box sj none]/\e 2= .ptr N 0/\e 4= .ptr (N+1) 0/\e 7=w/\e 8= .int .i64 l.length/\e 9= .int .i64 n) 0 (by omega) ?_ ?_
 ·trivial
 rintro n x e H' ⟨rfl,j,i,e7,e8,g⟩ v o;simp(disch:=omega) only[bQ,F1,go_sem,simprocAttr,afy,j,i,e7,e8,g];refine⟨λs=>?_,λs=>?_⟩
 ·have b:n<l.length:=by omega
  have f:=ahT r (l.take n);have m:=λH lo=>up dy (agQ (nj k (l.take n)).b f.b (l.getD n default) (q _ (eo b)) H lo)
  have d:=atV (k:=k) b;have u: ∀L lo,ck X ⟨H++L,lo⟩ false 1 (gA w n 0)=some (.int .u32 (l.getD n default:Nat)):=λL lo=>by rw[(c.ext (L:=L) (ak:=lo)).cD b,pH]
  simp(disch:=omega) only[go_sem,simprocAttr,c.ca,u,m,zO,agp,j,i,e7,e8,g];exact⟨by omega,b,by rw[d]⟩
 ·obtain rfl:n=l.length:=by omega
  rw[afH];simp only[go_sem,simprocAttr,qd]
def atW(k:br)(c:gR k)(a:Nat)(H:List ae)(lo:oN):
  D X (.fn (.func 310) [] []) [.agg (b9 k),.int .u32 a] ⟨H,lo⟩=some (.ret (.agg (b9 (K7 k a))) ⟨H,lo⟩):=by
 refine aH RU λN d=>?_
 obtain⟨w,e1,e,e3⟩:=TF k c a (H++[.box (b9 k) none,.box sj none]) none;have b:=λH lo=>ahU k c w (ni k a) H (e _) (λh hm=>fC ((fO c.b).1 (afR.1 hm).1)) (by have:=kr k.b;have: (ni k a).length<=_:=ag7 _ _;omega) lo
 have f:nj k (ni k a)=K7 k a:=rfl;simp only[F1,go_sem,simprocAttr,RU,d,e1,b,qd,f]
def nC(h:Nat):AV×AV:=(.int .u32 h,.bool true)
def mP(a:lN)(k:Nat):lN:=if k∈a then a else a++[k]
def ahV(a b:Nat):oT (.int .u32 a) (.int .u32 b)=some (decide (a=b)):=by
 have h:oT (.int .u32 (a:Nat)) (.int .u32 (b:Nat))=some ((a:Int)==(b:Int)):=rfl;rw[h]
 congr 1
 grind
theorem ahW(k:Nat): ∀b:lN,eg (.int .u32 k) (b.map nC)=some (if k∈b then some (.bool true)else none)
 | []=>rfl
 |a::b=>by
  simp only[al0,nC,eg,ahV];by_cases h:k=a
  ·grind
  ·simp only[h,axN,ag6,false_or];exact ahW k b
theorem ahX(k:Nat): ∀b:lN,lJ (.int .u32 k) (.bool true) (b.map nC)=some ((mP b k).map nC)
 | []=>rfl
 |a::b=>by
  simp only[al0,nC,lJ,ahV];unfold mP;by_cases h:k=a
  ·subst h;simp[nC]
  ·simp only[h,axN,ag6,false_or];rw[ahX k b];unfold mP;split<;>rfl
def atX{gm:Nat->Option (List (AV×AV))}{H:List ae}{id:Nat}{a:lN}(h:H[id]?=some (.map (a.map nC)))(k:Nat):jv gm ⟨H,lo⟩ .int (.bool false) (.mp id) (.int .u32 k) false=some (.bool (a.contains k)):=by
 unfold jv;rw[adV (show kG .int (.int .u32 (k:Nat))=true from rfl)];simp only[mapOf,h,ahW]
 grind
def atY{H:List ae}{id:Nat}{a:lN}(h:H[id]?=some (.map (a.map nC)))(k:Nat):mn ⟨H,lo⟩ .int (.mp id) (.int .u32 k) (.bool true)=some ⟨H.set id (.map ((mP a k).map nC)),lo⟩:=by
 unfold mn;simp only[h,ahX];rfl
theorem atZ{a:lN}{k:Nat}:x∈mP a k↔x=k\/x∈a:=by
 unfold mP
 grind
def at0{l:lN}: ∀ {b:lN} {x:Nat},x∈l.foldl mP b↔x∈l\/x∈b:=by
 induction l with
 |nil=>simp
 |cons a l c=>grind [atZ]
def xq(k:br):Nat->Nat->Prop
 |0,_=>False
 |n+1,h=> ∀x∈S0 k h,xq k n x
def dA(k:br)(N:Nat)(H:List ae)(m:lN):List ae:=H++[.box (b9 k) none,.box sj none,.map (m.map nC),.box [.mp (N+2)] none,.box [.fn (.func 321) [] [.ptr (N+3) 0,.ptr N 0,.ptr (N+4) 0]] none]
def Cl{k:br}{N:Nat}{H:List ae}(a:H.length=N)(m:lN): (dA k N H m).length=N+5:=by simp[dA,a]
def at1(h:Nat)(x:Tok)(p:Nat)(H:List ae)(a:H[p]?=some (.box [.int .u32 (h:Nat)] none))(lo:oN):
  D X (.fn (.func 322) [] [.ptr p 0]) [.agg (fL x)] ⟨H,lo⟩=some (.ret (.bool (decide (x.aU=h))) ⟨H,lo⟩):=by
 refine eY R0 λN b=>?_
 have c: ∀L,(H++L)[p]?=_:=λL=>bc a
 simp only[F1,go_sem,simprocAttr,R0,b,nA,c];exact dj (ag9 AV.bool (afS.2 (by omega))) rfl
def at2(k:br)(A:gR k)(N:Nat)(H:List ae)(d:H.length=N): ∀ (n h:Nat),h<4294967296->xq k n h-> ∀ (m:lN) (L:List ae),
  D X (.fn (.func 321) [] [.ptr (N+3) 0,.ptr N 0,.ptr (N+4) 0]) [.int .u32 h] ⟨dA k N H m++L,none⟩=some (.ret (.ay []) ⟨dA k N H ((nm k n h).foldl mP m)++L,none⟩):=by
 intro n
 induction n with
 |zero=>intro h _ u;exact u.elim
 |succ n C=>
  intro h R u m L;refine eY RZ λM B=>?_
  have g:M=N+5+L.length:=by rw[<-B,aem,Cl d]
  have O: ∀m a,(dA k N H m++a)[N]?=some (.box (b9 k) none):=λm a=>by unfold dA;rw[adW,dv d];rfl
  have g2: ∀m a,(dA k N H m++a)[N+2]?=some (.map (m.map nC)):=λm a=>by unfold dA;rw[adW,bA d];rfl
  have K: ∀m a,(dA k N H m++a)[N+3]?=some (.box [.mp (N+2)] none):=λm a=>by unfold dA;rw[adW,bA d];rfl
  have J: ∀m a,(dA k N H m++a)[N+4]?=some (.box [.fn (.func 321) [] [.ptr (N+3) 0,.ptr N 0,.ptr (N+4) 0]] none):=λm a=>by unfold dA;rw[adW,bA d];rfl
  have gm: ∀m o,(dA k N H m++(L++[o]))[M]?=some o:=λm o=>by
   have:M=(dA k N H m++L).length:=by rw[g,aem,Cl d]
   rw[<-adW,this];simp
  have s2: ∀m m' a,(dA k N H m++a).set (N+2) (.map (m'.map nC))=dA k N H m'++a:=λm m' a=>by unfold dA;rw[adW,mZ d,adW];rfl
  have tk: ∀m o,(dA k N H m++(L++[o])).take M=dA k N H m++L:=λm o=>by
   rw[<-adW];exact aog (by rw[g,aem,Cl d])
  have v: ∀m a lo,mn ⟨dA k N H m++a,lo⟩ .int (.mp (N+2)) (.int .u32 (h:Nat)) (.bool true)=some ⟨dA k N H (mP m h)++a,lo⟩:=λm a lo=>by rw[atY (g2 m a),s2]
  obtain⟨w,e1,r,e3⟩:=LH (S:=Unit) k A (.fn (.func 322) [] [.ptr M 0]) (λx=>decide (x.aU=h)) (λs _=>s) () (M+1) (λ_=>dA k N H (mP m h)++(L++[.box [.int .u32 h] none])) (λ_=>by rw[g,aem,Cl d];simp;omega)
   (λs x a _=>at1 h x M _ (bc (gm _ _)) none) none
  simp only[go_sem,simprocAttr,RZ,B,O,K,gm,v,e1,r.bN,adW];obtain⟨b,c⟩: ∃b,b=S0 k h:=⟨_,rfl⟩;have i:sP k (λx=>decide (x.aU=h))=b:=c.symm;rw[i]at r⊢;have F:b.length<=32:=by rw[c];exact afY (ag7 _ _) (kr k.b)
  have z: ∀j,j<b.length->(b.take (j+1)).flatMap (nm k n)=(b.take j).flatMap (nm k n)++nm k n (b.getD j default):=λj y=>by
   rw[afP,adR y,al7,getD_eq y];simp
  refine dP b.length (λj e H'=>H'=dA k N H (((b.take j).flatMap (nm k n)).foldl mP (mP m h))++(L++[.box [.int .u32 h] none])/\e 3= .ptr (N+4) 0/\e 11=w/\e 12= .int .i64 b.length/\e 13= .int .i64 j) 0 (by omega) ?_ ?_
  ·simp only[go_sem,simprocAttr];simp
  rintro j y e H' ⟨rfl,P,q,p,l⟩ Q E;simp only[bQ,F1,go_sem,simprocAttr,afx,q,p,l];refine⟨λI=>?_,λI=>?_⟩
  ·have f:j<b.length:=by omega
   have hm:=eo f;have t:au k.b (b.getD j default)=true:=(fO A.b).1 (by rw[c]at hm⊢;exact(afR.1 hm).1);have G:=C (b.getD j default) (fC t) (u _ (by rw[c]at hm⊢;exact hm)) (((b.take j).flatMap (nm k n)).foldl mP (mP m h)) (L++[.box [.int .u32 h] none]);simp(disch:=omega) only[go_sem,simprocAttr,r.ca,r.cD,↓pH,P,q,p,l,J,G];refine⟨by omega,f,?_⟩;rw[z j f,al2]
  ·obtain rfl:j=b.length:=by omega
   rw[afH];simp only[go_sem,simprocAttr,tk];rw[c];rfl
def xr(k:br)(h n:Nat):lN:=((a0 k.b).take n).filter λx=>(nm k 16 h).contains x
def at3{k:br}(a:n< (a0 k.b).length):xr k h (n+1)=if(nm k 16 h).contains ((a0 k.b).getD n default)then xr k h n++[(a0 k.b).getD n default]else xr k h n:=by
 unfold xr;rw[afP,adR a,aqe,getD_eq a]
 grind
def at4{k:br}: (xr k h n).length<=n:=afY (ag7 _ _) (by grind)
def ahY(k:br)(A:gR k)(h:Nat)(Y:h<4294967296)(ht:au k.b h=true->xq k 16 h)(H:List ae)(lo:oN):
  ∃w,D X (.fn (.func 294) [] []) [.agg (b9 k),.int .u32 h] ⟨H,lo⟩=some (.ret (.ay [.agg (b9 (l9 k h).1),w,.int .i64 (l9 k h).2.2]) ⟨H,lo⟩):=by
 suffices hs: ∃z,D X (.fn (.func 294) [] []) [.agg (b9 k),.int .u32 h] ⟨H,lo⟩=some z/\ (λz=> ∃w,z=aX.ret (.ay [.agg (b9 (l9 k h).1),w,.int .i64 (l9 k h).2.2]) ⟨H,lo⟩) z by
  obtain⟨z,h1,w,rfl⟩:=hs;exact⟨w,h1⟩
 refine cz KE λN c=>?_
 have j:=λH lo=>up dy (eH k.b h Y H lo)
 cases y:au k.b h with
 |false=>
  rw[y]at j;have V:l9 k h=(k,[],4):=by unfold l9;rw[y];rfl
  simp only[F1,go_sem,simprocAttr,KE,c,j,qd,V];exact⟨_,rfl⟩
 |true=>
  rw[y]at j;have V:l9 k h=(nj k (rf k h),rf k h,0):=by unfold l9;rw[y];rfl
  have B:=at2 k A N H c 16 h Y (ht y) [] [];have F: ∀m,dA k N H m=H++[.box (b9 k) none,.box sj none,.map (m.map nC),.box [.mp (N+2)] none,.box [.fn (.func 321) [] [.ptr (N+3) 0,.ptr N 0,.ptr (N+4) 0]] none]:=λ_=>rfl
  rw[afZ,afZ,F []]at B;obtain⟨m,hm⟩: ∃m,m=(nm k 16 h).foldl mP []:=⟨_,rfl⟩;rw[<-hm]at B;obtain⟨v,J,i1,i2⟩:=Tn k.b A.b (N+5) (dA k N H m) (Cl c m) none;have C:D X (.fn (.func 46) [] []) [.agg (bX k.b)] ⟨dA k N H m,none⟩=some _:=qa (p:=mf) rfl i1;have g0: ∀d,(dA k N H m++d)[N]?=some (.box (b9 k) none):=λd=>by unfold dA;rw[adW,dv c];rfl
  have g:=(jJ i2 none).bN;have I:max (N+3+1) (max (N+1) (N+4+1))<=N+4+1:=by omega
  simp only[awk]at B;have P:N<=N+1:=Nat.le_succ N;have R: (dA k N H m)[N]?=some (.box (b9 k) none):=by have:=g0 [];rwa[afZ]at this
  simp only[go_sem,simprocAttr,KE,c,j,B,C,g,I,P,R];have g1: ∀d,(dA k N H m++d)[N+1]?=some (.box sj none):=λd=>by unfold dA;rw[adW,bA c];rfl
  have g2: ∀d,(dA k N H m++d)[N+2]?=some (.map (m.map nC)):=λd=>by unfold dA;rw[adW,bA c];rfl
  have Z: ∀d,(dA k N H m++d)[N+3]?=some (.box [.mp (N+2)] none):=λd=>by unfold dA;rw[adW,bA c];rfl
  have K: ∀x,m.contains x=(nm k 16 h).contains x:=λx=>by
   rw[amt,asU,asU,hm,at0];simp
  have sa:=kr k.b;refine dP (a0 k.b).length (λn e H'=> ∃L,H'=dA k N H m++(J++L)/\ (∃l,e 9=l/\aT (N+5+J.length) H' l 1 cb ((xr k h n).map hC))/\e 2= .ptr N 0/\e 4= .ptr (N+1) 0/\e 7= .ptr (N+3) 0/\e 25=v/\e 26= .int .i64 (a0 k.b).length/\e 27= .int .i64 n) 0 (by omega) ?_ ?_
  ·simp only[go_sem,simprocAttr];exact⟨[],by simp,_,rfl,aT.aq⟩
  rintro n hn e H' ⟨L,rfl,⟨l,S,a⟩,U,T,e7,t,s,r⟩ n' He;simp only[bQ,go_sem,simprocAttr,afq,U,t,s,r];refine⟨λhc=>?_,λhc=>?_⟩
  ·have i:n< (a0 k.b).length:=by omega
   have b:=at3 (k:=k) (h:=h) i;have o:Rd ⟨dA k N H m++(J++L),none⟩ v 1 ((a0 k.b).map hC):=jJ (by have:=i2.ext (L:=L);rwa[adW]at this) none;have Q:=o.cD (X:=X) (off:=0) (n:=1) (agg:=false) i;rw[pH]at Q;generalize(a0 k.b).getD n default=x at*;have f: ∀gm,jv gm ⟨dA k N H m++(J++L),none⟩ .int (.bool false) (.mp (N+2)) (.int .u32 (x:Nat)) false=some (.bool ((nm k 16 h).contains x)):=λgm=>by rw[atX (g2 _),K]
   have r9:=at4 (k:=k) (h:=h) (n:=n);cases W: (nm k 16 h).contains x
   ·rw[W]at f b;simp(disch:=omega) only[go_sem,simprocAttr,U,T,e7,S,t,s,r,o.ca,Q,Z,f];rw[ada (by simp)]at b;exact⟨by omega,i,L,rfl,l,rfl,by rw[b];exact a⟩
   ·rw[W]at f b;simp only[go_sem,simprocAttr,e7,S,o.ca,Q,Z,f];refine⟨by omega,o7 (H0:=dA k N H m++J) (ys:=[[.int .u32 (x:Nat)]]) a ⟨_,adW _ _ _⟩ (by rw[aem,Cl c]) (by omega) (by intro el O;rw[afD.1 O];rfl) rfl (by unfold room;simp;omega) λv' H2 q G=>?_⟩;obtain⟨L2,rfl⟩:=G;simp(disch:=omega) only[go_sem,simprocAttr,U,T,e7,t,s,r];rw[adV rfl]at b;refine⟨i,L2,by simp,v',rfl,?_⟩;rw[b,afI];rwa[adW]at q
  ·obtain rfl:n=(a0 k.b).length:=by omega
   have M:xr k h (a0 k.b).length=rf k h:=by unfold xr rf;rw[afH]
   rw[M]at a;have E:=ahU k A l (rf k h) (dA k N H m++(J++L)) (jJ a none) (λx hx=>fC ((fO A.b).1 (afR.1 hx).1)) (by have: (rf k h).length<=_:=ag7 _ _;omega) none;simp only[go_sem,simprocAttr,T,S,g0,g1,E,qd,cO (g1 _)];have u:iP N H (dA k N H m++(J++L)):=by unfold dA;rw[adW];exact iP.app c
   have ho:aT N ((dA k N H m++(J++L)).set (N+1) (ae.box (b9 (nj k (rf k h))) none)) l 1 cb ((rf k h).map hC):=aT.nz (aT.le a (by omega)) (g1 _);rw[V,ahq (.inl rfl) ho ?_ ?_ ?_]
   ·exact⟨bD l ((rf k h).map hC),dj rfl ((u.set (by omega)).take c)⟩
   ·rw[bB (λ_=>rfl)];omega
   ·simp[AV.refs,KZ]
   ·simp[AV.refs]
end Go.Proofs.YtcdeobefbpnfeaaGreatDoor
