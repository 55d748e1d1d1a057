/- A part. -/
import Derived.Test.YteplichagkpciaaGreatDoorC
import Derived.Test.YteplichagkpciaaGreatDoorD2
set_option linter.all false
set_option maxRecDepth 10000
set_option maxHeartbeats 1000000
namespace Go.Proofs.YteplichagkpciaaGreatDoor
open Go Go.Den
variable{α:Type}{f:FuncId}{i j n sz h a x p aj b aa:Nat}{v:AV}{l:List α}{pf:PF}{lo ak:oN}{af:List lA}{M:List ae}
def afv:=@decide_eq_false
def agR:=@decide_eq_true
def agV:=@List.mem_singleton
def ahb:=@decide_eq_decide
def akq:=@Bool.false_and
def amt:=@List.length_filter_le
def amu:=@List.mem_cons_self
def anc:=@List.set_set
def aoH:=@List.foldl_append
def aoX:=@List.length_pos_iff
def api:=@Int.natCast_add
def apk:=@Bool.eq_iff_iff
def aqS:=@Int.cast_ofNat_Int
def arc:=@List.findIdx?_eq_some_iff_getElem
def arj:=@List.prefix_rfl
def arn:=@List.map_eq_nil_iff
def asR:=@Bool.and_false
def atv:=@List.getElem_of_mem
def ays:=@Option.isSome_some
def ayt:=@Option.isSome_none
def ayv:=@List.filter_append
def aAX:=@Bool.not_false
def aBj:=@Nat.xor_lt_two_pow
def aBl:=@eq_true
def aCX:=@Nat.and_two_pow_sub_one_eq_mod
def ar{α:Type}(f:Nat->α)(i:Nat)(x:α):Nat->α:=λj=>if j=i then x else f j
theorem cT{f:Nat->α}{x:α}:ar f i x i=x:=afl rfl
theorem di{f:Nat->α}{x:α}(h:j≠i):ar f i x j=f j:=afi h
def mH{f:Nat->α}:ar f i (f i)=f:=by
 unfold ar;grind
def sD{f:Nat->α}{x y:α}:ar (ar f i x) i y=ar f i y:=by
 unfold ar;grind
def pO{β:Type}(g:α->β)(f:Nat->α)(i:Nat)(x:α): (λj=>g (ar f i x j))=ar (λj=>g (f j)) i (g x):=by
 unfold ar;grind
def arr(n:Nat)(f:Nat->lA):lA:=(List.range n).flatMap f
theorem zm(n:Nat)(f:Nat->lA):arr (n+1) f=arr n f++f n:=by
 simp[arr,aqZ]
theorem B0{k:Nat}{f:Nat->lA}(h: ∀i,(f i).length=k): ∀n,(arr n f).length=n*k
 |0=>by simp[arr]
 |n+1=>by rw[zm,agU,B0 h n,h,aq9]
theorem FV{f g:Nat->lA}: ∀ {n:Nat},(∀i,i<n->f i=g i)->arr n f=arr n g
 |0,_=>rfl
 |n+1,h=>by rw[zm,zm,FV (n:=n) λi j=>h i (by omega),h n (by omega)]
def asz(n m:Nat)(f:Nat->lA):arr (n+m) f=arr n f++arr m (λj=>f (n+j)):=by
 induction m with
 |zero=>simp[arr]
 |succ m h=>grind [Nat.add_assoc,zm,List.append_assoc]
def T5{f:Nat->lA}(h:i<n):arr n f=arr i f++(f i++arr (n-i-1) λj=>f (i+1+j)):=by
 obtain⟨m,rfl⟩: ∃m,n=i+1+m:=⟨n-i-1,by omega⟩;rw[asz,zm,afq,show i+1+m-i-1=m by omega]
theorem LU{f:Nat->lA}(h: ∀i,aG (f i)=0): ∀n,aG (arr n f)=0
 |0=>rfl
 |n+1=>by
  rw[zm];have: ∀a b:lA,aG (a++b)=max (aG a) (aG b):=by
   intro a b
   induction a with
   |nil=>rfl
   |cons x a j=>simp[aG,j,Nat.max_assoc]
  rw[this,LU h n,h];rfl
def FW(a b:lA):aG (a++b)=max (aG a) (aG b):=by
 induction a with
 |nil=>rfl
 |cons x a f=>simp[aG,f,Nat.max_assoc]
section
variable{ag:Bool}{m off:Nat}{a r vs:lA}
theorem kc(h:a.length<=off):Den.part ag m (a++r) off=Den.part ag m r (off-a.length):=by
 unfold Den.part;cases ag
 ·grind
 ·grind [List.drop_append,List.drop_eq_nil_of_le,List.length_append]
theorem q0(h:off+m<=a.length)(f:0<m):Den.part ag m (a++r) off=Den.part ag m a off:=by
 unfold Den.part
 grind
theorem FX(h:a.length=m):Den.part true m a 0=some (.agg a):=by
 unfold Den.part
 grind
def la{k o:Nat}{f:Nat->lA}(h: ∀i,(f i).length=k)(j:i<n)(ho:o+m<=k)(l:0<m):Den.part ag m (arr n f) (i*k+o)=Den.part ag m (f i) o:=by
 rw[T5 j,kc (by rw[B0 h];omega),B0 h,show i*k+o-i*k=o by omega,q0 (by grind) l]
def gu(h:a.length<=off):aH (a++r) off vs=a++aH r (off-a.length) vs:=by
 unfold aH;rw[azj,agQ h,auM,akU (by omega),aiL,afq,show off+vs.length-a.length=off-a.length+vs.length by omega]
def ra(h:off+vs.length<=a.length):aH (a++r) off vs=aH a off vs++r:=by
 unfold aH
 grind
def re(h:a.length=vs.length):aH a 0 vs=vs:=by
 unfold aH
 grind
def om{k o:Nat}{f:Nat->lA}(h: ∀i,(f i).length=k)(l:i<n)(ho:o+vs.length<=k):aH (arr n f) (i*k+o) vs=arr n (ar f i (aH (f i) o vs)):=by
 have e1:arr i (ar f i (aH (f i) o vs))=arr i f:=FV λj q=>di (by omega)
 have p: (arr (n-i-1) λj=>ar f i (aH (f i) o vs) (i+1+j))=arr (n-i-1) λj=>f (i+1+j):=FV λj _=>di (by omega)
 rw[T5 (f:=ar f i (aH (f i) o vs)) l,cT,e1,p];rw[T5 l,gu (by rw[B0 h];omega),B0 h,show i*k+o-i*k=o by omega,ra (by grind)]
end
def T6{ag:Bool}{k:Nat}{cs:lA}(f:k<n)(h:Den.part ag sz cs (k*sz)=some v):qu ag n sz (.agg cs) (.int .i64 k)=some v:=by
 have:qu ag n sz (.agg cs) (.int .i64 k)=if 0<=(k:Int)/\ (k:Int)<n then Den.part ag sz cs ((k:Int).toNat*sz)else none:=rfl
 grind
theorem agO{id off:Nat}:Den.uF n (.ptr id off)= .rd id off (Nat.max n 1):=rfl
theorem agP{id off:Nat}:HX n (.ptr id off)= .wr id off n:=rfl
@[irreducible]def cat (H L:List ae):List ae:=H++L
section
variable{H L M:List ae}{a b c d e g x:ae}{n:Nat}
theorem dO:cat H L=H++L:=by unfold cat;rfl
def FY: (cat H L).length=H.length+L.length:=by rw[dO,agU]
def T7:cat H L++M=cat H (L++M):=by rw[dO,dO,afq]
def ct2(h:H.length=n): (cat H L++M).take n=H:=by rw[dO,afq];grind
def ct1(h:H.length=n): (cat H L).take n=H:=by rw[dO];grind
def cg0(h:H.length=n): (cat H (a::L)++M)[n]?=some a:=by rw[dO,afq,dh h];rfl
def Ph(h:H.length=n): (cat H (a::L)++M).set n x=cat H (x::L)++M:=by grind [dO,List.append_assoc,DC]
def cp0(h:H.length=n): (cat H (a::L))[n]?=some a:=by rw[dO,dh h];rfl
def cq0(h:H.length=n): (cat H (a::L)).set n x=cat H (x::L):=by grind [dO,DC]
def cg1(h:H.length=n): (cat H (a::b::L)++M)[n+1]?=some b:=by rw[dO,afq,bz h];rfl
def cs1(h:H.length=n): (cat H (a::b::L)++M).set (n+1) x=cat H (a::x::L)++M:=by grind [dO,List.append_assoc,m0]
def cp1(h:H.length=n): (cat H (a::b::L))[n+1]?=some b:=by rw[dO,bz h];rfl
def cq1(h:H.length=n): (cat H (a::b::L)).set (n+1) x=cat H (a::x::L):=by grind [dO,m0]
def cg2(h:H.length=n): (cat H (a::b::c::L)++M)[n+2]?=some c:=by rw[dO,afq,bz h];rfl
def cs2(h:H.length=n): (cat H (a::b::c::L)++M).set (n+2) x=cat H (a::b::x::L)++M:=by grind [dO,List.append_assoc,m0]
def cp2(h:H.length=n): (cat H (a::b::c::L))[n+2]?=some c:=by rw[dO,bz h];rfl
def cq2(h:H.length=n): (cat H (a::b::c::L)).set (n+2) x=cat H (a::b::x::L):=by grind [dO,m0]
def cg3(h:H.length=n): (cat H (a::b::c::d::L)++M)[n+3]?=some d:=by rw[dO,afq,bz h];rfl
def cs3(h:H.length=n): (cat H (a::b::c::d::L)++M).set (n+3) x=cat H (a::b::c::x::L)++M:=by grind [dO,List.append_assoc,m0]
def cp3(h:H.length=n): (cat H (a::b::c::d::L))[n+3]?=some d:=by rw[dO,bz h];rfl
def cq3(h:H.length=n): (cat H (a::b::c::d::L)).set (n+3) x=cat H (a::b::c::x::L):=by grind [dO,m0]
def cg4(h:H.length=n): (cat H (a::b::c::d::e::L)++M)[n+4]?=some e:=by rw[dO,afq,bz h];rfl
def cs4(h:H.length=n): (cat H (a::b::c::d::e::L)++M).set (n+4) x=cat H (a::b::c::d::x::L)++M:=by grind [dO,List.append_assoc,m0]
def cp4(h:H.length=n): (cat H (a::b::c::d::e::L))[n+4]?=some e:=by rw[dO,bz h];rfl
def cq4(h:H.length=n): (cat H (a::b::c::d::e::L)).set (n+4) x=cat H (a::b::c::d::x::L):=by grind [dO,m0]
def cg5(h:H.length=n): (cat H (a::b::c::d::e::g::L)++M)[n+5]?=some g:=by rw[dO,afq,bz h];rfl
def cs5(h:H.length=n): (cat H (a::b::c::d::e::g::L)++M).set (n+5) x=cat H (a::b::c::d::e::x::L)++M:=by grind [dO,List.append_assoc,m0]
def cp5(h:H.length=n): (cat H (a::b::c::d::e::g::L))[n+5]?=some g:=by rw[dO,bz h];rfl
def cq5(h:H.length=n): (cat H (a::b::c::d::e::g::L)).set (n+5) x=cat H (a::b::c::d::e::x::L):=by grind [dO,m0]
end
structure Slot where
 gen:Nat
 eG:Bool
 ret:Bool
 deriving DecidableEq,Inhabited
abbrev cF:=Nat->Slot
def iF(s:Slot):lA:=[.int .u32 s.gen,.bool s.eG,.bool s.ret]
def bY(b:cF):lA:=arr 32 λi=>iF (b i)
theorem LV(s:Slot): (iF s).length=3:=rfl
theorem oo(b:cF): (bY b).length=96:=by rfl
theorem T8(b:cF):aG (bY b)=0:=by rfl
section
variable{b:cF}{i:Nat}
theorem T9:Den.part true 96 (bY b) 0=some (.agg (bY b)):=by rfl
theorem ahf(h:i<32):Den.part true 3 (bY b) (i*3)=some (.agg (iF (b i))):=la (k:=3) (o:=0) (f:=λi=>iF (b i)) (λi=>LV (b i)) h (by omega) (by omega)
theorem Ua(h:i<32):qu true 32 3 (.agg (bY b)) (.int .i64 i)=some (.agg (iF (b i))):=T6 h (ahf h)
theorem ahg(h:i<32):Den.part false 1 (bY b) (i*3)=some (.int .u32 (b i).gen):=la (k:=3) (o:=0) (f:=λi=>iF (b i)) (λi=>LV (b i)) h (by omega) (by omega)
theorem ahh(h:i<32):Den.part false 1 (bY b) (i*3+1)=some (.bool (b i).eG):=la (k:=3) (o:=1) (f:=λi=>iF (b i)) (λi=>LV (b i)) h (by omega) (by omega)
def Ub{s:Slot}{o:Nat}{vs:lA}(h:i<32)(ho:o+vs.length<=3)(j:aH (iF (b i)) o vs=iF s):aH (bY b) (i*3+o) vs=bY (ar b i s):=by
 unfold bY;rw[om (k:=3) (f:=λi=>iF (b i)) (λi=>LV (b i)) h ho,j,pO]
theorem asA{g:Nat}(h:i<32):aH (bY b) (i*3) [.int .u32 g]=bY (ar b i {b i with gen:=g}):=Ub (o:=0) h (by simp) rfl
theorem asB{g:Nat}(h:i<32):aH (bY b) (i*3) [.int .u32 ((g:Int)+1)]=bY (ar b i {b i with gen:=g+1}):=asA (g:=g+1) h
theorem ahi{v:Bool}(h:i<32):aH (bY b) (i*3+1) [.bool v]=bY (ar b i {b i with eG:=v}):=Ub (o:=1) h (by simp) rfl
theorem asC{v:Bool}(h:i<32):aH (bY b) (i*3+2) [.bool v]=bY (ar b i {b i with ret:=v}):=Ub (o:=2) h (by simp) rfl
theorem ahj: (bY b).take 96=bY b:=by rfl
end
def eB(h:Nat):oN:=if 1<=h % 256/\h % 256<=32/\h/256<=8388607 then some (h % 256-1)else none
def c7(i f:Nat):Nat:=f*256+i+1
def ahk(e:eB h=some i):i<32:=by
 unfold eB at e;grind
def Uc{f:Nat}(h:i<32)(j:f<=8388607):eB (c7 i f)=some i:=by
 unfold eB c7
 grind
def ahl{a b c:lA}(h:b=c):a++b=a++c:=by rw[h]
def aDm{a b c:lA}(h:b=c):b++a=c++a:=by rw[h]
abbrev aE:=Nat×Nat
structure dc where
 up:Nat
 ds:Nat
 runs:List aE
 len:Nat
 cells:Nat->Nat
structure aw where
 b:cF
 r:Nat->dc
structure Ow where
 kind:Nat
 aa:Nat
 hold:Nat
 deriving DecidableEq
structure Sd where
 root:Nat
 own:Ow
 deriving DecidableEq
abbrev bM:=Nat->Sd
structure Tok where
 aL:Nat
 iK:Nat
 to:Nat
 mu:Bool
 aR:Nat
 deriving DecidableEq
structure bg where
 b:cF
 t:Nat->Tok
structure ke where
 fr:Nat
 word:Nat
 aL:Nat
 share:Bool
 deriving DecidableEq
structure cK where
 ring:Nat->ke
 fr:Nat
 n:Nat
 closed:Bool
structure bG where
 T:aw
 O:bM
 K:bg
 c8:Nat->cK
 alive:Nat->Bool
 born:Nat->Bool
structure cp where
 op:Nat
 r:Nat
 s:Nat
 a:Nat
 b:Nat
 v:Nat
 deriving DecidableEq
structure bE where
 e:Nat
 v:Nat
 w:Nat
 deriving DecidableEq
def ay(r:aE):lA:=[.int .i64 (r.1:Nat),.int .i64 (r.2:Nat)]
def ef(l:List aE):AV:=if l.isEmpty then .ai else .sl (l.map ay) false
def bS(r:dc):lA:=[.int .u32 r.up,.int .i64 r.ds,ef r.runs,.int .i64 r.len]++arr 8 λi=>[.int .u32 (r.cells i)]
def xe(f:Nat->dc):lA:=arr 32 λi=>bS (f i)
def aI(t:aw):lA:=bY t.b++xe t.r
def jG(o:Ow):lA:=[.int .u8 o.kind,.int .u8 o.aa,.int .u8 o.hold]
def sE(x:Sd):lA:=[.int .u32 x.root,.int .u8 x.own.kind,.int .u8 x.own.aa,.int .u8 x.own.hold]
def cG(o:bM):lA:=arr 32 λi=>sE (o i)
def fB(x:Tok):lA:=[.int .u32 x.aL,.int .u8 x.iK,.int .u8 x.to,.bool x.mu,.int .u32 x.aR]
def FZ(f:Nat->Tok):lA:=arr 16 λi=>fB (f i)
def bW(k:bg):lA:=bY k.b++FZ k.t
def eg(m:ke):lA:=[.int .u8 m.fr,.int .u64 m.word,.int .u32 m.aL,.bool m.share]
def LW(f:Nat->ke):lA:=arr 4 λi=>eg (f i)
def cq(b:cK):lA:=LW b.ring++[.int .i64 b.fr,.int .i64 b.n,.bool b.closed]
def zn(f:Nat->cK):lA:=arr 8 λi=>cq (f i)
def sF(f:Nat->Bool):lA:=arr 8 λi=>[.bool (f i)]
def gd(T:aw)(O:bM)(K:bg):lA:=aI T++(cG O++bW K)
def bw(s:bG):lA:=aI s.T++(cG s.O++(bW s.K++(zn s.c8++(sF s.alive++sF s.born))))
def bf(c:cp):lA:=[.int .u8 c.op,.int .u32 c.r,.int .u32 c.s,.int .u32 c.a,.int .u32 c.b,.int .u64 c.v]
def bF(r:bE):lA:=[.int .i64 r.e,.int .u64 r.v,.int .u32 r.w]
theorem zo(r:dc): (bS r).length=12:=by rfl
theorem aDn(f:Nat->dc): (xe f).length=384:=by rfl
theorem im(t:aw): (aI t).length=480:=by rfl
theorem sG(o:bM): (cG o).length=128:=by rfl
theorem aDo(f:Nat->Tok): (FZ f).length=80:=by rfl
theorem zp(k:bg): (bW k).length=176:=by rfl
theorem ahm(f:Nat->ke): (LW f).length=16:=by rfl
theorem zq(b:cK): (cq b).length=19:=by rfl
theorem pP(f:Nat->cK): (zn f).length=152:=by rfl
theorem F0(f:Nat->Bool): (sF f).length=8:=by rfl
theorem lb(T:aw)(O:bM)(K:bg): (gd T O K).length=784:=by simp only[gd,agU,im,sG,zp]
def eU(s:bG): (bw s).length=952:=by simp only[bw,agU,im,sG,zp,pP,F0]
def Ud(l:List aE): (ef l).refs=0:=by
 unfold ef;split
 ·rfl
 ·exact bA (λ_=>rfl) l
theorem asD{g:Nat->AV}(h: ∀i,(g i).refs=0)(n:Nat):aG (arr n λi=>[g i])=0:=LU (λi=>by simp[aG,h]) n
def Ue(r:dc):aG (bS r)=0:=by
 rw[bS,FW,asD (λ_=>rfl)];simp[aG,AV.refs,Ud]
theorem asE(f:Nat->dc):aG (xe f)=0:=LU (λi=>Ue (f i)) 32
def xf(t:aw):aG (aI t)=0:=by rw[aI,FW,T8,asE];rfl
theorem Uf(o:bM):aG (cG o)=0:=by rfl
theorem LX(k:bg):aG (bW k)=0:=by rfl
theorem ahn(b:cK):aG (cq b)=0:=by rfl
theorem asF(f:Nat->cK):aG (zn f)=0:=by rfl
theorem asG(f:Nat->Bool):aG (sF f)=0:=by rfl
def oq(s:bG):aG (bw s)=0:=by simp only[bw,FW,xf,Uf,LX,asF,asG];rfl
def m9(l:List aE):Rv (ef l) 2 (l.map ay):=by
 cases l with
 |nil=>exact .ai
 |cons a l=>exact .sl (by intro el h;obtain⟨x,_,rfl⟩:=ag2.1 h;rfl)
def Ug{ag:Bool}{m:Nat}{a b r:lA}{off:Nat}(c:a.length=off):Den.part ag m (a++r) off=Den.part ag m r 0:=by grind [kc]
theorem xg{m:Nat}{a r:lA}(c:a.length=m)(b:0<m):Den.part true m (a++r) 0=some (.agg a):=by grind [q0,FX]
section
variable{ag:Bool}{m o i:Nat}
theorem aho{r:dc}:Den.part false 1 (bS r) 0=some (.int .u32 r.up):=rfl
theorem ahp{r:dc}:Den.part false 1 (bS r) 1=some (.int .i64 r.ds):=rfl
theorem ahq{r:dc}:Den.part false 1 (bS r) 2=some (ef r.runs):=rfl
theorem ahr{r:dc}:Den.part false 1 (bS r) 3=some (.int .i64 r.len):=rfl
theorem ahs{r:dc}:Den.part true 2 (bS r) 2=some (.agg [ef r.runs,.int .i64 r.len]):=rfl
theorem LY{r:dc}:Den.part true 8 (bS r) 4=some (.agg (arr 8 λi=>[.int .u32 (r.cells i)])):=by rfl
theorem aht{t:aw}:Den.part true 96 (aI t) 0=some (.agg (bY t.b)):=by rfl
theorem ahu{t:aw}:Den.part true 480 (aI t) 0=some (.agg (aI t)):=by rfl
def ahv{t:aw}(h:i<32)(ho:o+m<=12)(a:0<m):Den.part ag m (aI t) (96+i*12+o)=Den.part ag m (bS (t.r i)) o:=by
 unfold aI;rw[kc (by rw[oo];omega),oo,show 96+i*12+o-96=i*12+o by omega];exact la (k:=12) (f:=λi=>bS (t.r i)) (λi=>zo _) h ho a
def asH{t:aw}(h:i<32):Den.part true 12 (aI t) (96+i*12)=some (.agg (bS (t.r i))):=by
 have:=ahv (ag:=true) (m:=12) (o:=0) (t:=t) h (by omega) (by omega);rw[ahc]at this;rw[this,FX (zo _)]
theorem Uh{t:aw}(h:i<32):Den.part false 1 (aI t) (96+i*12)=some (.int .u32 (t.r i).up):=ahv (o:=0) h (by omega) (by omega)
def LZ{t:aw}{r:dc}(h:i<32):aH (aI t) (96+i*12) (bS r)=aI {t with r:=ar t.r i r}:=by
 unfold aI;rw[gu (by rw[oo];omega),oo,show 96+i*12-96=i*12+0 by omega];unfold xe;rw[om (k:=12) (f:=λi=>bS (t.r i)) (λi=>zo _) h (by rw[zo];omega),re (by rfl),pO]
def ahw{t:aw}{u:Nat}(h:i<32):aH (aI t) (96+i*12) [.int .u32 u]=aI {t with r:=ar t.r i {t.r i with up:=u}}:=by
 unfold aI;rw[gu (by rw[oo];omega),oo,show 96+i*12-96=i*12+0 by omega];unfold xe;rw[om (k:=12) (f:=λi=>bS (t.r i)) (λi=>zo _) h (by simp),pO];rfl
theorem asI{r:dc}{u:Nat}:aH (bS r) 0 [.int .u32 u]=bS {r with up:=u}:=rfl
def ahx{r:dc}{u:Nat}(h:i<8):aH (bS r) (4+i) [.int .u32 u]=bS {r with cells:=ar r.cells i u}:=by
 unfold bS;rw[gu (by simp)];refine ahl ?_;have:=om (n:=8) (k:=1) (i:=i) (o:=0) (vs:=[AV.int .u32 u]) (f:=λi=>[AV.int .u32 (r.cells i)]) (λ_=>rfl) h (by simp);rw[show 4+i- [AV.int .u32 r.up,.int .i64 r.ds,ef r.runs,.int .i64 r.len].length=i*1+0 by simp,this];exact akp (arr 8) (pO (λu:Nat=>[AV.int .u32 u]) r.cells i u).symm
theorem ahy{w:bM}(h:i<32)(ho:o+m<=4)(a:0<m):Den.part ag m (cG w) (i*4+o)=Den.part ag m (sE (w i)) o:=
 la (k:=4) (f:=λi=>sE (w i)) (λ_=>rfl) h ho a
theorem ahz{w:bM}:Den.part true 128 (cG w) 0=some (.agg (cG w)):=by rfl
theorem ahA{w:bM}(h:i<32):Den.part false 1 (cG w) (i*4)=some (.int .u32 (w i).root):=ahy (o:=0) h (by omega) (by omega)
theorem asJ{w:bM}(h:i<32):Den.part true 3 (cG w) (i*4+1)=some (.agg (jG (w i).own)):=ahy (o:=1) h (by omega) (by omega)
def asK{w:bM}{x:Sd}(h:i<32):aH (cG w) (i*4) (sE x)=cG (ar w i x):=by
 have:=om (n:=32) (k:=4) (i:=i) (o:=0) (vs:=sE x) (f:=λi=>sE (w i)) (λ_=>rfl) h (by simp[sE]);unfold cG;rw[show i*4=i*4+0 by omega,this,re (a:=sE (w i)) (vs:=sE x) rfl,pO]
theorem ahB{k:bg}:Den.part true 96 (bW k) 0=some (.agg (bY k.b)):=by rfl
theorem Ui{k:bg}:Den.part true 176 (bW k) 0=some (.agg (bW k)):=by rfl
theorem asL{f:Nat->Tok}(h:i<16):Den.part true 5 (FZ f) (i*5)=some (.agg (fB (f i))):=
 la (k:=5) (o:=0) (f:=λi=>fB (f i)) (λ_=>rfl) h (by omega) (by omega)
def asM{k:bg}(h:i<16):Den.part true 5 (bW k) (96+i*5)=some (.agg (fB (k.t i))):=by
 unfold bW;rw[kc (by rw[oo];omega),oo,show 96+i*5-96=i*5 by omega];exact asL h
theorem ahC{k:bg}{b:cF}:aH (bW k) 0 (bY b)=bW {k with b:=b}:=by rfl
def asN{k:bg}{x:Tok}(h:i<16):aH (bW k) (96+i*5) (fB x)=bW {k with t:=ar k.t i x}:=by
 unfold bW;rw[gu (by rw[oo];omega),oo,show 96+i*5-96=i*5+0 by omega];unfold FZ;rw[om (k:=5) (f:=λi=>fB (k.t i)) (λ_=>rfl) h (by simp[fB]),re (a:=fB (k.t i)) (vs:=fB x) rfl,pO]
theorem asO{f:Nat->ke}(h:i<4):Den.part true 4 (LW f) (i*4)=some (.agg (eg (f i))):=
 la (k:=4) (o:=0) (f:=λi=>eg (f i)) (λ_=>rfl) h (by omega) (by omega)
theorem rf{b:cK}:Den.part true 19 (cq b) 0=some (.agg (cq b)):=by rfl
def ahD{b:cK}(h:i<4):Den.part true 4 (cq b) (i*4)=some (.agg (eg (b.ring i))):=by
 unfold cq;rw[q0 (by rw[ahm];omega) (by omega)];exact asO h
theorem ahE{b:cK}:Den.part false 1 (cq b) 16=some (.int .i64 b.fr):=by rfl
theorem B1{b:cK}:Den.part false 1 (cq b) 17=some (.int .i64 b.n):=by rfl
theorem zr{b:cK}:Den.part false 1 (cq b) 18=some (.bool b.closed):=by rfl
def asP{b:cK}{x:ke}(h:i<4):aH (cq b) (i*4) (eg x)=cq {b with ring:=ar b.ring i x}:=by
 unfold cq;rw[ra (by rw[ahm];simp[eg];omega)];unfold LW;rw[show i*4=i*4+0 by omega,om (k:=4) (f:=λi=>eg (b.ring i)) (λ_=>rfl) h (by simp[eg]),re (a:=eg (b.ring i)) (vs:=eg x) rfl,pO]
theorem asQ{b:cK}:aH (cq b) 16 [.int .i64 x]=cq {b with fr:=x}:=by rfl
theorem ahF{b:cK}:aH (cq b) 17 [.int .i64 x]=cq {b with n:=x}:=by rfl
theorem asS{b:cK}{x:Bool}:aH (cq b) 18 [.bool x]=cq {b with closed:=x}:=by rfl
def ahG{f:Nat->Bool}(h:i<8):Den.part false 1 (sF f) i=some (.bool (f i)):=by
 have:=la (ag:=false) (m:=1) (n:=8) (k:=1) (i:=i) (o:=0) (f:=λi=>[AV.bool (f i)]) (λ_=>rfl) h (by omega) (by omega);rw[show i*1+0=i by omega]at this;exact this
def asT{f:Nat->cK}(h:i<8):Den.part true 19 (zn f) (i*19)=some (.agg (cq (f i))):=by
 have:=la (ag:=true) (m:=19) (n:=8) (k:=19) (i:=i) (o:=0) (f:=λi=>cq (f i)) (λ_=>zq _) h (by omega) (by omega);exact this.trans rf
theorem pQ{T:aw}{O:bM}{K:bg}:Den.part true 480 (gd T O K) 0=some (.agg (aI T)):=xg (im _) (by omega)
theorem pR{T:aw}{O:bM}{K:bg}:Den.part true 128 (gd T O K) 480=some (.agg (cG O)):=by
 unfold gd;rw[Ug (b:=[]) (im _)];exact xg (sG _) (by omega)
theorem rh{T:aw}{O:bM}{K:bg}:Den.part true 176 (gd T O K) 608=some (.agg (bW K)):=by
 unfold gd;rw[kc (by rw[im];omega),im,Ug (b:=[]) (sG _)];exact Ui
theorem ot(s:bG):bw s=gd s.T s.O s.K++(zn s.c8++(sF s.alive++sF s.born)):=by simp[bw,gd]
theorem Uj{s:bG}:Den.part true 784 (bw s) 0=some (.agg (gd s.T s.O s.K)):=by grind [ot,xg,lb]
theorem Uk{s:bG}:Den.part true 952 (bw s) 0=some (.agg (bw s)):=FX (eU s)
theorem Ul{s:bG}:Den.part true 480 (bw s) 0=some (.agg (aI s.T)):=xg (im _) (by omega)
theorem Um{s:bG}:Den.part true 128 (bw s) 480=some (.agg (cG s.O)):=by grind [ot,q0,lb,pR]
theorem Un{s:bG}:Den.part true 176 (bw s) 608=some (.agg (bW s.K)):=by grind [ot,q0,lb,rh]
theorem asU{s:bG}(h:i<8):Den.part true 19 (bw s) (784+i*19)=some (.agg (cq (s.c8 i))):=by
 rw[ot,kc (by rw[lb];omega),lb,show 784+i*19-784=i*19 by omega,q0 (by rw[pP];omega) (by omega)];exact asT h
def aDp{s:bG}:Den.part true 152 (bw s) 784=some (.agg (zn s.c8)):=by
 rw[ot,Ug (b:=[]) (lb _ _ _)];exact xg (pP _) (by omega)
theorem ahH{s:bG}(h:i<8):Den.part false 1 (bw s) (936+i)=some (.bool (s.alive i)):=by
 rw[ot,kc (by rw[lb];omega),lb,kc (by rw[pP];omega),pP,show 936+i-784-152=i by omega,q0 (by trivial) (by omega)];exact ahG h
theorem asV{s:bG}(h:i<8):Den.part false 1 (bw s) (944+i)=some (.bool (s.born i)):=by
 rw[ot,kc (by rw[lb];omega),lb,kc (by rw[pP];omega),pP,kc (by rw[F0];omega),F0,show 944+i-784-152-8=i by omega];exact ahG h
def asW{s:bG}{t:aw}:aH (bw s) 0 (aI t)=bw {s with T:=t}:=by
 unfold bw;rw[ra (by grind [im]),re (by rw[im,im])]
def asX{s:bG}{w:bM}:aH (bw s) 480 (cG w)=bw {s with O:=w}:=by
 unfold bw;rw[gu (by rw[im];omega),im,ra (by grind [sG]),re (by rfl)]
def asY{s:bG}{k:bg}:aH (bw s) 608 (bW k)=bw {s with K:=k}:=by
 unfold bw;rw[gu (by rw[im];omega),im,gu (by rw[sG];omega),sG,ra (by rw[zp,zp];omega),re (by rfl)]
def asZ{s:bG}{b:cK}(h:i<8):aH (bw s) (784+i*19) (cq b)=bw {s with c8:=ar s.c8 i b}:=by
 rw[ot,gu (by rw[lb];omega),lb,show 784+i*19-784=i*19+0 by omega,ra (by rw[pP,zq];omega),ot];unfold zn;rw[om (k:=19) (f:=λi=>cq (s.c8 i)) (λ_=>zq _) h (by rw[zq];omega),re (by rfl),pO]
def ahI{f:Nat->Bool}{v:Bool}(h:i<8):aH (sF f) i [.bool v]=sF (ar f i v):=by
 have:=om (n:=8) (k:=1) (i:=i) (o:=0) (vs:=[AV.bool v]) (f:=λi=>[AV.bool (f i)]) (λ_=>rfl) h (by simp);rw[show i*1+0=i by omega]at this;unfold sF;rw[this];exact akp (arr 8) (pO (λv:Bool=>[AV.bool v]) f i v).symm
def ahJ{s:bG}{v:Bool}(h:i<8):aH (bw s) (936+i) [.bool v]=bw {s with alive:=ar s.alive i v}:=by
 rw[ot,gu (by rw[lb];omega),lb,gu (by rw[pP];omega),pP,show 936+i-784-152=i by omega,ra (by trivial),ahI h,ot]
def ahK{s:bG}{v:Bool}(h:i<8):aH (bw s) (944+i) [.bool v]=bw {s with born:=ar s.born i v}:=by
 rw[ot,gu (by rw[lb];omega),lb,gu (by rw[pP];omega),pP,gu (by rw[F0];omega),F0,show 944+i-784-152-8=i by omega,ahI h,ot]
end
theorem ahL{t:aw}: (aI t).take 480=aI t:=by rfl
theorem ahM{k:bg}: (bW k).take 176=bW k:=by rfl
theorem ahN{r:dc}:Den.part true 12 (bS r) 0=some (.agg (bS r)):=by rfl
theorem ahO{t:aw}:List.drop 96 (aI t)=xe t.r:=by rfl
theorem ahP{b:cF}{r:Nat->dc}:bY b++xe r=aI ⟨b,r⟩:=rfl
theorem ahQ{u:Nat}{r:dc}:AV.int .u32 (u:Nat)::List.drop 1 (bS r)=bS {r with up:=u}:=rfl
theorem ahR{b:cF}{f:Nat->Tok}:bY b++FZ f=bW ⟨b,f⟩:=rfl
theorem Uo(r:aE): (ay r).length=2:=rfl
theorem ahS{r:aE}:Den.part false 1 (ay r) 0=some (.int .i64 (r.1:Nat)):=rfl
theorem ahT{r:aE}:Den.part false 1 (ay r) 1=some (.int .i64 (r.2:Nat)):=rfl
theorem Up{r:aE}:Den.part true 2 (ay r) 0=some (.agg (ay r)):=rfl
theorem ahU{r:aE}: (ay r).take 2=ay r:=rfl
theorem ahV{r:aE}: (ay r).drop 2=[]:=rfl
theorem ahW(r:aE):aG (ay r)=0:=rfl
def ML:=gG @Uo<|gG @ahU<|gG @ahV<|gG @ahW<|gG @ahO<|gG @ahP<|gG @ahQ<|gG @ahR<|gG @ahj<|gG @oo<|gG @T8<|gG @ahL<|gG @im<|gG @xf<|gG @zo<|gG @Ue<|gG @sG<|gG @Uf<|gG @ahM<|gG @zp @LX
def MP:=gG @ahS<|gG @ahT<|gG @Up<|gG @T9<|gG @aho<|gG @ahp<|gG @ahq<|gG @ahr<|gG @ahs<|gG @ahN<|gG @aht<|gG @ahu<|gG @ahz<|gG @ahB @Ui
theorem Zz:type_of% @R2/\type_of% @C1/\type_of% @P1/\type_of% @N1/\type_of% @O1/\type_of% @V1/\type_of% @V2/\type_of% @V3/\type_of% @wrap_i64/\type_of% @wrap_u64/\type_of% @wrap_u8/\type_of% @wrap_u16/\type_of% @wrap_u32/\type_of% @wrap_i32/\type_of% @dh/\type_of% @bz/\type_of% @DC/\type_of% @m0/\type_of% @mn/\type_of% @aaP/\type_of% @ae3/\type_of% @Option.isSome_some.{0}/\type_of% @Option.isSome_none.{0}/\type_of% @Option.getD_some.{0}/\type_of% @Option.getD_none.{0}/\type_of% @Bool.not_true/\type_of% @Bool.not_false/\type_of% @cg0/\type_of% @cg1/\type_of% @cg2/\type_of% @cg3/\type_of% @cg4/\type_of% @cg5/\type_of% @Ph/\type_of% @cs1/\type_of% @cs2/\type_of% @cs3/\type_of% @cs4/\type_of% @cs5/\type_of% @ct2/\type_of% @ct1/\type_of% @cp0/\type_of% @cp1/\type_of% @cp2/\type_of% @cp3/\type_of% @cp4/\type_of% @cp5/\type_of% @cq0/\type_of% @cq1/\type_of% @cq2/\type_of% @cq3/\type_of% @cq4/\type_of% @cq5/\type_of% @List.getElem?_set_ne.{0}/\type_of% @Q1/\type_of% @G1/\type_of% @HY/\type_of% @HZ/\type_of% @H4/\type_of% @H5/\type_of% @H6/\type_of% @H7/\type_of% @H8/\type_of% @H9/\type_of% @Ia/\type_of% @Ib/\type_of% @ML/\type_of% @List.length_take.{0}/\type_of% @Nat.min_self/\type_of% @List.append_nil.{0}/\type_of% @Nat.zero_le/\type_of% @Nat.add_zero/\type_of% @Nat.zero_add/\type_of% @Nat.le_refl/\type_of% @and_true/\type_of% @true_and/\type_of% @if_true.{1}:=
 ⟨@R2,@C1,@P1,@N1,@O1,@V1,@V2,@V3,@wrap_i64,@wrap_u64,@wrap_u8,@wrap_u16,@wrap_u32,@wrap_i32,@dh,@bz,@DC,@m0,@mn,@aaP,@ae3,@ays.{0},@ayt.{0},@amC.{0},@azi.{0},@awz,@aAX,@cg0,@cg1,@cg2,@cg3,@cg4,@cg5,@Ph,@cs1,@cs2,@cs3,@cs4,@cs5,@ct2,@ct1,@cp0,@cp1,@cp2,@cp3,@cp4,@cp5,@cq0,@cq1,@cq2,@cq3,@cq4,@cq5,@aex.{0},@Q1,@G1,@HY,@HZ,@H4,@H5,@H6,@H7,@H8,@H9,@Ia,@Ib,@ML,@aiI.{0},@azm,@aip.{0},@agS,@ahc,@ana,@agW,@apw,@azq,@aiH.{1}⟩
attribute [go_sem] Zz agO agP
attribute [go_sem ↓] R1 MP Int.cast_ofNat_Int
def ax(b:cF)(h:Nat):Bool:=match eB h with
 |some i=>decide (b i=⟨h/256,true,false⟩)
 |none=>false
def aM(h:Nat):Nat:=(eB h).getD 0
def na(b:cF)(i:Nat):Bool:=!(b i).eG&& !(b i).ret
def nb(b:cF):oN:=(List.range 32).find? (na b)
def pT(b:cF):cF×Nat×Bool:=match nb b with
 |some i=>(ar b i {b i with eG:=true},c7 i (b i).gen,true)
 |none=>(b,0,false)
def ri(s:Slot):Slot:=if s.gen=8388607 then⟨s.gen,false,true⟩else⟨s.gen+1,false,s.ret⟩
def eh(b:cF)(h:Nat):cF×Bool:=if ax b h then(ar b (aM h) (ri (b (aM h))),true)else(b,false)
def bn(b:cF):lN:=((List.range 32).filter λi=>(b i).eG).map λi=>c7 i (b i).gen
def ld(r:aE):Bool:=decide (1<=r.2)&&decide (r.1+r.2<=64)
def gY(x:aE)(b:Bool)(a:List aE):List aE->Option (List aE)
 | []=>some (if b then a else a++[x])
 |y::ys=>
  if y.1+y.2<x.1 then gY x b (a++[y]) ys
  else if x.1+x.2<y.1 then gY x true (a++(if b then[]else[x])++[y]) ys
  else if y.1+y.2=x.1 then gY (y.1,y.2+x.2) b a ys
  else if y.1=x.1+x.2 then gY (x.1,x.2+y.2) b a ys
  else none
def iq(l:List aE)(x:aE):Option (List aE):=if ld x then gY x false [] l else none
def mI:List aE->List aE->Option (List aE)
 |all,[]=>some all
 |all,x::xs=>match iq all x with
  |some a=>mI a xs
  |none=>none
def aN(l:List aE):Nat:=(l.map (·.2)).sum
def pV(a:List aE)(len:Nat):Bool:=(mI [] a).isSome&&decide (len<=aN a*32)
def dB:dc:=⟨0,0,[],0,λ_=>0⟩
def aw.ax(t:aw)(h:Nat):Bool:=Go.Proofs.YteplichagkpciaaGreatDoor.ax t.b h
def kf(t:aw)(i:Nat):Nat:=if t.ax (t.r i).up then(t.r i).up else 0
def aK(t:aw)(h:Nat):dc×Nat:=if t.ax h then({t.r (aM h)with up:=kf t (aM h)},0)else(dB,4)
def lV(t:aw)(up n:Nat):aw×Nat×Nat:=
 if up≠0/\t.ax up=false then(t,0,4)
 else if 64<n then(t,0,2)
 else match nb t.b with
  |some i=>({b:=ar t.b i {t.b i with eG:=true},r:=ar t.r i {dB with up:=up,ds:=n}},c7 i (t.b i).gen,0)
  |none=>(t,0,7)
def lg(t:aw)(h:Nat):aw×Nat:=
 if t.ax h then({b:=(eh t.b h).1,r:=ar t.r (aM h) dB},0)else(t,4)
def fC(t:aw)(h:Nat)(r:dc):aw×Nat:=
 if t.ax h=false then(t,4)
 else if 64<r.ds\/pV r.runs r.len=false then(t,2)
 else({t with r:=ar t.r (aM h) {r with up:=(t.r (aM h)).up}},0)
def bI(t:aw)(h:Nat):Nat:=if t.ax h then kf t (aM h)else 0
def ek(t:aw):Nat->Nat->lN
 |0,_=>[]
 |n+1,h=>if bI t h=0 then[]else bI t h::ek t n (bI t h)
def aR(t:aw)(h:Nat):lN:=ek t 32 h
def lW(t:aw)(h up:Nat):aw×Nat:=
 if t.ax h=false\/ (up≠0/\t.ax up=false)then(t,4)
 else if up≠0/\h∈up::aR t up then(t,12)
 else({t with r:=ar t.r (aM h) {t.r (aM h)with up:=up}},0)
def depth(t:aw)(h:Nat):Nat:=if t.ax h then 1+(aR t h).length else 0
def root(t:aw)(h:Nat):Nat:=if t.ax h then(aR t h).getLastD h else 0
def kg(t:aw)(a b:Nat):Bool:=t.ax a&&t.ax b&& (decide (a=b)|| (aR t b).contains a)
def kids(t:aw)(h:Nat):lN:=if t.ax h then(bn t.b).filter (λx=>bI t x=h)else[]
def gZ(t:aw):Nat->Nat->lN
 |0,h=>[h]
 |n+1,h=>h:: (kids t h).flatMap (gZ t n)
def under(t:aw)(h:Nat):lN:=if t.ax h then gZ t 32 h else[]
def hE(t:aw)(a n:Nat):aw×Nat×Nat:=
 let x:=lV t a n
 if(x.2.2=0\/x.2.2=7)/\6<=depth t a then(t,0,8)else x
def zs(t0:aw)(h:Nat)(t:aw)(x:Nat):aw:=
 let r:=(aK t x).1
 (fC t x {r with cells:=λi=>if r.cells i≠h/\kg t0 (r.cells i) h then 0 else r.cells i}).1
def jg(t:aw)(h:Nat):aw×Nat:=
 if t.ax h=false then(t,4)else lW ((gZ t 32 h).foldl (zs t h) t) h 0
def sH(t:aw)(h:Nat):Nat:=(gZ t 32 h).foldl (λn x=>max n (depth t x-depth t h+1)) 0
def vd(t:aw)(h a:Nat):aw×Nat:=
 if t.ax h=false\/t.ax a=false then(t,4)
 else if root t h≠h\/kg t h a then(t,12)
 else if 6<depth t a+sH t h then(t,8)
 else lW t h a
def lY(t:aw)(h:Nat):aw×lN×Nat:=
 if under t h=[]then(t,[],4)else((under t h).foldl (λt x=>(lg t x).1) t,under t h,0)
def xh:Ow:=⟨0,0,0⟩
def b0(o:bM)(t:aw)(h:Nat):Ow:=match eB (root t h)with
 |some i=>if(o i).root=root t h then(o i).own else xh
 |none=>xh
def fN(o:bM)(t:aw)(r:Nat)(aa:Nat)(x:Ow):bM×Nat:=
 if t.ax r=false then(o,4)
 else if root t r≠r then(o,12)
 else if 8<=aa then(o,2)
 else(ar o (aM r) ⟨r,x⟩,0)
def rj(o:bM)(t:aw)(r aa:Nat):bM×Nat:=fN o t r aa ⟨1,aa % 256,0⟩
def zt(o:bM)(t:aw)(r:Nat):bM×Nat:=fN o t r 0 ⟨2,0,0⟩
def hH(aa:Nat):Nat:=2^(aa % 8)
def B2(o:bM)(t:aw)(r aa:Nat):bM×Nat:=fN o t r aa ⟨3,0,hH aa⟩
def ou(x aa:Nat):Bool:=x.testBit (aa % 8)
def dt(o:bM)(t:aw)(r aa:Nat)(hold:Bool):bM×Nat×Nat:=
 let x:=b0 o t r
 let e:=(fN o t r aa x).2
 if e=4\/ (t.ax r=true/\root t r≠r)then(o,0,e)
 else if x.kind≠3 then(o,0,12)
 else if e≠0 then(o,0,e)
 else if ou x.hold aa&&hold then(o,0,7)
 else if !ou x.hold aa&& !hold then(o,0,5)
 else((fN o t r aa {x with hold:=x.hold^^^hH aa}).1,x.hold^^^hH aa,(fN o t r aa {x with hold:=x.hold^^^hH aa}).2)
def L0:Tok:=⟨0,0,0,false,0⟩
def b9(k:bg)(h:Nat):Tok×Nat:=if ax k.b h then(k.t (aM h),0)else(L0,4)
def sI(k:bg)(p:Tok->Bool):lN:=(bn k.b).filter λh=>p (b9 k h).1
def isRight(b a:Nat)(x:Tok):Bool:=decide (x.aL=b)&&decide (x.aR=a)
def B3(k:bg)(b a:Nat):Nat:=(sI k (isRight b a)).length
def sJ(k:bg)(b a:Nat):Bool:=(bn k.b).any λh=>isRight b a (b9 k h).1&& (b9 k h).1.mu
def nc(k:bg)(h:Nat):Bool:=decide (h=0)||ax k.b h
def pW(k:bg)(x:Tok):Nat:=
 if nc k x.aR=false then 4
 else if 8<=x.iK\/8<=x.to\/x.iK=x.to\/x.aL=0 then 2
 else if x.aR≠0/\ ((b9 k x.aR).1.aL≠x.aL\/ (b9 k x.aR).1.to≠x.iK\/ (x.mu=true/\ (b9 k x.aR).1.mu=false))then 12
 else if sJ k x.aL x.aR=true\/ (x.mu=true/\0<B3 k x.aL x.aR)then 5
 else 0
def lh(k:bg)(x:Tok):bg×Nat×Nat:=
 if pW k x≠0 then(k,0,pW k x)
 else match nb k.b with
  |some i=>if i<16 then({b:=ar k.b i {k.b i with eG:=true},t:=ar k.t i x},c7 i (k.b i).gen,0)else(k,0,7)
  |none=>(k,0,7)
def gM(b:cF):Prop:= ∀i,(b i).gen<=8388607/\ ((b i).eG=true->(b i).ret=false)
def F2(e:eB h=some i):i<32/\h/256<=8388607/\h % 256=i+1/\h<2147483648:=by
 unfold eB at e;grind
def zu(h:Nat):aM h<32:=by
 unfold aM;cases e:eB h with
 |none=>simp
 |some i=>exact(F2 e).1
theorem F3(e:eB h=some i):aM h=i:=by simp[aM,e]
theorem Uq(e:eB h=some i):c7 i (h/256)=h:=by
 have:=F2 e;unfold c7;omega
theorem lj{b:cF}:ax b h=true↔ ∃i,eB h=some i/\b i=⟨h/256,true,false⟩:=by
 unfold ax
 grind
def gg{b:cF}(a:ax b h=true):h<4294967296:=by
 obtain⟨i,e,_⟩:=lj.1 a;have:=F2 e;omega
def Ur{b:cF}(a:ax b h=true):h≠0:=by
 obtain⟨i,e,_⟩:=lj.1 a;have:=F2 e;omega
def B4{b:cF}(a:ax b h=true):eB h=some (aM h)/\b (aM h)=⟨h/256,true,false⟩/\c7 (aM h) (h/256)=h:=by grind [lj,F3,Uq]
theorem Us{b:cF}(d:gM b)(c:i<32):ax b (c7 i (b i).gen)=(b i).eG:=by
 obtain⟨j,h⟩:=d i;have e:=Uc c j;have f:c7 i (b i).gen/256=(b i).gen:=by unfold c7;omega
 unfold ax;rw[e];simp only[f];revert h;generalize b i=s;obtain⟨g,a,r⟩:=s;simp_all
theorem jh{b:cF}(d:gM b):h∈bn b↔ax b h=true:=by
 unfold bn;simp only[ag2,air,aqP];constructor
 ·grind [Us]
 ·intro c;obtain⟨i,e,a⟩:=lj.1 c;refine⟨i,⟨(F2 e).1,by grind⟩,?_⟩;rw[a];exact Uq e
theorem nd(b:cF): (bn b).length<=32:=by
 unfold bn
 grind
def F4{g:Nat}(a:i<32)(b:g<=8388607):c7 i g<4294967296:=by unfold c7;omega
theorem sK{b:cF}(e:nb b=some i):i<32/\ (b i).eG=false/\ (b i).ret=false/\ ∀j,j<i->na b j=false:=by
 unfold nb at e;rw[List.find?_range_eq_some]at e;obtain⟨a,d,c⟩:=e;unfold na at a
 grind
theorem Ut{b:cF}(a:gM b)(e:nb b=some i):gM (ar b i {b i with eG:=true}):=by
 intro j;by_cases h:j=i
 ·subst h;rw[cT];exact⟨(a j).1,λ_=>(sK e).2.2.1⟩
 ·rw[di h];exact a j
theorem F5{b:cF}(a:gM b)(h:Nat):gM (eh b h).1:=by
 unfold eh;split
 ·intro j;by_cases e:j=aM h
  ·subst e;simp only[cT];have:=(a (aM h)).1;unfold ri;grind
  ·simp only[di e];exact a j
 omega
structure fO(r:dc):Prop where
 up:r.up<4294967296
 ds:r.ds<=64
 len:r.len<=2048
 cells: ∀i,r.cells i<4294967296
 runs: ∀x∈r.runs,1<=x.2/\x.1+x.2<=64
 aN:aN r.runs<=64
structure bN(t:aw):Prop where
 b:gM t.b
 r: ∀i,fO (t.r i)
def cm(t:aw):Prop:= ∀h,(aR t h).length<=5
def ahX{t:aw}:kf t i<4294967296:=by
 unfold kf;split
 ·rename_i h;exact gg h
 ·omega
def as0{t:aw}:bI t h<4294967296:=by
 unfold bI;split
 ·exact ahX
 ·omega
theorem F6{t:aw}(a:bI t h≠0):t.ax (bI t h)=true/\t.ax h=true:=by
 unfold bI at*;split at a
 ·unfold kf at*
  grind
 omega
theorem Uu{t:aw}: ∀ (n:Nat) (h:Nat),(ek t n h).length<n-> ∀m,n<=m->ek t m h=ek t n h
 |0,_,a,_,_=>by omega
 |n+1,h,a,m,hm=>by
  obtain⟨m,rfl⟩: ∃k,m=k+1:=⟨m-1,by omega⟩;simp only[ek]at a⊢;by_cases hu:bI t h=0
  ·grind
  ·rw[afi hu]at a;simp only[ag5]at a;rw[Uu n _ (by omega) m (by omega)]
def sL{t:aw}(a:cm t)(h:Nat):aR t h=if bI t h=0 then[]else bI t h::aR t (bI t h):=by
 unfold aR;by_cases hu:bI t h=0
 ·rw[afl hu,ek,afl hu]
 ·have e:ek t 33 h=ek t 32 h:=Uu 32 h (by have:=a h;unfold aR at this;omega) 33 (by omega);rw[<-e,ek,afi hu]
def as1{t:aw}(c:cm t)(a:x∈aR t h):t.ax x=true:=by
 have key: ∀ (n h:Nat),(aR t h).length<=n->x∈aR t h->t.ax x=true:=by
  intro n
  induction n with
  |zero=>grind
  |succ n d=>
   intro h b a;rw[sL c]at a b;by_cases hu:bI t h=0
   ·grind
   ·rw[afi hu]at a b;rcases aiK.1 a with rfl|a
    ·exact(F6 hu).1
    grind
 exact key _ h (agW _) a
def dep(t:aw)(h:Nat):Nat:=(aR t h).length
theorem B5{t:aw}(b:cm t)(a:bI t h≠0):dep t h=dep t (bI t h)+1:=by
 unfold dep;rw[sL b,afi a];rfl
def L1{t:aw}(a:x∈kids t h):t.ax h=true/\bI t x=h/\x∈bn t.b:=by
 unfold kids at a
 grind
theorem B6{t:aw}(a:cm t)(b:x∈kids t h):dep t x=dep t h+1:=by
 obtain⟨d,c,_⟩:=L1 b;have:=B5 a (h:=x) (by rw[c];exact Ur d)
 grind
def ahY(t:aw)(h:Nat): (kids t h).length<=32:=by
 unfold kids;split
 ·grind [Nat.le_trans,List.length_filter_le,nd]
 ·simp
theorem ahZ{α β:Type}{f g:α->List β}: ∀ {l:List α},(∀x∈l,f x=g x)->l.flatMap f=l.flatMap g
 | [],_=>rfl
 |x::xs,h=>by
  rw[arI,arI,h x (amu ..),ahZ λy a=>h y (ahd _ a)]
theorem Uv{t:aw}(a:cm t): ∀ (n h:Nat),5<=n+dep t h-> ∀m,n<=m->gZ t m h=gZ t n h
 |0,h,d,m,_=>by
  have c:kids t h=[]:=by
   cases e:kids t h with
   |nil=>rfl
   |cons x xs=>
    have:=B6 a (h:=h) (x:=x) (by grind);have f:=a x;unfold dep at*;omega
  cases m with
  |zero=>rfl
  |succ m=>rw[gZ,gZ,c];rfl
 |n+1,h,d,m,hm=>by
  obtain⟨m,rfl⟩: ∃k,m=k+1:=⟨m-1,by omega⟩;refine akp (h:: ·) (ahZ λx b=>?_);exact Uv a n x (by have:=B6 a b;omega) m (by omega)
def du(t:aw)(h:Nat):lN:=gZ t 32 h
def Uw{t:aw}(a:cm t)(h:Nat):du t h=h:: (kids t h).flatMap (du t):=by
 unfold du;rw[<-Uv a 32 h (by omega) 33 (by omega),gZ]
theorem Ux{α:Type}(f:α->Nat)(c:Nat): ∀l:List α,(∀x∈l,f x<=c)->(l.map f).sum<=l.length*c
 | [],_=>by simp
 |x::xs,h=>by
  have d:=h x (amu ..);have b:=Ux f c xs λy a=>h y (ahd _ a)
  simp only[anw,List.sum_cons,ag5,aq9];omega
theorem ah0(t:aw): ∀ (n h:Nat),(gZ t n h).length<=33^n
 |0,h=>by simp[gZ]
 |n+1,h=>by
  rw[gZ,ag5,List.length_flatMap];have c:=Ux (λx=>(gZ t n x).length) (33^n) (kids t h) λx _=>ah0 t n x
  have a:=ahY t h;have b: (kids t h).length*33^n<=32*33^n:=ant _ a
  grind
def Uy{t:aw}(a:cm t)(h:Nat): (du t h).length<=39135393:=by
 have:=ah0 t 5 h;unfold du;rw[Uv a 5 h (by omega) 32 (by omega)];omega
def aDq{t:aw}(h:Nat):du t h≠[]:=by unfold du;rw[gZ];simp
def F7{t:aw}(f:gM t.b)(b:t.ax h=true)(a:x∈du t h):t.ax x=true:=by
 have key: ∀ (n h:Nat),t.ax h=true->x∈gZ t n h->t.ax x=true:=by
  intro n
  induction n with
  |zero=>intro h b a;rw[gZ,agV]at a;grind
  |succ n c=>
   intro h b a;rcases aiK.1 a with rfl|a
   ·omega
   ·obtain⟨y,d,e⟩:=aq2.1 a;exact c y ((jh f).1 (L1 d).2.2) e
 exact key 32 h b a
def nf(k:bg)(a:Nat):lN:=sI k λx=>decide (x.aL=a)
def xi(k:bg)(aa:Nat):lN:=sI k λx=>decide (x.to=aa)
def ng(k:bg)(l:lN):bg:=l.foldl (λk h=>{k with b:=(eh k.b h).1}) k
def L3(k:bg)(a:Nat):bg:=ng k (nf k a)
def Uz(k:bg)(h:Nat):lN:=sI k λx=>decide (x.aR=h)
def nh(k:bg):Nat->Nat->lN
 |0,h=>[h]
 |n+1,h=>h:: (Uz k h).flatMap (nh k n)
def rk(k:bg)(h:Nat):lN:=(bn k.b).filter λx=>(nh k 16 h).contains x
def mJ(k:bg)(h:Nat):bg×lN×Nat:=if ax k.b h then(ng k (rk k h),rk k h,0)else(k,[],4)
def xj(k:bg)(b a:Nat):Bool:=nc k a&& !sJ k b a
def zv(k:bg)(b a:Nat):Bool:=nc k a&&decide (B3 k b a=0)
def F8(T:aw)(K:bg)(h a:Nat):Bool:=
 if a=0 then xj K h 0 else if a=1 then zv K h 0 else if a=2 then !((under T h).any λx=>decide (0< (nf K x).length))else false
def F9(K:bg)(aa h a:Nat):Bool:=(nf K h).any λt=>
 decide ((b9 K t).1.to=aa)&& ((decide (a=0)&&xj K h t)|| (decide (a=1)&& (b9 K t).1.mu&&zv K h t))
def xk(T:aw)(O:bM)(K:bg)(aa h a:Nat):Nat:=
 if T.ax h=false then 4
 else if(b0 O T h).kind=3 then(if a=0/\aa<8/\ (b0 O T h).hold.testBit aa=true then 0 else 5)
 else if(b0 O T h).kind=1 then(if((b0 O T h).aa=aa/\F8 T K h a=true)\/F9 K aa h a=true then 0 else 5)
 else 5
def zw:ke:=⟨0,0,0,false⟩
def lZ(b:cK)(i:Nat):Nat:=(b.fr+i) % 4
def ow(b:cK)(m:ke):cK×Nat:=
 if b.closed then(b,11)else if b.n=4 then(b,7)else({b with ring:=ar b.ring (lZ b b.n) m,n:=b.n+1},0)
def mK(b:cK):cK×ke×Nat:=
 if b.n=0 then(b,zw,if b.closed then 11 else 10)else({b with fr:=lZ b 1,n:=b.n-1},b.ring b.fr,0)
def vf(b:cK):cK×Nat:=if b.closed then(b,11)else({b with closed:=true},0)
def fP(b:cK):List ke:=(List.range b.n).map λi=>b.ring (lZ b i)
def zx:cK:=⟨λ_=>zw,0,0,true⟩
def ni(t:aw)(r a to:Nat)(b:Bool):aw×Nat:=
 if t.ax r=false\/ (to≠0/\t.ax to=false)then(t,4)
 else if 8<=a then(t,2)
 else if to≠0/\b=false/\kg t to r=false then(t,5)
 else
  let x:=(aK t r).1
  let n:=fC t r {x with cells:=ar x.cells a to}
  if n.2=0 then n else(t,n.2)
def sM(t:aw)(r a:Nat):Nat×Nat:=
 if t.ax r=false then(0,4)
 else if 8<=a then(0,2)
 else
  let to:=(aK t r).1.cells a
  if to=0 then(0,10)else if t.ax to=false then(0,4)else(to,0)
structure aq where
 s:bG
 aa:Nat
 c:cp
 run:aE
 mL:Nat
 asks:Bool
 back:List aE
abbrev R(α:Type):=Except Nat α
def ask(b:Bool)(e:Nat):R Unit:=if b then .ok ()else .error e
def bc(e:Nat):R Unit:=if e=0 then .ok ()else .error e
def aq.t(x:aq)(T:aw):aq:={x with s:={x.s with T:=T}}
def aq.o(x:aq)(O:bM):aq:={x with s:={x.s with O:=O}}
def aq.k(x:aq)(K:bg):aq:={x with s:={x.s with K:=K}}
def aq.bx(x:aq)(i:Nat)(b:cK):aq:={x with s:={x.s with c8:=ar x.s.c8 i b}}
def fD(x:aq)(h a:Nat):R Unit:=bc (xk x.s.T x.s.O x.s.K x.aa h a)
def l0(x:aq)(aa:Nat):R Unit:=ask (decide (aa<8)&&x.s.alive aa) 2
def iL(x:aq)(y:Nat):aq:={x.k (L3 x.s.K y)with back:=x.back++(aK x.s.T y).1.runs}
def gv(x:aq)(h:Nat):aq:=let y:=(under x.s.T h).foldl iL x;y.t (lY y.s.T h).1
def vg(x:aq)(h:Nat):R aq:=do bc (jg x.s.T h).2;return x.t (jg x.s.T h).1
def mM(x:aq)(h aa:Nat):R aq:=do bc (rj x.s.O x.s.T h aa).2;return x.o (rj x.s.O x.s.T h aa).1
def nj(x:aq)(h:Nat)(r:dc):R aq:=do bc (fC x.s.T h r).2;return x.t (fC x.s.T h r).1
def bX:bE:=⟨0,0,0⟩
def pX(x:aq):R (aq×bE):=do
 if x.c.r≠0 then fD x x.c.r 1
 let n:=hE x.s.T x.c.r (min x.c.a 65)
 bc n.2.2
 let y:=x.t n.1
 let y<-if x.c.r=0 then mM y n.2.1 x.aa else pure y
 return (y,{bX with w:=n.2.1})
def isObj(a b:Nat):Bool:=decide (1<=a)&&decide (a<=128)&& [1,2,4,8].contains b
def gO(c:List aE)(len b a:Nat):oN:=
 if isObj b a then(let at':=(len+a-1)/a*a;if at'+b<=aN c*32 then some at' else none)else none
def pY(a b:Nat):oN:=if isObj a b then some ((a+31)/32)else none
def kh(a:List aE):Nat->Nat->oN:=match a with
 | []=>λ_ _=>none
 |r::rs=>λbase at'=>if base<=at'/\at'<base+r.2*32 then some (r.1*32+at'-base)else kh rs (base+r.2*32) at'
def jH(x:aq):R (aq×bE):=do
 let size:=min x.c.a 129
 let align:=min x.c.b 9
 let n<-match pY size align with|some n=>pure n|none=>.error 2
 fD x x.c.r 1
 bc (aK x.s.T x.c.r).2
 let r:=(aK x.s.T x.c.r).1
 match gO r.runs r.len size align with
 |some at'=>do
  let y<-nj x x.c.r {r with len:=at'+size}
  return (y,{bX with v:=at'})
 |none=>do
  ask (decide (aN r.runs+n<=r.ds)) 6
  let x:={x with mL:=n}
  if x.asks then return (x,bX)
  let runs:=r.runs++[x.run]
  let len:=aN r.runs*32
  ask (decide (x.run.2=n)&&pV runs len) 2
  let at':=(gO runs len size align).getD 0
  let b:=match gO runs len size align with|some a=>a+size|none=>len
  let y<-nj x x.c.r {r with runs:=runs,len:=b}
  return (y,{bX with v:=at'})
def rl(x:aq)(a:Nat):R (aq×bE):=do
 ask (decide (1<=x.c.b)&&decide (x.c.b<=8)) 2
 fD x x.c.r a
 bc (aK x.s.T x.c.r).2
 ask (decide (x.c.a+x.c.b<=(aK x.s.T x.c.r).1.len)) 9
 return (x,bX)
def sO(x:aq):R (aq×bE):=do
 fD x x.c.r 1
 bc (aK x.s.T x.c.r).2
 let r:=(aK x.s.T x.c.r).1
 let y<-nj {x with back:=x.back++r.runs} x.c.r {dB with ds:=r.ds}
 return (y,bX)
def sP(x:aq):R (aq×bE):=do
 fD x x.c.r 2
 return (gv x x.c.r,bX)
def vh(x:aq):R (aq×bE):=do
 fD x x.c.r 2
 ask (decide (root x.s.T x.c.r≠x.c.r)) 12
 let y<-vg x x.c.r
 let y<-mM y x.c.r x.aa
 return (y,bX)
def vi(x:aq):R (aq×bE):=do
 fD x x.c.r 2
 fD x x.c.s 1
 let t:=vd x.s.T x.c.r x.c.s
 bc t.2
 return (x.t t.1,bX)
def vk(x:aq):R (aq×bE):=do
 fD x x.c.r 2
 let y<-vg x x.c.r
 let o:=B2 y.s.O y.s.T x.c.r x.aa
 bc o.2
 return (y.o o.1,bX)
def xl(x:aq)(h:Nat):R Unit:=do
 ask (x.s.T.ax h) 4
 let o:=b0 x.s.O x.s.T h
 ask (decide (root x.s.T h=h)&&decide (o.kind=3)) 12
 ask (o.hold.testBit x.aa) 5
def B7(x:aq)(h aa:Nat):bM×Nat:=((dt x.s.O x.s.T h aa true).1,(dt x.s.O x.s.T h aa true).2.2)
def sQ(x:aq):R (aq×bE):=do
 l0 x x.c.a
 xl x x.c.r
 let o:=B7 x x.c.r x.c.a
 bc o.2
 return (x.o o.1,bX)
def jI(x:aq)(h aa:Nat):R aq:=do
 let o:=dt x.s.O x.s.T h aa false
 bc o.2.2
 let y:=x.o o.1
 return if o.2.1=0 then gv y h else y
def vl(x:aq):R (aq×bE):=do
 xl x x.c.r
 return (<-jI x x.c.r x.aa,bX)
def pZ(x:aq):R (aq×bE):=do
 l0 x x.c.a
 ask (decide (x.c.b<=1)) 2
 ask (x.s.T.ax x.c.r) 4
 if x.c.s=0 then ask (decide ((b0 x.s.O x.s.T x.c.r).kind=1)&&decide ((b0 x.s.O x.s.T x.c.r).aa=x.aa)) 5
 else do
  bc (b9 x.s.K x.c.s).2
  ask (decide ((b9 x.s.K x.c.s).1.to=x.aa)&&decide ((b9 x.s.K x.c.s).1.aL=x.c.r)) 5
 let k:=lh x.s.K ⟨x.c.r,x.aa % 256,x.c.a % 256,decide (x.c.b=1),x.c.s⟩
 bc k.2.2
 return (x.k k.1,{bX with w:=k.2.1})
def vm(x:aq):R (aq×bE):=do
 bc (b9 x.s.K x.c.s).2
 ask (decide ((b9 x.s.K x.c.s).1.to=x.aa)) 5
 return (x.k (mJ x.s.K x.c.s).1,bX)
def nm(x:aq):R (aq×bE):=do
 l0 x x.c.a
 ask (decide (x.c.b<=1)) 2
 let share:=decide (x.c.r≠0)&&decide (x.c.b=1)
 let y<-if share then do
     xl x x.c.r
     pure (if(B7 x x.c.r x.c.a).2=0 then x.o (B7 x x.c.r x.c.a).1 else x)
  else if x.c.r≠0 then do
   fD x x.c.r 2
   let y<-vg x x.c.r
   let o:=zt y.s.O y.s.T x.c.r
   bc o.2
   pure (y.o o.1)
  else pure x
 let b:=ow (y.s.c8 x.c.a) ⟨x.aa % 256,x.c.v,x.c.r,share⟩
 bc b.2
 return (y.bx x.c.a b.1,bX)
def ox(x:aq):R (aq×bE):=do
 let b:=mK (x.s.c8 x.aa)
 bc b.2.2
 let y:=x.bx x.aa b.1
 let m:=b.2.1
 let y<-if m.aL≠0/\m.share=false then mM y m.aL x.aa else pure y
 return (y,{bX with v:=m.word,w:=m.aL})
def vo(x:aq):R (aq×bE):=do
 let b:=vf (x.s.c8 x.aa)
 bc b.2
 return (x.bx x.aa b.1,bX)
def oy(x:aq):R (aq×bE):=do
 fD x x.c.r 1
 if x.c.s≠0 then fD x x.c.s 0
 let t:=ni x.s.T x.c.r (min x.c.a 8) x.c.s (decide ((b0 x.s.O x.s.T x.c.s).kind=3))
 bc t.2
 return (x.t t.1,bX)
def vq(x:aq):R (aq×bE):=do
 fD x x.c.r 0
 let t:=sM x.s.T x.c.r (min x.c.a 8)
 bc t.2
 return (x,{bX with w:=t.1})
def nq(x:aq)(aa:Nat):R aq:=do
 let l:=fP (x.s.c8 aa)
 let y:=x.bx aa zx
 let y:={y with s:={y.s with alive:=ar y.s.alive aa false}}
 let y<-l.foldlM (λy m=>if m.aL=0\/m.share=true then pure y else if y.s.alive m.fr then mM y m.aL m.fr else pure (gv y m.aL)) y
 let y:=(xi y.s.K aa).foldl (λy h=>y.k (mJ y.s.K h).1) y
 let y:=((bn y.s.T.b).filter λh=>decide (root y.s.T h=h)&&decide ((b0 y.s.O y.s.T h).kind=1)&&decide ((b0 y.s.O y.s.T h).aa=aa)).foldl gv y
 ((bn y.s.T.b).filter λh=>decide (root y.s.T h=h)&&decide ((b0 y.s.O y.s.T h).kind=3)&& (decide (aa<8)&&ou (b0 y.s.O y.s.T h).hold aa)).foldlM (λy h=>jI y h aa) y
def xm(x:aq):R (aq×bE):=do
 l0 x x.c.a
 return (<-nq x x.c.a,bX)
def rm(x:aq):R (aq×bE):=do
 ask (decide (x.c.a<8)&& !x.s.born (x.c.a % 8)) 2
 return ({x with s:={x.s with alive:=ar x.s.alive x.c.a true,born:=ar x.s.born x.c.a true}},bX)
def ki(x:aq):R (aq×bE):=match x.c.op with
 |1=>pX x|2=>jH x|3=>rl x 0|4=>rl x 1|5=>sO x|6=>sP x|7=>vh x|8=>vi x|9=>vk x|10=>sQ x
 |11=>vl x|12=>pZ x|13=>vm x|14=>nm x|15=>ox x|16=>ox x|17=>vo x|18=>oy x|19=>vq x
 |20=>do return (<-nq x x.aa,bX)
 |21=>xm x|22=>rm x
 |_=>.error 2
def ji(x:aq):R (aq×bE):=do
 ask (decide (x.aa<8)&&x.s.alive x.aa) 12
 ki x
def dH(s:bG)(aa:Nat)(c:cp)(run:aE):bG×bE×List aE:=match ji ⟨s,aa,c,run,0,false,[]⟩with
 |.ok (x,r)=>if r.e=0 then(x.s,r,x.back)else(s,r,[])
 |.error e=>(s,{bX with e:=e},[])
def eV(s:bG)(aa:Nat)(c:cp):Nat:=if c.op≠2 then 0 else match ji ⟨s,aa,c,(0,0),0,true,[]⟩with
 |.ok (x,_)=>x.mL
 |.error _=>0
def iM(s:bG)(c:cp):lN×Nat:=
 if(aK s.T c.r).2≠0 then([],(aK s.T c.r).2)
 else if(c.op≠3/\c.op≠4)\/c.b<1\/8<c.b then([],2)
 else if(aK s.T c.r).1.len<c.a+c.b then([],9)
 else((List.range c.b).map λi=>(kh (aK s.T c.r).1.runs 0 (c.a+i)).getD 0,0)
def oz(s:bG)(aa:Nat)(c:cp):Nat:=if 0<eV s aa c then 0 else(dH s aa c (0,0)).2.1.e
def B8(s:bG)(aa:Nat)(c:cp):Bool:=decide (c.op=15)&&decide (oz s aa c=10)
def oA(s:bG)(h:Nat):lN:=if s.T.ax h then[h]else[]
def sR(s:bG)(c:cp):lN:=
 if[1,2,3,4,5,10,12,18,19].contains c.op then oA s c.r
 else if[6,7,9,11].contains c.op then under s.T c.r
 else if c.op=8 then
  (if under s.T c.r=[]\/s.T.ax c.s=false then[]else if(under s.T c.r).contains c.s then under s.T c.r else under s.T c.r++[c.s])
 else if c.op=13 then(if(b9 s.K c.s).2=0 then oA s (b9 s.K c.s).1.aL else[])
 else if c.op=14 then(if c.b=1 then oA s c.r else under s.T c.r)
 else[]
structure fg where
 has:Nat
 n:Nat
 wait:Nat->Nat
abbrev Marks:=Nat->fg
def xn:fg:=⟨0,0,λ_=>0⟩
def rn(l:fg)(aa:Nat):oN:=(List.range l.n).find? λi=>decide (l.wait i=aa % 256)
def UA(l:fg)(i:Nat):fg:={l with n:=l.n-1,wait:=ar (λj=>if i<=j/\j<7 then l.wait (j+1)else l.wait j) (l.n-1) 0}
def xo(l:fg)(aa:Nat):fg:=match rn l aa with
 |none=>l
 |some i=>UA l i
def iN(a aa:Nat):Bool:=decide (a<32)&&decide (aa<8)
def iO(m:Marks)(a aa:Nat):Marks×Bool:=
 if iN a aa=false then(m,false)
 else if(m a).has=aa+1 then(m,true)
 else if(m a).has=0/\ ((m a).n=0\/rn (m a) aa=some 0)then(ar m a {xo (m a) aa with has:=aa+1},true)
 else if rn (m a) aa=none then(ar m a {m a with n:=(m a).n+1,wait:=ar (m a).wait (m a).n aa},false)
 else(m,false)
def B9(l:fg)(aa:Nat):fg:=if l.has=aa+1 then{l with has:=0}else l
def rp(m:Marks)(aa:Nat):Marks:=λi=>if iN i aa then xo (B9 (m i) aa) aa else m i
structure cO where
 n:Nat
 free:List aE
 bytes:Nat->Nat->Nat
 cy:Bool
def rq(l:List aE)(x:aE):Option (List aE):=
 if ld x=false then none
 else match l.findIdx? λy=>decide (x=y)|| (decide (y.1<=x.1)&&decide (x.1+x.2<=y.1+y.2))with
  |none=>none
  |some i=>
   let y:=l.getD i (0,0)
   some (l.take i++((if y.1<x.1 then[(y.1,x.1-y.1)]else[])++(if x.1+x.2<y.1+y.2 then[(x.1+x.2,y.1+y.2- (x.1+x.2))]else[]))++l.drop (i+1))
def UB(l:List aE)(k:Nat):Bool:=decide (k<64)&&l.any λy=>decide ((k,1)=y)|| (decide (y.1<=k)&&decide (k+1<=y.1+y.2))
def jk(p:cO)(n:Nat):cO×Nat×Nat:=
 if n<1 then(p,0,2)
 else match p.free.find? λx=>decide (1<=n)&&decide (n<=x.2)with
  |none=>(p,0,6)
  |some x=>(match rq p.free (x.1,n)with
   |some l=>{p with free:=l,cy:=false}
   |none=>p,x.1,0)
def gh(p:cO)(a:Nat):Nat:=if p.n<=a then 2 else if UB p.free a then 12 else 0
def rr(p:cO)(a:Nat):cO:=if gh p a=0 then{p with bytes:=ar p.bytes a λ_=>0}else p
def L4(p:cO)(a:Nat):cO:=match iq p.free (a,1)with
 |some l=>{p with free:=l,cy:=false}
 |none=>p
def ru(p:cO)(a:Nat):cO:=if gh p a=0 then L4 p a else p
def sS(p:cO)(at':Nat):Nat:=if gh p (at'/32)=0 then p.bytes (at'/32) (at' % 32)else 0
def vt(p:cO)(at' b:Nat):cO:=if gh p (at'/32)=0 then{p with bytes:=ar p.bytes (at'/32) (ar (p.bytes (at'/32)) (at' % 32) b)}else p
structure Core where
 S:bG
 P:cO
 M:Marks
 Q:lN
structure Call where
 aa:Nat
 c:cp
 checked:Bool
 aT:lN
 run:aE
 eW:Nat
def iP(r:aE):lN:=(List.range r.2).map λi=>r.1+i
def cU(x:Core)(r:aE):Core:={x with Q:=x.Q++iP r}
def vu(x:Core)(c:Call):Core:={cU x c.run with M:=rp x.M c.aa}
structure bT where
 x:Core
 c:Call
 r:bE
 ended:Bool
def ry(s:bT)(r:bE):bT:={s with r:=r,ended:=true,x:=vu s.x s.c}
def oB(s:bT):bT×Bool:=
 if s.c.checked then(s,false)
 else if B8 s.x.S s.c.aa s.c.c then(s,true)
 else if oz s.x.S s.c.aa s.c.c≠0 then(ry s {bX with e:=oz s.x.S s.c.aa s.c.c},true)
 else({s with c:={s.c with checked:=true,aT:=sR s.x.S s.c.c}},true)
def oC(s:bT):bT×Bool:=match s.c.aT with
 | []=>(s,false)
 |h::a=>
  let m:=iO s.x.M (aM h) s.c.aa
  ({s with x:={s.x with M:=m.1},c:=if m.2 then{s.c with aT:=a}else s.c},true)
def oD(s:bT):bT×Bool:=
 let n:=eV s.x.S s.c.aa s.c.c
 if n=0\/0<s.c.run.2 then(s,false)
 else
  let p:=jk s.x.P n
  if p.2.2≠0 then(ry {s with x:={s.x with P:=p.1}} {bX with e:=p.2.2},true)
  else({s with x:={s.x with P:=p.1},c:={s.c with run:=(p.2.1,n)}},true)
def oE(s:bT):bT×Bool:=
 if s.c.run.2<=s.c.eW then(s,false)
 else({s with x:={s.x with P:=rr s.x.P (s.c.run.1+s.c.eW)},c:={s.c with eW:=s.c.eW+1}},true)
def byteOf(v i:Nat):Nat:=v/2^(8*i) % 256
def zy(s:bT):bT:=
 let s:=if 0<s.c.run.2/\eV s.x.S s.c.aa s.c.c≠s.c.run.2 then{s with x:=cU s.x s.c.run,c:={s.c with run:=(0,0)}}else s
 let places:=(iM s.x.S s.c.c).1
 let d:=dH s.x.S s.c.aa s.c.c s.c.run
 if d.2.1.e≠0 then ry s d.2.1
 else
  let P:=if s.c.c.op=4 then(List.range places.length).foldl (λP i=>vt P (places.getD i 0) (byteOf s.c.c.v i)) s.x.P else s.x.P
  let v:=if s.c.c.op=3 then(List.range places.length).foldl (λv i=>v|||sS s.x.P (places.getD i 0)*2^(8*i)) d.2.1.v else d.2.1.v
  let x:=d.2.2.foldl cU {s.x with S:=d.1,P:=P}
  ry {s with x:=x,c:={s.c with run:=(0,0)}} {d.2.1 with v:=v}
def gw(x:Core)(c:Call):bT:=
 let d:bT:=⟨x,c,bX,false⟩
 let s1:=oB d
 if s1.2 then s1.1 else
 let s2:=oC s1.1
 if s2.2 then s2.1 else
 let b:=oD s2.1
 if b.2 then b.1 else
 let a:=oE b.1
 if a.2 then a.1 else zy a.1
def iQ(x:Core):Core×Bool:=match x.Q with
 | []=>(x,false)
 |q::a=>({x with P:=ru x.P q,Q:=a},true)
structure dE where
 op:Nat
 a:Nat
 b:Nat
 c:Nat
 n:Nat
 deriving DecidableEq,Inhabited
def rA(x:dE)(n:Nat):Bool:=
 (decide (x.op<=6)|| (decide (16<x.op)&&decide (x.op<=38)))&&decide (x.a<8/\x.b<8/\x.c<8)&& (!(decide (x.op=5)||decide (x.op=6))||decide (x.n<n))
def p7(l:List dE):Bool:=decide (l.length<=64)&&l.all λx=>rA x l.length
def rB:lB->List dE
 |a::b::c::d::e::f::r=>⟨a.toNat,b.toNat,c.toNat,d.toNat,e.toNat+256*f.toNat⟩::rB r
 |_=>[]
def decode(s:lB):Option (List dE):=
 if s.length % 6≠0\/384<s.length then none else if p7 (rB s)then some (rB s)else none
structure Task where
 code:List dE
 next:Nat
 aT:Nat->Nat
def l5:Nat:=18446744073709551616
def rC(t:Task):Option dE:=t.code[t.next]?
def nr:cp:=⟨0,0,0,0,0,0⟩
def ir(t:Task):cp×Bool:=match rC t with
 |none=>({nr with op:=20},true)
 |some x=>
  if x.op=0 then({nr with op:=20},true)
  else if x.op<=16 then(nr,false)
  else(⟨x.op-16,t.aT (x.b % 8) % 4294967296,t.aT (x.c % 8) % 4294967296,t.aT 6 % 4294967296,x.n,t.aT 5⟩,true)
def rD(t:Task):Task:=
 if(ir t).2 then t
 else match rC t with
  |none=>t
  |some x=>
   let b:=t.aT (x.b % 8)
   let c:=t.aT (x.c % 8)
   let put:=λv=>{t with aT:=ar t.aT (x.a % 8) v,next:=t.next+1}
   if x.op=1 then put x.n
   else if x.op=2 then put ((b+c) % l5)
   else if x.op=3 then put ((b+l5-c) % l5)
   else if x.op=4 then put (b*2^x.n % l5)
   else if x.op=5 then{t with next:=x.n}
   else if x.op=6 then{t with next:=if t.aT (x.a % 8)≠0 then x.n else t.next+1}
   else{t with next:=t.next+1}
def sT(t:Task)(r:bE):Task:=match rC t with
 |none=>t
 |some x=>if(ir t).2 then{t with aT:=ar (ar (ar t.aT (x.a % 8) r.v) 4 r.w) 7 r.e,next:=t.next+1}else t
structure Runner where
 t:Task
 c:Call
 busy:Bool
 fr:Nat
structure Event where
 aa:Nat
 c:cp
 run:aE
 r:bE
 fr:Nat
 to:Nat
structure bb where
 az:Core
 aA:Nat->Runner
 now:Nat
 cH:List Event
def gx:Call:=⟨0,nr,false,[],(0,0),0⟩
def sU:Task:=⟨[],0,λ_=>0⟩
def Ca:Runner:=⟨sU,gx,false,0⟩
def p9(m:bb)(t:Nat):Bool:=decide (t<8)&&m.az.S.alive t
def ns(m:bb)(i:Nat):bb:=
 if(m.aA i).busy=true/\p9 m i=false then{m with az:=vu m.az (m.aA i).c,aA:=ar m.aA i {m.aA i with busy:=false,c:=gx}}else m
def mN(m:bb):bb:=(List.range 8).foldl ns m
def handed(b:aE)(a c:Nat):aE:=if b.2<=c-a/\0<b.2 then(0,0)else b
def L5(m:bb)(t:Nat)(c:Call)(run:aE)(r:bE):bb:=
 {m with cH:=m.cH++[⟨t,c.c,run,r,(m.aA t).fr,m.now⟩],aA:=ar m.aA t {m.aA t with t:=sT (m.aA t).t r,busy:=false,c:=gx}}
def xp(m:bb)(t:Nat):bb:=
 let c:=(m.aA t).c
 let s:=gw m.az c
 let m':={m with az:=s.x,aA:=ar m.aA t {m.aA t with c:=s.c}}
 if s.ended then
  let run:=if s.r.e≠0\/s.c.c.op≠2 then(0,0)else c.run
  L5 m' t s.c (handed run m.az.Q.length s.x.Q.length) s.r
 else m'
def zA(m:bb)(t:Nat):bb:=
 let x:=m.aA t
 if x.busy then xp m t
 else if(ir x.t).2 then xp {m with aA:=ar m.aA t {x with c:={gx with aa:=t,c:=(ir x.t).1},busy:=true,fr:=m.now}} t
 else{m with aA:=ar m.aA t {x with t:=rD x.t}}
def Cb(m:bb)(t:Nat):bb:=
 let c:={nr with op:=20}
 let d:=dH m.az.S t c (0,0)
 {m with az:={d.2.2.foldl cU m.az with S:=d.1},cH:=m.cH++[⟨t,c,(0,0),d.2.1,m.now,m.now⟩]}
def gy(m:bb)(b:Nat):bb×Nat:=
 let t:=b % 8
 if(8<b/\b<16)\/24<=b then(m,2)
 else if b=8 then(if(iQ m.az).2 then(mN {m with az:=(iQ m.az).1,now:=m.now+1},0)else(m,10))
 else if p9 m t=false then(m,12)
 else if 16<=b then(mN (Cb {m with now:=m.now+1} t),0)
 else(mN (zA {m with now:=m.now+1} t),0)
def rE(m:bb)(t:Nat):Option Call:=if t<8/\ (m.aA t).busy=true then some (m.aA t).c else none
def Cc(m:bb)(t:Nat):Bool:=match rE m t with
 |none=>false
 |some c=>p9 m t&& !c.checked&&B8 m.az.S t c.c
def oF(m:bb)(t:Nat):Bool:=decide (t<8)&&p9 m t&& !Cc m t
structure UC where
 aN:Int
 aC:List lB
 aW:lN
def lk(b:Nat):Bool:=decide (b<8)||decide (b=8)|| (decide (16<=b)&&decide (b<24))
def nu(s:UC):Bool:=
 decide (1<=s.aN/\s.aN<=64/\1<=s.aC.length/\s.aC.length<=8/\s.aW.length<=4000)&&s.aC.all (λp=>(decode p).isSome)&&s.aW.all lk
def oG:bG:=⟨⟨λ_=>⟨0,false,false⟩,λ_=>dB⟩,λ_=>⟨0,xh⟩,⟨λ_=>⟨0,false,false⟩,λ_=>L0⟩,λ_=>⟨λ_=>zw,0,0,false⟩,λi=>decide (i=0),λi=>decide (i=0)⟩
def UD(s:UC):bb:=⟨⟨oG,⟨s.aN.toNat,[(0,s.aN.toNat)],λ_ _=>0,true⟩,λ_=>xn,[]⟩,λi=>{Ca with t:={sU with code:=((s.aC[i]?).bind decode).getD []}},0,[]⟩
def L6(s:UC):bb×lN:=s.aW.foldl (λp b=>((gy p.1 b).1,p.2++[(gy p.1 b).2])) (UD s,[])
def kL:lN:=[iG,j5,mv,m4,qL,sh,pq,po]
noncomputable def X0:Ctx:={df:=λg=>(BZ.lookup g).map λ_=>[.iY g],code:=λf=>if kL.contains f then none else zl.lookup f,bU:=λ_=>none,fa:=λg=>(BZ.lookup g).map qI}
def as2(h:Nat)(c:h<4294967296):dg .and (.int .u32 h) (.int .u32 255)=some (.int .u32 ((h % 256:Nat):Int)):=by
 rw[DE];have e: (BitVec.ofInt IntKind.u32.bits (h:Int)&&&BitVec.ofInt IntKind.u32.bits 255).toNat=h % 256:=by
  show(BitVec.ofInt 32 (h:Int)&&&BitVec.ofInt 32 255).toNat=h % 256;rw[BitVec.toNat_and];have b: (BitVec.ofInt 32 (h:Int)).toNat=h:=by grind
  have a: (BitVec.ofInt 32 255).toNat=2^8-1:=by rfl
  rw[b,a,aCX]
 rw[e,wrap_u32 (by omega) (by omega)]
theorem p8: (2:Int)^min 8 IntKind.u32.bits=256:=by rfl
def ah1: ((a:Nat):Int).fdiv 256=((a/256:Nat):Int):=by grind
def as3(s:Slot)(g:Nat)(a c:Bool):ea (.agg [.int,.bool,.bool]) (.agg (iF s)) (.agg [.int .u32 g,.bool a,.bool c])=some (decide (s=⟨g,a,c⟩)):=by
 obtain⟨b,a',d⟩:=s;simp only[ea,iF,ag5,aoY,aeE,ars,aeF,aiH,and_self,Slot.mk.injEq,Int.natCast_inj]
 grind
def iu(h:Nat):AV:=.au [.int .i64 ((eB h).getD 0:Nat),.bool (eB h).isSome]
def jJ(h:Nat)(b:h<4294967296)(H:List ae)(lo:oN):D X0 (.fn (.func lO) [] []) [.int .u32 h] ⟨H,lo⟩=some (.ret (iu h) ⟨H,lo⟩):=by
 refine aF Rx λN c=>?_
 simp(disch:=omega) only[↓R1,Zz,simprocAttr,Rx,as2 h b];refine uE 19 (.bool (!(eB h).isSome)) [4] rfl rfl ?_ λd=>?_
 ·simp only[R4,↓R1,Zz,simprocAttr,p8,ah1]
  (repeat' (first|apply And.intro|intro _))
  all_goals(refine akp AV.bool ?_;unfold eB;split<;>simp<;>omega)
 cases a:eB h with
 |none=>simp(disch:=omega) only[F1,↓R1,Zz,simprocAttr,iu,a]
 |some i=>
  have: (h % 256:Nat)- (1:Int)=(i:Nat):=by
   unfold eB at a;split at a<;>cases a;omega
  simp(disch:=omega) only[F1,↓R1,Zz,simprocAttr,iu,a,this]
def ah2(i g:Nat)(a:i<32)(b:g<=8388607)(H:List ae)(lo:oN):D X0 (.fn (.func IJ) [] []) [.int .i64 i,.int .u32 g] ⟨H,lo⟩=some (.ret (.int .u32 (c7 i g)) ⟨H,lo⟩):=by
 refine aF RL λN c=>?_
 simp(disch:=omega) only[F1,↓R1,Zz,simprocAttr,RL,p8];exact da (akp _ (by rfl)) rfl
def en(b:cF)(h:Nat)(e:h<4294967296)(H:List ae)(lo:oN):D X0 (.fn (.func lM) [] []) [.agg (bY b),.int .u32 h] ⟨H,lo⟩=some (.ret (.bool (ax b h)) ⟨H,lo⟩):=by
 refine aF Rl λN f=>?_
 simp only[↓R1,Zz,simprocAttr,Rl,f,jJ h e,iu];cases a:eB h with
 |none=>simp(disch:=omega) only[F1,↓R1,Zz,simprocAttr,ax,a]
 |some i=>
  have d:=ahk a;have c: (i:Int)<32:=by omega
  simp(disch:=omega) only[F1,↓aqS,↓R1,Zz,simprocAttr,ax,a,ahf d,c,p8,ah1,as3]
def mO{p:Nat->Prop}{k:Nat}(h: ∀j,j<k->p j)(a:p k): ∀j,j<k+1->p j:=by grind
def as4{p:Nat->Bool}{k:Nat}(b:k<n)(a:p k=true)(h: ∀j,j<k->p j=false): (List.range n).find? p=some k:=by simp_all
def as5{p:Nat->Bool}(h: ∀j,j<n->p j=false): (List.range n).find? p=none:=by grind
def sV(b:cF):AV:=.au [.agg (bY (pT b).1),.int .u32 (pT b).2.1,.bool (pT b).2.2]
theorem L7:Bl.length=96:=by rfl
theorem L8:List.drop 96 Bl=[]:=by rfl
def L9:type_of% L7/\type_of% L8:=by decide
def ah3(b:cF)(r:gM b)(H:List ae)(lo:oN):D X0 (.fn (.func JB) [] []) [.agg (bY b)] ⟨H,lo⟩=some (.ret (sV b) ⟨H,lo⟩):=by
 refine aF Th λN s=>?_
 simp only[go_sem,simprocAttr,Th,s,↓T9];refine dU 32 (λk e H'=> ∃J,H'=cat H (.box (bY b) none:: .box Bl none::J)/\e 1= .ptr N 0/\e 2= .ptr (N+1) 0/\e 8= .agg (bY b)/\e 9= .int .i64 k/\ ∀j,j<k->na b j=false) 0 (by omega) ?_ ?_
 ·simp only[go_sem,simprocAttr];exact⟨[],dO.symm,by simp⟩
 rintro k t e H' ⟨J,rfl,m,l,p,o,f⟩ n q;have d: ∀a b,(cat H (a::b::J)).length=n:=λ_ _=>by rw[<-q,FY,FY];rfl
 simp(disch:=omega) only[bR,F1,go_sem,simprocAttr,agH,m,l,p,o];refine⟨λh=>?_,λh=>?_⟩
 ·have c:k<32:=by omega
  cases g: (b k).eG
  ·cases i: (b k).ret
   ·simp(disch:=first|omega|apply d) only[F1,go_sem,simprocAttr,h,d,Ua c,iF,g,i,m,l,ahi c,ah2 k (b k).gen c (r k).1,L9];have e:nb b=some k:=as4 c (by simp[na,g,i]) f;exact⟨by omega,by simp[sV,pT,e,i]⟩
   ·simp(disch:=first|omega|apply d) only[go_sem,simprocAttr,h,d,Ua c,iF,g,i,m,l,p,o];exact⟨c,_,T7,mO f (by simp[na,i])⟩
  ·simp(disch:=first|omega|apply d) only[go_sem,simprocAttr,h,d,Ua c,iF,g,m,l,p,o];exact⟨c,_,T7,mO f (by simp[na,g])⟩
 ·simp(disch:=first|omega|apply d) only[go_sem,simprocAttr,L9];have e:nb b=none:=as5 λj u=>f j (by omega)
  simp[sV,pT,e]
def atR(b:cF)(k:Nat):AV:=.au [.int .u32 (if k<32/\ (b k).eG=true then c7 k (b k).gen else 0:Nat),.bool (decide (k<32)&& (b k).eG)]
def as6(b:cF)(h:gM b)(k:Nat)(H:List ae)(lo:oN):D X0 (.fn (.func P2) [] []) [.agg (bY b),.int .i64 k] ⟨H,lo⟩=some (.ret (atR b k) ⟨H,lo⟩):=by
 refine aF Fj λN d=>?_
 have e: ¬(k:Int)<0:=by omega
 by_cases a:k<32
 ·have c: ¬(k:Int)>=32:=by omega
  have g: (k:Int)<32:=by omega
  cases f: (b k).eG
  ·simp only[F1,go_sem,simprocAttr,Fj,d,e,c,g,ahh a,f,atR,a]
  ·simp only[F1,go_sem,simprocAttr,Fj,d,e,c,g,ahh a,ahg a,f,ah2 k (b k).gen a (h k).1,atR,a]
 ·have c: (k:Int)>=32:=by omega
  simp only[F1,go_sem,simprocAttr,Fj,d,e,c,atR,a,false_and,akq]
def zD(b:cF)(h:Nat):AV:=.au [.agg (bY (eh b h).1),.bool (eh b h).2]
def ah4(b:cF)(l:gM b)(h:Nat)(f:h<4294967296)(H:List ae)(lo:oN):D X0 (.fn (.func JJ) [] []) [.agg (bY b),.int .u32 h] ⟨H,lo⟩=some (.ret (zD b h) ⟨H,lo⟩):=by
 refine aF LS λN g=>?_
 cases c:ax b h with
 |false=>
  simp only[F1,go_sem,simprocAttr,LS,g,en b h f,c,L9,zD,eh]
 |true=>
  obtain⟨e1,m,e3⟩:=B4 c;have d:=zu h;have e: (aM h:Int)<32:=by omega
  generalize a:aM h=i at*;have k:=(l i).1;simp(disch:=omega) only[bR,F1,go_sem,simprocAttr,LS,g,en b h f,c,L9,jJ h f,iu,e1,e,ahi d,asC d,asB d,ahg d,sD,cT];refine⟨by omega,λj=>⟨by omega,?_⟩,λj=>⟨by omega,?_⟩⟩
  ·simp[zD,eh,c,a,ri,show(b i).gen=8388607 by omega]
  ·simp[zD,eh,c,a,ri,show¬(b i).gen=8388607 by omega]
theorem Cd:jx.length=480:=by rfl
theorem as7:List.drop 480 jx=[]:=by rfl
def cL:type_of% Cd/\type_of% as7/\type_of% L7/\type_of% L8:=by decide
def zE(n:Nat)(H:List ae)(lo:oN):D X0 (.fn (.func JI) [] []) [.int .i64 n] ⟨H,lo⟩=some (.ret (.bool (decide (n<=64))) ⟨H,lo⟩):=by
 refine aF Tu λN b=>?_
 have a: (n:Int)>=0:=by omega
 simp(disch:=omega) only[F1,go_sem,simprocAttr,Tu,a];exact da (akp AV.bool (apk.2 (by grind))) rfl
theorem ah5:bS dB=[.int .u32 0,.int .i64 0,.ai,.int .i64 0,.int .u32 0,.int .u32 0,.int .u32 0,.int .u32 0,.int .u32 0,.int .u32 0,.int .u32 0,.int .u32 0]:=rfl
def ah6(t:aw)(j:bN t)(h:Nat)(d:h<4294967296)(H:List ae)(lo:oN):D X0 (.fn (.func IB) [] []) [.agg (aI t),.int .u32 h] ⟨H,lo⟩=some (.ret (.int .u32 (kf t (aM h))) ⟨H,lo⟩):=by
 refine aF KU λN g=>?_
 have c:=zu h;have a: (aM h:Int)<32:=by omega
 have e:iu h= .au [.int .i64 (aM h:Nat),.bool (eB h).isSome]:=rfl;have hu:=(j.r (aM h)).up;generalize aM h=i at*;have f:ax t.b (t.r i).up=t.ax (t.r i).up:=rfl;cases b:t.ax (t.r i).up
 ·simp only[F1,go_sem,simprocAttr,KU,g,jJ h d,e,a,Uh c,en t.b (t.r i).up hu,f,b,kf,agX]
 ·simp only[F1,go_sem,simprocAttr,KU,g,jJ h d,e,a,Uh c,en t.b (t.r i).up hu,f,b,kf]
def nv(t:aw)(h:Nat):AV:=.au [.agg (bS (aK t h).1),.int .i64 (aK t h).2]
def vx(t:aw)(j:bN t)(h:Nat)(c:h<4294967296)(H:List ae)(lo:oN):D X0 (.fn (.func uJ) [] []) [.agg (aI t),.int .u32 h] ⟨H,lo⟩=some (.ret (nv t h) ⟨H,lo⟩):=by
 refine aF KN λN i=>?_
 have k:=zu h;have f: (aM h:Int)<32:=by omega
 have e:iu h= .au [.int .i64 (aM h:Nat),.bool (eB h).isSome]:=rfl;have d:=ah6 t j h c;have b:aK t h=if t.ax h then({t.r (aM h)with up:=kf t (aM h)},0)else(dB,4):=rfl
 unfold nv;rw[b];have g:ax t.b h=t.ax h:=rfl;cases a:t.ax h
 ·simp only[F1,go_sem,simprocAttr,KN,i,en t.b h c,g,a,ah5,agX]
 ·simp only[F1,go_sem,simprocAttr,KN,i,jJ h c,e,f,asH k,en t.b h c,g,a,d]
def zF(t:aw)(a n:Nat):AV:=.au [.agg (aI (lV t a n).1),.int .u32 (lV t a n).2.1,.int .i64 (lV t a n).2.2]
theorem ah7: [AV.int .u32 0,.int .i64 n,.ai,.int .i64 0,.int .u32 0,.int .u32 0,.int .u32 0,.int .u32 0,.int .u32 0,.int .u32 0,.int .u32 0,.int .u32 0]=bS {dB with up:=0,ds:=n}:=rfl
theorem as8{u:Nat}: [AV.int .u32 (u:Nat),.int .i64 n,.ai,.int .i64 0,.int .u32 0,.int .u32 0,.int .u32 0,.int .u32 0,.int .u32 0,.int .u32 0,.int .u32 0,.int .u32 0]=bS {dB with up:=u,ds:=n}:=rfl
def as9(t:aw)(o:bN t)(a n:Nat)(m:a<4294967296)(H:List ae)(lo:oN):D X0 (.fn (.func QT) [] []) [.agg (aI t),.int .u32 a,.int .i64 n] ⟨H,lo⟩=some (.ret (zF t a n) ⟨H,lo⟩):=by
 refine aF vc λN j=>?_
 have p:ax t.b a=t.ax a:=rfl;have d:=ah3 t.b o.b;unfold zF lV;by_cases e:a≠0/\t.ax a=false
 ·rw[afl e];have b: ¬(a:Int)=0:=by omega
  simp only[F1,go_sem,simprocAttr,vc,j,b,en t.b a m,p,e.2,cL]
 ·rw[afi e];have c:a=0\/ (¬(a:Int)=0/\t.ax a=true):=by
   by_cases s:a=0
   ·exact .inl s
   ·refine .inr ⟨by omega,?_⟩;cases u:t.ax a
    ·exact absurd ⟨s,u⟩ e
    ·rfl
  by_cases r:64<n
  ·rw[afl r];have h:decide (n<=64)=false:=by simp;omega
   rcases c with rfl| ⟨b,g⟩
   ·simp only[F1,go_sem,simprocAttr,vc,j,zE,h,cL]
   ·simp only[F1,go_sem,simprocAttr,vc,j,b,en t.b a m,p,g,zE,h,cL]
  ·rw[afi r];have h:decide (n<=64)=true:=by simp;omega
   cases l:nb t.b with
   |none=>
    rcases c with rfl| ⟨b,g⟩
    ·simp only[F1,go_sem,simprocAttr,vc,j,zE,h,cL,d,sV,pT,l]
    ·simp only[F1,go_sem,simprocAttr,vc,j,b,en t.b a m,p,g,zE,h,cL,d,sV,pT,l]
   |some i=>
    obtain⟨f,x,w,v⟩:=sK l;have k: (i:Int)<32:=by omega
    have q:eB (c7 i (t.b i).gen)=some i:=Uc f (o.b i).1;rcases c with rfl| ⟨b,g⟩
    ·simp only[F1,go_sem,simprocAttr,vc,j,zE,h,cL,d,sV,pT,l,k,jJ (c7 i (t.b i).gen) (F4 f (o.b i).1),iu,q,ah7,LZ f];omega
    ·simp only[F1,go_sem,simprocAttr,vc,j,b,en t.b a m,p,g,zE,h,cL,d,sV,pT,l,k,jJ (c7 i (t.b i).gen) (F4 f (o.b i).1),iu,q,as8,LZ f];omega
def UE(t:aw)(h:Nat):AV:=.au [.agg (aI (lg t h).1),.int .i64 (lg t h).2]
def ata(t:aw)(i:bN t)(h:Nat)(f:h<4294967296)(H:List ae)(lo:oN):D X0 (.fn (.func Q5) [] []) [.agg (aI t),.int .u32 h] ⟨H,lo⟩=some (.ret (UE t h) ⟨H,lo⟩):=by
 refine aF LP λN g=>?_
 have j:=zu h;have a: (aM h:Int)<32:=by omega
 have e:iu h= .au [.int .i64 (aM h:Nat),.bool (eB h).isSome]:=rfl;have d:=ah4 t.b i.b h f;have k:ax t.b h=t.ax h:=rfl;unfold UE lg;cases b:t.ax h
 ·have c:eh t.b h=(t.b,false):=by unfold eh;grind
  simp only[F1,go_sem,simprocAttr,LP,g,d,zD,c,cL,agX]
 ·have c: (eh t.b h).2=true:=by unfold eh;rw[k,b];rfl
  simp only[F1,go_sem,simprocAttr,LP,g,d,zD,c,cL,jJ h f,e,a,<-ah5,LZ j];omega
def eX[Inhabited α]{k:Nat}(h:k<l.length):l.getD k default∈l:=by grind
def gi{α:Type}(p:α->Bool)(l:List α):Int:=match l.findIdx? p with
 |some i=>i
 |none=> -1
def xq(p:α->Bool)(l:List α):decide (0<=gi p l)=l.any p:=by
 unfold gi
 grind
def vy[Inhabited α]{p:α->Bool}{k:Nat}(b:k<l.length)(h: ∀j,j<k->p (l.getD j default)=false)(a:p (l.getD k default)=true):gi p l=k:=by
 have:l.findIdx? p=some k:=by grind [List.findIdx?_eq_some_iff_getElem]
 unfold gi;rw[this]
def vz[Inhabited α]{p:α->Bool}(h: ∀j,j<l.length->p (l.getD j default)=false):gi p l= -1:=by
 have:l.findIdx? p=none:=by grind [List.findIdx?_eq_none_iff,List.getElem_of_mem]
 unfold gi;rw[this]
def hC(h:Nat):lA:=[.int .u32 h]
theorem pH:Den.part false 1 (hC h) 0=some (.int .u32 h):=rfl
def bC(b:UInt8):lA:=[.int .u8 b.toNat]
theorem pB{b:UInt8}:Den.part false 1 (bC b) 0=some (.int .u8 b.toNat):=rfl
def sC(s:lB):lA:=[S s]
theorem pS{s:lB}:Den.part false 1 (sC s) 0=some (S s):=rfl
structure Instr where
 op:Nat
 a:Nat
 b:Nat
 c:Nat
 n:Nat
 deriving DecidableEq,Inhabited
def ah8(v fv:AV)(l:List aE)(b:Rv v 2 (l.map ay))(r:l.length<2^40)(p:aE->Bool)(H:List ae)(lo:oN)
  (o: ∀x∈l,D X0 fv [.agg (ay x)] ⟨H,none⟩=some (.ret (.bool (p x)) ⟨H,none⟩)):D X0 (.fn (.func II) [] []) [v,fv] ⟨H,lo⟩=some (.ret (.int .i64 (gi p l)) ⟨H,lo⟩):=by
 refine aF RI λN u=>?_
 simp only[go_sem,simprocAttr,RI,b.bK];refine dU l.length (λk e H'=>H'=H/\e 0=v/\e 1=fv/\e 7= .int .i64 l.length/\e 8= .int .i64 k/\ ∀j,j<k->p (l.getD j default)=false) 0 (by omega) ?_ ?_
 ·simp only[go_sem,simprocAttr];omega
 ·rintro k s e H' ⟨rfl,i,g,f,d,c⟩ n q;simp(disch:=omega) only[bR,F1,go_sem,simprocAttr,af8,i,g,f,d];refine⟨λh=>?_,λh=>?_⟩
  ·have a:k<l.length:=by omega
   simp(disch:=omega) only[go_sem,simprocAttr,b.ck,b.cE,↓Up,o _ (eX a)];refine⟨by omega,?_⟩;cases m:p (l.getD k default)
   ·simp(disch:=omega) only[go_sem,simprocAttr,i,g,f,d]
    grind
   ·simp(disch:=omega) only[F1,go_sem,simprocAttr];rw[vy a c m]
  ·rw[vz (λj t=>c j (by omega))]
def atb(v fv:AV)(l:List aE)(a:Rv v 2 (l.map ay))(b:l.length<2^40)(p:aE->Bool)(H:List ae)(lo:oN)
  (c: ∀x∈l,D X0 fv [.agg (ay x)] ⟨H,none⟩=some (.ret (.bool (p x)) ⟨H,none⟩)):D X0 (.fn (.func PY) [] []) [v,fv] ⟨H,lo⟩=some (.ret (.bool (l.any p)) ⟨H,lo⟩):=by
 refine aF Ru λN d=>?_
 simp(disch:=omega) only[F1,go_sem,simprocAttr,Ru,ah8 v fv l a b p H none c,xq]
def ah9{X:Ctx}(a:Ext X0 X)(h:X0.code f=some pf)(b:X0.bU f=none):X.bU f=none:=by
 rcases a.bU f with e| ⟨_,e⟩
 ·grind
 grind
def aia{X:Ctx}(a:Ext X0 X)(h:X0.code f=some pf):X.code f=some pf:=by rw[a.code];exact h
theorem up{X:Ctx}(a:Ext X0 X){args:lA}{E:AS}{r:aS}(h:D X0 v args E=some r):D X v args E=some r:=afd a _ _ _ _ h
def aib{X:Ctx}(f:Ext X0 X)(v fv:AV)(l:lN)(H:List ae)(b:Rd ⟨H,none⟩ v 1 (l.map hC))(s:l.length<2^40)(p:Nat->Bool)(lo:oN)
  (q: ∀x∈l,D X fv [.int .u32 x] ⟨H,none⟩=some (.ret (.bool (p x)) ⟨H,none⟩)):D X (.fn (.func I2) [] []) [v,fv] ⟨H,lo⟩=some (.ret (.int .i64 (gi p l)) ⟨H,lo⟩):=by
 refine OM Sw (ah9 f rfl rfl) (aia f rfl) rfl λN w=>?_
 simp only[go_sem,simprocAttr,Sw,b.bK];refine dU l.length (λk e H'=>H'=H/\e 0=v/\e 1=fv/\e 7= .int .i64 l.length/\e 8= .int .i64 k/\ ∀j,j<k->p (l.getD j default)=false) 0 (by omega) ?_ ?_
 ·simp only[go_sem,simprocAttr];omega
 ·rintro k t e H' ⟨rfl,o,m,i,g,c⟩ n r;simp(disch:=omega) only[bR,F1,go_sem,simprocAttr,agq,o,m,i,g];refine⟨λh=>?_,λh=>?_⟩
  ·have a:k<l.length:=by omega
   simp(disch:=omega) only[go_sem,simprocAttr,b.ck,b.cE,↓pH,q _ (eX a)];refine⟨by omega,?_⟩;cases d:p (l.getD k default)
   ·simp(disch:=omega) only[go_sem,simprocAttr,o,m,i,g];exact⟨a,mO c d⟩
   ·simp(disch:=omega) only[F1,go_sem,simprocAttr];rw[vy a c d]
  ·rw[vz (λj u=>c j (by omega))]
def aic{X:Ctx}(a:Ext X0 X)(v fv:AV)(l:lN)(H:List ae)(b:Rd ⟨H,none⟩ v 1 (l.map hC))(c:l.length<2^40)(p:Nat->Bool)(lo:oN)
  (d: ∀x∈l,D X fv [.int .u32 x] ⟨H,none⟩=some (.ret (.bool (p x)) ⟨H,none⟩)):D X (.fn (.func JG) [] []) [v,fv] ⟨H,lo⟩=some (.ret (.bool (l.any p)) ⟨H,lo⟩):=by
 refine OM Tr (ah9 a rfl rfl) (aia a rfl) rfl λN e=>?_
 simp(disch:=omega) only[F1,go_sem,simprocAttr,Tr,aib a v fv l H b c p none d,xq]
def atc(v fv:AV)(l:lB)(b:Rv v 1 (l.map bC))(r:l.length<2^40)(p:UInt8->Bool)(H:List ae)(lo:oN)
  (o: ∀x∈l,D X0 fv [.int .u8 x.toNat] ⟨H,none⟩=some (.ret (.bool (p x)) ⟨H,none⟩)):D X0 (.fn (.func D2) [] []) [v,fv] ⟨H,lo⟩=some (.ret (.int .i64 (gi p l)) ⟨H,lo⟩):=by
 refine aF Fp λN u=>?_
 simp only[go_sem,simprocAttr,Fp,b.bK];refine dU l.length (λk e H'=>H'=H/\e 0=v/\e 1=fv/\e 7= .int .i64 l.length/\e 8= .int .i64 k/\ ∀j,j<k->p (l.getD j default)=false) 0 (by omega) ?_ ?_
 ·simp only[go_sem,simprocAttr];omega
 ·rintro k s e H' ⟨rfl,m,i,g,f,c⟩ n q;simp(disch:=omega) only[bR,F1,go_sem,simprocAttr,RZ,m,i,g,f];refine⟨λh=>?_,λh=>?_⟩
  ·have a:k<l.length:=by omega
   simp(disch:=omega) only[go_sem,simprocAttr,b.ck,b.cE,↓pB,o _ (eX a)];refine⟨by omega,?_⟩;cases d:p (l.getD k default)
   ·simp(disch:=omega) only[go_sem,simprocAttr,m,i,g,f];exact⟨a,mO c d⟩
   ·simp(disch:=omega) only[F1,go_sem,simprocAttr];rw[vy a c d]
  ·rw[vz (λj t=>c j (by omega))]
def atd(v fv:AV)(l:lB)(a:Rv v 1 (l.map bC))(b:l.length<2^40)(p:UInt8->Bool)(H:List ae)(lo:oN)
  (c: ∀x∈l,D X0 fv [.int .u8 x.toNat] ⟨H,none⟩=some (.ret (.bool (p x)) ⟨H,none⟩)):D X0 (.fn (.func P6) [] []) [v,fv] ⟨H,lo⟩=some (.ret (.bool (l.any p)) ⟨H,lo⟩):=by
 refine aF RC λN d=>?_
 simp(disch:=omega) only[F1,go_sem,simprocAttr,RC,atc v fv l a b p H none c,xq]
def ate(v fv:AV)(l:List lB)(b:Rv v 1 (l.map sC))(r:l.length<2^40)(p: lB->Bool)(H:List ae)(lo:oN)
  (o: ∀x∈l,D X0 fv [S x] ⟨H,none⟩=some (.ret (.bool (p x)) ⟨H,none⟩)):D X0 (.fn (.func Qe) [] []) [v,fv] ⟨H,lo⟩=some (.ret (.int .i64 (gi p l)) ⟨H,lo⟩):=by
 refine aF RY λN u=>?_
 simp only[go_sem,simprocAttr,RY,b.bK];refine dU l.length (λk e H'=>H'=H/\e 0=v/\e 1=fv/\e 7= .int .i64 l.length/\e 8= .int .i64 k/\ ∀j,j<k->p (l.getD j default)=false) 0 (by omega) ?_ ?_
 ·simp only[go_sem,simprocAttr];omega
 ·rintro k s e H' ⟨rfl,m,i,g,f,c⟩ n q;simp(disch:=omega) only[bR,F1,go_sem,simprocAttr,agd,m,i,g,f];refine⟨λh=>?_,λh=>?_⟩
  ·have a:k<l.length:=by omega
   simp(disch:=omega) only[go_sem,simprocAttr,b.ck,b.cE,↓pS,o _ (eX a)];refine⟨by omega,?_⟩;cases d:p (l.getD k default)
   ·simp(disch:=omega) only[go_sem,simprocAttr,m,i,g,f];exact⟨a,mO c d⟩
   ·simp(disch:=omega) only[F1,go_sem,simprocAttr];rw[vy a c d]
  ·rw[vz (λj t=>c j (by omega))]
def atf(v fv:AV)(l:List lB)(a:Rv v 1 (l.map sC))(b:l.length<2^40)(p: lB->Bool)(H:List ae)(lo:oN)
  (c: ∀x∈l,D X0 fv [S x] ⟨H,none⟩=some (.ret (.bool (p x)) ⟨H,none⟩)):D X0 (.fn (.func P5) [] []) [v,fv] ⟨H,lo⟩=some (.ret (.bool (l.any p)) ⟨H,lo⟩):=by
 refine aF RA λN d=>?_
 simp(disch:=omega) only[F1,go_sem,simprocAttr,RA,ate v fv l a b p H none c,xq]
def Ce(r:aE)(b:r.1+r.2<4294967296)(H:List ae)(lo:oN):D X0 (.fn (.func nX) [] []) [.agg (ay r)] ⟨H,lo⟩=some (.ret (.int .i64 (r.1+r.2:Nat)) ⟨H,lo⟩):=by
 refine aF RJ λN a=>?_
 simp(disch:=omega) only[F1,go_sem,simprocAttr,RJ,a,ay,api]
def UF(r:aE)(c:r.1<4294967296)(b:r.2<4294967296)(H:List ae)(lo:oN):D X0 (.fn (.func DT) [] []) [.agg (ay r)] ⟨H,lo⟩=some (.ret (.bool (ld r)) ⟨H,lo⟩):=by
 refine aF Rt λN a=>?_
 simp(disch:=omega) only[R4,F1,go_sem,simprocAttr,Rt,a,ay,ld]
 (repeat' (first|apply And.intro|intro _))
 all_goals(first|omega| (refine da (akp AV.bool (apk.2 ?_)) rfl;grind))
def holds(y x:aE):Bool:=decide (x=y)|| (decide (y.1<=x.1)&&decide (x.1+x.2<=y.1+y.2))
def run_eq(a b:aE):ea (.agg [.int,.int]) (.agg (ay a)) (.agg (ay b))=some (decide (a=b)):=by
 obtain⟨f,e⟩:=a;obtain⟨d,c⟩:=b;simp only[ea,ay,ag5,aoY,aeE,aeF,aiH,and_self,aq5,Int.natCast_inj]
 grind
def aid(y x:aE)(d:y.1+y.2<4294967296)(e:x.1+x.2<4294967296)(H:List ae)(lo:oN):D X0 (.fn (.func IA) [] []) [.agg (ay y),.agg (ay x)] ⟨H,lo⟩=some (.ret (.bool (holds y x)) ⟨H,lo⟩):=by
 refine aF Fi λN b=>?_
 have f:=Ce y d;have ex:=Ce x e;by_cases he:x=y
 ·simp only[F1,go_sem,simprocAttr,Fi,b,run_eq,he,holds]
 ·by_cases c:y.1<=x.1
  ·have a: (y.1:Int)<=x.1:=by omega
   simp only[F1,go_sem,simprocAttr,Fi,b,run_eq,he,holds,c,a,f,ex,api];refine da (akp AV.bool (apk.2 ?_)) rfl
   grind
  ·have a: ¬(y.1:Int)<=x.1:=by omega
   simp only[F1,go_sem,simprocAttr,Fi,b,run_eq,he,holds,c,a,akq,arK]
def zG(l:List aE):Prop:=l.length<=64/\ ∀x∈l,x.1+x.2<=64
def atg(x y:aE)(c:x.1+x.2<4294967296)(b:y.1+y.2<4294967296)(p:Nat)(H:List ae)(lo:oN)(e:H[p]?=some (.box (ay x) none)):
  D X0 (.fn (.func Iz) [] [.ptr p 0]) [.agg (ay y)] ⟨H,lo⟩=some (.ret (.bool (holds y x)) ⟨H,lo⟩):=by
 refine eP Rw λN d=>?_
 have a: ∀L,(H++L)[p]?=some (.box (ay x) none):=λL=>by grind
 simp only[F1,go_sem,simprocAttr,Rw,d,a,aid y x b c]
def Ma(l:List aE)(k:Nat):Bool:=decide (k<64)&&l.any λy=>holds y (k,1)
def ath(v:AV)(l:List aE)(f:Rv v 2 (l.map ay))(b:zG l)(k:Nat)(i:k<2147483648)(H:List ae)(lo:oN):
  D X0 (.fn (.func PJ) [] []) [.agg [v],.int .i64 k] ⟨H,lo⟩=some (.ret (.bool (Ma l k)) ⟨H,lo⟩):=by
 refine aF KM λN a=>?_
 have hm:=UF (k,1) (by omega) (by simp);have c:=atb v (.fn (.func Iz) [] [.ptr (N+1) 0]) l f (by have:=b.1;omega) (λy=>holds y (k,1)) (H++[.box [v] none,.box (ay (k,1)) none]) none (λy d=>atg (k,1) y (by omega) (by have:=b.2 y d;omega) (N+1) _ none (by rw[bz a];rfl));have g:ay (k,1)=[.int .i64 (k:Nat),.int .i64 1]:=rfl;rw[g]at hm c;by_cases h:k<64
 ·have e:ld (k,1)=true:=by simp[ld];omega
  simp only[F1,go_sem,simprocAttr,KM,a,hm,e,c];simp[Ma,h]
 ·have e:ld (k,1)=false:=by simp[ld];omega
  simp only[F1,go_sem,simprocAttr,KM,a,hm,e];simp[Ma,h]
def vA{X:Ctx}(pf:PF){args cap:lA}{H:List ae}{R:aS->Prop}(b:X.bU f=none)(d:X.code f=some pf)(c:Nat.ble (args++cap).length pf.ntmps=true)
 (h: ∀n,H.length=n->wp X f false pf.body ⟨cZ (args++cap),[]⟩ ⟨H,none⟩ (dn X n lo pf.results R)): ∃a,D X (.fn (.func f) [] cap) args ⟨H,lo⟩=some a/\R a:=by simp_all[ara,OK]
def sW(l:List aE):List lA:=(List.range l.length).map λi=>[.int .i64 (i:Nat),.agg (ay (l.getD i default))]
def zH(l:List aE): (sW l).length=l.length:=by simp[sW]
def Mb{l:List aE}(h:j<l.length): (sW l)[j]?=some [.int .i64 (j:Nat),.agg (ay (l.getD j default))]:=by
 unfold sW;grind
def Cf{N id o:Nat}{f:Fn}{L:lA}{H:List ae}(h:N<=id):finish N lo (.fn f [] (.ptr id o::L)) ⟨H,none⟩=(.fn f [] (.ptr id o::L),⟨H,lo⟩):=by
 have a: ¬(AV.fn f [] (.ptr id o::L)).refs<=N:=by simp only[AV.refs,aG];omega
 refine aeG a ?_;unfold Den.freeze;simp[a]
def aie(a:Rv v sz af){H:List ae}{tg:Option TypeId}:qF ⟨H,lo⟩ v tg=some (.ptr H.length 0,⟨H++[.box [v] tg],lo⟩):=by
 obtain⟨h,_,_⟩:=a ⟨[],none⟩;cases v<;>first|rfl|grind
def cM(b:Rv v sz af)(c:b8 af=0):v.refs=0:=by
 obtain⟨d,a,e⟩:=b ⟨[],none⟩;cases v<;>simp only[]at d
 ·rfl
 ·simp only[Den.elems]at a;split at a
  ·cases a;simpa only[AV.refs]using c
  grind
 ·trivial
def aif(v:AV)(l:List aE)(d:Rv v 2 (l.map ay))(N:Nat)(H:List ae)(c:H.length=N)(lo:oN):
  D X0 (.fn (.func Ix) [] []) [.agg [v]] ⟨H,lo⟩=some (.ret (.fn (.func qK) [] [.ptr (N+1) 0]) ⟨H++[.box [v] none,.box [v] none],lo⟩):=by
 have e:=λH'=>aie (H:=H') (lo:=none) (tg:=none) d
 have e1:D X0 (.fn (.func P9) [] []) [v] ⟨H++[.box [v] none],none⟩=some (.ret (.fn (.func qK) [] [.ptr (N+1) 0]) ⟨H++[.box [v] none,.box [v] none],none⟩):=by
  refine aF RH λM a=>?_
  have b:M=N+1:=by rw[<-a];simp[c]
  subst b;simp only[go_sem,simprocAttr,RH,a,e];rw[Cf (by omega)]
 refine aF Rs λM a=>?_
 obtain rfl:M=N:=by rw[<-a,c]
 simp only[go_sem,simprocAttr,Rs,a,e1];rw[Cf (by omega)]
def ati(v:AV)(l:List aE)(w:Rv v 2 (l.map ay))(O:zG l)(a:Nat)(o:ae):
  afk X0 (.fn (.func qK) [] [.ptr (a+1) 0]) a [o,.box [v] none] (sW l):=by
 intro y I J x A M B S lo;have K:l.length<=64:=O.1
 suffices h: ∃p,D X0 (.fn (.func qK) [] [.ptr (a+1) 0]) [y] ⟨A++([o,.box [v] none]++M),lo⟩=some p/\
   (λp=> ∃A' c,A'.length=a/\c.length=M.length/\p=aS.ret (.au []) ⟨A'++([o,.box [v] none]++c),lo⟩/\ (I (sW l).length A' c\/J A' c)) p by
  obtain⟨p,R,A',c,f,r,rfl,q⟩:=h;exact⟨A',[o,.box [v] none],c,f,rfl,r,R,q⟩
 refine vA Fs rfl rfl rfl λN Q=>?_
 have z:N=a+(2+M.length):=by rw[<-Q];simp[B];omega
 have P: ∀ (A' c:List ae),A'.length=a->(A'++(o:: .box [v] none::c))[a+1]?=some (.box [v] none):=by
  intro A' c h;rw[bz h];rfl
 simp only[go_sem,simprocAttr,Fs,P A M B,w.bK];refine dU l.length (λk e H'=> ∃A' c L,A'.length=a/\c.length=M.length/\H'=A'++([o,.box [v] none]++(c++L))/\I k A' c/\e 0=y/\e 5=v/\e 6= .int .i64 l.length/\e 7= .int .i64 k) 0 (by omega) ?_ ?_
 ·simp only[go_sem,simprocAttr];exact⟨A,M,[],B,rfl,by simp,S⟩
 rintro k U e H' ⟨A',c,L,f,r,m,q,F,E,e6,e7⟩ n H;have g: ∀ (d M2 s:List ae),d.length=a->M2.length=M.length->(d++([o,.box [v] none]++(M2++s))).take N=d++([o,.box [v] none]++M2):=by
  intro d M2 s g1 g2;have:d++([o,.box [v] none]++(M2++s))=(d++([o,.box [v] none]++M2))++s:=by simp
  rw[this];exact ape (by simp[g1,g2,z];omega)
 simp only[bR,F1,go_sem,simprocAttr,R3,E,e6,e7];refine⟨λh=>?_,λh=>?_⟩
 ·have j:k<l.length:=by omega
  obtain⟨b,d,M2,u,T,G,C⟩:=x k _ (Mb j) A' c q f [o,.box [v] none] (L++[.box (ay (l.getD k default)) none]) none rfl;have t:D X0 y [.int .i64 k,.agg (ay (l.getD k default))] ⟨H'++[.box (ay (l.getD k default)) none],none⟩=some (.ret (.bool b) ⟨d++([o,.box [v] none]++(M2++(L++[.box (ay (l.getD k default)) none]))),none⟩):=by
   rw[<-G,m];simp
  simp(disch:=omega) only[go_sem,simprocAttr,w.ck,w.cE,h,H,F,t];cases b
  ·simp only[F1,go_sem,simprocAttr];refine⟨d,M2,u,by omega,?_,.inr C⟩;have i:=g d M2 (L++[.box (ay (l.getD k default)) none]) u (by omega);simp only[akr,aiL]at i;exact da rfl i
  ·simp(disch:=omega) only[go_sem,simprocAttr,F,E,e6,e7];exact⟨j,d,M2,L++[.box (ay (l.getD k default)) none],u,by omega,rfl,C⟩
 ·subst m;refine⟨A',c,f,r,?_,.inl ?_⟩
  ·have i:=g A' c L f r;simp only[akr,aiL]at i;exact da rfl i
  ·rw[zH,show l.length=k by omega];exact q
def nw{X:Ctx}{a:List RV}{R:aS->Prop}{e:Env}{b:lN}{H:List ae}{l:oN}:
  dn X n lo a R .ret ⟨e,p::b⟩ ⟨H,l⟩=match H[p]? with|some .bD=>dn X n lo a R .ret ⟨e,b⟩ ⟨H.set p .dead,l⟩|_=>False:=by
 simp only[wj,dy];cases c:H[p]? with
 |none=>simp
 |some o=>cases o<;>simp[AS.set]
def atj{H B G:List ae}{o:ae}{N:Nat}(b:H.length=N)(a:N+(B.length+G.length)=p): (cat H (B++(G++[.bD,o]))++M)[p]?=some .bD:=by grind [dO]
def atk{H B G:List ae}{o:ae}{N:Nat}(b:H.length=N)(a:N+(B.length+G.length)=p): (cat H (B++(G++[.bD,o]))++M).set p .dead=cat H (B++(G++[.dead,o]))++M:=by grind [dO,DC]
def aih{H B G:List ae}{o:ae}{N:Nat}(b:H.length=N)(a:N+(B.length+G.length)=p): (cat H (B++(G++[.bD,o])))[p]?=some .bD:=by
 have:=atj (M:=[]) (o:=o) b a;grind
def aii{H B G:List ae}{o:ae}{N:Nat}(b:H.length=N)(a:N+(B.length+G.length)=p): (cat H (B++(G++[.bD,o]))).set p .dead=cat H (B++(G++[.dead,o])):=by
 have:=atk (M:=[]) (o:=o) b a;grind
def aij(a:Ex)(I:List ae->Prop)(J:Ex->List ae->Prop)(A:List ae):Prop:=match a with|.normal=>I A|.panic _=>False|a=>J a A
theorem atl{b:Fr}{H B R:List ae}{I:List ae->Prop}{J:Ex->List ae->Prop}{a:Ex}(c:H.length+B.length=n)(h:aij a I J (H++B)):Ps n R I J a b ⟨cat H (B++R)++M,none⟩:=
 ⟨rfl,H++B,M,by rw[dO];simp,by grind,h⟩
theorem UG{g:Fr}{H R:List ae}{a b c d:ae}{I:List ae->Prop}{J:Ex->List ae->Prop}{e:Ex}(f:H.length+4=n)(h:aij e I J (H++[a,b,c,d])):Ps n R I J e g ⟨cat H (a::b::c::d::R)++M,none⟩:=atl (B:=[a,b,c,d]) f h
def fits(n:Nat)(x:aE):Bool:=decide (1<=n)&&decide (n<=x.2)
def Mc(l:List aE)(n:Nat):AV:=match l.find? (fits n)with
 |some x=>.au [.int .i64 (x.1:Nat),.bool true]
 |none=>.au [.int .i64 0,.bool false]
def aik[Inhabited α]{p:α->Bool}{k:Nat}(b:k<l.length)(h: ∀j,j<k->p (l.getD j default)=false)(a:p (l.getD k default)=true):l.find? p=some (l.getD k default):=by grind [List.find?_eq_some_iff_getElem]
def ail[Inhabited α]{p:α->Bool}(h: ∀j,j<l.length->p (l.getD j default)=false):l.find? p=none:=by grind [List.find?_eq_none,List.getElem_of_mem]
def atm(v:AV)(l:List aE)(P:Rv v 2 (l.map ay))(V:zG l)(m:Nat)(H:List ae)(lo:oN):
  D X0 (.fn (.func Qr) [] []) [.agg [v],.int .i64 m] ⟨H,lo⟩=some (.ret (Mc l m) ⟨H,lo⟩):=by
 refine aF Si λN r=>?_
 have he:=aif v l P (N+4) (H++[.box [v] none,.box [.int .i64 m] none,.box [.int .i64 0] none,.box [.bool false] none]) (by simp[r]) none;simp only[go_sem,simprocAttr,Si,r,he];have K:H++[ae.box [v] none,.box [.int .i64 m] none,.box [.int .i64 0] none,.box [.bool false] none,.box [v] none,.box [v] none]=(H++[ae.box [v] none,.box [.int .i64 m] none,.box [.int .i64 0] none,.box [.bool false] none])++[.box [v] none,.box [v] none]:=by simp
 rw[K];generalize q: ((((((cZ [AV.agg [v],AV.int .i64 m]).set 2 (AV.ptr N 0)).set 3 (AV.ptr (N+1) 0)).set 4 (AV.ptr (N+2) 0)).set 5 (AV.ptr (N+3) 0)).set 8 (AV.agg [v])).set 9 (AV.fn (Fn.func qK) [] [AV.ptr (N+4+1) 0])=e;have G:e 3= .ptr (N+1) 0:=by rw[<-q];rfl
 have F:e 4= .ptr (N+2) 0:=by rw[<-q];rfl
 have E:e 5= .ptr (N+3) 0:=by rw[<-q];rfl
 have O: (ao.t 9).get e= .fn (.func qK) [] [.ptr (N+4+1) 0]:=by rw[<-q];rfl
 clear q;have Z: (H++[ae.box [v] none,.box [.int .i64 m] none,.box [.int .i64 0] none,.box [.bool false] none]).length=N+4:=by simp[r]
 refine arH (sW l) _ _ (by rw[O];rfl) (by rw[O,Z];exact ati v l P V (N+4) _)
  (λj C=>C=H++[.box [v] none,.box [.int .i64 m] none,.box [.int .i64 0] none,.box [.bool false] none]/\ ∀i,i<j->fits m (l.getD i default)=false)
  (λex C=>ex= .ret/\ ∃x,l.find? (fits m)=some x/\C=H++[.box [v] none,.box [.int .i64 m] none,.box [.int .i64 (x.1:Nat)] none,.box [.bool true] none])
  ⟨rfl,λi W=>absurd W (aqQ i)⟩ ?_ ?_ ?_
 ·intro j x y;have S:j<l.length:=by
   have:=(aeA.1 y).1;rwa[zH]at this
  rw[Mb S]at y;cases y;refine⟨rfl,?_⟩;rintro C Y ⟨rfl,f⟩ R;obtain⟨n,Q⟩: ∃n,H.length+(R.length+1+1+1+1)=n:=⟨_,rfl⟩;simp only[go_sem,simprocAttr,iD];simp only[Q];refine⟨[.box (ay (l.getD j default)) none],rfl,λM X=>?_⟩;have t: ∀a b c d:ae,(cat H (a::b::c::d::M)).length=n:=λa b c d=>by rw[<-Q,FY];simp[X]
  have z: ∀a b c d e:ae,H++(a::b::c::d:: (M++[e]))=cat H (a::b::c::d::M)++[e]:=λa b c d e=>by rw[dO];simp
  rw[z];by_cases U:1<=m
  ·have s: (m:Int)>=1:=by omega
   by_cases T:m<=(l.getD j default).2
   ·have w: ((l.getD j default).2:Int)>=m:=by omega
    simp(disch:=first|omega|apply t) only[go_sem,simprocAttr,Lg,G,F,E,s,w];exact UG (by simp) ⟨rfl,_,aik S f (by unfold fits;rw[aiq];exact⟨agR U,agR T⟩),rfl⟩
   ·have w: ¬((l.getD j default).2:Int)>=m:=by omega
    simp(disch:=first|omega|apply t) only[go_sem,simprocAttr,Lg,G,s,w];exact UG (by simp) ⟨rfl,mO f (by unfold fits;rw[Bool.and_eq_false_iff];exact .inr (afv T))⟩
  ·have s: ¬(m:Int)>=1:=by omega
   simp(disch:=first|omega|apply t) only[go_sem,simprocAttr,Lg,G,s];exact UG (by simp) ⟨rfl,mO f (by unfold fits;rw[Bool.and_eq_false_iff];exact .inl (afv U))⟩
 ·rintro A' g o L u ⟨rfl,f⟩;obtain⟨p,A⟩: ∃p,(H++[ae.box [v] none,.box [.int .i64 m] none,.box [.int .i64 0] none,.box [.bool false] none]++[ae.box [v] none,.box [v] none]).length=p:=⟨_,rfl⟩;have k:N+(4+g.length)=p:=by rw[<-A];simp[r,u]
  have h:H++[ae.box [v] none,.box [.int .i64 m] none,.box [.int .i64 0] none,.box [.bool false] none]++(g++[.bD,o])=cat H ([ae.box [v] none,.box [.int .i64 m] none,.box [.int .i64 0] none,.box [.bool false] none]++(g++[.bD,o])):=by rw[dO];simp
  have J: ∀a b c d:ae,(cat H (a::b::c::d:: (g++[.bD,o])))[p]?=some .bD:=λa b c d=>aih (B:=[a,b,c,d]) r k
  have I: ∀a b c d:ae,(cat H (a::b::c::d:: (g++[.bD,o]))).set p .dead=cat H (a::b::c::d:: (g++[.dead,o])):=λa b c d=>aii (B:=[a,b,c,d]) r k
  rw[A,h];simp(disch:=omega) only[F1,go_sem,simprocAttr,F,E,nw,J,I];rw[zH]at f;simp[Mc,ail f]
 ·rintro ex A' g o L u ⟨rfl,x,y,rfl⟩;obtain⟨p,A⟩: ∃p,(H++[ae.box [v] none,.box [.int .i64 m] none,.box [.int .i64 0] none,.box [.bool false] none]++[ae.box [v] none,.box [v] none]).length=p:=⟨_,rfl⟩;have k:N+(4+g.length)=p:=by rw[<-A];simp[r,u]
  have h:H++[ae.box [v] none,.box [.int .i64 m] none,.box [.int .i64 (x.1:Nat)] none,.box [.bool true] none]++(g++[.bD,o])=cat H ([ae.box [v] none,.box [.int .i64 m] none,.box [.int .i64 (x.1:Nat)] none,.box [.bool true] none]++(g++[.bD,o])):=by rw[dO];simp
  have J: ∀a b c d:ae,(cat H (a::b::c::d:: (g++[.bD,o])))[p]?=some .bD:=λa b c d=>aih (B:=[a,b,c,d]) r k
  have I: ∀a b c d:ae,(cat H (a::b::c::d:: (g++[.bD,o]))).set p .dead=cat H (a::b::c::d:: (g++[.dead,o])):=λa b c d=>aii (B:=[a,b,c,d]) r k
  rw[A,h];simp(disch:=omega) only[F1,go_sem,simprocAttr,F,E,nw,J,I];simp[Mc,y]
def atn(v:AV)(l:List aE)(A:Rv v 2 (l.map ay))(Y:zG l)(a:Nat)(o:ae):
  uH X0 (.fn (.func qK) [] [.ptr (a+1) 0]) a [o,.box [v] none] (sW l):=by
 intro S V y I J b C q B W s hP h0 wA d hG lo;have X:l.length<=64:=Y.1;have j: ∀i,V.dN i->i<b:=λi Z=>(q i Z).1
 suffices h: ∃x,D X0 (.fn (.func qK) [] [.ptr (a+1) 0]) [y] ⟨W,lo⟩=some x/\
  (λx=> ∃f p ak,x=aS.ret (.au []) ⟨p,ak⟩/\V.P f p/\ (I (sW l).length f\/J f)/\b<=p.length/\
    (∀i,i<b-> ¬V.dN i-> ¬(a<=i/\i<a+[o,ae.box [v] none].length)->p[i]?=W[i]?)/\m2 V.c b lo ak none (V.row f)) x by grind
 refine vA Fs rfl rfl rfl λN hN=>?_
 obtain rfl:N=b:=by omega
 have u:W[a+1]?=some (.box [v] none):=hG 1 (by simp);simp only[go_sem,simprocAttr,Fs,u,A.bK];refine gS l.length (λk e p ak=> ∃f,I k f/\jZ V N W (λi=>a<=i/\i<a+[o,ae.box [v] none].length) f p ak/\e 0=y/\e 5=v/\e 6= .int .i64 l.length/\e 7= .int .i64 k) 0 (by omega) ?_ ?_
 ·simp only[go_sem,simprocAttr];exact⟨s,h0,⟨hP,by omega,λ_ _ _ _=>rfl,.inl ⟨rfl,d⟩,λr e=>by rw[d]at e;cases e⟩⟩
 rintro k hk e W1 z ⟨s1,H,G,L,K,e6,e7⟩ n U;simp only[bR,go_sem,simprocAttr,R3,K,e6,e7];refine⟨λh=>?_,λh=>?_⟩
 ·have t:k<l.length:=by omega
  have m:=G.push C j [.box (ay (l.getD k default)) none];obtain⟨c,s2,W2,T,R,Q,P,O,M,F⟩:=B k _ s1 (Mb t) H (W1++[.box (ay (l.getD k default)) none]) m.P m.len z;have w:=m.step Q P O M;simp(disch:=omega) only[go_sem,simprocAttr,A.ck,A.cE,h,U,L,R];cases c
  ·obtain⟨E,g,f1,f2,f3,f4,f5⟩:=w.fin C j (dx:=lo);simp only[go_sem,simprocAttr,f1];exact⟨s2,E,g,rfl,f2,.inr F,f3,f4,f5⟩
  ·simp(disch:=omega) only[go_sem,simprocAttr,L,K,e6,e7];exact⟨t,s2,F,w⟩
 ·obtain⟨E,g,f1,f2,f3,f4,f5⟩:=G.fin C j (dx:=lo);simp only[go_sem,simprocAttr,f1];exact⟨s1,E,g,rfl,f2,.inl (by rw[zH,show l.length=k by omega];exact H),f3,f4,f5⟩
def bh{H L:List ae}{o:ae}(h:H[i]?=some o): (H++L)[i]?=some o:=by grind
def cN{H:List ae}{x o:ae}(h:H[p]?=some x): (H.set p o)[p]?=some o:=by grind
def fh{H:List ae}{o:ae}(h:H[i]?=some o):i<H.length:=by grind
def ll{W H:List ae}{N:Nat}(a:H.length=N)(h: ∀i,i<N->W[i]?=H[i]?):W.take N=H:=by
 apply aoI
 grind
structure Cg where
 x:aE
 put:Bool
 out:List aE
 row:oN
 res:AV
 ok:Bool
def aim(H:List ae)(N:Nat)(v:AV)(s:Cg)(W:List ae):Prop:=
 (∀i,i<N->W[i]?=H[i]?)/\W[N]?=some (.box [v] none)/\W[N+1]?=some (.box [s.res] none)/\W[N+2]?=some (.box [.bool s.ok] none)/\W[N+3]?=some (.box (ay s.x) none)/\
   W[N+5]?=some (.box [.bool s.put] none)/\SV (N+4) 2 fe W s.row (s.out.map ay)
def UH(H:List ae)(N:Nat)(v:AV):YV Cg:=⟨aim H N v,Cg.row,λi=>i<N+6,N⟩
theorem ato(H:List ae)(N:Nat)(v:AV): (UH H N v).Ok where
 st:=λs W e ⟨m,l,k,j,g,f,b⟩ h=>by
  have d: ∀i,i<N+6->e[i]?=W[i]?:=λi a=>h i (.inl a)
  exact⟨λi a=>by grind,by grind,by grind,by grind,
   by grind,by grind,b.st (d _ (by omega)) λi a=>h i (.inr a)⟩
 lt:=λs W r ⟨_,_,_,_,_,_,b⟩ c=>b.row c
def UI(l:List aE)(a:aE)(v:AV)(j:Nat)(s:Cg):Prop:=
 gY a false [] l=gY s.x s.put s.out (l.drop j)/\s.x.1+s.x.2<=64/\s.out.length<=2*j/\s.res= .ai/\s.ok=false
def ain(l:List aE)(a:aE)(v:AV)(b:Ex)(s:Cg):Prop:=b= .ret/\gY a false [] l=none/\s.res=v/\s.ok=false
def qa(v:AV)(l:List aE)(x:aE):AV:=match iq l x with
 |some a=>.au [.agg [ef a],.bool true]
 |none=>.au [.agg [v],.bool false]
def aio(v:AV)(l:List aE)(hv:Rv v 2 (l.map ay))(hl:zG l)(x:aE)(UJ:x.1<4294967296)(UK:x.2<4294967296)(H:List ae)(lo:oN):
  D X0 (.fn (.func AZ) [] []) [.agg [v],.int .i64 (x.1:Nat),.int .i64 (x.2:Nat)] ⟨H,lo⟩=some (.ret (qa v l x) ⟨H,lo⟩):=by
 refine aF K1 λN hN=>?_
 have hm:=UF x UJ UK;have hr:ay x=[.int .i64 (x.1:Nat),.int .i64 (x.2:Nat)]:=rfl;rw[hr]at hm;have UL:v.refs=0:=cM hv (bA (λ_=>rfl) l);cases m:ld x with
 |false=>
  simp(disch:=omega) only[F1,go_sem,simprocAttr,K1,hN,hm,m,UL];have e1:qa v l x= .au [.agg [v],.bool false]:=by unfold qa iq;rw[m];rfl
  rw[e1]
 |true=>
  have he:=aif v l hv (N+6) (H++[.box [v] none,.box [.ai] none,.box [.bool false] none,.box (ay x) none,.box [.ai] none,.box [.bool false] none]) (by simp[hN]) none;rw[hr]at he;simp(disch:=omega) only[go_sem,simprocAttr,K1,hN,hm,m,he];rw[<-hr];generalize G: ((((((((((((((cZ _).set 3 _).set 6 _).set 7 _).set 13 _).set 14 _).set 15 _).set 8 _).set 16 _).set 17 _).set 18 _).set 9 _).set 10 _).set 20 _).set 21 _=e;have J:e 3= .ptr N 0:=by rw[<-G];rfl
  have q6:e 6= .ptr (N+1) 0:=by rw[<-G];rfl
  have q7:e 7= .ptr (N+2) 0:=by rw[<-G];rfl
  have q8:e 8= .ptr (N+3) 0:=by rw[<-G];rfl
  have q9:e 9= .ptr (N+4) 0:=by rw[<-G];rfl
  have Md:e 10= .ptr (N+5) 0:=by rw[<-G];rfl
  have q21: (ao.t 21).get e= .fn (.func qK) [] [.ptr (N+6+1) 0]:=by rw[<-G];rfl
  clear G;obtain⟨F,Ga⟩: ∃F,F=H++[ae.box [v] none,.box [.ai] none,.box [.bool false] none,.box (ay x) none,.box [.ai] none,.box [.bool false] none,.box [v] none,.box [v] none]:=⟨_,rfl⟩;have atp:F.length=N+8:=by rw[Ga];simp[hN]
  rw[<-Ga];have t: ∀k,F[N+k]?=[ae.box [v] none,.box [.ai] none,.box [.bool false] none,.box (ay x) none,.box [.ai] none,.box [.bool false] none,.box [v] none,.box [v] none][k]?:=λk=>by rw[Ga,bz hN]
  have atq:F[N]?=some (.box [v] none):=by rw[Ga,dh hN];rfl
  have Px:aim H N v ⟨x,false,[],none,.ai,false⟩ F:=by
   refine⟨λi b=>by rw[Ga,aez (by omega)],atq,t 1,t 2,t 3,t 5,.inl ⟨rfl,rfl,t 4⟩⟩
  have qz:x.1+x.2<=64:=by unfold ld at m;simp at m;omega
  refine Io (UH H N v) (ato H N v) (sW l) (N+6) [.box [v] none,.box [v] none] F ⟨x,false,[],none,.ai,false⟩ (by rw[q21];rfl) (by rw[q21];exact atn v l hv hl (N+6) _)
   (λi b=>?_) (by simp[atp]) (λi b=>?_) Px rfl (UI l x v) (ain l x v) ⟨rfl,qz,by simp,rfl,rfl⟩ (λex s h=>?_) ?_ ?_ ?_
  ·match i,b with
   |0,_=>exact t 6
   |1,_=>exact t 7
  ·have:i<N+6:=b;simp only[ag5,aoY];omega
  ·exact⟨.ret,by rw[h.1];rfl,by rw[h.1];rfl,by rw[h.1];rfl⟩
  ·intro j y s hy hI;have hj:j<l.length:=by
    have:=(aeA.1 hy).1;rwa[zH]at this
   rw[Mb hj]at hy;cases hy;have atr:l.drop j=l.getD j default::l.drop (j+1):=by
    rw[aph hj,aha,afu hj];rfl
   have hym:=hl.2 _ (eX hj);generalize l.getD j default=y at*;refine⟨rfl,λW hP wA=>?_⟩;obtain⟨n,hn⟩: ∃n,W.length=n:=⟨_,rfl⟩;simp(disch:=omega) only[go_sem,simprocAttr,iD,hn];refine⟨[.box (ay y) none],rfl,λQ hW2 Pw=>?_⟩;obtain⟨g1,g2,g3,g4⟩:=hI;rw[atr]at g1;obtain⟨p0,p1,p2,p3,p4,p5,Y⟩:=Pw;have w:Q.length=n:=by omega
   have f3: ∀L,(Q++L)[N+3]?=some (.box (ay s.x) none):=λL=>bh p4
   have f5: ∀L,(Q++L)[N+5]?=some (.box [.bool s.put] none):=λL=>bh p5
   have f0: ∀L,(Q++L)[N]?=some (.box [v] none):=λL=>bh p1
   have f1: ∀L,(Q++L)[N+1]?=some (.box [s.res] none):=λL=>bh p2
   have f2: ∀L,(Q++L)[N+2]?=some (.box [.bool s.ok] none):=λL=>bh p3
   have hnN:N+10<=n:=by omega
   have UM:=hl.1;have ey:=Ce y (by omega);have ex:=Ce s.x (by omega);have M:SV (N+4) 2 fe (Q++[.box (ay y) none]) s.row (s.out.map ay):=Y.st (by rw[aez (by omega)]) λi b=>by
    obtain⟨_,_,_,_,q⟩:=Y.row b;rw[aez (fh q)]
   have f: ∀i,s.row=some i->N+6<=i:=by
    intro i b;rcases Y with⟨q,_⟩| ⟨id,aj,q,_,K,J,S⟩
    ·rw[q]at b;cases b
    ·rw[q]at b;cases b;have:i≠N+5:=by rintro rfl;rw[p5]at S;cases S
     omega
   have Ol: (Q++[ae.box (ay y) none]).length=n+1:=by simp[w]
   have fin: ∀ (A:List ae) (g:Cg) (Me:oN) (fr:Fr),(∀i,i<n->i≠N+3->i≠N+4->i≠N+5->s.row≠some i->A[i]?=Q[i]?)->A[N+3]?=some (.box (ay g.x) none)->A[N+5]?=some (.box [.bool g.put] none)->
     SV (N+4) 2 fe A g.row (g.out.map ay)->g.res=s.res->g.ok=s.ok->n<=A.length->((Me=none/\g.row=s.row)\/ (∃j,N<=j/\j<N+10/\Me=some j/\ (g.row=s.row\/ ∃r,g.row=some r/\n<=r)))->UI l x v (j+1) g->
     afo (UH H N v) (F.length+2) s Q (UI l x v (j+1)) (ain l x v) .normal fr ⟨A,Me⟩:=by
    intro A g Me fr h1 h2 h3 h4 h5 h6 h7 h8 h9;have T: ∀i,i<N+3->A[i]?=Q[i]?:=λi b=>h1 i (by omega) (by omega) (by omega) (by omega) (λe=>by have:=f i e;omega)
    refine⟨g,⟨λi b=>by rw[T i (by omega)];exact p0 i b,by rw[T N (by omega)];exact p1,by rw[T (N+1) (by omega),h5];exact p2,by rw[T (N+2) (by omega),h6];exact p3,h2,h3,h4⟩,⟨by show Q.length<=A.length;omega,λi b hp hr=>?_⟩,?_,h9⟩
    ·have nS: ¬i<N+6:=hp;exact h1 i (by omega) (by omega) (by omega) (by omega) hr
    ·rcases h8 with h8| ⟨j,C,K,J,S⟩
     ·exact .inl h8
     ·refine .inr ⟨j,C,by omega,J,?_⟩;rw[w];exact S
   have E: ∀af:List lA,af.length<=200->(af.length+1)*16<=room:=λaf h=>by unfold room;omega
   by_cases c1:y.1+y.2<s.x.1
   ·have O: (y.1:Int)+y.2<s.x.1:=by omega
    obtain⟨R,v',W3,A,r',a1,a2,a3,a4,a5,P,a7⟩:=M.append (bytes:=16) (el:=ay y) (by omega) (by omega) rfl rfl (E _ (by simp;omega)) none;simp(disch:=omega) only[go_sem,simprocAttr,zf,q8,q9,w,f3,ey,O,a1,a2,a3,DN,api];refine fin A {s with out:=s.out++[y],row:=r'} _ _ (λi C K J S q5=>?_) ?_ ?_ (by rw[ag9];exact a4) rfl rfl (by omega) (.inr ⟨N+4,by omega,by omega,rfl,?_⟩) ⟨?_,g2,by simp;omega,g4⟩
    ·rw[P i (by omega) J q5,aez (by omega)]
    ·rw[P _ (by omega) (by omega) (λq=>by have:=f _ q;omega)];exact f3 _
    ·rw[P _ (by omega) (by omega) (λq=>by have:=f _ q;omega)];exact f5 _
    ·rcases a7 with q| ⟨q,C,K⟩
     ·exact .inl q
     ·exact .inr ⟨q,C,by omega⟩
    ·rw[g1,gY,afl c1]
   have O: ¬(y.1:Int)+y.2<s.x.1:=by omega
   by_cases c2:s.x.1+s.x.2<y.1
   ·have X: (y.1:Int)>s.x.1+s.x.2:=by omega
    cases c:s.put
    ·obtain⟨R,v',W3,A,r',a1,a2,a3,a4,a5,P,a7⟩:=M.append (bytes:=16) (el:=ay s.x) (by omega) (by omega) rfl rfl (E _ (by simp;omega)) none;have UN: ∀i,r'=some i->N+6<=i:=by
      intro i b;rcases a7 with q| ⟨q,C,K⟩
      ·rw[q]at b;exact f i b
      ·rw[C]at b;cases b;omega
     have u5:A[N+5]?=some (.box [.bool false] none):=by
      rw[P _ (by omega) (by omega) (λq=>by have:=f _ q;omega),<-c];exact f5 _
     have un:A[n]?=some (.box (ay y) none):=by
      rw[P _ (by omega) (by omega) (λq=>?_),<-w]
      ·simp
      ·rcases Y with⟨z,_⟩| ⟨id,aj,z,_,z2,z3,z4⟩
       ·rw[z]at q;cases q
       ·rw[z]at q;cases q;have:=fh z4;omega
     have ats:SV (N+4) 2 fe (A.set (N+5) (.box [.bool true] none)) r' ((s.out++[s.x]).map ay):=by
      rw[ag9];exact SV.st a4 (aex (by omega)) λi b=>aex (by have:=UN i b;omega)
     obtain⟨vw,v2,V,W6,r2,b1,b2,b3,b4,b5,b6,b7⟩:=ats.append (bytes:=16) (el:=ay y) (by rw[ag7];omega) (by omega) rfl rfl (E _ (by simp;omega)) (some (N+4));have b1':A[N+4]?=some (.box [vw] none):=by rw[<-b1,aex (by omega)]
     have ais:cC (some (N+4)) (N+4)=some (N+4):=by simp[cC]
     simp(disch:=omega) only[go_sem,simprocAttr,zf,q8,q9,Md,w,f3,f5,ey,ex,O,X,a1,a2,a3,DN,api,c,u5,un,b1',b2,b3,ais];refine fin W6 {s with put:=true,out:=s.out++[s.x]++[y],row:=r2} _ _ (λi C K J S q5=>?_) ?_ ?_ (by rw[ag9];exact b4) rfl rfl (by rw[ag7]at b5;omega) (.inr ⟨N+4,by omega,by omega,rfl,?_⟩) ⟨?_,g2,by simp;omega,g4⟩
     ·have Pf:r'≠some i:=by
        intro q;rcases a7 with z| ⟨z,z1,z2⟩
        ·rw[z]at q;exact q5 q
        ·rw[z1]at q;cases q;omega
      rw[b6 i (by rw[ag7];omega) J Pf,aex (by omega),P i (by omega) J q5,aez (by omega)]
     ·rw[b6 _ (by rw[ag7];omega) (by omega) (λq=>by have:=UN _ q;omega),aex (by omega),P _ (by omega) (by omega) (λq=>by have:=f _ q;omega)];exact f3 _
     ·rw[b6 _ (by rw[ag7];omega) (by omega) (λq=>by have:=UN _ q;omega)];exact ag1 (by omega)
     ·rcases b7 with q| ⟨q,C,K⟩
      ·rcases a7 with z| ⟨z,z1,z2⟩
       ·exact .inl (q.trans z)
       ·exact .inr ⟨z,q.trans z1,by omega⟩
      ·rw[ag7]at K;exact .inr ⟨q,C,by omega⟩
     ·rw[g1,gY,afi c1,afl c2,c];simp
    ·obtain⟨R,v',W3,A,r',a1,a2,a3,a4,a5,P,a7⟩:=M.append (bytes:=16) (el:=ay y) (by omega) (by omega) rfl rfl (E _ (by simp;omega)) none;simp(disch:=omega) only[go_sem,simprocAttr,zf,q8,q9,Md,w,f3,f5,ey,ex,O,X,a1,a2,a3,DN,api,c];refine fin A {s with out:=s.out++[y],row:=r'} _ _ (λi C K J S q5=>?_) ?_ ?_ (by rw[ag9];exact a4) rfl rfl (by omega) (.inr ⟨N+4,by omega,by omega,rfl,?_⟩) ⟨?_,g2,by simp;omega,g4⟩
     ·rw[P i (by omega) J q5,aez (by omega)]
     ·rw[P _ (by omega) (by omega) (λq=>by have:=f _ q;omega)];exact f3 _
     ·rw[P _ (by omega) (by omega) (λq=>by have:=f _ q;omega)];exact f5 _
     ·rcases a7 with q| ⟨q,C,K⟩
      ·exact .inl q
      ·exact .inr ⟨q,C,by omega⟩
     ·rw[g1,gY,afi c1,afl c2,c];simp
   have X: ¬(y.1:Int)>s.x.1+s.x.2:=by omega
   by_cases c3:y.1+y.2=s.x.1
   ·have Mf: ((y.1:Int)+y.2=s.x.1)=True:=aBl (by omega);simp(disch:=omega) only[go_sem,simprocAttr,zf,q8,w,f3,ey,ex,O,X,Mf,api];refine fin _ {s with x:=(y.1,y.2+s.x.2)} _ _ (λi C K J S q5=>?_) ?_ ?_ (M.st (aex (by omega)) λi b=>aex (by have:=f _ b;omega)) rfl rfl (by rw[ag7];omega) (.inl ⟨rfl,rfl⟩) ⟨?_,by simp;omega,by simp;omega,g4⟩
    ·rw[aex (by omega),aez (by omega)]
    ·rw[ag1 (by omega)];rfl
    ·rw[aex (by omega)];exact f5 _
    ·rw[g1,gY,afi c1,afi c2,afl c3]
   have Mf: ¬(y.1:Int)+y.2=s.x.1:=by omega
   by_cases c4:y.1=s.x.1+s.x.2
   ·have UO: ((y.1:Int)=s.x.1+s.x.2)=True:=aBl (by omega);simp(disch:=omega) only[go_sem,simprocAttr,zf,q8,w,f3,ey,ex,O,X,Mf,UO,api];refine fin _ {s with x:=(s.x.1,s.x.2+y.2)} _ _ (λi C K J S q5=>?_) ?_ ?_ (M.st (aex (by omega)) λi b=>aex (by have:=f _ b;omega)) rfl rfl (by rw[ag7];omega) (.inl ⟨rfl,rfl⟩) ⟨?_,by simp;omega,by simp;omega,g4⟩
    ·rw[aex (by omega),aez (by omega)]
    ·rw[ag1 (by omega)];rfl
    ·rw[aex (by omega)];exact f5 _
    ·rw[g1,gY,afi c1,afi c2,afi c3,afl c4]
   ·have UO: ¬(y.1:Int)=s.x.1+s.x.2:=by omega
    simp(disch:=omega) only[go_sem,simprocAttr,zf,J,q6,q7,q8,w,f0,f1,f2,f3,ey,ex,O,X,Mf,UO,api,UL];obtain⟨Wf,Gb⟩: ∃Wf,Wf=((Q++[ae.box (ay y) none]).set (N+1) (ae.box [v] none)).set (N+2) (ae.box [AV.bool false] none):=⟨_,rfl⟩;rw[<-Gb];have hk: ∀i,i<n->i≠N+1->i≠N+2->Wf[i]?=Q[i]?:=λi C K J=>by
     rw[Gb,aex (by omega),aex (by omega),aez (by omega)]
    have k1:Wf[N+1]?=some (.box [v] none):=by
     rw[Gb,aex (by omega)];exact ag1 (by omega)
    have k2:Wf[N+2]?=some (.box [.bool false] none):=by
     rw[Gb];exact ag1 (by rw[ag7];omega)
    have kl:Wf.length=n+1:=by rw[Gb];simp[w]
    refine⟨{s with res:=v,ok:=false},⟨λi b=>?_,?_,k1,k2,?_,?_,?_⟩,⟨?_,λi b hp hr=>?_⟩,.inl ⟨rfl,rfl⟩,rfl,?_,rfl,rfl⟩
    ·show Wf[i]?=_;rw[hk i (by omega) (by omega) (by omega)];exact p0 i b
    ·show Wf[N]?=_;rw[hk N (by omega) (by omega) (by omega)];exact p1
    ·show Wf[N+3]?=_;rw[hk _ (by omega) (by omega) (by omega)];exact p4
    ·show Wf[N+5]?=_;rw[hk _ (by omega) (by omega) (by omega)];exact p5
    ·exact Y.st (hk _ (by omega) (by omega) (by omega)) λi b=>by
      obtain⟨_,_,_,_,q⟩:=Y.row b;have:=fh q;have:=f i b;exact hk i (by omega) (by omega) (by omega)
    ·show Q.length<=Wf.length;omega
    ·have nS: ¬i<N+6:=hp;exact hk i (by omega) (by omega) (by omega)
    ·rw[g1,gY,afi c1,afi c2,afi c3,afi c4]
  ·intro g W' ak hI hP Iq hd pc UP;obtain⟨p0,p1,p2,p3,p4,p5,Y⟩:=hP;obtain⟨g1,g2,g3,g4,g5⟩:=hI;rw[zH,List.drop_length]at g1;rw[zH]at g3;have UM:=hl.1;have U:dG N ak:=by
    rcases UP with⟨rfl,_⟩| ⟨q,C,K,rfl⟩
    ·exact .inl rfl
    ·exact .inr ⟨q,C,rfl⟩
   have f: ∀i,g.row=some i->N+6<=i/\i≠F.length:=by
    intro i b;rcases Y with⟨q,_⟩| ⟨id,aj,q,_,K,J,S⟩
    ·rw[q]at b;cases b
    ·rw[q]at b;cases b;have:i≠N+5:=by rintro rfl;rw[p5]at S;cases S
     exact⟨by omega,by rintro rfl;rw[hd]at S;cases S⟩
   obtain⟨B,hB⟩: ∃B,B=((PC.aL [o 83 (I.load false 1 (ao.t 9)),o 84 (I.build [AV.ai] [(0,1,ao.t 83)]),u (I.store 1 (ao.t 6) (ao.t 84)),u (I.store 1 (ao.t 7) (ao.c (AV.bool true)))]).seq PC.ret):=⟨_,rfl⟩;rw[<-hB];have fin: ∀ (V:List ae) (Z:oN) (fr:Env) (out:List aE) (r5:oN),(∀i,i<N->V[i]?=H[i]?)->SV (N+4) 2 fe V r5 (out.map ay)->(∃z,V[N+1]?=some (.box [z] none))->(∃z,V[N+2]?=some (.box [z] none))->
     V[F.length]?=some .bD->dG N Z->gY x false [] l=some out->fr 9= .ptr (N+4) 0->fr 6= .ptr (N+1) 0->fr 7= .ptr (N+2) 0->
     wp X0 AZ false B ⟨fr,[F.length]⟩ ⟨V,Z⟩
      (dn X0 N lo [RV.cell 6 true 1,RV.cell 7 false 1] λx_1=>x_1=aS.ret (qa v l x) ⟨H,lo⟩):=by
    intro V Z fr out r5 h1 h2 ⟨z1,h3⟩ ⟨z2,h4⟩ h5 h6 h7 h9 h10 yp;obtain⟨R,b1,b2,b3,b4,b5⟩:=h2.own (N:=N) (by omega) (by intro el nP;obtain⟨r,_,rfl⟩:=ag2.1 nP;rfl);have hl5:F.length<V.length:=fh h5;have s1: (V.set (N+1) (ae.box [R] none))[N+1]?=some (.box [R] none):=ag1 (by omega);have s2: ((V.set (N+1) (ae.box [R] none)).set (N+2) (ae.box [AV.bool true] none))[N+2]?=some (.box [.bool true] none):=ag1 (by rw[ag7];omega);have e1:qa v l x= .au [.agg [ef out],.bool true]:=by unfold qa iq;rw[afl m,h7]
    have Im:b8 (out.map ay)=0:=bA (λ_=>rfl) out;have pc:bt R (out.map ay)=ef out:=by
     rcases b2.2 with⟨rfl,q⟩| ⟨id,aj,_,rfl,_⟩
     ·have:out=[]:=arn.1 q;subst this;rfl
     ·unfold ef;cases out with
      |nil=>
       rcases h2 with⟨_,_,q⟩| ⟨_,_,_,q,_⟩
       ·rw[q]at b1;cases b1
       ·exact absurd rfl q
      |cons a l2=>rfl
    rw[hB];simp(disch:=omega) only[go_sem,simprocAttr,h9,h10,yp,b1,b3,b4,h3,h4,h5,s1,s2,nw];have UQ: ∀UR,Fz ⟨((V.set (N+1) (ae.box [R] none)).set (N+2) (ae.box [AV.bool true] none)).set F.length ae.dead,UR⟩ N 12 (.au [.agg [R],.bool true]) (.au [.agg [ef out],.bool true]):=by
     intro UR;have atw:aQ N (((V.set (N+1) (ae.box [R] none)).set (N+2) (ae.box [AV.bool true] none)).set F.length ae.dead) R 2 fe (out.map ay):=by
      obtain⟨c1,c2⟩:=b2;refine⟨c1,?_⟩;rcases c2 with c2| ⟨id,aj,c3,c4,c5⟩
      ·exact .inl c2
      ·have d1:id≠N+1:=by rintro rfl;rw[h3]at c5;cases c5
       have d2:id≠N+2:=by rintro rfl;rw[h4]at c5;cases c5
       have d3:id≠F.length:=by rintro rfl;rw[h5]at c5;cases c5
       exact .inr ⟨id,aj,c3,c4,by rw[aex (by omega),aex (by omega),aex (by omega)];exact c5⟩
     have f1:=Fz.own (d:=0) (lo:=UR) atw (by omega);rw[pc]at f1;exact(Fz.au (.cons (Fz.agg (.cons f1 .nil)) (.cons ((Fz.low (d:=0) (by simp[AV.refs])).mono (by omega)) .nil))).mono (by omega)
    have oH: (((V.set (N+1) (ae.box [R] none)).set (N+2) (ae.box [AV.bool true] none)).set F.length ae.dead).take N=H:=ll hN λi b=>by
     rw[aex (by omega),aex (by omega),aex (by omega)];exact h1 i b
    have hl6:dG N (if R.refs<=N+1+1 then Z else cC Z (N+1)):=by
     split
     ·exact h6
     ·exact h6.min (p:=N+1) (by omega) (.inr rfl)
    rw[uI hl6 (UQ _),oH,e1]
   have p0': ∀i,i<N->W'[i]?=H[i]?:=p0;have p1':W'[N+1]?=some (.box [g.res] none):=p2;cases c:g.put
   ·have M:SV (N+4) 2 fe W' g.row (g.out.map ay):=Y;obtain⟨R,v',W3,A,r',a1,a2,a3,a4,a5,P,a7⟩:=M.append (bytes:=16) (el:=ay g.x) (by omega) (by omega) rfl rfl (by unfold room;simp;omega) ak;have k: ∀i,i<N+4->A[i]?=W'[i]?:=λi b=>P i (by omega) (by omega) (λq=>by have:=(f _ q).1;omega)
    simp(disch:=omega) only[go_sem,simprocAttr,q8,q9,Md,p4,p5,c,a1,a2,a3];refine fin A _ _ (g.out++[g.x]) r' (λi b=>by rw[k i (by omega)];exact p0' i b) (by rw[ag9];exact a4) ⟨_,by rw[k (N+1) (by omega)];exact p2⟩ ⟨_,by rw[k (N+2) (by omega)];exact p3⟩ ?_ (U.min (p:=N+4) (by omega) (.inr rfl)) ?_ q9 q6 q7
    ·rw[P F.length (by omega) (by omega) (λq=>(f _ q).2 rfl)];exact hd
    ·rw[g1,gY,c];rfl
   ·simp(disch:=omega) only[go_sem,simprocAttr,Md,p5,c];refine fin W' _ _ g.out g.row p0' Y ⟨_,p2⟩ ⟨_,p3⟩ hd U ?_ q9 q6 q7;rw[g1,gY,c];rfl
  ·intro ex g W' ak hJ hP Iq hd pc UP;obtain⟨p0,p1,p2,p3,p4,p5,Y⟩:=hP;obtain⟨rfl,g1,g2,g3⟩:=hJ;have U:dG N ak:=by
    rcases UP with⟨rfl,_⟩| ⟨q,C,K,rfl⟩
    ·exact .inl rfl
    ·exact .inr ⟨q,C,rfl⟩
   rw[g2]at p2;rw[g3]at p3;have e1:qa v l x= .au [.agg [v],.bool false]:=by unfold qa iq;rw[afl m,g1]
   have UQ:Fz ⟨W'.set F.length ae.dead,ak⟩ N 12 (.au [.agg [v],.bool false]) (.au [.agg [v],.bool false]):=Fz.low (by simp[AV.refs,aG,UL]);have oH: (W'.set F.length ae.dead).take N=H:=ll hN λi b=>by rw[aex (by omega)];exact p0 i b
   simp(disch:=omega) only[go_sem,simprocAttr,q6,q7,nw,hd,p2,p3];rw[uI U UQ,oH,e1]
def aiu(t:aw)(x:Nat): (aK t x).1.up=bI t x:=by unfold aK bI;split<;>rfl
theorem kj{r:dc}:aH [AV.int .u32 0,.int .i64 0,.ai,.int .i64 0,.int .u32 0,.int .u32 0,.int .u32 0,.int .u32 0,.int .u32 0,.int .u32 0,.int .u32 0,.int .u32 0] 0 (bS r)=bS r:=by rfl
def US(t:aw)(h:Nat)(N:Nat)(H:List ae)(b:H.length=N)(lo:oN):D X0 (.fn (.func Ek) [] []) [.agg (aI t),.int .u32 h] ⟨H,lo⟩=some (.ret (.fn (.func Ep) [] [.ptr N 0,.ptr (N+1) 0]) ⟨H++[.box (aI t) none,.box [.int .u32 h] none],lo⟩):=by
 refine aF Te λM a=>?_
 obtain rfl:M=N:=by omega
 simp only[go_sem,simprocAttr,Te,a];rw[Cf (by omega)]
def ny(t:aw)(h:Nat):List lA:=(aR t h).map λx=>[.int .u32 (x:Nat)]
def UT(t:aw)(ht:bN t)(hT:cm t)(h:Nat)(hh:h<4294967296)(a:Nat):
  uH X0 (.fn (.func Ep) [] [.ptr a 0,.ptr (a+1) 0]) a [.box (aI t) none,.box [.int .u32 h] none] (ny t h):=by
 intro S V y I J b P m uy W s hP h0 wA z hG lo;have o: ∀i,V.dN i->i<b:=λi hi=>(m i hi).1
 suffices h: ∃Y,D X0 (.fn (.func Ep) [] [.ptr a 0,.ptr (a+1) 0]) [y] ⟨W,lo⟩=some Y/\
   (λY=> ∃v u ak,Y=aS.ret (.au []) ⟨u,ak⟩/\V.P v u/\ (I (ny t h).length v\/J v)/\b<=u.length/\
     (∀i,i<b-> ¬V.dN i-> ¬(a<=i/\i<a+[ae.box (aI t) none,.box [.int .u32 (h:Nat)] none].length)->u[i]?=W[i]?)/\m2 V.c b lo ak none (V.row v)) Y by
  obtain⟨Y,h1,v,u,ak,rfl,q1,q2,q3,q4,q5⟩:=h;exact⟨v,u,ak,h1,q1,q2,q3,q4,q5⟩
 refine vA Tw rfl rfl rfl λN hN=>?_
 obtain rfl:N=b:=by omega
 have g0:W[a]?=some (.box (aI t) none):=hG 0 (by simp);have g1:W[a+1]?=some (.box [.int .u32 h] none):=hG 1 (by simp);have ha:=fh g1;have UU: ¬V.dN a:=λq=>(m a q).2 ⟨by omega,by simp⟩
 have A: ¬V.dN (a+1):=λq=>(m _ q).2 ⟨by omega,by simp⟩
 simp only[go_sem,simprocAttr,Tw];refine gS ((aR t h).length+1) (λk e u ak=> ∃v x,I k v/\jZ V N W (λi=>a<=i/\i<a+[ae.box (aI t) none,.box [.int .u32 (h:Nat)] none].length) v u ak/\u[a]?=some (.box (aI t) none)/\u[a+1]?=some (.box [.int .u32 (x:Nat)] none)/\x<4294967296/\k<=(aR t h).length/\aR t x=(aR t h).drop k/\e 0=y/\e 1= .ptr a 0/\e 2= .ptr (a+1) 0) 0 (by omega) ?_ ?_
 ·simp only[go_sem,simprocAttr];exact⟨s,h,h0,⟨hP,by omega,λ_ _ _ _=>rfl,.inl ⟨rfl,z⟩,λr e=>by rw[z]at e;cases e⟩,g0,g1,hh,rfl⟩
 rintro k hk e W1 Q ⟨s1,x,hI,X,w0,w1,hx,UW,p,e0,e1,e2⟩ n U;have g:=sL hT x;have UX:N<=n:=by have:=X.len;omega
 have f0: ∀L,(W1++L)[a]?=some (.box (aI t) none):=λL=>bh w0
 have f1: ∀L,(W1++L)[a+1]?=some (.box [.int .u32 x] none):=λL=>bh w1
 have Z:=vx t ht x hx;have hu:=aiu t x;have f: (aK t x).2=if t.ax x then 0 else 4:=by unfold aK;split<;>rfl
 have B: ∀L,bI t x=0-> ∃j d,finish N lo (.au []) ⟨W1++L,Q⟩=(.au [],⟨j,d⟩)/\V.P s1 j/\ (I (ny t h).length s1\/J s1)/\N<=j.length/\ (∀i,i<N-> ¬V.dN i-> ¬(a<=i/\i<a+[ae.box (aI t) none,.box [.int .u32 (h:Nat)] none].length)->j[i]?=W[i]?)/\m2 V.c N lo d none (V.row s1):=by
  intro L G;obtain⟨j,d,w,F,l,E,C⟩:=(X.push P o L).fin P o (dx:=lo);refine⟨j,d,w,F,.inl ?_,l,E,C⟩;rw[afl G]at g;rw[g]at p;have:=akp List.length p;rw[anA]at this;have e: (ny t h).length=(aR t h).length:=by simp[ny]
  simp only[aoY]at this;rw[e,show(aR t h).length=k by omega];exact hI
 cases H:t.ax x
 ·rw[H]at f;have G:bI t x=0:=by unfold bI;rw[H];rfl
  obtain⟨j,d,w,F,l,E,C,O⟩:=B [.box (bS (aK t x).1) none] G;simp only[go_sem,simprocAttr,FT,e1,e2,w0,w1,Z,nv,kj,f,U,w];exact⟨s1,j,d,rfl,F,l,E,C,O⟩
 ·rw[H]at f;by_cases G:bI t x=0
  ·obtain⟨j,d,w,F,l,E,C,O⟩:=B [.box (bS (aK t x).1) none] G;simp only[go_sem,simprocAttr,FT,e1,e2,w0,w1,Z,nv,kj,f,U,hu,G,w];exact⟨s1,j,d,rfl,F,l,E,C,O⟩
  ·have R: ¬((bI t x:Nat):Int)=0:=by omega
   rw[afi G]at g;have UY:k< (aR t h).length:=by
    have:=akp List.length (g ▸ p);rw[anA]at this;simp only[ag5]at this;omega
   have wu: (ny t h)[k]?=some [.int .u32 (bI t x:Nat)]:=by
    unfold ny;rw[aiG];have: (aR t h)[k]?=((aR t h).drop k)[0]?:=by rw[anp];rfl
    rw[this,<-p,g];rfl
   have M:=X.push P o [.box (bS (aK t x).1) none];obtain⟨c,s2,W2,mr,w,F,l,E,C,O⟩:=uy k _ s1 wu hI (W1++[.box (bS (aK t x).1) none]) M.P M.len Q;have K:=M.step F l E C;have T: ∀i,i<N->V.row s1≠some i:=λi hi q=>by have:=X.row _ q;omega
   have v0:W2[a]?=some (.box (aI t) none):=by rw[l.2 a (by simp;omega) UU (T _ (by omega))];exact f0 _
   have v1:W2[a+1]?=some (.box [.int .u32 x] none):=by rw[l.2 (a+1) (by simp;omega) A (T _ (by omega))];exact f1 _
   have hWn:n+1<=W2.length:=by have:=l.1;simp at this;omega
   have vn:W2[n]?=some (.box (bS (aK t x).1) none):=by
    rw[l.2 n (by simp;omega) (λq=>by have:=o _ q;omega) (λq=>by have:=P.Ir X.P q;omega)];rw[<-U];simp
   cases c
   ·obtain⟨j,d,q1,q2,q3,q4,q5⟩:=K.fin P o (dx:=lo);simp only[go_sem,simprocAttr,FT,e0,e1,e2,w0,w1,Z,nv,kj,f,U,hu,R,w,q1];exact⟨s2,j,d,rfl,q2,.inr O,q3,q4,q5⟩
   ·simp(disch:=omega) only[go_sem,simprocAttr,FT,e0,e1,e2,w0,w1,Z,nv,kj,f,U,hu,R,w,v0,v1,vn];refine⟨by omega,s2,bI t x,O,?_,?_,as0,by omega,?_⟩
    ·exact K.set P A (λq=>by have:=K.row _ q;omega) (.inl ⟨by omega,by simp⟩)
    ·exact ag1 (by omega)
    ·have:=akp (List.drop 1) (g ▸ p);rw[aqX]at this;simpa using this
def UZ{t:aw}{x:lA}(a: (ny t h)[j]?=some x): ∃u,x=[.int .u32 (u:Nat)]/\ (aR t h)[j]?=some u:=by
 unfold ny at a
 grind
def U0(t:aw)(h:Nat): (ny t h).length=(aR t h).length:=by simp[ny]
def Mg(t:aw)(v:bN t)(q:cm t)(h:Nat)(m:h<4294967296)(H:List ae)(lo:oN):D X0 (.fn (.func Bf) [] []) [.agg (aI t),.int .u32 h] ⟨H,lo⟩=some (.ret (.int .i64 (depth t h:Nat)) ⟨H,lo⟩):=by
 refine aF LF λN f=>?_
 have g:ax t.b h=t.ax h:=rfl;have a:=en t.b h m;simp only[g]at a;cases b:t.ax h
 ·simp only[F1,go_sem,simprocAttr,LF,f,a,depth,b,agX]
 ·rw[b]at a;have C:=US t h (N+2) (H++[.box (aI t) none,.box [.int .i64 1] none]) (by simp[f]) none;simp only[go_sem,simprocAttr,LF,f,a,C];refine yy (S:=Nat) (λe=>e 5= .ptr (N+1) 0) (by simp only[go_sem,simprocAttr]) (ny t h) f [.box (aI t) none,.box [.int .u32 h] none] (λn=>[.box (aI t) none,.box [.int .i64 (n+1:Nat)] none]) (nB:=2) (λ_=>rfl) 0 (λj s=>s=j) (λ_ _=>False) rfl ?_ (by simp) rfl (λ_ _ h=>h.elim) ?_ ?_ ?_
  ·exact UT t v q h m (N+2)
  ·rintro e he j x s r rfl;obtain⟨u,rfl,hu⟩:=UZ r;refine⟨rfl,λW n I z k=>?_⟩;simp only[go_sem,simprocAttr,iD];refine⟨[],by simp,λK E d=>?_⟩;simp only[gH,gF,apw,ahc]at d;obtain⟨w0,w1⟩:=d;have G:s< (aR t h).length:=(aeA.1 hu).1;have w:=q h;simp(disch:=omega) only[go_sem,simprocAttr,agC,he,w1,aip,sg];refine⟨s+1,?_,λi J A=>aex (by omega),rfl⟩;simp only[gH,gF,apw,ahc];exact⟨by rw[aex (by omega)];exact w0,ag1 (by omega)⟩
  ·rintro e he s W p y rfl c k B;simp only[gH,gF,apw,ahc]at k;obtain⟨w0,w1⟩:=k;have l: ∀o,(W.set p o).take N=H:=λo=>(c.set (by omega)).take f
   simp only[F1,go_sem,simprocAttr,he,w1,B,nw,l];rw[U0];refine da (akp _ ?_) rfl;unfold depth;rw[afl b];omega
  ·rintro e he ex s W p y F;exact F.elim
def aty{t:aw}(b:cm t)(c:h<4294967296):root t h<4294967296:=by
 unfold root;split
 ·cases e:aR t h with
  |nil=>grind
  |cons a l=>
   have hm: (aR t h).getLastD h∈aR t h:=by grind
   rw[<-e];exact gg (as1 b hm)
 ·omega
def zI(t:aw)(r:bN t)(C:cm t)(h:Nat)(m:h<4294967296)(H:List ae)(lo:oN):D X0 (.fn (.func uM) [] []) [.agg (aI t),.int .u32 h] ⟨H,lo⟩=some (.ret (.int .u32 (root t h:Nat)) ⟨H,lo⟩):=by
 refine aF Ly λN f=>?_
 have g:ax t.b h=t.ax h:=rfl;have a:=en t.b h m;simp only[g]at a;cases b:t.ax h
 ·simp only[F1,go_sem,simprocAttr,Ly,f,a,root,b,agX]
 ·rw[b]at a;have A:=US t h (N+2) (H++[.box (aI t) none,.box [.int .u32 h] none]) (by simp[f]) none;simp only[go_sem,simprocAttr,Ly,f,a,A];refine yy (S:=Nat) (λe=>e 3= .ptr (N+1) 0) (by simp only[go_sem,simprocAttr]) (ny t h) f [.box (aI t) none,.box [.int .u32 h] none] (λn=>[.box (aI t) none,.box [.int .u32 (n:Nat)] none]) (nB:=2) (λ_=>rfl) h (λj s=>s=((aR t h).take j).getLastD h) (λ_ _=>False) rfl ?_ (by simp) rfl (λ_ _ h=>h.elim) ?_ ?_ ?_
  ·exact UT t r C h m (N+2)
  ·rintro e he j x s q rfl;obtain⟨u,rfl,hu⟩:=UZ q;refine⟨rfl,λW n F w k=>?_⟩;simp only[go_sem,simprocAttr,iD];refine⟨[],by simp,λI B d=>?_⟩;simp only[gH,gF,apw,ahc]at d;obtain⟨w0,w1⟩:=d;simp only[go_sem,simprocAttr,agy,he,w1,aip,sg];refine⟨u,?_,λi G y=>aex (by omega),?_⟩
   ·simp only[gH,gF,apw,ahc];exact⟨by rw[aex (by omega)];exact w0,ag1 (by omega)⟩
   ·rw[ait,hu];simp
  ·rintro e he s W p v rfl c k z;simp only[gH,gF,apw,ahc]at k;obtain⟨w0,w1⟩:=k;have l: ∀o,(W.set p o).take N=H:=λo=>(c.set (by omega)).take f
   simp only[F1,go_sem,simprocAttr,he,w1,z,nw,l];rw[U0,ag4];refine da (akp _ ?_) rfl;unfold root;rw[afl b]
  ·rintro e he ex s W p v E;exact E.elim
noncomputable def l6:lA->AS->Option aS:=nW X0 (D X0) Lw iG KO
noncomputable def X1:Ctx:={X0 with bU:=λf=>if f=iG then some l6 else none}
noncomputable def nz:lA->AS->Option aS:=nW X1 (D X1) Lw j5 KJ
noncomputable def X2:Ctx:={X0 with bU:=λf=>if f=iG then some l6 else if f=j5 then some nz else none}
noncomputable def qb:lA->AS->Option aS:=nW X2 (D X2) Lw mv FC
noncomputable def X3:Ctx:={X0 with bU:=λf=>if f=iG then some l6 else if f=j5 then some nz else if f=mv then some qb else none}
noncomputable def rF:lA->AS->Option aS:=nW X3 (D X3) Lw m4 Ln
noncomputable def X4:Ctx:={X0 with bU:=λf=>if f=iG then some l6 else if f=j5 then some nz else if f=mv then some qb else if f=m4 then some rF else none}
noncomputable def xr:lA->AS->Option aS:=nW X4 (D X4) Lw qL Lm
noncomputable def X5:Ctx:={X0 with bU:=λf=>if f=iG then some l6 else if f=j5 then some nz else if f=mv then some qb else if f=m4 then some rF else if f=qL then some xr else none}
noncomputable def zJ:lA->AS->Option aS:=nW X5 (D X5) Lw sh Ll
noncomputable def X6:Ctx:={X0 with bU:=λf=>if f=iG then some l6 else if f=j5 then some nz else if f=mv then some qb else if f=m4 then some rF else if f=qL then some xr else if f=sh then some zJ else none}
noncomputable def Ch:lA->AS->Option aS:=nW X6 (D X6) Lw pq Fx
noncomputable def X:Ctx:={X0 with bU:=λf=>if f=iG then some l6 else if f=j5 then some nz else if f=mv then some qb else if f=m4 then some rF else if f=qL then some xr else if f=sh then some zJ else if f=pq then some Ch else none}
theorem Gc{P:FuncId->Option (lA->AS->Option aS)}(h: ∀f,kL.contains f=false->P f=none):Ext X0 {X0 with bU:=P}where
 df:=rfl
 fa:=rfl
 code:=rfl
 bU:=λf=>by
  cases a:kL.contains f
  ·left;exact h f a
  ·right
   refine⟨rfl,?_⟩;show(if kL.contains f then none else zl.lookup f)=none
   grind
def hO{g:FuncId}(h:kL.contains f=false)(a:kL.contains g=true):f≠g:=by grind
theorem aiv:Ext X0 X2:=Gc λf h=>by rw[afi (hO h rfl),afi (hO h rfl)]
theorem atz:Ext X0 X3:=Gc λf h=>by rw[afi (hO h rfl),afi (hO h rfl),afi (hO h rfl)]
theorem atA:Ext X0 X4:=Gc λf h=>by rw[afi (hO h rfl),afi (hO h rfl),afi (hO h rfl),afi (hO h rfl)]
theorem aiw:Ext X0 X6:=Gc λf h=>by rw[afi (hO h rfl),afi (hO h rfl),afi (hO h rfl),afi (hO h rfl),afi (hO h rfl),afi (hO h rfl)]
theorem dj:Ext X0 X:=Gc λf h=>by rw[afi (hO h rfl),afi (hO h rfl),afi (hO h rfl),afi (hO h rfl),afi (hO h rfl),afi (hO h rfl),afi (hO h rfl)]
def atB(p:Nat->Bool)(k:Nat): (List.range (k+1)).filter p=(List.range k).filter p++(if p k then[k]else[]):=by grind [List.range_succ]
def aQ.le{N M:Nat}{H:List ae}{ty:TypeId}(h:aQ N H v sz ty af)(b:M<=N):aQ M H v sz ty af:=by
 obtain⟨a,c⟩:=h;refine⟨a,?_⟩
 grind
def rG(b:cF)(k:Nat):lN:=((List.range k).filter λi=>(b i).eG).map λi=>c7 i (b i).gen
def atC(b:cF)(k:Nat):rG b (k+1)=if(b k).eG then rG b k++[c7 k (b k).gen]else rG b k:=by
 unfold rG;rw[atB]
 grind
def atD(b:cF)(k:Nat): (rG b k).length<=k:=by
 unfold rG
 grind
def U1(b:cF)(A:gM b)(N:Nat)(H:List ae)(w:H.length=N)(lo:oN): ∃v J,l6 [.agg (bY b)] ⟨H,lo⟩=some (.ret v ⟨H++J,lo⟩)/\aQ (N+1) (H++J) v 1 bZ ((bn b).map hC):=by
 suffices h: ∃o,l6 [.agg (bY b)] ⟨H,lo⟩=some o/\ (λo=> ∃v J,o=aS.ret v ⟨H++J,lo⟩/\aQ (N+1) (H++J) v 1 bZ ((bn b).map hC)) o by
  obtain⟨o,m,v,J,rfl,B⟩:=h;exact⟨v,J,m,B⟩
 refine wz (X:=X0) KO rfl λM E=>?_
 obtain rfl:M=N:=by omega
 have u: (H++[ae.box (bY b) none]).length=M+1:=by simp[w]
 simp only[go_sem,simprocAttr,KO,w];refine dU 32 (λk e H'=>(H++[ae.box (bY b) none])<+:H'/\ (∃v,e 3=v/\aQ (M+1) H' v 1 bZ ((rG b k).map hC))/\e 1= .ptr M 0/\e 7= .int .i64 k) 0 (by omega) ?_ ?_
 ·simp only[go_sem,simprocAttr];exact⟨arj,_,rfl,aQ.ai⟩
 rintro k D e H' ⟨⟨L,rfl⟩,⟨v,y,a⟩,m,x⟩ n C;have j: (H++[ae.box (bY b) none]++L)[M]?=some (.box (bY b) none):=by rw[afq,dh w];rfl
 have t:=as6 b A k (H++(.box (bY b) none::L)) none;simp only[afq,akr,aiL]at j;have q:=atD b k;simp only[bR,go_sem,simprocAttr,af1,m,y,x,j,t,atR];refine⟨λh=>?_,λh=>?_⟩
 ·have c:k<32:=by omega
  have d:=atC b k;cases z: (b k).eG
  ·rw[z]at d;simp(disch:=omega) only[go_sem,simprocAttr,c,m,y,x,dT];rw[d];exact⟨⟨L,by simp⟩,v,rfl,by simpa using a⟩
  ·rw[z]at d;simp only[go_sem,simprocAttr,c,y,dT];have i: (H++[ae.box (bY b) none])<+: (H++(.box (bY b) none::L)):=⟨L,by simp⟩;have g:aQ (M+1) (H++(.box (bY b) none::L)) v 1 bZ ((rG b k).map hC):=by simpa using a
   refine o9 (H0:=H++[ae.box (bY b) none]) (ys:=[[.int .u32 (c7 k (b k).gen:Nat)]]) g i u (by omega) (by intro el s;rw[agV.1 s];rfl) rfl (by unfold room;simp;omega) λv' F f r=>?_
   simp(disch:=omega) only[go_sem,simprocAttr,m,x];refine⟨c,r,?_⟩;rw[d];have:List.map hC (rG b k++[c7 k (b k).gen])=List.map hC (rG b k)++[[.int .u32 (c7 k (b k).gen:Nat)]]:=by simp[hC]
   simp only[aiH];rw[this];exact⟨v',rfl,f⟩
 ·obtain rfl:k=32:=by omega
  have:bn b=rG b 32:=rfl;rw[this];simp only[go_sem,simprocAttr,sf,fU];exact⟨_,_,rfl,by simpa using a⟩
theorem sX{X:Ctx}{p:lA->AS->Option aS}{args:lA}{E:AS}{r:aS}(a:X.bU f=some p)(h:p args E=some r):D X (.fn (.func f) [] []) args E=some r:=DJ a h
def aix(b:cF)(d:gM b)(N:Nat)(H:List ae)(e:H.length=N)(lo:oN): ∃v J,nz [.agg (bY b)] ⟨H,lo⟩=some (.ret v ⟨H++J,lo⟩)/\aQ (N+1) (H++J) v 1 bZ ((bn b).map hC):=by
 suffices h: ∃a,nz [.agg (bY b)] ⟨H,lo⟩=some a/\ (λa=> ∃v J,a=aS.ret v ⟨H++J,lo⟩/\aQ (N+1) (H++J) v 1 bZ ((bn b).map hC)) a by grind
 refine wz (X:=X1) KJ rfl λM g=>?_
 obtain rfl:M=N:=by omega
 obtain⟨v,J,e1,f⟩:=U1 b d (M+1) (H++[.box (bY b) none]) (by grind) none;have c:D X1 (.fn (.func iG) [] []) [.agg (bY b)] ⟨H++[.box (bY b) none],none⟩=some (.ret v ⟨H++[.box (bY b) none]++J,none⟩):=sX (p:=l6) rfl e1;simp only[go_sem,simprocAttr,KJ,e,c,sf,fU];exact⟨_,_,rfl,(aQ.le (M:=M+1) f (by omega)).mono (by simp)⟩
def qc{H:List ae}{o:ae}(h:H[i]?=some o):H.set i o=H:=by
 apply aoI
 grind
def aiy{H:List ae}{id:Nat}{ty:TypeId}(h:H[id]?=some (.row aj 1 ty af))(a:i<af.length)(b: ∀el∈af,el.length=1)(g:v.cb=false)(f:v.cells=[v])(d:v.refs=0):
  kK ⟨H,lo⟩ 1 (.dp id aj i 0) v=some ⟨H.set id (.row aj 1 ty (af.set i [v])),lo⟩:=by
 have c:=b _ (auL a);simp only[kK,h,afu a];rw[afl ⟨trivial,c,g,by grind,by omega⟩];have e:aH af[i] 0 v.cells=[v]:=by
  rw[f];simp only[aH,List.take_zero,aiL,ag5,aoY,ana]
  grind
 rw[e];simp[AS.set,d]
def Gd{H:List ae}{id:Nat}{ty:TypeId}{c:Bool}(h:H[id]?=some (.row aj 1 ty af))(d:n<=af.length)(b: ∀el∈af,el.length=1):Rd ⟨H,lo⟩ (.ref id aj 1 0 n c) 1 (af.take n):=by
 refine⟨trivial,?_,λel a=>b el (alP a)⟩;simp only[Den.elems,h]
 grind
def atE{id:Nat}(h:i<=n):fW 1 (.ref id aj 1 0 n false) (some (.int .i64 (i:Nat))) none none=some (.ref id aj 1 i (n-i) false):=by
 simp only[fW,fV,lF,lG]
 grind
def aiz{id:Nat}(h:i<=n):fW 1 (.ref id aj 1 0 n false) none (some (.int .i64 (i:Nat))) none=some (.ref id aj 1 0 i false):=by
 simp only[fW,fV,lF,lG]
 grind
def kept(p:Nat->Bool)(l:lN)(k:Nat):lN:=(l.take k).filter λh=>!p h
def gj(p:Nat->Bool)(l:lN)(k:Nat):lN:=kept p l k++l.drop (kept p l k).length
section
variable{p:Nat->Bool}{l:lN}{k:Nat}
theorem U2: (kept p l k).length<=k:=ajR (amt _ _) (by grind)
theorem aiA: (kept p l k).length<=l.length:=ajR (amt _ _) (by grind)
def zK: (gj p l k).length=l.length:=by
 have:=aiA (p:=p) (l:=l) (k:=k);simp only[gj,agU,anA];omega
theorem getD_eq(a:k<l.length):l.getD k default=l[k]:=by grind
def Ge(a:k<l.length):kept p l (k+1)=if p (l.getD k default)=true then kept p l k else kept p l k++[l.getD k default]:=by
 have e:l.take (k+1)=l.take k++[l.getD k default]:=by simp_all
 unfold kept
 grind
def atF(a:k<l.length): (gj p l k).getD k default=l.getD k default:=by
 have b:=U2 (p:=p) (l:=l) (k:=k);unfold gj
 grind
def atG(b:k<l.length)(a:p (l.getD k default)=false): (gj p l k).set (kept p l k).length (l.getD k default)=gj p l (k+1):=by
 have c:=U2 (p:=p) (l:=l) (k:=k);have e:=Ge (p:=p) b;rw[a]at e;unfold gj;have d:l.drop (kept p l k).length=l[(kept p l k).length]'(by omega)::l.drop ((kept p l k).length+1):=aph (by omega)
 grind
def atH(b:k<l.length)(a:p (l.getD k default)=true):gj p l (k+1)=gj p l k:=by
 have e:=Ge (p:=p) b;rw[afl a]at e;unfold gj;rw[e]
def atI(h:l.findIdx? p=some b):b<l.length/\kept p l (b+1)=l.take b:=by
 rw[arc]at h;obtain⟨c,g,f⟩:=h;refine⟨c,?_⟩;rw[Ge c,afl (by grind)];unfold kept;rw[List.filter_eq_self];intro a d;obtain⟨j,e,rfl⟩:=atv d
 grind
def aiB:kept p l l.length=l.filter λh=>!p h:=by unfold kept;grind
end
def atJ{H:List ae}{id off len:Nat}{c:Bool}{ty:TypeId}(h:H[id]?=some (.row aj 1 ty af))(a:off+len<=af.length):
  rR ⟨H,lo⟩ [.int .u32 0] (.ref id aj 1 off len c)=some ⟨H.set id (.row aj 1 ty (af.take off++(List.replicate len [.int .u32 0]++af.drop (off+len)))),lo⟩:=by
 simp only[rR,h];rw[afl ⟨trivial,trivial,rfl,a,rfl⟩];simp[AS.set]
def map_set{β:Type}(g:α->β)(l:List α)(i:Nat)(x:α): (l.map g).set i (g x)=(l.set i x).map g:=by simp
def atK(id aj:Nat)(H:List ae)(l:lN)(hl:l.length<=1000)(i:H[id]?=some (.row aj 1 bZ (l.map hC)))(fv:AV)(p:Nat->Bool)
  (T: ∀af,∀h∈l,D X2 fv [.int .u32 h] ⟨H.set id (.row aj 1 bZ af),none⟩=some (.ret (.bool (p h)) ⟨H.set id (.row aj 1 bZ af),none⟩)) (lo:oN):
  ∃rest,qb [.ref id aj 1 0 l.length false,fv] ⟨H,lo⟩=some (.ret (.ref id aj 1 0 (l.filter λh=>!p h).length false) ⟨H.set id (.row aj 1 bZ ((l.filter λh=>!p h).map hC++rest)),lo⟩)/\ ∀el∈rest,el=[.int .u32 0]:=by
 suffices h: ∃A,qb [.ref id aj 1 0 l.length false,fv] ⟨H,lo⟩=some A/\ (λA=> ∃rest,A=aS.ret (.ref id aj 1 0 (l.filter λh=>!p h).length false) ⟨H.set id (.row aj 1 bZ ((l.filter λh=>!p h).map hC++rest)),lo⟩/\ ∀el∈rest,el=[.int .u32 0]) A by grind
 have J:=(aeA.1 i).1;have V: ∀el∈l.map hC,el.length=1:=by intro el f;obtain⟨x,_,rfl⟩:=ag2.1 f;rfl
 have Q:=qc i;have O: ∀h∈l,D X2 fv [.int .u32 h] ⟨H,none⟩=some (.ret (.bool (p h)) ⟨H,none⟩):=λh hm=>by
  have:=T (l.map hC) h hm;rwa[Q]at this
 have G:Rd ⟨H,none⟩ (.ref id aj 1 0 l.length false) 1 (l.map hC):=by
  have:=Gd (lo:=none) (c:=false) (n:=l.length) i (by simp) V;rwa[agQ (by simp)]at this
 have w:=aib aiv (.ref id aj 1 0 l.length false) fv l H G (by omega) p none O;refine wz (X:=X2) FC rfl λM hM=>?_
 cases m:l.findIdx? p with
 |none=>
  have K:gi p l= -1:=by unfold gi;rw[m]
  have N:l.filter (λh=>!p h)=l:=by
   rw[List.filter_eq_self];intro a Z;rw[List.findIdx?_eq_none_iff]at m;simp[m a Z]
  simp only[go_sem,simprocAttr,FC,w,K,sf,fU];exact⟨[],by rw[N,aip,Q],λ_ h=>by cases h⟩
 |some i0=>
  have K:gi p l=(i0:Nat):=by unfold gi;rw[m]
  have u: ((i0:Nat):Int)≠ -1:=by omega
  obtain⟨Y,v⟩:=atI m;have b: ∀af,(H.set id (.row aj 1 bZ af))[id]?=some (.row aj 1 bZ af):=λaf=>ag1 J
  have P:gj p l (i0+1)=l:=by
   have e: (l.take i0).length=i0:=by rw[aiI];omega
   unfold gj;rw[v,e,apt]
  simp(disch:=omega) only[go_sem,simprocAttr,FC,w,K,u];refine dU l.length (λk e H'=>H'=H.set id (.row aj 1 bZ ((gj p l k).map hC))/\e 0= .ref id aj 1 0 l.length false/\e 1=fv/\e 5= .int .i64 (kept p l k).length/\e 6= .int .i64 k) (i0+1) (by omega) ?_ ?_
  ·have e: (kept p l (i0+1)).length=i0:=by rw[v,aiI];omega
   rw[P,e];simp only[go_sem,simprocAttr,Q]
  ·rintro k hk e H' ⟨rfl,z,U,y,R⟩ n hn;have q: ∀lo,Rd ⟨H.set id (.row aj 1 bZ ((gj p l k).map hC)),lo⟩ (.ref id aj 1 0 l.length false) 1 ((gj p l k).map hC):=λlo=>by
    have:=Gd (lo:=lo) (c:=false) (n:=l.length) (b ((gj p l k).map hC)) (by rw[agZ,zK];exact agW _) (by intro el f;obtain⟨x,_,rfl⟩:=ag2.1 f;rfl);rwa[agQ (by rw[agZ,zK];exact agW _)]at this
   have W:=U2 (p:=p) (l:=l) (k:=k);have r:=aiA (p:=p) (l:=l) (k:=k);have j: ∀E,fj E .sl (.ref id aj 1 0 l.length false)=some (.int .i64 l.length):=λE=>rfl
   simp only[bR,go_sem,simprocAttr,agp,z,y,R,j];refine⟨λh=>?_,λh=>?_⟩
   ·have d:k<l.length:=by omega
    have I:k< (gj p l k).length:=by rw[zK];exact d
    have L:=atF (p:=p) d;have s:=λ (a:Int)=>(q none).ck (k:=.i64) (a:=a)
    have o:=(q none).cE (X:=X2) (off:=0) (n:=1) (agg:=false) I;have g:=T ((gj p l k).map hC) (l.getD k default) (eX d);rw[L]at o;simp only[fu,ana]at o;rw[zK]at s;cases t:p (l.getD k default)
    ·rw[t]at g;have B:kK ⟨H.set id (.row aj 1 bZ ((gj p l k).map hC)),none⟩ 1 (.dp id aj (kept p l k).length 0) (.int .u32 (l.getD k default))=some ⟨H.set id (.row aj 1 bZ ((gj p l (k+1)).map hC)),none⟩:=by
      rw[aiy (b _) (by rw[agZ,zK];omega) (by intro el f;obtain⟨x,_,rfl⟩:=ag2.1 f;rfl) rfl rfl rfl,anc];have: ((gj p l k).map hC).set (kept p l k).length [.int .u32 (l.getD k default)]=(gj p l (k+1)).map hC:=by
       rw[<-atG d t,<-map_set];rfl
      rw[this]
     have S: (kept p l (k+1)).length=(kept p l k).length+1:=by rw[Ge d,t];simp
     simp(disch:=omega) only[go_sem,simprocAttr,S,s,o,↓pH,g,B,z,U,y,R,fu];exact⟨by omega,by omega,by omega⟩
    ·rw[t]at g;have S:kept p l (k+1)=kept p l k:=by rw[Ge d,t];simp
     have e6:=atH d t;simp(disch:=omega) only[go_sem,simprocAttr,S,e6,s,o,↓pH,g,z,U,y,R,fu];exact⟨by omega,by omega⟩
   ·obtain rfl:k=l.length:=by omega
    have F:=atE (id:=id) (aj:=aj) (n:=l.length) r;have C:=aiz (id:=id) (aj:=aj) (n:=l.length) r;have g:=atJ (lo:=none) (off:=(kept p l l.length).length) (len:=l.length- (kept p l l.length).length) (c:=false) (b ((gj p l l.length).map hC)) (by rw[agZ,zK];omega);simp only[go_sem,simprocAttr,z,y,F,C,g,sf,fU];refine⟨List.replicate (l.length- (kept p l l.length).length) [.int .u32 0],?_,λel f=>atY f⟩;rw[anc];have e1:List.take (kept p l l.length).length (List.map hC (gj p l l.length))=(l.filter λh=>!p h).map hC:=by
     unfold gj;rw[ag9,ape (by simp),aiB]
    have e2:List.drop ((kept p l l.length).length+(l.length- (kept p l l.length).length)) (List.map hC (gj p l l.length))=[]:=akU (by rw[agZ,zK];omega);rw[e1,e2,aip,aiB]
def atL{X:Ctx}(j:Ext X0 X)(t:aw)(f:bN t)(h x:Nat)(e:x<4294967296)(d a:Nat)(H:List ae)(b:H[d]?=some (.box (aI t) none))(c:H[a]?=some (.box [.int .u32 h] none))(lo:oN):
  D X (.fn (.func Ea) [] [.ptr d 0,.ptr a 0]) [.int .u32 x] ⟨H,lo⟩=some (.ret (.bool (decide (bI t x≠h))) ⟨H,lo⟩):=by
 refine up j ?_;refine eP Sv λN i=>?_
 have m: ∀L,(H++L)[a]?=some (.box [.int .u32 h] none):=λL=>bh c
 have g:=vx t f x e;have hu:=aiu t x;simp only[F1,go_sem,simprocAttr,Sv,i,b,m,g,nv,kj,hu];refine da (akp AV.bool ?_) rfl
 grind
def aiC(N:Nat)(H:List ae)(v:AV)(ty:TypeId)(af a:List lA):Prop:=
 (∃id aj,N<=id/\v= .ref id aj 1 0 af.length false/\H[id]?=some (.row aj 1 ty (af++a)))/\ ∀el∈a,el.length=1
def atM(t:aw)(q:bN t)(h:Nat)(r:t.ax h=true)(N:Nat)(H:List ae)(K:H.length=N)(lo:oN):
  ∃v J rest,rF [.agg (aI t),.int .u32 h] ⟨H,lo⟩=some (.ret v ⟨H++J,lo⟩)/\aiC (N+2) (H++J) v bZ ((kids t h).map hC) rest:=by
 have E:=gg r
 suffices B: ∃n,rF [.agg (aI t),.int .u32 h] ⟨H,lo⟩=some n/\ (λn=> ∃v J rest,n=aS.ret v ⟨H++J,lo⟩/\aiC (N+2) (H++J) v bZ ((kids t h).map hC) rest) n by
  obtain⟨n,G,v,J,rest,rfl,F⟩:=B;exact⟨v,J,rest,G,F⟩
 refine wz (X:=X3) Ln rfl λM s=>?_
 obtain rfl:M=N:=by omega
 have i:=up atz (en t.b h E (H++[.box (aI t) none,.box [.int .u32 h] none]) none);have u:Go.Proofs.YteplichagkpciaaGreatDoor.ax t.b h=t.ax h:=rfl;rw[u]at i;rw[r]at i;obtain⟨v,J,e1,I⟩:=aix t.b q.b (M+2) (H++[.box (aI t) none,.box [.int .u32 h] none]) (by simp[s]) none;have j:D X3 (.fn (.func j5) [] []) [.agg (bY t.b)] ⟨H++[.box (aI t) none,.box [.int .u32 h] none],none⟩=some (.ret v ⟨H++[.box (aI t) none,.box [.int .u32 h] none]++J,none⟩):=sX (p:=nz) rfl e1;have f:h∈bn t.b:=(jh q.b).2 r;have g: (bn t.b).filter (λx=>!decide (bI t x≠h))=kids t h:=by
  unfold kids;rw[afl r];refine List.filter_congr λx _=>?_
  by_cases e:bI t x=h<;>simp[e]
 rcases I.2 with⟨_,e⟩| ⟨id,aj,C,rfl,a⟩
 ·rw[arn.1 e]at f;cases f
 rw[agZ]at j;obtain⟨H1,c⟩: ∃H1,H1=H++[ae.box (aI t) none,.box [.int .u32 h] none]++J:=⟨_,rfl⟩;have b:=fh a;have z:H1[M]?=some (.box (aI t) none):=by rw[c,afq,dh s];rfl
 have y:H1[M+1]?=some (.box [.int .u32 h] none):=by rw[c,afq,bz s];rfl
 rw[<-c]at a b;obtain⟨rest,d1,d2⟩:=atK id aj H1 (bn t.b) (by have:=nd t.b;omega) a (.fn (.func Ea) [] [.ptr M 0,.ptr (M+1) 0]) (λx=>decide (bI t x≠h))
  (λaf x A=>atL aiv t q h x (gg ((jh q.b).1 A)) M (M+1) _ (by rw[aex (by omega)];exact z) (by rw[aex (by omega)];exact y) none) none
 rw[g]at d1;have m:D X3 (.fn (.func mv) [] []) [.ref id aj 1 0 (bn t.b).length false,.fn (.func Ea) [] [.ptr M 0,.ptr (M+1) 0]] ⟨H1,none⟩=some _:=sX (p:=qb) rfl d1;rw[c]at m;simp only[afq,akr,aiL]at m j;simp only[go_sem,simprocAttr,Ln,s,i,j,m,sf,fU];have d: ∀L:List ae,∀o,(H++L).set id o=H++L.set (id-H.length) o:=λL o=>apu _ _ (by omega)
 refine⟨_,_,rest,da rfl (d _ _),⟨id,aj,by omega,by rw[agZ],?_⟩,λel w=>by rw[d2 el w];rfl⟩;rw[<-d];refine ag1 ?_;rw[c]at b;simpa using b
def iv(l:lN)(k:Nat):lN:=(List.range l.length).map λi=>if i<k\/l.length-k<=i then l.getD (l.length-1-i) default else l.getD i default
section
variable{l:lN}{k:Nat}
def sY: (iv l k).length=l.length:=by simp[iv]
def atN(h:i<l.length): (iv l k).getD i default=if i<k\/l.length-k<=i then l.getD (l.length-1-i) default else l.getD i default:=by
 unfold iv
 grind
def atO:iv l 0=l:=by
 apply aoI;unfold iv
 grind
def atP(h:l.length<=2*k+1):iv l k=l.reverse:=by
 apply aoI;intro i;unfold iv;by_cases a:i<l.length
 ·rw[aiG,aq1 a]
  grind
 grind
def atQ(h:2*k+1<l.length): ((iv l k).set k (l.getD (l.length-1-k) default)).set (l.length-1-k) (l.getD k default)=iv l (k+1):=by
 apply aoI;intro i;by_cases a:i<l.length
 ·by_cases e1:l.length-1-k=i
  ·unfold iv
   grind
  ·rw[aex e1];by_cases b:k=i
   ·subst b;rw[ag1 (by rw[sY];omega)];unfold iv;rw[aiG,aq1 a];simp only[ag0];rw[afl (by omega)]
   ·rw[aex b];unfold iv;rw[aiG,aiG,aq1 a];simp only[ag0];by_cases c:i<k\/l.length-k<=i
    ·rw[afl c,afl (by omega)]
    ·rw[afi c,afi (by omega)]
 ·rw[ane (by simp[sY];omega),ane (by rw[sY];omega)]
end
def atS(id aj:Nat)(H:List ae)(l:lN)(P:l.length<=1000)(b:List lA)(i:H[id]?=some (.row aj 1 bZ (l.map hC++b)))(f: ∀el∈b,el.length=1)(lo:oN):
  D X0 (.fn (.func Qz) [] []) [.ref id aj 1 0 l.length false] ⟨H,lo⟩=some (.ret (.au []) ⟨H.set id (.row aj 1 bZ (l.reverse.map hC++b)),lo⟩):=by
 refine aF Su λN R=>?_
 have y:=fh i;have g: ∀E,fj E .sl (.ref id aj 1 0 l.length false)=some (.int .i64 l.length):=λE=>rfl
 have d: ∀af,(H.set id (.row aj 1 bZ af))[id]?=some (.row aj 1 bZ af):=λaf=>ag1 y
 have M: ∀k,∀el∈(iv l k).map hC++b,el.length=1:=λk el p=>by
  rcases agT.1 p with h|h
  ·obtain⟨x,_,rfl⟩:=ag2.1 h;rfl
  ·exact f _ h
 simp(disch:=omega) only[go_sem,simprocAttr,Su,g];refine dU l.length (λk e H'=>H'=H.set id (.row aj 1 bZ ((iv l k).map hC++b))/\e 0= .ref id aj 1 0 l.length false/\e 2= .int .i64 k/\e 3= .int .i64 ((l.length:Int)-1-k)) 0 (by omega) ?_ ?_
 ·rw[atO,qc i];simp only[go_sem,simprocAttr];exact akp _ (by omega)
 rintro k Q e H' ⟨rfl,K,J,I⟩ n O;simp only[bR,F1,go_sem,simprocAttr,ago,K,J,I];refine⟨λh=>?_,λh=>?_⟩
 ·have u:2*k+1<l.length:=by omega
  have w:k<l.length:=by omega
  obtain⟨m,hm⟩: ∃m,m=l.length-1-k:=⟨_,rfl⟩;have t: (l.length:Int)-1-k=(m:Nat):=by omega
  have o:Rd ⟨H.set id (.row aj 1 bZ ((iv l k).map hC++b)),none⟩ (.ref id aj 1 0 l.length false) 1 ((iv l k).map hC):=by
   have:=Gd (lo:=none) (c:=false) (n:=l.length) (d ((iv l k).map hC++b)) (by rw[agU,agZ,sY];omega) (M k);rwa[ape (by rw[agZ,sY])]at this
  have C:jU 1 (.ref id aj 1 0 l.length false) (.int .i64 (m:Nat))=some (.dp id aj m 0):=by
   have:=o.ck (k:=.i64) (a:=(m:Nat));rw[sY,afl (by omega)]at this;rw[this];simp[fu]
  have B:jU 1 (.ref id aj 1 0 l.length false) (.int .i64 (k:Nat))=some (.dp id aj k 0):=by
   have:=o.ck (k:=.i64) (a:=(k:Nat));rw[sY,afl (by omega)]at this;rw[this];simp[fu]
  have A: ∀j,j<l.length->cg X0 ⟨H.set id (.row aj 1 bZ ((iv l k).map hC++b)),none⟩ false 1 (.dp id aj j 0)=some (.int .u32 ((iv l k).getD j default:Nat)):=λj F=>by
   have:=o.cE (X:=X0) (j:=j) (off:=0) (n:=1) (agg:=false) (by rw[sY];exact F);simp only[fu,ana]at this;rw[this,pH]
  have s:=A m (by omega);have r:=A k (by omega);rw[atN (by omega),afi (by omega)]at s r;have G: ∀ (L:lN) (j v:Nat),L.length=l.length->j<l.length->kK ⟨H.set id (.row aj 1 bZ (L.map hC++b)),none⟩ 1 (.dp id aj j 0) (.int .u32 v)=some ⟨H.set id (.row aj 1 bZ ((L.set j v).map hC++b)),none⟩:=λL j v A F=>by
   rw[aiy (d _) (by rw[agU,agZ];omega) (λel p=>by
    rcases agT.1 p with h|h
    ·obtain⟨x,_,rfl⟩:=ag2.1 h;rfl
    ·exact f _ h) rfl rfl rfl,anc,arP _ _ (by rw[agZ];omega)]
   have: (L.map hC).set j [.int .u32 v]=(L.set j v).map hC:=by rw[<-map_set];rfl
   rw[this]
  have z:=G (iv l k) k (l.getD m default) sY (by omega);have q:=G ((iv l k).set k (l.getD m default)) m (l.getD k default) (by rw[ag7,sY]) (by omega);rw[hm,atQ u,<-hm]at q;simp(disch:=omega) only[go_sem,simprocAttr,K,J,I,t,C,B,s,r,z,q];exact⟨w,akp _ (by omega)⟩
 ·have he:=atP (l:=l) (k:=k) (by omega);rw[he,agQ (by rw[ag7];omega)]
def U3(t:aw)(h:Nat)(N:Nat)(H:List ae)(b:H.length=N)(lo:oN):D X0 (.fn (.func D9) [] []) [.agg (aI t),.int .u32 h] ⟨H,lo⟩=some (.ret (.fn (.func yC) [] [.ptr (N+1) 0,.ptr N 0]) ⟨H++[.box (aI t) none,.box [.int .u32 h] none],lo⟩):=by
 refine aF So λM a=>?_
 obtain rfl:M=N:=by omega
 simp only[go_sem,simprocAttr,So,a];rw[Cf (by omega)]
def rH(t:aw)(h:Nat):List lA:=(du t h).map hC
def U4(t:aw)(h:Nat): (rH t h).length=(du t h).length:=by simp[rH]
structure atT(W:List ae)(v:AV)(id:Nat)(st:lN):Prop where
 ex: ∃aj rest,v= .ref id aj 1 0 st.length false/\W[id]?=some (.row aj 1 bZ (st.map hC++rest))/\ ∀el∈rest,el.length=1
theorem oY{t:aw}: ∀st:lN,st.length<=(st.flatMap (du t)).length
 | []=>by simp
 |x::xs=>by
  have d:1<=(du t x).length:=by
   cases e:du t x with
   |nil=>trivial
   |cons a b=>simp
  have c:=oY (t:=t) xs
  grind
def atU{H:List ae}{id:Nat}{ty:TypeId}{ys:List lA}(h:H[id]?=some (.row aj 1 ty af))(f:n<=af.length)(e: ∀el∈ys,el.length=1)(a:b8 ys=0)(d: (n+ys.length)*4<=room)(b:ys≠[]):
  dw ⟨H,lo⟩ ty 1 4 (.ref id aj 1 0 n false) ys=some (.ref id (aj+1) 1 0 (n+ys.length) false,⟨H.set id (.row (aj+1) 1 ty (af.take n++ys)),lo⟩):=by
 have c:0<1/\ys.all (λel=>el.length==1)=true:=⟨by omega,by grind⟩;unfold dw;rw[afl c];simp only[h];rw[afl ⟨trivial,trivial,trivial,trivial,by omega,d⟩,afi (by grind)];simp[AS.set,a]
def atV{H:List ae}{id:Nat}{ty:TypeId}(h:H[id]?=some (.row aj 1 ty af))(a:n<=af.length)(b:n*4<=room):
  dw ⟨H,lo⟩ ty 1 4 (.ref id aj 1 0 n false) []=some (.ref id aj 1 0 n false,⟨H,lo⟩):=by
 unfold dw
 grind
def atW{X Y:Ctx}(a:Ext X Y)(h:X.code f=some pf)(b:X.bU f=none):Y.bU f=none:=by
 rcases a.bU f with e| ⟨_,e⟩
 ·grind
 grind
def atX{X Y:Ctx}(a:Ext X Y)(h:X.code f=some pf):Y.code f=some pf:=by rw[a.code];exact h
theorem xu{X Y:Ctx}(a:Ext X Y){args:lA}{E:AS}{r:aS}(h:D X v args E=some r):D Y v args E=some r:=afd a _ _ _ _ h
def U5{Y:Ctx}(U:Ext X4 Y)(t:aw)(ht:bN t)(hT:cm t)(h:Nat)(hg:t.ax h=true)(a:Nat):
  uH Y (.fn (.func yC) [] [.ptr (a+1) 0,.ptr a 0]) a [.box (aI t) none,.box [.int .u32 h] none] (rH t h):=by
 intro S V y I J b hV aiD uy W s hP h0 wA C hG lo;have hh:=gg hg;have o: ∀i,V.dN i->i<b:=λi hi=>(aiD i hi).1
 suffices h: ∃cr,D Y (.fn (.func yC) [] [.ptr (a+1) 0,.ptr a 0]) [y] ⟨W,lo⟩=some cr/\
   (λcr=> ∃O P ak,cr=aS.ret (.au []) ⟨P,ak⟩/\V.P O P/\ (I (rH t h).length O\/J O)/\b<=P.length/\
     (∀i,i<b-> ¬V.dN i-> ¬(a<=i/\i<a+[ae.box (aI t) none,.box [.int .u32 (h:Nat)] none].length)->P[i]?=W[i]?)/\m2 V.c b lo ak none (V.row O)) cr by
  obtain⟨cr,h1,O,P,ak,rfl,q1,q2,q3,q4,q5⟩:=h;exact⟨O,P,ak,h1,q1,q2,q3,q4,q5⟩
 refine vA St (atW U rfl rfl) (atX U rfl) rfl λN hN=>?_
 obtain rfl:N=b:=by omega
 have g0:W[a]?=some (.box (aI t) none):=hG 0 (by simp);have g1:W[a+1]?=some (.box [.int .u32 h] none):=hG 1 (by simp);have ha:=fh g1;have UU: ¬V.dN a:=λq=>(aiD a q).2 ⟨by omega,by simp⟩
 have hul:=Uy hT h;have F: ∀n:Nat,n<=40000000->n*4<=room:=λn hn=>by unfold room;omega
 simp only[go_sem,simprocAttr,St,hN,g1];refine gS (du t h).length (λk e P ak=> ∃O st id,I k O/\jZ V N W (λi=>a<=i/\i<a+[ae.box (aI t) none,.box [.int .u32 (h:Nat)] none].length) O P ak/\P[a]?=some (.box (aI t) none)/\atT P (e 4) id st/\N<=id/\V.row O≠some id/\
  st.reverse.flatMap (du t)=(du t h).drop k/\ (∀x∈st,t.ax x=true)/\e 0=y/\e 1= .ptr (a+1) 0/\e 2= .ptr a 0) 0 (by omega) ?_ ?_
 ·simp only[go_sem,simprocAttr];refine⟨s,[h],N,h0,?_,?_,?_,agW _,?_,by simp,by simpa using hg⟩
  ·exact jZ.push hV o ⟨hP,by omega,λ_ _ _ _=>rfl,.inl ⟨rfl,C⟩,λr e=>by rw[C]at e;cases e⟩ _
  ·exact bh g0
  ·exact⟨0,[],rfl,by rw[dh hN];rfl,by simp⟩
  ·rw[C];simp
 rintro k hk e W1 R ⟨s1,st,id,hI,hS,w0,⟨aj,rest,e4,hr,G⟩,hid,aiF,A,ig,e0,e1,e2⟩ n hn;have UX:N<=n:=by have:=hS.len;omega
 have aDv:=fh hr;have aDw:st.length<=(du t h).length-k:=by
  have:=oY (t:=t) st.reverse;rw[A,List.length_reverse,anA]at this;exact this
 have H: ∀E,fj E .sl (.ref id aj 1 0 st.length false)=some (.int .i64 st.length):=λE=>rfl
 simp(disch:=omega) only[bR,go_sem,simprocAttr,agn,e4,H];refine⟨λhc=>?_,λhc=>?_⟩
 ·obtain⟨d,x,rfl⟩: ∃d x,st=d++[x]:=⟨st.dropLast,st.getLast (by rintro rfl;simp at hc),(List.dropLast_concat_getLast _).symm⟩;have hgx:=ig x (by simp);have hx:=gg hgx;have T: (d++[x]).length=d.length+1:=by simp
  have u: (du t h).drop k=x:: ((kids t x).flatMap (du t)++d.reverse.flatMap (du t)):=by
   rw[<-A,List.reverse_append,aps];show(x:: []).flatMap (du t)++_=_;rw[arI,List.flatMap_nil,aip,Uw hT x];rfl
  have UW:k< (du t h).length:=by
   have:=akp List.length u;rw[anA,ag5]at this;omega
  have wu: (rH t h)[k]?=some [.int .u32 (x:Nat)]:=by
   unfold rH;rw[aiG];have: (du t h)[k]?=((du t h).drop k)[0]?:=by rw[anp];rfl
   rw[this,u];rfl
  obtain⟨c,s2,W2,l,p1,p2,p3,p4,p5,p6⟩:=uy k _ s1 wu hI W1 hS.P hS.len R;have L:=hS.step p2 p3 p4 p5;have U6: ∀i,i<N->V.row s1≠some i:=λi hi q=>by have:=hS.row _ q;omega
  have v0:W2[a]?=some (.box (aI t) none):=by rw[p3.2 a (by omega) UU (U6 _ (by omega))];exact w0
  have vr:W2[id]?=some (.row aj 1 bZ ((d++[x]).map hC++rest)):=by rw[p3.2 id (by omega) (λq=>by have:=o _ q;omega) aiF];exact hr
  have ml:Rd ⟨W1,R⟩ (.ref id aj 1 0 (d++[x]).length false) 1 ((d++[x]).map hC):=by
   have:=Gd (lo:=R) (c:=false) (n:=(d++[x]).length) hr (by simp) (λel g=>by
    rcases agT.1 g with h|h
    ·obtain⟨x,_,rfl⟩:=ag2.1 h;rfl
    ·exact G _ h)
   rwa[ape (by simp)]at this
  have hA:jU 1 (.ref id aj 1 0 (d.length+1) false) (.int .i64 (d.length:Nat))=some (.dp id aj d.length 0):=by
   have:=ml.ck (k:=.i64) (a:=(d.length:Nat));rw[T,afl (by omega)]at this;rw[this];simp[fu]
  have hL:cg Y ⟨W1,R⟩ false 1 (.dp id aj d.length 0)=some (.int .u32 (x:Nat)):=by
   have:=ml.cE (X:=Y) (j:=d.length) (off:=0) (n:=1) (agg:=false) (by simp);simp only[fu,ana]at this;rw[this,pH];simp
  have U7: ((d.length:Nat):Int)+1-1=(d.length:Nat):=by omega
  cases c
  ·obtain⟨M,Ci,q1,q2,q3,q4,q5⟩:=L.fin hV o (dx:=lo);simp only[go_sem,simprocAttr,U7,e0,T,hA,hL,p1,q1];exact⟨s2,M,Ci,rfl,q2,.inr p6,q3,q4,q5⟩
  ·obtain⟨kv,Jk,m,k1,⟨z,v,kid,rfl,Z⟩,k3⟩:=atM t ht x hgx W2.length W2 rfl l;have hkn:=fh Z;have kl:=ahY t x;have w:=xu U (sX (X:=X4) (f:=m4) (p:=rF) rfl k1);have r1:=xu U<|up atA (atS z v (W2++Jk) (kids t x) (by omega) m Z k3 l);rw[agZ]at w;have aDy:id≠z:=by have:=fh vr;omega
   obtain⟨M,K⟩: ∃M,M=(W2++Jk).set z (.row v 1 bZ ((kids t x).reverse.map hC++m)):=⟨_,rfl⟩;rw[<-K]at r1;have Q:M[id]?=some (.row aj 1 bZ ((d++[x]).map hC++rest)):=by rw[K,aex (by omega)];exact bh vr
   have v03:M[a]?=some (.box (aI t) none):=by rw[K,aex (by have:=fh v0;omega)];exact bh v0
   have g:Den.elems ⟨M,l⟩ 1 (.ref z v 1 0 (kids t x).length false)=some ((kids t x).reverse.map hC):=by
    have h3:M[z]?=some (.row v 1 bZ ((kids t x).reverse.map hC++m)):=by rw[K];exact ag1 hkn
    have:=(Gd (lo:=l) (c:=false) (n:=(kids t x).length) h3 (by simp) (λel g=>by
     rcases agT.1 g with h|h
     ·obtain⟨x,_,rfl⟩:=ag2.1 h;rfl
     ·exact k3 _ h)).eq
    rwa[ape (by simp)]at this
   have hS3:jZ V N W (λi=>a<=i/\i<a+[ae.box (aI t) none,.box [.int .u32 (h:Nat)] none].length) s2 M l:=by
    rw[K];exact(L.push hV o Jk).set hV (λq=>by have:=o _ q;have:=L.len;omega) (λq=>by have:=hV.Ir L.P q;omega) (.inr (by have:=L.len;omega))
   have wi:=aiz (id:=id) (aj:=aj) (n:=d.length+1) (i:=d.length) (by omega);have B:V.row s2≠some id:=by
    rcases p4 with q| ⟨r,q,hq⟩
    ·rw[q];exact aiF
    ·rw[q];intro e;cases e;omega
   have U8: ((d++(kids t x).reverse).reverse).flatMap (du t)=(du t h).drop (k+1):=by
    have:=akp (List.drop 1) u;rw[aqX]at this;rw[this,List.reverse_append,List.reverse_reverse,aps];rfl
   have aiJ: ∀y∈d++(kids t x).reverse,t.ax y=true:=λy hy=>by
    rcases agT.1 hy with h|h
    ·exact ig y (by simp[h])
    ·exact(jh ht.b).1 (L1 (List.mem_reverse.1 h)).2.2
   by_cases hke:kids t x=[]
   ·have sa:=atV (lo:=l) (n:=d.length) Q (by simp) (F _ (by omega));rw[hke]at g w r1 U8 aiJ;simp only[aoY,List.reverse_nil,ayu]at g w r1;simp(disch:=omega) only[go_sem,simprocAttr,U7,e0,e1,e2,e4,T,hA,hL,p1,v0,w,r1,wi,g,sa];refine⟨UW,s2,d,id,p6,hS3,v03,⟨aj,[hC x]++rest,rfl,?_,?_⟩,hid,B,by simpa using U8,λy hy=>ig y (by simp[hy])⟩
    ·rw[Q];simp
    ·intro el g;rcases agT.1 g with h|h
     ·rw[agV.1 h];rfl
     ·exact G _ h
   ·have sa:=atU (lo:=l) (n:=d.length) (ys:=(kids t x).reverse.map hC) Q (by simp) (λel g=>by obtain⟨x,_,rfl⟩:=ag2.1 g;rfl) (bA (λ_=>rfl) _) (F _ (by simp;omega)) (by simpa using hke);simp(disch:=omega) only[go_sem,simprocAttr,U7,e0,e1,e2,e4,T,hA,hL,p1,v0,w,r1,wi,g,sa];refine⟨UW,s2,d++(kids t x).reverse,id,p6,?_,?_,⟨aj+1,[],?_,?_,λ_ h=>by cases h⟩,hid,B,U8,aiJ⟩
    ·exact hS3.set hV (λq=>by have:=o _ q;omega) B (.inr (by omega))
    ·exact v03
    ·simp
    ·rw[ag1 (fh Q)];have e:List.take d.length (List.map hC (d++[x])++rest)=List.map hC d:=by
      rw[ag9,afq,ape (by simp)]
     rw[e,ag9,aip]
 ·obtain⟨M,Ci,q1,q2,q3,q4,q5⟩:=hS.fin hV o (dx:=lo);have at0:st=[]:=by
   have:st.length=0:=by omega
   exact ams.1 this
  subst at0;have hk2:k=(rH t h).length:=by
   rw[U4];have:=akp List.length A;rw[anA]at this;simp at this;omega
  simp only[go_sem,simprocAttr,q1];exact⟨s1,M,Ci,rfl,q2,.inl (hk2 ▸ hI),q3,q4,q5⟩
def at2{X:Ctx}{a:List RV}{R:aS->Prop}{e:Env}{b:lN}{H:List ae}{l:oN}:
  AQ X lo a R .ret ⟨e,p::b⟩ ⟨H,l⟩=match H[p]? with|some .bD=>AQ X lo a R .ret ⟨e,b⟩ ⟨H.set p .dead,l⟩|_=>False:=by
 simp only[AQ,dy];cases c:H[p]? with
 |none=>simp
 |some o=>cases o<;>simp[AS.set]
structure ASt where
 l:lN
 row:oN
def aiM(H:List ae)(N a k:Nat):YV ASt:=⟨λs W=>(∀i,i<N-> ¬(a<=i/\i<a+k)->W[i]?=H[i]?)/\SV N 1 bZ W s.row (s.l.map hC),ASt.row,λi=>i<N+1/\ ¬(a<=i/\i<a+k),N⟩
theorem at3{H:List ae}{N k:Nat}(h:a+k<=N): (aiM H N a k).Ok where
 st:=λs W j ⟨g,c⟩ b=>by
  refine⟨λi d f=>?_,c.st (b _ (.inl ⟨auJ _,by omega⟩)) λi d=>b i (.inr d)⟩;rw[b i (.inl ⟨by omega,f⟩)];grind
 lt:=λs W r ⟨_,c⟩ e=>c.row e
def at4(g:AV)(xs:lN)(wu:xs.length<=40000000)(a:Nat)(G:List ae)(D:rT X4 g=true)(B:uH X4 g a G (xs.map hC))(N:Nat)(H:List ae)(hN:H.length=N)(F:a+G.length<=N)
  (hG: ∀i,i<G.length->H[a+i]?=G[i]?) (lo:oN):
  ∃v W ak,xr [.ai,g] ⟨H,lo⟩=some (.ret v ⟨W,ak⟩)/\aQ N W v 1 bZ (xs.map hC)/\ (∀i,i<N-> ¬(a<=i/\i<a+G.length)->W[i]?=H[i]?)/\N<=W.length/\ (ak=lo\/ ∃j,N<=j/\ak=cC lo j):=by
 suffices hs: ∃n,xr [.ai,g] ⟨H,lo⟩=some n/\ (λn=> ∃v W ak,n=aS.ret v ⟨W,ak⟩/\aQ N W v 1 bZ (xs.map hC)/\ (∀i,i<N-> ¬(a<=i/\i<a+G.length)->W[i]?=H[i]?)/\N<=W.length/\ (ak=lo\/ ∃j,N<=j/\ak=cC lo j)) n by
  obtain⟨n,h1,v,W,ak,rfl,h2⟩:=hs;exact⟨v,W,ak,h1,h2⟩
 refine wz (X:=X4) Lm rfl λM J=>?_
 obtain rfl:M=N:=by omega
 have hb:=aie (H:=H) (lo:=none) (tg:=none) (Rv.ai (sz:=1));simp only[go_sem,simprocAttr,Lm,J,hb];obtain⟨k,c⟩: ∃k,k=H++[ae.box [.ai] none]:=⟨_,rfl⟩;rw[<-c];have Y:k.length=M+1:=by rw[c];simp[J]
 have m:SV M 1 bZ k none []:=.inl ⟨rfl,rfl,by rw[c,dh J];rfl⟩;generalize d: ((((cZ _).set 2 _).set 4 _).set 6 _)=e;have f:e 2= .ptr M 0:=by rw[<-d];rfl
 have R: (ao.t 6).get e=g:=by rw[<-d];rfl
 clear d;refine Io (aiM H M a G.length) (at3 F) (xs.map hC) a G k ⟨[],none⟩ (by rw[R];exact D) (by rw[R];exact B) (λi b=>?_) (by omega) (λi b=>⟨by have:=b.1;omega,b.2⟩) ⟨λi b p=>?_,m⟩ rfl
  (λj s=>s.l=xs.take j) (λ_ _=>False) rfl (λ_ _ h=>h.elim) ?_ ?_ (λ_ _ _ _ h=>h.elim)
 ·rw[c,aez (by omega)];exact hG i b
 ·rw[c,aez (by omega)]
 ·intro j y s T t;rw[aiG,agY]at T;obtain⟨x,U,rfl⟩:=T;have hj:=(aeA.1 U).1;refine⟨rfl,λW Z wA=>?_⟩;simp only[go_sem,simprocAttr,iD,hC];refine⟨[],by simp,λW2 hW2 I=>?_⟩;obtain⟨w,o⟩:=I;have wi:s.l.length<=40000000:=by
   have:s.l=xs.take j:=t;rw[this,aiI];omega
  obtain⟨vv,v',W3,O,Q,a1,a2,a3,a4,a5,a6,a7⟩:=o.append (bytes:=4) (el:=hC x) (by omega) (by omega) rfl rfl (by rw[agZ];unfold room;omega) none;have C:hC x=[.int .u32 (x:Nat)]:=rfl;rw[C]at a2;simp only[go_sem,simprocAttr,agm,f,a1,a2,a3,DN,aip];have l: ∀i,s.row=some i->M<i:=by
   intro i b;rcases o with⟨q,_⟩| ⟨id,aj,q,_,f,q3,q4⟩
   ·rw[q]at b;cases b
   ·rw[q]at b;cases b;exact f
  refine⟨⟨s.l++[x],Q⟩,⟨λi b p=>?_,?_⟩,⟨by show W2.length<=O.length;omega,λi b hp hr=>?_⟩,.inr ⟨M,agW _,by omega,rfl,?_⟩,?_⟩
  ·show O[i]?=_;rw[a6 i (by omega) (by omega) (λq=>by have:=l i q;omega)];exact w i b p
  ·show SV M 1 bZ O Q ((s.l++[x]).map hC);rw[ag9];exact a4
  ·have z: ¬(i<M+1/\ ¬(a<=i/\i<a+G.length)):=hp;exact a6 i b (by rintro rfl;exact z ⟨by omega,by omega⟩) hr
  ·rcases a7 with q| ⟨q,u,f⟩
   ·exact .inl q
   ·exact .inr ⟨q,u,by omega⟩
  ·show s.l++[x]=xs.take (j+1);have:s.l=xs.take j:=t;rw[this,ait,U];rfl
 ·intro P W' ak t Z hl V pc A;obtain⟨w,o⟩:=Z;have K:P.l=xs:=by
   have:P.l=xs.take (xs.map hC).length:=t;rw[this,agZ,ag4]
  obtain⟨v,o1,S,o3,o4,_⟩:=o.own (N:=M) (agW _) (by intro el E;obtain⟨r,_,rfl⟩:=ag2.1 E;rfl);rw[K]at S;have ho:aQ M (W'.set k.length .dead) v 1 bZ (xs.map hC):=by
   obtain⟨c1,L⟩:=S;refine⟨c1,?_⟩;rcases L with L| ⟨id,aj,d1,d2,d3⟩
   ·exact .inl L
   ·refine .inr ⟨id,aj,d1,d2,?_⟩;rw[aex];exact d3;rintro rfl;rw[V]at d3;cases d3
  simp only[go_sem,simprocAttr,f,o1,V,at2,sf];refine⟨v,_,_,rfl,ho,λi b p=>?_,by rw[ag7];omega,?_⟩
  ·rw[aex (by omega)];exact w i b p
  ·rcases A with⟨rfl,_⟩| ⟨j,u,f,rfl⟩
   ·exact .inl rfl
   ·exact .inr ⟨j,u,rfl⟩
def at5(g:AV)(xs:lN)(c:xs.length<=40000000)(a:Nat)(G:List ae)(e:rT X4 g=true)(d:uH X4 g a G (xs.map hC))(N:Nat)(H:List ae)(s:H.length=N)(f:a+G.length<=N)
  (m: ∀i,i<G.length->H[a+i]?=G[i]?) (lo:oN):
  ∃v W ak,zJ [g] ⟨H,lo⟩=some (.ret v ⟨W,ak⟩)/\aQ N W v 1 bZ (xs.map hC)/\ (∀i,i<N-> ¬(a<=i/\i<a+G.length)->W[i]?=H[i]?)/\N<=W.length/\ (ak=lo\/ ∃j,N<=j/\ak=cC lo j):=by
 suffices r: ∃b,zJ [g] ⟨H,lo⟩=some b/\ (λb=> ∃v W ak,b=aS.ret v ⟨W,ak⟩/\aQ N W v 1 bZ (xs.map hC)/\ (∀i,i<N-> ¬(a<=i/\i<a+G.length)->W[i]?=H[i]?)/\N<=W.length/\ (ak=lo\/ ∃j,N<=j/\ak=cC lo j)) b by grind
 refine wz (X:=X5) Ll rfl λM l=>?_
 obtain rfl:M=N:=by omega
 obtain⟨v,W,ak,e1,q,e3,o,n⟩:=at4 g xs c a G e d M H l f m none;have h:D X5 (.fn (.func qL) [] []) [.ai,g] ⟨H,none⟩=some _:=sX (p:=xr) rfl e1;simp only[go_sem,simprocAttr,Ll,h,sf];refine⟨v,W,_,rfl,q,e3,o,?_⟩;rcases n with rfl| ⟨j,k,rfl⟩
 ·exact .inl rfl
 ·exact .inr ⟨j,k,rfl⟩
def at6(t:aw)(q:bN t)(n:cm t)(h:Nat)(s:h<4294967296)(N:Nat)(H:List ae)(B:H.length=N)(lo:oN):
  ∃v J ak,Ch [.agg (aI t),.int .u32 h] ⟨H,lo⟩=some (.ret v ⟨H++J,ak⟩)/\aQ N (H++J) v 1 bZ ((under t h).map hC)/\ (ak=lo\/ ∃j,N<=j/\ak=cC lo j):=by
 suffices A: ∃k,Ch [.agg (aI t),.int .u32 h] ⟨H,lo⟩=some k/\ (λk=> ∃v J ak,k=aS.ret v ⟨H++J,ak⟩/\aQ N (H++J) v 1 bZ ((under t h).map hC)/\ (ak=lo\/ ∃j,N<=j/\ak=cC lo j)) k by grind
 refine wz (X:=X6) Fx rfl λM e=>?_
 obtain rfl:M=N:=by omega
 have a:=up aiw (en t.b h s (H++[.box (aI t) none]) none);have l:Go.Proofs.YteplichagkpciaaGreatDoor.ax t.b h=t.ax h:=rfl;rw[l]at a;cases d:t.ax h with
 |false=>
  rw[d]at a;simp only[go_sem,simprocAttr,Fx,e,a,sf,fU];refine⟨_,_,_,rfl,?_,.inl rfl⟩;unfold under;rw[d];exact aQ.ai
 |true=>
  rw[d]at a;have hu:under t h=du t h:=by unfold under;rw[afl d];rfl
  obtain⟨H1,b⟩: ∃H1,H1=H++[ae.box (aI t) none,.box (aI t) none,.box [.int .u32 h] none]:=⟨_,rfl⟩;have o:=up aiw (U3 t h (M+1) (H++[.box (aI t) none]) (by simp[e]) none);have f:H1.length=M+3:=by rw[b];simp[e]
  have m: ∀i,i<2->H1[M+1+i]?=[ae.box (aI t) none,.box [.int .u32 h] none][i]?:=λi r=>by
   rw[b,ag8 (by omega),show M+1+i-H.length=i+1 by omega];rfl
  obtain⟨v,W,ak,y,x,w,C,u⟩:=at5 (.fn (.func yC) [] [.ptr (M+1+1) 0,.ptr (M+1) 0]) (du t h) (by have:=Uy n h;omega) (M+1) [.box (aI t) none,.box [.int .u32 h] none] rfl (U5 ⟨rfl,rfl,rfl,λ_=>.inl rfl⟩ t q n h d (M+1)) (M+3) H1 f (by simp) m none;have g:D X6 (.fn (.func sh) [] []) [.fn (.func yC) [] [.ptr (M+1+1) 0,.ptr (M+1) 0]] ⟨H1,none⟩=some _:=sX (p:=zJ) rfl y;have c:W=H++W.drop M:=by
   have:W.take M=H:=ll e λi r=>by
    rw[w i (by omega) (by omega),b,aez (by omega)]
   rw[<-this];simp
  rw[b]at g;simp only[afq,akr,aiL]at o;simp only[go_sem,simprocAttr,Fx,e,a,o,g,sf];refine⟨v,W.drop M,_,da rfl c,?_,?_⟩
  ·rw[<-c,hu];exact aQ.le x (by omega)
  ·rcases u with rfl| ⟨j,z,rfl⟩
   ·exact .inl rfl
   ·exact .inr ⟨j,by omega,rfl⟩
def aQ.nA{N:Nat}{H:List ae}{ty:TypeId}(h:aQ N H v sz ty af){cs:lA}{tg:Option TypeId}(b:H[p]?=some (.box cs tg)){o:ae}:aQ N (H.set p o) v sz ty af:=by
 obtain⟨a,c⟩:=h;refine⟨a,?_⟩
 grind
theorem l7{N:Nat}{H:List ae}{ty:TypeId}{g:α->lA}(h:aQ N H v sz ty (l.map g))(lo:oN):Rd ⟨H,lo⟩ v sz (l.map g):=h.rd
def Mh(t:aw)(a:bN t)(c:cm t)(h:Nat)(b:h<4294967296)(N:Nat)(H:List ae)(d:H.length=N)(lo:oN):
  ∃v J ak,D X (.fn (.func pq) [] []) [.agg (aI t),.int .u32 h] ⟨H,lo⟩=some (.ret v ⟨H++J,ak⟩)/\aQ N (H++J) v 1 bZ ((under t h).map hC)/\ (ak=lo\/ ∃j,N<=j/\ak=cC lo j):=by
 obtain⟨v,J,ak,f,e⟩:=at6 t a c h b N H d lo;exact⟨v,J,ak,sX (p:=Ch) rfl f,e⟩
theorem dG.no{N:Nat}:dG N Option.none:=.inl rfl
def dG.of{N:Nat}(h:ak=Option.none\/ ∃j,N<=j/\ak=cC Option.none j):dG N ak:=by trivial
def dG.le{N M:Nat}(h:dG N lo)(a:M<=N):dG M lo:=by
 rcases h with h| ⟨j,q,e⟩
 ·exact .inl h
 ·exact .inr ⟨j,by omega,e⟩
def Mi{t:aw}(b:bN t)(a:x∈under t h):t.ax x=true:=by
 unfold under at a;split at a
 ·rename_i c;exact F7 b.b c a
 grind
def Gf{t:aw}(a:cm t)(h:Nat): (under t h).length<=39135393:=by
 unfold under;split
 ·exact Uy a h
 ·simp
theorem at7:fO dB:=⟨by trivial,by trivial,by trivial,by simp[dB],by trivial,by trivial⟩
def bN.drop{t:aw}(a:bN t)(h:Nat):bN (lg t h).1:=by
 unfold lg;split
 ·refine⟨F5 a.b h,λi=>?_⟩;show fO (ar t.r (aM h) dB i);by_cases e:i=aM h
  ·rw[e,cT];exact at7
  ·rw[di e];exact a.r i
 omega
def km(t:aw)(l:lN):aw:=l.foldl (λt x=>(lg t x).1) t
theorem aiN{t:aw}(a:bN t): ∀l:lN,bN (km t l)
 | []=>a
 |x::xs=>aiN (a.drop x) xs
def aua{t:aw}{l:lN}{k:Nat}(h:k<l.length):km t (l.take (k+1))=(lg (km t (l.take k)) (l.getD k default)).1:=by
 unfold km;rw[ait,afu h,aoH,getD_eq h];rfl
theorem iR{N:Nat}{H:List ae}(b:dG N ak)(a:v.refs<=N):finish N lo v ⟨H,ak⟩=(v,⟨H.take N,lo⟩):=uI b ((Fz.low (d:=11) a))
theorem Gg{N:Nat}{H:List ae}{ty:TypeId}(b:dG N ak)(h:aQ N H v sz ty af)(a:b8 af<=N):finish N lo v ⟨H,ak⟩=(bt v af,⟨H.take N,lo⟩):=
 uI b ((Fz.own (d:=8) h a))
theorem aiO{N:Nat}{a b:AV}{H:List ae}{ty:TypeId}(e:dG N ak)(h:aQ N H v sz ty af)(c:b8 af<=N)(g:a.refs<=N)(f:b.refs<=N):
  finish N lo (.au [a,v,b]) ⟨H,ak⟩=(.au [a,bt v af,b],⟨H.take N,lo⟩):=
 uI e (Fz.au (d:=11) (gT.cons ((Fz.low (d:=0) g).mono (by omega)) (gT.cons ((Fz.own (d:=0) h c).mono (by omega)) (gT.cons ((Fz.low (d:=0) f).mono (by omega)) gT.nil))))
def aub(t:aw)(z:bN t)(K:cm t)(h:Nat)(Q:h<4294967296)(H:List ae)(lo:oN):
  ∃w,D X (.fn (.func Jz) [] []) [.agg (aI t),.int .u32 h] ⟨H,lo⟩=some (.ret (.au [.agg (aI (lY t h).1),w,.int .i64 (lY t h).2.2]) ⟨H,lo⟩):=by
 suffices P: ∃l,D X (.fn (.func Jz) [] []) [.agg (aI t),.int .u32 h] ⟨H,lo⟩=some l/\ (λl=> ∃w,l=aS.ret (.au [.agg (aI (lY t h).1),w,.int .i64 (lY t h).2.2]) ⟨H,lo⟩) l by
  obtain⟨l,S,w,rfl⟩:=P;exact⟨w,S⟩
 refine cz LH λN d=>?_
 obtain⟨v,J,y,s,r,E⟩:=Mh t z K h Q (N+2) (H++[.box (aI t) none,.box jx none]) (by simp[d]) none;have O:=Gf K h;have a:=(l7 r y).bK;obtain⟨m,b⟩: ∃m,m=H++[ae.box (aI t) none,.box jx none]++J:=⟨_,rfl⟩;have w0:m[N]?=some (.box (aI t) none):=by rw[b,afq,dh d];rfl
 have w1:m[N+1]?=some (.box jx none):=by rw[b,afq,bz d];rfl
 have c:j4 N H m:=by rw[b,afq];exact j4.app d
 rw[<-b]at s r a;by_cases he:under t h=[]
 ·have e1:lY t h=(t,[],4):=by unfold lY;rw[afl he]
  have C: ((under t h).length:Int)=0:=by rw[he];rfl
  rw[e1];simp only[go_sem,simprocAttr,LH,d,s,a,C,w0,w1,cL,cN w1];rw[iR (dG.le (dG.of E) (by omega)) ?_]
  ·exact⟨_,da rfl ((c.set (by omega)).take d)⟩
  ·simp[AV.refs,aG,xf]
 ·have C: ¬((under t h).length:Int)=0:=by
    have:=aoX.2 he;omega
  simp only[go_sem,simprocAttr,LH,d,s,a,C];refine gS (under t h).length (λk e q ak=>j4 N H q/\q[N]?=some (.box (aI (km t ((under t h).take k))) none)/\q[N+1]?=some (.box jx none)/\aQ (N+2) q v 1 bZ ((under t h).map hC)/\dG (N+2) ak/\
   e 2= .ptr N 0/\e 4= .ptr (N+1) 0/\e 7=v/\e 17=v/\e 18= .int .i64 (under t h).length/\e 19= .int .i64 k) 0 (by omega) ?_ ?_
  ·simp only[go_sem,simprocAttr];exact⟨c,w0,w1,r,dG.of E⟩
  rintro k V e T x ⟨G,p,o,u,F,M,L,e7,j,i,g⟩ n U;have B:=aiN z ((under t h).take k);simp only[bR,go_sem,simprocAttr,agD,M,j,i,g];refine⟨λR=>?_,λR=>?_⟩
  ·have f:k< (under t h).length:=by omega
   have I:=l7 u x;have A:=λH lo=>up dj<|ata (km t ((under t h).take k)) B ((under t h).getD k default) (gg (Mi z (eX f))) H lo
   simp(disch:=omega) only[go_sem,simprocAttr,I.ck,I.cE,↓pH,p,A,UE,M,L,e7,j,i,g,<-aua f];exact⟨by omega,f,G.set (by omega),cN p,o,aQ.nA u p,F⟩
  ·simp only[go_sem,simprocAttr,p,o,L,e7,cL,cN o];obtain rfl:k=(under t h).length:=by omega
   have ho:aQ N (T.set (N+1) (ae.box (aI (km t ((under t h).take (under t h).length))) none)) v 1 bZ ((under t h).map hC):=aQ.nA (aQ.le u (by omega)) o;rw[aiO (dG.le F (by omega)) ho ?_ ?_ ?_]
   ·refine⟨bt v ((under t h).map hC),da ?_ ((G.set (by omega)).take d)⟩;unfold lY;rw[afi he,ag4];rfl
   ·rw[bA (λ_=>rfl)];omega
   ·simp[AV.refs,xf]
   ·simp[AV.refs]
def RB(l:List aE):Prop:=l.length<=100/\ ∀x∈l,x.1<4294967296/\x.2<4294967296
def U9{l:List aE}{k:Nat}(h:k<l.length):aN (l.take (k+1))=aN (l.take k)+(l.getD k default).2:=by
 unfold aN;rw[ait,afu h,ag9,List.sum_append,aha,afu h];simp
def auc{l:List aE}(h: ∀x∈l,x.2<4294967296):aN l<=l.length*4294967296:=by
 exact Ux (λx:aE=>x.2) 4294967296 l λx a=>Nat.le_of_lt (h x a)
def RB.bd{l:List aE}(h:RB l)(k:Nat):aN (l.take k)<=429496729600:=by
 have c:=auc (l:=l.take k) λx a=>(h.2 x (alP a)).2
 have b: (l.take k).length<=100:=by have:=h.1;grind
 omega
def RB.iE{l:List aE}(h:RB l):aN l<=429496729600:=by
 have:=h.bd l.length;grind
def xv(l:List aE):List lA:=(List.range l.length).map λi=>[.int .i64 (32*aN (l.take i):Nat),.agg (ay (l.getD i default))]
def Gi(l:List aE): (xv l).length=l.length:=by simp[xv]
def Va{l:List aE}(h:j<l.length): (xv l)[j]?=some [.int .i64 (32*aN (l.take j):Nat),.agg (ay (l.getD j default))]:=by
 unfold xv;grind
def aiP(v:AV)(n:Nat)(b:v.refs=0)(N:Nat)(H:List ae)(c:H.length=N)(lo:oN):D X0 (.fn (.func IC) [] []) [.agg [v,.int .i64 n]] ⟨H,lo⟩=some (.ret (.fn (.func DW) [] [.ptr N 0]) ⟨H++[.box [v,.int .i64 n] none],lo⟩):=by
 refine aF Ry λM a=>?_
 obtain rfl:M=N:=by omega
 simp only[go_sem,simprocAttr,Ry,a];rw[Cf (by omega)]
def aiQ(v:AV)(z:Nat)(l:List aE)(E:Rv v 2 (l.map ay))(H:RB l)(a:Nat):
  uH X0 (.fn (.func DW) [] [.ptr a 0]) a [.box [v,.int .i64 z] none] (xv l):=by
 intro S V y I J b A t F W s hP h0 wA j hG lo;have UM:=H.1;have f: ∀i,V.dN i->i<b:=λi hi=>(t i hi).1
 suffices h: ∃x,D X0 (.fn (.func DW) [] [.ptr a 0]) [y] ⟨W,lo⟩=some x/\
   (λx=> ∃d m ak,x=aS.ret (.au []) ⟨m,ak⟩/\V.P d m/\ (I (xv l).length d\/J d)/\b<=m.length/\
     (∀i,i<b-> ¬V.dN i-> ¬(a<=i/\i<a+[ae.box [v,.int .i64 z] none].length)->m[i]?=W[i]?)/\m2 V.c b lo ak none (V.row d)) x by
  obtain⟨x,h1,d,m,ak,rfl,q1,q2,Z,Y,X⟩:=h;exact⟨d,m,ak,h1,q1,q2,Z,Y,X⟩
 refine vA RK rfl rfl rfl λN hN=>?_
 obtain rfl:N=b:=by omega
 have u:W[a]?=some (.box [v,.int .i64 z] none):=hG 0 (by simp);simp only[go_sem,simprocAttr,RK,u,E.bK];refine gS l.length (λk e m ak=> ∃d,I k d/\jZ V N W (λi=>a<=i/\i<a+[ae.box [v,.int .i64 z] none].length) d m ak/\e 0=y/\e 3= .int .i64 (32*aN (l.take k):Nat)/\e 7=v/\e 8= .int .i64 l.length/\e 9= .int .i64 k) 0 (by omega) ?_ ?_
 ·simp only[go_sem,simprocAttr];exact⟨s,h0,⟨hP,by omega,λ_ _ _ _=>rfl,.inl ⟨rfl,j⟩,λr e=>by rw[j]at e;cases e⟩,by simp[aN]⟩
 rintro k hk e W1 C ⟨s1,Q,B,T,e3,e7,e8,R⟩ n P;simp only[bR,go_sem,simprocAttr,af9,e7,e8,R];refine⟨λh=>?_,λh=>?_⟩
 ·have g:k<l.length:=by omega
  have yx:=H.2 _ (eX g);have hpg:=H.bd k;have Hq:=U9 g;have hx:=Va g;generalize G:l.getD k default=r at*;have p:=B.push A f [.box (ay r) none];obtain⟨c,s2,W2,mr,O,p2,M,p4,p5,L⟩:=F k _ s1 hx Q (W1++[.box (ay r) none]) p.P p.len C;have w:=p.step p2 M p4 p5;have UX:N<=n:=by have:=B.len;omega
  have U:W2[n]?=some (.box (ay r) none):=by
   rw[M.2 n (by simp;omega) (λq=>by have:=f _ q;omega) (λq=>by have:=A.Ir B.P q;omega)];rw[<-P];simp
  simp(disch:=omega) only[go_sem,simprocAttr,E.ck,E.cE,h,P,T,e3,G];cases c
  ·obtain⟨K,o,f1,f2,f3,f4,f5⟩:=w.fin A f (dx:=lo);simp only[go_sem,simprocAttr,O,f1];exact⟨s2,K,o,rfl,f2,.inr L,f3,f4,f5⟩
  ·simp(disch:=omega) only[go_sem,simprocAttr,T,e3,e7,e8,R,O,U];exact⟨g,s2,L,w,akp _ (by omega)⟩
 ·obtain⟨K,o,f1,f2,f3,f4,f5⟩:=B.fin A f (dx:=lo);simp only[go_sem,simprocAttr,f1];exact⟨s1,K,o,rfl,f2,.inl (by rw[Gi,show l.length=k by omega];exact Q),f3,f4,f5⟩
theorem Mj{r:aE}:aH [AV.int .i64 0,.int .i64 0] 0 (ay r)=ay r:=rfl
def Mk(v:AV)(n:Nat)(l:List aE)(w:Rv v 2 (l.map ay))(g:RB l)(H:List ae)(lo:oN):
  D X0 (.fn (.func AU) [] []) [.agg [v,.int .i64 n]] ⟨H,lo⟩=some (.ret (.int .i64 (aN l:Nat)) ⟨H,lo⟩):=by
 refine aF Rj λN u=>?_
 have d:v.refs=0:=cM w (bA (λ_=>rfl) l);have F:=aiP v n d (N+2) (H++[.box [v,.int .i64 n] none,.box [.int .i64 0] none]) (by grind) none;simp only[go_sem,simprocAttr,Rj,u,F];refine yy (S:=Nat) (λe=>e 3= .ptr (N+1) 0) (by rfl) (xv l) u [.box [v,.int .i64 n] none] (λm=>[.box [v,.int .i64 n] none,.box [.int .i64 (m:Nat)] none]) (nB:=2) (λ_=>rfl) 0 (λj s=>s=aN (l.take j)) (λ_ _=>False) rfl ?_ (by simp) (by rfl) (λ_ _ h=>h.elim) ?_ ?_ ?_
 ·exact aiQ v n l w g (N+2)
 ·rintro e he j x s c rfl;have k:j<l.length:=by
   have:=(aeA.1 c).1;rwa[Gi]at this
  rw[Va k]at c;cases c;have y:=g.2 _ (eX k);have z:=g.bd j;have f:=U9 k;refine⟨rfl,λW I C A q=>?_⟩;simp only[go_sem,simprocAttr,iD,C,Mj];refine⟨[.box (ay (l.getD j default)) none],rfl,λG t b=>?_⟩;simp only[gH,gF,apw,ahc]at b;obtain⟨w0,w1⟩:=b;have f1: ∀L,(G++L)[N+1]?=some (.box [.int .i64 (aN (l.take j):Nat)] none):=λL=>bh w1
  simp(disch:=omega) only[go_sem,simprocAttr,afY,he,f1,t,sg];refine⟨aN (l.take (j+1)),?_,by omega,λi K B=>?_,rfl⟩
  ·simp only[gH,gF,apw,ahc];refine⟨by rw[aex (by omega)];exact bh w0,?_⟩;rw[ag1 (by simp;omega),f,api]
  ·rw[aex (by omega),aez (by omega)]
 ·rintro e he s W p J rfl a q E;simp only[gH,gF,apw,ahc]at q;obtain⟨w0,w1⟩:=q;have r: ∀o,(W.set p o).take N=H:=λo=>(a.set (by omega)).take u
  simp only[F1,go_sem,simprocAttr,he,w1,E,nw,r];rw[Gi,ag4]
 grind
def iC(n:Nat):lA:=[.int .i64 n]
theorem pI:Den.part false 1 (iC n) 0=some (.int .i64 n):=rfl
def aue(v:AV)(l:lN)(b:Rv v 1 (l.map iC))(q:l.length<2^40)(x:Nat)(H:List ae)(lo:oN):
  D X0 (.fn (.func Q8) [] []) [v,.int .i64 x] ⟨H,lo⟩=some (.ret (.int .i64 (gi (λy=>decide (x=y)) l)) ⟨H,lo⟩):=by
 refine aF TB λN t=>?_
 simp only[go_sem,simprocAttr,TB,b.bK];refine dU l.length (λk e H'=>H'=H/\e 0=v/\e 1= .int .i64 x/\e 7= .int .i64 l.length/\e 8= .int .i64 k/\ ∀j,j<k->decide (x=l.getD j default)=false) 0 (by omega) ?_ ?_
 ·simp only[go_sem,simprocAttr];omega
 ·rintro k r e H' ⟨rfl,o,m,i,g,f⟩ n p;simp(disch:=omega) only[bR,F1,go_sem,simprocAttr,agL,o,m,i,g];refine⟨λh=>?_,λh=>?_⟩
  ·have c:k<l.length:=by omega
   by_cases d:x=l.getD k default
   ·have a: ((x:Nat):Int)=((l.getD k default:Nat):Int):=by rw[<-d]
    simp(disch:=omega) only[F1,go_sem,simprocAttr,b.ck,b.cE,↓pI,a];rw[vy c f (agR d)];exact⟨by omega,rfl⟩
   ·have a: ¬((x:Nat):Int)=((l.getD k default:Nat):Int):=by omega
    simp(disch:=omega) only[go_sem,simprocAttr,b.ck,b.cE,↓pI,a,o,m,i,g];exact⟨by omega,c,mO f (afv d)⟩
  ·rw[vz (λj s=>f j (by omega))]
def auf(v:AV)(l:lN)(a:Rv v 1 (l.map iC))(b:l.length<2^40)(x:Nat)(H:List ae)(lo:oN):
  D X0 (.fn (.func Q4) [] []) [v,.int .i64 x] ⟨H,lo⟩=some (.ret (.bool (l.contains x)) ⟨H,lo⟩):=by
 refine aF Tv λN c=>?_
 simp only[F1,go_sem,simprocAttr,Tv,aue v l a b x,xq]
 grind
def aiR(a b:Nat)(h:a<2147483648)(g:b<2147483648)(H:List ae)(lo:oN):
  D X0 (.fn (.func Jy) [] []) [.int .i64 a,.int .i64 b] ⟨H,lo⟩=some (.ret (.bool (isObj a b)) ⟨H,lo⟩):=by
 refine aF FN λN f=>?_
 have e:=auf (.sl [[.int .i64 1],[.int .i64 2],[.int .i64 4],[.int .i64 8]] true) [1,2,4,8] (.sl (by simp)) (by simp) b H none;by_cases c: (a:Int)>=1
 ·by_cases d: (a:Int)<=128
  ·simp only[F1,go_sem,simprocAttr,FN,c,d,e];unfold isObj
   grind
  ·simp(disch:=omega) only[F1,go_sem,simprocAttr,FN,c,d];refine da (akp AV.bool ?_) rfl;unfold isObj;rw[afv (by omega: ¬a<=128)];simp
 ·simp(disch:=omega) only[F1,go_sem,simprocAttr,FN,c];refine da (akp AV.bool ?_) rfl;unfold isObj;rw[afv (by omega: ¬1<=a)];simp
theorem Gj: ∀ (l:List aE) (x:aE) (put:Bool) (out a:List aE),x.1+x.2<=64->(∀y∈l,y.1+y.2<=64)->(∀y∈out,y.1+y.2<=64)->gY x put out l=some a->
  (∀y∈a,y.1+y.2<=64)/\a.length<=out.length+l.length+(if put then 0 else 1)
 | [],x,put,out,a,e,_,ho,h=>by
   unfold gY at h
   grind
 |y::ys,x,put,out,a,e,g,ho,h=>by
  have i:=g y (amu ..);have b: ∀z∈ys,z.1+z.2<=64:=λz d=>g z (ahd _ d)
  unfold gY at h;split at h
  ·obtain⟨c,f⟩:=Gj ys x put _ a e b (λz d=>by grind) h
   grind
  ·split at h
   ·obtain⟨c,f⟩:=Gj ys x true _ a e b (λz d=>by
      rcases agT.1 d with h|h
      ·rcases agT.1 h with h|h
       ·exact ho z h
       ·cases put
        ·simp only[agX,amn]at h;rw[agV.1 h];exact e
        ·simp at h
      ·rw[agV.1 h];exact i) h
    refine⟨c,?_⟩;cases put<;>simp only[agU,ag5,aoY,aiH,amn,agX]at f⊢ <;>omega
   ·split at h
    ·obtain⟨c,f⟩:=Gj ys _ put out a (by simp;omega) b ho h;exact⟨c,by simp only[ag5];omega⟩
    ·split at h
     ·obtain⟨c,f⟩:=Gj ys _ put out a (by simp;omega) b ho h;exact⟨c,by simp only[ag5];omega⟩
     ·cases h
def aug{x:aE}(h:ld x=true):1<=x.2/\x.1+x.2<=64:=by
 unfold ld at h;grind
def auh{l a:List aE}{x:aE}(b: ∀y∈l,y.1+y.2<=64)(h:iq l x=some a): (∀y∈a,y.1+y.2<=64)/\a.length<=l.length+1:=by
 unfold iq at h;split at h
 ·rename_i hm;have:=Gj l x false [] a (aug hm).2 b (by simp) h
  grind
 grind
theorem Ml: ∀ (a b all:List aE),mI all (a++b)=(mI all a).bind λm=>mI m b
 | [],b,all=>rfl
 |x::a,b,all=>by
  simp only[akr,mI];cases iq all x with
  |none=>rfl
  |some m=>exact Ml a b m
def aui{l:List aE}{k:Nat}(h:k<l.length)(a:List aE):mI a (l.take (k+1))=(mI a (l.take k)).bind λm=>iq m (l.getD k default):=by
 rw[ait,afu h,Ml,aha,afu h];simp only[Option.toList_some,mI,amC]
 grind
def auj{l:List aE}{k:Nat}{a:List aE}(h:mI a (l.take k)=none):mI a l=none:=by grind [List.take_append_drop,Ml]
def aiS(v:AV)(n:Nat)(l:List aE)(w:n<4294967296)(g:Rv v 2 (l.map ay))(s:RB l)(C:l.length<=65)(H:List ae)(lo:oN):
  D X0 (.fn (.func I3) [] []) [.agg [v,.int .i64 n]] ⟨H,lo⟩=some (.ret (.bool (pV l n)) ⟨H,lo⟩):=by
 refine aF Sx λN E=>?_
 have r:=Mk v n l g s;have B:=s.iE;simp only[go_sem,simprocAttr,Sx,E,g.bK];refine dU l.length (λk e H'=> ∃J A,H'=cat H (.box [v,.int .i64 n] none:: .box [ef A] none::J)/\mI [] (l.take k)=some A/\A.length<=k/\ (∀x∈A,x.1+x.2<=64)/\e 1= .ptr N 0/\e 3= .ptr (N+1) 0/\e 9=v/\e 10= .int .i64 l.length/\e 11= .int .i64 k) 0 (by omega) ?_ ?_
 ·simp only[go_sem,simprocAttr];exact⟨[],[],dO.symm,by simp[mI],by simp,by simp⟩
 rintro k I e H' ⟨J,A,rfl,t,F,o,e1,e3,y,q,p⟩ z w;have d: ∀a b,(cat H (a::b::J)).length=z:=λ_ _=>by rw[<-w,FY,FY];rfl
 simp(disch:=omega) only[bR,go_sem,simprocAttr,agr,e1,y,q,p];refine⟨λh=>?_,λh=>?_⟩
 ·have f:k<l.length:=by omega
  have i:=s.2 _ (eX f);have j:=aio (ef A) A (m9 A) ⟨by omega,o⟩ (l.getD k default) i.1 i.2;have c:=aui f [];rw[t]at c;simp only[aqT]at c;cases m:iq A (l.getD k default)with
  |none=>
   rw[m]at c;have u:pV l n=false:=by unfold pV;rw[auj c];rfl
   simp(disch:=first|omega|apply d) only[F1,go_sem,simprocAttr,g.ck,g.cE,h,d,e3,Mj,j,qa,m,u,Ud]
  |some A'=>
   rw[m]at c;obtain⟨G,K⟩:=auh o m;simp(disch:=first|omega|apply d) only[go_sem,simprocAttr,g.ck,g.cE,h,d,e1,e3,y,q,p,Mj,j,qa,m,Ud];exact⟨f,_,A',T7,c,by omega,G⟩
 ·obtain rfl:k=l.length:=by omega
  rw[ag4]at t;have u:pV l n=decide (n<=aN l*32):=by unfold pV;rw[t];rfl
  simp(disch:=first|omega|apply d) only[F1,go_sem,simprocAttr,r];rw[u];exact da (akp AV.bool (ahb.2 (by omega))) rfl
def auk(a k:Nat)(e:a<4611686018427387904)(g:k<=3): (BitVec.ofInt 64 (a:Int)&&& ~~~ (BitVec.ofInt 64 ((2^k:Nat)-1:Int))).toNat=a/2^k*2^k:=by
 have e1:BitVec.ofInt 64 (a:Int)=BitVec.ofNat 64 a:=by simp
 have f:BitVec.ofInt 64 ((2^k:Nat)-1:Int)=BitVec.ofNat 64 (2^k-1):=by
  have: ((2^k:Nat)-1:Int)=((2^k-1:Nat):Int):=by
   have:=Nat.pow_pos (n:=k) (show 0<2 by omega);omega
  rw[this];simp
 rw[e1,f];apply Nat.eq_of_testBit_eq;intro i;rw[<-Nat.shiftLeft_eq,Nat.testBit_shiftLeft,Nat.testBit_div_two_pow,BitVec.testBit_toNat,BitVec.getLsbD_and,BitVec.getLsbD_not,BitVec.getLsbD_ofNat,BitVec.getLsbD_ofNat,Nat.testBit_two_pow_sub_one];by_cases b:i<64
 ·by_cases c:i<k
  ·simp[b,c];intro d;omega
  ·simp[b,c,show k<=i by omega,show i-k+k=i by omega]
 ·have:a.testBit i=false:=Nat.testBit_lt_two_pow (alR e (by
    have: (4611686018427387904:Nat)=2^62:=by decide
    rw[this];exact Nat.pow_le_pow_right (by omega) (by omega)))
  by_cases c:k<=i
  ·simp[b,c,show i-k+k=i by omega,this]
  ·simp[b,c]
def aul(f:a<4611686018427387904)(h: [1,2,4,8].contains b=true):dg .andNot (.int .i64 (a:Nat)) (.int .i64 ((b:Nat)-1))=some (.int .i64 (a/b*b:Nat)):=by
 have c: ∀k,k<=3->b=2^k->dg .andNot (.int .i64 (a:Nat)) (.int .i64 ((b:Nat)-1))=some (.int .i64 (a/b*b:Nat)):=by
  intro k d e;subst e;rw[OW];have e3:=auk a k f d;have g: (BitVec.ofInt IntKind.i64.bits (a:Int)&&& ~~~ (BitVec.ofInt IntKind.i64.bits ((2^k:Nat)-1:Int))).toNat=a/2^k*2^k:=e3;rw[g];have i:a/2^k*2^k<=a:=Nat.div_mul_le_self a _;rw[wrap_i64 (by omega) (by omega)]
 have:b=1\/b=2\/b=4\/b=8:=by grind
 rcases this with e|e|e|e
 ·exact c 0 (by omega) e
 ·exact c 1 (by omega) e
 ·exact c 2 (by omega) e
 ·exact c 3 (by omega) e
def aum(h:isObj b a=true):1<=b/\b<=128/\ [1,2,4,8].contains a=true/\1<=a/\a<=8:=by
 unfold isObj at h
 grind
def xw(l:List aE)(n b a:Nat):AV:=.au [.int .i64 ((gO l n b a).getD 0:Nat),.bool (gO l n b a).isSome]
def aiT(v:AV)(n:Nat)(l:List aE)(y:n<4294967296)(o:Rv v 2 (l.map ay))(j:RB l)(c b:Nat)(s:c<2147483648)(r:b<2147483648)(H:List ae)(lo:oN):
  D X0 (.fn (.func Jr) [] []) [.agg [v,.int .i64 n],.int .i64 c,.int .i64 b] ⟨H,lo⟩=some (.ret (xw l n c b) ⟨H,lo⟩):=by
 refine aF FH λN i=>?_
 have h:=Mk v n l o j;have p:=j.iE;have ho:=aiR c b s r;cases d:isObj c b with
 |false=>
  have e:gO l n c b=none:=by unfold gO;rw[d];rfl
  simp only[F1,go_sem,simprocAttr,FH,i,ho,d,xw,e]
 |true=>
  obtain⟨x,w,m,u,t⟩:=aum d;have g:D X0 (.fn (.func QV) [] [.ptr (N+1) 0]) [.int .i64 n] ⟨H++[.box [v,.int .i64 n] none,.box [.int .i64 b] none],none⟩=some (.ret (.int .i64 ((n+b-1)/b*b:Nat)) ⟨H++[.box [v,.int .i64 n] none,.box [.int .i64 b] none],none⟩):=by
   refine eP Tc λM A=>?_
   have e1: (n:Int)+b-1=((n+b-1:Nat):Int):=by omega
   simp(disch:=omega) only[F1,go_sem,simprocAttr,Tc,e1,aul (a:=n+b-1) (by omega) m]
  have z: (n+b-1)/b*b<=n+b-1:=Nat.div_mul_le_self _ _;have e:gO l n c b=if(n+b-1)/b*b+c<=aN l*32 then some ((n+b-1)/b*b)else none:=by unfold gO;rw[d];rfl
  generalize q: (n+b-1)/b*b=at' at*;by_cases k:at'+c<=aN l*32
  ·have f: ¬(at':Int)+c>aN l*32:=by omega
   rw[afl k]at e;simp(disch:=omega) only[F1,go_sem,simprocAttr,FH,i,ho,d,g,h,f,xw,e]
  ·have f: (at':Int)+c>aN l*32:=by omega
   rw[afi k]at e;simp(disch:=omega) only[F1,go_sem,simprocAttr,FH,i,ho,d,g,h,f,xw,e]
def vB(l:List aE)(n b c:Nat):Nat:=match gO l n b c with|some a=>a+b|none=>n
def aiU(v:AV)(n:Nat)(l:List aE)(k:n<4294967296)(f:Rv v 2 (l.map ay))(g:RB l)(c b:Nat)(o:c<2147483648)(m:b<2147483648)(H:List ae)(lo:oN):
  D X0 (.fn (.func QH) [] []) [.agg [v,.int .i64 n],.int .i64 c,.int .i64 b] ⟨H,lo⟩=some (.ret (.au [.agg [v,.int .i64 (vB l n c b:Nat)],.int .i64 ((gO l n c b).getD 0:Nat),.bool (gO l n c b).isSome]) ⟨H,lo⟩):=by
 refine aF Lv λN i=>?_
 have h:=aiT v n l k f g c b o m;have d:v.refs=0:=cM f (bA (λ_=>rfl) l);have j:=g.iE;cases e:gO l n c b with
 |none=>simp only[F1,go_sem,simprocAttr,Lv,i,h,xw,e,vB,d]
 |some a=>
  have p:a<=20000000000000:=by
   unfold gO at e
   grind
  simp(disch:=omega) only[F1,go_sem,simprocAttr,Lv,i,h,xw,e,vB,d,api]
def aun(a b:Nat)(f:a<2147483648)(d:b<2147483648)(H:List ae)(lo:oN):
  D X0 (.fn (.func QF) [] []) [.int .i64 a,.int .i64 b] ⟨H,lo⟩=some (.ret (.au [.int .i64 ((pY a b).getD 0:Nat),.bool (pY a b).isSome]) ⟨H,lo⟩):=by
 refine aF Lu λN g=>?_
 have ho:=aiR a b f d;cases c:isObj a b with
 |false=>
  have e:pY a b=none:=by unfold pY;grind
  simp(disch:=omega) only[F1,go_sem,simprocAttr,Lu,ho,c,e]
 |true=>
  have e:pY a b=some ((a+31)/32):=by unfold pY;grind
  have e1: ((a:Int)+32-1).tdiv 32=(((a+31)/32:Nat):Int):=by
   rw[Int.tdiv_eq_ediv_of_nonneg (by omega)];omega
  simp(disch:=omega) only[F1,go_sem,simprocAttr,Lu,ho,c,e,e1]
def auo{H:List ae}{bytes:Nat}{ty:TypeId}{ys:List lA}(a:0<sz)(d: ∀el∈ys,el.length=sz)(b:ys≠[])(c:ys.length*bytes<=room):
  dw ⟨H,lo⟩ ty sz bytes .ai ys=some (.ref H.length 0 sz 0 ys.length false,⟨H++[.row 0 sz ty ys],lo⟩):=by
 unfold dw;rw[afl ⟨a,by grind⟩];rw[afi (by grind),afl c];rfl
def aup{H:List ae}{bytes:Nat}{ty:TypeId}{ys:List lA}(a:0<sz)(e: ∀el∈af,el.length=sz)(d: ∀el∈ys,el.length=sz)(b:ys≠[])(c: (af.length+ys.length)*bytes<=room):
  dw ⟨H,lo⟩ ty sz bytes (.sl af true) ys=some (.ref H.length 0 sz 0 (af.length+ys.length) false,⟨H++[.row 0 sz ty (af++ys)],lo⟩):=by
 unfold dw;rw[afl ⟨a,by grind⟩];simp only;rw[afi (by grind),afl ⟨c,by grind⟩];rfl
def Cj(v:AV):AV:=match v with
 |.sl af _=>.sl af true
 |v=>v
def auq(v:AV)(l:List aE)(d:Rv v 2 (l.map ay))(H:List ae)(lo:oN):
  D X0 (.fn (.func QW) [] []) [v] ⟨H,lo⟩=some (.ret (Cj v) ⟨H,lo⟩):=by
 refine aF LG λN i=>?_
 obtain⟨h,a,j⟩:=d ⟨[],none⟩;have f:=bA (g:=ay) (λ_=>rfl) l;cases v<;>simp only[]at h
 ·have b:fW 2 .ai none (some (.int .i64 0)) (some (.int .i64 0))=some .ai:=by rfl
  simp(disch:=omega) only[F1,go_sem,simprocAttr,LG,b,Cj]
 ·rename_i af c;simp only[Den.elems]at a;split at a
  ·cases a;have e:fW 2 (.sl (l.map ay) c) none (some (.int .i64 (l.length:Nat))) (some (.int .i64 (l.length:Nat)))=some (.sl (l.map ay) true):=by
    simp[fW,fV,lF,lG,ay];exact agQ (by simp)
   simp(disch:=omega) only[F1,go_sem,simprocAttr,LG,e,agZ,f,agS,Cj]
  grind
 ·simp[Den.elems]at a
def aur(v:AV)(n:Nat)(l:List aE)(k:Rv v 2 (l.map ay))(s:RB l)(r:aE)(H:List ae)(lo:oN):
  D X0 (.fn (.func QG) [] []) [.agg [v,.int .i64 n],.agg (ay r)] ⟨H,lo⟩=some (.ret (.agg [ef (l++[r]),.int .i64 (aN l*32:Nat)]) ⟨H,lo⟩):=by
 refine aF SY λN m=>?_
 have p:=Mk v n l k s;have w:=s.iE;have y:=s.1;have u:v.refs=0:=cM k (bA (λ_=>rfl) l);have z:=auq v l k;obtain⟨id,j⟩: ∃id,(H++[ae.box [v,.int .i64 n] none,.box (ay r) none,.box [.ai,.int .i64 0] none]).length=id:=⟨_,rfl⟩;have t: ∀lo,dw ⟨H++[ae.box [v,.int .i64 n] none,.box (ay r) none,.box [.ai,.int .i64 0] none],lo⟩ fe 2 16 (Cj v) [ay r]=some (.ref id 0 2 0 (l.length+1) false,⟨H++[ae.box [v,.int .i64 n] none,.box (ay r) none,.box [.ai,.int .i64 0] none]++[.row 0 2 fe (l.map ay++[ay r])],lo⟩):=by
  intro lo;obtain⟨A,b,B⟩:=k ⟨[],none⟩;rw[<-j];cases v<;>simp only[]at A
  ·simp only[Den.elems]at b;have:l=[]:=by
    have:=(amv b).symm;exact arn.1 this
   subst this;rw[show Cj .ai= .ai from rfl,auo (by omega) (λel a=>by rw[agV.1 a];rfl) (by simp) (by simp[room])];rfl
  ·simp only[Den.elems]at b;split at b
   ·cases b;rw[show ∀c,Cj (.sl (l.map ay) c)= .sl (l.map ay) true fromλ_=>rfl,aup (by omega) (λel a=>by obtain⟨x,_,rfl⟩:=ag2.1 a;rfl) (λel a=>by rw[agV.1 a];rfl) (by simp) (by simp[room];omega)];simp
   ·cases b
  ·simp[Den.elems]at b
 have i:id=N+3:=by rw[<-j];simp[m]
 subst i;simp(disch:=omega) only[go_sem,simprocAttr,SY,m,z,t,p];have q:dG N (if N+1<=N then none else cC none (N+2)):=by rw[afi (by omega)];exact .inr ⟨N+2,by omega,rfl⟩
 have f:aQ N (H++[ae.box [v,AV.int IntKind.i64 ↑n] none,ae.box (ay r) none,ae.box [AV.ref (N+3) 0 2 0 (l.length+1) false,AV.int IntKind.i64 (↑(aN l)*32)] none,ae.row 0 2 fe (List.map ay l++[ay r])]) (.ref (N+3) 0 2 0 (l.length+1) false) 2 fe (l.map ay++[ay r]):=by
  refine⟨λel a=>?_,.inr ⟨N+3,0,by omega,by simp,?_⟩⟩
  ·rcases agT.1 a with h|h
   ·obtain⟨x,_,rfl⟩:=ag2.1 h;rfl
   ·rw[agV.1 h];rfl
  ·rw[bz m];rfl
 have o:b8 (l.map ay++[ay r])=0:=by
  have:=bA (g:=ay) (λ_=>rfl) (l++[r]);rwa[ag9]at this
 rw[uI q (Fz.agg (d:=11) (gT.cons (Fz.mono (Fz.own (d:=0) f (by rw[o];omega)) (by omega)) (gT.cons (Fz.mono (Fz.low (d:=0) (v:=.int .i64 (↑(aN l)*32)) (by simp[AV.refs])) (by omega)) gT.nil)))];refine da ?_ (mn m);have e:ef (l++[r])= .sl (l.map ay++[ay r]) false:=by
  unfold ef;have: (l++[r]).isEmpty=false:=by cases l<;>rfl
  rw[this];simp
 rw[e,Int.natCast_mul];rfl
def Mm(l:List aE)(x:Nat):AV:=.au [.int .i64 ((kh l 0 x).getD 0:Nat),.bool (kh l 0 x).isSome]
theorem aiV(r:aE)(l:List aE)(b x:Nat):kh (r::l) b x=if b<=x/\x<b+r.2*32 then some (r.1*32+x-b)else kh l (b+r.2*32) x:=rfl
def aus(v:AV)(n:Nat)(l:List aE)(T:Rv v 2 (l.map ay))(M:RB l)(x:Nat)(hx:x<1099511627776)(H:List ae)(lo:oN):
  D X0 (.fn (.func Qt) [] []) [.agg [v,.int .i64 n],.int .i64 x] ⟨H,lo⟩=some (.ret (Mm l x) ⟨H,lo⟩):=by
 refine aF Sk λN F=>?_
 have K:v.refs=0:=cM T (bA (λ_=>rfl) l);have ha:=aiP v n K (N+4) (H++[.box [v,.int .i64 n] none,.box [.int .i64 x] none,.box [.int .i64 0] none,.box [.bool false] none]) (by simp[F]) none;simp only[go_sem,simprocAttr,Sk,F,ha];refine yy (S:=Nat×Bool) (λe=>e 3= .ptr (N+1) 0/\e 4= .ptr (N+2) 0/\e 5= .ptr (N+3) 0) (by simp only[go_sem,simprocAttr]) (xv l) F [.box [v,.int .i64 n] none] (λs=>[.box [v,.int .i64 n] none,.box [.int .i64 x] none,.box [.int .i64 (s.1:Nat)] none,.box [.bool s.2] none]) (nB:=4) (λ_=>rfl) (0,false)
  (λj s=>s=(0,false)/\kh l 0 x=kh (l.drop j) (32*aN (l.take j)) x) (λex s=>ex= .ret/\kh l 0 x=some s.1/\s.2=true) rfl ?_ (by simp) ⟨rfl,by simp[aN]⟩ (λex s h=>?_) ?_ ?_ ?_
 ·exact aiQ v n l T M (N+4)
 ·exact⟨.ret,by rw[h.1];rfl,by rw[h.1];rfl,by rw[h.1];rfl⟩
 ·rintro e ⟨e3,I,G⟩ j y s J ⟨rfl,d⟩;have C:j<l.length:=by
   have:=(aeA.1 J).1;rwa[Gi]at this
  rw[Va C]at J;cases J;have yx:=M.2 _ (eX C);have hpg:=M.bd j;have A:=U9 C;have m:l.drop j=l.getD j default::l.drop (j+1):=by
   rw[aph C,aha,afu C];rfl
  rw[m,aiV]at d;generalize hrg:l.getD j default=r at*;refine⟨rfl,λW n' hn hnl w=>?_⟩;simp only[go_sem,simprocAttr,iD,hn,Mj];refine⟨[.box (ay r) none],rfl,λR q E=>?_⟩;simp only[gH,gF,apw,ahc,Nat.reduceAdd]at E;obtain⟨w0,w1,k,u⟩:=E;have f1: ∀L,(R++L)[N+1]?=some (.box [.int .i64 x] none):=λL=>bh w1
  have f2: ∀L,(R++L)[N+2]?=some (.box [.int .i64 (0:Nat)] none):=λL=>bh k
  have f3: ∀L,(R++L)[N+3]?=some (.box [.bool false] none):=λL=>bh u
  by_cases X:32*aN (l.take j)<=x
  ·have g: (x:Int)>=((32*aN (l.take j):Nat):Int):=by omega
   by_cases V:x<32*aN (l.take j)+r.2*32
   ·have t: (x:Int)< ((32*aN (l.take j):Nat):Int)+r.2*32:=by omega
    rw[afl ⟨X,V⟩]at d;have z: (r.1:Int)*32+x- ((32*aN (l.take j):Nat):Int)=((r.1*32+x-32*aN (l.take j):Nat):Int):=by omega
    simp(disch:=omega) only[go_sem,simprocAttr,Lh,e3,I,G,f1,f2,f3,q,g,t,z,arZ];refine⟨(r.1*32+x-32*aN (l.take j),true),?_,by omega,λi U B=>?_,d,rfl⟩
    ·simp only[gH,gF,apw,ahc,Nat.reduceAdd];refine⟨?_,?_,?_,?_⟩
     ·rw[aex (by omega),aex (by omega)];exact bh w0
     ·rw[aex (by omega),aex (by omega)];exact f1 _
     ·rw[aex (by omega),ag1 (by simp;omega)]
     ·rw[ag1 (by simp;omega)]
    ·rw[aex (by omega),aex (by omega),aez (by omega)]
   ·have t: ¬(x:Int)< ((32*aN (l.take j):Nat):Int)+r.2*32:=by omega
    rw[afi (λh=>V h.2)]at d;simp(disch:=omega) only[go_sem,simprocAttr,Lh,e3,f1,q,g,t,sg];refine⟨(0,false),?_,by omega,λi U B=>aez (by omega),rfl,?_⟩
    ·simp only[gH,gF,apw,ahc,Nat.reduceAdd];exact⟨bh w0,f1 _,f2 _,f3 _⟩
    ·rw[d,A,Nat.mul_add,Nat.mul_comm 32 r.2]
  ·have g: ¬(x:Int)>=((32*aN (l.take j):Nat):Int):=by omega
   rw[afi (λh=>X h.1)]at d;simp only[go_sem,simprocAttr,Lh,e3,f1,q,g,sg];refine⟨(0,false),?_,by omega,λi U B=>aez (by omega),rfl,?_⟩
   ·simp only[gH,gF,apw,ahc,Nat.reduceAdd];exact⟨bh w0,f1 _,f2 _,f3 _⟩
   ·rw[d,A,Nat.mul_add,Nat.mul_comm 32 r.2]
 ·rintro e ⟨e3,I,G⟩ s W p hp ⟨rfl,d⟩ f w Q;simp only[gH,gF,apw,ahc,Nat.reduceAdd]at w;obtain⟨w0,w1,k,u⟩:=w;rw[Gi,List.drop_length]at d;have e0:kh l 0 x=none:=d;have O: ∀a b c,(((W.set (N+2) a).set (N+3) b).set p c).take N=H:=λa b c=>(((f.set (by omega)).set (by omega)).set (by omega)).take F
  have s2:=cN (o:=.box [.int .i64 0] none) k;have Y: ∀a b,((W.set (N+2) a).set (N+3) b)[N+3]?=some b:=λa b=>ag1 (by rw[ag7];exact fh u)
  have s2: ∀a b,((W.set (N+2) a).set (N+3) b)[N+2]?=some a:=λa b=>by rw[aex (by omega)];exact cN k
  simp(disch:=omega) only[F1,go_sem,simprocAttr,I,G,k,u,Q,nw,O,s2,Y,Mm,e0]
 ·rintro e ⟨e3,I,G⟩ ex s W p hp ⟨rfl,d,Z⟩ f w Q;simp only[gH,gF,apw,ahc,Nat.reduceAdd]at w;obtain⟨w0,w1,k,u⟩:=w;have P: ∀o,(W.set p o).take N=H:=λo=>(f.set (by omega)).take F
  simp(disch:=omega) only[F1,go_sem,simprocAttr,I,G,k,u,Q,nw,P];refine da ?_ rfl;unfold Mm;rw[d,Z];rfl
def Vb(t:aw)(O:bN t)(U:cm t)(a b:Nat)(T:a<4294967296)(K:b<4294967296)(H:List ae)(lo:oN):
  D X0 (.fn (.func El) [] []) [.agg (aI t),.int .u32 a,.int .u32 b] ⟨H,lo⟩=some (.ret (.bool (kg t a b)) ⟨H,lo⟩):=by
 refine aF FO λN q=>?_
 have B: ∀h,ax t.b h=t.ax h:=λh=>rfl
 have f:=en t.b a T;have g:=en t.b b K;simp only[B]at f g;cases y:t.ax a
 ·rw[y]at f;simp only[F1,go_sem,simprocAttr,FO,q,f,kg,y,akq]
 ·rw[y]at f;cases A:t.ax b
  ·rw[A]at g;simp only[F1,go_sem,simprocAttr,FO,q,f,g,kg,y,A,akq,asR]
  ·rw[A]at g;have G:=US t b (N+3) (H++[.box (aI t) none,.box [.int .u32 a] none,.box [.bool (decide ((a:Int)=b))] none]) (by simp[q]) none;simp only[go_sem,simprocAttr,FO,q,f,g,G];have F:decide ((a:Int)=(b:Int))=decide (a=b):=ahb.2 (by omega);refine yy (S:=Bool) (λe=>e 4= .ptr (N+1) 0/\e 7= .ptr (N+2) 0) (by simp only[go_sem,simprocAttr]) (ny t b) q [.box (aI t) none,.box [.int .u32 b] none] (λs=>[.box (aI t) none,.box [.int .u32 a] none,.box [.bool s] none]) (nB:=3) (λ_=>rfl) (decide ((a:Int)=b)) (λj s=>s=(decide (a=b)|| ((aR t b).take j).contains a)) (λ_ _=>False) rfl ?_ (by simp) (by simp[F]) (λ_ _ h=>h.elim) ?_ ?_ ?_
   ·exact UT t O U b K (N+3)
   ·rintro e ⟨I,e7⟩ j x s M X;obtain⟨u,rfl,hu⟩:=UZ M;refine⟨rfl,λW n hn Q C=>?_⟩;simp only[go_sem,simprocAttr,iD];refine⟨[],by simp,λL l w=>?_⟩;simp only[gH,gF,apw,ahc,Nat.reduceAdd]at w;obtain⟨w0,w1,m⟩:=w;have d: (decide (a=b)|| ((aR t b).take (j+1)).contains a)=(s||decide ((u:Int)=a)):=by
     rw[X,ait,hu];have:decide ((u:Int)=a)=decide (a=u):=ahb.2 (by omega);rw[this];by_cases Z:a=b<;>by_cases Y:a=u<;>simp[Z,Y]
    have k: ∀z,(L.set (N+2) (.box [.bool z] none)).length=n->j0 (L.set (N+2) (.box [.bool z] none)) N 0 [.box (aI t) none,.box [.int .u32 a] none,.box [.bool z] none]:=λz hl=>by
     simp only[gH,gF,apw,ahc,Nat.reduceAdd];exact⟨by rw[aex (by omega)];exact w0,by rw[aex (by omega)];exact w1,cN m⟩
    cases s
    ·by_cases c: (u:Int)=a
     ·simp only[go_sem,simprocAttr,LK,I,e7,w1,m,aip,sg,c];exact⟨_,k _ (by rw[ag7];exact l),λi J v=>aex (by omega),by rw[d];simp[c]⟩
     ·simp only[go_sem,simprocAttr,LK,I,e7,w1,m,aip,sg,c];exact⟨_,k _ (by rw[ag7];exact l),λi J v=>aex (by omega),by rw[d];simp[c]⟩
    ·simp only[go_sem,simprocAttr,LK,e7,m,aip,sg];exact⟨_,k _ (by rw[ag7];exact l),λi J v=>aex (by omega),by rw[d];simp⟩
   ·rintro e ⟨I,e7⟩ s W p P rfl r C R;simp only[gH,gF,apw,ahc,Nat.reduceAdd]at C;obtain⟨w0,w1,m⟩:=C;have E: ∀o,(W.set p o).take N=H:=λo=>(r.set (by omega)).take q
    simp only[F1,go_sem,simprocAttr,e7,m,R,nw,E];rw[U0,ag4];refine da (akp _ ?_) rfl;unfold kg;rw[y,A];rfl
   ·rintro e he ex s W p P V;exact V.elim
def sZ(t:aw)(h:Nat)(r:dc):AV:=.au [.agg (aI (fC t h r).1),.int .i64 (fC t h r).2]
def Vc(t:aw)(u:bN t)(h:Nat)(o:h<4294967296)(r:dc)(q:RB r.runs)(s:r.runs.length<=65)(k:r.len<4294967296)(H:List ae)(lo:oN):
  D X0 (.fn (.func Ej) [] []) [.agg (aI t),.int .u32 h,.agg (bS r)] ⟨H,lo⟩=some (.ret (sZ t h r) ⟨H,lo⟩):=by
 refine aF BW λN i=>?_
 have n:=zu h;have l: (aM h:Int)<32:=by omega
 have p:iu h= .au [.int .i64 (aM h:Nat),.bool (eB h).isSome]:=rfl;have a:=en t.b h o;have m:ax t.b h=t.ax h:=rfl;simp only[m]at a;have hm:=aiS (ef r.runs) r.len r.runs k (m9 _) q s;have d:fC t h r=if t.ax h=false then(t,4)else if 64<r.ds\/pV r.runs r.len=false then(t,2)else({t with r:=ar t.r (aM h) {r with up:=(t.r (aM h)).up}},0):=rfl
 cases g:t.ax h with
 |false=>
  rw[g]at a;have e:fC t h r=(t,4):=by rw[d,afl g]
  simp only[F1,go_sem,simprocAttr,BW,i,a,cL,sZ,e]
 |true=>
  rw[g]at a;rw[afi (by rw[g];simp)]at d;have j:=zE r.ds;by_cases f:r.ds<=64
  ·have c:decide (r.ds<=64)=true:=agR f;cases b:pV r.runs r.len with
   |false=>
    rw[afl (.inr b)]at d;simp only[F1,go_sem,simprocAttr,BW,i,a,cL,j,c,hm,b,sZ,d]
   |true=>
    rw[afi (by rw[b];simp;omega)]at d;simp only[F1,go_sem,simprocAttr,BW,i,a,cL,j,c,hm,b,sZ,d,jJ h o,p,l,Uh n,asI,LZ n];omega
  ·have c:decide (r.ds<=64)=false:=afv f;rw[afl (.inl (by omega))]at d;simp only[F1,go_sem,simprocAttr,BW,i,a,cL,j,c,sZ,d]
def vC(t:aw)(h u:Nat):AV:=.au [.agg (aI (lW t h u).1),.int .i64 (lW t h u).2]
def aiW(t:aw)(Z:bN t)(hT:cm t)(h w:Nat)(S:h<4294967296)(Y:w<4294967296)(H:List ae)(lo:oN):
  D X0 (.fn (.func Bg) [] []) [.agg (aI t),.int .u32 h,.int .u32 w] ⟨H,lo⟩=some (.ret (vC t h w) ⟨H,lo⟩):=by
 refine aF BX λN F=>?_
 have X:=zu h;have B: (aM h:Int)<32:=by omega
 have W:iu h= .au [.int .i64 (aM h:Nat),.bool (eB h).isSome]:=rfl;have b:=en t.b h S;have g:=en t.b w Y;have T: ∀h,ax t.b h=t.ax h:=λh=>rfl
 simp only[T]at b g;have j:lW t h w=if t.ax h=false\/ (w≠0/\t.ax w=false)then(t,4)else if w≠0/\h∈w::aR t w then(t,12)else({t with r:=ar t.r (aM h) {t.r (aM h)with up:=w}},0):=rfl
 cases E:t.ax h with
 |false=>
  rw[E]at b;rw[afl (.inl E)]at j;simp only[F1,go_sem,simprocAttr,BX,F,b,cL,vC,j]
 |true=>
  rw[E]at b;by_cases c:w≠0/\t.ax w=false
  ·rw[afl (.inr c)]at j;rw[c.2]at g;have y: ¬(w:Int)=0:=by omega
   simp only[F1,go_sem,simprocAttr,BX,F,b,g,y,cL,vC,j]
  ·rw[afi (by rw[E];simpa using c)]at j;have i:w=0\/ (¬(w:Int)=0/\t.ax w=true):=by
    by_cases l:w=0
    ·exact .inl l
    ·refine .inr ⟨by omega,?_⟩;cases I:t.ax w
     ·exact absurd ⟨l,I⟩ c
     ·rfl
   obtain⟨L,V⟩: ∃L,L=if w=0 then[]else w::aR t w:=⟨_,rfl⟩
   have o: (w≠0/\h∈w::aR t w)↔h∈L:=by
    rw[V];by_cases l:w=0
    ·simp[l]
    ·rw[afi l];exact⟨λq=>q.2,λq=>⟨l,q⟩⟩
   have key: ∀Q:bQ,(∀e:Env,e 1= .int .u32 h->e 2= .int .u32 w->e 3= .ptr N 0->e 6= .ptr (N+1) 0->h∉L->Q (.exit 0) ⟨e,[]⟩ ⟨H++[.box (aI t) none,.box jx none],none⟩)->
     (∀e:Env,e 6= .ptr (N+1) 0->e 7= .int .i64 12->h∈L->Q .ret ⟨e,[]⟩ ⟨H++[.box (aI t) none,.box (aI t) none],none⟩)->
     ∀e:Env,e 1= .int .u32 h/\e 2= .int .u32 w/\e 3= .ptr N 0/\e 6= .ptr (N+1) 0/\e 8= .int .u32 w->wp X0 Bg false (PC.loop FQ) ⟨e,[]⟩ ⟨H++[.box (aI t) none,.box jx none],none⟩ Q:=by
    rintro Q I hr e ⟨e1,p,e3,e6,e8⟩;refine dU L.length (λk e H'=>H'=H++[.box (aI t) none,.box jx none]/\e 1= .int .u32 h/\e 2= .int .u32 w/\e 3= .ptr N 0/\e 6= .ptr (N+1) 0/\ ∃x,e 8= .int .u32 (x:Nat)/\ (if x=0 then[]else x::aR t x)=L.drop k/\ (x≠0->t.ax x=true)/\h∉L.take k) 0 (by omega) ?_ ?_
    ·refine⟨rfl,e1,p,e3,e6,w,e8,by rw[V];simp,λl=>?_,by simp⟩;rcases i with rfl|q
     ·exact absurd rfl l
     ·exact q.2
    rintro k hk e H' ⟨rfl,e1,p,e3,e6,x,e8,z,m,a⟩ n hn;by_cases s:x=0
    ·subst s;have P:L.take k=L:=by
      have:=akp List.length z;rw[afl rfl,anA]at this;exact agQ (by simp at this;omega)
     rw[P]at a;simp only[go_sem,simprocAttr,FQ,e8];exact I _ (by simp only[go_sem,simprocAttr,e1]) (by simp only[go_sem,simprocAttr,p]) (by simp only[go_sem,simprocAttr,e3]) (by simp only[go_sem,simprocAttr,e6]) a
    ·have A: ¬(x:Int)=0:=by omega
     have m:=m s;rw[afi s]at z;have O:k<L.length:=by
      have:=akp List.length z;rw[anA,ag5]at this;omega
     have M:L.take (k+1)=L.take k++[x]:=by
      rw[ait];have:L[k]?=(L.drop k)[0]?:=by rw[anp];rfl
      rw[this,<-z];rfl
     by_cases G:x=h
     ·have f: (x:Int)=h:=by omega
      have d:h∈L:=by
       rw[<-apt k L,<-z,G];simp
      have R: ¬(h:Int)=0:=by omega
      simp(disch:=omega) only[go_sem,simprocAttr,FQ,e1,e3,e6,e8,f,R,cL];exact hr _ (by simp only[go_sem,simprocAttr,e6]) (by simp only[go_sem,simprocAttr]) d
     ·have f: ¬(x:Int)=h:=by omega
      have J:=ah6 t Z x (gg m);have v:bI t x=kf t (aM x):=by unfold bI;rw[afl m]
      have U:=sL hT x;simp(disch:=omega) only[go_sem,simprocAttr,FQ,e1,p,e3,e6,e8,A,f,J];refine⟨O,kf t (aM x),rfl,?_,λl=>?_,?_⟩
      ·rw[<-v,<-aqX,<-z,anx,amy,U]
      ·exact(F6 (by rw[v];exact l)).1 ▸ (by rw[v])
      ·rw[M];simp[a];omega
   rcases i with rfl| ⟨y,C⟩
   ·rw[afi (by simp)]at j;simp only[go_sem,simprocAttr,BX,F,b];refine key _ ?_ ?_ _ (by simp only[go_sem,simprocAttr])
    ·intro e e1 p e3 e6 _;have K:aH (aI t) (96+aM h*12) [.int .u32 0]=aI {t with r:=ar t.r (aM h) {t.r (aM h)with up:=0}}:=ahw (u:=0) X;simp(disch:=omega) only[F1,go_sem,simprocAttr,e1,p,e3,e6,jJ h S,W,B,K,cL,vC,j];omega
    ·intro e e6 e7 d;rw[V]at d;simp at d
   ·rw[C]at g;simp only[go_sem,simprocAttr,BX,F,b,g,y];refine key _ ?_ ?_ _ (by simp only[go_sem,simprocAttr])
    ·intro e e1 p e3 e6 a;rw[afi (λq=>a (o.1 q))]at j;simp(disch:=omega) only[F1,go_sem,simprocAttr,e1,p,e3,e6,jJ h S,W,B,ahw X,cL,vC,j];omega
    ·intro e e6 e7 d;rw[afl (o.2 d)]at j;simp(disch:=omega) only[F1,go_sem,simprocAttr,e6,e7,vC,j]
def zL(t:aw)(a n:Nat):AV:=.au [.agg (aI (hE t a n).1),.int .u32 (hE t a n).2.1,.int .i64 (hE t a n).2.2]
def auu(t:aw)(k:bN t)(m:cm t)(a n:Nat)(j:a<4294967296)(H:List ae)(lo:oN):
  D X0 (.fn (.func QE) [] []) [.agg (aI t),.int .u32 a,.int .i64 n] ⟨H,lo⟩=some (.ret (zL t a n) ⟨H,lo⟩):=by
 refine aF zj λN f=>?_
 have e:=as9 t k a n j;have g:=Mg t k m a j;have d:hE t a n=if((lV t a n).2.2=0\/ (lV t a n).2.2=7)/\6<=depth t a then(t,0,8)else lV t a n:=rfl
 by_cases i: (lV t a n).2.2=0\/ (lV t a n).2.2=7
 ·by_cases l:6<=depth t a
  ·rw[afl ⟨i,l⟩]at d;have b: (depth t a:Int)>=6:=by omega
   rcases i with c|c
   ·simp only[F1,go_sem,simprocAttr,zj,f,e,zF,c,g,b,cL,zL,d]
   ·simp only[F1,go_sem,simprocAttr,zj,f,e,zF,c,g,b,cL,zL,d]
  ·rw[afi (λh=>l h.2)]at d;have b: ¬(depth t a:Int)>=6:=by omega
   rcases i with c|c
   ·simp only[F1,go_sem,simprocAttr,zj,f,e,zF,c,g,b,cL,zL,d]
   ·simp only[F1,go_sem,simprocAttr,zj,f,e,zF,c,g,b,cL,zL,d]
 ·rw[afi (λh=>i h.1)]at d;have p: ¬((lV t a n).2.2:Int)=0:=by omega
  have o: ¬((lV t a n).2.2:Int)=7:=by omega
  simp only[F1,go_sem,simprocAttr,zj,f,e,zF,p,o,cL,zL,d]
def aiX:Ext X4 X where
 df:=rfl
 fa:=rfl
 code:=rfl
 bU:=λf=>by
  show(if f=iG then some l6 else if f=j5 then some nz else if f=mv then some qb else if f=m4 then some rF else if f=qL then some xr else if f=sh then some zJ else if f=pq then some Ch else none)=(if f=iG then some l6 else if f=j5 then some nz else if f=mv then some qb else if f=m4 then some rF else none)\/_;by_cases i:f=iG
  ·grind
  by_cases h:f=j5
  ·grind
  by_cases d:f=mv
  ·grind
  by_cases c:f=m4
  ·grind
  by_cases j:kL.contains f=true
  ·right
   refine⟨?_,?_⟩
   ·show(if f=iG then some l6 else if f=j5 then some nz else if f=mv then some qb else if f=m4 then some rF else none)=none
    grind
   ·show(if kL.contains f then none else zl.lookup f)=none
    grind
  ·left
   have a:kL.contains f=false:=by grind
   have e: ∀g,kL.contains g=true->f≠g:=λg b=>hO a b
   simp only[afi i,afi h,afi d,afi c,afi (e qL rfl),afi (e sh rfl),afi (e pq rfl)]
theorem Vd: ∀ {l:List aE},(∀x∈l,1<=x.2)->l.length<=aN l
 | [],_=>by simp
 |x::xs,h=>by
  have c:=h x (amu ..);have b:=Vd (l:=xs) λy a=>h y (ahd _ a)
  simp only[aN,anw,List.sum_cons,ag5]at b⊢;omega
def fO.rb{r:dc}(h:fO r):RB r.runs/\r.runs.length<=64:=by
 have c:=Vd λx a=>(h.runs x a).1
 have b:=h.aN;refine⟨⟨by omega,λx a=>?_⟩,by omega⟩;have:=h.runs x a;omega
theorem fO.Mo{r:dc}(h:fO r)(a:x<4294967296):fO {r with up:=x}:=⟨a,h.ds,h.len,h.cells,h.runs,h.aN⟩
theorem fO.setCells{r:dc}(h:fO r){f:Nat->Nat}(a: ∀i,f i<4294967296):fO {r with cells:=f}:=⟨h.up,h.ds,h.len,a,h.runs,h.aN⟩
theorem Ck:fO dB:=⟨by trivial,by trivial,by trivial,by simp[dB],by trivial,by trivial⟩
def bN.get{t:aw}(a:bN t)(h:Nat):fO (aK t h).1:=by
 unfold aK;split
 ·exact(a.r _).Mo ahX
 ·exact Ck
theorem bN.ar{t:aw}(a:bN t){i:Nat}{r:dc}(b:fO r):bN {t with r:=ar t.r i r}:=⟨a.b,λj=>by
 show fO (Go.Proofs.YteplichagkpciaaGreatDoor.ar t.r i r j);by_cases e:j=i
 ·rw[e,cT];exact b
 ·rw[di e];exact a.r j⟩
def bN.set{t:aw}(a:bN t){r:dc}(b:fO r):bN (fC t h r).1:=by
 unfold fC;split
 ·omega
 ·split
  ·omega
  ·exact a.ar (b.Mo (a.r _).up)
def bN.raise{t:aw}(a:bN t)(b:x<4294967296):bN (lW t h x).1:=by
 unfold lW;split
 ·omega
 ·split
  ·omega
  ·exact a.ar ((a.r _).Mo b)
def iw(t a:aw):Prop:=a.b=t.b/\ ∀i,(a.r i).up=(t.r i).up
theorem iw.refl(t:aw):iw t t:=⟨rfl,λ_=>rfl⟩
theorem iw.trans{a b c:aw}(e:iw a b)(d:iw b c):iw a c:=⟨d.1.trans e.1,λi=>(d.2 i).trans (e.2 i)⟩
theorem iw.ax{t a:aw}(h:iw t a)(x:Nat):a.ax x=t.ax x:=by unfold aw.ax;rw[h.1]
theorem iw.bI{t a:aw}(h:iw t a)(x:Nat):bI a x=Go.Proofs.YteplichagkpciaaGreatDoor.bI t x:=by
 unfold Go.Proofs.YteplichagkpciaaGreatDoor.bI kf;simp only[h.ax,h.2]
theorem iw.ek{t a:aw}(h:iw t a): ∀n x,ek a n x=Go.Proofs.YteplichagkpciaaGreatDoor.ek t n x
 |0,_=>rfl
 |n+1,x=>by simp only[Go.Proofs.YteplichagkpciaaGreatDoor.ek,h.bI,h.ek n]
theorem iw.aR{t a:aw}(h:iw t a)(x:Nat):aR a x=Go.Proofs.YteplichagkpciaaGreatDoor.aR t x:=h.ek 32 x
theorem iw.tree{t a:aw}(h:iw t a)(b:cm t):cm a:=λx=>by rw[h.aR];exact b x
def iw.set(t:aw)(h:Nat)(r:dc):iw t (fC t h r).1:=by
 unfold fC;split
 ·exact .refl t
 ·split
  ·exact .refl t
  ·refine⟨rfl,λi=>?_⟩;show(ar t.r (aM h) _ i).up=_;by_cases e:i=aM h
   ·rw[e,cT]
   ·rw[di e]
def auv{t:aw}(c:cm t)(a:x∈du t h):dep t h<=dep t x:=by
 have key: ∀n h,x∈gZ t n h->dep t h<=dep t x:=by
  intro n
  induction n with
  |zero=>intro h a;rw[gZ,agV]at a;grind
  |succ n b=>
   intro h a;rcases aiK.1 a with rfl|a
   ·simp
   ·grind [B6]
 exact key 32 h a
def Ve{t:aw}(a:t.ax h=true):depth t h=1+dep t h:=by unfold depth;rw[afl a];rfl
def auw{t0 t:aw}(a:bN t)(h x:Nat):bN (zs t0 h t x):=by
 refine a.set (fO.setCells (a.get x) λi=>?_);have:=(a.get x).cells i
 grind
theorem auy(t0 t:aw)(h x:Nat):iw t (zs t0 h t x):=iw.set _ _ _
def xx(t0:aw)(h:Nat)(t:aw)(l:lN):aw:=l.foldl (zs t0 h) t
def Vf{t0 t:aw}(a:bN t)(h:Nat): ∀l,bN (xx t0 h t l):=by
 intro l
 induction l generalizing t with
 |nil=>exact a
 |cons x xs b=>exact b (auw a h x)
theorem Vg(t0:aw)(h:Nat): ∀ (l:lN) (t:aw),iw t (xx t0 h t l)
 | [],t=>.refl t
 |x::xs,t=>(auy t0 t h x).trans (Vg t0 h xs _)
def auz{t0 t:aw}{l:lN}{k:Nat}(a:l[k]?=some x):xx t0 h t (l.take (k+1))=zs t0 h (xx t0 h t (l.take k)) x:=by
 unfold xx;rw[ait,a,aoH];rfl
theorem Vh(t:aw)(h:Nat):jg t h=if t.ax h=false then(t,4)else lW (xx t h t (du t h)) h 0:=rfl
def aiY{t:aw}{x:lA}(a: (rH t h)[j]?=some x): ∃y,x=[.int .u32 (y:Nat)]/\ (du t h)[j]?=some y:=by
 unfold rH at a;rw[aiG,agY]at a;obtain⟨y,b,rfl⟩:=a;exact⟨y,rfl,b⟩
def auA{t:aw}(a:cm t)(h:Nat):depth t h<=6:=by
 unfold depth;split
 ·have:=a h;omega
 ·omega
theorem aiZ{f:Nat->Nat}{c:Nat}: ∀ (l:lN) (s:Nat),(∀x∈l,f x<=c)->s<=c->l.foldl (λn x=>max n (f x)) s<=c
 | [],s,_,a=>a
 |x::xs,s,d,a=>aiZ xs _ (λy b=>d y (ahd _ b)) (by grind)
def auB{t:aw}(a:cm t)(h:Nat):sH t h<=7:=by
 exact aiZ (f:=λx=>depth t x-depth t h+1) _ _ (λx _=>by have:=auA a x;omega) (by omega)
def auC(t:aw)(m:bN t)(k:cm t)(h:Nat)(a:t.ax h=true)(H:List ae)(lo:oN):
  D X (.fn (.func QZ) [] []) [.agg (aI t),.int .u32 h] ⟨H,lo⟩=some (.ret (.int .i64 (sH t h:Nat)) ⟨H,lo⟩):=by
 refine aF Tf λN q=>?_
 have K:=up dj (U3 t h (N+3) (H++[.box (aI t) none,.box [.int .u32 h] none,.box [.int .i64 0] none]) (by simp[q]) none);simp only[go_sem,simprocAttr,Tf,q,K];refine yy (S:=Nat) (λe=>e 2= .ptr N 0/\e 3= .ptr (N+1) 0/\e 5= .ptr (N+2) 0) (by simp only[go_sem,simprocAttr]) (rH t h) q [.box (aI t) none,.box [.int .u32 h] none] (λs=>[.box (aI t) none,.box [.int .u32 h] none,.box [.int .i64 (s:Nat)] none]) (nB:=3) (λ_=>rfl) 0
  (λj s=>s=((du t h).take j).foldl (λn x=>max n (depth t x-depth t h+1)) 0/\s<=100) (λ_ _=>False) rfl ?_ (by simp) ⟨rfl,by omega⟩ (λ_ _ h=>h.elim) ?_ ?_ ?_
 ·exact U5 aiX t m k h a (N+3)
 ·rintro e ⟨A,e3,w⟩ j x s B ⟨E,C⟩;obtain⟨y,rfl,z⟩:=aiY B;have c:y∈du t h:=am9 z;have f:=F7 m.b a c;have I:=auv k c;have M:=k y;have U:=Ve f;have T:=Ve a;have R:dep t y<=5:=M;have b:=λH lo=>up dj (Mg t m k y (gg f) H lo)
  have v:=λH lo=>up dj (Mg t m k h (gg a) H lo)
  refine⟨rfl,λW n P F u=>?_⟩;simp only[go_sem,simprocAttr,iD];refine⟨[],by simp,λV L g=>?_⟩;simp only[gH,gF,apw,ahc,Nat.reduceAdd]at g;obtain⟨w0,w1,l⟩:=g;have r:max (s:Int) ((depth t y:Int)-depth t h+1)=((max s (depth t y-depth t h+1):Nat):Int):=by omega
  simp(disch:=omega) only[go_sem,simprocAttr,agG,A,e3,w,w0,w1,l,b,v,OY,OX,r,sg];refine⟨max s (depth t y-depth t h+1),?_,λi Q G=>aex (by omega),?_,?_⟩
  ·simp only[gH,gF,apw,ahc,Nat.reduceAdd];exact⟨by rw[aex (by omega)];exact w0,by rw[aex (by omega)];exact w1,cN l⟩
  ·rw[ait,z,aoH,<-E];rfl
  ·omega
 ·rintro e ⟨A,e3,w⟩ s W p O ⟨rfl,_⟩ d u J;simp only[gH,gF,apw,ahc,Nat.reduceAdd]at u;obtain⟨w0,w1,l⟩:=u;have b: ∀o,(W.set p o).take N=H:=λo=>(d.set (by omega)).take q
  simp only[F1,go_sem,simprocAttr,w,l,J,nw,b];rw[U4,ag4];rfl
 grind
def xy(t:aw)(h w:Nat):AV:=.au [.agg (aI (vd t h w).1),.int .i64 (vd t h w).2]
def auD(t:aw)(k:bN t)(f:cm t)(h w:Nat)(q:h<4294967296)(p:w<4294967296)(H:List ae)(lo:oN):
  D X (.fn (.func QI) [] []) [.agg (aI t),.int .u32 h,.int .u32 w] ⟨H,lo⟩=some (.ret (xy t h w) ⟨H,lo⟩):=by
 refine aF w5 λN i=>?_
 have a:=λH lo=>up dj (en t.b h q H lo)
 have b:=λH lo=>up dj (en t.b w p H lo)
 have v: ∀h,ax t.b h=t.ax h:=λh=>rfl
 simp only[v]at a b;have c:vd t h w=if t.ax h=false\/t.ax w=false then(t,4)else if root t h≠h\/kg t h w then(t,12)else if 6<depth t w+sH t h then(t,8)else lW t h w:=rfl
 have d:=λH lo=>up dj (zI t k f h q H lo)
 have e:=λH lo=>up dj (Vb t k f h w q p H lo)
 have l:=λH lo=>up dj (Mg t k f w p H lo)
 have u:=λH lo=>up dj (aiW t k f h w q p H lo)
 cases n:t.ax h with
 |false=>
  rw[n]at a;rw[afl (.inl n)]at c;simp only[F1,go_sem,simprocAttr,w5,i,a,cL,xy,c]
 |true=>
  rw[n]at a;have j:=auC t k f h n;cases m:t.ax w with
  |false=>
   rw[m]at b;rw[afl (.inr m)]at c;simp only[F1,go_sem,simprocAttr,w5,i,a,b,cL,xy,c]
  |true=>
   rw[m]at b;rw[afi (by rw[n,m];simp)]at c;by_cases s:root t h=h
   ·have o: ((root t h:Nat):Int)=(h:Nat):=by omega
    cases r:kg t h w with
    |true=>
     rw[afl (.inr r)]at c;rw[r]at e;rw[s]at d;simp only[F1,go_sem,simprocAttr,w5,i,a,b,d,e,cL,xy,c]
    |false=>
     rw[afi (by rw[r];simp[s])]at c;rw[r]at e;rw[s]at d;have y:sH t h<=7:=auB f h;have z:depth t w<=100:=by
      have:=f w;rw[Ve m];show 1+(aR t w).length<=100;omega
     by_cases x:6<depth t w+sH t h
     ·have g: (depth t w:Int)+sH t h>6:=by omega
      rw[afl x]at c;simp(disch:=omega) only[F1,go_sem,simprocAttr,w5,i,a,b,d,e,l,j,g,cL,xy,c]
     ·have g: ¬(depth t w:Int)+sH t h>6:=by omega
      rw[afi x]at c;simp(disch:=omega) only[F1,go_sem,simprocAttr,w5,i,a,b,d,e,l,j,g,u,vC,cL,xy,c]
   ·have o: ¬((root t h:Nat):Int)=(h:Nat):=by omega
    rw[afl (.inl s)]at c;simp only[F1,go_sem,simprocAttr,w5,i,a,b,d,o,cL,xy,c]
def vD(t:aw)(h c:Nat):Bool:=decide (c≠h)&&kg t c h
def auE(t:aw)(i:bN t)(l:cm t)(h c:Nat)(j:h<4294967296)(k:c<4294967296)(g f:Nat)(H:List ae)(b:H[f]?=some (.box (aI t) none))(a:H[g]?=some (.box [.int .u32 h] none))(lo:oN):
  D X (.fn (.func Er) [] [.ptr g 0,.ptr f 0]) [.int .u32 c] ⟨H,lo⟩=some (.ret (.bool (vD t h c)) ⟨H,lo⟩):=by
 refine eP LQ λN n=>?_
 have d:=λH lo=>up dj (Vb t i l c h k j H lo)
 by_cases e:c=h
 ·simp(disch:=omega) only[F1,go_sem,simprocAttr,LQ,a,vD,e,not_true,dF,akq]
 ·have m: ¬(c:Int)=h:=by omega
  simp(disch:=omega) only[F1,go_sem,simprocAttr,LQ,b,a,m,d,vD,e]
def s5(t:aw)(h:Nat)(f:Nat->Nat)(k:Nat):Nat->Nat:=λi=>if i<k/\vD t h (f i)=true then 0 else f i
theorem Gk{t:aw}{f:Nat->Nat}{k:Nat}:s5 t h f k i=if i<k/\vD t h (f i)=true then 0 else f i:=rfl
def auF(t:aw)(h:Nat)(f:Nat->Nat)(k:Nat):s5 t h f (k+1)=if vD t h (f k)=true then ar (s5 t h f k) k 0 else s5 t h f k:=by
 funext i
 by_cases a:vD t h (f k)=true
 ·by_cases e:i=k
  ·simp_all[cT,Gk,afl]
  ·grind [di,Gk]
 ·rw[afi a,Gk,Gk]
  grind
def auG(t:aw)(h:Nat)(r:dc):bS {r with cells:=s5 t h r.cells 8}=bS {r with cells:=λi=>if r.cells i≠h/\kg t (r.cells i) h then 0 else r.cells i}:=by
 refine ahl (FV λi a=>?_);simp only[s5,vD,a,azq]
 grind
def Mp(t:aw)(h:Nat):AV:=.au [.agg (aI (jg t h).1),.int .i64 (jg t h).2]
def auH(t:aw)(I:bN t)(hT:cm t)(h:Nat)(hh:h<4294967296)(H:List ae)(lo:oN):
  D X (.fn (.func QY) [] []) [.agg (aI t),.int .u32 h] ⟨H,lo⟩=some (.ret (Mp t h) ⟨H,lo⟩):=by
 refine aF LJ λN U=>?_
 have q:=λH lo=>up dj (en t.b h hh H lo)
 have hgg: ∀h,ax t.b h=t.ax h:=λh=>rfl
 simp only[hgg]at q;cases d:t.ax h with
 |false=>
  rw[d]at q;have Z:jg t h=(t,4):=by rw[Vh,afl d]
  simp only[F1,go_sem,simprocAttr,LJ,U,q,cL,Mp,Z]
 |true=>
  rw[d]at q;have Z:jg t h=lW (xx t h t (du t h)) h 0:=by rw[Vh,afi (by rw[d];simp)]
  have ha:=up dj (U3 t h (N+5) (H++[.box (aI t) none,.box [.int .u32 h] none,.box jx none,.box [.fn (.func Er) [] [.ptr (N+1) 0,.ptr N 0]] none,.box (aI t) none]) (by simp[U]) none);have hmx:max (N+1+1) (N+1)<=N+3+1:=by omega
  simp only[go_sem,simprocAttr,LJ,U,q,cL,ha,hmx];refine yy (S:=aw) (λe=>e 3= .ptr (N+1) 0/\e 4= .ptr (N+2) 0/\e 6= .ptr (N+3) 0/\e 7= .ptr (N+4) 0) (by simp only[go_sem,simprocAttr]) (rH t h) U [.box (aI t) none,.box [.int .u32 h] none] (λs=>[.box (aI t) none,.box [.int .u32 h] none,.box jx none,.box [.fn (.func Er) [] [.ptr (N+1) 0,.ptr N 0]] none,.box (aI s) none]) (nB:=5) (λ_=>rfl) t
   (λj s=>s=xx t h t ((du t h).take j)) (λ_ _=>False) rfl ?_ (by simp) rfl (λ_ _ h=>h.elim) ?_ ?_ ?_
  ·exact U5 aiX t I hT h d (N+5)
  ·rintro e ⟨e3,e4,e6,e7⟩ j x s hx A;obtain⟨y,rfl,hy⟩:=aiY hx;have hym:y∈du t h:=am9 hy;have P:=F7 I.b d hym;have J:=auz (t0:=t) (t:=t) (h:=h) hy;have b:bN s:=by rw[A];exact Vf I h _
   rw[<-A]at J;have Q:=λH lo=>up dj (vx s b y (gg P) H lo)
   have B:=b.get y;have c:zs t h s y=(fC s y {(aK s y).1 with cells:=λi=>if(aK s y).1.cells i≠h/\kg t ((aK s y).1.cells i) h then 0 else(aK s y).1.cells i}).1:=rfl;generalize hr: (aK s y).1=r at*;have g:fO {r with cells:=λi=>if r.cells i≠h/\kg t (r.cells i) h then 0 else r.cells i}:=fO.setCells B λi=>by
    have:=B.cells i;show(if _ then _ else _)<_;split<;>omega
   have K:=λH lo=>up dj (Vc s b y (gg P) _ g.rb.1 (by have:=g.rb.2;omega) (by have:=g.len;omega) H lo)
   refine⟨rfl,λW n hn hnl hg=>?_⟩;simp only[go_sem,simprocAttr,iD];refine⟨[],by simp,λG T R=>?_⟩;simp only[gH,gF,apw,ahc,Nat.reduceAdd]at R;obtain⟨w0,w1,Y,w3,V⟩:=R;have f0: ∀L,(G++L)[N]?=_:=λL=>bh w0
   have f1: ∀L,(G++L)[N+1]?=_:=λL=>bh w1
   have f3: ∀L,(G++L)[N+3]?=_:=λL=>bh w3
   have f4: ∀L,(G++L)[N+4]?=_:=λL=>bh V
   have hpc:Den.part true 8 (bS r) 4=_:=LY (r:=r);simp only[go_sem,simprocAttr,agF,e7,V,Q,nv,hr,kj,T,hpc,aip];refine dU 8 (λk C H'=>H'=G++[.box (bS {r with cells:=s5 t h r.cells k}) none]/\C 6= .ptr (N+3) 0/\C 7= .ptr (N+4) 0/\C 8= .int .u32 y/\C 9= .ptr n 0/\C 33= .agg (arr 8 λi=>[.int .u32 (r.cells i)])/\C 34= .int .i64 k) 0 (by omega) ?_ ?_
   ·simp only[go_sem,simprocAttr,e6,e7];have:s5 t h r.cells 0=r.cells:=by funext i;rw[Gk,afi (by omega)]
    rw[this]
   ·rintro k hk C H' ⟨rfl,a6,a7,a8,a9,F,E⟩ n' Hn;simp only[bR,go_sem,simprocAttr,agE,a7,F,E];refine⟨λhc=>?_,λhc=>?_⟩
    ·have l:k<8:=by omega
     have w:qu false 8 1 (.agg (arr 8 λi=>[AV.int .u32 (r.cells i)])) (.int .i64 (k:Nat))=some (.int .u32 (r.cells k)):=
      T6 l (by have:=la (ag:=false) (m:=1) (n:=8) (k:=1) (i:=k) (o:=0) (f:=λi=>[AV.int .u32 (r.cells i)]) (λ_=>rfl) l (by omega) (by omega);rw[ahc]at this;rw[this];rfl)
     have v:=auE t I hT h (r.cells k) hh (B.cells k) (N+1) N (G++[.box (bS {r with cells:=s5 t h r.cells k}) none]) (f0 _) (f1 _) none;have c:=auF t h r.cells k;cases ho:vD t h (r.cells k)
     ·rw[ho]at c v;rw[afi (by simp)]at c;simp(disch:=omega) only[go_sem,simprocAttr,a6,a7,a8,a9,F,E,w,f3,v];rw[c];exact⟨l,rfl⟩
     ·rw[ho]at c v;rw[afl rfl]at c;simp(disch:=omega) only[go_sem,simprocAttr,a6,a7,a8,a9,F,E,w,f3,v];have hsp:=ahx (r:={r with cells:=s5 t h r.cells k}) (u:=0) l;rw[c];exact⟨by omega,by omega,l,akp (λz=>G++[ae.box z none]) hsp⟩
    ·obtain rfl:k=8:=by omega
     have Vi:=auG t h r;simp only[go_sem,simprocAttr,a7,a8,a9,f4,Vi,K,sZ,sg,T];have gn:List.drop 480 (aI s)=[]:=akU (by rw[im];omega);rw[gn,aip];refine⟨zs t h s y,?_,by omega,λi hi HA=>?_,J.symm⟩
     ·simp only[gH,gF,apw,ahc,Nat.reduceAdd];refine⟨?_,?_,?_,?_,?_⟩
      ·rw[aex (by omega)];exact f0 _
      ·rw[aex (by omega)];exact f1 _
      ·rw[aex (by omega)];exact bh Y
      ·rw[aex (by omega)];exact f3 _
      ·rw[c];exact cN (f4 _)
     ·rw[aex (by omega),aez (by omega)]
  ·rintro e ⟨e3,e4,e6,e7⟩ s W p hp A O hg hd;simp only[gH,gF,apw,ahc,Nat.reduceAdd]at hg;obtain⟨w0,w1,Y,w3,V⟩:=hg;rw[U4,ag4]at A;have b:bN s:=by rw[A];exact Vf I h _
   have hsT:cm s:=by rw[A];exact(Vg t h _ t).tree hT
   have U6:=λH lo=>up dj (aiW s b hsT h 0 hh (by omega) H lo)
   rw[<-A]at Z;have Pg: ∀a o,((W.set (N+2) a).set p o).take N=H:=λa o=>((O.set (by omega)).set (by omega)).take U
   have M: ∀H lo,D X (.fn (.func Bg) [] []) [.agg (aI s),.int .u32 h,.int .u32 0] ⟨H,lo⟩=some (.ret (vC s h 0) ⟨H,lo⟩):=U6;simp(disch:=omega) only[F1,go_sem,simprocAttr,e3,e4,e7,w1,Y,V,M,vC,hd,nw,Pg,cL,cN Y,Mp,Z]
  ·rintro e he ex s W p hp hJ;exact hJ.elim
structure xz(x:Ow):Prop where
 kind:x.kind<256
 aa:x.aa<256
 hold:x.hold<256
structure fE(o:bM):Prop where
 root: ∀i,(o i).root<4294967296
 own: ∀i,xz (o i).own
theorem Vj:xz xh:=⟨by trivial,by trivial,by trivial⟩
def fE.of{o:bM}(ho:fE o)(t:aw)(h:Nat):xz (b0 o t h):=by
 unfold b0;split
 ·split
  ·exact ho.own _
  ·exact Vj
 ·exact Vj
def fE.Mr{o:bM}(ho:fE o){t:aw}{r:Nat}{x:Ow}(b:r<4294967296)(a:xz x):fE (fN o t r aa x).1:=by
 unfold fN;split
 ·omega
 ·split
  ·omega
  ·split
   ·omega
   ·refine⟨λi=>?_,λi=>?_⟩
    ·show(ar o (aM r) ⟨r,x⟩ i).root<_;by_cases e:i=aM r
     ·rw[e,cT];exact b
     ·rw[di e];exact ho.root i
    ·show xz (ar o (aM r) ⟨r,x⟩ i).own;by_cases e:i=aM r
     ·rw[e,cT];exact a
     ·rw[di e];exact ho.own i
def zM(aa:Nat):hH aa<256:=by
 unfold hH;have:2^(aa % 8)<=2^7:=Nat.pow_le_pow_right (by omega) (by omega);omega
def aDA(b:a<256): (BitVec.ofInt 8 (a:Int)).toNat=a:=by grind
def Ms(d:a<256)(c:b<256):dg .and (.int .u8 (a:Nat)) (.int .u8 (b:Nat))=some (.int .u8 ((a&&&b:Nat):Int)):=by
 rw[DE];have e: (BitVec.ofInt IntKind.u8.bits (a:Int)&&&BitVec.ofInt IntKind.u8.bits (b:Int)).toNat=a&&&b:=by
  show(BitVec.ofInt 8 (a:Int)&&&BitVec.ofInt 8 (b:Int)).toNat=_
  grind
 have f:a&&&b<=a:=Nat.and_le_left;rw[e,wrap_u8 (by omega) (by omega)]
def auN(d:a<256)(c:b<256):dg .xor (.int .u8 (a:Nat)) (.int .u8 (b:Nat))=some (.int .u8 ((a^^^b:Nat):Int)):=by
 rw[OV];have e: (BitVec.ofInt IntKind.u8.bits (a:Int)^^^BitVec.ofInt IntKind.u8.bits (b:Int)).toNat=a^^^b:=by
  show(BitVec.ofInt 8 (a:Int)^^^BitVec.ofInt 8 (b:Int)).toNat=_
  grind
 have f:a^^^b<2^8:=aBj (by omega) (by omega);rw[e,wrap_u8 (by omega) (by omega)]
theorem ai0{k:Nat}:x&&&2^k=0↔x.testBit k=false:=by
 constructor
 ·intro h;have: (x&&&2^k).testBit k=false:=by grind
  grind
 ·intro h;apply Nat.eq_of_testBit_eq
  grind
def ai1:decide (¬((x&&&hH aa:Nat):Int)=0)=ou x aa:=by
 unfold ou hH;cases h:x.testBit (aa % 8)
 ·rw[ai0.2 h];simp
 ·grind [ai0]
def Vk(aa:Nat)(f:aa<4611686018427387904)(H:List ae)(lo:oN):D X0 (.fn (.func Be) [] []) [.int .i64 aa] ⟨H,lo⟩=some (.ret (.int .u8 (hH aa:Nat)) ⟨H,lo⟩):=by
 refine aF S8 λN h=>?_
 have e:dg .and (.int .i64 (aa:Nat)) (.int .i64 7)=some (.int .i64 ((aa % 8:Nat):Int)):=by
  rw[DE];have e: (BitVec.ofInt IntKind.i64.bits (aa:Int)&&&BitVec.ofInt IntKind.i64.bits 7).toNat=aa % 8:=by
   show(BitVec.ofInt 64 (aa:Int)&&&BitVec.ofInt 64 7).toNat=_;have c: (BitVec.ofInt 64 (aa:Int)).toNat=aa:=by grind
   have b: (BitVec.ofInt 64 7).toNat=2^3-1:=by rfl
   rw[BitVec.toNat_and,c,b,aCX]
  rw[e,wrap_i64 (by omega) (by omega)]
 have g:=zM aa;have d:kW .shl (.int .u8 1) (.int .i64 ((aa % 8:Nat):Int))=some (.int .u8 (hH aa:Nat)):=by
  rw[AF,afl (by omega)];have: (1:Int)*2^(min ((aa % 8:Nat):Int).toNat IntKind.u8.bits)=(hH aa:Nat):=by
   have a:IntKind.u8.bits=8:=rfl;rw[a,aCF,ari (by omega),Int.one_mul];unfold hH;simp
  rw[this,wrap_u8 (by omega) (by omega)]
 simp(disch:=omega) only[F1,go_sem,simprocAttr,S8,e,d]
def Cl(o:bM)(ho:fE o)(t:aw)(p:bN t)(n:cm t)(h:Nat)(m:h<4294967296)(H:List ae)(lo:oN):
  D X0 (.fn (.func wE) [] []) [.agg (cG o),.agg (aI t),.int .u32 h] ⟨H,lo⟩=some (.ret (.agg (jG (b0 o t h))) ⟨H,lo⟩):=by
 refine aF FJ λN k=>?_
 have a:=zI t p n h m;have b:=aty (h:=h) n m;have f:b0 o t h=match eB (root t h)with|some i=>if(o i).root=root t h then(o i).own else xh|none=>xh:=rfl
 cases d:eB (root t h)with
 |none=>
  rw[d]at f;have e1:b0 o t h=xh:=f;simp only[F1,go_sem,simprocAttr,FJ,k,a,jJ (root t h) b,iu,d,e1];rfl
 |some i=>
  rw[d]at f;have j:=ahk d;have e: (i:Int)<32:=by omega
  by_cases l: (o i).root=root t h
  ·have c: (((o i).root:Nat):Int)=(root t h:Nat):=by omega
   have e1:b0 o t h=(o i).own:=by rw[f];exact afl l
   have g:jG (o i).own=[.int .u8 (o i).own.kind,.int .u8 (o i).own.aa,.int .u8 (o i).own.hold]:=rfl;simp only[F1,go_sem,simprocAttr,FJ,k,a,jJ (root t h) b,iu,d,e1,e,ahA j,c,asJ j,g]
  ·have c: ¬(((o i).root:Nat):Int)=(root t h:Nat):=by omega
   have e1:b0 o t h=xh:=by rw[f];exact afi l
   simp only[F1,go_sem,simprocAttr,FJ,k,a,jJ (root t h) b,iu,d,e1,e,ahA j,c];rfl
def ln(o:bM)(t:aw)(r aa:Nat)(x:Ow):AV:=.au [.agg (cG (fN o t r aa x).1),.int .i64 (fN o t r aa x).2]
theorem auO:wI.length=128:=by rfl
theorem auP:List.drop 128 wI=[]:=by rfl
def gk:type_of% auO/\type_of% auP:=by decide
def Gl(o:bM)(t:aw)(v:bN t)(A:cm t)(r:Nat)(k:r<4294967296)(aa:Nat)(u:aa<4611686018427387904)(x:Ow)(H:List ae)(lo:oN):
  D X0 (.fn (.func wF) [] []) [.agg (cG o),.agg (aI t),.int .u32 r,.int .i64 aa,.agg (jG x)] ⟨H,lo⟩=some (.ret (ln o t r aa x) ⟨H,lo⟩):=by
 refine aF BY λN i=>?_
 have c:=zI t v A r k;have a:=en t.b r k;have m: ∀h,ax t.b h=t.ax h:=λh=>rfl
 simp only[m]at a;have z:=zu r;have l: (aM r:Int)<32:=by omega
 have y:iu r= .au [.int .i64 (aM r:Nat),.bool (eB r).isSome]:=rfl;have b:fN o t r aa x=if t.ax r=false then(o,4)else if root t r≠r then(o,12)else if 8<=aa then(o,2)else(ar o (aM r) ⟨r,x⟩,0):=rfl
 have d:jG x=[.int .u8 x.kind,.int .u8 x.aa,.int .u8 x.hold]:=rfl;cases g:t.ax r with
 |false=>
  rw[afl g]at b;rw[g]at a;simp only[F1,go_sem,simprocAttr,BY,i,a,ln,b,gk,d]
 |true=>
  rw[afi (by rw[g];simp)]at b;rw[g]at a;by_cases q:root t r=r
  ·rw[afi (by simpa using q)]at b;rw[q]at c;by_cases s:8<=aa
   ·rw[afl s]at b;have f: (aa:Int)>=8:=by omega
    have n: ¬(aa:Int)<0:=by omega
    simp only[F1,go_sem,simprocAttr,BY,i,a,c,f,n,ln,b,gk,d]
   ·rw[afi s]at b;have f: ¬(aa:Int)>=8:=by omega
    have n: ¬(aa:Int)<0:=by omega
    have e:=asK (w:=o) (x:=⟨r,x⟩) z;have j:sE ⟨r,x⟩=[.int .u32 r,.int .u8 x.kind,.int .u8 x.aa,.int .u8 x.hold]:=rfl;rw[j]at e;simp only[F1,go_sem,simprocAttr,BY,i,a,c,f,n,ln,b,gk,d,jJ r k,y,l,e];omega
  ·rw[afl q]at b;have p: ¬((root t r:Nat):Int)=(r:Nat):=by omega
   simp only[F1,go_sem,simprocAttr,BY,i,a,c,p,ln,b,gk,d]
section
variable(o:bM)(t:aw)(ht:bN t)(hT:cm t)(r:Nat)(hr:r<4294967296)(aa:Nat)(oH:aa<256)(H:List ae)(lo:oN)
include ht hT hr oH
theorem auQ:D X0 (.fn (.func QU) [] []) [.agg (cG o),.agg (aI t),.int .u32 r,.int .i64 aa] ⟨H,lo⟩=some (.ret (.au [.agg (cG (rj o t r aa).1),.int .i64 (rj o t r aa).2]) ⟨H,lo⟩):=by
 refine aF Tb λN c=>?_
 have b:=Gl o t ht hT r hr aa (by omega) ⟨1,aa % 256,0⟩;have a:jG ⟨1,aa % 256,0⟩=[.int .u8 1,.int .u8 aa,.int .u8 0]:=by rw[ao0 oH];rfl
 rw[a]at b;have d:rj o t r aa=fN o t r aa ⟨1,aa % 256,0⟩:=rfl;simp(disch:=omega) only[F1,go_sem,simprocAttr,Tb,c,b,ln,gk,d]
theorem auR:D X0 (.fn (.func QJ) [] []) [.agg (cG o),.agg (aI t),.int .u32 r,.int .i64 aa] ⟨H,lo⟩=some (.ret (.au [.agg (cG (B2 o t r aa).1),.int .i64 (B2 o t r aa).2]) ⟨H,lo⟩):=by
 refine aF S2 λN d=>?_
 have b:=Gl o t ht hT r hr aa (by omega) ⟨3,0,hH aa⟩;have a:jG ⟨3,0,hH aa⟩=[.int .u8 3,.int .u8 0,.int .u8 (hH aa)]:=rfl;rw[a]at b;have e:B2 o t r aa=fN o t r aa ⟨3,0,hH aa⟩:=rfl;have c:=Vk aa (by omega);simp only[F1,go_sem,simprocAttr,S2,d,b,c,ln,gk,e]
end
def auS(o:bM)(t:aw)(ht:bN t)(hT:cm t)(r:Nat)(hr:r<4294967296)(H:List ae)(lo:oN):
  D X0 (.fn (.func QL) [] []) [.agg (cG o),.agg (aI t),.int .u32 r] ⟨H,lo⟩=some (.ret (.au [.agg (cG (zt o t r).1),.int .i64 (zt o t r).2]) ⟨H,lo⟩):=by
 refine aF S4 λN b=>?_
 have a: ∀H lo,D X0 (.fn (.func wF) [] []) [.agg (cG o),.agg (aI t),.int .u32 r,.int .i64 0,.agg [.int .u8 2,.int .u8 0,.int .u8 0]] ⟨H,lo⟩=_:=Gl o t ht hT r hr 0 (by omega) ⟨2,0,0⟩;have c:zt o t r=fN o t r 0 ⟨2,0,0⟩:=rfl;simp only[F1,go_sem,simprocAttr,S4,b,a,ln,gk,c]
theorem ai2{o:bM}:List.drop 128 (cG o)=[]:=by rfl
def qd(o:bM)(t:aw)(r aa:Nat)(hold:Bool):AV:=.au [.agg (cG (dt o t r aa hold).1),.int .u8 (dt o t r aa hold).2.1,.int .i64 (dt o t r aa hold).2.2]
def auT{o:bM}{t:aw}{r:Nat}{x y:Ow}(h: (fN o t r aa x).2=0):fN (fN o t r aa x).1 t r aa y=fN o t r aa y:=by
 unfold fN at h⊢;split at h
 ·cases h
 ·simp_all[afi,sD]
def auU(o:bM)(t:aw)(r aa:Nat)(x:Ow): (fN o t r aa x).2=if t.ax r=false then 4 else if root t r≠r then 12 else if 8<=aa then 2 else 0:=by
 unfold fN
 grind
def ai3(o:bM)(ho:fE o)(t:aw)(ht:bN t)(hT:cm t)(r:Nat)(hr:r<4294967296)(aa:Nat)(oH:aa<256)(hold:Bool)(H:List ae)(lo:oN):
  D X0 (.fn (.func JA) [] []) [.agg (cG o),.agg (aI t),.int .u32 r,.int .i64 aa,.bool hold] ⟨H,lo⟩=some (.ret (qd o t r aa hold) ⟨H,lo⟩):=by
 refine aF qY λN l=>?_
 have c:=Cl o ho t ht hT r hr;have k:=Vk aa (by omega);have d:=zI t ht hT r hr;have b:=en t.b r hr;have C: ∀h,ax t.b h=t.ax h:=λh=>rfl
 simp only[C]at b;have s:=ho.of t r;have g:dt o t r aa hold=(let x:=b0 o t r
  let e:=(fN o t r aa x).2
  if e=4\/ (t.ax r=true/\root t r≠r)then(o,0,e)
  else if x.kind≠3 then(o,0,12)
  else if e≠0 then(o,0,e)
  else if ou x.hold aa&&hold then(o,0,7)
  else if !ou x.hold aa&& !hold then(o,0,5)
  else((fN o t r aa {x with hold:=x.hold^^^hH aa}).1,x.hold^^^hH aa,(fN o t r aa {x with hold:=x.hold^^^hH aa}).2)):=rfl
 generalize G:b0 o t r=x at*;have j:=Gl o t ht hT r hr aa (by omega) x;have a:=auU o t r aa x;have B:jG x=[.int .u8 x.kind,.int .u8 x.aa,.int .u8 x.hold]:=rfl;have hand:=Ms s.hold (zM aa);have f:=ai1 (x:=x.hold) (aa:=aa);rw[B]at j c;simp only at g;cases z:t.ax r with
 |false=>
  rw[afl z]at a;rw[a,afl (.inl rfl)]at g;rw[z]at b;simp only[F1,go_sem,simprocAttr,qY,l,c,j,ln,a,k,hand,f,gk,qd,g]
 |true=>
  rw[afi (by rw[z];simp)]at a;rw[z]at b;by_cases q:root t r=r
  ·rw[afi (by simpa using q)]at a;rw[q]at d;by_cases E:x.kind=3
   ·have i:decide (¬(x.kind:Int)=3)=false:=afv (by omega);by_cases A:8<=aa
    ·rw[afl A]at a;rw[a,afi (by simp[q]),afi (by simpa using E),afl (by omega)]at g;simp only[F1,go_sem,simprocAttr,qY,l,b,d,c,j,ln,a,k,hand,f,i,gk,qd,g]
    ·rw[afi A]at a;rw[a,afi (by simp[q]),afi (by simpa using E),afi (by omega)]at g;have p:=Gl (fN o t r aa x).1 t ht hT r hr aa (by omega) {x with hold:=x.hold^^^hH aa};have v:jG {x with hold:=x.hold^^^hH aa}=[.int .u8 x.kind,.int .u8 x.aa,.int .u8 (x.hold^^^hH aa:Nat)]:=rfl;have u:=auT (y:={x with hold:=x.hold^^^hH aa}) a;have w: (N+1 !=N)=true:=by simp
     have m:=auN s.hold (zM aa);rw[v]at p;cases n:ou x.hold aa<;>cases hold
     ·rw[n,afi (by simp),afl (by simp)]at g;simp only[F1,go_sem,simprocAttr,qY,l,b,d,c,j,ln,a,k,hand,f,n,i,gk,qd,g]
     ·rw[n,afi (by simp),afi (by simp)]at g;simp only[F1,go_sem,simprocAttr,qY,l,b,d,c,j,ln,a,k,hand,f,n,i,gk,qd,g,m,p,u,ai2,w,arG]
     ·rw[n,afi (by simp),afi (by simp)]at g;simp only[F1,go_sem,simprocAttr,qY,l,b,d,c,j,ln,a,k,hand,f,n,i,gk,qd,g,m,p,u,ai2,w,arG]
     ·rw[n,afl (by simp)]at g;simp only[F1,go_sem,simprocAttr,qY,l,b,d,c,j,ln,a,k,hand,f,n,i,gk,qd,g]
   ·have i: ¬(x.kind:Int)=3:=by omega
    rw[afi (by rw[a];simp[q];split<;>simp),afl E]at g;by_cases A:8<=aa
    ·rw[afl A]at a;simp only[F1,go_sem,simprocAttr,qY,l,b,d,c,j,ln,a,k,hand,f,i,gk,qd,g]
    ·rw[afi A]at a;simp only[F1,go_sem,simprocAttr,qY,l,b,d,c,j,ln,a,k,hand,f,i,gk,qd,g]
  ·rw[afl q]at a;have F: ¬((root t r:Nat):Int)=(r:Nat):=by omega
   rw[afl (.inr ⟨z,q⟩),a]at g;simp only[F1,go_sem,simprocAttr,qY,l,b,d,F,c,j,ln,a,k,hand,f,gk,qd,g]
def ai4(o:bM)(ho:fE o)(t:aw)(ht:bN t)(hT:cm t)(r:Nat)(hr:r<4294967296)(aa:Nat)(oH:aa<256)(H:List ae)(lo:oN):
  D X0 (.fn (.func Ju) [] []) [.agg (cG o),.agg (aI t),.int .u32 r,.int .i64 aa] ⟨H,lo⟩=some (.ret (.au [.agg (cG (dt o t r aa true).1),.int .i64 (dt o t r aa true).2.2]) ⟨H,lo⟩):=by
 refine aF S3 λN b=>?_
 have a:=ai3 o ho t ht hT r hr aa oH true;simp only[F1,go_sem,simprocAttr,S3,b,a,qd,gk]
def Gm(x:Nat):Nat:=(JO.getD x 0).toNat
def auV: ∀x,x<256->(Gm x=0↔x=0):=by decide
def ai5{o:bM}(ho:fE o){t:aw}{r:Nat}{hold:Bool}: (dt o t r aa hold).2.1<256:=by
 unfold dt;simp only;split
 ·simp
 ·split
  ·simp
  ·split
   ·simp
   ·split
    ·simp
    ·split
     ·simp
     ·exact aBj (n:=8) (ho.of t r).hold (zM aa)
def auW(o:bM)(ho:fE o)(t:aw)(ht:bN t)(hT:cm t)(r:Nat)(hr:r<4294967296)(aa:Nat)(oH:aa<256)(H:List ae)(lo:oN):
  D X0 (.fn (.func Q0) [] []) [.agg (cG o),.agg (aI t),.int .u32 r,.int .i64 aa] ⟨H,lo⟩=some (.ret (.au [.agg (cG (dt o t r aa false).1),.int .i64 (Gm (dt o t r aa false).2.1),.int .i64 (dt o t r aa false).2.2]) ⟨H,lo⟩):=by
 refine aF Tg λN b=>?_
 have e:=ai3 o ho t ht hT r hr aa oH false;have c:=ai5 ho (t:=t) (r:=r) (aa:=aa) (hold:=false);have a: ∀H lo,D X0 (.fn (.func Q6) [] []) [.int .u8 ((dt o t r aa false).2.1:Nat)] ⟨H,lo⟩=some (.ret (.int .i64 (Gm (dt o t r aa false).2.1:Nat)) ⟨H,lo⟩):=by
  intro H lo;generalize(dt o t r aa false).2.1=x at*;refine aF Tx λN b=>?_
  have d:JO.length=256:=by rfl
  have f:=UInt8.toNat_lt (JO.getD x 0);simp(disch:=omega) only[F1,go_sem,simprocAttr,Tx,d];exact⟨by omega,rfl⟩
 simp only[F1,go_sem,simprocAttr,Tg,b,e,qd,a,gk]
structure s6(x:Tok):Prop where
 aL:x.aL<4294967296
 iK:x.iK<256
 to:x.to<256
 aR:x.aR<4294967296
structure gz(k:bg):Prop where
 b:gM k.b
 lt: ∀i,(k.b i).eG=true->i<16
 t: ∀i,s6 (k.t i)
theorem ai6:s6 L0:=⟨by trivial,by trivial,by trivial,by trivial⟩
def gz.get{k:bg}(a:gz k)(h:Nat):s6 (b9 k h).1:=by
 unfold b9;split
 ·exact a.t _
 ·exact ai6
def gz.slot{k:bg}(a:gz k)(b:ax k.b h=true):aM h<16:=by
 obtain⟨_,e,_⟩:=B4 b;exact a.lt _ (by rw[e])
def Cm(k:bg)(j:gz k)(h:Nat)(f:h<4294967296)(H:List ae)(lo:oN):
  D X0 (.fn (.func wC) [] []) [.agg (bW k),.int .u32 h] ⟨H,lo⟩=some (.ret (.au [.agg (fB (b9 k h).1),.int .i64 (b9 k h).2]) ⟨H,lo⟩):=by
 refine aF Le λN g=>?_
 have a:=en k.b h f;have i:iu h= .au [.int .i64 (aM h:Nat),.bool (eB h).isSome]:=rfl;cases d:ax k.b h with
 |false=>
  rw[d]at a;have e:b9 k h=(L0,4):=by unfold b9;grind
  simp only[F1,go_sem,simprocAttr,Le,g,a,e];rfl
 |true=>
  rw[d]at a;have e:b9 k h=(k.t (aM h),0):=by unfold b9;grind
  have l:=j.slot d;have c: (aM h:Int)<16:=by omega
  have b:fB (k.t (aM h))=[.int .u32 (k.t (aM h)).aL,.int .u8 (k.t (aM h)).iK,.int .u8 (k.t (aM h)).to,.bool (k.t (aM h)).mu,.int .u32 (k.t (aM h)).aR]:=rfl;simp only[F1,go_sem,simprocAttr,Le,g,a,e,jJ h f,i,c,asM l,b]
def Vl(k:bg)(h:Nat)(d:h<4294967296)(H:List ae)(lo:oN):
  D X0 (.fn (.func Et) [] []) [.agg (bW k),.int .u32 h] ⟨H,lo⟩=some (.ret (.bool (nc k h)) ⟨H,lo⟩):=by
 refine aF LR λN c=>?_
 have b:=en k.b h d;by_cases e:h=0
 ·have a: (h:Int)=0:=by omega
  simp only[F1,go_sem,simprocAttr,LR,c,a,nc]
  grind
 ·have a: ¬(h:Int)=0:=by omega
  simp only[F1,go_sem,simprocAttr,LR,c,a,b,nc]
  grind
def ai7{N:Nat}{A A' P:List ae}{ty:TypeId}(h:aQ N (A++P) v sz ty af)(b:A'.length=A.length)(c:A.length<=N):aQ N (A'++(P++M)) v sz ty af:=by
 obtain⟨a,d⟩:=h;refine⟨a,?_⟩
 grind
def vE(k:bg)(p:Tok->Bool)(n:Nat):lN:=((bn k.b).take n).filter λh=>p (b9 k h).1
def auX{k:bg}{p:Tok->Bool}(h:n< (bn k.b).length):vE k p (n+1)=if p (b9 k ((bn k.b).getD n default)).1 then vE k p n++[(bn k.b).getD n default]else vE k p n:=by
 unfold vE;rw[ait,afu h,ayv,getD_eq h]
 grind
theorem auY{k:bg}{p:Tok->Bool}: (vE k p n).length<=n:=ajR (amt _ _) (by grind)
def jl{S:Type}(k:bg)(f:S->Tok->S)(s:S)(n:Nat):S:=((bn k.b).take n).foldl (λs h=>f s (b9 k h).1) s
def auZ{S:Type}{k:bg}{f:S->Tok->S}{s:S}(h:n< (bn k.b).length):jl k f s (n+1)=f (jl k f s n) (b9 k ((bn k.b).getD n default)).1:=by
 unfold jl;rw[ait,afu h,aoH,getD_eq h];rfl
def Mt{S:Type}(k:bg)(W:gz k)(fv:AV)(p:Tok->Bool)(f:S->Tok->S)(c:S)(N:Nat)(b:S->List ae)(r: ∀s,(b s).length=N)
  (hf: ∀s x L,s6 x->D X fv [.agg (fB x)] ⟨b s++L,none⟩=some (.ret (.bool (p x)) ⟨b (f s x)++L,none⟩)) (lo:oN):
  ∃w,D X (.fn (.func yE) [] []) [.agg (bW k),fv] ⟨b c,lo⟩=some (.ret w ⟨b (jl k f c (bn k.b).length),lo⟩)/\Rv w 1 ((sI k p).map hC)/\w.refs=0:=by
 suffices hs: ∃V,D X (.fn (.func yE) [] []) [.agg (bW k),fv] ⟨b c,lo⟩=some V/\ (λV=> ∃w,V=aS.ret w ⟨b (jl k f c (bn k.b).length),lo⟩/\Rv w 1 ((sI k p).map hC)/\w.refs=0) V by
  obtain⟨V,h1,w,rfl,h2⟩:=hs;exact⟨w,h1,h2⟩
 refine cz S9 λM hM=>?_
 obtain rfl:M=N:=by rw[<-hM,r]
 obtain⟨v,J,e1,Y⟩:=U1 k.b W.b (M+1) (b c++[.box (bW k) none]) (by simp[r]) none;have F:D X (.fn (.func iG) [] []) [.agg (bY k.b)] ⟨b c++[.box (bW k) none],none⟩=some _:=sX (p:=l6) rfl e1;have g:=(l7 Y none).bK;have r8:=nd k.b;rw[afq]at F Y g;obtain⟨j,U⟩: ∃j,j=[ae.box (bW k) none]++J:=⟨_,rfl⟩;have T: ∀s L,(b s++(j++L))[M]?=some (.box (bW k) none):=λs L=>by rw[dh (r s),U];rfl
 rw[<-U]at F Y g;simp only[go_sem,simprocAttr,S9,hM,F,g];refine dU (bn k.b).length (λn e H'=> ∃L,H'=b (jl k f c n)++(j++L)/\ (∃G,e 5=G/\aQ (M+j.length) H' G 1 bZ ((vE k p n).map hC))/\e 1=fv/\e 2= .ptr M 0/\e 12=v/\e 13= .int .i64 (bn k.b).length/\e 14= .int .i64 n) 0 (by omega) ?_ ?_
 ·simp only[go_sem,simprocAttr];exact⟨[],by simp[jl],_,rfl,aQ.ai⟩
 rintro n hn e H' ⟨L,rfl,⟨G,e5,i⟩,e1,A,E,C,B⟩ n' u;have R:=T (jl k f c n);simp only[bR,go_sem,simprocAttr,agB,e5,E,C,B];refine⟨λhc=>?_,λhc=>?_⟩
 ·have l:n< (bn k.b).length:=by omega
  have O:=eX l;have ig:=(jh W.b).1 O;have q:=auX (p:=p) l;have I:=auZ (f:=f) (s:=c) l;have K:Rd ⟨b (jl k f c n)++(j++L),none⟩ v 1 ((bn k.b).map hC):=l7 (ai7 Y (by rw[r,r]) (by rw[r];omega)) none;have y:=λH lo=>up dj (Cm k W ((bn k.b).getD n default) (gg ig) H lo)
  have Z:=W.get ((bn k.b).getD n default);have m:=hf (jl k f c n) (b9 k ((bn k.b).getD n default)).1 (j++(L++[.box (fB (b9 k ((bn k.b).getD n default)).1) none])) Z;generalize hh: (bn k.b).getD n default=h at*;generalize hx: (b9 k h).1=x at*;have t:fB x=[.int .u32 x.aL,.int .u8 x.iK,.int .u8 x.to,.bool x.mu,.int .u32 x.aR]:=rfl;have r7:=auY (k:=k) (p:=p) (n:=n);have hA:=λ (a:Int)=>K.ck (k:=.i64) (a:=a)
  have hL:=K.cE (X:=X) (off:=0) (n:=1) (agg:=false) l;rw[hh,pH]at hL;have Q: ∀o,(b (jl k f c n)++(j++(L++[o])))[n']?=some o:=λo=>by rw[<-u,<-afq j,<-afq (b _)];simp
  have P: ∀o o',(b (jl k f c n)++(j++(L++[o]))).set n' o'=b (jl k f c n)++(j++(L++[o'])):=λo o'=>by
   have e: ∀o:ae,b (jl k f c n)++(j++(L++[o]))=(b (jl k f c n)++(j++L))++[o]:=λo=>by simp
   rw[e,e,<-u,apu _ _ (agW _)];simp
  have d:aQ (M+j.length) (b (f (jl k f c n) x)++(j++(L++[.box (fB x) none]))) G 1 bZ ((vE k p n).map hC):=by
   have:=ai7 (A':=b (f (jl k f c n) x)) (M:=[.box (fB x) none]) i (by rw[r,r]) (by rw[r];omega);rwa[afq]at this
  cases hp:p x
  ·rw[hp]at m q;rw[t]at m d;simp(disch:=omega) only[go_sem,simprocAttr,e1,A,e5,E,C,B,hA,hL,R,y,u,t,Q,P,m,afq,q,I];exact⟨by omega,l,_,rfl,G,rfl,d⟩
  ·rw[hp]at m q;rw[t]at m d;simp only[go_sem,simprocAttr,e1,A,e5,hA,hL,R,y,u,t,Q,P,m,afq];refine⟨by omega,o9 (H0:=b (f (jl k f c n) x)++j) (ys:=[[.int .u32 (h:Nat)]]) d ⟨_,afq _ _ _⟩ (by simp[r]) (by omega) (by intro el nP;rw[agV.1 nP];rfl) rfl (by unfold room;simp;omega) λv' H2 z DO=>?_⟩;obtain⟨L2,rfl⟩:=DO;simp(disch:=omega) only[go_sem,simprocAttr,e1,A,E,C,B];rw[afl rfl]at q;refine⟨l,L2,by rw[I],v',rfl,?_⟩;rw[q,ag9];rwa[afq]at z
 ·obtain rfl:n=(bn k.b).length:=by omega
  have ht:vE k p (bn k.b).length=sI k p:=by unfold vE sI;rw[ag4]
  rw[ht]at i;have h0:b8 ((sI k p).map hC)=0:=bA (λ_=>rfl) _;rw[aQ.Pm (aQ.le i (by omega)) (by omega)];refine⟨_,da rfl (ape (r _)),i.sc,cM i.sc h0⟩
theorem nC(x:Tok):fB x=[.int .u32 x.aL,.int .u8 x.iK,.int .u8 x.to,.bool x.mu,.int .u32 x.aR]:=rfl
theorem xA{N:Nat}{H:List ae}(h:v.refs=0):finish N lo v ⟨H,none⟩=(v,⟨H.take N,lo⟩):=iR (.inl rfl) (by omega)
def au0(aL:Nat)(x:Tok)(p:Nat)(H:List ae)(a:H[p]?=some (.box [.int .u32 (aL:Nat)] none))(lo:oN):
  D X (.fn (.func JM) [] [.ptr p 0]) [.agg (fB x)] ⟨H,lo⟩=some (.ret (.bool (decide (x.aL=aL))) ⟨H,lo⟩):=by
 refine eP TA λN b=>?_
 have c: ∀L,(H++L)[p]?=_:=λL=>bh a
 simp only[F1,go_sem,simprocAttr,TA,b,nC,c];exact da (akp AV.bool (ahb.2 (by omega))) rfl
def au1(aa:Nat)(x:Tok)(a:s6 x)(p:Nat)(H:List ae)(b:H[p]?=some (.box [.int .i64 (aa:Nat)] none))(lo:oN):
  D X (.fn (.func Jx) [] [.ptr p 0]) [.agg (fB x)] ⟨H,lo⟩=some (.ret (.bool (decide (x.to=aa))) ⟨H,lo⟩):=by
 refine eP Ta λN c=>?_
 have d: ∀L,(H++L)[p]?=_:=λL=>bh b
 have:=a.to;simp(disch:=omega) only[F1,go_sem,simprocAttr,Ta,c,nC,d];exact da (akp AV.bool (ahb.2 (by omega))) rfl
def Vm(k:bg)(hk:gz k)(aL:Nat)(H:List ae)(lo:oN):
  ∃w,D X (.fn (.func Eo) [] []) [.agg (bW k),.int .u32 aL] ⟨H,lo⟩=some (.ret w ⟨H,lo⟩)/\Rv w 1 ((nf k aL).map hC)/\w.refs=0:=by
 obtain⟨N,c⟩: ∃N,H.length=N:=⟨_,rfl⟩;obtain⟨w,e1,b,e3⟩:=Mt (S:=Unit) k hk (.fn (.func JM) [] [.ptr (N+1) 0]) (λx=>decide (x.aL=aL)) (λs _=>s) () (N+2) (λ_=>H++[.box (bW k) none,.box [.int .u32 aL] none]) (λ_=>by grind)
  (λs x L _=>au0 aL x (N+1) _ (by grind) none) none
 refine⟨w,?_,b,e3⟩;refine aF Tt λM a=>?_
 obtain rfl:M=N:=by omega
 simp only[go_sem,simprocAttr,Tt,a,e1];rw[xA e3,mn a]
def au2(k:bg)(hk:gz k)(aa:Nat)(H:List ae)(lo:oN):
  ∃w,D X (.fn (.func QB) [] []) [.agg (bW k),.int .i64 aa] ⟨H,lo⟩=some (.ret w ⟨H,lo⟩)/\Rv w 1 ((xi k aa).map hC)/\w.refs=0:=by
 obtain⟨N,d⟩: ∃N,H.length=N:=⟨_,rfl⟩;obtain⟨w,e1,c,e3⟩:=Mt (S:=Unit) k hk (.fn (.func Jx) [] [.ptr (N+1) 0]) (λx=>decide (x.to=aa)) (λs _=>s) () (N+2) (λ_=>H++[.box (bW k) none,.box [.int .i64 aa] none]) (λ_=>by grind)
  (λs x L b=>au1 aa x b (N+1) _ (by grind) none) none
 refine⟨w,?_,c,e3⟩;refine aF Sz λM a=>?_
 obtain rfl:M=N:=by omega
 simp only[go_sem,simprocAttr,Sz,a,e1];rw[xA e3,mn a]
theorem ai8{α:Type}(q:α->Bool): ∀ (l:List α) (s:Bool),l.foldl (λs x=>s||q x) s=(s||l.any q)
 | [],s=>by simp
 |x::xs,s=>by rw[azo,ai8 q xs,List.any_cons,Bool.or_assoc]
def au3(k:bg)(aL ab:Nat)(s:Bool)(x:Tok)(N:Nat)(H:List ae)(h:H.length=N)(L:List ae):
  D X (.fn (.func JN) [] [.ptr (N+1) 0,.ptr (N+2) 0,.ptr (N+3) 0]) [.agg (fB x)] ⟨H++[.box (bW k) none,.box [.int .u32 aL] none,.box [.int .u32 ab] none,.box [.bool s] none]++L,none⟩=
    some (.ret (.bool (isRight aL ab x)) ⟨H++[.box (bW k) none,.box [.int .u32 aL] none,.box [.int .u32 ab] none,.box [.bool (s|| (isRight aL ab x&&x.mu))] none]++L,none⟩):=by
 refine eP xb λM p=>?_
 rw[afq]at p⊢;have m:M=N+4+L.length:=by rw[<-p];simp[h];omega
 have g1: ∀a b c d f,(H++(a::b::c::d::f))[N+1]?=some b:=λa b c d f=>by rw[bz h];rfl
 have g2: ∀a b c d f,(H++(a::b::c::d::f))[N+2]?=some c:=λa b c d f=>by rw[bz h];rfl
 have j: ∀a b c d f,(H++(a::b::c::d::f))[N+3]?=some d:=λa b c d f=>by rw[bz h];rfl
 have gm: ∀a b c d o,(H++(a::b::c::d:: (L++[o])))[M]?=some o:=λa b c d o=>by
  have:H++(a::b::c::d:: (L++[o]))=(H++(a::b::c::d::L))++[o]:=by simp
  rw[this,show M=(H++(a::b::c::d::L)).length by rw[m,agU,h];simp only[ag5];omega];simp
 have i: ∀a b c d f o,(H++(a::b::c::d::f)).set (N+3) o=H++(a::b::c::o::f):=λa b c d f o=>by rw[m0 h];rfl
 have tk: ∀a b c d o,(H++(a::b::c::d:: (L++[o]))).take M=H++(a::b::c::d::L):=λa b c d o=>by
  have:H++(a::b::c::d:: (L++[o]))=(H++(a::b::c::d::L))++[o]:=by simp
  rw[this];exact ape (by simp[h,m];omega)
 have q:isRight aL ab x=(decide (x.aL=aL)&&decide (x.aR=ab)):=rfl;rw[q];by_cases l:x.aL=aL
 ·have e: (x.aL:Int)=aL:=by omega
  by_cases n:x.aR=ab
  ·have g: (x.aR:Int)=ab:=by omega
   cases s
   ·simp only[F1,go_sem,simprocAttr,xb,nC,g1,g2,j,i,tk,e,g,afq,akr,aiL];simp[l,n]
   ·simp only[F1,go_sem,simprocAttr,xb,nC,g1,g2,j,i,tk,e,g,afq,akr,aiL];simp[l,n]
  ·have g: ¬(x.aR:Int)=ab:=by omega
   cases s
   ·simp only[F1,go_sem,simprocAttr,xb,nC,g1,g2,j,i,tk,e,g,afq,akr,aiL];simp[l,n]
   ·simp only[F1,go_sem,simprocAttr,xb,nC,g1,g2,j,i,tk,e,g,afq,akr,aiL];simp[l,n]
 ·have e: ¬(x.aL:Int)=aL:=by omega
  cases s
  ·simp only[F1,go_sem,simprocAttr,xb,nC,g1,j,i,tk,e,afq,akr,aiL];simp[l]
  ·simp only[F1,go_sem,simprocAttr,xb,nC,g1,j,i,tk,e,afq,akr,aiL];simp[l]
def Vn(k:bg)(hk:gz k)(aL ab:Nat)(H:List ae)(lo:oN):
  D X (.fn (.func Es) [] []) [.agg (bW k),.int .u32 aL,.int .u32 ab] ⟨H,lo⟩=some (.ret (.au [.int .i64 (B3 k aL ab:Nat),.bool (sJ k aL ab)]) ⟨H,lo⟩):=by
 obtain⟨N,a⟩: ∃N,H.length=N:=⟨_,rfl⟩;obtain⟨w,e1,c,e3⟩:=Mt (S:=Bool) k hk (.fn (.func JN) [] [.ptr (N+1) 0,.ptr (N+2) 0,.ptr (N+3) 0]) (isRight aL ab) (λs x=>s|| (isRight aL ab x&&x.mu)) false (N+4)
  (λs=>H++[.box (bW k) none,.box [.int .u32 aL] none,.box [.int .u32 ab] none,.box [.bool s] none]) (λ_=>by grind) (λs x L _=>au3 k aL ab s x N H a L) none
 have hm:jl k (λs x=>s|| (isRight aL ab x&&x.mu)) false (bn k.b).length=sJ k aL ab:=by
  unfold jl sJ;rw[ag4,ai8 (λh=>isRight aL ab (b9 k h).1&& (b9 k h).1.mu),arK]
 rw[hm]at e1;refine aF Ty λM b=>?_
 obtain rfl:M=N:=by rw[<-b,a]
 simp only[F1,go_sem,simprocAttr,Ty,b,e1,c.bK];rfl
section
variable(k:bg)(hk:gz k)(aL ab:Nat)(ha:ab<4294967296)(H:List ae)(lo:oN)
include hk ha
theorem ai9:D X (.fn (.func Em) [] []) [.agg (bW k),.int .u32 aL,.int .u32 ab] ⟨H,lo⟩=some (.ret (.bool (xj k aL ab)) ⟨H,lo⟩):=by
 refine aF LN λN e=>?_
 have d:=Vn k hk aL ab;have b:=λH lo=>up dj (Vl k ab ha H lo)
 have c:xj k aL ab=(nc k ab&& !sJ k aL ab):=rfl;cases a:nc k ab
 ·rw[a]at b c;simp only[F1,go_sem,simprocAttr,LN,e,d,b,c,akq]
 ·rw[a]at b c;simp only[F1,go_sem,simprocAttr,LN,e,d,b,c,anz]
theorem aja:D X (.fn (.func En) [] []) [.agg (bW k),.int .u32 aL,.int .u32 ab] ⟨H,lo⟩=some (.ret (.bool (zv k aL ab)) ⟨H,lo⟩):=by
 refine aF LO λN e=>?_
 have d:=Vn k hk aL ab;have b:=λH lo=>up dj (Vl k ab ha H lo)
 have c:zv k aL ab=(nc k ab&&decide (B3 k aL ab=0)):=rfl;cases a:nc k ab
 ·rw[a]at b c;simp only[F1,go_sem,simprocAttr,LO,e,d,b,c,akq]
 ·rw[a]at b c;simp only[F1,go_sem,simprocAttr,LO,e,d,b,c,anz];simp_all
end
section
set_option maxHeartbeats 2000000
def au4(k:bg)(B:gz k)(x:Tok)(C:s6 x)(H:List ae)(lo:oN):
  D X (.fn (.func Q2) [] []) [.agg (bW k),.agg (fB x)] ⟨H,lo⟩=some (.ret (.int .i64 (pW k x:Nat)) ⟨H,lo⟩):=by
 refine aF jF λN p=>?_
 have j:=Vn k B x.aL x.aR;have m:=λH lo=>up dj (Vl k x.aR C.aR H lo)
 have a:=λH lo=>up dj (Cm k B x.aR C.aR H lo)
 have E:=B.get x.aR;have b:pW k x=if nc k x.aR=false then 4
  else if 8<=x.iK\/8<=x.to\/x.iK=x.to\/x.aL=0 then 2
  else if x.aR≠0/\ ((b9 k x.aR).1.aL≠x.aL\/ (b9 k x.aR).1.to≠x.iK\/ (x.mu=true/\ (b9 k x.aR).1.mu=false))then 12
  else if sJ k x.aL x.aR=true\/ (x.mu=true/\0<B3 k x.aL x.aR)then 5
  else 0:=rfl
 generalize hu: (b9 k x.aR).1=w at*;generalize K:B3 k x.aL x.aR=n at*;have A:=nC w;have z:=nC x;rw[A]at a;rw[z];cases s:nc k x.aR with
 |false=>
  rw[afl s]at b;rw[s]at m;simp only[F1,go_sem,simprocAttr,jF,p,j,m,a,b]
 |true=>
  rw[afi (by rw[s];simp)]at b;rw[s]at m;by_cases J:8<=x.iK
  ·rw[afl (.inl J)]at b;have d: (x.iK:Int)>=8:=by omega
   simp only[F1,go_sem,simprocAttr,jF,p,j,m,a,b,d]
  ·have d: ¬(x.iK:Int)>=8:=by omega
   by_cases I:8<=x.to
   ·rw[afl (.inr (.inl I))]at b;have e: (x.to:Int)>=8:=by omega
    simp only[F1,go_sem,simprocAttr,jF,p,j,m,a,b,d,e]
   ·have e: ¬(x.to:Int)>=8:=by omega
    by_cases G:x.iK=x.to
    ·rw[afl (.inr (.inr (.inl G)))]at b;have f:decide ((x.iK:Int)=x.to)=true:=agR (by omega);simp only[F1,go_sem,simprocAttr,jF,p,j,m,a,b,d,e,f]
    ·have f: ¬(x.iK:Int)=x.to:=by omega
     by_cases F:x.aL=0
     ·rw[afl (.inr (.inr (.inr F)))]at b;have g:decide ((x.aL:Int)=0)=true:=agR (by omega);simp only[F1,go_sem,simprocAttr,jF,p,j,m,a,b,d,e,f,g]
     ·have g: ¬(x.aL:Int)=0:=by omega
      rw[afi (by omega)]at b;by_cases u:x.aR=0
      ·have i:decide (¬(x.aR:Int)=0)=false:=afv (by omega);rw[afi (λh=>h.1 u)]at b;cases hm:sJ k x.aL x.aR
       ·rw[hm]at j b;cases r:x.mu
        ·rw[r,afi (by simp)]at b;simp only[F1,go_sem,simprocAttr,jF,p,j,m,a,b,d,e,f,g,i]
        ·rw[r]at b;by_cases c:0<n
         ·have t: (n:Int)>0:=by omega
          rw[afl (.inr ⟨rfl,c⟩)]at b;simp only[F1,go_sem,simprocAttr,jF,p,j,m,a,b,d,e,f,g,i,t]
         ·have t: ¬(n:Int)>0:=by omega
          rw[afi (by simp;omega)]at b;simp only[F1,go_sem,simprocAttr,jF,p,j,m,a,b,d,e,f,g,i,t]
       ·rw[hm]at j b;rw[afl (.inl rfl)]at b;simp only[F1,go_sem,simprocAttr,jF,p,j,m,a,b,d,e,f,g,i]
      ·have i: ¬(x.aR:Int)=0:=by omega
       by_cases y:w.aL=x.aL
       ·have l:decide (¬(w.aL:Int)=x.aL)=false:=afv (by omega);by_cases v:w.to=x.iK
        ·have o:decide (¬(w.to:Int)=x.iK)=false:=afv (by omega);cases r:x.mu
         ·rw[r,afi (by simp[y,v])]at b;cases hm:sJ k x.aL x.aR
          ·rw[hm,afi (by simp)]at b;rw[hm]at j;simp only[F1,go_sem,simprocAttr,jF,p,j,m,a,b,d,e,f,g,i,l,o]
          ·rw[hm]at j b;rw[afl (.inl rfl)]at b;simp only[F1,go_sem,simprocAttr,jF,p,j,m,a,b,d,e,f,g,i,l,o]
         ·cases q:w.mu
          ·rw[r,q,afl (by simp[u])]at b;simp only[F1,go_sem,simprocAttr,jF,p,j,m,a,b,d,e,f,g,i,l,o,q]
          ·rw[r,q,afi (by simp[y,v])]at b;cases hm:sJ k x.aL x.aR
           ·rw[hm]at j b;by_cases c:0<n
            ·have t: (n:Int)>0:=by omega
             rw[afl (.inr ⟨rfl,c⟩)]at b;simp only[F1,go_sem,simprocAttr,jF,p,j,m,a,b,d,e,f,g,i,l,o,q,t]
            ·have t: ¬(n:Int)>0:=by omega
             rw[afi (by simp;omega)]at b;simp only[F1,go_sem,simprocAttr,jF,p,j,m,a,b,d,e,f,g,i,l,o,q,t]
           ·rw[hm]at j b;rw[afl (.inl rfl)]at b;simp only[F1,go_sem,simprocAttr,jF,p,j,m,a,b,d,e,f,g,i,l,o,q]
        ·have o: ¬(w.to:Int)=x.iK:=by omega
         rw[afl ⟨u,.inr (.inl v)⟩]at b;simp only[F1,go_sem,simprocAttr,jF,p,j,m,a,b,d,e,f,g,i,l,o]
       ·have l: ¬(w.aL:Int)=x.aL:=by omega
        rw[afl ⟨u,.inl y⟩]at b;simp only[F1,go_sem,simprocAttr,jF,p,j,m,a,b,d,e,f,g,i,l]
end
theorem ajb:uP.length=176:=by rfl
theorem ajc:List.drop 176 uP=[]:=by rfl
theorem ajd{k:bg}:List.drop 176 (bW k)=[]:=by rfl
theorem qe:type_of% ajb/\type_of% ajc/\type_of% @ajd/\type_of% L7/\type_of% L8:=⟨ajb,ajc,@ajd,L7,L8⟩
def au5(k:bg)(q:gz k)(x:Tok)(w:s6 x)(H:List ae)(lo:oN):
  D X (.fn (.func QK) [] []) [.agg (bW k),.agg (fB x)] ⟨H,lo⟩=some (.ret (.au [.agg (bW (lh k x).1),.int .u32 (lh k x).2.1,.int .i64 (lh k x).2.2]) ⟨H,lo⟩):=by
 refine aF BV λN r=>?_
 have hm:=au4 k q x w;have e:=λH lo=>up dj (ah3 k.b q.b H lo)
 have a:=nC x;have d:lh k x=if pW k x≠0 then(k,0,pW k x)
  else match nb k.b with
  |some i=>if i<16 then({b:=ar k.b i {k.b i with eG:=true},t:=ar k.t i x},c7 i (k.b i).gen,0)else(k,0,7)
  |none=>(k,0,7):=rfl
 by_cases c:pW k x=0
 ·rw[afi (by omega)]at d;have p:decide (¬(pW k x:Int)=0)=false:=afv (by omega);cases j:nb k.b with
  |none=>
   rw[j]at d;simp only at d;have s:=λH lo=>up dj (jJ 0 (by omega) H lo)
   have m: ∀H lo,D X (.fn (.func lO) [] []) [.int .u32 0] ⟨H,lo⟩=some (.ret (iu 0) ⟨H,lo⟩):=s;have u:iu 0= .au [.int .i64 0,.bool false]:=rfl;rw[a]at hm;rw[a];simp only[F1,go_sem,simprocAttr,BV,r,hm,p,e,sV,pT,j,m,u,qe,d]
  |some i=>
   rw[j]at d;simp only at d;obtain⟨n,A,z,y⟩:=sK j;have v:eB (c7 i (k.b i).gen)=some i:=Uc n (q.b i).1;have l:=λH lo=>up dj (jJ (c7 i (k.b i).gen) (F4 n (q.b i).1) H lo)
   by_cases h:i<16
   ·rw[afl h]at d;have f: ¬(i:Int)>=16:=by omega
    have o: (i:Int)<16:=by omega
    have g:=asN (k:={k with b:=ar k.b i {k.b i with eG:=true}}) (x:=x) h;rw[a]at hm g;rw[a];simp only[F1,go_sem,simprocAttr,BV,r,hm,p,e,sV,pT,j,l,iu,v,f,o,qe,ahC,g,d];exact⟨by simp,by omega⟩
   ·rw[afi h]at d;have f: (i:Int)>=16:=by omega
    rw[a]at hm;rw[a];simp only[F1,go_sem,simprocAttr,BV,r,hm,p,e,sV,pT,j,l,iu,v,f,qe,d]
 ·rw[afl c]at d;have p: ¬(pW k x:Int)=0:=by omega
  rw[a]at hm;rw[a];simp only[F1,go_sem,simprocAttr,BV,r,hm,p,qe,d]
def aje{k:bg}(a:gz k): ∀l,gz (ng k l):=by
 intro l
 induction l generalizing k with
 |nil=>exact a
 |cons h l b=>
  refine b ⟨F5 a.b h,λi c=>?_,a.t⟩;refine a.lt i ?_;revert c;show((eh k.b h).1 i).eG=true->_;unfold eh;split
  ·show(ar k.b (aM h) (ri (k.b (aM h))) i).eG=true->_;by_cases e:i=aM h
   ·rw[e,cT];unfold ri;grind
   ·rw[di e];exact id
  grind
def au6{k:bg}{l:lN}(h:n<l.length):ng k (l.take (n+1))={ng k (l.take n)with b:=(eh (ng k (l.take n)).b (l.getD n default)).1}:=by
 unfold ng;rw[ait,afu h,aoH,getD_eq h];rfl
def ajf(k:bg)(r:gz k)(w:AV)(l:lN)(H:List ae)(c:Rd ⟨H,none⟩ w 1 (l.map hC))(q: ∀h∈l,h<4294967296)(p:l.length<2^40)(lo:oN):
  D X (.fn (.func JD) [] []) [.agg (bW k),w] ⟨H,lo⟩=some (.ret (.agg (bW (ng k l))) ⟨H,lo⟩):=by
 refine aF Tk λN t=>?_
 have a: ∀L lo,fj ⟨H++L,lo⟩ .sl w=some (.int .i64 l.length):=λL lo=>(c.ext (L:=L) (ak:=lo)).bK
 simp only[go_sem,simprocAttr,Tk,t,a];refine dU l.length (λn e H'=>H'=H++[.box (bW (ng k (l.take n))) none,.box uP none]/\e 2= .ptr N 0/\e 4= .ptr (N+1) 0/\e 7=w/\e 8= .int .i64 l.length/\e 9= .int .i64 n) 0 (by omega) ?_ ?_
 ·trivial
 rintro n x e H' ⟨rfl,j,i,e7,e8,g⟩ v o;simp(disch:=omega) only[bR,F1,go_sem,simprocAttr,agJ,j,i,e7,e8,g];refine⟨λs=>?_,λs=>?_⟩
 ·have b:n<l.length:=by omega
  have f:=aje r (l.take n);have m:=λH lo=>up dj (ah4 (ng k (l.take n)).b f.b (l.getD n default) (q _ (eX b)) H lo)
  have d:=au6 (k:=k) b;have u: ∀L lo,cg X ⟨H++L,lo⟩ false 1 (fu w n 0)=some (.int .u32 (l.getD n default:Nat)):=λL lo=>by rw[(c.ext (L:=L) (ak:=lo)).cE b,pH]
  simp(disch:=omega) only[go_sem,simprocAttr,c.ck,u,m,zD,ahC,j,i,e7,e8,g];exact⟨by omega,b,by rw[d]⟩
 ·obtain rfl:n=l.length:=by omega
  rw[ag4];simp only[go_sem,simprocAttr,qe]
def au7(k:bg)(c:gz k)(a:Nat)(H:List ae)(lo:oN):
  D X (.fn (.func QX) [] []) [.agg (bW k),.int .u32 a] ⟨H,lo⟩=some (.ret (.agg (bW (L3 k a))) ⟨H,lo⟩):=by
 refine aF Td λN d=>?_
 obtain⟨w,e1,e,e3⟩:=Vm k c a (H++[.box (bW k) none,.box uP none]) none;have b:=λH lo=>ajf k c w (nf k a) H (e _) (λh hm=>gg ((jh c.b).1 (air.1 hm).1)) (by have:=nd k.b;have: (nf k a).length<=_:=amt _ _;omega) lo
 have f:ng k (nf k a)=L3 k a:=rfl;simp only[F1,go_sem,simprocAttr,Td,d,e1,b,qe,f]
def nD(h:Nat):AV×AV:=(.int .u32 h,.bool true)
def mP(a:lN)(k:Nat):lN:=if k∈a then a else a++[k]
def ajg(a b:Nat):oW (.int .u32 a) (.int .u32 b)=some (decide (a=b)):=by
 have h:oW (.int .u32 (a:Nat)) (.int .u32 (b:Nat))=some ((a:Int)==(b:Int)):=rfl;rw[h]
 congr 1
 grind
theorem ajh(k:Nat): ∀b:lN,dR (.int .u32 k) (b.map nD)=some (if k∈b then some (.bool true)else none)
 | []=>rfl
 |a::b=>by
  simp only[anw,nD,dR,ajg];by_cases h:k=a
  ·grind
  ·simp only[h,aCM,aiK,false_or];exact ajh k b
theorem aji(k:Nat): ∀b:lN,lH (.int .u32 k) (.bool true) (b.map nD)=some ((mP b k).map nD)
 | []=>rfl
 |a::b=>by
  simp only[anw,nD,lH,ajg];unfold mP;by_cases h:k=a
  ·subst h;simp[nD]
  ·simp only[h,aCM,aiK,false_or];rw[aji k b];unfold mP;split<;>rfl
def au8{gm:Nat->Option (List (AV×AV))}{H:List ae}{id:Nat}{a:lN}(h:H[id]?=some (.map (a.map nD)))(k:Nat):gQ gm ⟨H,lo⟩ .int (.bool false) (.mp id) (.int .u32 k) false=some (.bool (a.contains k)):=by
 unfold gQ;rw[afl (show kM .int (.int .u32 (k:Nat))=true from rfl)];simp only[mapOf,h,ajh]
 grind
def au9{H:List ae}{id:Nat}{a:lN}(h:H[id]?=some (.map (a.map nD)))(k:Nat):mf ⟨H,lo⟩ .int (.mp id) (.int .u32 k) (.bool true)=some ⟨H.set id (.map ((mP a k).map nD)),lo⟩:=by
 unfold mf;simp only[h,aji];rfl
theorem ava{a:lN}{k:Nat}:x∈mP a k↔x=k\/x∈a:=by
 unfold mP
 grind
def avb{l:lN}: ∀ {b:lN} {x:Nat},x∈l.foldl mP b↔x∈l\/x∈b:=by
 induction l with
 |nil=>simp
 |cons a l c=>grind [ava]
def xB(k:bg):Nat->Nat->Prop
 |0,_=>False
 |n+1,h=> ∀x∈Uz k h,xB k n x
def dk(k:bg)(N:Nat)(H:List ae)(m:lN):List ae:=H++[.box (bW k) none,.box uP none,.map (m.map nD),.box [.mp (N+2)] none,.box [.fn (.func Bh) [] [.ptr (N+3) 0,.ptr N 0,.ptr (N+4) 0]] none]
def Cn{k:bg}{N:Nat}{H:List ae}(a:H.length=N)(m:lN): (dk k N H m).length=N+5:=by simp[dk,a]
def avc(h:Nat)(x:Tok)(p:Nat)(H:List ae)(a:H[p]?=some (.box [.int .u32 (h:Nat)] none))(lo:oN):
  D X (.fn (.func JC) [] [.ptr p 0]) [.agg (fB x)] ⟨H,lo⟩=some (.ret (.bool (decide (x.aR=h))) ⟨H,lo⟩):=by
 refine eP Tj λN b=>?_
 have c: ∀L,(H++L)[p]?=_:=λL=>bh a
 simp only[F1,go_sem,simprocAttr,Tj,b,nC,c];exact da (akp AV.bool (ahb.2 (by omega))) rfl
def avd(k:bg)(A:gz k)(N:Nat)(H:List ae)(d:H.length=N): ∀ (n h:Nat),h<4294967296->xB k n h-> ∀ (m:lN) (L:List ae),
  D X (.fn (.func Bh) [] [.ptr (N+3) 0,.ptr N 0,.ptr (N+4) 0]) [.int .u32 h] ⟨dk k N H m++L,none⟩=some (.ret (.au []) ⟨dk k N H ((nh k n h).foldl mP m)++L,none⟩):=by
 intro n
 induction n with
 |zero=>intro h _ u;exact u.elim
 |succ n C=>
  intro h R u m L;refine eP Ti λM B=>?_
  have g:M=N+5+L.length:=by rw[<-B,agU,Cn d]
  have O: ∀m a,(dk k N H m++a)[N]?=some (.box (bW k) none):=λm a=>by unfold dk;rw[afq,dh d];rfl
  have g2: ∀m a,(dk k N H m++a)[N+2]?=some (.map (m.map nD)):=λm a=>by unfold dk;rw[afq,bz d];rfl
  have K: ∀m a,(dk k N H m++a)[N+3]?=some (.box [.mp (N+2)] none):=λm a=>by unfold dk;rw[afq,bz d];rfl
  have J: ∀m a,(dk k N H m++a)[N+4]?=some (.box [.fn (.func Bh) [] [.ptr (N+3) 0,.ptr N 0,.ptr (N+4) 0]] none):=λm a=>by unfold dk;rw[afq,bz d];rfl
  have gm: ∀m o,(dk k N H m++(L++[o]))[M]?=some o:=λm o=>by
   have:M=(dk k N H m++L).length:=by rw[g,agU,Cn d]
   rw[<-afq,this];simp
  have s2: ∀m m' a,(dk k N H m++a).set (N+2) (.map (m'.map nD))=dk k N H m'++a:=λm m' a=>by unfold dk;rw[afq,m0 d,afq];rfl
  have tk: ∀m o,(dk k N H m++(L++[o])).take M=dk k N H m++L:=λm o=>by
   rw[<-afq];exact ape (by rw[g,agU,Cn d])
  have v: ∀m a lo,mf ⟨dk k N H m++a,lo⟩ .int (.mp (N+2)) (.int .u32 (h:Nat)) (.bool true)=some ⟨dk k N H (mP m h)++a,lo⟩:=λm a lo=>by rw[au9 (g2 m a),s2]
  obtain⟨w,e1,r,e3⟩:=Mt (S:=Unit) k A (.fn (.func JC) [] [.ptr M 0]) (λx=>decide (x.aR=h)) (λs _=>s) () (M+1) (λ_=>dk k N H (mP m h)++(L++[.box [.int .u32 h] none])) (λ_=>by rw[g,agU,Cn d];simp;omega)
   (λs x a _=>avc h x M _ (bh (gm _ _)) none) none
  simp only[go_sem,simprocAttr,Ti,B,O,K,gm,v,e1,r.bK,afq];obtain⟨b,c⟩: ∃b,b=Uz k h:=⟨_,rfl⟩;have i:sI k (λx=>decide (x.aR=h))=b:=c.symm;rw[i]at r⊢;have F:b.length<=32:=by rw[c];exact ajR (amt _ _) (nd k.b)
  have z: ∀j,j<b.length->(b.take (j+1)).flatMap (nh k n)=(b.take j).flatMap (nh k n)++nh k n (b.getD j default):=λj y=>by
   rw[ait,afu y,aps,getD_eq y];simp
  refine dU b.length (λj e H'=>H'=dk k N H (((b.take j).flatMap (nh k n)).foldl mP (mP m h))++(L++[.box [.int .u32 h] none])/\e 3= .ptr (N+4) 0/\e 11=w/\e 12= .int .i64 b.length/\e 13= .int .i64 j) 0 (by omega) ?_ ?_
  ·simp only[go_sem,simprocAttr];simp
  rintro j y e H' ⟨rfl,P,q,p,l⟩ Q E;simp only[bR,F1,go_sem,simprocAttr,agI,q,p,l];refine⟨λI=>?_,λI=>?_⟩
  ·have f:j<b.length:=by omega
   have hm:=eX f;have t:ax k.b (b.getD j default)=true:=(jh A.b).1 (by rw[c]at hm⊢;exact(air.1 hm).1);have G:=C (b.getD j default) (gg t) (u _ (by rw[c]at hm⊢;exact hm)) (((b.take j).flatMap (nh k n)).foldl mP (mP m h)) (L++[.box [.int .u32 h] none]);simp(disch:=omega) only[go_sem,simprocAttr,r.ck,r.cE,↓pH,P,q,p,l,J,G];refine⟨by omega,f,?_⟩;rw[z j f,aoH]
  ·obtain rfl:j=b.length:=by omega
   rw[ag4];simp only[go_sem,simprocAttr,tk];rw[c];rfl
def xC(k:bg)(h n:Nat):lN:=((bn k.b).take n).filter λx=>(nh k 16 h).contains x
def ave{k:bg}(a:n< (bn k.b).length):xC k h (n+1)=if(nh k 16 h).contains ((bn k.b).getD n default)then xC k h n++[(bn k.b).getD n default]else xC k h n:=by
 unfold xC;rw[ait,afu a,ayv,getD_eq a]
 grind
theorem avf{k:bg}: (xC k h n).length<=n:=ajR (amt _ _) (by grind)
def ajj(k:bg)(A:gz k)(h:Nat)(Y:h<4294967296)(ht:ax k.b h=true->xB k 16 h)(H:List ae)(lo:oN):
  ∃w,D X (.fn (.func Eh) [] []) [.agg (bW k),.int .u32 h] ⟨H,lo⟩=some (.ret (.au [.agg (bW (mJ k h).1),w,.int .i64 (mJ k h).2.2]) ⟨H,lo⟩):=by
 suffices hs: ∃z,D X (.fn (.func Eh) [] []) [.agg (bW k),.int .u32 h] ⟨H,lo⟩=some z/\ (λz=> ∃w,z=aS.ret (.au [.agg (bW (mJ k h).1),w,.int .i64 (mJ k h).2.2]) ⟨H,lo⟩) z by
  obtain⟨z,h1,w,rfl⟩:=hs;exact⟨w,h1⟩
 refine cz LB λN c=>?_
 have j:=λH lo=>up dj (en k.b h Y H lo)
 cases y:ax k.b h with
 |false=>
  rw[y]at j;have V:mJ k h=(k,[],4):=by unfold mJ;rw[y];rfl
  simp only[F1,go_sem,simprocAttr,LB,c,j,qe,V];exact⟨_,rfl⟩
 |true=>
  rw[y]at j;have V:mJ k h=(ng k (rk k h),rk k h,0):=by unfold mJ;rw[y];rfl
  have B:=avd k A N H c 16 h Y (ht y) [] [];have F: ∀m,dk k N H m=H++[.box (bW k) none,.box uP none,.map (m.map nD),.box [.mp (N+2)] none,.box [.fn (.func Bh) [] [.ptr (N+3) 0,.ptr N 0,.ptr (N+4) 0]] none]:=λ_=>rfl
  rw[aip,aip,F []]at B;obtain⟨m,hm⟩: ∃m,m=(nh k 16 h).foldl mP []:=⟨_,rfl⟩;rw[<-hm]at B;obtain⟨v,J,i1,i2⟩:=U1 k.b A.b (N+5) (dk k N H m) (Cn c m) none;have C:D X (.fn (.func iG) [] []) [.agg (bY k.b)] ⟨dk k N H m,none⟩=some _:=sX (p:=l6) rfl i1;have g0: ∀d,(dk k N H m++d)[N]?=some (.box (bW k) none):=λd=>by unfold dk;rw[afq,dh c];rfl
  have g:=(l7 i2 none).bK;have I:max (N+3+1) (max (N+1) (N+4+1))<=N+4+1:=by omega
  simp only[ayu]at B;have P:N<=N+1:=Nat.le_succ N;have R: (dk k N H m)[N]?=some (.box (bW k) none):=by have:=g0 [];rwa[aip]at this
  simp only[go_sem,simprocAttr,LB,c,j,B,C,g,I,P,R];have g1: ∀d,(dk k N H m++d)[N+1]?=some (.box uP none):=λd=>by unfold dk;rw[afq,bz c];rfl
  have g2: ∀d,(dk k N H m++d)[N+2]?=some (.map (m.map nD)):=λd=>by unfold dk;rw[afq,bz c];rfl
  have Z: ∀d,(dk k N H m++d)[N+3]?=some (.box [.mp (N+2)] none):=λd=>by unfold dk;rw[afq,bz c];rfl
  have K: ∀x,m.contains x=(nh k 16 h).contains x:=λx=>by
   rw[apk,auI,auI,hm,avb];simp
  have r8:=nd k.b;refine dU (bn k.b).length (λn e H'=> ∃L,H'=dk k N H m++(J++L)/\ (∃l,e 9=l/\aQ (N+5+J.length) H' l 1 bZ ((xC k h n).map hC))/\e 2= .ptr N 0/\e 4= .ptr (N+1) 0/\e 7= .ptr (N+3) 0/\e 25=v/\e 26= .int .i64 (bn k.b).length/\e 27= .int .i64 n) 0 (by omega) ?_ ?_
  ·simp only[go_sem,simprocAttr];exact⟨[],by simp,_,rfl,aQ.ai⟩
  rintro n hn e H' ⟨L,rfl,⟨l,S,a⟩,U,T,e7,t,s,r⟩ n' Hn;simp only[bR,go_sem,simprocAttr,agz,U,t,s,r];refine⟨λhc=>?_,λhc=>?_⟩
  ·have i:n< (bn k.b).length:=by omega
   have b:=ave (k:=k) (h:=h) i;have o:Rd ⟨dk k N H m++(J++L),none⟩ v 1 ((bn k.b).map hC):=l7 (by have:=i2.ext (L:=L);rwa[afq]at this) none;have Q:=o.cE (X:=X) (off:=0) (n:=1) (agg:=false) i;rw[pH]at Q;generalize(bn k.b).getD n default=x at*;have f: ∀gm,gQ gm ⟨dk k N H m++(J++L),none⟩ .int (.bool false) (.mp (N+2)) (.int .u32 (x:Nat)) false=some (.bool ((nh k 16 h).contains x)):=λgm=>by rw[au8 (g2 _),K]
   have r7:=avf (k:=k) (h:=h) (n:=n);cases W: (nh k 16 h).contains x
   ·rw[W]at f b;simp(disch:=omega) only[go_sem,simprocAttr,U,T,e7,S,t,s,r,o.ck,Q,Z,f];rw[afi (by simp)]at b;exact⟨by omega,i,L,rfl,l,rfl,by rw[b];exact a⟩
   ·rw[W]at f b;simp only[go_sem,simprocAttr,e7,S,o.ck,Q,Z,f];refine⟨by omega,o9 (H0:=dk k N H m++J) (ys:=[[.int .u32 (x:Nat)]]) a ⟨_,afq _ _ _⟩ (by rw[agU,Cn c]) (by omega) (by intro el O;rw[agV.1 O];rfl) rfl (by unfold room;simp;omega) λv' H2 q G=>?_⟩;obtain⟨L2,rfl⟩:=G;simp(disch:=omega) only[go_sem,simprocAttr,U,T,e7,t,s,r];rw[afl rfl]at b;refine⟨i,L2,by simp,v',rfl,?_⟩;rw[b,ag9];rwa[afq]at q
  ·obtain rfl:n=(bn k.b).length:=by omega
   have M:xC k h (bn k.b).length=rk k h:=by unfold xC rk;rw[ag4]
   rw[M]at a;have E:=ajf k A l (rk k h) (dk k N H m++(J++L)) (l7 a none) (λx hx=>gg ((jh A.b).1 (air.1 hx).1)) (by have: (rk k h).length<=_:=amt _ _;omega) none;simp only[go_sem,simprocAttr,T,S,g0,g1,E,qe,cN (g1 _)];have u:j4 N H (dk k N H m++(J++L)):=by unfold dk;rw[afq];exact j4.app c
   have ho:aQ N ((dk k N H m++(J++L)).set (N+1) (ae.box (bW (ng k (rk k h))) none)) l 1 bZ ((rk k h).map hC):=aQ.nA (aQ.le a (by omega)) (g1 _);rw[V,aiO (.inl rfl) ho ?_ ?_ ?_]
   ·exact⟨bt l ((rk k h).map hC),da rfl ((u.set (by omega)).take c)⟩
   ·rw[bA (λ_=>rfl)];omega
   ·simp[AV.refs,LX]
   ·simp[AV.refs]
end Go.Proofs.YteplichagkpciaaGreatDoor
