/- What functions do; conditions as stated. -/
import Derived.Test.YteplichagkpciaaGreatDoorC
import Derived.Test.YteplichagkpciaaGreatDoorD2
set_option linter.all false
set_option maxRecDepth 10000
set_option maxHeartbeats 1000000
namespace Go.Proofs.YteplichagkpciaaGreatDoor
open Go Go.Den
variable{α:Type}{f:FuncId}{i j n sz h a x p aj b aa:Nat}{v:AV}{l:List α}{pf:PF}{lo ak:oN}{af:List lA}{M:List ae}
def abi:=@decide_eq_false
def abj:=@decide_eq_true
def ahc:=@List.mem_singleton
def ajF:=@decide_eq_decide
def ajT:=@Bool.false_and
def ajZ:=@List.length_filter_le
def ald:=@List.mem_cons_self
def amC:=@List.set_set
def apf:=@List.length_pos_iff
def apm:=@List.foldl_append
def ap8:=@Bool.eq_iff_iff
def aqo:=@Int.natCast_add
def aqv:=@List.findIdx?_eq_some_iff_getElem
def arK:=@Int.cast_ofNat_Int
def ar0:=@List.prefix_rfl
def atS:=@List.map_eq_nil_iff
def aud:=@Bool.and_false
def auk:=@List.getElem_of_mem
def auo:=@List.filter_append
def auS:=@Option.isSome_some
def auW:=@Option.isSome_none
def aBB:=@Bool.not_false
def aB7:=@Nat.xor_lt_two_pow
def aCe:=@eq_true
def aDJ:=@Nat.and_two_pow_sub_one_eq_mod
def aq{α:Type}(f:Nat->α)(i:Nat)(x:α):Nat->α:=λj=>if j=i then x else f j
theorem cZ{f:Nat->α}{x:α}:aq f i x i=x:=aaR rfl
theorem ds{f:Nat->α}{x:α}(h:j≠i):aq f i x j=f j:=aaH h
def mS{f:Nat->α}:aq f i (f i)=f:=by
 unfold aq;grind
def ua{f:Nat->α}{x y:α}:aq (aq f i x) i y=aq f i y:=by
 unfold aq;grind
def qi{β:Type}(g:α->β)(f:Nat->α)(i:Nat)(x:α): (λj=>g (aq f i x j))=aq (λj=>g (f j)) i (g x):=by
 unfold aq;grind
def arr(n:Nat)(f:Nat->lA):lA:=(List.range n).flatMap f
theorem zY(n:Nat)(f:Nat->lA):arr (n+1) f=arr n f++f n:=by
 simp[arr,arI]
theorem zZ{k:Nat}{f:Nat->lA}(h: ∀i,(f i).length=k): ∀n,(arr n f).length=n*k
 |0=>by simp[arr]
 |n+1=>by rw[zY,ahU,zZ h n,h,asr]
theorem CU{f g:Nat->lA}: ∀ {n:Nat},(∀i,i<n->f i=g i)->arr n f=arr n g
 |0,_=>rfl
 |n+1,h=>by rw[zY,zY,CU (n:=n) λi j=>h i (by omega),h n (by omega)]
def avB(n m:Nat)(f:Nat->lA):arr (n+m) f=arr n f++arr m (λj=>f (n+j)):=by
 induction m with
 |zero=>simp[arr]
 |succ m h=>grind [Nat.add_assoc,zY,List.append_assoc]
def WJ{f:Nat->lA}(h:i<n):arr n f=arr i f++(f i++arr (n-i-1) λj=>f (i+1+j)):=by
 obtain⟨m,rfl⟩: ∃m,n=i+1+m:=⟨n-i-1,by omega⟩;rw[avB,zY,aaS,show i+1+m-i-1=m by omega]
theorem NX{f:Nat->lA}(h: ∀i,aG (f i)=0): ∀n,aG (arr n f)=0
 |0=>rfl
 |n+1=>by
  rw[zY];have: ∀a b:lA,aG (a++b)=max (aG a) (aG b):=by
   intro a b
   induction a with
   |nil=>rfl
   |cons x a j=>simp[aG,j,Nat.max_assoc]
  rw[this,NX h n,h];rfl
def Hf(a b:lA):aG (a++b)=max (aG a) (aG b):=by
 induction a with
 |nil=>rfl
 |cons x a f=>simp[aG,f,Nat.max_assoc]
section
variable{ag:Bool}{m off:Nat}{a r vs:lA}
theorem ko(h:a.length<=off):Den.part ag m (a++r) off=Den.part ag m r (off-a.length):=by
 unfold Den.part;cases ag
 ·grind
 ·grind [List.drop_append,List.drop_eq_nil_of_le,List.length_append]
theorem rK(h:off+m<=a.length)(f:0<m):Den.part ag m (a++r) off=Den.part ag m a off:=by
 unfold Den.part
 grind
theorem Hg(h:a.length=m):Den.part true m a 0=some (.agg a):=by
 unfold Den.part
 grind
def jM{k o:Nat}{f:Nat->lA}(h: ∀i,(f i).length=k)(j:i<n)(ho:o+m<=k)(l:0<m):Den.part ag m (arr n f) (i*k+o)=Den.part ag m (f i) o:=by
 rw[WJ j,ko (by rw[zZ h];omega),zZ h,show i*k+o-i*k=o by omega,rK (by grind) l]
def gy(h:a.length<=off):aH (a++r) off vs=a++aH r (off-a.length) vs:=by
 unfold aH;rw[axI,abk h,auG,ajX (by omega),ajS,aaS,show off+vs.length-a.length=off-a.length+vs.length by omega]
def rL(h:off+vs.length<=a.length):aH (a++r) off vs=aH a off vs++r:=by
 unfold aH
 grind
def rM(h:a.length=vs.length):aH a 0 vs=vs:=by
 unfold aH
 grind
def mT{k o:Nat}{f:Nat->lA}(h: ∀i,(f i).length=k)(l:i<n)(ho:o+vs.length<=k):aH (arr n f) (i*k+o) vs=arr n (aq f i (aH (f i) o vs)):=by
 have e1:arr i (aq f i (aH (f i) o vs))=arr i f:=CU λj q=>ds (by omega)
 have p: (arr (n-i-1) λj=>aq f i (aH (f i) o vs) (i+1+j))=arr (n-i-1) λj=>f (i+1+j):=CU λj _=>ds (by omega)
 rw[WJ (f:=aq f i (aH (f i) o vs)) l,cZ,e1,p];rw[WJ l,gy (by rw[zZ h];omega),zZ h,show i*k+o-i*k=o by omega,rL (by grind)]
end
def WK{ag:Bool}{k:Nat}{cs:lA}(f:k<n)(h:Den.part ag sz cs (k*sz)=some v):qP ag n sz (.agg cs) (.int .i64 k)=some v:=by
 have:qP ag n sz (.agg cs) (.int .i64 k)=if 0<=(k:Int)/\ (k:Int)<n then Den.part ag sz cs ((k:Int).toNat*sz)else none:=rfl
 grind
theorem ajz{id off:Nat}:Den.lZ n (.ptr id off)= .rd id off (Nat.max n 1):=rfl
theorem ajA{id off:Nat}:Jn n (.ptr id off)= .wr id off n:=rfl
@[irreducible]def cat (H L:List ae):List ae:=H++L
section
variable{H L M:List ae}{a b c d e g x:ae}{n:Nat}
theorem dY:cat H L=H++L:=by unfold cat;rfl
def Hh: (cat H L).length=H.length+L.length:=by rw[dY,ahU]
def WL:cat H L++M=cat H (L++M):=by rw[dY,dY,aaS]
def ct2(h:H.length=n): (cat H L++M).take n=H:=by rw[dY,aaS];grind
def ct1(h:H.length=n): (cat H L).take n=H:=by rw[dY];grind
def cg0(h:H.length=n): (cat H (a::L)++M)[n]?=some a:=by rw[dY,aaS,dn h];rfl
def Rm(h:H.length=n): (cat H (a::L)++M).set n x=cat H (x::L)++M:=by grind [dY,List.append_assoc,EC]
def cp0(h:H.length=n): (cat H (a::L))[n]?=some a:=by rw[dY,dn h];rfl
def cq0(h:H.length=n): (cat H (a::L)).set n x=cat H (x::L):=by grind [dY,EC]
def cg1(h:H.length=n): (cat H (a::b::L)++M)[n+1]?=some b:=by rw[dY,aaS,bw h];rfl
def cs1(h:H.length=n): (cat H (a::b::L)++M).set (n+1) x=cat H (a::x::L)++M:=by grind [dY,List.append_assoc,nd]
def cp1(h:H.length=n): (cat H (a::b::L))[n+1]?=some b:=by rw[dY,bw h];rfl
def cq1(h:H.length=n): (cat H (a::b::L)).set (n+1) x=cat H (a::x::L):=by grind [dY,nd]
def cg2(h:H.length=n): (cat H (a::b::c::L)++M)[n+2]?=some c:=by rw[dY,aaS,bw h];rfl
def cs2(h:H.length=n): (cat H (a::b::c::L)++M).set (n+2) x=cat H (a::b::x::L)++M:=by grind [dY,List.append_assoc,nd]
def cp2(h:H.length=n): (cat H (a::b::c::L))[n+2]?=some c:=by rw[dY,bw h];rfl
def cq2(h:H.length=n): (cat H (a::b::c::L)).set (n+2) x=cat H (a::b::x::L):=by grind [dY,nd]
def cg3(h:H.length=n): (cat H (a::b::c::d::L)++M)[n+3]?=some d:=by rw[dY,aaS,bw h];rfl
def cs3(h:H.length=n): (cat H (a::b::c::d::L)++M).set (n+3) x=cat H (a::b::c::x::L)++M:=by grind [dY,List.append_assoc,nd]
def cp3(h:H.length=n): (cat H (a::b::c::d::L))[n+3]?=some d:=by rw[dY,bw h];rfl
def cq3(h:H.length=n): (cat H (a::b::c::d::L)).set (n+3) x=cat H (a::b::c::x::L):=by grind [dY,nd]
def cg4(h:H.length=n): (cat H (a::b::c::d::e::L)++M)[n+4]?=some e:=by rw[dY,aaS,bw h];rfl
def cs4(h:H.length=n): (cat H (a::b::c::d::e::L)++M).set (n+4) x=cat H (a::b::c::d::x::L)++M:=by grind [dY,List.append_assoc,nd]
def cp4(h:H.length=n): (cat H (a::b::c::d::e::L))[n+4]?=some e:=by rw[dY,bw h];rfl
def cq4(h:H.length=n): (cat H (a::b::c::d::e::L)).set (n+4) x=cat H (a::b::c::d::x::L):=by grind [dY,nd]
def cg5(h:H.length=n): (cat H (a::b::c::d::e::g::L)++M)[n+5]?=some g:=by rw[dY,aaS,bw h];rfl
def cs5(h:H.length=n): (cat H (a::b::c::d::e::g::L)++M).set (n+5) x=cat H (a::b::c::d::e::x::L)++M:=by grind [dY,List.append_assoc,nd]
def cp5(h:H.length=n): (cat H (a::b::c::d::e::g::L))[n+5]?=some g:=by rw[dY,bw h];rfl
def cq5(h:H.length=n): (cat H (a::b::c::d::e::g::L)).set (n+5) x=cat H (a::b::c::d::e::x::L):=by grind [dY,nd]
end
structure Slot where
 gen:Nat
 eU:Bool
 ret:Bool
 deriving DecidableEq,Inhabited
abbrev cM:=Nat->Slot
def iL(s:Slot):lA:=[.int .u32 s.gen,.bool s.eU,.bool s.ret]
def ca(b:cM):lA:=arr 32 λi=>iL (b i)
theorem NY(s:Slot): (iL s).length=3:=rfl
theorem oJ(b:cM): (ca b).length=96:=by rfl
theorem WM(b:cM):aG (ca b)=0:=by rfl
section
variable{b:cM}{i:Nat}
theorem WN:Den.part true 96 (ca b) 0=some (.agg (ca b)):=by rfl
def aj0(h:i<32):Den.part true 3 (ca b) (i*3)=some (.agg (iL (b i))):=jM (k:=3) (o:=0) (f:=λi=>iL (b i)) (λi=>NY (b i)) h (by omega) (by omega)
def WO(h:i<32):qP true 32 3 (.agg (ca b)) (.int .i64 i)=some (.agg (iL (b i))):=WK h (aj0 h)
def aj1(h:i<32):Den.part false 1 (ca b) (i*3)=some (.int .u32 (b i).gen):=jM (k:=3) (o:=0) (f:=λi=>iL (b i)) (λi=>NY (b i)) h (by omega) (by omega)
def aj2(h:i<32):Den.part false 1 (ca b) (i*3+1)=some (.bool (b i).eU):=jM (k:=3) (o:=1) (f:=λi=>iL (b i)) (λi=>NY (b i)) h (by omega) (by omega)
def WQ{s:Slot}{o:Nat}{vs:lA}(h:i<32)(ho:o+vs.length<=3)(j:aH (iL (b i)) o vs=iL s):aH (ca b) (i*3+o) vs=ca (aq b i s):=by
 unfold ca;rw[mT (k:=3) (f:=λi=>iL (b i)) (λi=>NY (b i)) h ho,j,qi]
theorem avC{g:Nat}(h:i<32):aH (ca b) (i*3) [.int .u32 g]=ca (aq b i {b i with gen:=g}):=WQ (o:=0) h (by simp) rfl
def avD{g:Nat}(h:i<32):aH (ca b) (i*3) [.int .u32 ((g:Int)+1)]=ca (aq b i {b i with gen:=g+1}):=avC (g:=g+1) h
theorem aj3{v:Bool}(h:i<32):aH (ca b) (i*3+1) [.bool v]=ca (aq b i {b i with eU:=v}):=WQ (o:=1) h (by simp) rfl
theorem avE{v:Bool}(h:i<32):aH (ca b) (i*3+2) [.bool v]=ca (aq b i {b i with ret:=v}):=WQ (o:=2) h (by simp) rfl
theorem aj4: (ca b).take 96=ca b:=by rfl
end
def eK(h:Nat):oN:=if 1<=h % 256/\h % 256<=32/\h/256<=8388607 then some (h % 256-1)else none
def dg(i f:Nat):Nat:=f*256+i+1
def aj5(e:eK h=some i):i<32:=by
 unfold eK at e;grind
def WR{f:Nat}(h:i<32)(j:f<=8388607):eK (dg i f)=some i:=by
 unfold eK dg
 grind
def aj6{a b c:lA}(h:b=c):a++b=a++c:=by rw[h]
def aGy{a b c:lA}(h:b=c):b++a=c++a:=by rw[h]
abbrev aE:=Nat×Nat
structure dk where
 up:Nat
 dC:Nat
 runs:List aE
 len:Nat
 cells:Nat->Nat
structure aw where
 b:cM
 r:Nat->dk
structure Ow where
 kind:Nat
 aa:Nat
 hold:Nat
 deriving DecidableEq
structure Sd where
 root:Nat
 own:Ow
 deriving DecidableEq
abbrev bQ:=Nat->Sd
structure Tok where
 aL:Nat
 iS:Nat
 to:Nat
 mu:Bool
 aR:Nat
 deriving DecidableEq
structure bh where
 b:cM
 t:Nat->Tok
structure kp where
 fr:Nat
 word:Nat
 aL:Nat
 share:Bool
 deriving DecidableEq
structure cS where
 ring:Nat->kp
 fr:Nat
 n:Nat
 closed:Bool
structure bI where
 T:aw
 O:bQ
 K:bh
 dh:Nat->cS
 alive:Nat->Bool
 born:Nat->Bool
structure cz where
 op:Nat
 r:Nat
 s:Nat
 a:Nat
 b:Nat
 v:Nat
 deriving DecidableEq
structure bF where
 e:Nat
 v:Nat
 w:Nat
 deriving DecidableEq
def ay(r:aE):lA:=[.int .i64 (r.1:Nat),.int .i64 (r.2:Nat)]
def eA(l:List aE):AV:=if l.isEmpty then .ai else .sl (l.map ay) false
def bW(r:dk):lA:=[.int .u32 r.up,.int .i64 r.dC,eA r.runs,.int .i64 r.len]++arr 8 λi=>[.int .u32 (r.cells i)]
def xF(f:Nat->dk):lA:=arr 32 λi=>bW (f i)
def aI(t:aw):lA:=ca t.b++xF t.r
def jN(o:Ow):lA:=[.int .u8 o.kind,.int .u8 o.aa,.int .u8 o.hold]
def ub(x:Sd):lA:=[.int .u32 x.root,.int .u8 x.own.kind,.int .u8 x.own.aa,.int .u8 x.own.hold]
def cN(o:bQ):lA:=arr 32 λi=>ub (o i)
def fJ(x:Tok):lA:=[.int .u32 x.aL,.int .u8 x.iS,.int .u8 x.to,.bool x.mu,.int .u32 x.aR]
def Hi(f:Nat->Tok):lA:=arr 16 λi=>fJ (f i)
def b0(k:bh):lA:=ca k.b++Hi k.t
def eB(m:kp):lA:=[.int .u8 m.fr,.int .u64 m.word,.int .u32 m.aL,.bool m.share]
def NZ(f:Nat->kp):lA:=arr 4 λi=>eB (f i)
def cA(b:cS):lA:=NZ b.ring++[.int .i64 b.fr,.int .i64 b.n,.bool b.closed]
def z0(f:Nat->cS):lA:=arr 8 λi=>cA (f i)
def uc(f:Nat->Bool):lA:=arr 8 λi=>[.bool (f i)]
def gl(T:aw)(O:bQ)(K:bh):lA:=aI T++(cN O++b0 K)
def bB(s:bI):lA:=aI s.T++(cN s.O++(b0 s.K++(z0 s.dh++(uc s.alive++uc s.born))))
def bg(c:cz):lA:=[.int .u8 c.op,.int .u32 c.r,.int .u32 c.s,.int .u32 c.a,.int .u32 c.b,.int .u64 c.v]
def bG(r:bF):lA:=[.int .i64 r.e,.int .u64 r.v,.int .u32 r.w]
theorem z5(r:dk): (bW r).length=12:=by rfl
theorem aGz(f:Nat->dk): (xF f).length=384:=by rfl
theorem iz(t:aw): (aI t).length=480:=by rfl
theorem ud(o:bQ): (cN o).length=128:=by rfl
theorem aGA(f:Nat->Tok): (Hi f).length=80:=by rfl
theorem z6(k:bh): (b0 k).length=176:=by rfl
theorem aj7(f:Nat->kp): (NZ f).length=16:=by rfl
theorem z7(b:cS): (cA b).length=19:=by rfl
theorem qj(f:Nat->cS): (z0 f).length=152:=by rfl
theorem Hj(f:Nat->Bool): (uc f).length=8:=by rfl
theorem lr(T:aw)(O:bQ)(K:bh): (gl T O K).length=784:=by simp only[gl,ahU,iz,ud,z6]
def fe(s:bI): (bB s).length=952:=by simp only[bB,ahU,iz,ud,z6,qj,Hj]
def WS(l:List aE): (eA l).refs=0:=by
 unfold eA;split
 ·rfl
 ·exact bz (λ_=>rfl) l
def avF{g:Nat->AV}(h: ∀i,(g i).refs=0)(n:Nat):aG (arr n λi=>[g i])=0:=NX (λi=>by simp[aG,h]) n
def WT(r:dk):aG (bW r)=0:=by
 rw[bW,Hf,avF (λ_=>rfl)];simp[aG,AV.refs,WS]
def avG(f:Nat->dk):aG (xF f)=0:=NX (λi=>WT (f i)) 32
def xG(t:aw):aG (aI t)=0:=by rw[aI,Hf,WM,avG];rfl
theorem WU(o:bQ):aG (cN o)=0:=by rfl
theorem N0(k:bh):aG (b0 k)=0:=by rfl
theorem aj8(b:cS):aG (cA b)=0:=by rfl
theorem avH(f:Nat->cS):aG (z0 f)=0:=by rfl
theorem avI(f:Nat->Bool):aG (uc f)=0:=by rfl
def oK(s:bI):aG (bB s)=0:=by simp only[bB,Hf,xG,WU,N0,avH,avI];rfl
def nv(l:List aE):Rv (eA l) 2 (l.map ay):=by
 cases l with
 |nil=>exact .ai
 |cons a l=>exact .sl (by intro el h;obtain⟨x,_,rfl⟩:=ais.1 h;rfl)
def WV{ag:Bool}{m:Nat}{a b r:lA}{off:Nat}(c:a.length=off):Den.part ag m (a++r) off=Den.part ag m r 0:=by grind [ko]
theorem xH{m:Nat}{a r:lA}(c:a.length=m)(b:0<m):Den.part true m (a++r) 0=some (.agg a):=by grind [rK,Hg]
section
variable{ag:Bool}{m o i:Nat}
theorem aj9{r:dk}:Den.part false 1 (bW r) 0=some (.int .u32 r.up):=rfl
theorem aka{r:dk}:Den.part false 1 (bW r) 1=some (.int .i64 r.dC):=rfl
theorem akb{r:dk}:Den.part false 1 (bW r) 2=some (eA r.runs):=rfl
theorem akc{r:dk}:Den.part false 1 (bW r) 3=some (.int .i64 r.len):=rfl
theorem akd{r:dk}:Den.part true 2 (bW r) 2=some (.agg [eA r.runs,.int .i64 r.len]):=rfl
theorem N2{r:dk}:Den.part true 8 (bW r) 4=some (.agg (arr 8 λi=>[.int .u32 (r.cells i)])):=by rfl
theorem ake{t:aw}:Den.part true 96 (aI t) 0=some (.agg (ca t.b)):=by rfl
theorem akf{t:aw}:Den.part true 480 (aI t) 0=some (.agg (aI t)):=by rfl
def akg{t:aw}(h:i<32)(ho:o+m<=12)(a:0<m):Den.part ag m (aI t) (96+i*12+o)=Den.part ag m (bW (t.r i)) o:=by
 unfold aI;rw[ko (by rw[oJ];omega),oJ,show 96+i*12+o-96=i*12+o by omega];exact jM (k:=12) (f:=λi=>bW (t.r i)) (λi=>z5 _) h ho a
def avJ{t:aw}(h:i<32):Den.part true 12 (aI t) (96+i*12)=some (.agg (bW (t.r i))):=by
 have:=akg (ag:=true) (m:=12) (o:=0) (t:=t) h (by omega) (by omega);rw[ajG]at this;rw[this,Hg (z5 _)]
def WW{t:aw}(h:i<32):Den.part false 1 (aI t) (96+i*12)=some (.int .u32 (t.r i).up):=akg (o:=0) h (by omega) (by omega)
def N3{t:aw}{r:dk}(h:i<32):aH (aI t) (96+i*12) (bW r)=aI {t with r:=aq t.r i r}:=by
 unfold aI;rw[gy (by rw[oJ];omega),oJ,show 96+i*12-96=i*12+0 by omega];unfold xF;rw[mT (k:=12) (f:=λi=>bW (t.r i)) (λi=>z5 _) h (by rw[z5];omega),rM (by rfl),qi]
def akh{t:aw}{u:Nat}(h:i<32):aH (aI t) (96+i*12) [.int .u32 u]=aI {t with r:=aq t.r i {t.r i with up:=u}}:=by
 unfold aI;rw[gy (by rw[oJ];omega),oJ,show 96+i*12-96=i*12+0 by omega];unfold xF;rw[mT (k:=12) (f:=λi=>bW (t.r i)) (λi=>z5 _) h (by simp),qi];rfl
theorem avK{r:dk}{u:Nat}:aH (bW r) 0 [.int .u32 u]=bW {r with up:=u}:=rfl
def aki{r:dk}{u:Nat}(h:i<8):aH (bW r) (4+i) [.int .u32 u]=bW {r with cells:=aq r.cells i u}:=by
 unfold bW;rw[gy (by simp)];refine aj6 ?_;have:=mT (n:=8) (k:=1) (i:=i) (o:=0) (vs:=[AV.int .u32 u]) (f:=λi=>[AV.int .u32 (r.cells i)]) (λ_=>rfl) h (by simp);rw[show 4+i- [AV.int .u32 r.up,.int .i64 r.dC,eA r.runs,.int .i64 r.len].length=i*1+0 by simp,this];exact ajV (arr 8) (qi (λu:Nat=>[AV.int .u32 u]) r.cells i u).symm
def akj{w:bQ}(h:i<32)(ho:o+m<=4)(a:0<m):Den.part ag m (cN w) (i*4+o)=Den.part ag m (ub (w i)) o:=
 jM (k:=4) (f:=λi=>ub (w i)) (λ_=>rfl) h ho a
theorem akk{w:bQ}:Den.part true 128 (cN w) 0=some (.agg (cN w)):=by rfl
def akl{w:bQ}(h:i<32):Den.part false 1 (cN w) (i*4)=some (.int .u32 (w i).root):=akj (o:=0) h (by omega) (by omega)
def avL{w:bQ}(h:i<32):Den.part true 3 (cN w) (i*4+1)=some (.agg (jN (w i).own)):=akj (o:=1) h (by omega) (by omega)
def avM{w:bQ}{x:Sd}(h:i<32):aH (cN w) (i*4) (ub x)=cN (aq w i x):=by
 have:=mT (n:=32) (k:=4) (i:=i) (o:=0) (vs:=ub x) (f:=λi=>ub (w i)) (λ_=>rfl) h (by simp[ub]);unfold cN;rw[show i*4=i*4+0 by omega,this,rM (a:=ub (w i)) (vs:=ub x) rfl,qi]
theorem akm{k:bh}:Den.part true 96 (b0 k) 0=some (.agg (ca k.b)):=by rfl
theorem WX{k:bh}:Den.part true 176 (b0 k) 0=some (.agg (b0 k)):=by rfl
def avN{f:Nat->Tok}(h:i<16):Den.part true 5 (Hi f) (i*5)=some (.agg (fJ (f i))):=
 jM (k:=5) (o:=0) (f:=λi=>fJ (f i)) (λ_=>rfl) h (by omega) (by omega)
def avO{k:bh}(h:i<16):Den.part true 5 (b0 k) (96+i*5)=some (.agg (fJ (k.t i))):=by
 unfold b0;rw[ko (by rw[oJ];omega),oJ,show 96+i*5-96=i*5 by omega];exact avN h
theorem akn{k:bh}{b:cM}:aH (b0 k) 0 (ca b)=b0 {k with b:=b}:=by rfl
def avP{k:bh}{x:Tok}(h:i<16):aH (b0 k) (96+i*5) (fJ x)=b0 {k with t:=aq k.t i x}:=by
 unfold b0;rw[gy (by rw[oJ];omega),oJ,show 96+i*5-96=i*5+0 by omega];unfold Hi;rw[mT (k:=5) (f:=λi=>fJ (k.t i)) (λ_=>rfl) h (by simp[fJ]),rM (a:=fJ (k.t i)) (vs:=fJ x) rfl,qi]
def avQ{f:Nat->kp}(h:i<4):Den.part true 4 (NZ f) (i*4)=some (.agg (eB (f i))):=
 jM (k:=4) (o:=0) (f:=λi=>eB (f i)) (λ_=>rfl) h (by omega) (by omega)
theorem rN{b:cS}:Den.part true 19 (cA b) 0=some (.agg (cA b)):=by rfl
def ako{b:cS}(h:i<4):Den.part true 4 (cA b) (i*4)=some (.agg (eB (b.ring i))):=by
 unfold cA;rw[rK (by rw[aj7];omega) (by omega)];exact avQ h
theorem akp{b:cS}:Den.part false 1 (cA b) 16=some (.int .i64 b.fr):=by rfl
theorem CV{b:cS}:Den.part false 1 (cA b) 17=some (.int .i64 b.n):=by rfl
theorem z8{b:cS}:Den.part false 1 (cA b) 18=some (.bool b.closed):=by rfl
def avR{b:cS}{x:kp}(h:i<4):aH (cA b) (i*4) (eB x)=cA {b with ring:=aq b.ring i x}:=by
 unfold cA;rw[rL (by rw[aj7];simp[eB];omega)];unfold NZ;rw[show i*4=i*4+0 by omega,mT (k:=4) (f:=λi=>eB (b.ring i)) (λ_=>rfl) h (by simp[eB]),rM (a:=eB (b.ring i)) (vs:=eB x) rfl,qi]
theorem avS{b:cS}:aH (cA b) 16 [.int .i64 x]=cA {b with fr:=x}:=by rfl
theorem akq{b:cS}:aH (cA b) 17 [.int .i64 x]=cA {b with n:=x}:=by rfl
theorem avT{b:cS}{x:Bool}:aH (cA b) 18 [.bool x]=cA {b with closed:=x}:=by rfl
def akr{f:Nat->Bool}(h:i<8):Den.part false 1 (uc f) i=some (.bool (f i)):=by
 have:=jM (ag:=false) (m:=1) (n:=8) (k:=1) (i:=i) (o:=0) (f:=λi=>[AV.bool (f i)]) (λ_=>rfl) h (by omega) (by omega);rw[show i*1+0=i by omega]at this;exact this
def avU{f:Nat->cS}(h:i<8):Den.part true 19 (z0 f) (i*19)=some (.agg (cA (f i))):=by
 have:=jM (ag:=true) (m:=19) (n:=8) (k:=19) (i:=i) (o:=0) (f:=λi=>cA (f i)) (λ_=>z7 _) h (by omega) (by omega);exact this.trans rN
def qk{T:aw}{O:bQ}{K:bh}:Den.part true 480 (gl T O K) 0=some (.agg (aI T)):=xH (iz _) (by omega)
theorem ql{T:aw}{O:bQ}{K:bh}:Den.part true 128 (gl T O K) 480=some (.agg (cN O)):=by
 unfold gl;rw[WV (b:=[]) (iz _)];exact xH (ud _) (by omega)
theorem rO{T:aw}{O:bQ}{K:bh}:Den.part true 176 (gl T O K) 608=some (.agg (b0 K)):=by
 unfold gl;rw[ko (by rw[iz];omega),iz,WV (b:=[]) (ud _)];exact WX
theorem oL(s:bI):bB s=gl s.T s.O s.K++(z0 s.dh++(uc s.alive++uc s.born)):=by simp[bB,gl]
theorem WY{s:bI}:Den.part true 784 (bB s) 0=some (.agg (gl s.T s.O s.K)):=by grind [oL,xH,lr]
theorem WZ{s:bI}:Den.part true 952 (bB s) 0=some (.agg (bB s)):=Hg (fe s)
theorem W4{s:bI}:Den.part true 480 (bB s) 0=some (.agg (aI s.T)):=xH (iz _) (by omega)
theorem W5{s:bI}:Den.part true 128 (bB s) 480=some (.agg (cN s.O)):=by grind [oL,rK,lr,ql]
theorem W7{s:bI}:Den.part true 176 (bB s) 608=some (.agg (b0 s.K)):=by grind [oL,rK,lr,rO]
theorem avV{s:bI}(h:i<8):Den.part true 19 (bB s) (784+i*19)=some (.agg (cA (s.dh i))):=by
 rw[oL,ko (by rw[lr];omega),lr,show 784+i*19-784=i*19 by omega,rK (by rw[qj];omega) (by omega)];exact avU h
def aGB{s:bI}:Den.part true 152 (bB s) 784=some (.agg (z0 s.dh)):=by
 rw[oL,WV (b:=[]) (lr _ _ _)];exact xH (qj _) (by omega)
theorem aks{s:bI}(h:i<8):Den.part false 1 (bB s) (936+i)=some (.bool (s.alive i)):=by
 rw[oL,ko (by rw[lr];omega),lr,ko (by rw[qj];omega),qj,show 936+i-784-152=i by omega,rK (by trivial) (by omega)];exact akr h
theorem avW{s:bI}(h:i<8):Den.part false 1 (bB s) (944+i)=some (.bool (s.born i)):=by
 rw[oL,ko (by rw[lr];omega),lr,ko (by rw[qj];omega),qj,ko (by rw[Hj];omega),Hj,show 944+i-784-152-8=i by omega];exact akr h
def avX{s:bI}{t:aw}:aH (bB s) 0 (aI t)=bB {s with T:=t}:=by
 unfold bB;rw[rL (by grind [iz]),rM (by rw[iz,iz])]
def avY{s:bI}{w:bQ}:aH (bB s) 480 (cN w)=bB {s with O:=w}:=by
 unfold bB;rw[gy (by rw[iz];omega),iz,rL (by grind [ud]),rM (by rfl)]
def avZ{s:bI}{k:bh}:aH (bB s) 608 (b0 k)=bB {s with K:=k}:=by
 unfold bB;rw[gy (by rw[iz];omega),iz,gy (by rw[ud];omega),ud,rL (by rw[z6,z6];omega),rM (by rfl)]
def av0{s:bI}{b:cS}(h:i<8):aH (bB s) (784+i*19) (cA b)=bB {s with dh:=aq s.dh i b}:=by
 rw[oL,gy (by rw[lr];omega),lr,show 784+i*19-784=i*19+0 by omega,rL (by rw[qj,z7];omega),oL];unfold z0;rw[mT (k:=19) (f:=λi=>cA (s.dh i)) (λ_=>z7 _) h (by rw[z7];omega),rM (by rfl),qi]
def akt{f:Nat->Bool}{v:Bool}(h:i<8):aH (uc f) i [.bool v]=uc (aq f i v):=by
 have:=mT (n:=8) (k:=1) (i:=i) (o:=0) (vs:=[AV.bool v]) (f:=λi=>[AV.bool (f i)]) (λ_=>rfl) h (by simp);rw[show i*1+0=i by omega]at this;unfold uc;rw[this];exact ajV (arr 8) (qi (λv:Bool=>[AV.bool v]) f i v).symm
def aku{s:bI}{v:Bool}(h:i<8):aH (bB s) (936+i) [.bool v]=bB {s with alive:=aq s.alive i v}:=by
 rw[oL,gy (by rw[lr];omega),lr,gy (by rw[qj];omega),qj,show 936+i-784-152=i by omega,rL (by trivial),akt h,oL]
def akv{s:bI}{v:Bool}(h:i<8):aH (bB s) (944+i) [.bool v]=bB {s with born:=aq s.born i v}:=by
 rw[oL,gy (by rw[lr];omega),lr,gy (by rw[qj];omega),qj,gy (by rw[Hj];omega),Hj,show 944+i-784-152-8=i by omega,akt h,oL]
end
theorem akw{t:aw}: (aI t).take 480=aI t:=by rfl
theorem akx{k:bh}: (b0 k).take 176=b0 k:=by rfl
theorem aky{r:dk}:Den.part true 12 (bW r) 0=some (.agg (bW r)):=by rfl
theorem akz{t:aw}:List.drop 96 (aI t)=xF t.r:=by rfl
theorem akA{b:cM}{r:Nat->dk}:ca b++xF r=aI ⟨b,r⟩:=rfl
theorem akB{u:Nat}{r:dk}:AV.int .u32 (u:Nat)::List.drop 1 (bW r)=bW {r with up:=u}:=rfl
theorem akC{b:cM}{f:Nat->Tok}:ca b++Hi f=b0 ⟨b,f⟩:=rfl
theorem W8(r:aE): (ay r).length=2:=rfl
theorem akD{r:aE}:Den.part false 1 (ay r) 0=some (.int .i64 (r.1:Nat)):=rfl
theorem akE{r:aE}:Den.part false 1 (ay r) 1=some (.int .i64 (r.2:Nat)):=rfl
theorem W9{r:aE}:Den.part true 2 (ay r) 0=some (.agg (ay r)):=rfl
theorem akF{r:aE}: (ay r).take 2=ay r:=rfl
theorem akG{r:aE}: (ay r).drop 2=[]:=rfl
theorem akH(r:aE):aG (ay r)=0:=rfl
def ML:=gG @W8<|gG @akF<|gG @akG<|gG @akH<|gG @akz<|gG @akA<|gG @akB<|gG @akC<|gG @aj4<|gG @oJ<|gG @WM<|gG @akw<|gG @iz<|gG @xG<|gG @z5<|gG @WT<|gG @ud<|gG @WU<|gG @akx<|gG @z6 @N0
def MP:=gG @akD<|gG @akE<|gG @W9<|gG @WN<|gG @aj9<|gG @aka<|gG @akb<|gG @akc<|gG @akd<|gG @aky<|gG @ake<|gG @akf<|gG @akk<|gG @akm @WX
def Zz:type_of% @R2/\type_of% @C1/\type_of% @P1/\type_of% @N1/\type_of% @O1/\type_of% @V1/\type_of% @V2/\type_of% @V3/\type_of% @wrap_i64/\type_of% @wrap_u64/\type_of% @wrap_u8/\type_of% @wrap_u16/\type_of% @wrap_u32/\type_of% @wrap_i32/\type_of% @dn/\type_of% @bw/\type_of% @EC/\type_of% @nd/\type_of% @mF/\type_of% @adv/\type_of% @ahF/\type_of% @Option.isSome_some.{0}/\type_of% @Option.isSome_none.{0}/\type_of% @Option.getD_some.{0}/\type_of% @Option.getD_none.{0}/\type_of% @Bool.not_true/\type_of% @Bool.not_false/\type_of% @cg0/\type_of% @cg1/\type_of% @cg2/\type_of% @cg3/\type_of% @cg4/\type_of% @cg5/\type_of% @Rm/\type_of% @cs1/\type_of% @cs2/\type_of% @cs3/\type_of% @cs4/\type_of% @cs5/\type_of% @ct2/\type_of% @ct1/\type_of% @cp0/\type_of% @cp1/\type_of% @cp2/\type_of% @cp3/\type_of% @cp4/\type_of% @cp5/\type_of% @cq0/\type_of% @cq1/\type_of% @cq2/\type_of% @cq3/\type_of% @cq4/\type_of% @cq5/\type_of% @List.getElem?_set_ne.{0}/\type_of% @Q1/\type_of% @G1/\type_of% @Jo/\type_of% @Jp/\type_of% @Jq/\type_of% @Jr/\type_of% @Js/\type_of% @Jt/\type_of% @Ju/\type_of% @Jv/\type_of% @Jw/\type_of% @Jx/\type_of% @ML/\type_of% @List.length_take.{0}/\type_of% @Nat.min_self/\type_of% @List.append_nil.{0}/\type_of% @Nat.zero_le/\type_of% @Nat.add_zero/\type_of% @Nat.zero_add/\type_of% @Nat.le_refl/\type_of% @and_true/\type_of% @true_and/\type_of% @if_true.{1}:=
 ⟨@R2,@C1,@P1,@N1,@O1,@V1,@V2,@V3,@wrap_i64,@wrap_u64,@wrap_u8,@wrap_u16,@wrap_u32,@wrap_i32,@dn,@bw,@EC,@nd,@mF,@adv,@ahF,@auS.{0},@auW.{0},@alr.{0},@axH.{0},@auM,@aBB,@cg0,@cg1,@cg2,@cg3,@cg4,@cg5,@Rm,@cs1,@cs2,@cs3,@cs4,@cs5,@ct2,@ct1,@cp0,@cp1,@cp2,@cp3,@cp4,@cp5,@cq0,@cq1,@cq2,@cq3,@cq4,@cq5,@aaD.{0},@Q1,@G1,@Jo,@Jp,@Jq,@Jr,@Js,@Jt,@Ju,@Jv,@Jw,@Jx,@ML,@ajM.{0},@azv,@ajJ.{0},@abX,@ajG,@alv,@ahT,@aqt,@aBp,@ajQ.{1}⟩
attribute [go_sem] Zz ajz ajA
attribute [go_sem ↓] R1 MP Int.cast_ofNat_Int
def ax(b:cM)(h:Nat):Bool:=match eK h with
 |some i=>decide (b i=⟨h/256,true,false⟩)
 |none=>false
def aO(h:Nat):Nat:=(eK h).getD 0
def nw(b:cM)(i:Nat):Bool:=!(b i).eU&& !(b i).ret
def ny(b:cM):oN:=(List.range 32).find? (nw b)
def qm(b:cM):cM×Nat×Bool:=match ny b with
 |some i=>(aq b i {b i with eU:=true},dg i (b i).gen,true)
 |none=>(b,0,false)
def rP(s:Slot):Slot:=if s.gen=8388607 then⟨s.gen,false,true⟩else⟨s.gen+1,false,s.ret⟩
def eC(b:cM)(h:Nat):cM×Bool:=if ax b h then(aq b (aO h) (rP (b (aO h))),true)else(b,false)
def bo(b:cM):lN:=((List.range 32).filter λi=>(b i).eU).map λi=>dg i (b i).gen
def lu(r:aE):Bool:=decide (1<=r.2)&&decide (r.1+r.2<=64)
def hZ(x:aE)(b:Bool)(a:List aE):List aE->Option (List aE)
 | []=>some (if b then a else a++[x])
 |y::ys=>
  if y.1+y.2<x.1 then hZ x b (a++[y]) ys
  else if x.1+x.2<y.1 then hZ x true (a++(if b then[]else[x])++[y]) ys
  else if y.1+y.2=x.1 then hZ (y.1,y.2+x.2) b a ys
  else if y.1=x.1+x.2 then hZ (x.1,x.2+y.2) b a ys
  else none
def iA(l:List aE)(x:aE):Option (List aE):=if lu x then hZ x false [] l else none
def mU:List aE->List aE->Option (List aE)
 |all,[]=>some all
 |all,x::xs=>match iA all x with
  |some a=>mU a xs
  |none=>none
def aM(l:List aE):Nat:=(l.map (·.2)).sum
def qn(a:List aE)(len:Nat):Bool:=(mU [] a).isSome&&decide (len<=aM a*32)
def dM:dk:=⟨0,0,[],0,λ_=>0⟩
def aw.ax(t:aw)(h:Nat):Bool:=Go.Proofs.YteplichagkpciaaGreatDoor.ax t.b h
def kq(t:aw)(i:Nat):Nat:=if t.ax (t.r i).up then(t.r i).up else 0
def aJ(t:aw)(h:Nat):dk×Nat:=if t.ax h then({t.r (aO h)with up:=kq t (aO h)},0)else(dM,4)
def me(t:aw)(up n:Nat):aw×Nat×Nat:=
 if up≠0/\t.ax up=false then(t,0,4)
 else if 64<n then(t,0,2)
 else match ny t.b with
  |some i=>({b:=aq t.b i {t.b i with eU:=true},r:=aq t.r i {dM with up:=up,dC:=n}},dg i (t.b i).gen,0)
  |none=>(t,0,7)
def lv(t:aw)(h:Nat):aw×Nat:=
 if t.ax h then({b:=(eC t.b h).1,r:=aq t.r (aO h) dM},0)else(t,4)
def fK(t:aw)(h:Nat)(r:dk):aw×Nat:=
 if t.ax h=false then(t,4)
 else if 64<r.dC\/qn r.runs r.len=false then(t,2)
 else({t with r:=aq t.r (aO h) {r with up:=(t.r (aO h)).up}},0)
def bK(t:aw)(h:Nat):Nat:=if t.ax h then kq t (aO h)else 0
def eD(t:aw):Nat->Nat->lN
 |0,_=>[]
 |n+1,h=>if bK t h=0 then[]else bK t h::eD t n (bK t h)
def aR(t:aw)(h:Nat):lN:=eD t 32 h
def mf(t:aw)(h up:Nat):aw×Nat:=
 if t.ax h=false\/ (up≠0/\t.ax up=false)then(t,4)
 else if up≠0/\h∈up::aR t up then(t,12)
 else({t with r:=aq t.r (aO h) {t.r (aO h)with up:=up}},0)
def depth(t:aw)(h:Nat):Nat:=if t.ax h then 1+(aR t h).length else 0
def root(t:aw)(h:Nat):Nat:=if t.ax h then(aR t h).getLastD h else 0
def kr(t:aw)(a b:Nat):Bool:=t.ax a&&t.ax b&& (decide (a=b)|| (aR t b).contains a)
def kids(t:aw)(h:Nat):lN:=if t.ax h then(bo t.b).filter (λx=>bK t x=h)else[]
def ia(t:aw):Nat->Nat->lN
 |0,h=>[h]
 |n+1,h=>h:: (kids t h).flatMap (ia t n)
def under(t:aw)(h:Nat):lN:=if t.ax h then ia t 32 h else[]
def ib(t:aw)(a n:Nat):aw×Nat×Nat:=
 let x:=me t a n
 if(x.2.2=0\/x.2.2=7)/\6<=depth t a then(t,0,8)else x
def z9(t0:aw)(h:Nat)(t:aw)(x:Nat):aw:=
 let r:=(aJ t x).1
 (fK t x {r with cells:=λi=>if r.cells i≠h/\kr t0 (r.cells i) h then 0 else r.cells i}).1
def jr(t:aw)(h:Nat):aw×Nat:=
 if t.ax h=false then(t,4)else mf ((ia t 32 h).foldl (z9 t h) t) h 0
def ue(t:aw)(h:Nat):Nat:=(ia t 32 h).foldl (λn x=>max n (depth t x-depth t h+1)) 0
def vN(t:aw)(h a:Nat):aw×Nat:=
 if t.ax h=false\/t.ax a=false then(t,4)
 else if root t h≠h\/kr t h a then(t,12)
 else if 6<depth t a+ue t h then(t,8)
 else mf t h a
def mg(t:aw)(h:Nat):aw×lN×Nat:=
 if under t h=[]then(t,[],4)else((under t h).foldl (λt x=>(lv t x).1) t,under t h,0)
def xI:Ow:=⟨0,0,0⟩
def ch(o:bQ)(t:aw)(h:Nat):Ow:=match eK (root t h)with
 |some i=>if(o i).root=root t h then(o i).own else xI
 |none=>xI
def fU(o:bQ)(t:aw)(r:Nat)(aa:Nat)(x:Ow):bQ×Nat:=
 if t.ax r=false then(o,4)
 else if root t r≠r then(o,12)
 else if 8<=aa then(o,2)
 else(aq o (aO r) ⟨r,x⟩,0)
def rQ(o:bQ)(t:aw)(r aa:Nat):bQ×Nat:=fU o t r aa ⟨1,aa % 256,0⟩
def Aa(o:bQ)(t:aw)(r:Nat):bQ×Nat:=fU o t r 0 ⟨2,0,0⟩
def ic(aa:Nat):Nat:=2^(aa % 8)
def CW(o:bQ)(t:aw)(r aa:Nat):bQ×Nat:=fU o t r aa ⟨3,0,ic aa⟩
def oM(x aa:Nat):Bool:=x.testBit (aa % 8)
def dD(o:bQ)(t:aw)(r aa:Nat)(hold:Bool):bQ×Nat×Nat:=
 let x:=ch o t r
 let e:=(fU o t r aa x).2
 if e=4\/ (t.ax r=true/\root t r≠r)then(o,0,e)
 else if x.kind≠3 then(o,0,12)
 else if e≠0 then(o,0,e)
 else if oM x.hold aa&&hold then(o,0,7)
 else if !oM x.hold aa&& !hold then(o,0,5)
 else((fU o t r aa {x with hold:=x.hold^^^ic aa}).1,x.hold^^^ic aa,(fU o t r aa {x with hold:=x.hold^^^ic aa}).2)
def N4:Tok:=⟨0,0,0,false,0⟩
def ck(k:bh)(h:Nat):Tok×Nat:=if ax k.b h then(k.t (aO h),0)else(N4,4)
def uf(k:bh)(p:Tok->Bool):lN:=(bo k.b).filter λh=>p (ck k h).1
def isRight(b a:Nat)(x:Tok):Bool:=decide (x.aL=b)&&decide (x.aR=a)
def CX(k:bh)(b a:Nat):Nat:=(uf k (isRight b a)).length
def ug(k:bh)(b a:Nat):Bool:=(bo k.b).any λh=>isRight b a (ck k h).1&& (ck k h).1.mu
def nz(k:bh)(h:Nat):Bool:=decide (h=0)||ax k.b h
def qo(k:bh)(x:Tok):Nat:=
 if nz k x.aR=false then 4
 else if 8<=x.iS\/8<=x.to\/x.iS=x.to\/x.aL=0 then 2
 else if x.aR≠0/\ ((ck k x.aR).1.aL≠x.aL\/ (ck k x.aR).1.to≠x.iS\/ (x.mu=true/\ (ck k x.aR).1.mu=false))then 12
 else if ug k x.aL x.aR=true\/ (x.mu=true/\0<CX k x.aL x.aR)then 5
 else 0
def lC(k:bh)(x:Tok):bh×Nat×Nat:=
 if qo k x≠0 then(k,0,qo k x)
 else match ny k.b with
  |some i=>if i<16 then({b:=aq k.b i {k.b i with eU:=true},t:=aq k.t i x},dg i (k.b i).gen,0)else(k,0,7)
  |none=>(k,0,7)
def gS(b:cM):Prop:= ∀i,(b i).gen<=8388607/\ ((b i).eU=true->(b i).ret=false)
def Hk(e:eK h=some i):i<32/\h/256<=8388607/\h % 256=i+1/\h<2147483648:=by
 unfold eK at e;grind
def Ab(h:Nat):aO h<32:=by
 unfold aO;cases e:eK h with
 |none=>simp
 |some i=>exact(Hk e).1
theorem Hl(e:eK h=some i):aO h=i:=by simp[aO,e]
theorem Xa(e:eK h=some i):dg i (h/256)=h:=by
 have:=Hk e;unfold dg;omega
theorem lD{b:cM}:ax b h=true↔ ∃i,eK h=some i/\b i=⟨h/256,true,false⟩:=by
 unfold ax
 grind
def gn{b:cM}(a:ax b h=true):h<4294967296:=by
 obtain⟨i,e,_⟩:=lD.1 a;have:=Hk e;omega
def Xb{b:cM}(a:ax b h=true):h≠0:=by
 obtain⟨i,e,_⟩:=lD.1 a;have:=Hk e;omega
def CY{b:cM}(a:ax b h=true):eK h=some (aO h)/\b (aO h)=⟨h/256,true,false⟩/\dg (aO h) (h/256)=h:=by grind [lD,Hl,Xa]
theorem Xc{b:cM}(d:gS b)(c:i<32):ax b (dg i (b i).gen)=(b i).eU:=by
 obtain⟨j,h⟩:=d i;have e:=WR c j;have f:dg i (b i).gen/256=(b i).gen:=by unfold dg;omega
 unfold ax;rw[e];simp only[f];revert h;generalize b i=s;obtain⟨g,a,r⟩:=s;simp_all
theorem jt{b:cM}(d:gS b):h∈bo b↔ax b h=true:=by
 unfold bo;simp only[ais,ajL,arH];constructor
 ·grind [Xc]
 ·intro c;obtain⟨i,e,a⟩:=lD.1 c;refine⟨i,⟨(Hk e).1,by grind⟩,?_⟩;rw[a];exact Xa e
theorem nA(b:cM): (bo b).length<=32:=by
 unfold bo
 grind
def Hm{g:Nat}(a:i<32)(b:g<=8388607):dg i g<4294967296:=by unfold dg;omega
theorem uh{b:cM}(e:ny b=some i):i<32/\ (b i).eU=false/\ (b i).ret=false/\ ∀j,j<i->nw b j=false:=by
 unfold ny at e;rw[List.find?_range_eq_some]at e;obtain⟨a,d,c⟩:=e;unfold nw at a
 grind
theorem Xd{b:cM}(a:gS b)(e:ny b=some i):gS (aq b i {b i with eU:=true}):=by
 intro j;by_cases h:j=i
 ·subst h;rw[cZ];exact⟨(a j).1,λ_=>(uh e).2.2.1⟩
 ·rw[ds h];exact a j
theorem Hn{b:cM}(a:gS b)(h:Nat):gS (eC b h).1:=by
 unfold eC;split
 ·intro j;by_cases e:j=aO h
  ·subst e;simp only[cZ];have:=(a (aO h)).1;unfold rP;grind
  ·simp only[ds e];exact a j
 omega
structure fV(r:dk):Prop where
 up:r.up<4294967296
 dC:r.dC<=64
 len:r.len<=2048
 cells: ∀i,r.cells i<4294967296
 runs: ∀x∈r.runs,1<=x.2/\x.1+x.2<=64
 aM:aM r.runs<=64
structure bR(t:aw):Prop where
 b:gS t.b
 r: ∀i,fV (t.r i)
def cu(t:aw):Prop:= ∀h,(aR t h).length<=5
def akI{t:aw}:kq t i<4294967296:=by
 unfold kq;split
 ·rename_i h;exact gn h
 ·omega
def av1{t:aw}:bK t h<4294967296:=by
 unfold bK;split
 ·exact akI
 ·omega
theorem Ho{t:aw}(a:bK t h≠0):t.ax (bK t h)=true/\t.ax h=true:=by
 unfold bK at*;split at a
 ·unfold kq at*
  grind
 omega
theorem Xe{t:aw}: ∀ (n:Nat) (h:Nat),(eD t n h).length<n-> ∀m,n<=m->eD t m h=eD t n h
 |0,_,a,_,_=>by omega
 |n+1,h,a,m,hm=>by
  obtain⟨m,rfl⟩: ∃k,m=k+1:=⟨m-1,by omega⟩;simp only[eD]at a⊢;by_cases hu:bK t h=0
  ·grind
  ·rw[aaH hu]at a;simp only[ajC]at a;rw[Xe n _ (by omega) m (by omega)]
def ui{t:aw}(a:cu t)(h:Nat):aR t h=if bK t h=0 then[]else bK t h::aR t (bK t h):=by
 unfold aR;by_cases hu:bK t h=0
 ·rw[aaR hu,eD,aaR hu]
 ·have e:eD t 33 h=eD t 32 h:=Xe 32 h (by have:=a h;unfold aR at this;omega) 33 (by omega);rw[<-e,eD,aaH hu]
def av2{t:aw}(c:cu t)(a:x∈aR t h):t.ax x=true:=by
 have key: ∀ (n h:Nat),(aR t h).length<=n->x∈aR t h->t.ax x=true:=by
  intro n
  induction n with
  |zero=>grind
  |succ n d=>
   intro h b a;rw[ui c]at a b;by_cases hu:bK t h=0
   ·grind
   ·rw[aaH hu]at a b;rcases ajR.1 a with rfl|a
    ·exact(Ho hu).1
    grind
 exact key _ h (ahT _) a
def dep(t:aw)(h:Nat):Nat:=(aR t h).length
theorem CZ{t:aw}(b:cu t)(a:bK t h≠0):dep t h=dep t (bK t h)+1:=by
 unfold dep;rw[ui b,aaH a];rfl
def N5{t:aw}(a:x∈kids t h):t.ax h=true/\bK t x=h/\x∈bo t.b:=by
 unfold kids at a
 grind
theorem C0{t:aw}(a:cu t)(b:x∈kids t h):dep t x=dep t h+1:=by
 obtain⟨d,c,_⟩:=N5 b;have:=CZ a (h:=x) (by rw[c];exact Xb d)
 grind
def akJ(t:aw)(h:Nat): (kids t h).length<=32:=by
 unfold kids;split
 ·grind [Nat.le_trans,List.length_filter_le,nA]
 ·simp
theorem akK{α β:Type}{f g:α->List β}: ∀ {l:List α},(∀x∈l,f x=g x)->l.flatMap f=l.flatMap g
 | [],_=>rfl
 |x::xs,h=>by
  rw[at2,at2,h x (ald ..),akK λy a=>h y (ajH _ a)]
theorem Xf{t:aw}(a:cu t): ∀ (n h:Nat),5<=n+dep t h-> ∀m,n<=m->ia t m h=ia t n h
 |0,h,d,m,_=>by
  have c:kids t h=[]:=by
   cases e:kids t h with
   |nil=>rfl
   |cons x xs=>
    have:=C0 a (h:=h) (x:=x) (by grind);have f:=a x;unfold dep at*;omega
  cases m with
  |zero=>rfl
  |succ m=>rw[ia,ia,c];rfl
 |n+1,h,d,m,hm=>by
  obtain⟨m,rfl⟩: ∃k,m=k+1:=⟨m-1,by omega⟩;refine ajV (h:: ·) (akK λx b=>?_);exact Xf a n x (by have:=C0 a b;omega) m (by omega)
def dE(t:aw)(h:Nat):lN:=ia t 32 h
def Xg{t:aw}(a:cu t)(h:Nat):dE t h=h:: (kids t h).flatMap (dE t):=by
 unfold dE;rw[<-Xf a 32 h (by omega) 33 (by omega),ia]
theorem Xh{α:Type}(f:α->Nat)(c:Nat): ∀l:List α,(∀x∈l,f x<=c)->(l.map f).sum<=l.length*c
 | [],_=>by simp
 |x::xs,h=>by
  have d:=h x (ald ..);have b:=Xh f c xs λy a=>h y (ajH _ a)
  simp only[ape,List.sum_cons,ajC,asr];omega
theorem akL(t:aw): ∀ (n h:Nat),(ia t n h).length<=33^n
 |0,h=>by simp[ia]
 |n+1,h=>by
  rw[ia,ajC,List.length_flatMap];have c:=Xh (λx=>(ia t n x).length) (33^n) (kids t h) λx _=>akL t n x
  have a:=akJ t h;have b: (kids t h).length*33^n<=32*33^n:=anI _ a
  grind
def Xi{t:aw}(a:cu t)(h:Nat): (dE t h).length<=39135393:=by
 have:=akL t 5 h;unfold dE;rw[Xf a 5 h (by omega) 32 (by omega)];omega
def aGC{t:aw}(h:Nat):dE t h≠[]:=by unfold dE;rw[ia];simp
def Hp{t:aw}(f:gS t.b)(b:t.ax h=true)(a:x∈dE t h):t.ax x=true:=by
 have key: ∀ (n h:Nat),t.ax h=true->x∈ia t n h->t.ax x=true:=by
  intro n
  induction n with
  |zero=>intro h b a;rw[ia,ahc]at a;grind
  |succ n c=>
   intro h b a;rcases ajR.1 a with rfl|a
   ·omega
   ·obtain⟨y,d,e⟩:=asa.1 a;exact c y ((jt f).1 (N5 d).2.2) e
 exact key 32 h b a
def nC(k:bh)(a:Nat):lN:=uf k λx=>decide (x.aL=a)
def xJ(k:bh)(aa:Nat):lN:=uf k λx=>decide (x.to=aa)
def nD(k:bh)(l:lN):bh:=l.foldl (λk h=>{k with b:=(eC k.b h).1}) k
def N6(k:bh)(a:Nat):bh:=nD k (nC k a)
def Xj(k:bh)(h:Nat):lN:=uf k λx=>decide (x.aR=h)
def nE(k:bh):Nat->Nat->lN
 |0,h=>[h]
 |n+1,h=>h:: (Xj k h).flatMap (nE k n)
def rR(k:bh)(h:Nat):lN:=(bo k.b).filter λx=>(nE k 16 h).contains x
def mW(k:bh)(h:Nat):bh×lN×Nat:=if ax k.b h then(nD k (rR k h),rR k h,0)else(k,[],4)
def xK(k:bh)(b a:Nat):Bool:=nz k a&& !ug k b a
def Ac(k:bh)(b a:Nat):Bool:=nz k a&&decide (CX k b a=0)
def Hq(T:aw)(K:bh)(h a:Nat):Bool:=
 if a=0 then xK K h 0 else if a=1 then Ac K h 0 else if a=2 then !((under T h).any λx=>decide (0< (nC K x).length))else false
def Hr(K:bh)(aa h a:Nat):Bool:=(nC K h).any λt=>
 decide ((ck K t).1.to=aa)&& ((decide (a=0)&&xK K h t)|| (decide (a=1)&& (ck K t).1.mu&&Ac K h t))
def xL(T:aw)(O:bQ)(K:bh)(aa h a:Nat):Nat:=
 if T.ax h=false then 4
 else if(ch O T h).kind=3 then(if a=0/\aa<8/\ (ch O T h).hold.testBit aa=true then 0 else 5)
 else if(ch O T h).kind=1 then(if((ch O T h).aa=aa/\Hq T K h a=true)\/Hr K aa h a=true then 0 else 5)
 else 5
def Ad:kp:=⟨0,0,0,false⟩
def mh(b:cS)(i:Nat):Nat:=(b.fr+i) % 4
def oO(b:cS)(m:kp):cS×Nat:=
 if b.closed then(b,11)else if b.n=4 then(b,7)else({b with ring:=aq b.ring (mh b b.n) m,n:=b.n+1},0)
def mX(b:cS):cS×kp×Nat:=
 if b.n=0 then(b,Ad,if b.closed then 11 else 10)else({b with fr:=mh b 1,n:=b.n-1},b.ring b.fr,0)
def vO(b:cS):cS×Nat:=if b.closed then(b,11)else({b with closed:=true},0)
def fW(b:cS):List kp:=(List.range b.n).map λi=>b.ring (mh b i)
def Ae:cS:=⟨λ_=>Ad,0,0,true⟩
def nF(t:aw)(r a to:Nat)(b:Bool):aw×Nat:=
 if t.ax r=false\/ (to≠0/\t.ax to=false)then(t,4)
 else if 8<=a then(t,2)
 else if to≠0/\b=false/\kr t to r=false then(t,5)
 else
  let x:=(aJ t r).1
  let n:=fK t r {x with cells:=aq x.cells a to}
  if n.2=0 then n else(t,n.2)
def uj(t:aw)(r a:Nat):Nat×Nat:=
 if t.ax r=false then(0,4)
 else if 8<=a then(0,2)
 else
  let to:=(aJ t r).1.cells a
  if to=0 then(0,10)else if t.ax to=false then(0,4)else(to,0)
structure ar where
 s:bI
 aa:Nat
 c:cz
 run:aE
 mY:Nat
 asks:Bool
 back:List aE
abbrev R(α:Type):=Except Nat α
def ask(b:Bool)(e:Nat):R Unit:=if b then .ok ()else .error e
def bc(e:Nat):R Unit:=if e=0 then .ok ()else .error e
def ar.t(x:ar)(T:aw):ar:={x with s:={x.s with T:=T}}
def ar.o(x:ar)(O:bQ):ar:={x with s:={x.s with O:=O}}
def ar.k(x:ar)(K:bh):ar:={x with s:={x.s with K:=K}}
def ar.bx(x:ar)(i:Nat)(b:cS):ar:={x with s:={x.s with dh:=aq x.s.dh i b}}
def fL(x:ar)(h a:Nat):R Unit:=bc (xL x.s.T x.s.O x.s.K x.aa h a)
def mi(x:ar)(aa:Nat):R Unit:=ask (decide (aa<8)&&x.s.alive aa) 2
def iT(x:ar)(y:Nat):ar:={x.k (N6 x.s.K y)with back:=x.back++(aJ x.s.T y).1.runs}
def gz(x:ar)(h:Nat):ar:=let y:=(under x.s.T h).foldl iT x;y.t (mg y.s.T h).1
def vP(x:ar)(h:Nat):R ar:=do bc (jr x.s.T h).2;return x.t (jr x.s.T h).1
def mZ(x:ar)(h aa:Nat):R ar:=do bc (rQ x.s.O x.s.T h aa).2;return x.o (rQ x.s.O x.s.T h aa).1
def nG(x:ar)(h:Nat)(r:dk):R ar:=do bc (fK x.s.T h r).2;return x.t (fK x.s.T h r).1
def b8:bF:=⟨0,0,0⟩
def qq(x:ar):R (ar×bF):=do
 if x.c.r≠0 then fL x x.c.r 1
 let n:=ib x.s.T x.c.r (min x.c.a 65)
 bc n.2.2
 let y:=x.t n.1
 let y<-if x.c.r=0 then mZ y n.2.1 x.aa else pure y
 return (y,{b8 with w:=n.2.1})
def isObj(a b:Nat):Bool:=decide (1<=a)&&decide (a<=128)&& [1,2,4,8].contains b
def gT(c:List aE)(len b a:Nat):oN:=
 if isObj b a then(let at':=(len+a-1)/a*a;if at'+b<=aM c*32 then some at' else none)else none
def qs(a b:Nat):oN:=if isObj a b then some ((a+31)/32)else none
def ku(a:List aE):Nat->Nat->oN:=match a with
 | []=>λ_ _=>none
 |r::rs=>λbase at'=>if base<=at'/\at'<base+r.2*32 then some (r.1*32+at'-base)else ku rs (base+r.2*32) at'
def jO(x:ar):R (ar×bF):=do
 let size:=min x.c.a 129
 let align:=min x.c.b 9
 let n<-match qs size align with|some n=>pure n|none=>.error 2
 fL x x.c.r 1
 bc (aJ x.s.T x.c.r).2
 let r:=(aJ x.s.T x.c.r).1
 match gT r.runs r.len size align with
 |some at'=>do
  let y<-nG x x.c.r {r with len:=at'+size}
  return (y,{b8 with v:=at'})
 |none=>do
  ask (decide (aM r.runs+n<=r.dC)) 6
  let x:={x with mY:=n}
  if x.asks then return (x,b8)
  let runs:=r.runs++[x.run]
  let len:=aM r.runs*32
  ask (decide (x.run.2=n)&&qn runs len) 2
  let at':=(gT runs len size align).getD 0
  let b:=match gT runs len size align with|some a=>a+size|none=>len
  let y<-nG x x.c.r {r with runs:=runs,len:=b}
  return (y,{b8 with v:=at'})
def rS(x:ar)(a:Nat):R (ar×bF):=do
 ask (decide (1<=x.c.b)&&decide (x.c.b<=8)) 2
 fL x x.c.r a
 bc (aJ x.s.T x.c.r).2
 ask (decide (x.c.a+x.c.b<=(aJ x.s.T x.c.r).1.len)) 9
 return (x,b8)
def uk(x:ar):R (ar×bF):=do
 fL x x.c.r 1
 bc (aJ x.s.T x.c.r).2
 let r:=(aJ x.s.T x.c.r).1
 let y<-nG {x with back:=x.back++r.runs} x.c.r {dM with dC:=r.dC}
 return (y,b8)
def um(x:ar):R (ar×bF):=do
 fL x x.c.r 2
 return (gz x x.c.r,b8)
def vQ(x:ar):R (ar×bF):=do
 fL x x.c.r 2
 ask (decide (root x.s.T x.c.r≠x.c.r)) 12
 let y<-vP x x.c.r
 let y<-mZ y x.c.r x.aa
 return (y,b8)
def vR(x:ar):R (ar×bF):=do
 fL x x.c.r 2
 fL x x.c.s 1
 let t:=vN x.s.T x.c.r x.c.s
 bc t.2
 return (x.t t.1,b8)
def vS(x:ar):R (ar×bF):=do
 fL x x.c.r 2
 let y<-vP x x.c.r
 let o:=CW y.s.O y.s.T x.c.r x.aa
 bc o.2
 return (y.o o.1,b8)
def xM(x:ar)(h:Nat):R Unit:=do
 ask (x.s.T.ax h) 4
 let o:=ch x.s.O x.s.T h
 ask (decide (root x.s.T h=h)&&decide (o.kind=3)) 12
 ask (o.hold.testBit x.aa) 5
def C2(x:ar)(h aa:Nat):bQ×Nat:=((dD x.s.O x.s.T h aa true).1,(dD x.s.O x.s.T h aa true).2.2)
def uo(x:ar):R (ar×bF):=do
 mi x x.c.a
 xM x x.c.r
 let o:=C2 x x.c.r x.c.a
 bc o.2
 return (x.o o.1,b8)
def jP(x:ar)(h aa:Nat):R ar:=do
 let o:=dD x.s.O x.s.T h aa false
 bc o.2.2
 let y:=x.o o.1
 return if o.2.1=0 then gz y h else y
def vT(x:ar):R (ar×bF):=do
 xM x x.c.r
 return (<-jP x x.c.r x.aa,b8)
def qt(x:ar):R (ar×bF):=do
 mi x x.c.a
 ask (decide (x.c.b<=1)) 2
 ask (x.s.T.ax x.c.r) 4
 if x.c.s=0 then ask (decide ((ch x.s.O x.s.T x.c.r).kind=1)&&decide ((ch x.s.O x.s.T x.c.r).aa=x.aa)) 5
 else do
  bc (ck x.s.K x.c.s).2
  ask (decide ((ck x.s.K x.c.s).1.to=x.aa)&&decide ((ck x.s.K x.c.s).1.aL=x.c.r)) 5
 let k:=lC x.s.K ⟨x.c.r,x.aa % 256,x.c.a % 256,decide (x.c.b=1),x.c.s⟩
 bc k.2.2
 return (x.k k.1,{b8 with w:=k.2.1})
def vU(x:ar):R (ar×bF):=do
 bc (ck x.s.K x.c.s).2
 ask (decide ((ck x.s.K x.c.s).1.to=x.aa)) 5
 return (x.k (mW x.s.K x.c.s).1,b8)
def nH(x:ar):R (ar×bF):=do
 mi x x.c.a
 ask (decide (x.c.b<=1)) 2
 let share:=decide (x.c.r≠0)&&decide (x.c.b=1)
 let y<-if share then do
     xM x x.c.r
     pure (if(C2 x x.c.r x.c.a).2=0 then x.o (C2 x x.c.r x.c.a).1 else x)
  else if x.c.r≠0 then do
   fL x x.c.r 2
   let y<-vP x x.c.r
   let o:=Aa y.s.O y.s.T x.c.r
   bc o.2
   pure (y.o o.1)
  else pure x
 let b:=oO (y.s.dh x.c.a) ⟨x.aa % 256,x.c.v,x.c.r,share⟩
 bc b.2
 return (y.bx x.c.a b.1,b8)
def oP(x:ar):R (ar×bF):=do
 let b:=mX (x.s.dh x.aa)
 bc b.2.2
 let y:=x.bx x.aa b.1
 let m:=b.2.1
 let y<-if m.aL≠0/\m.share=false then mZ y m.aL x.aa else pure y
 return (y,{b8 with v:=m.word,w:=m.aL})
def vV(x:ar):R (ar×bF):=do
 let b:=vO (x.s.dh x.aa)
 bc b.2
 return (x.bx x.aa b.1,b8)
def oQ(x:ar):R (ar×bF):=do
 fL x x.c.r 1
 if x.c.s≠0 then fL x x.c.s 0
 let t:=nF x.s.T x.c.r (min x.c.a 8) x.c.s (decide ((ch x.s.O x.s.T x.c.s).kind=3))
 bc t.2
 return (x.t t.1,b8)
def vW(x:ar):R (ar×bF):=do
 fL x x.c.r 0
 let t:=uj x.s.T x.c.r (min x.c.a 8)
 bc t.2
 return (x,{b8 with w:=t.1})
def nI(x:ar)(aa:Nat):R ar:=do
 let l:=fW (x.s.dh aa)
 let y:=x.bx aa Ae
 let y:={y with s:={y.s with alive:=aq y.s.alive aa false}}
 let y<-l.foldlM (λy m=>if m.aL=0\/m.share=true then pure y else if y.s.alive m.fr then mZ y m.aL m.fr else pure (gz y m.aL)) y
 let y:=(xJ y.s.K aa).foldl (λy h=>y.k (mW y.s.K h).1) y
 let y:=((bo y.s.T.b).filter λh=>decide (root y.s.T h=h)&&decide ((ch y.s.O y.s.T h).kind=1)&&decide ((ch y.s.O y.s.T h).aa=aa)).foldl gz y
 ((bo y.s.T.b).filter λh=>decide (root y.s.T h=h)&&decide ((ch y.s.O y.s.T h).kind=3)&& (decide (aa<8)&&oM (ch y.s.O y.s.T h).hold aa)).foldlM (λy h=>jP y h aa) y
def xN(x:ar):R (ar×bF):=do
 mi x x.c.a
 return (<-nI x x.c.a,b8)
def rT(x:ar):R (ar×bF):=do
 ask (decide (x.c.a<8)&& !x.s.born (x.c.a % 8)) 2
 return ({x with s:={x.s with alive:=aq x.s.alive x.c.a true,born:=aq x.s.born x.c.a true}},b8)
def kx(x:ar):R (ar×bF):=match x.c.op with
 |1=>qq x|2=>jO x|3=>rS x 0|4=>rS x 1|5=>uk x|6=>um x|7=>vQ x|8=>vR x|9=>vS x|10=>uo x
 |11=>vT x|12=>qt x|13=>vU x|14=>nH x|15=>oP x|16=>oP x|17=>vV x|18=>oQ x|19=>vW x
 |20=>do return (<-nI x x.aa,b8)
 |21=>xN x|22=>rT x
 |_=>.error 2
def ju(x:ar):R (ar×bF):=do
 ask (decide (x.aa<8)&&x.s.alive x.aa) 12
 kx x
def dR(s:bI)(aa:Nat)(c:cz)(run:aE):bI×bF×List aE:=match ju ⟨s,aa,c,run,0,false,[]⟩with
 |.ok (x,r)=>if r.e=0 then(x.s,r,x.back)else(s,r,[])
 |.error e=>(s,{b8 with e:=e},[])
def fg(s:bI)(aa:Nat)(c:cz):Nat:=if c.op≠2 then 0 else match ju ⟨s,aa,c,(0,0),0,true,[]⟩with
 |.ok (x,_)=>x.mY
 |.error _=>0
def iU(s:bI)(c:cz):lN×Nat:=
 if(aJ s.T c.r).2≠0 then([],(aJ s.T c.r).2)
 else if(c.op≠3/\c.op≠4)\/c.b<1\/8<c.b then([],2)
 else if(aJ s.T c.r).1.len<c.a+c.b then([],9)
 else((List.range c.b).map λi=>(ku (aJ s.T c.r).1.runs 0 (c.a+i)).getD 0,0)
def oR(s:bI)(aa:Nat)(c:cz):Nat:=if 0<fg s aa c then 0 else(dR s aa c (0,0)).2.1.e
def C3(s:bI)(aa:Nat)(c:cz):Bool:=decide (c.op=15)&&decide (oR s aa c=10)
def oS(s:bI)(h:Nat):lN:=if s.T.ax h then[h]else[]
def uq(s:bI)(c:cz):lN:=
 if[1,2,3,4,5,10,12,18,19].contains c.op then oS s c.r
 else if[6,7,9,11].contains c.op then under s.T c.r
 else if c.op=8 then
  (if under s.T c.r=[]\/s.T.ax c.s=false then[]else if(under s.T c.r).contains c.s then under s.T c.r else under s.T c.r++[c.s])
 else if c.op=13 then(if(ck s.K c.s).2=0 then oS s (ck s.K c.s).1.aL else[])
 else if c.op=14 then(if c.b=1 then oS s c.r else under s.T c.r)
 else[]
structure fw where
 has:Nat
 n:Nat
 wait:Nat->Nat
abbrev Marks:=Nat->fw
def xO:fw:=⟨0,0,λ_=>0⟩
def rU(l:fw)(aa:Nat):oN:=(List.range l.n).find? λi=>decide (l.wait i=aa % 256)
def Xk(l:fw)(i:Nat):fw:={l with n:=l.n-1,wait:=aq (λj=>if i<=j/\j<7 then l.wait (j+1)else l.wait j) (l.n-1) 0}
def xP(l:fw)(aa:Nat):fw:=match rU l aa with
 |none=>l
 |some i=>Xk l i
def iV(a aa:Nat):Bool:=decide (a<32)&&decide (aa<8)
def iW(m:Marks)(a aa:Nat):Marks×Bool:=
 if iV a aa=false then(m,false)
 else if(m a).has=aa+1 then(m,true)
 else if(m a).has=0/\ ((m a).n=0\/rU (m a) aa=some 0)then(aq m a {xP (m a) aa with has:=aa+1},true)
 else if rU (m a) aa=none then(aq m a {m a with n:=(m a).n+1,wait:=aq (m a).wait (m a).n aa},false)
 else(m,false)
def C4(l:fw)(aa:Nat):fw:=if l.has=aa+1 then{l with has:=0}else l
def rV(m:Marks)(aa:Nat):Marks:=λi=>if iV i aa then xP (C4 (m i) aa) aa else m i
structure cV where
 n:Nat
 free:List aE
 bytes:Nat->Nat->Nat
 cH:Bool
def rW(l:List aE)(x:aE):Option (List aE):=
 if lu x=false then none
 else match l.findIdx? λy=>decide (x=y)|| (decide (y.1<=x.1)&&decide (x.1+x.2<=y.1+y.2))with
  |none=>none
  |some i=>
   let y:=l.getD i (0,0)
   some (l.take i++((if y.1<x.1 then[(y.1,x.1-y.1)]else[])++(if x.1+x.2<y.1+y.2 then[(x.1+x.2,y.1+y.2- (x.1+x.2))]else[]))++l.drop (i+1))
def Xl(l:List aE)(k:Nat):Bool:=decide (k<64)&&l.any λy=>decide ((k,1)=y)|| (decide (y.1<=k)&&decide (k+1<=y.1+y.2))
def jv(p:cV)(n:Nat):cV×Nat×Nat:=
 if n<1 then(p,0,2)
 else match p.free.find? λx=>decide (1<=n)&&decide (n<=x.2)with
  |none=>(p,0,6)
  |some x=>(match rW p.free (x.1,n)with
   |some l=>{p with free:=l,cH:=false}
   |none=>p,x.1,0)
def gp(p:cV)(a:Nat):Nat:=if p.n<=a then 2 else if Xl p.free a then 12 else 0
def rX(p:cV)(a:Nat):cV:=if gp p a=0 then{p with bytes:=aq p.bytes a λ_=>0}else p
def N7(p:cV)(a:Nat):cV:=match iA p.free (a,1)with
 |some l=>{p with free:=l,cH:=false}
 |none=>p
def rY(p:cV)(a:Nat):cV:=if gp p a=0 then N7 p a else p
def ur(p:cV)(at':Nat):Nat:=if gp p (at'/32)=0 then p.bytes (at'/32) (at' % 32)else 0
def vX(p:cV)(at' b:Nat):cV:=if gp p (at'/32)=0 then{p with bytes:=aq p.bytes (at'/32) (aq (p.bytes (at'/32)) (at' % 32) b)}else p
structure Core where
 S:bI
 P:cV
 M:Marks
 Q:lN
structure Call where
 aa:Nat
 c:cz
 checked:Bool
 aU:lN
 run:aE
 fh:Nat
def iX(r:aE):lN:=(List.range r.2).map λi=>r.1+i
def c7(x:Core)(r:aE):Core:={x with Q:=x.Q++iX r}
def vY(x:Core)(c:Call):Core:={c7 x c.run with M:=rV x.M c.aa}
structure bY where
 x:Core
 c:Call
 r:bF
 ended:Bool
def rZ(s:bY)(r:bF):bY:={s with r:=r,ended:=true,x:=vY s.x s.c}
def oT(s:bY):bY×Bool:=
 if s.c.checked then(s,false)
 else if C3 s.x.S s.c.aa s.c.c then(s,true)
 else if oR s.x.S s.c.aa s.c.c≠0 then(rZ s {b8 with e:=oR s.x.S s.c.aa s.c.c},true)
 else({s with c:={s.c with checked:=true,aU:=uq s.x.S s.c.c}},true)
def oU(s:bY):bY×Bool:=match s.c.aU with
 | []=>(s,false)
 |h::hs=>
  let m:=iW s.x.M (aO h) s.c.aa
  ({s with x:={s.x with M:=m.1},c:=if m.2 then{s.c with aU:=hs}else s.c},true)
def oV(s:bY):bY×Bool:=
 let n:=fg s.x.S s.c.aa s.c.c
 if n=0\/0<s.c.run.2 then(s,false)
 else
  let p:=jv s.x.P n
  if p.2.2≠0 then(rZ {s with x:={s.x with P:=p.1}} {b8 with e:=p.2.2},true)
  else({s with x:={s.x with P:=p.1},c:={s.c with run:=(p.2.1,n)}},true)
def oW(s:bY):bY×Bool:=
 if s.c.run.2<=s.c.fh then(s,false)
 else({s with x:={s.x with P:=rX s.x.P (s.c.run.1+s.c.fh)},c:={s.c with fh:=s.c.fh+1}},true)
def byteOf(v i:Nat):Nat:=v/2^(8*i) % 256
def Af(s:bY):bY:=
 let s:=if 0<s.c.run.2/\fg s.x.S s.c.aa s.c.c≠s.c.run.2 then{s with x:=c7 s.x s.c.run,c:={s.c with run:=(0,0)}}else s
 let places:=(iU s.x.S s.c.c).1
 let d:=dR s.x.S s.c.aa s.c.c s.c.run
 if d.2.1.e≠0 then rZ s d.2.1
 else
  let P:=if s.c.c.op=4 then(List.range places.length).foldl (λP i=>vX P (places.getD i 0) (byteOf s.c.c.v i)) s.x.P else s.x.P
  let v:=if s.c.c.op=3 then(List.range places.length).foldl (λv i=>v|||ur s.x.P (places.getD i 0)*2^(8*i)) d.2.1.v else d.2.1.v
  let x:=d.2.2.foldl c7 {s.x with S:=d.1,P:=P}
  rZ {s with x:=x,c:={s.c with run:=(0,0)}} {d.2.1 with v:=v}
def gA(x:Core)(c:Call):bY:=
 let d:bY:=⟨x,c,b8,false⟩
 let s1:=oT d
 if s1.2 then s1.1 else
 let s2:=oU s1.1
 if s2.2 then s2.1 else
 let b:=oV s2.1
 if b.2 then b.1 else
 let a:=oW b.1
 if a.2 then a.1 else Af a.1
def iY(x:Core):Core×Bool:=match x.Q with
 | []=>(x,false)
 |q::a=>({x with P:=rY x.P q,Q:=a},true)
structure dO where
 op:Nat
 a:Nat
 b:Nat
 c:Nat
 n:Nat
 deriving DecidableEq,Inhabited
def r0(x:dO)(n:Nat):Bool:=
 (decide (x.op<=6)|| (decide (16<x.op)&&decide (x.op<=38)))&&decide (x.a<8/\x.b<8/\x.c<8)&& (!(decide (x.op=5)||decide (x.op=6))||decide (x.n<n))
def qu(l:List dO):Bool:=decide (l.length<=64)&&l.all λx=>r0 x l.length
def r6:lB->List dO
 |a::b::c::d::e::f::r=>⟨a.toNat,b.toNat,c.toNat,d.toNat,e.toNat+256*f.toNat⟩::r6 r
 |_=>[]
def decode(s:lB):Option (List dO):=
 if s.length % 6≠0\/384<s.length then none else if qu (r6 s)then some (r6 s)else none
structure Task where
 code:List dO
 next:Nat
 aU:Nat->Nat
def mj:Nat:=18446744073709551616
def r7(t:Task):Option dO:=t.code[t.next]?
def nJ:cz:=⟨0,0,0,0,0,0⟩
def iB(t:Task):cz×Bool:=match r7 t with
 |none=>({nJ with op:=20},true)
 |some x=>
  if x.op=0 then({nJ with op:=20},true)
  else if x.op<=16 then(nJ,false)
  else(⟨x.op-16,t.aU (x.b % 8) % 4294967296,t.aU (x.c % 8) % 4294967296,t.aU 6 % 4294967296,x.n,t.aU 5⟩,true)
def r8(t:Task):Task:=
 if(iB t).2 then t
 else match r7 t with
  |none=>t
  |some x=>
   let b:=t.aU (x.b % 8)
   let c:=t.aU (x.c % 8)
   let put:=λv=>{t with aU:=aq t.aU (x.a % 8) v,next:=t.next+1}
   if x.op=1 then put x.n
   else if x.op=2 then put ((b+c) % mj)
   else if x.op=3 then put ((b+mj-c) % mj)
   else if x.op=4 then put (b*2^x.n % mj)
   else if x.op=5 then{t with next:=x.n}
   else if x.op=6 then{t with next:=if t.aU (x.a % 8)≠0 then x.n else t.next+1}
   else{t with next:=t.next+1}
def uu(t:Task)(r:bF):Task:=match r7 t with
 |none=>t
 |some x=>if(iB t).2 then{t with aU:=aq (aq (aq t.aU (x.a % 8) r.v) 4 r.w) 7 r.e,next:=t.next+1}else t
structure Runner where
 t:Task
 c:Call
 busy:Bool
 fr:Nat
structure Event where
 aa:Nat
 c:cz
 run:aE
 r:bF
 fr:Nat
 to:Nat
structure aZ where
 az:Core
 aA:Nat->Runner
 now:Nat
 cP:List Event
def gB:Call:=⟨0,nJ,false,[],(0,0),0⟩
def uv:Task:=⟨[],0,λ_=>0⟩
def C5:Runner:=⟨uv,gB,false,0⟩
def qw(m:aZ)(t:Nat):Bool:=decide (t<8)&&m.az.S.alive t
def nK(m:aZ)(i:Nat):aZ:=
 if(m.aA i).busy=true/\qw m i=false then{m with az:=vY m.az (m.aA i).c,aA:=aq m.aA i {m.aA i with busy:=false,c:=gB}}else m
def m0(m:aZ):aZ:=(List.range 8).foldl nK m
def handed(b:aE)(a c:Nat):aE:=if b.2<=c-a/\0<b.2 then(0,0)else b
def N8(m:aZ)(t:Nat)(c:Call)(run:aE)(r:bF):aZ:=
 {m with cP:=m.cP++[⟨t,c.c,run,r,(m.aA t).fr,m.now⟩],aA:=aq m.aA t {m.aA t with t:=uu (m.aA t).t r,busy:=false,c:=gB}}
def xQ(m:aZ)(t:Nat):aZ:=
 let c:=(m.aA t).c
 let s:=gA m.az c
 let m':={m with az:=s.x,aA:=aq m.aA t {m.aA t with c:=s.c}}
 if s.ended then
  let run:=if s.r.e≠0\/s.c.c.op≠2 then(0,0)else c.run
  N8 m' t s.c (handed run m.az.Q.length s.x.Q.length) s.r
 else m'
def Ag(m:aZ)(t:Nat):aZ:=
 let x:=m.aA t
 if x.busy then xQ m t
 else if(iB x.t).2 then xQ {m with aA:=aq m.aA t {x with c:={gB with aa:=t,c:=(iB x.t).1},busy:=true,fr:=m.now}} t
 else{m with aA:=aq m.aA t {x with t:=r8 x.t}}
def C6(m:aZ)(t:Nat):aZ:=
 let c:={nJ with op:=20}
 let d:=dR m.az.S t c (0,0)
 {m with az:={d.2.2.foldl c7 m.az with S:=d.1},cP:=m.cP++[⟨t,c,(0,0),d.2.1,m.now,m.now⟩]}
def gC(m:aZ)(b:Nat):aZ×Nat:=
 let t:=b % 8
 if(8<b/\b<16)\/24<=b then(m,2)
 else if b=8 then(if(iY m.az).2 then(m0 {m with az:=(iY m.az).1,now:=m.now+1},0)else(m,10))
 else if qw m t=false then(m,12)
 else if 16<=b then(m0 (C6 {m with now:=m.now+1} t),0)
 else(m0 (Ag {m with now:=m.now+1} t),0)
def r9(m:aZ)(t:Nat):Option Call:=if t<8/\ (m.aA t).busy=true then some (m.aA t).c else none
def C7(m:aZ)(t:Nat):Bool:=match r9 m t with
 |none=>false
 |some c=>qw m t&& !c.checked&&C3 m.az.S t c.c
def gE(m:aZ)(t:Nat):Bool:=decide (t<8)&&qw m t&& !C7 m t
structure Xm where
 aM:Int
 aC:List lB
 aX:lN
def lE(b:Nat):Bool:=decide (b<8)||decide (b=8)|| (decide (16<=b)&&decide (b<24))
def nL(s:Xm):Bool:=
 decide (1<=s.aM/\s.aM<=64/\1<=s.aC.length/\s.aC.length<=8/\s.aX.length<=4000)&&s.aC.all (λp=>(decode p).isSome)&&s.aX.all lE
def oX:bI:=⟨⟨λ_=>⟨0,false,false⟩,λ_=>dM⟩,λ_=>⟨0,xI⟩,⟨λ_=>⟨0,false,false⟩,λ_=>N4⟩,λ_=>⟨λ_=>Ad,0,0,false⟩,λi=>decide (i=0),λi=>decide (i=0)⟩
def Xn(s:Xm):aZ:=⟨⟨oX,⟨s.aM.toNat,[(0,s.aM.toNat)],λ_ _=>0,true⟩,λ_=>xO,[]⟩,λi=>{C5 with t:={uv with code:=((s.aC[i]?).bind decode).getD []}},0,[]⟩
def N9(s:Xm):aZ×lN:=s.aX.foldl (λp b=>((gC p.1 b).1,p.2++[(gC p.1 b).2])) (Xn s,[])
def kL:lN:=[iM,ke,mI,ng,rl,sV,pR,pQ]
noncomputable def X0:Ctx:={dp:=λg=>(CT.lookup g).map λ_=>[.jh g],code:=λf=>if kL.contains f then none else zX.lookup f,bZ:=λ_=>none,fo:=λg=>(CT.lookup g).map rh}
def av3(h:Nat)(c:h<4294967296):dq .and (.int .u32 h) (.int .u32 255)=some (.int .u32 ((h % 256:Nat):Int)):=by
 rw[EE];have e: (BitVec.ofInt IntKind.u32.bits (h:Int)&&&BitVec.ofInt IntKind.u32.bits 255).toNat=h % 256:=by
  show(BitVec.ofInt 32 (h:Int)&&&BitVec.ofInt 32 255).toNat=h % 256;rw[BitVec.toNat_and];have b: (BitVec.ofInt 32 (h:Int)).toNat=h:=by grind
  have a: (BitVec.ofInt 32 255).toNat=2^8-1:=by rfl
  rw[b,a,aDJ]
 rw[e,wrap_u32 (by omega) (by omega)]
theorem p8: (2:Int)^min 8 IntKind.u32.bits=256:=by rfl
def akM: ((a:Nat):Int).fdiv 256=((a/256:Nat):Int):=by grind
def av4(s:Slot)(g:Nat)(a c:Bool):ep (.agg [.int,.bool,.bool]) (.agg (iL s)) (.agg [.int .u32 g,.bool a,.bool c])=some (decide (s=⟨g,a,c⟩)):=by
 obtain⟨b,a',d⟩:=s;simp only[ep,iL,ajC,apY,ahg,aus,ahh,ajQ,and_self,Slot.mk.injEq,Int.natCast_inj]
 grind
def iD(h:Nat):AV:=.au [.int .i64 ((eK h).getD 0:Nat),.bool (eK h).isSome]
def jQ(h:Nat)(a:h<4294967296)(H:List ae)(lo:oN):D X0 (.fn (.func l5) [] []) [.int .u32 h] ⟨H,lo⟩=some (.ret (iD h) ⟨H,lo⟩):=by
 refine aF Uh λN b=>?_
 simp(disch:=omega) only[↓R1,Zz,simprocAttr,Uh,av3 h a];refine vd 19 (.bool (!(eK h).isSome)) [4] rfl rfl ?_ λc=>?_
 ·simp only[R4,↓R1,Zz,simprocAttr,p8,akM]
  (repeat' (first|apply And.intro|intro _))
  all_goals(refine ajV AV.bool ?_;unfold eK;split<;>simp<;>omega)
 cases hs:eK h with
 |none=>simp(disch:=omega) only[F1,↓R1,Zz,simprocAttr,iD,hs]
 |some i=>
  have: (h % 256:Nat)- (1:Int)=(i:Nat):=by
   unfold eK at hs;split at hs<;>cases hs;omega
  simp(disch:=omega) only[F1,↓R1,Zz,simprocAttr,iD,hs,this]
def akN(i g:Nat)(a:i<32)(b:g<=8388607)(H:List ae)(lo:oN):D X0 (.fn (.func J5) [] []) [.int .i64 i,.int .u32 g] ⟨H,lo⟩=some (.ret (.int .u32 (dg i g)) ⟨H,lo⟩):=by
 refine aF Ut λN c=>?_
 simp(disch:=omega) only[F1,↓R1,Zz,simprocAttr,Ut,p8];exact cU (ajV _ (by rfl)) rfl
def eF(b:cM)(h:Nat)(d:h<4294967296)(H:List ae)(lo:oN):D X0 (.fn (.func l0) [] []) [.agg (ca b),.int .u32 h] ⟨H,lo⟩=some (.ret (.bool (ax b h)) ⟨H,lo⟩):=by
 refine aF T5 λN e=>?_
 simp only[↓R1,Zz,simprocAttr,T5,e,jQ h d,iD];cases hs:eK h with
 |none=>simp(disch:=omega) only[F1,↓R1,Zz,simprocAttr,ax,hs]
 |some i=>
  have c:=aj5 hs;have a: (i:Int)<32:=by omega
  simp(disch:=omega) only[F1,↓arK,↓R1,Zz,simprocAttr,ax,hs,aj0 c,a,p8,akM,av4]
def lF{p:Nat->Prop}{k:Nat}(h: ∀j,j<k->p j)(a:p k): ∀j,j<k+1->p j:=by grind
def av5{p:Nat->Bool}{k:Nat}(b:k<n)(a:p k=true)(h: ∀j,j<k->p j=false): (List.range n).find? p=some k:=by simp_all
def av6{p:Nat->Bool}(h: ∀j,j<n->p j=false): (List.range n).find? p=none:=by grind
def uw(b:cM):AV:=.au [.agg (ca (qm b).1),.int .u32 (qm b).2.1,.bool (qm b).2.2]
theorem Oa:BY.length=96:=by rfl
theorem Ob:List.drop 96 BY=[]:=by rfl
def Oc:type_of% Oa/\type_of% Ob:=by decide
def akO(b:cM)(p:gS b)(H:List ae)(lo:oN):D X0 (.fn (.func KX) [] []) [.agg (ca b)] ⟨H,lo⟩=some (.ret (uw b) ⟨H,lo⟩):=by
 refine aF VP λN q=>?_
 simp only[go_sem,simprocAttr,VP,q,↓WN];refine dB 32 (λk e H'=> ∃J,H'=cat H (.box (ca b) none:: .box BY none::J)/\e 1= .ptr N 0/\e 2= .ptr (N+1) 0/\e 8= .agg (ca b)/\e 9= .int .i64 k/\ ∀j,j<k->nw b j=false) 0 (by omega) ?_ ?_
 ·simp only[go_sem,simprocAttr];exact⟨[],dY.symm,by simp⟩
 rintro k r e H' ⟨J,rfl,i,g,m,l,f⟩ n o;have d: ∀a b,(cat H (a::b::J)).length=n:=λ_ _=>by rw[<-o,Hh,Hh];rfl
 simp(disch:=omega) only[bO,F1,go_sem,simprocAttr,ajs,i,g,m,l];refine⟨λh=>?_,λh=>?_⟩
 ·have c:k<32:=by omega
  cases hs: (b k).eU
  ·cases hr: (b k).ret
   ·simp(disch:=first|omega|apply d) only[F1,go_sem,simprocAttr,h,d,WO c,iL,hs,hr,i,g,aj3 c,akN k (b k).gen c (p k).1,Oc];have e:ny b=some k:=av5 c (by simp[nw,hs,hr]) f;exact⟨by omega,by simp[uw,qm,e,hr]⟩
   ·simp(disch:=first|omega|apply d) only[go_sem,simprocAttr,h,d,WO c,iL,hs,hr,i,g,m,l];exact⟨c,_,WL,lF f (by simp[nw,hr])⟩
  ·simp(disch:=first|omega|apply d) only[go_sem,simprocAttr,h,d,WO c,iL,hs,i,g,m,l];exact⟨c,_,WL,lF f (by simp[nw,hs])⟩
 ·simp(disch:=first|omega|apply d) only[go_sem,simprocAttr,Oc];have e:ny b=none:=av6 λj s=>f j (by omega)
  simp[uw,qm,e]
def atR(b:cM)(k:Nat):AV:=.au [.int .u32 (if k<32/\ (b k).eU=true then dg k (b k).gen else 0:Nat),.bool (decide (k<32)&& (b k).eU)]
def av7(b:cM)(g:gS b)(k:Nat)(H:List ae)(lo:oN):D X0 (.fn (.func Sc) [] []) [.agg (ca b),.int .i64 k] ⟨H,lo⟩=some (.ret (atR b k) ⟨H,lo⟩):=by
 refine aF GD λN d=>?_
 have e: ¬(k:Int)<0:=by omega
 by_cases a:k<32
 ·have c: ¬(k:Int)>=32:=by omega
  have f: (k:Int)<32:=by omega
  cases hs: (b k).eU
  ·simp only[F1,go_sem,simprocAttr,GD,d,e,c,f,aj2 a,hs,atR,a]
  ·simp only[F1,go_sem,simprocAttr,GD,d,e,c,f,aj2 a,aj1 a,hs,akN k (b k).gen a (g k).1,atR,a]
 ·have c: (k:Int)>=32:=by omega
  simp only[F1,go_sem,simprocAttr,GD,d,e,c,atR,a,false_and,ajT]
def Ah(b:cM)(h:Nat):AV:=.au [.agg (ca (eC b h).1),.bool (eC b h).2]
def akP(b:cM)(l:gS b)(h:Nat)(f:h<4294967296)(H:List ae)(lo:oN):D X0 (.fn (.func K5) [] []) [.agg (ca b),.int .u32 h] ⟨H,lo⟩=some (.ret (Ah b h) ⟨H,lo⟩):=by
 refine aF NW λN g=>?_
 cases c:ax b h with
 |false=>
  simp only[F1,go_sem,simprocAttr,NW,g,eF b h f,c,Oc,Ah,eC]
 |true=>
  obtain⟨e1,m,e3⟩:=CY c;have d:=Ab h;have e: (aO h:Int)<32:=by omega
  generalize a:aO h=i at*;have k:=(l i).1;simp(disch:=omega) only[bO,F1,go_sem,simprocAttr,NW,g,eF b h f,c,Oc,jQ h f,iD,e1,e,aj3 d,avE d,avD d,aj1 d,ua,cZ];refine⟨by omega,λj=>⟨by omega,?_⟩,λj=>⟨by omega,?_⟩⟩
  ·simp[Ah,eC,c,a,rP,show(b i).gen=8388607 by omega]
  ·simp[Ah,eC,c,a,rP,show¬(b i).gen=8388607 by omega]
theorem C8:l6.length=480:=by rfl
theorem av8:List.drop 480 l6=[]:=by rfl
def cT:type_of% C8/\type_of% av8/\type_of% Oa/\type_of% Ob:=by decide
def Ai(n:Nat)(H:List ae)(lo:oN):D X0 (.fn (.func K4) [] []) [.int .i64 n] ⟨H,lo⟩=some (.ret (.bool (decide (n<=64))) ⟨H,lo⟩):=by
 refine aF V6 λN b=>?_
 have a: (n:Int)>=0:=by omega
 simp(disch:=omega) only[F1,go_sem,simprocAttr,V6,a];exact cU (ajV AV.bool (ap8.2 (by grind))) rfl
theorem akQ:bW dM=[.int .u32 0,.int .i64 0,.ai,.int .i64 0,.int .u32 0,.int .u32 0,.int .u32 0,.int .u32 0,.int .u32 0,.int .u32 0,.int .u32 0,.int .u32 0]:=rfl
def akR(t:aw)(j:bR t)(h:Nat)(d:h<4294967296)(H:List ae)(lo:oN):D X0 (.fn (.func JX) [] []) [.agg (aI t),.int .u32 h] ⟨H,lo⟩=some (.ret (.int .u32 (kq t (aO h))) ⟨H,lo⟩):=by
 refine aF MY λN g=>?_
 have c:=Ab h;have a: (aO h:Int)<32:=by omega
 have e:iD h= .au [.int .i64 (aO h:Nat),.bool (eK h).isSome]:=rfl;have hu:=(j.r (aO h)).up;generalize aO h=i at*;have f:ax t.b (t.r i).up=t.ax (t.r i).up:=rfl;cases b:t.ax (t.r i).up
 ·simp only[F1,go_sem,simprocAttr,MY,g,jQ h d,e,a,WW c,eF t.b (t.r i).up hu,f,b,kq,ah2]
 ·simp only[F1,go_sem,simprocAttr,MY,g,jQ h d,e,a,WW c,eF t.b (t.r i).up hu,f,b,kq]
def nN(t:aw)(h:Nat):AV:=.au [.agg (bW (aJ t h).1),.int .i64 (aJ t h).2]
def vZ(t:aw)(j:bR t)(h:Nat)(c:h<4294967296)(H:List ae)(lo:oN):D X0 (.fn (.func vh) [] []) [.agg (aI t),.int .u32 h] ⟨H,lo⟩=some (.ret (nN t h) ⟨H,lo⟩):=by
 refine aF MS λN i=>?_
 have k:=Ab h;have f: (aO h:Int)<32:=by omega
 have e:iD h= .au [.int .i64 (aO h:Nat),.bool (eK h).isSome]:=rfl;have d:=akR t j h c;have b:aJ t h=if t.ax h then({t.r (aO h)with up:=kq t (aO h)},0)else(dM,4):=rfl
 unfold nN;rw[b];have g:ax t.b h=t.ax h:=rfl;cases a:t.ax h
 ·simp only[F1,go_sem,simprocAttr,MS,i,eF t.b h c,g,a,akQ,ah2]
 ·simp only[F1,go_sem,simprocAttr,MS,i,jQ h c,e,f,avJ k,eF t.b h c,g,a,d]
def Aj(t:aw)(a n:Nat):AV:=.au [.agg (aI (me t a n).1),.int .u32 (me t a n).2.1,.int .i64 (me t a n).2.2]
theorem akS: [AV.int .u32 0,.int .i64 n,.ai,.int .i64 0,.int .u32 0,.int .u32 0,.int .u32 0,.int .u32 0,.int .u32 0,.int .u32 0,.int .u32 0,.int .u32 0]=bW {dM with up:=0,dC:=n}:=rfl
theorem av9{u:Nat}: [AV.int .u32 (u:Nat),.int .i64 n,.ai,.int .i64 0,.int .u32 0,.int .u32 0,.int .u32 0,.int .u32 0,.int .u32 0,.int .u32 0,.int .u32 0,.int .u32 0]=bW {dM with up:=u,dC:=n}:=rfl
def awa(t:aw)(o:bR t)(a n:Nat)(m:a<4294967296)(H:List ae)(lo:oN):D X0 (.fn (.func S9) [] []) [.agg (aI t),.int .u32 a,.int .i64 n] ⟨H,lo⟩=some (.ret (Aj t a n) ⟨H,lo⟩):=by
 refine aF vL λN j=>?_
 have p:ax t.b a=t.ax a:=rfl;have d:=akO t.b o.b;unfold Aj me;by_cases e:a≠0/\t.ax a=false
 ·rw[aaR e];have b: ¬(a:Int)=0:=by omega
  simp only[F1,go_sem,simprocAttr,vL,j,b,eF t.b a m,p,e.2,cT]
 ·rw[aaH e];have c:a=0\/ (¬(a:Int)=0/\t.ax a=true):=by
   by_cases r:a=0
   ·exact .inl r
   ·refine .inr ⟨by omega,?_⟩;cases s:t.ax a
    ·exact absurd ⟨r,s⟩ e
    ·rfl
  by_cases q:64<n
  ·rw[aaR q];have h:decide (n<=64)=false:=by simp;omega
   rcases c with rfl| ⟨b,g⟩
   ·simp only[F1,go_sem,simprocAttr,vL,j,Ai,h,cT]
   ·simp only[F1,go_sem,simprocAttr,vL,j,b,eF t.b a m,p,g,Ai,h,cT]
  ·rw[aaH q];have h:decide (n<=64)=true:=by simp;omega
   cases l:ny t.b with
   |none=>
    rcases c with rfl| ⟨b,g⟩
    ·simp only[F1,go_sem,simprocAttr,vL,j,Ai,h,cT,d,uw,qm,l]
    ·simp only[F1,go_sem,simprocAttr,vL,j,b,eF t.b a m,p,g,Ai,h,cT,d,uw,qm,l]
   |some i=>
    obtain⟨f,w,v,u⟩:=uh l;have k: (i:Int)<32:=by omega
    have hs:eK (dg i (t.b i).gen)=some i:=WR f (o.b i).1;rcases c with rfl| ⟨b,g⟩
    ·simp only[F1,go_sem,simprocAttr,vL,j,Ai,h,cT,d,uw,qm,l,k,jQ (dg i (t.b i).gen) (Hm f (o.b i).1),iD,hs,akS,N3 f];omega
    ·simp only[F1,go_sem,simprocAttr,vL,j,b,eF t.b a m,p,g,Ai,h,cT,d,uw,qm,l,k,jQ (dg i (t.b i).gen) (Hm f (o.b i).1),iD,hs,av9,N3 f];omega
def Xo(t:aw)(h:Nat):AV:=.au [.agg (aI (lv t h).1),.int .i64 (lv t h).2]
def awb(t:aw)(i:bR t)(h:Nat)(f:h<4294967296)(H:List ae)(lo:oN):D X0 (.fn (.func Tk) [] []) [.agg (aI t),.int .u32 h] ⟨H,lo⟩=some (.ret (Xo t h) ⟨H,lo⟩):=by
 refine aF NT λN g=>?_
 have j:=Ab h;have a: (aO h:Int)<32:=by omega
 have e:iD h= .au [.int .i64 (aO h:Nat),.bool (eK h).isSome]:=rfl;have d:=akP t.b i.b h f;have k:ax t.b h=t.ax h:=rfl;unfold Xo lv;cases b:t.ax h
 ·have c:eC t.b h=(t.b,false):=by unfold eC;grind
  simp only[F1,go_sem,simprocAttr,NT,g,d,Ah,c,cT,ah2]
 ·have c: (eC t.b h).2=true:=by unfold eC;rw[k,b];rfl
  simp only[F1,go_sem,simprocAttr,NT,g,d,Ah,c,cT,jQ h f,e,a,<-akQ,N3 j];omega
def eV[Inhabited α]{k:Nat}(h:k<l.length):l.getD k default∈l:=by grind
def fX{α:Type}(p:α->Bool)(l:List α):Int:=match l.findIdx? p with
 |some i=>i
 |none=> -1
def xR(p:α->Bool)(l:List α):decide (0<=fX p l)=l.any p:=by
 unfold fX
 grind
def v5[Inhabited α]{p:α->Bool}{k:Nat}(b:k<l.length)(h: ∀j,j<k->p (l.getD j default)=false)(a:p (l.getD k default)=true):fX p l=k:=by
 have:l.findIdx? p=some k:=by grind [List.findIdx?_eq_some_iff_getElem]
 unfold fX;rw[this]
def v7[Inhabited α]{p:α->Bool}(h: ∀j,j<l.length->p (l.getD j default)=false):fX p l= -1:=by
 have:l.findIdx? p=none:=by grind [List.findIdx?_eq_none_iff,List.getElem_of_mem]
 unfold fX;rw[this]
def hC(h:Nat):lA:=[.int .u32 h]
theorem pH:Den.part false 1 (hC h) 0=some (.int .u32 h):=rfl
def bC(b:UInt8):lA:=[.int .u8 b.toNat]
theorem pB{b:UInt8}:Den.part false 1 (bC b) 0=some (.int .u8 b.toNat):=rfl
def sC(s:lB):lA:=[S s]
theorem pS{s:lB}:Den.part false 1 (sC s) 0=some (S s):=rfl
structure Instr where
 op:Nat
 a:Nat
 b:Nat
 c:Nat
 n:Nat
 deriving DecidableEq,Inhabited
def akT(v fv:AV)(l:List aE)(b:Rv v 2 (l.map ay))(r:l.length<2^40)(p:aE->Bool)(H:List ae)(lo:oN)
  (o: ∀x∈l,D X0 fv [.agg (ay x)] ⟨H,none⟩=some (.ret (.bool (p x)) ⟨H,none⟩)):D X0 (.fn (.func J4) [] []) [v,fv] ⟨H,lo⟩=some (.ret (.int .i64 (fX p l)) ⟨H,lo⟩):=by
 refine aF Uq λN u=>?_
 simp only[go_sem,simprocAttr,Uq,b.bD];refine dB l.length (λk e H'=>H'=H/\e 0=v/\e 1=fv/\e 7= .int .i64 l.length/\e 8= .int .i64 k/\ ∀j,j<k->p (l.getD j default)=false) 0 (by omega) ?_ ?_
 ·simp only[go_sem,simprocAttr];omega
 ·rintro k s e H' ⟨rfl,i,g,f,d,c⟩ n q;simp(disch:=omega) only[bO,F1,go_sem,simprocAttr,aiU,i,g,f,d];refine⟨λh=>?_,λh=>?_⟩
  ·have a:k<l.length:=by omega
   simp(disch:=omega) only[go_sem,simprocAttr,b.bX,b.cp,↓W9,o _ (eV a)];refine⟨by omega,?_⟩;cases m:p (l.getD k default)
   ·simp(disch:=omega) only[go_sem,simprocAttr,i,g,f,d]
    grind
   ·simp(disch:=omega) only[F1,go_sem,simprocAttr];rw[v5 a c m]
  ·rw[v7 (λj t=>c j (by omega))]
def awc(v fv:AV)(l:List aE)(a:Rv v 2 (l.map ay))(b:l.length<2^40)(p:aE->Bool)(H:List ae)(lo:oN)
  (c: ∀x∈l,D X0 fv [.agg (ay x)] ⟨H,none⟩=some (.ret (.bool (p x)) ⟨H,none⟩)):D X0 (.fn (.func R8) [] []) [v,fv] ⟨H,lo⟩=some (.ret (.bool (l.any p)) ⟨H,lo⟩):=by
 refine aF Uf λN d=>?_
 simp(disch:=omega) only[F1,go_sem,simprocAttr,Uf,akT v fv l a b p H none c,xR]
def akU{X:Ctx}(a:Ext X0 X)(h:X0.code f=some pf)(b:X0.bZ f=none):X.bZ f=none:=by
 rcases a.bZ f with e| ⟨_,e⟩
 ·grind
 grind
def akV{X:Ctx}(a:Ext X0 X)(h:X0.code f=some pf):X.code f=some pf:=by rw[a.code];exact h
def up{X:Ctx}(a:Ext X0 X){args:lA}{E:AS}{r:aS}(h:D X0 v args E=some r):D X v args E=some r:=ahP a _ _ _ _ h
def akW{X:Ctx}(f:Ext X0 X)(v fv:AV)(l:lN)(H:List ae)(b:Rd ⟨H,none⟩ v 1 (l.map hC))(s:l.length<2^40)(p:Nat->Bool)(lo:oN)
  (q: ∀x∈l,D X fv [.int .u32 x] ⟨H,none⟩=some (.ret (.bool (p x)) ⟨H,none⟩)):D X (.fn (.func Kl) [] []) [v,fv] ⟨H,lo⟩=some (.ret (.int .i64 (fX p l)) ⟨H,lo⟩):=by
 refine QQ U9 (akU f rfl rfl) (akV f rfl) rfl λN w=>?_
 simp only[go_sem,simprocAttr,U9,b.bD];refine dB l.length (λk e H'=>H'=H/\e 0=v/\e 1=fv/\e 7= .int .i64 l.length/\e 8= .int .i64 k/\ ∀j,j<k->p (l.getD j default)=false) 0 (by omega) ?_ ?_
 ·simp only[go_sem,simprocAttr];omega
 ·rintro k t e H' ⟨rfl,o,m,i,g,c⟩ n r;simp(disch:=omega) only[bO,F1,go_sem,simprocAttr,ajb,o,m,i,g];refine⟨λh=>?_,λh=>?_⟩
  ·have a:k<l.length:=by omega
   simp(disch:=omega) only[go_sem,simprocAttr,b.bX,b.cp,↓pH,q _ (eV a)];refine⟨by omega,?_⟩;cases d:p (l.getD k default)
   ·simp(disch:=omega) only[go_sem,simprocAttr,o,m,i,g];exact⟨a,lF c d⟩
   ·simp(disch:=omega) only[F1,go_sem,simprocAttr];rw[v5 a c d]
  ·rw[v7 (λj u=>c j (by omega))]
def akX{X:Ctx}(a:Ext X0 X)(v fv:AV)(l:lN)(H:List ae)(b:Rd ⟨H,none⟩ v 1 (l.map hC))(c:l.length<2^40)(p:Nat->Bool)(lo:oN)
  (d: ∀x∈l,D X fv [.int .u32 x] ⟨H,none⟩=some (.ret (.bool (p x)) ⟨H,none⟩)):D X (.fn (.func K2) [] []) [v,fv] ⟨H,lo⟩=some (.ret (.bool (l.any p)) ⟨H,lo⟩):=by
 refine QQ V0 (akU a rfl rfl) (akV a rfl) rfl λN e=>?_
 simp(disch:=omega) only[F1,go_sem,simprocAttr,V0,akW a v fv l H b c p none d,xR]
def awd(v fv:AV)(l:lB)(b:Rv v 1 (l.map bC))(r:l.length<2^40)(p:UInt8->Bool)(H:List ae)(lo:oN)
  (o: ∀x∈l,D X0 fv [.int .u8 x.toNat] ⟨H,none⟩=some (.ret (.bool (p x)) ⟨H,none⟩)):D X0 (.fn (.func E5) [] []) [v,fv] ⟨H,lo⟩=some (.ret (.int .i64 (fX p l)) ⟨H,lo⟩):=by
 refine aF GJ λN u=>?_
 simp only[go_sem,simprocAttr,GJ,b.bD];refine dB l.length (λk e H'=>H'=H/\e 0=v/\e 1=fv/\e 7= .int .i64 l.length/\e 8= .int .i64 k/\ ∀j,j<k->p (l.getD j default)=false) 0 (by omega) ?_ ?_
 ·simp only[go_sem,simprocAttr];omega
 ·rintro k s e H' ⟨rfl,m,i,g,f,c⟩ n q;simp(disch:=omega) only[bO,F1,go_sem,simprocAttr,UF,m,i,g,f];refine⟨λh=>?_,λh=>?_⟩
  ·have a:k<l.length:=by omega
   simp(disch:=omega) only[go_sem,simprocAttr,b.bX,b.cp,↓pB,o _ (eV a)];refine⟨by omega,?_⟩;cases d:p (l.getD k default)
   ·simp(disch:=omega) only[go_sem,simprocAttr,m,i,g,f];exact⟨a,lF c d⟩
   ·simp(disch:=omega) only[F1,go_sem,simprocAttr];rw[v5 a c d]
  ·rw[v7 (λj t=>c j (by omega))]
def awe(v fv:AV)(l:lB)(a:Rv v 1 (l.map bC))(b:l.length<2^40)(p:UInt8->Bool)(H:List ae)(lo:oN)
  (c: ∀x∈l,D X0 fv [.int .u8 x.toNat] ⟨H,none⟩=some (.ret (.bool (p x)) ⟨H,none⟩)):D X0 (.fn (.func Sh) [] []) [v,fv] ⟨H,lo⟩=some (.ret (.bool (l.any p)) ⟨H,lo⟩):=by
 refine aF Ul λN d=>?_
 simp(disch:=omega) only[F1,go_sem,simprocAttr,Ul,awd v fv l a b p H none c,xR]
def awf(v fv:AV)(l:List lB)(b:Rv v 1 (l.map sC))(r:l.length<2^40)(p: lB->Bool)(H:List ae)(lo:oN)
  (o: ∀x∈l,D X0 fv [S x] ⟨H,none⟩=some (.ret (.bool (p x)) ⟨H,none⟩)):D X0 (.fn (.func Sp) [] []) [v,fv] ⟨H,lo⟩=some (.ret (.int .i64 (fX p l)) ⟨H,lo⟩):=by
 refine aF UE λN u=>?_
 simp only[go_sem,simprocAttr,UE,b.bD];refine dB l.length (λk e H'=>H'=H/\e 0=v/\e 1=fv/\e 7= .int .i64 l.length/\e 8= .int .i64 k/\ ∀j,j<k->p (l.getD j default)=false) 0 (by omega) ?_ ?_
 ·simp only[go_sem,simprocAttr];omega
 ·rintro k s e H' ⟨rfl,m,i,g,f,c⟩ n q;simp(disch:=omega) only[bO,F1,go_sem,simprocAttr,aiZ,m,i,g,f];refine⟨λh=>?_,λh=>?_⟩
  ·have a:k<l.length:=by omega
   simp(disch:=omega) only[go_sem,simprocAttr,b.bX,b.cp,↓pS,o _ (eV a)];refine⟨by omega,?_⟩;cases d:p (l.getD k default)
   ·simp(disch:=omega) only[go_sem,simprocAttr,m,i,g,f];exact⟨a,lF c d⟩
   ·simp(disch:=omega) only[F1,go_sem,simprocAttr];rw[v5 a c d]
  ·rw[v7 (λj t=>c j (by omega))]
def awg(v fv:AV)(l:List lB)(a:Rv v 1 (l.map sC))(b:l.length<2^40)(p: lB->Bool)(H:List ae)(lo:oN)
  (c: ∀x∈l,D X0 fv [S x] ⟨H,none⟩=some (.ret (.bool (p x)) ⟨H,none⟩)):D X0 (.fn (.func Sg) [] []) [v,fv] ⟨H,lo⟩=some (.ret (.bool (l.any p)) ⟨H,lo⟩):=by
 refine aF Uk λN d=>?_
 simp(disch:=omega) only[F1,go_sem,simprocAttr,Uk,awf v fv l a b p H none c,xR]
def C9(r:aE)(b:r.1+r.2<4294967296)(H:List ae)(lo:oN):D X0 (.fn (.func oC) [] []) [.agg (ay r)] ⟨H,lo⟩=some (.ret (.int .i64 (r.1+r.2:Nat)) ⟨H,lo⟩):=by
 refine aF Ur λN a=>?_
 simp(disch:=omega) only[F1,go_sem,simprocAttr,Ur,a,ay,aqo]
def Xp(r:aE)(c:r.1<4294967296)(b:r.2<4294967296)(H:List ae)(lo:oN):D X0 (.fn (.func EV) [] []) [.agg (ay r)] ⟨H,lo⟩=some (.ret (.bool (lu r)) ⟨H,lo⟩):=by
 refine aF Ue λN a=>?_
 simp(disch:=omega) only[R4,F1,go_sem,simprocAttr,Ue,a,ay,lu]
 (repeat' (first|apply And.intro|intro _))
 all_goals(first|omega| (refine cU (ajV AV.bool (ap8.2 ?_)) rfl;grind))
def holds(y x:aE):Bool:=decide (x=y)|| (decide (y.1<=x.1)&&decide (x.1+x.2<=y.1+y.2))
def run_eq(a b:aE):ep (.agg [.int,.int]) (.agg (ay a)) (.agg (ay b))=some (decide (a=b)):=by
 obtain⟨f,e⟩:=a;obtain⟨d,c⟩:=b;simp only[ep,ay,ajC,apY,ahg,ahh,ajQ,and_self,asj,Int.natCast_inj]
 grind
def akY(y x:aE)(d:y.1+y.2<4294967296)(e:x.1+x.2<4294967296)(H:List ae)(lo:oN):D X0 (.fn (.func R9) [] []) [.agg (ay y),.agg (ay x)] ⟨H,lo⟩=some (.ret (.bool (holds y x)) ⟨H,lo⟩):=by
 refine aF GC λN b=>?_
 have f:=C9 y d;have ex:=C9 x e;by_cases he:x=y
 ·simp only[F1,go_sem,simprocAttr,GC,b,run_eq,he,holds]
 ·by_cases c:y.1<=x.1
  ·have a: (y.1:Int)<=x.1:=by omega
   simp only[F1,go_sem,simprocAttr,GC,b,run_eq,he,holds,c,a,f,ex,aqo];refine cU (ajV AV.bool (ap8.2 ?_)) rfl
   grind
  ·have a: ¬(y.1:Int)<=x.1:=by omega
   simp only[F1,go_sem,simprocAttr,GC,b,run_eq,he,holds,c,a,ajT,at3]
def Ak(l:List aE):Prop:=l.length<=64/\ ∀x∈l,x.1+x.2<=64
def awh(x y:aE)(c:x.1+x.2<4294967296)(b:y.1+y.2<4294967296)(p:Nat)(H:List ae)(lo:oN)(e:H[p]?=some (.box (ay x) none)):
  D X0 (.fn (.func JW) [] [.ptr p 0]) [.agg (ay y)] ⟨H,lo⟩=some (.ret (.bool (holds y x)) ⟨H,lo⟩):=by
 refine fb Ug λN d=>?_
 have a: ∀L,(H++L)[p]?=some (.box (ay x) none):=λL=>by grind
 simp only[F1,go_sem,simprocAttr,Ug,d,a,akY y x b c]
def Od(l:List aE)(k:Nat):Bool:=decide (k<64)&&l.any λy=>holds y (k,1)
def awi(v:AV)(l:List aE)(f:Rv v 2 (l.map ay))(b:Ak l)(k:Nat)(g:k<2147483648)(H:List ae)(lo:oN):
  D X0 (.fn (.func RR) [] []) [.agg [v],.int .i64 k] ⟨H,lo⟩=some (.ret (.bool (Od l k)) ⟨H,lo⟩):=by
 refine aF MR λN a=>?_
 have hm:=Xp (k,1) (by omega) (by simp);have c:=awc v (.fn (.func JW) [] [.ptr (N+1) 0]) l f (by have:=b.1;omega) (λy=>holds y (k,1)) (H++[.box [v] none,.box (ay (k,1)) none]) none (λy d=>awh (k,1) y (by omega) (by have:=b.2 y d;omega) (N+1) _ none (by rw[bw a];rfl));have hr:ay (k,1)=[.int .i64 (k:Nat),.int .i64 1]:=rfl;rw[hr]at hm c;by_cases h:k<64
 ·have e:lu (k,1)=true:=by simp[lu];omega
  simp only[F1,go_sem,simprocAttr,MR,a,hm,e,c];simp[Od,h]
 ·have e:lu (k,1)=false:=by simp[lu];omega
  simp only[F1,go_sem,simprocAttr,MR,a,hm,e];simp[Od,h]
def v8{X:Ctx}(pf:PF){args cap:lA}{H:List ae}{R:aS->Prop}(b:X.bZ f=none)(d:X.code f=some pf)(c:Nat.ble (args++cap).length pf.ntmps=true)
 (h: ∀n,H.length=n->wp X f false pf.body ⟨dc (args++cap),[]⟩ ⟨H,none⟩ (dw X n lo pf.results R)): ∃a,D X (.fn (.func f) [] cap) args ⟨H,lo⟩=some a/\R a:=by simp_all[ass,QP]
def ux(l:List aE):List lA:=(List.range l.length).map λi=>[.int .i64 (i:Nat),.agg (ay (l.getD i default))]
def Al(l:List aE): (ux l).length=l.length:=by simp[ux]
def Oe{l:List aE}(h:j<l.length): (ux l)[j]?=some [.int .i64 (j:Nat),.agg (ay (l.getD j default))]:=by
 unfold ux;grind
def Da{N id o:Nat}{f:Fn}{L:lA}{H:List ae}(h:N<=id):finish N lo (.fn f [] (.ptr id o::L)) ⟨H,none⟩=(.fn f [] (.ptr id o::L),⟨H,lo⟩):=by
 have a: ¬(AV.fn f [] (.ptr id o::L)).refs<=N:=by simp only[AV.refs,aG];omega
 refine ahi a ?_;unfold Den.freeze;simp[a]
def akZ(a:Rv v sz af){H:List ae}{tg:Option TypeId}:qZ ⟨H,lo⟩ v tg=some (.ptr H.length 0,⟨H++[.box [v] tg],lo⟩):=by
 obtain⟨h,_,_⟩:=a ⟨[],none⟩;cases v<;>first|rfl|grind
def cJ(b:Rv v sz af)(c:b9 af=0):v.refs=0:=by
 obtain⟨d,a,e⟩:=b ⟨[],none⟩;cases v<;>simp only[]at d
 ·rfl
 ·simp only[Den.elems]at a;split at a
  ·cases a;simpa only[AV.refs]using c
  grind
 ·trivial
def ak0(v:AV)(l:List aE)(d:Rv v 2 (l.map ay))(N:Nat)(H:List ae)(c:H.length=N)(lo:oN):
  D X0 (.fn (.func JU) [] []) [.agg [v]] ⟨H,lo⟩=some (.ret (.fn (.func rk) [] [.ptr (N+1) 0]) ⟨H++[.box [v] none,.box [v] none],lo⟩):=by
 have e:=λH'=>akZ (H:=H') (lo:=none) (tg:=none) d
 have e1:D X0 (.fn (.func Sk) [] []) [v] ⟨H++[.box [v] none],none⟩=some (.ret (.fn (.func rk) [] [.ptr (N+1) 0]) ⟨H++[.box [v] none,.box [v] none],none⟩):=by
  refine aF Up λM a=>?_
  have b:M=N+1:=by rw[<-a];simp[c]
  subst b;simp only[go_sem,simprocAttr,Up,a,e];rw[Da (by omega)]
 refine aF Ud λM a=>?_
 obtain rfl:M=N:=by rw[<-a,c]
 simp only[go_sem,simprocAttr,Ud,a,e1];rw[Da (by omega)]
def awj(v:AV)(l:List aE)(w:Rv v 2 (l.map ay))(O:Ak l)(a:Nat)(o:ae):
  ahW X0 (.fn (.func rk) [] [.ptr (a+1) 0]) a [o,.box [v] none] (ux l):=by
 intro y I J x A M B S lo;have K:l.length<=64:=O.1
 suffices h: ∃p,D X0 (.fn (.func rk) [] [.ptr (a+1) 0]) [y] ⟨A++([o,.box [v] none]++M),lo⟩=some p/\
   (λp=> ∃A' c,A'.length=a/\c.length=M.length/\p=aS.ret (.au []) ⟨A'++([o,.box [v] none]++c),lo⟩/\ (I (ux l).length A' c\/J A' c)) p by
  obtain⟨p,R,A',c,f,r,rfl,q⟩:=h;exact⟨A',[o,.box [v] none],c,f,rfl,r,R,q⟩
 refine v8 GK rfl rfl rfl λN Q=>?_
 have z:N=a+(2+M.length):=by rw[<-Q];simp[B];omega
 have P: ∀ (A' c:List ae),A'.length=a->(A'++(o:: .box [v] none::c))[a+1]?=some (.box [v] none):=by
  intro A' c h;rw[bw h];rfl
 simp only[go_sem,simprocAttr,GK,P A M B,w.bD];refine dB l.length (λk e H'=> ∃A' c L,A'.length=a/\c.length=M.length/\H'=A'++([o,.box [v] none]++(c++L))/\I k A' c/\e 0=y/\e 5=v/\e 6= .int .i64 l.length/\e 7= .int .i64 k) 0 (by omega) ?_ ?_
 ·simp only[go_sem,simprocAttr];exact⟨A,M,[],B,rfl,by simp,S⟩
 rintro k U e H' ⟨A',c,L,f,r,m,q,F,E,e6,e7⟩ n H;have g: ∀ (d M2 s:List ae),d.length=a->M2.length=M.length->(d++([o,.box [v] none]++(M2++s))).take N=d++([o,.box [v] none]++M2):=by
  intro d M2 s g1 g2;have:d++([o,.box [v] none]++(M2++s))=(d++([o,.box [v] none]++M2))++s:=by simp
  rw[this];exact aqm (by simp[g1,g2,z];omega)
 simp only[bO,F1,go_sem,simprocAttr,UH,E,e6,e7];refine⟨λh=>?_,λh=>?_⟩
 ·have j:k<l.length:=by omega
  obtain⟨b,d,M2,u,T,G,C⟩:=x k _ (Oe j) A' c q f [o,.box [v] none] (L++[.box (ay (l.getD k default)) none]) none rfl;have t:D X0 y [.int .i64 k,.agg (ay (l.getD k default))] ⟨H'++[.box (ay (l.getD k default)) none],none⟩=some (.ret (.bool b) ⟨d++([o,.box [v] none]++(M2++(L++[.box (ay (l.getD k default)) none]))),none⟩):=by
   rw[<-G,m];simp
  simp(disch:=omega) only[go_sem,simprocAttr,w.bX,w.cp,h,H,F,t];cases b
  ·simp only[F1,go_sem,simprocAttr];refine⟨d,M2,u,by omega,?_,.inr C⟩;have i:=g d M2 (L++[.box (ay (l.getD k default)) none]) u (by omega);simp only[ajW,ajS]at i;exact cU rfl i
  ·simp(disch:=omega) only[go_sem,simprocAttr,F,E,e6,e7];exact⟨j,d,M2,L++[.box (ay (l.getD k default)) none],u,by omega,rfl,C⟩
 ·subst m;refine⟨A',c,f,r,?_,.inl ?_⟩
  ·have i:=g A' c L f r;simp only[ajW,ajS]at i;exact cU rfl i
  ·rw[Al,show l.length=k by omega];exact q
def nO{X:Ctx}{a:List RV}{R:aS->Prop}{e:Env}{b:lN}{H:List ae}{l:oN}:
  dw X n lo a R .ret ⟨e,p::b⟩ ⟨H,l⟩=match H[p]? with|some .bE=>dw X n lo a R .ret ⟨e,b⟩ ⟨H.set p .dead,l⟩|_=>False:=by
 simp only[wN,dJ];cases c:H[p]? with
 |none=>simp
 |some o=>cases o<;>simp[AS.set]
def awk{H B G:List ae}{o:ae}{N:Nat}(b:H.length=N)(a:N+(B.length+G.length)=p): (cat H (B++(G++[.bE,o]))++M)[p]?=some .bE:=by grind [dY]
def awl{H B G:List ae}{o:ae}{N:Nat}(b:H.length=N)(a:N+(B.length+G.length)=p): (cat H (B++(G++[.bE,o]))++M).set p .dead=cat H (B++(G++[.dead,o]))++M:=by grind [dY,EC]
def ak1{H B G:List ae}{o:ae}{N:Nat}(b:H.length=N)(a:N+(B.length+G.length)=p): (cat H (B++(G++[.bE,o])))[p]?=some .bE:=by
 have:=awk (M:=[]) (o:=o) b a;grind
def ak2{H B G:List ae}{o:ae}{N:Nat}(b:H.length=N)(a:N+(B.length+G.length)=p): (cat H (B++(G++[.bE,o]))).set p .dead=cat H (B++(G++[.dead,o])):=by
 have:=awl (M:=[]) (o:=o) b a;grind
def ak3(a:Ex)(I:List ae->Prop)(J:Ex->List ae->Prop)(A:List ae):Prop:=match a with|.normal=>I A|.panic _=>False|a=>J a A
def awm{b:Fr}{H B R:List ae}{I:List ae->Prop}{J:Ex->List ae->Prop}{a:Ex}(c:H.length+B.length=n)(h:ak3 a I J (H++B)):Ry n R I J a b ⟨cat H (B++R)++M,none⟩:=
 ⟨rfl,H++B,M,by rw[dY];simp,by grind,h⟩
def Xq{g:Fr}{H R:List ae}{a b c d:ae}{I:List ae->Prop}{J:Ex->List ae->Prop}{e:Ex}(f:H.length+4=n)(h:ak3 e I J (H++[a,b,c,d])):Ry n R I J e g ⟨cat H (a::b::c::d::R)++M,none⟩:=awm (B:=[a,b,c,d]) f h
def fits(n:Nat)(x:aE):Bool:=decide (1<=n)&&decide (n<=x.2)
def Of(l:List aE)(n:Nat):AV:=match l.find? (fits n)with
 |some x=>.au [.int .i64 (x.1:Nat),.bool true]
 |none=>.au [.int .i64 0,.bool false]
def Xr[Inhabited α]{p:α->Bool}{k:Nat}(b:k<l.length)(h: ∀j,j<k->p (l.getD j default)=false)(a:p (l.getD k default)=true):l.find? p=some (l.getD k default):=by grind [List.find?_eq_some_iff_getElem]
def Xs[Inhabited α]{p:α->Bool}(h: ∀j,j<l.length->p (l.getD j default)=false):l.find? p=none:=by grind [List.find?_eq_none,List.getElem_of_mem]
def awn(v:AV)(l:List aE)(P:Rv v 2 (l.map ay))(V:Ak l)(m:Nat)(H:List ae)(lo:oN):
  D X0 (.fn (.func SB) [] []) [.agg [v],.int .i64 m] ⟨H,lo⟩=some (.ret (Of l m) ⟨H,lo⟩):=by
 refine aF UU λN r=>?_
 have he:=ak0 v l P (N+4) (H++[.box [v] none,.box [.int .i64 m] none,.box [.int .i64 0] none,.box [.bool false] none]) (by simp[r]) none;simp only[go_sem,simprocAttr,UU,r,he];have K:H++[ae.box [v] none,.box [.int .i64 m] none,.box [.int .i64 0] none,.box [.bool false] none,.box [v] none,.box [v] none]=(H++[ae.box [v] none,.box [.int .i64 m] none,.box [.int .i64 0] none,.box [.bool false] none])++[.box [v] none,.box [v] none]:=by simp
 rw[K];generalize q: ((((((dc [AV.agg [v],AV.int .i64 m]).set 2 (AV.ptr N 0)).set 3 (AV.ptr (N+1) 0)).set 4 (AV.ptr (N+2) 0)).set 5 (AV.ptr (N+3) 0)).set 8 (AV.agg [v])).set 9 (AV.fn (Fn.func rk) [] [AV.ptr (N+4+1) 0])=e;have G:e 3= .ptr (N+1) 0:=by rw[<-q];rfl
 have F:e 4= .ptr (N+2) 0:=by rw[<-q];rfl
 have E:e 5= .ptr (N+3) 0:=by rw[<-q];rfl
 have O: (ao.t 9).get e= .fn (.func rk) [] [.ptr (N+4+1) 0]:=by rw[<-q];rfl
 clear q;have Z: (H++[ae.box [v] none,.box [.int .i64 m] none,.box [.int .i64 0] none,.box [.bool false] none]).length=N+4:=by simp[r]
 refine auJ (ux l) _ _ (by rw[O];rfl) (by rw[O,Z];exact awj v l P V (N+4) _)
  (λj C=>C=H++[.box [v] none,.box [.int .i64 m] none,.box [.int .i64 0] none,.box [.bool false] none]/\ ∀i,i<j->fits m (l.getD i default)=false)
  (λex C=>ex= .ret/\ ∃x,l.find? (fits m)=some x/\C=H++[.box [v] none,.box [.int .i64 m] none,.box [.int .i64 (x.1:Nat)] none,.box [.bool true] none])
  ⟨rfl,λi W=>absurd W (aql i)⟩ ?_ ?_ ?_
 ·intro j x y;have S:j<l.length:=by
   have:=(aaG.1 y).1;rwa[Al]at this
  rw[Oe S]at y;cases y;refine⟨rfl,?_⟩;rintro C Y ⟨rfl,f⟩ R;obtain⟨n,Q⟩: ∃n,H.length+(R.length+1+1+1+1)=n:=⟨_,rfl⟩;simp only[go_sem,simprocAttr,iJ];simp only[Q];refine⟨[.box (ay (l.getD j default)) none],rfl,λM X=>?_⟩;have t: ∀a b c d:ae,(cat H (a::b::c::d::M)).length=n:=λa b c d=>by rw[<-Q,Hh];simp[X]
  have z: ∀a b c d e:ae,H++(a::b::c::d:: (M++[e]))=cat H (a::b::c::d::M)++[e]:=λa b c d e=>by rw[dY];simp
  rw[z];by_cases U:1<=m
  ·have s: (m:Int)>=1:=by omega
   by_cases T:m<=(l.getD j default).2
   ·have w: ((l.getD j default).2:Int)>=m:=by omega
    simp(disch:=first|omega|apply t) only[go_sem,simprocAttr,No,G,F,E,s,w];exact Xq (by simp) ⟨rfl,_,Xr S f (by unfold fits;rw[ajI];exact⟨abj U,abj T⟩),rfl⟩
   ·have w: ¬((l.getD j default).2:Int)>=m:=by omega
    simp(disch:=first|omega|apply t) only[go_sem,simprocAttr,No,G,s,w];exact Xq (by simp) ⟨rfl,lF f (by unfold fits;rw[Bool.and_eq_false_iff];exact .inr (abi T))⟩
  ·have s: ¬(m:Int)>=1:=by omega
   simp(disch:=first|omega|apply t) only[go_sem,simprocAttr,No,G,s];exact Xq (by simp) ⟨rfl,lF f (by unfold fits;rw[Bool.and_eq_false_iff];exact .inl (abi U))⟩
 ·rintro A' g o L u ⟨rfl,f⟩;obtain⟨p,A⟩: ∃p,(H++[ae.box [v] none,.box [.int .i64 m] none,.box [.int .i64 0] none,.box [.bool false] none]++[ae.box [v] none,.box [v] none]).length=p:=⟨_,rfl⟩;have k:N+(4+g.length)=p:=by rw[<-A];simp[r,u]
  have h:H++[ae.box [v] none,.box [.int .i64 m] none,.box [.int .i64 0] none,.box [.bool false] none]++(g++[.bE,o])=cat H ([ae.box [v] none,.box [.int .i64 m] none,.box [.int .i64 0] none,.box [.bool false] none]++(g++[.bE,o])):=by rw[dY];simp
  have J: ∀a b c d:ae,(cat H (a::b::c::d:: (g++[.bE,o])))[p]?=some .bE:=λa b c d=>ak1 (B:=[a,b,c,d]) r k
  have I: ∀a b c d:ae,(cat H (a::b::c::d:: (g++[.bE,o]))).set p .dead=cat H (a::b::c::d:: (g++[.dead,o])):=λa b c d=>ak2 (B:=[a,b,c,d]) r k
  rw[A,h];simp(disch:=omega) only[F1,go_sem,simprocAttr,F,E,nO,J,I];rw[Al]at f;simp[Of,Xs f]
 ·rintro ex A' g o L u ⟨rfl,x,y,rfl⟩;obtain⟨p,A⟩: ∃p,(H++[ae.box [v] none,.box [.int .i64 m] none,.box [.int .i64 0] none,.box [.bool false] none]++[ae.box [v] none,.box [v] none]).length=p:=⟨_,rfl⟩;have k:N+(4+g.length)=p:=by rw[<-A];simp[r,u]
  have h:H++[ae.box [v] none,.box [.int .i64 m] none,.box [.int .i64 (x.1:Nat)] none,.box [.bool true] none]++(g++[.bE,o])=cat H ([ae.box [v] none,.box [.int .i64 m] none,.box [.int .i64 (x.1:Nat)] none,.box [.bool true] none]++(g++[.bE,o])):=by rw[dY];simp
  have J: ∀a b c d:ae,(cat H (a::b::c::d:: (g++[.bE,o])))[p]?=some .bE:=λa b c d=>ak1 (B:=[a,b,c,d]) r k
  have I: ∀a b c d:ae,(cat H (a::b::c::d:: (g++[.bE,o]))).set p .dead=cat H (a::b::c::d:: (g++[.dead,o])):=λa b c d=>ak2 (B:=[a,b,c,d]) r k
  rw[A,h];simp(disch:=omega) only[F1,go_sem,simprocAttr,F,E,nO,J,I];simp[Of,y]
def awo(v:AV)(l:List aE)(A:Rv v 2 (l.map ay))(Y:Ak l)(a:Nat)(o:ae):
  vg X0 (.fn (.func rk) [] [.ptr (a+1) 0]) a [o,.box [v] none] (ux l):=by
 intro S V y I J b C q B W s hP h0 wX d hG lo;have X:l.length<=64:=Y.1;have j: ∀i,V.dW i->i<b:=λi Z=>(q i Z).1
 suffices h: ∃x,D X0 (.fn (.func rk) [] [.ptr (a+1) 0]) [y] ⟨W,lo⟩=some x/\
  (λx=> ∃f p ak,x=aS.ret (.au []) ⟨p,ak⟩/\V.P f p/\ (I (ux l).length f\/J f)/\b<=p.length/\
    (∀i,i<b-> ¬V.dW i-> ¬(a<=i/\i<a+[o,ae.box [v] none].length)->p[i]?=W[i]?)/\nf V.c b lo ak none (V.row f)) x by grind
 refine v8 GK rfl rfl rfl λN hN=>?_
 obtain rfl:N=b:=by omega
 have u:W[a+1]?=some (.box [v] none):=hG 1 (by simp);simp only[go_sem,simprocAttr,GK,u,A.bD];refine gX l.length (λk e p ak=> ∃f,I k f/\ka V N W (λi=>a<=i/\i<a+[o,ae.box [v] none].length) f p ak/\e 0=y/\e 5=v/\e 6= .int .i64 l.length/\e 7= .int .i64 k) 0 (by omega) ?_ ?_
 ·simp only[go_sem,simprocAttr];exact⟨s,h0,⟨hP,by omega,λ_ _ _ _=>rfl,.inl ⟨rfl,d⟩,λr e=>by rw[d]at e;cases e⟩⟩
 rintro k hk e W1 z ⟨s1,H,G,L,K,e6,e7⟩ n U;simp only[bO,go_sem,simprocAttr,UH,K,e6,e7];refine⟨λh=>?_,λh=>?_⟩
 ·have t:k<l.length:=by omega
  have m:=G.push C j [.box (ay (l.getD k default)) none];obtain⟨c,s2,W2,T,R,Q,P,O,M,F⟩:=B k _ s1 (Oe t) H (W1++[.box (ay (l.getD k default)) none]) m.P m.len z;have w:=m.step Q P O M;simp(disch:=omega) only[go_sem,simprocAttr,A.bX,A.cp,h,U,L,R];cases c
  ·obtain⟨E,g,f1,f2,f3,f4,f5⟩:=w.fin C j (dI:=lo);simp only[go_sem,simprocAttr,f1];exact⟨s2,E,g,rfl,f2,.inr F,f3,f4,f5⟩
  ·simp(disch:=omega) only[go_sem,simprocAttr,L,K,e6,e7];exact⟨t,s2,F,w⟩
 ·obtain⟨E,g,f1,f2,f3,f4,f5⟩:=G.fin C j (dI:=lo);simp only[go_sem,simprocAttr,f1];exact⟨s1,E,g,rfl,f2,.inl (by rw[Al,show l.length=k by omega];exact H),f3,f4,f5⟩
def bf{H L:List ae}{o:ae}(h:H[i]?=some o): (H++L)[i]?=some o:=by grind
def cx{H:List ae}{x o:ae}(h:H[p]?=some x): (H.set p o)[p]?=some o:=by grind
def fi{H:List ae}{o:ae}(h:H[i]?=some o):i<H.length:=by grind
def iZ{W H:List ae}{N:Nat}(a:H.length=N)(h: ∀i,i<N->W[i]?=H[i]?):W.take N=H:=by
 apply apn
 grind
structure Db where
 x:aE
 put:Bool
 out:List aE
 row:oN
 res:AV
 ok:Bool
def ak4(H:List ae)(N:Nat)(v:AV)(s:Db)(W:List ae):Prop:=
 (∀i,i<N->W[i]?=H[i]?)/\W[N]?=some (.box [v] none)/\W[N+1]?=some (.box [s.res] none)/\W[N+2]?=some (.box [.bool s.ok] none)/\W[N+3]?=some (.box (ay s.x) none)/\
   W[N+5]?=some (.box [.bool s.put] none)/\SV (N+4) 2 fu W s.row (s.out.map ay)
def Xt(H:List ae)(N:Nat)(v:AV):YV Db:=⟨ak4 H N v,Db.row,λi=>i<N+6,N⟩
def awp(H:List ae)(N:Nat)(v:AV): (Xt H N v).Ok where
 st:=λs W d ⟨l,k,j,g,f,e,b⟩ h=>by
  have c: ∀i,i<N+6->d[i]?=W[i]?:=λi a=>h i (.inl a)
  exact⟨λi a=>by grind,by grind,by grind,by grind,
   by grind,by grind,b.st (c _ (by omega)) λi a=>h i (.inr a)⟩
 lt:=λs W r ⟨_,_,_,_,_,_,b⟩ hr=>b.row hr
def Xu(l:List aE)(a:aE)(v:AV)(j:Nat)(s:Db):Prop:=
 hZ a false [] l=hZ s.x s.put s.out (l.drop j)/\s.x.1+s.x.2<=64/\s.out.length<=2*j/\s.res= .ai/\s.ok=false
def ak5(l:List aE)(a:aE)(v:AV)(b:Ex)(s:Db):Prop:=b= .ret/\hZ a false [] l=none/\s.res=v/\s.ok=false
def qx(v:AV)(l:List aE)(x:aE):AV:=match iA l x with
 |some a=>.au [.agg [eA a],.bool true]
 |none=>.au [.agg [v],.bool false]
def ak6(v:AV)(l:List aE)(hv:Rv v 2 (l.map ay))(hl:Ak l)(x:aE)(Xv:x.1<4294967296)(Xw:x.2<4294967296)(H:List ae)(lo:oN):
  D X0 (.fn (.func BB) [] []) [.agg [v],.int .i64 (x.1:Nat),.int .i64 (x.2:Nat)] ⟨H,lo⟩=some (.ret (qx v l x) ⟨H,lo⟩):=by
 refine aF M8 λN hN=>?_
 have hm:=Xp x Xv Xw;have hr:ay x=[.int .i64 (x.1:Nat),.int .i64 (x.2:Nat)]:=rfl;rw[hr]at hm;have Xx:v.refs=0:=cJ hv (bz (λ_=>rfl) l);cases m:lu x with
 |false=>
  simp(disch:=omega) only[F1,go_sem,simprocAttr,M8,hN,hm,m,Xx];have e1:qx v l x= .au [.agg [v],.bool false]:=by unfold qx iA;rw[m];rfl
  rw[e1]
 |true=>
  have he:=ak0 v l hv (N+6) (H++[.box [v] none,.box [.ai] none,.box [.bool false] none,.box (ay x) none,.box [.ai] none,.box [.bool false] none]) (by simp[hN]) none;rw[hr]at he;simp(disch:=omega) only[go_sem,simprocAttr,M8,hN,hm,m,he];rw[<-hr];generalize G: ((((((((((((((dc _).set 3 _).set 6 _).set 7 _).set 13 _).set 14 _).set 15 _).set 8 _).set 16 _).set 17 _).set 18 _).set 9 _).set 10 _).set 20 _).set 21 _=e;have J:e 3= .ptr N 0:=by rw[<-G];rfl
  have q6:e 6= .ptr (N+1) 0:=by rw[<-G];rfl
  have q7:e 7= .ptr (N+2) 0:=by rw[<-G];rfl
  have q8:e 8= .ptr (N+3) 0:=by rw[<-G];rfl
  have q9:e 9= .ptr (N+4) 0:=by rw[<-G];rfl
  have Og:e 10= .ptr (N+5) 0:=by rw[<-G];rfl
  have q21: (ao.t 21).get e= .fn (.func rk) [] [.ptr (N+6+1) 0]:=by rw[<-G];rfl
  clear G;obtain⟨F,Hs⟩: ∃F,F=H++[ae.box [v] none,.box [.ai] none,.box [.bool false] none,.box (ay x) none,.box [.ai] none,.box [.bool false] none,.box [v] none,.box [v] none]:=⟨_,rfl⟩;have awq:F.length=N+8:=by rw[Hs];simp[hN]
  rw[<-Hs];have t: ∀k,F[N+k]?=[ae.box [v] none,.box [.ai] none,.box [.bool false] none,.box (ay x) none,.box [.ai] none,.box [.bool false] none,.box [v] none,.box [v] none][k]?:=λk=>by rw[Hs,bw hN]
  have awr:F[N]?=some (.box [v] none):=by rw[Hs,dn hN];rfl
  have RF:ak4 H N v ⟨x,false,[],none,.ai,false⟩ F:=by
   refine⟨λi b=>by rw[Hs,aaF (by omega)],awr,t 1,t 2,t 3,t 5,.inl ⟨rfl,rfl,t 4⟩⟩
  have qU:x.1+x.2<=64:=by unfold lu at m;simp at m;omega
  refine JH (Xt H N v) (awp H N v) (ux l) (N+6) [.box [v] none,.box [v] none] F ⟨x,false,[],none,.ai,false⟩ (by rw[q21];rfl) (by rw[q21];exact awo v l hv hl (N+6) _)
   (λi b=>?_) (by simp[awq]) (λi b=>?_) RF rfl (Xu l x v) (ak5 l x v) ⟨rfl,qU,by simp,rfl,rfl⟩ (λex s h=>?_) ?_ ?_ ?_
  ·match i,b with
   |0,_=>exact t 6
   |1,_=>exact t 7
  ·have:i<N+6:=b;simp only[ajC,apY];omega
  ·exact⟨.ret,by rw[h.1];rfl,by rw[h.1];rfl,by rw[h.1];rfl⟩
  ·intro j y s hy hI;have hj:j<l.length:=by
    have:=(aaG.1 hy).1;rwa[Al]at this
   rw[Oe hj]at hy;cases hy;have aws:l.drop j=l.getD j default::l.drop (j+1):=by
    rw[aqn hj,aiu,abe hj];rfl
   have hym:=hl.2 _ (eV hj);generalize l.getD j default=y at*;refine⟨rfl,λW hP wX=>?_⟩;obtain⟨n,hn⟩: ∃n,W.length=n:=⟨_,rfl⟩;simp(disch:=omega) only[go_sem,simprocAttr,iJ,hn];refine⟨[.box (ay y) none],rfl,λQ hW2 RE=>?_⟩;obtain⟨g1,g2,g3,g4⟩:=hI;rw[aws]at g1;obtain⟨p0,p1,p2,p3,p4,p5,Y⟩:=RE;have w:Q.length=n:=by omega
   have f3: ∀L,(Q++L)[N+3]?=some (.box (ay s.x) none):=λL=>bf p4
   have f5: ∀L,(Q++L)[N+5]?=some (.box [.bool s.put] none):=λL=>bf p5
   have f0: ∀L,(Q++L)[N]?=some (.box [v] none):=λL=>bf p1
   have f1: ∀L,(Q++L)[N+1]?=some (.box [s.res] none):=λL=>bf p2
   have f2: ∀L,(Q++L)[N+2]?=some (.box [.bool s.ok] none):=λL=>bf p3
   have hnN:N+10<=n:=by omega
   have Xy:=hl.1;have ey:=C9 y (by omega);have ex:=C9 s.x (by omega);have M:SV (N+4) 2 fu (Q++[.box (ay y) none]) s.row (s.out.map ay):=Y.st (by rw[aaF (by omega)]) λi b=>by
    obtain⟨_,_,_,_,q⟩:=Y.row b;rw[aaF (fi q)]
   have f: ∀i,s.row=some i->N+6<=i:=by
    intro i b;rcases Y with⟨q,_⟩| ⟨id,aj,q,_,K,J,S⟩
    ·rw[q]at b;cases b
    ·rw[q]at b;cases b;have:i≠N+5:=by rintro rfl;rw[p5]at S;cases S
     omega
   have Qu: (Q++[ae.box (ay y) none]).length=n+1:=by simp[w]
   have fin: ∀ (A:List ae) (g:Db) (Oh:oN) (fr:Fr),(∀i,i<n->i≠N+3->i≠N+4->i≠N+5->s.row≠some i->A[i]?=Q[i]?)->A[N+3]?=some (.box (ay g.x) none)->A[N+5]?=some (.box [.bool g.put] none)->
     SV (N+4) 2 fu A g.row (g.out.map ay)->g.res=s.res->g.ok=s.ok->n<=A.length->((Oh=none/\g.row=s.row)\/ (∃j,N<=j/\j<N+10/\Oh=some j/\ (g.row=s.row\/ ∃r,g.row=some r/\n<=r)))->Xu l x v (j+1) g->
     ah0 (Xt H N v) (F.length+2) s Q (Xu l x v (j+1)) (ak5 l x v) .normal fr ⟨A,Oh⟩:=by
    intro A g Oh fr h1 h2 h3 h4 h5 h6 h7 h8 h9;have T: ∀i,i<N+3->A[i]?=Q[i]?:=λi b=>h1 i (by omega) (by omega) (by omega) (by omega) (λe=>by have:=f i e;omega)
    refine⟨g,⟨λi b=>by rw[T i (by omega)];exact p0 i b,by rw[T N (by omega)];exact p1,by rw[T (N+1) (by omega),h5];exact p2,by rw[T (N+2) (by omega),h6];exact p3,h2,h3,h4⟩,⟨by show Q.length<=A.length;omega,λi b hp hr=>?_⟩,?_,h9⟩
    ·have ou: ¬i<N+6:=hp;exact h1 i (by omega) (by omega) (by omega) (by omega) hr
    ·rcases h8 with h8| ⟨j,C,K,J,S⟩
     ·exact .inl h8
     ·refine .inr ⟨j,C,by omega,J,?_⟩;rw[w];exact S
   have E: ∀af:List lA,af.length<=200->(af.length+1)*16<=room:=λaf h=>by unfold room;omega
   by_cases c1:y.1+y.2<s.x.1
   ·have O: (y.1:Int)+y.2<s.x.1:=by omega
    obtain⟨R,v',W3,A,r',a1,a2,a3,a4,a5,P,a7⟩:=M.append (bytes:=16) (el:=ay y) (by omega) (by omega) rfl rfl (E _ (by simp;omega)) none;simp(disch:=omega) only[go_sem,simprocAttr,zR,q8,q9,w,f3,ey,O,a1,a2,a3,EO,aqo];refine fin A {s with out:=s.out++[y],row:=r'} _ _ (λi C K J S q5=>?_) ?_ ?_ (by rw[aiw];exact a4) rfl rfl (by omega) (.inr ⟨N+4,by omega,by omega,rfl,?_⟩) ⟨?_,g2,by simp;omega,g4⟩
    ·rw[P i (by omega) J q5,aaF (by omega)]
    ·rw[P _ (by omega) (by omega) (λq=>by have:=f _ q;omega)];exact f3 _
    ·rw[P _ (by omega) (by omega) (λq=>by have:=f _ q;omega)];exact f5 _
    ·rcases a7 with q| ⟨q,C,K⟩
     ·exact .inl q
     ·exact .inr ⟨q,C,by omega⟩
    ·rw[g1,hZ,aaR c1]
   have O: ¬(y.1:Int)+y.2<s.x.1:=by omega
   by_cases c2:s.x.1+s.x.2<y.1
   ·have X: (y.1:Int)>s.x.1+s.x.2:=by omega
    cases c:s.put
    ·obtain⟨R,v',W3,A,r',a1,a2,a3,a4,a5,P,a7⟩:=M.append (bytes:=16) (el:=ay s.x) (by omega) (by omega) rfl rfl (E _ (by simp;omega)) none;have Xz: ∀i,r'=some i->N+6<=i:=by
      intro i b;rcases a7 with q| ⟨q,C,K⟩
      ·rw[q]at b;exact f i b
      ·rw[C]at b;cases b;omega
     have u5:A[N+5]?=some (.box [.bool false] none):=by
      rw[P _ (by omega) (by omega) (λq=>by have:=f _ q;omega),<-c];exact f5 _
     have un:A[n]?=some (.box (ay y) none):=by
      rw[P _ (by omega) (by omega) (λq=>?_),<-w]
      ·simp
      ·rcases Y with⟨z,_⟩| ⟨id,aj,z,_,z2,z3,z4⟩
       ·rw[z]at q;cases q
       ·rw[z]at q;cases q;have:=fi z4;omega
     have awt:SV (N+4) 2 fu (A.set (N+5) (.box [.bool true] none)) r' ((s.out++[s.x]).map ay):=by
      rw[aiw];exact SV.st a4 (aaD (by omega)) λi b=>aaD (by have:=Xz i b;omega)
     obtain⟨vw,v2,V,W6,r2,b1,b2,b3,b4,b5,b6,b7⟩:=awt.append (bytes:=16) (el:=ay y) (by rw[ajB];omega) (by omega) rfl rfl (E _ (by simp;omega)) (some (N+4));have b1':A[N+4]?=some (.box [vw] none):=by rw[<-b1,aaD (by omega)]
     have ala:cI (some (N+4)) (N+4)=some (N+4):=by simp[cI]
     simp(disch:=omega) only[go_sem,simprocAttr,zR,q8,q9,Og,w,f3,f5,ey,ex,O,X,a1,a2,a3,EO,aqo,c,u5,un,b1',b2,b3,ala];refine fin W6 {s with put:=true,out:=s.out++[s.x]++[y],row:=r2} _ _ (λi C K J S q5=>?_) ?_ ?_ (by rw[aiw];exact b4) rfl rfl (by rw[ajB]at b5;omega) (.inr ⟨N+4,by omega,by omega,rfl,?_⟩) ⟨?_,g2,by simp;omega,g4⟩
     ·have Rk:r'≠some i:=by
        intro q;rcases a7 with z| ⟨z,z1,z2⟩
        ·rw[z]at q;exact q5 q
        ·rw[z1]at q;cases q;omega
      rw[b6 i (by rw[ajB];omega) J Rk,aaD (by omega),P i (by omega) J q5,aaF (by omega)]
     ·rw[b6 _ (by rw[ajB];omega) (by omega) (λq=>by have:=Xz _ q;omega),aaD (by omega),P _ (by omega) (by omega) (λq=>by have:=f _ q;omega)];exact f3 _
     ·rw[b6 _ (by rw[ajB];omega) (by omega) (λq=>by have:=Xz _ q;omega)];exact ah5 (by omega)
     ·rcases b7 with q| ⟨q,C,K⟩
      ·rcases a7 with z| ⟨z,z1,z2⟩
       ·exact .inl (q.trans z)
       ·exact .inr ⟨z,q.trans z1,by omega⟩
      ·rw[ajB]at K;exact .inr ⟨q,C,by omega⟩
     ·rw[g1,hZ,aaH c1,aaR c2,c];simp
    ·obtain⟨R,v',W3,A,r',a1,a2,a3,a4,a5,P,a7⟩:=M.append (bytes:=16) (el:=ay y) (by omega) (by omega) rfl rfl (E _ (by simp;omega)) none;simp(disch:=omega) only[go_sem,simprocAttr,zR,q8,q9,Og,w,f3,f5,ey,ex,O,X,a1,a2,a3,EO,aqo,c];refine fin A {s with out:=s.out++[y],row:=r'} _ _ (λi C K J S q5=>?_) ?_ ?_ (by rw[aiw];exact a4) rfl rfl (by omega) (.inr ⟨N+4,by omega,by omega,rfl,?_⟩) ⟨?_,g2,by simp;omega,g4⟩
     ·rw[P i (by omega) J q5,aaF (by omega)]
     ·rw[P _ (by omega) (by omega) (λq=>by have:=f _ q;omega)];exact f3 _
     ·rw[P _ (by omega) (by omega) (λq=>by have:=f _ q;omega)];exact f5 _
     ·rcases a7 with q| ⟨q,C,K⟩
      ·exact .inl q
      ·exact .inr ⟨q,C,by omega⟩
     ·rw[g1,hZ,aaH c1,aaR c2,c];simp
   have X: ¬(y.1:Int)>s.x.1+s.x.2:=by omega
   by_cases c3:y.1+y.2=s.x.1
   ·have Oi: ((y.1:Int)+y.2=s.x.1)=True:=aCe (by omega);simp(disch:=omega) only[go_sem,simprocAttr,zR,q8,w,f3,ey,ex,O,X,Oi,aqo];refine fin _ {s with x:=(y.1,y.2+s.x.2)} _ _ (λi C K J S q5=>?_) ?_ ?_ (M.st (aaD (by omega)) λi b=>aaD (by have:=f _ b;omega)) rfl rfl (by rw[ajB];omega) (.inl ⟨rfl,rfl⟩) ⟨?_,by simp;omega,by simp;omega,g4⟩
    ·rw[aaD (by omega),aaF (by omega)]
    ·rw[ah5 (by omega)];rfl
    ·rw[aaD (by omega)];exact f5 _
    ·rw[g1,hZ,aaH c1,aaH c2,aaR c3]
   have Oi: ¬(y.1:Int)+y.2=s.x.1:=by omega
   by_cases c4:y.1=s.x.1+s.x.2
   ·have XD: ((y.1:Int)=s.x.1+s.x.2)=True:=aCe (by omega);simp(disch:=omega) only[go_sem,simprocAttr,zR,q8,w,f3,ey,ex,O,X,Oi,XD,aqo];refine fin _ {s with x:=(s.x.1,s.x.2+y.2)} _ _ (λi C K J S q5=>?_) ?_ ?_ (M.st (aaD (by omega)) λi b=>aaD (by have:=f _ b;omega)) rfl rfl (by rw[ajB];omega) (.inl ⟨rfl,rfl⟩) ⟨?_,by simp;omega,by simp;omega,g4⟩
    ·rw[aaD (by omega),aaF (by omega)]
    ·rw[ah5 (by omega)];rfl
    ·rw[aaD (by omega)];exact f5 _
    ·rw[g1,hZ,aaH c1,aaH c2,aaH c3,aaR c4]
   ·have XD: ¬(y.1:Int)=s.x.1+s.x.2:=by omega
    simp(disch:=omega) only[go_sem,simprocAttr,zR,J,q6,q7,q8,w,f0,f1,f2,f3,ey,ex,O,X,Oi,XD,aqo,Xx];obtain⟨Wf,Ht⟩: ∃Wf,Wf=((Q++[ae.box (ay y) none]).set (N+1) (ae.box [v] none)).set (N+2) (ae.box [AV.bool false] none):=⟨_,rfl⟩;rw[<-Ht];have hk: ∀i,i<n->i≠N+1->i≠N+2->Wf[i]?=Q[i]?:=λi C K J=>by
     rw[Ht,aaD (by omega),aaD (by omega),aaF (by omega)]
    have k1:Wf[N+1]?=some (.box [v] none):=by
     rw[Ht,aaD (by omega)];exact ah5 (by omega)
    have k2:Wf[N+2]?=some (.box [.bool false] none):=by
     rw[Ht];exact ah5 (by rw[ajB];omega)
    have kl:Wf.length=n+1:=by rw[Ht];simp[w]
    refine⟨{s with res:=v,ok:=false},⟨λi b=>?_,?_,k1,k2,?_,?_,?_⟩,⟨?_,λi b hp hr=>?_⟩,.inl ⟨rfl,rfl⟩,rfl,?_,rfl,rfl⟩
    ·show Wf[i]?=_;rw[hk i (by omega) (by omega) (by omega)];exact p0 i b
    ·show Wf[N]?=_;rw[hk N (by omega) (by omega) (by omega)];exact p1
    ·show Wf[N+3]?=_;rw[hk _ (by omega) (by omega) (by omega)];exact p4
    ·show Wf[N+5]?=_;rw[hk _ (by omega) (by omega) (by omega)];exact p5
    ·exact Y.st (hk _ (by omega) (by omega) (by omega)) λi b=>by
      obtain⟨_,_,_,_,q⟩:=Y.row b;have:=fi q;have:=f i b;exact hk i (by omega) (by omega) (by omega)
    ·show Q.length<=Wf.length;omega
    ·have ou: ¬i<N+6:=hp;exact hk i (by omega) (by omega) (by omega)
    ·rw[g1,hZ,aaH c1,aaH c2,aaH c3,aaH c4]
  ·intro g W' ak hI hP JJ hd pP XE;obtain⟨p0,p1,p2,p3,p4,p5,Y⟩:=hP;obtain⟨g1,g2,g3,g4,g5⟩:=hI;rw[Al,List.drop_length]at g1;rw[Al]at g3;have Xy:=hl.1;have U:dQ N ak:=by
    rcases XE with⟨rfl,_⟩| ⟨q,C,K,rfl⟩
    ·exact .inl rfl
    ·exact .inr ⟨q,C,rfl⟩
   have f: ∀i,g.row=some i->N+6<=i/\i≠F.length:=by
    intro i b;rcases Y with⟨q,_⟩| ⟨id,aj,q,_,K,J,S⟩
    ·rw[q]at b;cases b
    ·rw[q]at b;cases b;have:i≠N+5:=by rintro rfl;rw[p5]at S;cases S
     exact⟨by omega,by rintro rfl;rw[hd]at S;cases S⟩
   obtain⟨B,hB⟩: ∃B,B=((PC.aL [o 83 (I.load false 1 (ao.t 9)),o 84 (I.build [AV.ai] [(0,1,ao.t 83)]),u (I.store 1 (ao.t 6) (ao.t 84)),u (I.store 1 (ao.t 7) (ao.c (AV.bool true)))]).seq PC.ret):=⟨_,rfl⟩;rw[<-hB];have fin: ∀ (V:List ae) (Z:oN) (fr:Env) (out:List aE) (r5:oN),(∀i,i<N->V[i]?=H[i]?)->SV (N+4) 2 fu V r5 (out.map ay)->(∃z,V[N+1]?=some (.box [z] none))->(∃z,V[N+2]?=some (.box [z] none))->
     V[F.length]?=some .bE->dQ N Z->hZ x false [] l=some out->fr 9= .ptr (N+4) 0->fr 6= .ptr (N+1) 0->fr 7= .ptr (N+2) 0->
     wp X0 BB false B ⟨fr,[F.length]⟩ ⟨V,Z⟩
      (dw X0 N lo [RV.cell 6 true 1,RV.cell 7 false 1] λx_1=>x_1=aS.ret (qx v l x) ⟨H,lo⟩):=by
    intro V Z fr out r5 h1 h2 ⟨z1,h3⟩ ⟨z2,h4⟩ h5 h6 h7 h9 h10 y5;obtain⟨R,b1,b2,b3,b4,b5⟩:=h2.own (N:=N) (by omega) (by intro el sa;obtain⟨r,_,rfl⟩:=ais.1 sa;rfl);have hl5:F.length<V.length:=fi h5;have s1: (V.set (N+1) (ae.box [R] none))[N+1]?=some (.box [R] none):=ah5 (by omega);have s2: ((V.set (N+1) (ae.box [R] none)).set (N+2) (ae.box [AV.bool true] none))[N+2]?=some (.box [.bool true] none):=ah5 (by rw[ajB];omega);have e1:qx v l x= .au [.agg [eA out],.bool true]:=by unfold qx iA;rw[aaR m,h7]
    have JG:b9 (out.map ay)=0:=bz (λ_=>rfl) out;have pP:bt R (out.map ay)=eA out:=by
     rcases b2.2 with⟨rfl,q⟩| ⟨id,aj,_,rfl,_⟩
     ·have:out=[]:=atS.1 q;subst this;rfl
     ·unfold eA;cases out with
      |nil=>
       rcases h2 with⟨_,_,q⟩| ⟨_,_,_,q,_⟩
       ·rw[q]at b1;cases b1
       ·exact absurd rfl q
      |cons a l2=>rfl
    rw[hB];simp(disch:=omega) only[go_sem,simprocAttr,h9,h10,y5,b1,b3,b4,h3,h4,h5,s1,s2,nO];have XF: ∀XG,Fz ⟨((V.set (N+1) (ae.box [R] none)).set (N+2) (ae.box [AV.bool true] none)).set F.length ae.dead,XG⟩ N 12 (.au [.agg [R],.bool true]) (.au [.agg [eA out],.bool true]):=by
     intro XG;have awx:aN N (((V.set (N+1) (ae.box [R] none)).set (N+2) (ae.box [AV.bool true] none)).set F.length ae.dead) R 2 fu (out.map ay):=by
      obtain⟨c1,c2⟩:=b2;refine⟨c1,?_⟩;rcases c2 with c2| ⟨id,aj,c3,c4,c5⟩
      ·exact .inl c2
      ·have d1:id≠N+1:=by rintro rfl;rw[h3]at c5;cases c5
       have d2:id≠N+2:=by rintro rfl;rw[h4]at c5;cases c5
       have d3:id≠F.length:=by rintro rfl;rw[h5]at c5;cases c5
       exact .inr ⟨id,aj,c3,c4,by rw[aaD (by omega),aaD (by omega),aaD (by omega)];exact c5⟩
     have f1:=Fz.own (d:=0) (lo:=XG) awx (by omega);rw[pP]at f1;exact(Fz.au (.cons (Fz.agg (.cons f1 .nil)) (.cons ((Fz.low (d:=0) (by simp[AV.refs])).mono (by omega)) .nil))).mono (by omega)
    have oY: (((V.set (N+1) (ae.box [R] none)).set (N+2) (ae.box [AV.bool true] none)).set F.length ae.dead).take N=H:=iZ hN λi b=>by
     rw[aaD (by omega),aaD (by omega),aaD (by omega)];exact h1 i b
    have hl6:dQ N (if R.refs<=N+1+1 then Z else cI Z (N+1)):=by
     split
     ·exact h6
     ·exact h6.min (p:=N+1) (by omega) (.inr rfl)
    rw[sS hl6 (XF _),oY,e1]
   have p0': ∀i,i<N->W'[i]?=H[i]?:=p0;have p1':W'[N+1]?=some (.box [g.res] none):=p2;cases c:g.put
   ·have M:SV (N+4) 2 fu W' g.row (g.out.map ay):=Y;obtain⟨R,v',W3,A,r',a1,a2,a3,a4,a5,P,a7⟩:=M.append (bytes:=16) (el:=ay g.x) (by omega) (by omega) rfl rfl (by unfold room;simp;omega) ak;have k: ∀i,i<N+4->A[i]?=W'[i]?:=λi b=>P i (by omega) (by omega) (λq=>by have:=(f _ q).1;omega)
    simp(disch:=omega) only[go_sem,simprocAttr,q8,q9,Og,p4,p5,c,a1,a2,a3];refine fin A _ _ (g.out++[g.x]) r' (λi b=>by rw[k i (by omega)];exact p0' i b) (by rw[aiw];exact a4) ⟨_,by rw[k (N+1) (by omega)];exact p2⟩ ⟨_,by rw[k (N+2) (by omega)];exact p3⟩ ?_ (U.min (p:=N+4) (by omega) (.inr rfl)) ?_ q9 q6 q7
    ·rw[P F.length (by omega) (by omega) (λq=>(f _ q).2 rfl)];exact hd
    ·rw[g1,hZ,c];rfl
   ·simp(disch:=omega) only[go_sem,simprocAttr,Og,p5,c];refine fin W' _ _ g.out g.row p0' Y ⟨_,p2⟩ ⟨_,p3⟩ hd U ?_ q9 q6 q7;rw[g1,hZ,c];rfl
  ·intro ex g W' ak hJ hP JJ hd pP XE;obtain⟨p0,p1,p2,p3,p4,p5,Y⟩:=hP;obtain⟨rfl,g1,g2,g3⟩:=hJ;have U:dQ N ak:=by
    rcases XE with⟨rfl,_⟩| ⟨q,C,K,rfl⟩
    ·exact .inl rfl
    ·exact .inr ⟨q,C,rfl⟩
   rw[g2]at p2;rw[g3]at p3;have e1:qx v l x= .au [.agg [v],.bool false]:=by unfold qx iA;rw[aaR m,g1]
   have XF:Fz ⟨W'.set F.length ae.dead,ak⟩ N 12 (.au [.agg [v],.bool false]) (.au [.agg [v],.bool false]):=Fz.low (by simp[AV.refs,aG,Xx]);have oY: (W'.set F.length ae.dead).take N=H:=iZ hN λi b=>by rw[aaD (by omega)];exact p0 i b
   simp(disch:=omega) only[go_sem,simprocAttr,q6,q7,nO,hd,p2,p3];rw[sS U XF,oY,e1]
def alc(t:aw)(x:Nat): (aJ t x).1.up=bK t x:=by unfold aJ bK;split<;>rfl
theorem ky{r:dk}:aH [AV.int .u32 0,.int .i64 0,.ai,.int .i64 0,.int .u32 0,.int .u32 0,.int .u32 0,.int .u32 0,.int .u32 0,.int .u32 0,.int .u32 0,.int .u32 0] 0 (bW r)=bW r:=by rfl
def XH(t:aw)(h:Nat)(N:Nat)(H:List ae)(b:H.length=N)(lo:oN):D X0 (.fn (.func Fp) [] []) [.agg (aI t),.int .u32 h] ⟨H,lo⟩=some (.ret (.fn (.func Fw) [] [.ptr N 0,.ptr (N+1) 0]) ⟨H++[.box (aI t) none,.box [.int .u32 h] none],lo⟩):=by
 refine aF VM λM a=>?_
 obtain rfl:M=N:=by omega
 simp only[go_sem,simprocAttr,VM,a];rw[Da (by omega)]
def nP(t:aw)(h:Nat):List lA:=(aR t h).map λx=>[.int .u32 (x:Nat)]
def XI(t:aw)(ht:bR t)(hT:cu t)(h:Nat)(hh:h<4294967296)(a:Nat):
  vg X0 (.fn (.func Fw) [] [.ptr a 0,.ptr (a+1) 0]) a [.box (aI t) none,.box [.int .u32 h] none] (nP t h):=by
 intro S V y I J b P m u9 W s hP h0 wX z hG lo;have o: ∀i,V.dW i->i<b:=λi hi=>(m i hi).1
 suffices h: ∃Y,D X0 (.fn (.func Fw) [] [.ptr a 0,.ptr (a+1) 0]) [y] ⟨W,lo⟩=some Y/\
   (λY=> ∃v u ak,Y=aS.ret (.au []) ⟨u,ak⟩/\V.P v u/\ (I (nP t h).length v\/J v)/\b<=u.length/\
     (∀i,i<b-> ¬V.dW i-> ¬(a<=i/\i<a+[ae.box (aI t) none,.box [.int .u32 (h:Nat)] none].length)->u[i]?=W[i]?)/\nf V.c b lo ak none (V.row v)) Y by
  obtain⟨Y,h1,v,u,ak,rfl,q1,q2,q3,q4,q5⟩:=h;exact⟨v,u,ak,h1,q1,q2,q3,q4,q5⟩
 refine v8 V8 rfl rfl rfl λN hN=>?_
 obtain rfl:N=b:=by omega
 have g0:W[a]?=some (.box (aI t) none):=hG 0 (by simp);have g1:W[a+1]?=some (.box [.int .u32 h] none):=hG 1 (by simp);have ha:=fi g1;have XJ: ¬V.dW a:=λq=>(m a q).2 ⟨by omega,by simp⟩
 have A: ¬V.dW (a+1):=λq=>(m _ q).2 ⟨by omega,by simp⟩
 simp only[go_sem,simprocAttr,V8];refine gX ((aR t h).length+1) (λk e u ak=> ∃v x,I k v/\ka V N W (λi=>a<=i/\i<a+[ae.box (aI t) none,.box [.int .u32 (h:Nat)] none].length) v u ak/\u[a]?=some (.box (aI t) none)/\u[a+1]?=some (.box [.int .u32 (x:Nat)] none)/\x<4294967296/\k<=(aR t h).length/\aR t x=(aR t h).drop k/\e 0=y/\e 1= .ptr a 0/\e 2= .ptr (a+1) 0) 0 (by omega) ?_ ?_
 ·simp only[go_sem,simprocAttr];exact⟨s,h,h0,⟨hP,by omega,λ_ _ _ _=>rfl,.inl ⟨rfl,z⟩,λr e=>by rw[z]at e;cases e⟩,g0,g1,hh,rfl⟩
 rintro k hk e W1 Q ⟨s1,x,hI,X,w0,w1,hx,XK,p,e0,e1,e2⟩ n U;have g:=ui hT x;have XL:N<=n:=by have:=X.len;omega
 have f0: ∀L,(W1++L)[a]?=some (.box (aI t) none):=λL=>bf w0
 have f1: ∀L,(W1++L)[a+1]?=some (.box [.int .u32 x] none):=λL=>bf w1
 have Z:=vZ t ht x hx;have hu:=alc t x;have f: (aJ t x).2=if t.ax x then 0 else 4:=by unfold aJ;split<;>rfl
 have B: ∀L,bK t x=0-> ∃j d,finish N lo (.au []) ⟨W1++L,Q⟩=(.au [],⟨j,d⟩)/\V.P s1 j/\ (I (nP t h).length s1\/J s1)/\N<=j.length/\ (∀i,i<N-> ¬V.dW i-> ¬(a<=i/\i<a+[ae.box (aI t) none,.box [.int .u32 (h:Nat)] none].length)->j[i]?=W[i]?)/\nf V.c N lo d none (V.row s1):=by
  intro L G;obtain⟨j,d,w,F,l,E,C⟩:=(X.push P o L).fin P o (dI:=lo);refine⟨j,d,w,F,.inl ?_,l,E,C⟩;rw[aaR G]at g;rw[g]at p;have:=ajV List.length p;rw[apj]at this;have e: (nP t h).length=(aR t h).length:=by simp[nP]
  simp only[apY]at this;rw[e,show(aR t h).length=k by omega];exact hI
 cases H:t.ax x
 ·rw[H]at f;have G:bK t x=0:=by unfold bK;rw[H];rfl
  obtain⟨j,d,w,F,l,E,C,O⟩:=B [.box (bW (aJ t x).1) none] G;simp only[go_sem,simprocAttr,Hd,e1,e2,w0,w1,Z,nN,ky,f,U,w];exact⟨s1,j,d,rfl,F,l,E,C,O⟩
 ·rw[H]at f;by_cases G:bK t x=0
  ·obtain⟨j,d,w,F,l,E,C,O⟩:=B [.box (bW (aJ t x).1) none] G;simp only[go_sem,simprocAttr,Hd,e1,e2,w0,w1,Z,nN,ky,f,U,hu,G,w];exact⟨s1,j,d,rfl,F,l,E,C,O⟩
  ·have R: ¬((bK t x:Nat):Int)=0:=by omega
   rw[aaH G]at g;have hk':k< (aR t h).length:=by
    have:=ajV List.length (g ▸ p);rw[apj]at this;simp only[ajC]at this;omega
   have wS: (nP t h)[k]?=some [.int .u32 (bK t x:Nat)]:=by
    unfold nP;rw[ajP];have: (aR t h)[k]?=((aR t h).drop k)[0]?:=by rw[anb];rfl
    rw[this,<-p,g];rfl
   have M:=X.push P o [.box (bW (aJ t x).1) none];obtain⟨c,s2,W2,mH,w,F,l,E,C,O⟩:=u9 k _ s1 wS hI (W1++[.box (bW (aJ t x).1) none]) M.P M.len Q;have K:=M.step F l E C;have T: ∀i,i<N->V.row s1≠some i:=λi hi q=>by have:=X.row _ q;omega
   have v0:W2[a]?=some (.box (aI t) none):=by rw[l.2 a (by simp;omega) XJ (T _ (by omega))];exact f0 _
   have v1:W2[a+1]?=some (.box [.int .u32 x] none):=by rw[l.2 (a+1) (by simp;omega) A (T _ (by omega))];exact f1 _
   have hWn:n+1<=W2.length:=by have:=l.1;simp at this;omega
   have vn:W2[n]?=some (.box (bW (aJ t x).1) none):=by
    rw[l.2 n (by simp;omega) (λq=>by have:=o _ q;omega) (λq=>by have:=P.JK X.P q;omega)];rw[<-U];simp
   cases c
   ·obtain⟨j,d,q1,q2,q3,q4,q5⟩:=K.fin P o (dI:=lo);simp only[go_sem,simprocAttr,Hd,e0,e1,e2,w0,w1,Z,nN,ky,f,U,hu,R,w,q1];exact⟨s2,j,d,rfl,q2,.inr O,q3,q4,q5⟩
   ·simp(disch:=omega) only[go_sem,simprocAttr,Hd,e0,e1,e2,w0,w1,Z,nN,ky,f,U,hu,R,w,v0,v1,vn];refine⟨by omega,s2,bK t x,O,?_,?_,av1,by omega,?_⟩
    ·exact K.set P A (λq=>by have:=K.row _ q;omega) (.inl ⟨by omega,by simp⟩)
    ·exact ah5 (by omega)
    ·have:=ajV (List.drop 1) (g ▸ p);rw[arY]at this;simpa using this
def XM{t:aw}{x:lA}(a: (nP t h)[j]?=some x): ∃u,x=[.int .u32 (u:Nat)]/\ (aR t h)[j]?=some u:=by
 unfold nP at a
 grind
def XN(t:aw)(h:Nat): (nP t h).length=(aR t h).length:=by simp[nP]
def Oj(t:aw)(v:bR t)(q:cu t)(h:Nat)(m:h<4294967296)(H:List ae)(lo:oN):D X0 (.fn (.func BS) [] []) [.agg (aI t),.int .u32 h] ⟨H,lo⟩=some (.ret (.int .i64 (depth t h:Nat)) ⟨H,lo⟩):=by
 refine aF NK λN f=>?_
 have g:ax t.b h=t.ax h:=rfl;have a:=eF t.b h m;simp only[g]at a;cases b:t.ax h
 ·simp only[F1,go_sem,simprocAttr,NK,f,a,depth,b,ah2]
 ·rw[b]at a;have C:=XH t h (N+2) (H++[.box (aI t) none,.box [.int .i64 1] none]) (by simp[f]) none;simp only[go_sem,simprocAttr,NK,f,a,C];refine zd (S:=Nat) (λe=>e 5= .ptr (N+1) 0) (by simp only[go_sem,simprocAttr]) (nP t h) f [.box (aI t) none,.box [.int .u32 h] none] (λn=>[.box (aI t) none,.box [.int .i64 (n+1:Nat)] none]) (nB:=2) (λ_=>rfl) 0 (λj s=>s=j) (λ_ _=>False) rfl ?_ (by simp) rfl (λ_ _ h=>h.elim) ?_ ?_ ?_
  ·exact XI t v q h m (N+2)
  ·rintro e he j x s r rfl;obtain⟨u,rfl,hu⟩:=XM r;refine⟨rfl,λW n G z k=>?_⟩;simp only[go_sem,simprocAttr,iJ];refine⟨[],by simp,λJ E d=>?_⟩;simp only[gP,gO,aqt,ajG]at d;obtain⟨w0,w1⟩:=d;have hs:s< (aR t h).length:=(aaG.1 hu).1;have w:=q h;simp(disch:=omega) only[go_sem,simprocAttr,ajn,he,w1,ajJ,sU];refine⟨s+1,?_,λi I A=>aaD (by omega),rfl⟩;simp only[gP,gO,aqt,ajG];exact⟨by rw[aaD (by omega)];exact w0,ah5 (by omega)⟩
  ·rintro e he s W p y rfl c k B;simp only[gP,gO,aqt,ajG]at k;obtain⟨w0,w1⟩:=k;have l: ∀o,(W.set p o).take N=H:=λo=>(c.set (by omega)).take f
   simp only[F1,go_sem,simprocAttr,he,w1,B,nO,l];rw[XN];refine cU (ajV _ ?_) rfl;unfold depth;rw[aaR b];omega
  ·rintro e he ex s W p y F;exact F.elim
def awz{t:aw}(b:cu t)(c:h<4294967296):root t h<4294967296:=by
 unfold root;split
 ·cases e:aR t h with
  |nil=>grind
  |cons a l=>
   have hm: (aR t h).getLastD h∈aR t h:=by grind
   rw[<-e];exact gn (av2 b hm)
 ·omega
def Am(t:aw)(r:bR t)(C:cu t)(h:Nat)(m:h<4294967296)(H:List ae)(lo:oN):D X0 (.fn (.func vl) [] []) [.agg (aI t),.int .u32 h] ⟨H,lo⟩=some (.ret (.int .u32 (root t h:Nat)) ⟨H,lo⟩):=by
 refine aF ND λN f=>?_
 have g:ax t.b h=t.ax h:=rfl;have a:=eF t.b h m;simp only[g]at a;cases b:t.ax h
 ·simp only[F1,go_sem,simprocAttr,ND,f,a,root,b,ah2]
 ·rw[b]at a;have A:=XH t h (N+2) (H++[.box (aI t) none,.box [.int .u32 h] none]) (by simp[f]) none;simp only[go_sem,simprocAttr,ND,f,a,A];refine zd (S:=Nat) (λe=>e 3= .ptr (N+1) 0) (by simp only[go_sem,simprocAttr]) (nP t h) f [.box (aI t) none,.box [.int .u32 h] none] (λn=>[.box (aI t) none,.box [.int .u32 (n:Nat)] none]) (nB:=2) (λ_=>rfl) h (λj s=>s=((aR t h).take j).getLastD h) (λ_ _=>False) rfl ?_ (by simp) rfl (λ_ _ h=>h.elim) ?_ ?_ ?_
  ·exact XI t r C h m (N+2)
  ·rintro e he j x s q rfl;obtain⟨u,rfl,hu⟩:=XM q;refine⟨rfl,λW n F w k=>?_⟩;simp only[go_sem,simprocAttr,iJ];refine⟨[],by simp,λI B d=>?_⟩;simp only[gP,gO,aqt,ajG]at d;obtain⟨w0,w1⟩:=d;simp only[go_sem,simprocAttr,ajj,he,w1,ajJ,sU];refine⟨u,?_,λi G y=>aaD (by omega),?_⟩
   ·simp only[gP,gO,aqt,ajG];exact⟨by rw[aaD (by omega)];exact w0,ah5 (by omega)⟩
   ·rw[ajN,hu];simp
  ·rintro e he s W p v rfl c k z;simp only[gP,gO,aqt,ajG]at k;obtain⟨w0,w1⟩:=k;have l: ∀o,(W.set p o).take N=H:=λo=>(c.set (by omega)).take f
   simp only[F1,go_sem,simprocAttr,he,w1,z,nO,l];rw[XN,aiv];refine cU (ajV _ ?_) rfl;unfold root;rw[aaR b]
  ·rintro e he ex s W p v E;exact E.elim
noncomputable def ml:lA->AS->Option aS:=oA X0 (D X0) Lw iM MT
noncomputable def X1:Ctx:={X0 with bZ:=λf=>if f=iM then some ml else none}
noncomputable def nQ:lA->AS->Option aS:=oA X1 (D X1) Lw ke MO
noncomputable def X2:Ctx:={X0 with bZ:=λf=>if f=iM then some ml else if f=ke then some nQ else none}
noncomputable def qy:lA->AS->Option aS:=oA X2 (D X2) Lw mI GU
noncomputable def X3:Ctx:={X0 with bZ:=λf=>if f=iM then some ml else if f=ke then some nQ else if f=mI then some qy else none}
noncomputable def sb:lA->AS->Option aS:=oA X3 (D X3) Lw ng Nt
noncomputable def X4:Ctx:={X0 with bZ:=λf=>if f=iM then some ml else if f=ke then some nQ else if f=mI then some qy else if f=ng then some sb else none}
noncomputable def xS:lA->AS->Option aS:=oA X4 (D X4) Lw rl Ns
noncomputable def X5:Ctx:={X0 with bZ:=λf=>if f=iM then some ml else if f=ke then some nQ else if f=mI then some qy else if f=ng then some sb else if f=rl then some xS else none}
noncomputable def An:lA->AS->Option aS:=oA X5 (D X5) Lw sV Nr
noncomputable def X6:Ctx:={X0 with bZ:=λf=>if f=iM then some ml else if f=ke then some nQ else if f=mI then some qy else if f=ng then some sb else if f=rl then some xS else if f=sV then some An else none}
noncomputable def Dc:lA->AS->Option aS:=oA X6 (D X6) Lw pR GP
noncomputable def X:Ctx:={X0 with bZ:=λf=>if f=iM then some ml else if f=ke then some nQ else if f=mI then some qy else if f=ng then some sb else if f=rl then some xS else if f=sV then some An else if f=pR then some Dc else none}
def Hu{P:FuncId->Option (lA->AS->Option aS)}(h: ∀f,kL.contains f=false->P f=none):Ext X0 {X0 with bZ:=P}where
 dp:=rfl
 fo:=rfl
 code:=rfl
 bZ:=λf=>by
  cases a:kL.contains f
  ·left;exact h f a
  ·right
   refine⟨rfl,?_⟩;show(if kL.contains f then none else zX.lookup f)=none
   grind
def ie{g:FuncId}(h:kL.contains f=false)(a:kL.contains g=true):f≠g:=by grind
def ale:Ext X0 X2:=Hu λf h=>by rw[aaH (ie h rfl),aaH (ie h rfl)]
def awA:Ext X0 X3:=Hu λf h=>by rw[aaH (ie h rfl),aaH (ie h rfl),aaH (ie h rfl)]
def awB:Ext X0 X4:=Hu λf h=>by rw[aaH (ie h rfl),aaH (ie h rfl),aaH (ie h rfl),aaH (ie h rfl)]
def alf:Ext X0 X6:=Hu λf h=>by rw[aaH (ie h rfl),aaH (ie h rfl),aaH (ie h rfl),aaH (ie h rfl),aaH (ie h rfl),aaH (ie h rfl)]
def dt:Ext X0 X:=Hu λf h=>by rw[aaH (ie h rfl),aaH (ie h rfl),aaH (ie h rfl),aaH (ie h rfl),aaH (ie h rfl),aaH (ie h rfl),aaH (ie h rfl)]
def awC(p:Nat->Bool)(k:Nat): (List.range (k+1)).filter p=(List.range k).filter p++(if p k then[k]else[]):=by grind [List.range_succ]
def aN.le{N M:Nat}{H:List ae}{ty:TypeId}(h:aN N H v sz ty af)(b:M<=N):aN M H v sz ty af:=by
 obtain⟨a,c⟩:=h;refine⟨a,?_⟩
 grind
def sc(b:cM)(k:Nat):lN:=((List.range k).filter λi=>(b i).eU).map λi=>dg i (b i).gen
def awD(b:cM)(k:Nat):sc b (k+1)=if(b k).eU then sc b k++[dg k (b k).gen]else sc b k:=by
 unfold sc;rw[awC]
 grind
def awE(b:cM)(k:Nat): (sc b k).length<=k:=by
 unfold sc
 grind
def XO(b:cM)(z:gS b)(N:Nat)(H:List ae)(w:H.length=N)(lo:oN): ∃v J,ml [.agg (ca b)] ⟨H,lo⟩=some (.ret v ⟨H++J,lo⟩)/\aN (N+1) (H++J) v 1 cg ((bo b).map hC):=by
 suffices h: ∃o,ml [.agg (ca b)] ⟨H,lo⟩=some o/\ (λo=> ∃v J,o=aS.ret v ⟨H++J,lo⟩/\aN (N+1) (H++J) v 1 cg ((bo b).map hC)) o by
  obtain⟨o,m,v,J,rfl,A⟩:=h;exact⟨v,J,m,A⟩
 refine wW (X:=X0) MT rfl λM D=>?_
 obtain rfl:M=N:=by omega
 have u: (H++[ae.box (ca b) none]).length=M+1:=by simp[w]
 simp only[go_sem,simprocAttr,MT,w];refine dB 32 (λk e H'=>(H++[ae.box (ca b) none])<+:H'/\ (∃v,e 3=v/\aN (M+1) H' v 1 cg ((sc b k).map hC))/\e 1= .ptr M 0/\e 7= .int .i64 k) 0 (by omega) ?_ ?_
 ·simp only[go_sem,simprocAttr];exact⟨ar0,_,rfl,aN.ai⟩
 rintro k C e H' ⟨⟨L,rfl⟩,⟨v,y,a⟩,m,x⟩ n B;have j: (H++[ae.box (ca b) none]++L)[M]?=some (.box (ca b) none):=by rw[aaS,dn w];rfl
 have t:=av7 b z k (H++(.box (ca b) none::L)) none;simp only[aaS,ajW,ajS]at j;have q:=awE b k;simp only[bO,go_sem,simprocAttr,aiK,m,y,x,j,t,atR];refine⟨λh=>?_,λh=>?_⟩
 ·have c:k<32:=by omega
  have d:=awD b k;cases hs: (b k).eU
  ·rw[hs]at d;simp(disch:=omega) only[go_sem,simprocAttr,c,m,y,x,dT];rw[d];exact⟨⟨L,by simp⟩,v,rfl,by simpa using a⟩
  ·rw[hs]at d;simp only[go_sem,simprocAttr,c,y,dT];have i: (H++[ae.box (ca b) none])<+: (H++(.box (ca b) none::L)):=⟨L,by simp⟩;have g:aN (M+1) (H++(.box (ca b) none::L)) v 1 cg ((sc b k).map hC):=by simpa using a
   refine oy (H0:=H++[ae.box (ca b) none]) (ys:=[[.int .u32 (dg k (b k).gen:Nat)]]) g i u (by omega) (by intro el s;rw[ahc.1 s];rfl) rfl (by unfold room;simp;omega) λv' E f r=>?_
   simp(disch:=omega) only[go_sem,simprocAttr,m,x];refine⟨c,r,?_⟩;rw[d];have:List.map hC (sc b k++[dg k (b k).gen])=List.map hC (sc b k)++[[.int .u32 (dg k (b k).gen:Nat)]]:=by simp[hC]
   simp only[ajQ];rw[this];exact⟨v',rfl,f⟩
 ·obtain rfl:k=32:=by omega
  have:bo b=sc b 32:=rfl;rw[this];simp only[go_sem,simprocAttr,sT,ga];exact⟨_,_,rfl,by simpa using a⟩
def uy{X:Ctx}{p:lA->AS->Option aS}{args:lA}{E:AS}{r:aS}(a:X.bZ f=some p)(h:p args E=some r):D X (.fn (.func f) [] []) args E=some r:=EJ a h
def alg(b:cM)(d:gS b)(N:Nat)(H:List ae)(e:H.length=N)(lo:oN): ∃v J,nQ [.agg (ca b)] ⟨H,lo⟩=some (.ret v ⟨H++J,lo⟩)/\aN (N+1) (H++J) v 1 cg ((bo b).map hC):=by
 suffices h: ∃a,nQ [.agg (ca b)] ⟨H,lo⟩=some a/\ (λa=> ∃v J,a=aS.ret v ⟨H++J,lo⟩/\aN (N+1) (H++J) v 1 cg ((bo b).map hC)) a by grind
 refine wW (X:=X1) MO rfl λM g=>?_
 obtain rfl:M=N:=by omega
 obtain⟨v,J,e1,f⟩:=XO b d (M+1) (H++[.box (ca b) none]) (by grind) none;have c:D X1 (.fn (.func iM) [] []) [.agg (ca b)] ⟨H++[.box (ca b) none],none⟩=some (.ret v ⟨H++[.box (ca b) none]++J,none⟩):=uy (p:=ml) rfl e1;simp only[go_sem,simprocAttr,MO,e,c,sT,ga];exact⟨_,_,rfl,(aN.le (M:=M+1) f (by omega)).mono (by simp)⟩
def qz{H:List ae}{o:ae}(h:H[i]?=some o):H.set i o=H:=by
 apply apn
 grind
def alh{H:List ae}{id:Nat}{ty:TypeId}(h:H[id]?=some (.row aj 1 ty af))(a:i<af.length)(b: ∀el∈af,el.length=1)(g:v.cn=false)(f:v.cells=[v])(d:v.refs=0):
  j4 ⟨H,lo⟩ 1 (.dm id aj i 0) v=some ⟨H.set id (.row aj 1 ty (af.set i [v])),lo⟩:=by
 have c:=b _ (aui a);simp only[j4,h,abe a];rw[aaR ⟨trivial,c,g,by grind,by omega⟩];have e:aH af[i] 0 v.cells=[v]:=by
  rw[f];simp only[aH,List.take_zero,ajS,ajC,apY,alv]
  grind
 rw[e];simp[AS.set,d]
def Hv{H:List ae}{id:Nat}{ty:TypeId}{c:Bool}(h:H[id]?=some (.row aj 1 ty af))(d:n<=af.length)(b: ∀el∈af,el.length=1):Rd ⟨H,lo⟩ (.ref id aj 1 0 n c) 1 (af.take n):=by
 refine⟨trivial,?_,λel a=>b el (ajY a)⟩;simp only[Den.elems,h]
 grind
def awF{id:Nat}(h:i<=n):gd 1 (.ref id aj 1 0 n false) (some (.int .i64 (i:Nat))) none none=some (.ref id aj 1 i (n-i) false):=by
 simp only[gd,gb,lR,lS]
 grind
def ali{id:Nat}(h:i<=n):gd 1 (.ref id aj 1 0 n false) none (some (.int .i64 (i:Nat))) none=some (.ref id aj 1 0 i false):=by
 simp only[gd,gb,lR,lS]
 grind
def kept(p:Nat->Bool)(l:lN)(k:Nat):lN:=(l.take k).filter λh=>!p h
def gq(p:Nat->Bool)(l:lN)(k:Nat):lN:=kept p l k++l.drop (kept p l k).length
section
variable{p:Nat->Bool}{l:lN}{k:Nat}
def XP: (kept p l k).length<=k:=ajU (ajZ _ _) (by grind)
def alj: (kept p l k).length<=l.length:=ajU (ajZ _ _) (by grind)
def Ao: (gq p l k).length=l.length:=by
 have:=alj (p:=p) (l:=l) (k:=k);simp only[gq,ahU,apj];omega
theorem getD_eq(a:k<l.length):l.getD k default=l[k]:=by grind
def Hw(a:k<l.length):kept p l (k+1)=if p (l.getD k default)=true then kept p l k else kept p l k++[l.getD k default]:=by
 have e:l.take (k+1)=l.take k++[l.getD k default]:=by simp_all
 unfold kept
 grind
def awG(a:k<l.length): (gq p l k).getD k default=l.getD k default:=by
 have b:=XP (p:=p) (l:=l) (k:=k);unfold gq
 grind
def awH(b:k<l.length)(a:p (l.getD k default)=false): (gq p l k).set (kept p l k).length (l.getD k default)=gq p l (k+1):=by
 have c:=XP (p:=p) (l:=l) (k:=k);have e:=Hw (p:=p) b;rw[a]at e;unfold gq;have d:l.drop (kept p l k).length=l[(kept p l k).length]'(by omega)::l.drop ((kept p l k).length+1):=aqn (by omega)
 grind
def awI(b:k<l.length)(a:p (l.getD k default)=true):gq p l (k+1)=gq p l k:=by
 have e:=Hw (p:=p) b;rw[aaR a]at e;unfold gq;rw[e]
def awJ(h:l.findIdx? p=some b):b<l.length/\kept p l (b+1)=l.take b:=by
 rw[aqv]at h;obtain⟨c,g,f⟩:=h;refine⟨c,?_⟩;rw[Hw c,aaR (by grind)];unfold kept;rw[List.filter_eq_self];intro a d;obtain⟨j,e,rfl⟩:=auk d
 grind
def alk:kept p l l.length=l.filter λh=>!p h:=by unfold kept;grind
end
def awK{H:List ae}{id off len:Nat}{c:Bool}{ty:TypeId}(h:H[id]?=some (.row aj 1 ty af))(a:off+len<=af.length):
  sA ⟨H,lo⟩ [.int .u32 0] (.ref id aj 1 off len c)=some ⟨H.set id (.row aj 1 ty (af.take off++(List.replicate len [.int .u32 0]++af.drop (off+len)))),lo⟩:=by
 simp only[sA,h];rw[aaR ⟨trivial,trivial,rfl,a,rfl⟩];simp[AS.set]
def map_set{β:Type}(g:α->β)(l:List α)(i:Nat)(x:α): (l.map g).set i (g x)=(l.set i x).map g:=by simp
def awL(id aj:Nat)(H:List ae)(l:lN)(hl:l.length<=1000)(i:H[id]?=some (.row aj 1 cg (l.map hC)))(fv:AV)(p:Nat->Bool)
  (T: ∀af,∀h∈l,D X2 fv [.int .u32 h] ⟨H.set id (.row aj 1 cg af),none⟩=some (.ret (.bool (p h)) ⟨H.set id (.row aj 1 cg af),none⟩)) (lo:oN):
  ∃rest,qy [.ref id aj 1 0 l.length false,fv] ⟨H,lo⟩=some (.ret (.ref id aj 1 0 (l.filter λh=>!p h).length false) ⟨H.set id (.row aj 1 cg ((l.filter λh=>!p h).map hC++rest)),lo⟩)/\ ∀el∈rest,el=[.int .u32 0]:=by
 suffices h: ∃A,qy [.ref id aj 1 0 l.length false,fv] ⟨H,lo⟩=some A/\ (λA=> ∃rest,A=aS.ret (.ref id aj 1 0 (l.filter λh=>!p h).length false) ⟨H.set id (.row aj 1 cg ((l.filter λh=>!p h).map hC++rest)),lo⟩/\ ∀el∈rest,el=[.int .u32 0]) A by grind
 have J:=(aaG.1 i).1;have V: ∀el∈l.map hC,el.length=1:=by intro el f;obtain⟨x,_,rfl⟩:=ais.1 f;rfl
 have Q:=qz i;have O: ∀h∈l,D X2 fv [.int .u32 h] ⟨H,none⟩=some (.ret (.bool (p h)) ⟨H,none⟩):=λh hm=>by
  have:=T (l.map hC) h hm;rwa[Q]at this
 have G:Rd ⟨H,none⟩ (.ref id aj 1 0 l.length false) 1 (l.map hC):=by
  have:=Hv (lo:=none) (c:=false) (n:=l.length) i (by simp) V;rwa[abk (by simp)]at this
 have w:=akW ale (.ref id aj 1 0 l.length false) fv l H G (by omega) p none O;refine wW (X:=X2) GU rfl λM hM=>?_
 cases m:l.findIdx? p with
 |none=>
  have K:fX p l= -1:=by unfold fX;rw[m]
  have N:l.filter (λh=>!p h)=l:=by
   rw[List.filter_eq_self];intro a Z;rw[List.findIdx?_eq_none_iff]at m;simp[m a Z]
  simp only[go_sem,simprocAttr,GU,w,K,sT,ga];exact⟨[],by rw[N,ajJ,Q],λ_ h=>by cases h⟩
 |some i0=>
  have K:fX p l=(i0:Nat):=by unfold fX;rw[m]
  have u: ((i0:Nat):Int)≠ -1:=by omega
  obtain⟨Y,v⟩:=awJ m;have b: ∀af,(H.set id (.row aj 1 cg af))[id]?=some (.row aj 1 cg af):=λaf=>ah5 J
  have P:gq p l (i0+1)=l:=by
   have e: (l.take i0).length=i0:=by rw[ajM];omega
   unfold gq;rw[v,e,aqr]
  simp(disch:=omega) only[go_sem,simprocAttr,GU,w,K,u];refine dB l.length (λk e H'=>H'=H.set id (.row aj 1 cg ((gq p l k).map hC))/\e 0= .ref id aj 1 0 l.length false/\e 1=fv/\e 5= .int .i64 (kept p l k).length/\e 6= .int .i64 k) (i0+1) (by omega) ?_ ?_
  ·have e: (kept p l (i0+1)).length=i0:=by rw[v,ajM];omega
   rw[P,e];simp only[go_sem,simprocAttr,Q]
  ·rintro k hk e H' ⟨rfl,z,U,y,R⟩ n hn;have q: ∀lo,Rd ⟨H.set id (.row aj 1 cg ((gq p l k).map hC)),lo⟩ (.ref id aj 1 0 l.length false) 1 ((gq p l k).map hC):=λlo=>by
    have:=Hv (lo:=lo) (c:=false) (n:=l.length) (b ((gq p l k).map hC)) (by rw[ahX,Ao];exact ahT _) (by intro el f;obtain⟨x,_,rfl⟩:=ais.1 f;rfl);rwa[abk (by rw[ahX,Ao];exact ahT _)]at this
   have W:=XP (p:=p) (l:=l) (k:=k);have r:=alj (p:=p) (l:=l) (k:=k);have j: ∀E,ft E .sl (.ref id aj 1 0 l.length false)=some (.int .i64 l.length):=λE=>rfl
   simp only[bO,go_sem,simprocAttr,aja,z,y,R,j];refine⟨λh=>?_,λh=>?_⟩
   ·have d:k<l.length:=by omega
    have I:k< (gq p l k).length:=by rw[Ao];exact d
    have L:=awG (p:=p) d;have s:=λ (a:Int)=>(q none).bX (k:=.i64) (a:=a)
    have o:=(q none).cp (X:=X2) (off:=0) (n:=1) (agg:=false) I;have g:=T ((gq p l k).map hC) (l.getD k default) (eV d);rw[L]at o;simp only[fa,alv]at o;rw[Ao]at s;cases t:p (l.getD k default)
    ·rw[t]at g;have B:j4 ⟨H.set id (.row aj 1 cg ((gq p l k).map hC)),none⟩ 1 (.dm id aj (kept p l k).length 0) (.int .u32 (l.getD k default))=some ⟨H.set id (.row aj 1 cg ((gq p l (k+1)).map hC)),none⟩:=by
      rw[alh (b _) (by rw[ahX,Ao];omega) (by intro el f;obtain⟨x,_,rfl⟩:=ais.1 f;rfl) rfl rfl rfl,amC];have: ((gq p l k).map hC).set (kept p l k).length [.int .u32 (l.getD k default)]=(gq p l (k+1)).map hC:=by
       rw[<-awH d t,<-map_set];rfl
      rw[this]
     have S: (kept p l (k+1)).length=(kept p l k).length+1:=by rw[Hw d,t];simp
     simp(disch:=omega) only[go_sem,simprocAttr,S,s,o,↓pH,g,B,z,U,y,R,fa];exact⟨by omega,by omega,by omega⟩
    ·rw[t]at g;have S:kept p l (k+1)=kept p l k:=by rw[Hw d,t];simp
     have e6:=awI d t;simp(disch:=omega) only[go_sem,simprocAttr,S,e6,s,o,↓pH,g,z,U,y,R,fa];exact⟨by omega,by omega⟩
   ·obtain rfl:k=l.length:=by omega
    have F:=awF (id:=id) (aj:=aj) (n:=l.length) r;have C:=ali (id:=id) (aj:=aj) (n:=l.length) r;have g:=awK (lo:=none) (off:=(kept p l l.length).length) (len:=l.length- (kept p l l.length).length) (c:=false) (b ((gq p l l.length).map hC)) (by rw[ahX,Ao];omega);simp only[go_sem,simprocAttr,z,y,F,C,g,sT,ga];refine⟨List.replicate (l.length- (kept p l l.length).length) [.int .u32 0],?_,λel f=>aum f⟩;rw[amC];have e1:List.take (kept p l l.length).length (List.map hC (gq p l l.length))=(l.filter λh=>!p h).map hC:=by
     unfold gq;rw[aiw,aqm (by simp),alk]
    have e2:List.drop ((kept p l l.length).length+(l.length- (kept p l l.length).length)) (List.map hC (gq p l l.length))=[]:=ajX (by rw[ahX,Ao];omega);rw[e1,e2,ajJ,alk]
def awM{X:Ctx}(j:Ext X0 X)(t:aw)(f:bR t)(h x:Nat)(e:x<4294967296)(d a:Nat)(H:List ae)(b:H[d]?=some (.box (aI t) none))(c:H[a]?=some (.box [.int .u32 h] none))(lo:oN):
  D X (.fn (.func Fe) [] [.ptr d 0,.ptr a 0]) [.int .u32 x] ⟨H,lo⟩=some (.ret (.bool (decide (bK t x≠h))) ⟨H,lo⟩):=by
 refine up j ?_;refine fb U8 λN i=>?_
 have m: ∀L,(H++L)[a]?=some (.box [.int .u32 h] none):=λL=>bf c
 have g:=vZ t f x e;have hu:=alc t x;simp only[F1,go_sem,simprocAttr,U8,i,b,m,g,nN,ky,hu];refine cU (ajV AV.bool ?_) rfl
 grind
def alm(N:Nat)(H:List ae)(v:AV)(ty:TypeId)(af a:List lA):Prop:=
 (∃id aj,N<=id/\v= .ref id aj 1 0 af.length false/\H[id]?=some (.row aj 1 ty (af++a)))/\ ∀el∈a,el.length=1
def awN(t:aw)(q:bR t)(h:Nat)(r:t.ax h=true)(N:Nat)(H:List ae)(I:H.length=N)(lo:oN):
  ∃v J rest,sb [.agg (aI t),.int .u32 h] ⟨H,lo⟩=some (.ret v ⟨H++J,lo⟩)/\alm (N+2) (H++J) v cg ((kids t h).map hC) rest:=by
 have C:=gn r
 suffices hs: ∃n,sb [.agg (aI t),.int .u32 h] ⟨H,lo⟩=some n/\ (λn=> ∃v J rest,n=aS.ret v ⟨H++J,lo⟩/\alm (N+2) (H++J) v cg ((kids t h).map hC) rest) n by
  obtain⟨n,F,v,J,rest,rfl,E⟩:=hs;exact⟨v,J,rest,F,E⟩
 refine wW (X:=X3) Nt rfl λM s=>?_
 obtain rfl:M=N:=by omega
 have i:=up awA (eF t.b h C (H++[.box (aI t) none,.box [.int .u32 h] none]) none);have u:Go.Proofs.YteplichagkpciaaGreatDoor.ax t.b h=t.ax h:=rfl;rw[u]at i;rw[r]at i;obtain⟨v,J,e1,G⟩:=alg t.b q.b (M+2) (H++[.box (aI t) none,.box [.int .u32 h] none]) (by simp[s]) none;have j:D X3 (.fn (.func ke) [] []) [.agg (ca t.b)] ⟨H++[.box (aI t) none,.box [.int .u32 h] none],none⟩=some (.ret v ⟨H++[.box (aI t) none,.box [.int .u32 h] none]++J,none⟩):=uy (p:=nQ) rfl e1;have f:h∈bo t.b:=(jt q.b).2 r;have g: (bo t.b).filter (λx=>!decide (bK t x≠h))=kids t h:=by
  unfold kids;rw[aaR r];refine List.filter_congr λx _=>?_
  by_cases e:bK t x=h<;>simp[e]
 rcases G.2 with⟨_,e⟩| ⟨id,aj,B,rfl,a⟩
 ·rw[atS.1 e]at f;cases f
 rw[ahX]at j;obtain⟨H1,c⟩: ∃H1,H1=H++[ae.box (aI t) none,.box [.int .u32 h] none]++J:=⟨_,rfl⟩;have b:=fi a;have z:H1[M]?=some (.box (aI t) none):=by rw[c,aaS,dn s];rfl
 have y:H1[M+1]?=some (.box [.int .u32 h] none):=by rw[c,aaS,bw s];rfl
 rw[<-c]at a b;obtain⟨rest,d1,d2⟩:=awL id aj H1 (bo t.b) (by have:=nA t.b;omega) a (.fn (.func Fe) [] [.ptr M 0,.ptr (M+1) 0]) (λx=>decide (bK t x≠h))
  (λaf x A=>awM ale t q h x (gn ((jt q.b).1 A)) M (M+1) _ (by rw[aaD (by omega)];exact z) (by rw[aaD (by omega)];exact y) none) none
 rw[g]at d1;have m:D X3 (.fn (.func mI) [] []) [.ref id aj 1 0 (bo t.b).length false,.fn (.func Fe) [] [.ptr M 0,.ptr (M+1) 0]] ⟨H1,none⟩=some _:=uy (p:=qy) rfl d1;rw[c]at m;simp only[aaS,ajW,ajS]at m j;simp only[go_sem,simprocAttr,Nt,s,i,j,m,sT,ga];have d: ∀L:List ae,∀o,(H++L).set id o=H++L.set (id-H.length) o:=λL o=>aqs _ _ (by omega)
 refine⟨_,_,rest,cU rfl (d _ _),⟨id,aj,by omega,by rw[ahX],?_⟩,λel w=>by rw[d2 el w];rfl⟩;rw[<-d];refine ah5 ?_;rw[c]at b;simpa using b
def iE(l:lN)(k:Nat):lN:=(List.range l.length).map λi=>if i<k\/l.length-k<=i then l.getD (l.length-1-i) default else l.getD i default
section
variable{l:lN}{k:Nat}
def uz: (iE l k).length=l.length:=by simp[iE]
def awO(h:i<l.length): (iE l k).getD i default=if i<k\/l.length-k<=i then l.getD (l.length-1-i) default else l.getD i default:=by
 unfold iE
 grind
def awP:iE l 0=l:=by
 apply apn;unfold iE
 grind
def awQ(h:l.length<=2*k+1):iE l k=l.reverse:=by
 apply apn;intro i;unfold iE;by_cases a:i<l.length
 ·rw[ajP,ar9 a]
  grind
 grind
def awR(h:2*k+1<l.length): ((iE l k).set k (l.getD (l.length-1-k) default)).set (l.length-1-k) (l.getD k default)=iE l (k+1):=by
 apply apn;intro i;by_cases a:i<l.length
 ·by_cases e1:l.length-1-k=i
  ·unfold iE
   grind
  ·rw[aaD e1];by_cases b:k=i
   ·subst b;rw[ah5 (by rw[uz];omega)];unfold iE;rw[ajP,ar9 a];simp only[ah6];rw[aaR (by omega)]
   ·rw[aaD b];unfold iE;rw[ajP,ajP,ar9 a];simp only[ah6];by_cases c:i<k\/l.length-k<=i
    ·rw[aaR c,aaR (by omega)]
    ·rw[aaH c,aaH (by omega)]
 ·rw[ana (by simp[uz];omega),ana (by rw[uz];omega)]
end
def awS(id aj:Nat)(H:List ae)(l:lN)(P:l.length<=1000)(b:List lA)(i:H[id]?=some (.row aj 1 cg (l.map hC++b)))(f: ∀el∈b,el.length=1)(lo:oN):
  D X0 (.fn (.func SM) [] []) [.ref id aj 1 0 l.length false] ⟨H,lo⟩=some (.ret (.au []) ⟨H.set id (.row aj 1 cg (l.reverse.map hC++b)),lo⟩):=by
 refine aF U7 λN R=>?_
 have y:=fi i;have g: ∀E,ft E .sl (.ref id aj 1 0 l.length false)=some (.int .i64 l.length):=λE=>rfl
 have d: ∀af,(H.set id (.row aj 1 cg af))[id]?=some (.row aj 1 cg af):=λaf=>ah5 y
 have M: ∀k,∀el∈(iE l k).map hC++b,el.length=1:=λk el p=>by
  rcases aha.1 p with h|h
  ·obtain⟨x,_,rfl⟩:=ais.1 h;rfl
  ·exact f _ h
 simp(disch:=omega) only[go_sem,simprocAttr,U7,g];refine dB l.length (λk e H'=>H'=H.set id (.row aj 1 cg ((iE l k).map hC++b))/\e 0= .ref id aj 1 0 l.length false/\e 2= .int .i64 k/\e 3= .int .i64 ((l.length:Int)-1-k)) 0 (by omega) ?_ ?_
 ·rw[awP,qz i];simp only[go_sem,simprocAttr];exact ajV _ (by omega)
 rintro k Q e H' ⟨rfl,K,J,I⟩ n O;simp only[bO,F1,go_sem,simprocAttr,ai9,K,J,I];refine⟨λh=>?_,λh=>?_⟩
 ·have u:2*k+1<l.length:=by omega
  have w:k<l.length:=by omega
  obtain⟨m,hm⟩: ∃m,m=l.length-1-k:=⟨_,rfl⟩;have t: (l.length:Int)-1-k=(m:Nat):=by omega
  have o:Rd ⟨H.set id (.row aj 1 cg ((iE l k).map hC++b)),none⟩ (.ref id aj 1 0 l.length false) 1 ((iE l k).map hC):=by
   have:=Hv (lo:=none) (c:=false) (n:=l.length) (d ((iE l k).map hC++b)) (by rw[ahU,ahX,uz];omega) (M k);rwa[aqm (by rw[ahX,uz])]at this
  have C:j5 1 (.ref id aj 1 0 l.length false) (.int .i64 (m:Nat))=some (.dm id aj m 0):=by
   have:=o.bX (k:=.i64) (a:=(m:Nat));rw[uz,aaR (by omega)]at this;rw[this];simp[fa]
  have B:j5 1 (.ref id aj 1 0 l.length false) (.int .i64 (k:Nat))=some (.dm id aj k 0):=by
   have:=o.bX (k:=.i64) (a:=(k:Nat));rw[uz,aaR (by omega)]at this;rw[this];simp[fa]
  have A: ∀j,j<l.length->cb X0 ⟨H.set id (.row aj 1 cg ((iE l k).map hC++b)),none⟩ false 1 (.dm id aj j 0)=some (.int .u32 ((iE l k).getD j default:Nat)):=λj F=>by
   have:=o.cp (X:=X0) (j:=j) (off:=0) (n:=1) (agg:=false) (by rw[uz];exact F);simp only[fa,alv]at this;rw[this,pH]
  have s:=A m (by omega);have r:=A k (by omega);rw[awO (by omega),aaH (by omega)]at s r;have G: ∀ (L:lN) (j v:Nat),L.length=l.length->j<l.length->j4 ⟨H.set id (.row aj 1 cg (L.map hC++b)),none⟩ 1 (.dm id aj j 0) (.int .u32 v)=some ⟨H.set id (.row aj 1 cg ((L.set j v).map hC++b)),none⟩:=λL j v A F=>by
   rw[alh (d _) (by rw[ahU,ahX];omega) (λel p=>by
    rcases aha.1 p with h|h
    ·obtain⟨x,_,rfl⟩:=ais.1 h;rfl
    ·exact f _ h) rfl rfl rfl,amC,at5 _ _ (by rw[ahX];omega)]
   have: (L.map hC).set j [.int .u32 v]=(L.set j v).map hC:=by rw[<-map_set];rfl
   rw[this]
  have z:=G (iE l k) k (l.getD m default) uz (by omega);have q:=G ((iE l k).set k (l.getD m default)) m (l.getD k default) (by rw[ajB,uz]) (by omega);rw[hm,awR u,<-hm]at q;simp(disch:=omega) only[go_sem,simprocAttr,K,J,I,t,C,B,s,r,z,q];exact⟨w,ajV _ (by omega)⟩
 ·have he:=awQ (l:=l) (k:=k) (by omega);rw[he,abk (by rw[ajB];omega)]
def XQ(t:aw)(h:Nat)(N:Nat)(H:List ae)(b:H.length=N)(lo:oN):D X0 (.fn (.func Fc) [] []) [.agg (aI t),.int .u32 h] ⟨H,lo⟩=some (.ret (.fn (.func zh) [] [.ptr (N+1) 0,.ptr N 0]) ⟨H++[.box (aI t) none,.box [.int .u32 h] none],lo⟩):=by
 refine aF U1 λM a=>?_
 obtain rfl:M=N:=by omega
 simp only[go_sem,simprocAttr,U1,a];rw[Da (by omega)]
def se(t:aw)(h:Nat):List lA:=(dE t h).map hC
def XR(t:aw)(h:Nat): (se t h).length=(dE t h).length:=by simp[se]
structure awT(W:List ae)(v:AV)(id:Nat)(st:lN):Prop where
 ex: ∃aj rest,v= .ref id aj 1 0 st.length false/\W[id]?=some (.row aj 1 cg (st.map hC++rest))/\ ∀el∈rest,el.length=1
theorem pE{t:aw}: ∀st:lN,st.length<=(st.flatMap (dE t)).length
 | []=>by simp
 |x::xs=>by
  have d:1<=(dE t x).length:=by
   cases e:dE t x with
   |nil=>trivial
   |cons a b=>simp
  have c:=pE (t:=t) xs
  grind
def awU{H:List ae}{id:Nat}{ty:TypeId}{ys:List lA}(h:H[id]?=some (.row aj 1 ty af))(f:n<=af.length)(e: ∀el∈ys,el.length=1)(a:b9 ys=0)(d: (n+ys.length)*4<=room)(b:ys≠[]):
  dx ⟨H,lo⟩ ty 1 4 (.ref id aj 1 0 n false) ys=some (.ref id (aj+1) 1 0 (n+ys.length) false,⟨H.set id (.row (aj+1) 1 ty (af.take n++ys)),lo⟩):=by
 have c:0<1/\ys.all (λel=>el.length==1)=true:=⟨by omega,by grind⟩;unfold dx;rw[aaR c];simp only[h];rw[aaR ⟨trivial,trivial,trivial,trivial,by omega,d⟩,aaH (by grind)];simp[AS.set,a]
def awV{H:List ae}{id:Nat}{ty:TypeId}(h:H[id]?=some (.row aj 1 ty af))(a:n<=af.length)(b:n*4<=room):
  dx ⟨H,lo⟩ ty 1 4 (.ref id aj 1 0 n false) []=some (.ref id aj 1 0 n false,⟨H,lo⟩):=by
 unfold dx
 grind
def awW{X Y:Ctx}(a:Ext X Y)(h:X.code f=some pf)(b:X.bZ f=none):Y.bZ f=none:=by
 rcases a.bZ f with e| ⟨_,e⟩
 ·grind
 grind
def awX{X Y:Ctx}(a:Ext X Y)(h:X.code f=some pf):Y.code f=some pf:=by rw[a.code];exact h
def xT{X Y:Ctx}(a:Ext X Y){args:lA}{E:AS}{r:aS}(h:D X v args E=some r):D Y v args E=some r:=ahP a _ _ _ _ h
def XS{Y:Ctx}(U:Ext X4 Y)(t:aw)(ht:bR t)(hT:cu t)(h:Nat)(hg:t.ax h=true)(a:Nat):
  vg Y (.fn (.func zh) [] [.ptr (a+1) 0,.ptr a 0]) a [.box (aI t) none,.box [.int .u32 h] none] (se t h):=by
 intro S V y I J b hV aln u9 W s hP h0 wX C hG lo;have hh:=gn hg;have o: ∀i,V.dW i->i<b:=λi hi=>(aln i hi).1
 suffices h: ∃cr,D Y (.fn (.func zh) [] [.ptr (a+1) 0,.ptr a 0]) [y] ⟨W,lo⟩=some cr/\
   (λcr=> ∃O P ak,cr=aS.ret (.au []) ⟨P,ak⟩/\V.P O P/\ (I (se t h).length O\/J O)/\b<=P.length/\
     (∀i,i<b-> ¬V.dW i-> ¬(a<=i/\i<a+[ae.box (aI t) none,.box [.int .u32 (h:Nat)] none].length)->P[i]?=W[i]?)/\nf V.c b lo ak none (V.row O)) cr by
  obtain⟨cr,h1,O,P,ak,rfl,q1,q2,q3,q4,q5⟩:=h;exact⟨O,P,ak,h1,q1,q2,q3,q4,q5⟩
 refine v8 U6 (awW U rfl rfl) (awX U rfl) rfl λN hN=>?_
 obtain rfl:N=b:=by omega
 have g0:W[a]?=some (.box (aI t) none):=hG 0 (by simp);have g1:W[a+1]?=some (.box [.int .u32 h] none):=hG 1 (by simp);have ha:=fi g1;have XJ: ¬V.dW a:=λq=>(aln a q).2 ⟨by omega,by simp⟩
 have hul:=Xi hT h;have F: ∀n:Nat,n<=40000000->n*4<=room:=λn hn=>by unfold room;omega
 simp only[go_sem,simprocAttr,U6,hN,g1];refine gX (dE t h).length (λk e P ak=> ∃O st id,I k O/\ka V N W (λi=>a<=i/\i<a+[ae.box (aI t) none,.box [.int .u32 (h:Nat)] none].length) O P ak/\P[a]?=some (.box (aI t) none)/\awT P (e 4) id st/\N<=id/\V.row O≠some id/\
  st.reverse.flatMap (dE t)=(dE t h).drop k/\ (∀x∈st,t.ax x=true)/\e 0=y/\e 1= .ptr (a+1) 0/\e 2= .ptr a 0) 0 (by omega) ?_ ?_
 ·simp only[go_sem,simprocAttr];refine⟨s,[h],N,h0,?_,?_,?_,ahT _,?_,by simp,by simpa using hg⟩
  ·exact ka.push hV o ⟨hP,by omega,λ_ _ _ _=>rfl,.inl ⟨rfl,C⟩,λr e=>by rw[C]at e;cases e⟩ _
  ·exact bf g0
  ·exact⟨0,[],rfl,by rw[dn hN];rfl,by simp⟩
  ·rw[C];simp
 rintro k hk e W1 R ⟨s1,st,id,hI,hS,w0,⟨aj,rest,e4,hr,G⟩,hid,alp,A,iu,e0,e1,e2⟩ n hn;have XL:N<=n:=by have:=hS.len;omega
 have aGH:=fi hr;have aGI:st.length<=(dE t h).length-k:=by
  have:=pE (t:=t) st.reverse;rw[A,List.length_reverse,apj]at this;exact this
 have H: ∀E,ft E .sl (.ref id aj 1 0 st.length false)=some (.int .i64 st.length):=λE=>rfl
 simp(disch:=omega) only[bO,go_sem,simprocAttr,ai8,e4,H];refine⟨λhc=>?_,λhc=>?_⟩
 ·obtain⟨d,x,rfl⟩: ∃d x,st=d++[x]:=⟨st.dropLast,st.getLast (by rintro rfl;simp at hc),(List.dropLast_concat_getLast _).symm⟩;have hgx:=iu x (by simp);have hx:=gn hgx;have T: (d++[x]).length=d.length+1:=by simp
  have u: (dE t h).drop k=x:: ((kids t x).flatMap (dE t)++d.reverse.flatMap (dE t)):=by
   rw[<-A,List.reverse_append,aqp];show(x:: []).flatMap (dE t)++_=_;rw[at2,List.flatMap_nil,ajJ,Xg hT x];rfl
  have XK:k< (dE t h).length:=by
   have:=ajV List.length u;rw[apj,ajC]at this;omega
  have wS: (se t h)[k]?=some [.int .u32 (x:Nat)]:=by
   unfold se;rw[ajP];have: (dE t h)[k]?=((dE t h).drop k)[0]?:=by rw[anb];rfl
   rw[this,u];rfl
  obtain⟨c,s2,W2,l,p1,p2,p3,p4,p5,p6⟩:=u9 k _ s1 wS hI W1 hS.P hS.len R;have L:=hS.step p2 p3 p4 p5;have XT: ∀i,i<N->V.row s1≠some i:=λi hi q=>by have:=hS.row _ q;omega
  have v0:W2[a]?=some (.box (aI t) none):=by rw[p3.2 a (by omega) XJ (XT _ (by omega))];exact w0
  have vr:W2[id]?=some (.row aj 1 cg ((d++[x]).map hC++rest)):=by rw[p3.2 id (by omega) (λq=>by have:=o _ q;omega) alp];exact hr
  have pL:Rd ⟨W1,R⟩ (.ref id aj 1 0 (d++[x]).length false) 1 ((d++[x]).map hC):=by
   have:=Hv (lo:=R) (c:=false) (n:=(d++[x]).length) hr (by simp) (λel g=>by
    rcases aha.1 g with h|h
    ·obtain⟨x,_,rfl⟩:=ais.1 h;rfl
    ·exact G _ h)
   rwa[aqm (by simp)]at this
  have hA:j5 1 (.ref id aj 1 0 (d.length+1) false) (.int .i64 (d.length:Nat))=some (.dm id aj d.length 0):=by
   have:=pL.bX (k:=.i64) (a:=(d.length:Nat));rw[T,aaR (by omega)]at this;rw[this];simp[fa]
  have hL:cb Y ⟨W1,R⟩ false 1 (.dm id aj d.length 0)=some (.int .u32 (x:Nat)):=by
   have:=pL.cp (X:=Y) (j:=d.length) (off:=0) (n:=1) (agg:=false) (by simp);simp only[fa,alv]at this;rw[this,pH];simp
  have XU: ((d.length:Nat):Int)+1-1=(d.length:Nat):=by omega
  cases c
  ·obtain⟨M,Dd,q1,q2,q3,q4,q5⟩:=L.fin hV o (dI:=lo);simp only[go_sem,simprocAttr,XU,e0,T,hA,hL,p1,q1];exact⟨s2,M,Dd,rfl,q2,.inr p6,q3,q4,q5⟩
  ·obtain⟨kv,Jk,m,k1,⟨z,v,kid,rfl,Z⟩,k3⟩:=awN t ht x hgx W2.length W2 rfl l;have hkn:=fi Z;have kl:=akJ t x;have w:=xT U (uy (X:=X4) (f:=ng) (p:=sb) rfl k1);have r1:=xT U<|up awB (awS z v (W2++Jk) (kids t x) (by omega) m Z k3 l);rw[ahX]at w;have aGK:id≠z:=by have:=fi vr;omega
   obtain⟨M,K⟩: ∃M,M=(W2++Jk).set z (.row v 1 cg ((kids t x).reverse.map hC++m)):=⟨_,rfl⟩;rw[<-K]at r1;have Q:M[id]?=some (.row aj 1 cg ((d++[x]).map hC++rest)):=by rw[K,aaD (by omega)];exact bf vr
   have v03:M[a]?=some (.box (aI t) none):=by rw[K,aaD (by have:=fi v0;omega)];exact bf v0
   have g:Den.elems ⟨M,l⟩ 1 (.ref z v 1 0 (kids t x).length false)=some ((kids t x).reverse.map hC):=by
    have h3:M[z]?=some (.row v 1 cg ((kids t x).reverse.map hC++m)):=by rw[K];exact ah5 hkn
    have:=(Hv (lo:=l) (c:=false) (n:=(kids t x).length) h3 (by simp) (λel g=>by
     rcases aha.1 g with h|h
     ·obtain⟨x,_,rfl⟩:=ais.1 h;rfl
     ·exact k3 _ h)).eq
    rwa[aqm (by simp)]at this
   have hS3:ka V N W (λi=>a<=i/\i<a+[ae.box (aI t) none,.box [.int .u32 (h:Nat)] none].length) s2 M l:=by
    rw[K];exact(L.push hV o Jk).set hV (λq=>by have:=o _ q;have:=L.len;omega) (λq=>by have:=hV.JK L.P q;omega) (.inr (by have:=L.len;omega))
   have wL:=ali (id:=id) (aj:=aj) (n:=d.length+1) (i:=d.length) (by omega);have B:V.row s2≠some id:=by
    rcases p4 with q| ⟨r,q,hq⟩
    ·rw[q];exact alp
    ·rw[q];intro e;cases e;omega
   have XV: ((d++(kids t x).reverse).reverse).flatMap (dE t)=(dE t h).drop (k+1):=by
    have:=ajV (List.drop 1) u;rw[arY]at this;rw[this,List.reverse_append,List.reverse_reverse,aqp];rfl
   have alu: ∀y∈d++(kids t x).reverse,t.ax y=true:=λy hy=>by
    rcases aha.1 hy with h|h
    ·exact iu y (by simp[h])
    ·exact(jt ht.b).1 (N5 (List.mem_reverse.1 h)).2.2
   by_cases hke:kids t x=[]
   ·have sM:=awV (lo:=l) (n:=d.length) Q (by simp) (F _ (by omega));rw[hke]at g w r1 XV alu;simp only[apY,List.reverse_nil,awu]at g w r1;simp(disch:=omega) only[go_sem,simprocAttr,XU,e0,e1,e2,e4,T,hA,hL,p1,v0,w,r1,wL,g,sM];refine⟨XK,s2,d,id,p6,hS3,v03,⟨aj,[hC x]++rest,rfl,?_,?_⟩,hid,B,by simpa using XV,λy hy=>iu y (by simp[hy])⟩
    ·rw[Q];simp
    ·intro el g;rcases aha.1 g with h|h
     ·rw[ahc.1 h];rfl
     ·exact G _ h
   ·have sM:=awU (lo:=l) (n:=d.length) (ys:=(kids t x).reverse.map hC) Q (by simp) (λel g=>by obtain⟨x,_,rfl⟩:=ais.1 g;rfl) (bz (λ_=>rfl) _) (F _ (by simp;omega)) (by simpa using hke);simp(disch:=omega) only[go_sem,simprocAttr,XU,e0,e1,e2,e4,T,hA,hL,p1,v0,w,r1,wL,g,sM];refine⟨XK,s2,d++(kids t x).reverse,id,p6,?_,?_,⟨aj+1,[],?_,?_,λ_ h=>by cases h⟩,hid,B,XV,alu⟩
    ·exact hS3.set hV (λq=>by have:=o _ q;omega) B (.inr (by omega))
    ·exact v03
    ·simp
    ·rw[ah5 (fi Q)];have e:List.take d.length (List.map hC (d++[x])++rest)=List.map hC d:=by
      rw[aiw,aaS,aqm (by simp)]
     rw[e,aiw,ajJ]
 ·obtain⟨M,Dd,q1,q2,q3,q4,q5⟩:=hS.fin hV o (dI:=lo);have aw0:st=[]:=by
   have:st.length=0:=by omega
   exact ak9.1 this
  subst aw0;have hk2:k=(se t h).length:=by
   rw[XR];have:=ajV List.length A;rw[apj]at this;simp at this;omega
  simp only[go_sem,simprocAttr,q1];exact⟨s1,M,Dd,rfl,q2,.inl (hk2 ▸ hI),q3,q4,q5⟩
def aw2{X:Ctx}{a:List RV}{R:aS->Prop}{e:Env}{b:lN}{H:List ae}{l:oN}:
  Bv X lo a R .ret ⟨e,p::b⟩ ⟨H,l⟩=match H[p]? with|some .bE=>Bv X lo a R .ret ⟨e,b⟩ ⟨H.set p .dead,l⟩|_=>False:=by
 simp only[Bv,dJ];cases c:H[p]? with
 |none=>simp
 |some o=>cases o<;>simp[AS.set]
structure ASt where
 l:lN
 row:oN
def alx(H:List ae)(N a k:Nat):YV ASt:=⟨λs W=>(∀i,i<N-> ¬(a<=i/\i<a+k)->W[i]?=H[i]?)/\SV N 1 cg W s.row (s.l.map hC),ASt.row,λi=>i<N+1/\ ¬(a<=i/\i<a+k),N⟩
def aw3{H:List ae}{N k:Nat}(h:a+k<=N): (alx H N a k).Ok where
 st:=λs W f ⟨e,b⟩ hs=>by
  refine⟨λi c d=>?_,b.st (hs _ (.inl ⟨auE _,by omega⟩)) λi c=>hs i (.inr c)⟩;rw[hs i (.inl ⟨by omega,d⟩)];grind
 lt:=λs W r ⟨_,b⟩ hr=>b.row hr
def aw4(g:AV)(xs:lN)(wS:xs.length<=40000000)(a:Nat)(G:List ae)(D:sB X4 g=true)(B:vg X4 g a G (xs.map hC))(N:Nat)(H:List ae)(hN:H.length=N)(F:a+G.length<=N)
  (hG: ∀i,i<G.length->H[a+i]?=G[i]?) (lo:oN):
  ∃v W ak,xS [.ai,g] ⟨H,lo⟩=some (.ret v ⟨W,ak⟩)/\aN N W v 1 cg (xs.map hC)/\ (∀i,i<N-> ¬(a<=i/\i<a+G.length)->W[i]?=H[i]?)/\N<=W.length/\ (ak=lo\/ ∃j,N<=j/\ak=cI lo j):=by
 suffices hs: ∃n,xS [.ai,g] ⟨H,lo⟩=some n/\ (λn=> ∃v W ak,n=aS.ret v ⟨W,ak⟩/\aN N W v 1 cg (xs.map hC)/\ (∀i,i<N-> ¬(a<=i/\i<a+G.length)->W[i]?=H[i]?)/\N<=W.length/\ (ak=lo\/ ∃j,N<=j/\ak=cI lo j)) n by
  obtain⟨n,h1,v,W,ak,rfl,h2⟩:=hs;exact⟨v,W,ak,h1,h2⟩
 refine wW (X:=X4) Ns rfl λM J=>?_
 obtain rfl:M=N:=by omega
 have hb:=akZ (H:=H) (lo:=none) (tg:=none) (Rv.ai (sz:=1));simp only[go_sem,simprocAttr,Ns,J,hb];obtain⟨k,c⟩: ∃k,k=H++[ae.box [.ai] none]:=⟨_,rfl⟩;rw[<-c];have Y:k.length=M+1:=by rw[c];simp[J]
 have m:SV M 1 cg k none []:=.inl ⟨rfl,rfl,by rw[c,dn J];rfl⟩;generalize d: ((((dc _).set 2 _).set 4 _).set 6 _)=e;have f:e 2= .ptr M 0:=by rw[<-d];rfl
 have R: (ao.t 6).get e=g:=by rw[<-d];rfl
 clear d;refine JH (alx H M a G.length) (aw3 F) (xs.map hC) a G k ⟨[],none⟩ (by rw[R];exact D) (by rw[R];exact B) (λi b=>?_) (by omega) (λi b=>⟨by have:=b.1;omega,b.2⟩) ⟨λi b p=>?_,m⟩ rfl
  (λj s=>s.l=xs.take j) (λ_ _=>False) rfl (λ_ _ h=>h.elim) ?_ ?_ (λ_ _ _ _ h=>h.elim)
 ·rw[c,aaF (by omega)];exact hG i b
 ·rw[c,aaF (by omega)]
 ·intro j y s T t;rw[ajP,ah3]at T;obtain⟨x,U,rfl⟩:=T;have hj:=(aaG.1 U).1;refine⟨rfl,λW Z wX=>?_⟩;simp only[go_sem,simprocAttr,iJ,hC];refine⟨[],by simp,λW2 hW2 I=>?_⟩;obtain⟨w,o⟩:=I;have wL:s.l.length<=40000000:=by
   have:s.l=xs.take j:=t;rw[this,ajM];omega
  obtain⟨vv,v',W3,O,Q,a1,a2,a3,a4,a5,a6,a7⟩:=o.append (bytes:=4) (el:=hC x) (by omega) (by omega) rfl rfl (by rw[ahX];unfold room;omega) none;have C:hC x=[.int .u32 (x:Nat)]:=rfl;rw[C]at a2;simp only[go_sem,simprocAttr,ai7,f,a1,a2,a3,EO,ajJ];have l: ∀i,s.row=some i->M<i:=by
   intro i b;rcases o with⟨q,_⟩| ⟨id,aj,q,_,f,q3,q4⟩
   ·rw[q]at b;cases b
   ·rw[q]at b;cases b;exact f
  refine⟨⟨s.l++[x],Q⟩,⟨λi b p=>?_,?_⟩,⟨by show W2.length<=O.length;omega,λi b hp hr=>?_⟩,.inr ⟨M,ahT _,by omega,rfl,?_⟩,?_⟩
  ·show O[i]?=_;rw[a6 i (by omega) (by omega) (λq=>by have:=l i q;omega)];exact w i b p
  ·show SV M 1 cg O Q ((s.l++[x]).map hC);rw[aiw];exact a4
  ·have z: ¬(i<M+1/\ ¬(a<=i/\i<a+G.length)):=hp;exact a6 i b (by rintro rfl;exact z ⟨by omega,by omega⟩) hr
  ·rcases a7 with q| ⟨q,u,f⟩
   ·exact .inl q
   ·exact .inr ⟨q,u,by omega⟩
  ·show s.l++[x]=xs.take (j+1);have:s.l=xs.take j:=t;rw[this,ajN,U];rfl
 ·intro P W' ak t Z hl V pP A;obtain⟨w,o⟩:=Z;have K:P.l=xs:=by
   have:P.l=xs.take (xs.map hC).length:=t;rw[this,ahX,aiv]
  obtain⟨v,o1,S,o3,o4,_⟩:=o.own (N:=M) (ahT _) (by intro el E;obtain⟨r,_,rfl⟩:=ais.1 E;rfl);rw[K]at S;have ho:aN M (W'.set k.length .dead) v 1 cg (xs.map hC):=by
   obtain⟨c1,L⟩:=S;refine⟨c1,?_⟩;rcases L with L| ⟨id,aj,d1,d2,d3⟩
   ·exact .inl L
   ·refine .inr ⟨id,aj,d1,d2,?_⟩;rw[aaD];exact d3;rintro rfl;rw[V]at d3;cases d3
  simp only[go_sem,simprocAttr,f,o1,V,aw2,sT];refine⟨v,_,_,rfl,ho,λi b p=>?_,by rw[ajB];omega,?_⟩
  ·rw[aaD (by omega)];exact w i b p
  ·rcases A with⟨rfl,_⟩| ⟨j,u,f,rfl⟩
   ·exact .inl rfl
   ·exact .inr ⟨j,u,rfl⟩
def aw5(g:AV)(xs:lN)(c:xs.length<=40000000)(a:Nat)(G:List ae)(e:sB X4 g=true)(d:vg X4 g a G (xs.map hC))(N:Nat)(H:List ae)(r:H.length=N)(f:a+G.length<=N)
  (m: ∀i,i<G.length->H[a+i]?=G[i]?) (lo:oN):
  ∃v W ak,An [g] ⟨H,lo⟩=some (.ret v ⟨W,ak⟩)/\aN N W v 1 cg (xs.map hC)/\ (∀i,i<N-> ¬(a<=i/\i<a+G.length)->W[i]?=H[i]?)/\N<=W.length/\ (ak=lo\/ ∃j,N<=j/\ak=cI lo j):=by
 suffices hs: ∃b,An [g] ⟨H,lo⟩=some b/\ (λb=> ∃v W ak,b=aS.ret v ⟨W,ak⟩/\aN N W v 1 cg (xs.map hC)/\ (∀i,i<N-> ¬(a<=i/\i<a+G.length)->W[i]?=H[i]?)/\N<=W.length/\ (ak=lo\/ ∃j,N<=j/\ak=cI lo j)) b by grind
 refine wW (X:=X5) Nr rfl λM l=>?_
 obtain rfl:M=N:=by omega
 obtain⟨v,W,ak,e1,q,e3,o,n⟩:=aw4 g xs c a G e d M H l f m none;have h:D X5 (.fn (.func rl) [] []) [.ai,g] ⟨H,none⟩=some _:=uy (p:=xS) rfl e1;simp only[go_sem,simprocAttr,Nr,h,sT];refine⟨v,W,_,rfl,q,e3,o,?_⟩;rcases n with rfl| ⟨j,k,rfl⟩
 ·exact .inl rfl
 ·exact .inr ⟨j,k,rfl⟩
def aw6(t:aw)(q:bR t)(n:cu t)(h:Nat)(s:h<4294967296)(N:Nat)(H:List ae)(A:H.length=N)(lo:oN):
  ∃v J ak,Dc [.agg (aI t),.int .u32 h] ⟨H,lo⟩=some (.ret v ⟨H++J,ak⟩)/\aN N (H++J) v 1 cg ((under t h).map hC)/\ (ak=lo\/ ∃j,N<=j/\ak=cI lo j):=by
 suffices hs: ∃k,Dc [.agg (aI t),.int .u32 h] ⟨H,lo⟩=some k/\ (λk=> ∃v J ak,k=aS.ret v ⟨H++J,ak⟩/\aN N (H++J) v 1 cg ((under t h).map hC)/\ (ak=lo\/ ∃j,N<=j/\ak=cI lo j)) k by grind
 refine wW (X:=X6) GP rfl λM e=>?_
 obtain rfl:M=N:=by omega
 have a:=up alf (eF t.b h s (H++[.box (aI t) none]) none);have l:Go.Proofs.YteplichagkpciaaGreatDoor.ax t.b h=t.ax h:=rfl;rw[l]at a;cases d:t.ax h with
 |false=>
  rw[d]at a;simp only[go_sem,simprocAttr,GP,e,a,sT,ga];refine⟨_,_,_,rfl,?_,.inl rfl⟩;unfold under;rw[d];exact aN.ai
 |true=>
  rw[d]at a;have hu:under t h=dE t h:=by unfold under;rw[aaR d];rfl
  obtain⟨H1,b⟩: ∃H1,H1=H++[ae.box (aI t) none,.box (aI t) none,.box [.int .u32 h] none]:=⟨_,rfl⟩;have o:=up alf (XQ t h (M+1) (H++[.box (aI t) none]) (by simp[e]) none);have f:H1.length=M+3:=by rw[b];simp[e]
  have m: ∀i,i<2->H1[M+1+i]?=[ae.box (aI t) none,.box [.int .u32 h] none][i]?:=λi r=>by
   rw[b,ajE (by omega),show M+1+i-H.length=i+1 by omega];rfl
  obtain⟨v,W,ak,y,x,w,B,u⟩:=aw5 (.fn (.func zh) [] [.ptr (M+1+1) 0,.ptr (M+1) 0]) (dE t h) (by have:=Xi n h;omega) (M+1) [.box (aI t) none,.box [.int .u32 h] none] rfl (XS ⟨rfl,rfl,rfl,λ_=>.inl rfl⟩ t q n h d (M+1)) (M+3) H1 f (by simp) m none;have g:D X6 (.fn (.func sV) [] []) [.fn (.func zh) [] [.ptr (M+1+1) 0,.ptr (M+1) 0]] ⟨H1,none⟩=some _:=uy (p:=An) rfl y;have c:W=H++W.drop M:=by
   have:W.take M=H:=iZ e λi r=>by
    rw[w i (by omega) (by omega),b,aaF (by omega)]
   rw[<-this];simp
  rw[b]at g;simp only[aaS,ajW,ajS]at o;simp only[go_sem,simprocAttr,GP,e,a,o,g,sT];refine⟨v,W.drop M,_,cU rfl c,?_,?_⟩
  ·rw[<-c,hu];exact aN.le x (by omega)
  ·rcases u with rfl| ⟨j,z,rfl⟩
   ·exact .inl rfl
   ·exact .inr ⟨j,by omega,rfl⟩
def aN.mn{N:Nat}{H:List ae}{ty:TypeId}(h:aN N H v sz ty af){cs:lA}{tg:Option TypeId}(b:H[p]?=some (.box cs tg)){o:ae}:aN N (H.set p o) v sz ty af:=by
 obtain⟨a,c⟩:=h;refine⟨a,?_⟩
 grind
def lG{N:Nat}{H:List ae}{ty:TypeId}{g:α->lA}(h:aN N H v sz ty (l.map g))(lo:oN):Rd ⟨H,lo⟩ v sz (l.map g):=h.rd
def Ol(t:aw)(a:bR t)(c:cu t)(h:Nat)(b:h<4294967296)(N:Nat)(H:List ae)(d:H.length=N)(lo:oN):
  ∃v J ak,D X (.fn (.func pR) [] []) [.agg (aI t),.int .u32 h] ⟨H,lo⟩=some (.ret v ⟨H++J,ak⟩)/\aN N (H++J) v 1 cg ((under t h).map hC)/\ (ak=lo\/ ∃j,N<=j/\ak=cI lo j):=by
 obtain⟨v,J,ak,f,e⟩:=aw6 t a c h b N H d lo;exact⟨v,J,ak,uy (p:=Dc) rfl f,e⟩
def dQ.of{N:Nat}(h:ak=Option.none\/ ∃j,N<=j/\ak=cI Option.none j):dQ N ak:=by trivial
def dQ.le{N M:Nat}(h:dQ N lo)(a:M<=N):dQ M lo:=by
 rcases h with h| ⟨j,q,e⟩
 ·exact .inl h
 ·exact .inr ⟨j,by omega,e⟩
def Om{t:aw}(b:bR t)(a:x∈under t h):t.ax x=true:=by
 unfold under at a;split at a
 ·rename_i c;exact Hp b.b c a
 grind
def Hx{t:aw}(a:cu t)(h:Nat): (under t h).length<=39135393:=by
 unfold under;split
 ·exact Xi a h
 ·simp
def aw7:fV dM:=⟨by trivial,by trivial,by trivial,by simp[dM],by trivial,by trivial⟩
def bR.drop{t:aw}(a:bR t)(h:Nat):bR (lv t h).1:=by
 unfold lv;split
 ·refine⟨Hn a.b h,λi=>?_⟩;show fV (aq t.r (aO h) dM i);by_cases e:i=aO h
  ·rw[e,cZ];exact aw7
  ·rw[ds e];exact a.r i
 omega
def kz(t:aw)(l:lN):aw:=l.foldl (λt x=>(lv t x).1) t
theorem aly{t:aw}(a:bR t): ∀l:lN,bR (kz t l)
 | []=>a
 |x::xs=>aly (a.drop x) xs
def aw8{t:aw}{l:lN}{k:Nat}(h:k<l.length):kz t (l.take (k+1))=(lv (kz t (l.take k)) (l.getD k default)).1:=by
 unfold kz;rw[ajN,abe h,apm,getD_eq h];rfl
def ja{N:Nat}{H:List ae}(b:dQ N ak)(a:v.refs<=N):finish N lo v ⟨H,ak⟩=(v,⟨H.take N,lo⟩):=sS b ((Fz.low (d:=11) a))
def Hy{N:Nat}{H:List ae}{ty:TypeId}(b:dQ N ak)(h:aN N H v sz ty af)(a:b9 af<=N):finish N lo v ⟨H,ak⟩=(bt v af,⟨H.take N,lo⟩):=
 sS b ((Fz.own (d:=8) h a))
def alz{N:Nat}{a b:AV}{H:List ae}{ty:TypeId}(e:dQ N ak)(h:aN N H v sz ty af)(c:b9 af<=N)(g:a.refs<=N)(f:b.refs<=N):
  finish N lo (.au [a,v,b]) ⟨H,ak⟩=(.au [a,bt v af,b],⟨H.take N,lo⟩):=
 sS e (Fz.au (d:=11) (fC.cons ((Fz.low (d:=0) g).mono (by omega)) (fC.cons ((Fz.own (d:=0) h c).mono (by omega)) (fC.cons ((Fz.low (d:=0) f).mono (by omega)) fC.nil))))
def aw9(t:aw)(z:bR t)(I:cu t)(h:Nat)(O:h<4294967296)(H:List ae)(lo:oN):
  ∃w,D X (.fn (.func KV) [] []) [.agg (aI t),.int .u32 h] ⟨H,lo⟩=some (.ret (.au [.agg (aI (mg t h).1),w,.int .i64 (mg t h).2.2]) ⟨H,lo⟩):=by
 suffices hs: ∃l,D X (.fn (.func KV) [] []) [.agg (aI t),.int .u32 h] ⟨H,lo⟩=some l/\ (λl=> ∃w,l=aS.ret (.au [.agg (aI (mg t h).1),w,.int .i64 (mg t h).2.2]) ⟨H,lo⟩) l by
  obtain⟨l,Q,w,rfl⟩:=hs;exact⟨w,Q⟩
 refine cE NN λN d=>?_
 obtain⟨v,J,y,s,r,E⟩:=Ol t z I h O (N+2) (H++[.box (aI t) none,.box l6 none]) (by simp[d]) none;have M:=Hx I h;have a:=(lG r y).bD;obtain⟨m,b⟩: ∃m,m=H++[ae.box (aI t) none,.box l6 none]++J:=⟨_,rfl⟩;have w0:m[N]?=some (.box (aI t) none):=by rw[b,aaS,dn d];rfl
 have w1:m[N+1]?=some (.box l6 none):=by rw[b,aaS,bw d];rfl
 have c:kc N H m:=by rw[b,aaS];exact kc.app d
 rw[<-b]at s r a;by_cases he:under t h=[]
 ·have e1:mg t h=(t,[],4):=by unfold mg;rw[aaR he]
  have C: ((under t h).length:Int)=0:=by rw[he];rfl
  rw[e1];simp only[go_sem,simprocAttr,NN,d,s,a,C,w0,w1,cT,cx w1];rw[ja (dQ.le (dQ.of E) (by omega)) ?_]
  ·exact⟨_,cU rfl ((c.set (by omega)).take d)⟩
  ·simp[AV.refs,aG,xG]
 ·have C: ¬((under t h).length:Int)=0:=by
    have:=apf.2 he;omega
  simp only[go_sem,simprocAttr,NN,d,s,a,C];refine gX (under t h).length (λk e q ak=>kc N H q/\q[N]?=some (.box (aI (kz t ((under t h).take k))) none)/\q[N+1]?=some (.box l6 none)/\aN (N+2) q v 1 cg ((under t h).map hC)/\dQ (N+2) ak/\
   e 2= .ptr N 0/\e 4= .ptr (N+1) 0/\e 7=v/\e 17=v/\e 18= .int .i64 (under t h).length/\e 19= .int .i64 k) 0 (by omega) ?_ ?_
  ·simp only[go_sem,simprocAttr];exact⟨c,w0,w1,r,dQ.of E⟩
  rintro k T e R x ⟨G,p,o,u,F,L,K,e7,j,i,g⟩ n S;have B:=aly z ((under t h).take k);simp only[bO,go_sem,simprocAttr,ajo,L,j,i,g];refine⟨λP=>?_,λP=>?_⟩
  ·have f:k< (under t h).length:=by omega
   have hr:=lG u x;have A:=λH lo=>up dt<|awb (kz t ((under t h).take k)) B ((under t h).getD k default) (gn (Om z (eV f))) H lo
   simp(disch:=omega) only[go_sem,simprocAttr,hr.bX,hr.cp,↓pH,p,A,Xo,L,K,e7,j,i,g,<-aw8 f];exact⟨by omega,f,G.set (by omega),cx p,o,aN.mn u p,F⟩
  ·simp only[go_sem,simprocAttr,p,o,K,e7,cT,cx o];obtain rfl:k=(under t h).length:=by omega
   have ho:aN N (R.set (N+1) (ae.box (aI (kz t ((under t h).take (under t h).length))) none)) v 1 cg ((under t h).map hC):=aN.mn (aN.le u (by omega)) o;rw[alz (dQ.le F (by omega)) ho ?_ ?_ ?_]
   ·refine⟨bt v ((under t h).map hC),cU ?_ ((G.set (by omega)).take d)⟩;unfold mg;rw[aaH he,aiv];rfl
   ·rw[bz (λ_=>rfl)];omega
   ·simp[AV.refs,xG]
   ·simp[AV.refs]
def RB(l:List aE):Prop:=l.length<=100/\ ∀x∈l,x.1<4294967296/\x.2<4294967296
def XW{l:List aE}{k:Nat}(h:k<l.length):aM (l.take (k+1))=aM (l.take k)+(l.getD k default).2:=by
 unfold aM;rw[ajN,abe h,aiw,List.sum_append,aiu,abe h];simp
def axa{l:List aE}(h: ∀x∈l,x.2<4294967296):aM l<=l.length*4294967296:=by
 exact Xh (λx:aE=>x.2) 4294967296 l λx a=>Nat.le_of_lt (h x a)
def RB.bd{l:List aE}(h:RB l)(k:Nat):aM (l.take k)<=429496729600:=by
 have c:=axa (l:=l.take k) λx a=>(h.2 x (ajY a)).2
 have b: (l.take k).length<=100:=by have:=h.1;grind
 omega
def RB.iK{l:List aE}(h:RB l):aM l<=429496729600:=by
 have:=h.bd l.length;grind
def xU(l:List aE):List lA:=(List.range l.length).map λi=>[.int .i64 (32*aM (l.take i):Nat),.agg (ay (l.getD i default))]
def Hz(l:List aE): (xU l).length=l.length:=by simp[xU]
def XX{l:List aE}(h:j<l.length): (xU l)[j]?=some [.int .i64 (32*aM (l.take j):Nat),.agg (ay (l.getD j default))]:=by
 unfold xU;grind
def alA(v:AV)(n:Nat)(b:v.refs=0)(N:Nat)(H:List ae)(c:H.length=N)(lo:oN):D X0 (.fn (.func JY) [] []) [.agg [v,.int .i64 n]] ⟨H,lo⟩=some (.ret (.fn (.func EY) [] [.ptr N 0]) ⟨H++[.box [v,.int .i64 n] none],lo⟩):=by
 refine aF Ui λM a=>?_
 obtain rfl:M=N:=by omega
 simp only[go_sem,simprocAttr,Ui,a];rw[Da (by omega)]
def alB(v:AV)(z:Nat)(l:List aE)(E:Rv v 2 (l.map ay))(H:RB l)(a:Nat):
  vg X0 (.fn (.func EY) [] [.ptr a 0]) a [.box [v,.int .i64 z] none] (xU l):=by
 intro S V y I J b A t F W s hP h0 wX j hG lo;have Xy:=H.1;have f: ∀i,V.dW i->i<b:=λi hi=>(t i hi).1
 suffices h: ∃x,D X0 (.fn (.func EY) [] [.ptr a 0]) [y] ⟨W,lo⟩=some x/\
   (λx=> ∃d m ak,x=aS.ret (.au []) ⟨m,ak⟩/\V.P d m/\ (I (xU l).length d\/J d)/\b<=m.length/\
     (∀i,i<b-> ¬V.dW i-> ¬(a<=i/\i<a+[ae.box [v,.int .i64 z] none].length)->m[i]?=W[i]?)/\nf V.c b lo ak none (V.row d)) x by
  obtain⟨x,h1,d,m,ak,rfl,q1,q2,Z,Y,X⟩:=h;exact⟨d,m,ak,h1,q1,q2,Z,Y,X⟩
 refine v8 Us rfl rfl rfl λN hN=>?_
 obtain rfl:N=b:=by omega
 have u:W[a]?=some (.box [v,.int .i64 z] none):=hG 0 (by simp);simp only[go_sem,simprocAttr,Us,u,E.bD];refine gX l.length (λk e m ak=> ∃d,I k d/\ka V N W (λi=>a<=i/\i<a+[ae.box [v,.int .i64 z] none].length) d m ak/\e 0=y/\e 3= .int .i64 (32*aM (l.take k):Nat)/\e 7=v/\e 8= .int .i64 l.length/\e 9= .int .i64 k) 0 (by omega) ?_ ?_
 ·simp only[go_sem,simprocAttr];exact⟨s,h0,⟨hP,by omega,λ_ _ _ _=>rfl,.inl ⟨rfl,j⟩,λr e=>by rw[j]at e;cases e⟩,by simp[aM]⟩
 rintro k hk e W1 C ⟨s1,Q,B,T,e3,e7,e8,R⟩ n P;simp only[bO,go_sem,simprocAttr,aiV,e7,e8,R];refine⟨λh=>?_,λh=>?_⟩
 ·have g:k<l.length:=by omega
  have rj:=H.2 _ (eV g);have hpg:=H.bd k;have IP:=XW g;have hx:=XX g;generalize G:l.getD k default=r at*;have p:=B.push A f [.box (ay r) none];obtain⟨c,s2,W2,mH,O,p2,M,p4,p5,L⟩:=F k _ s1 hx Q (W1++[.box (ay r) none]) p.P p.len C;have w:=p.step p2 M p4 p5;have XL:N<=n:=by have:=B.len;omega
  have U:W2[n]?=some (.box (ay r) none):=by
   rw[M.2 n (by simp;omega) (λq=>by have:=f _ q;omega) (λq=>by have:=A.JK B.P q;omega)];rw[<-P];simp
  simp(disch:=omega) only[go_sem,simprocAttr,E.bX,E.cp,h,P,T,e3,G];cases c
  ·obtain⟨K,o,f1,f2,f3,f4,f5⟩:=w.fin A f (dI:=lo);simp only[go_sem,simprocAttr,O,f1];exact⟨s2,K,o,rfl,f2,.inr L,f3,f4,f5⟩
  ·simp(disch:=omega) only[go_sem,simprocAttr,T,e3,e7,e8,R,O,U];exact⟨g,s2,L,w,ajV _ (by omega)⟩
 ·obtain⟨K,o,f1,f2,f3,f4,f5⟩:=B.fin A f (dI:=lo);simp only[go_sem,simprocAttr,f1];exact⟨s1,K,o,rfl,f2,.inl (by rw[Hz,show l.length=k by omega];exact Q),f3,f4,f5⟩
theorem On{r:aE}:aH [AV.int .i64 0,.int .i64 0] 0 (ay r)=ay r:=rfl
def Oo(v:AV)(n:Nat)(l:List aE)(w:Rv v 2 (l.map ay))(g:RB l)(H:List ae)(lo:oN):
  D X0 (.fn (.func Bx) [] []) [.agg [v,.int .i64 n]] ⟨H,lo⟩=some (.ret (.int .i64 (aM l:Nat)) ⟨H,lo⟩):=by
 refine aF T3 λN u=>?_
 have d:v.refs=0:=cJ w (bz (λ_=>rfl) l);have F:=alA v n d (N+2) (H++[.box [v,.int .i64 n] none,.box [.int .i64 0] none]) (by grind) none;simp only[go_sem,simprocAttr,T3,u,F];refine zd (S:=Nat) (λe=>e 3= .ptr (N+1) 0) (by rfl) (xU l) u [.box [v,.int .i64 n] none] (λm=>[.box [v,.int .i64 n] none,.box [.int .i64 (m:Nat)] none]) (nB:=2) (λ_=>rfl) 0 (λj s=>s=aM (l.take j)) (λ_ _=>False) rfl ?_ (by simp) (by rfl) (λ_ _ h=>h.elim) ?_ ?_ ?_
 ·exact alB v n l w g (N+2)
 ·rintro e he j x s c rfl;have k:j<l.length:=by
   have:=(aaG.1 c).1;rwa[Hz]at this
  rw[XX k]at c;cases c;have y:=g.2 _ (eV k);have z:=g.bd j;have f:=XW k;refine⟨rfl,λW I C A q=>?_⟩;simp only[go_sem,simprocAttr,iJ,C,On];refine⟨[.box (ay (l.getD j default)) none],rfl,λG t b=>?_⟩;simp only[gP,gO,aqt,ajG]at b;obtain⟨w0,w1⟩:=b;have f1: ∀L,(G++L)[N+1]?=some (.box [.int .i64 (aM (l.take j):Nat)] none):=λL=>bf w1
  simp(disch:=omega) only[go_sem,simprocAttr,aiH,he,f1,t,sU];refine⟨aM (l.take (j+1)),?_,by omega,λi K B=>?_,rfl⟩
  ·simp only[gP,gO,aqt,ajG];refine⟨by rw[aaD (by omega)];exact bf w0,?_⟩;rw[ah5 (by simp;omega),f,aqo]
  ·rw[aaD (by omega),aaF (by omega)]
 ·rintro e he s W p J rfl a q E;simp only[gP,gO,aqt,ajG]at q;obtain⟨w0,w1⟩:=q;have r: ∀o,(W.set p o).take N=H:=λo=>(a.set (by omega)).take u
  simp only[F1,go_sem,simprocAttr,he,w1,E,nO,r];rw[Hz,aiv]
 grind
def iC(n:Nat):lA:=[.int .i64 n]
theorem pI:Den.part false 1 (iC n) 0=some (.int .i64 n):=rfl
def axc(v:AV)(l:lN)(b:Rv v 1 (l.map iC))(q:l.length<2^40)(x:Nat)(H:List ae)(lo:oN):
  D X0 (.fn (.func Tn) [] []) [v,.int .i64 x] ⟨H,lo⟩=some (.ret (.int .i64 (fX (λy=>decide (x=y)) l)) ⟨H,lo⟩):=by
 refine aF Wd λN t=>?_
 simp only[go_sem,simprocAttr,Wd,b.bD];refine dB l.length (λk e H'=>H'=H/\e 0=v/\e 1= .int .i64 x/\e 7= .int .i64 l.length/\e 8= .int .i64 k/\ ∀j,j<k->decide (x=l.getD j default)=false) 0 (by omega) ?_ ?_
 ·simp only[go_sem,simprocAttr];omega
 ·rintro k r e H' ⟨rfl,o,m,i,g,f⟩ n p;simp(disch:=omega) only[bO,F1,go_sem,simprocAttr,ajw,o,m,i,g];refine⟨λh=>?_,λh=>?_⟩
  ·have c:k<l.length:=by omega
   by_cases d:x=l.getD k default
   ·have a: ((x:Nat):Int)=((l.getD k default:Nat):Int):=by rw[<-d]
    simp(disch:=omega) only[F1,go_sem,simprocAttr,b.bX,b.cp,↓pI,a];rw[v5 c f (abj d)];exact⟨by omega,rfl⟩
   ·have a: ¬((x:Nat):Int)=((l.getD k default:Nat):Int):=by omega
    simp(disch:=omega) only[go_sem,simprocAttr,b.bX,b.cp,↓pI,a,o,m,i,g];exact⟨by omega,c,lF f (abi d)⟩
  ·rw[v7 (λj s=>f j (by omega))]
def axd(v:AV)(l:lN)(a:Rv v 1 (l.map iC))(b:l.length<2^40)(x:Nat)(H:List ae)(lo:oN):
  D X0 (.fn (.func Tj) [] []) [v,.int .i64 x] ⟨H,lo⟩=some (.ret (.bool (l.contains x)) ⟨H,lo⟩):=by
 refine aF V7 λN c=>?_
 simp only[F1,go_sem,simprocAttr,V7,axc v l a b x,xR]
 grind
def alC(a b:Nat)(h:a<2147483648)(g:b<2147483648)(H:List ae)(lo:oN):
  D X0 (.fn (.func KU) [] []) [.int .i64 a,.int .i64 b] ⟨H,lo⟩=some (.ret (.bool (isObj a b)) ⟨H,lo⟩):=by
 refine aF G9 λN f=>?_
 have e:=axd (.sl [[.int .i64 1],[.int .i64 2],[.int .i64 4],[.int .i64 8]] true) [1,2,4,8] (.sl (by simp)) (by simp) b H none;by_cases c: (a:Int)>=1
 ·by_cases d: (a:Int)<=128
  ·simp only[F1,go_sem,simprocAttr,G9,c,d,e];unfold isObj
   grind
  ·simp(disch:=omega) only[F1,go_sem,simprocAttr,G9,c,d];refine cU (ajV AV.bool ?_) rfl;unfold isObj;rw[abi (by omega: ¬a<=128)];simp
 ·simp(disch:=omega) only[F1,go_sem,simprocAttr,G9,c];refine cU (ajV AV.bool ?_) rfl;unfold isObj;rw[abi (by omega: ¬1<=a)];simp
theorem HA: ∀ (l:List aE) (x:aE) (put:Bool) (out a:List aE),x.1+x.2<=64->(∀y∈l,y.1+y.2<=64)->(∀y∈out,y.1+y.2<=64)->hZ x put out l=some a->
  (∀y∈a,y.1+y.2<=64)/\a.length<=out.length+l.length+(if put then 0 else 1)
 | [],x,put,out,a,e,_,ho,h=>by
   unfold hZ at h
   grind
 |y::ys,x,put,out,a,e,g,ho,h=>by
  have i:=g y (ald ..);have b: ∀z∈ys,z.1+z.2<=64:=λz d=>g z (ajH _ d)
  unfold hZ at h;split at h
  ·obtain⟨c,f⟩:=HA ys x put _ a e b (λz d=>by grind) h
   grind
  ·split at h
   ·obtain⟨c,f⟩:=HA ys x true _ a e b (λz d=>by
      rcases aha.1 d with h|h
      ·rcases aha.1 h with h|h
       ·exact ho z h
       ·cases put
        ·simp only[ah2,ak8]at h;rw[ahc.1 h];exact e
        ·simp at h
      ·rw[ahc.1 h];exact i) h
    refine⟨c,?_⟩;cases put<;>simp only[ahU,ajC,apY,ajQ,ak8,ah2]at f⊢ <;>omega
   ·split at h
    ·obtain⟨c,f⟩:=HA ys _ put out a (by simp;omega) b ho h;exact⟨c,by simp only[ajC];omega⟩
    ·split at h
     ·obtain⟨c,f⟩:=HA ys _ put out a (by simp;omega) b ho h;exact⟨c,by simp only[ajC];omega⟩
     ·cases h
def axe{x:aE}(h:lu x=true):1<=x.2/\x.1+x.2<=64:=by
 unfold lu at h;grind
def axf{l a:List aE}{x:aE}(b: ∀y∈l,y.1+y.2<=64)(h:iA l x=some a): (∀y∈a,y.1+y.2<=64)/\a.length<=l.length+1:=by
 unfold iA at h;split at h
 ·rename_i hm;have:=HA l x false [] a (axe hm).2 b (by simp) h
  grind
 grind
theorem Oq: ∀ (a b all:List aE),mU all (a++b)=(mU all a).bind λm=>mU m b
 | [],b,all=>rfl
 |x::a,b,all=>by
  simp only[ajW,mU];cases iA all x with
  |none=>rfl
  |some m=>exact Oq a b m
def axg{l:List aE}{k:Nat}(h:k<l.length)(a:List aE):mU a (l.take (k+1))=(mU a (l.take k)).bind λm=>iA m (l.getD k default):=by
 rw[ajN,abe h,Oq,aiu,abe h];simp only[Option.toList_some,mU,alr]
 grind
def axh{l:List aE}{k:Nat}{a:List aE}(h:mU a (l.take k)=none):mU a l=none:=by grind [List.take_append_drop,Oq]
def alD(v:AV)(n:Nat)(l:List aE)(w:n<4294967296)(g:Rv v 2 (l.map ay))(s:RB l)(C:l.length<=65)(H:List ae)(lo:oN):
  D X0 (.fn (.func Km) [] []) [.agg [v,.int .i64 n]] ⟨H,lo⟩=some (.ret (.bool (qn l n)) ⟨H,lo⟩):=by
 refine aF Va λN E=>?_
 have r:=Oo v n l g s;have B:=s.iK;simp only[go_sem,simprocAttr,Va,E,g.bD];refine dB l.length (λk e H'=> ∃J A,H'=cat H (.box [v,.int .i64 n] none:: .box [eA A] none::J)/\mU [] (l.take k)=some A/\A.length<=k/\ (∀x∈A,x.1+x.2<=64)/\e 1= .ptr N 0/\e 3= .ptr (N+1) 0/\e 9=v/\e 10= .int .i64 l.length/\e 11= .int .i64 k) 0 (by omega) ?_ ?_
 ·simp only[go_sem,simprocAttr];exact⟨[],[],dY.symm,by simp[mU],by simp,by simp⟩
 rintro k I e H' ⟨J,A,rfl,t,F,o,e1,e3,y,q,p⟩ z w;have d: ∀a b,(cat H (a::b::J)).length=z:=λ_ _=>by rw[<-w,Hh,Hh];rfl
 simp(disch:=omega) only[bO,go_sem,simprocAttr,ajc,e1,y,q,p];refine⟨λh=>?_,λh=>?_⟩
 ·have f:k<l.length:=by omega
  have i:=s.2 _ (eV f);have j:=ak6 (eA A) A (nv A) ⟨by omega,o⟩ (l.getD k default) i.1 i.2;have c:=axg f [];rw[t]at c;simp only[arL]at c;cases m:iA A (l.getD k default)with
  |none=>
   rw[m]at c;have u:qn l n=false:=by unfold qn;rw[axh c];rfl
   simp(disch:=first|omega|apply d) only[F1,go_sem,simprocAttr,g.bX,g.cp,h,d,e3,On,j,qx,m,u,WS]
  |some A'=>
   rw[m]at c;obtain⟨G,K⟩:=axf o m;simp(disch:=first|omega|apply d) only[go_sem,simprocAttr,g.bX,g.cp,h,d,e1,e3,y,q,p,On,j,qx,m,WS];exact⟨f,_,A',WL,c,by omega,G⟩
 ·obtain rfl:k=l.length:=by omega
  rw[aiv]at t;have u:qn l n=decide (n<=aM l*32):=by unfold qn;rw[t];rfl
  simp(disch:=first|omega|apply d) only[F1,go_sem,simprocAttr,r];rw[u];exact cU (ajV AV.bool (ajF.2 (by omega))) rfl
def axi(a k:Nat)(e:a<4611686018427387904)(g:k<=3): (BitVec.ofInt 64 (a:Int)&&& ~~~ (BitVec.ofInt 64 ((2^k:Nat)-1:Int))).toNat=a/2^k*2^k:=by
 have e1:BitVec.ofInt 64 (a:Int)=BitVec.ofNat 64 a:=by simp
 have f:BitVec.ofInt 64 ((2^k:Nat)-1:Int)=BitVec.ofNat 64 (2^k-1):=by
  have: ((2^k:Nat)-1:Int)=((2^k-1:Nat):Int):=by
   have:=Nat.pow_pos (n:=k) (show 0<2 by omega);omega
  rw[this];simp
 rw[e1,f];apply Nat.eq_of_testBit_eq;intro i;rw[<-Nat.shiftLeft_eq,Nat.testBit_shiftLeft,Nat.testBit_div_two_pow,BitVec.testBit_toNat,BitVec.getLsbD_and,BitVec.getLsbD_not,BitVec.getLsbD_ofNat,BitVec.getLsbD_ofNat,Nat.testBit_two_pow_sub_one];by_cases b:i<64
 ·by_cases c:i<k
  ·simp[b,c];intro d;omega
  ·simp[b,c,show k<=i by omega,show i-k+k=i by omega]
 ·have:a.testBit i=false:=Nat.testBit_lt_two_pow (ak7 e (by
    have: (4611686018427387904:Nat)=2^62:=by decide
    rw[this];exact Nat.pow_le_pow_right (by omega) (by omega)))
  by_cases c:k<=i
  ·simp[b,c,show i-k+k=i by omega,this]
  ·simp[b,c]
def axj(f:a<4611686018427387904)(h: [1,2,4,8].contains b=true):dq .andNot (.int .i64 (a:Nat)) (.int .i64 ((b:Nat)-1))=some (.int .i64 (a/b*b:Nat)):=by
 have c: ∀k,k<=3->b=2^k->dq .andNot (.int .i64 (a:Nat)) (.int .i64 ((b:Nat)-1))=some (.int .i64 (a/b*b:Nat)):=by
  intro k d e;subst e;rw[Q0];have e3:=axi a k f d;have g: (BitVec.ofInt IntKind.i64.bits (a:Int)&&& ~~~ (BitVec.ofInt IntKind.i64.bits ((2^k:Nat)-1:Int))).toNat=a/2^k*2^k:=e3;rw[g];have i:a/2^k*2^k<=a:=Nat.div_mul_le_self a _;rw[wrap_i64 (by omega) (by omega)]
 have:b=1\/b=2\/b=4\/b=8:=by grind
 rcases this with e|e|e|e
 ·exact c 0 (by omega) e
 ·exact c 1 (by omega) e
 ·exact c 2 (by omega) e
 ·exact c 3 (by omega) e
def axk(h:isObj b a=true):1<=b/\b<=128/\ [1,2,4,8].contains a=true/\1<=a/\a<=8:=by
 unfold isObj at h
 grind
def xV(l:List aE)(n b a:Nat):AV:=.au [.int .i64 ((gT l n b a).getD 0:Nat),.bool (gT l n b a).isSome]
def alE(v:AV)(n:Nat)(l:List aE)(y:n<4294967296)(o:Rv v 2 (l.map ay))(j:RB l)(c b:Nat)(s:c<2147483648)(r:b<2147483648)(H:List ae)(lo:oN):
  D X0 (.fn (.func KK) [] []) [.agg [v,.int .i64 n],.int .i64 c,.int .i64 b] ⟨H,lo⟩=some (.ret (xV l n c b) ⟨H,lo⟩):=by
 refine aF GZ λN i=>?_
 have h:=Oo v n l o j;have p:=j.iK;have ho:=alC c b s r;cases d:isObj c b with
 |false=>
  have e:gT l n c b=none:=by unfold gT;rw[d];rfl
  simp only[F1,go_sem,simprocAttr,GZ,i,ho,d,xV,e]
 |true=>
  obtain⟨x,w,m,u,t⟩:=axk d;have g:D X0 (.fn (.func Tb) [] [.ptr (N+1) 0]) [.int .i64 n] ⟨H++[.box [v,.int .i64 n] none,.box [.int .i64 b] none],none⟩=some (.ret (.int .i64 ((n+b-1)/b*b:Nat)) ⟨H++[.box [v,.int .i64 n] none,.box [.int .i64 b] none],none⟩):=by
   refine fb VK λM A=>?_
   have e1: (n:Int)+b-1=((n+b-1:Nat):Int):=by omega
   simp(disch:=omega) only[F1,go_sem,simprocAttr,VK,e1,axj (a:=n+b-1) (by omega) m]
  have z: (n+b-1)/b*b<=n+b-1:=Nat.div_mul_le_self _ _;have e:gT l n c b=if(n+b-1)/b*b+c<=aM l*32 then some ((n+b-1)/b*b)else none:=by unfold gT;rw[d];rfl
  generalize q: (n+b-1)/b*b=at' at*;by_cases k:at'+c<=aM l*32
  ·have f: ¬(at':Int)+c>aM l*32:=by omega
   rw[aaR k]at e;simp(disch:=omega) only[F1,go_sem,simprocAttr,GZ,i,ho,d,g,h,f,xV,e]
  ·have f: (at':Int)+c>aM l*32:=by omega
   rw[aaH k]at e;simp(disch:=omega) only[F1,go_sem,simprocAttr,GZ,i,ho,d,g,h,f,xV,e]
def v9(l:List aE)(n b c:Nat):Nat:=match gT l n b c with|some a=>a+b|none=>n
def alF(v:AV)(n:Nat)(l:List aE)(k:n<4294967296)(f:Rv v 2 (l.map ay))(g:RB l)(c b:Nat)(o:c<2147483648)(m:b<2147483648)(H:List ae)(lo:oN):
  D X0 (.fn (.func SW) [] []) [.agg [v,.int .i64 n],.int .i64 c,.int .i64 b] ⟨H,lo⟩=some (.ret (.au [.agg [v,.int .i64 (v9 l n c b:Nat)],.int .i64 ((gT l n c b).getD 0:Nat),.bool (gT l n c b).isSome]) ⟨H,lo⟩):=by
 refine aF NB λN i=>?_
 have h:=alE v n l k f g c b o m;have d:v.refs=0:=cJ f (bz (λ_=>rfl) l);have j:=g.iK;cases e:gT l n c b with
 |none=>simp only[F1,go_sem,simprocAttr,NB,i,h,xV,e,v9,d]
 |some a=>
  have p:a<=20000000000000:=by
   unfold gT at e
   grind
  simp(disch:=omega) only[F1,go_sem,simprocAttr,NB,i,h,xV,e,v9,d,aqo]
def axl(a b:Nat)(f:a<2147483648)(d:b<2147483648)(H:List ae)(lo:oN):
  D X0 (.fn (.func SS) [] []) [.int .i64 a,.int .i64 b] ⟨H,lo⟩=some (.ret (.au [.int .i64 ((qs a b).getD 0:Nat),.bool (qs a b).isSome]) ⟨H,lo⟩):=by
 refine aF NA λN g=>?_
 have ho:=alC a b f d;cases c:isObj a b with
 |false=>
  have e:qs a b=none:=by unfold qs;grind
  simp(disch:=omega) only[F1,go_sem,simprocAttr,NA,ho,c,e]
 |true=>
  have e:qs a b=some ((a+31)/32):=by unfold qs;grind
  have e1: ((a:Int)+32-1).tdiv 32=(((a+31)/32:Nat):Int):=by
   rw[Int.tdiv_eq_ediv_of_nonneg (by omega)];omega
  simp(disch:=omega) only[F1,go_sem,simprocAttr,NA,ho,c,e,e1]
def axm{H:List ae}{bytes:Nat}{ty:TypeId}{ys:List lA}(a:0<sz)(d: ∀el∈ys,el.length=sz)(b:ys≠[])(c:ys.length*bytes<=room):
  dx ⟨H,lo⟩ ty sz bytes .ai ys=some (.ref H.length 0 sz 0 ys.length false,⟨H++[.row 0 sz ty ys],lo⟩):=by
 unfold dx;rw[aaR ⟨a,by grind⟩];rw[aaH (by grind),aaR c];rfl
def axn{H:List ae}{bytes:Nat}{ty:TypeId}{ys:List lA}(a:0<sz)(e: ∀el∈af,el.length=sz)(d: ∀el∈ys,el.length=sz)(b:ys≠[])(c: (af.length+ys.length)*bytes<=room):
  dx ⟨H,lo⟩ ty sz bytes (.sl af true) ys=some (.ref H.length 0 sz 0 (af.length+ys.length) false,⟨H++[.row 0 sz ty (af++ys)],lo⟩):=by
 unfold dx;rw[aaR ⟨a,by grind⟩];simp only;rw[aaH (by grind),aaR ⟨c,by grind⟩];rfl
def De(v:AV):AV:=match v with
 |.sl af _=>.sl af true
 |v=>v
def axo(v:AV)(l:List aE)(d:Rv v 2 (l.map ay))(H:List ae)(lo:oN):
  D X0 (.fn (.func Tc) [] []) [v] ⟨H,lo⟩=some (.ret (De v) ⟨H,lo⟩):=by
 refine aF NL λN f=>?_
 obtain⟨e,a,h⟩:=d ⟨[],none⟩;have hr:=bz (g:=ay) (λ_=>rfl) l;cases v<;>simp only[]at e
 ·have b:gd 2 .ai none (some (.int .i64 0)) (some (.int .i64 0))=some .ai:=by rfl
  simp(disch:=omega) only[F1,go_sem,simprocAttr,NL,b,De]
 ·rename_i af c;simp only[Den.elems]at a;split at a
  ·cases a;have hs:gd 2 (.sl (l.map ay) c) none (some (.int .i64 (l.length:Nat))) (some (.int .i64 (l.length:Nat)))=some (.sl (l.map ay) true):=by
    simp[gd,gb,lR,lS,ay];exact abk (by simp)
   simp(disch:=omega) only[F1,go_sem,simprocAttr,NL,hs,ahX,hr,abX,De]
  grind
 ·simp[Den.elems]at a
def axp(v:AV)(n:Nat)(l:List aE)(k:Rv v 2 (l.map ay))(s:RB l)(r:aE)(H:List ae)(lo:oN):
  D X0 (.fn (.func SU) [] []) [.agg [v,.int .i64 n],.agg (ay r)] ⟨H,lo⟩=some (.ret (.agg [eA (l++[r]),.int .i64 (aM l*32:Nat)]) ⟨H,lo⟩):=by
 refine aF Vw λN m=>?_
 have p:=Oo v n l k s;have w:=s.iK;have y:=s.1;have u:v.refs=0:=cJ k (bz (λ_=>rfl) l);have z:=axo v l k;obtain⟨id,j⟩: ∃id,(H++[ae.box [v,.int .i64 n] none,.box (ay r) none,.box [.ai,.int .i64 0] none]).length=id:=⟨_,rfl⟩;have t: ∀lo,dx ⟨H++[ae.box [v,.int .i64 n] none,.box (ay r) none,.box [.ai,.int .i64 0] none],lo⟩ fu 2 16 (De v) [ay r]=some (.ref id 0 2 0 (l.length+1) false,⟨H++[ae.box [v,.int .i64 n] none,.box (ay r) none,.box [.ai,.int .i64 0] none]++[.row 0 2 fu (l.map ay++[ay r])],lo⟩):=by
  intro lo;obtain⟨A,b,B⟩:=k ⟨[],none⟩;rw[<-j];cases v<;>simp only[]at A
  ·simp only[Den.elems]at b;have:l=[]:=by
    have:=(alo b).symm;exact atS.1 this
   subst this;rw[show De .ai= .ai from rfl,axm (by omega) (λel a=>by rw[ahc.1 a];rfl) (by simp) (by simp[room])];rfl
  ·simp only[Den.elems]at b;split at b
   ·cases b;rw[show ∀c,De (.sl (l.map ay) c)= .sl (l.map ay) true fromλ_=>rfl,axn (by omega) (λel a=>by obtain⟨x,_,rfl⟩:=ais.1 a;rfl) (λel a=>by rw[ahc.1 a];rfl) (by simp) (by simp[room];omega)];simp
   ·cases b
  ·simp[Den.elems]at b
 have i:id=N+3:=by rw[<-j];simp[m]
 subst i;simp(disch:=omega) only[go_sem,simprocAttr,Vw,m,z,t,p];have q:dQ N (if N+1<=N then none else cI none (N+2)):=by rw[aaH (by omega)];exact .inr ⟨N+2,by omega,rfl⟩
 have f:aN N (H++[ae.box [v,AV.int IntKind.i64 ↑n] none,ae.box (ay r) none,ae.box [AV.ref (N+3) 0 2 0 (l.length+1) false,AV.int IntKind.i64 (↑(aM l)*32)] none,ae.row 0 2 fu (List.map ay l++[ay r])]) (.ref (N+3) 0 2 0 (l.length+1) false) 2 fu (l.map ay++[ay r]):=by
  refine⟨λel a=>?_,.inr ⟨N+3,0,by omega,by simp,?_⟩⟩
  ·rcases aha.1 a with h|h
   ·obtain⟨x,_,rfl⟩:=ais.1 h;rfl
   ·rw[ahc.1 h];rfl
  ·rw[bw m];rfl
 have o:b9 (l.map ay++[ay r])=0:=by
  have:=bz (g:=ay) (λ_=>rfl) (l++[r]);rwa[aiw]at this
 rw[sS q (Fz.agg (d:=11) (fC.cons (Fz.mono (Fz.own (d:=0) f (by rw[o];omega)) (by omega)) (fC.cons (Fz.mono (Fz.low (d:=0) (v:=.int .i64 (↑(aM l)*32)) (by simp[AV.refs])) (by omega)) fC.nil)))];refine cU ?_ (mF m);have e:eA (l++[r])= .sl (l.map ay++[ay r]) false:=by
  unfold eA;have: (l++[r]).isEmpty=false:=by cases l<;>rfl
  rw[this];simp
 rw[e,Int.natCast_mul];rfl
def Ot(l:List aE)(x:Nat):AV:=.au [.int .i64 ((ku l 0 x).getD 0:Nat),.bool (ku l 0 x).isSome]
theorem alG(r:aE)(l:List aE)(b x:Nat):ku (r::l) b x=if b<=x/\x<b+r.2*32 then some (r.1*32+x-b)else ku l (b+r.2*32) x:=rfl
def axq(v:AV)(n:Nat)(l:List aE)(T:Rv v 2 (l.map ay))(M:RB l)(x:Nat)(hx:x<1099511627776)(H:List ae)(lo:oN):
  D X0 (.fn (.func SD) [] []) [.agg [v,.int .i64 n],.int .i64 x] ⟨H,lo⟩=some (.ret (Ot l x) ⟨H,lo⟩):=by
 refine aF UX λN F=>?_
 have K:v.refs=0:=cJ T (bz (λ_=>rfl) l);have ha:=alA v n K (N+4) (H++[.box [v,.int .i64 n] none,.box [.int .i64 x] none,.box [.int .i64 0] none,.box [.bool false] none]) (by simp[F]) none;simp only[go_sem,simprocAttr,UX,F,ha];refine zd (S:=Nat×Bool) (λe=>e 3= .ptr (N+1) 0/\e 4= .ptr (N+2) 0/\e 5= .ptr (N+3) 0) (by simp only[go_sem,simprocAttr]) (xU l) F [.box [v,.int .i64 n] none] (λs=>[.box [v,.int .i64 n] none,.box [.int .i64 x] none,.box [.int .i64 (s.1:Nat)] none,.box [.bool s.2] none]) (nB:=4) (λ_=>rfl) (0,false)
  (λj s=>s=(0,false)/\ku l 0 x=ku (l.drop j) (32*aM (l.take j)) x) (λex s=>ex= .ret/\ku l 0 x=some s.1/\s.2=true) rfl ?_ (by simp) ⟨rfl,by simp[aM]⟩ (λex s h=>?_) ?_ ?_ ?_
 ·exact alB v n l T M (N+4)
 ·exact⟨.ret,by rw[h.1];rfl,by rw[h.1];rfl,by rw[h.1];rfl⟩
 ·rintro e ⟨e3,I,G⟩ j y s J ⟨rfl,d⟩;have C:j<l.length:=by
   have:=(aaG.1 J).1;rwa[Hz]at this
  rw[XX C]at J;cases J;have Z:=M.2 _ (eV C);have hpg:=M.bd j;have A:=XW C;have m:l.drop j=l.getD j default::l.drop (j+1):=by
   rw[aqn C,aiu,abe C];rfl
  rw[m,alG]at d;generalize hrg:l.getD j default=r at*;refine⟨rfl,λW n' hn hnl w=>?_⟩;simp only[go_sem,simprocAttr,iJ,hn,On];refine⟨[.box (ay r) none],rfl,λR q E=>?_⟩;simp only[gP,gO,aqt,ajG,Nat.reduceAdd]at E;obtain⟨w0,w1,k,u⟩:=E;have f1: ∀L,(R++L)[N+1]?=some (.box [.int .i64 x] none):=λL=>bf w1
  have f2: ∀L,(R++L)[N+2]?=some (.box [.int .i64 (0:Nat)] none):=λL=>bf k
  have f3: ∀L,(R++L)[N+3]?=some (.box [.bool false] none):=λL=>bf u
  by_cases X:32*aM (l.take j)<=x
  ·have g: (x:Int)>=((32*aM (l.take j):Nat):Int):=by omega
   by_cases V:x<32*aM (l.take j)+r.2*32
   ·have t: (x:Int)< ((32*aM (l.take j):Nat):Int)+r.2*32:=by omega
    rw[aaR ⟨X,V⟩]at d;have z: (r.1:Int)*32+x- ((32*aM (l.take j):Nat):Int)=((r.1*32+x-32*aM (l.take j):Nat):Int):=by omega
    simp(disch:=omega) only[go_sem,simprocAttr,Np,e3,I,G,f1,f2,f3,q,g,t,z,au1];refine⟨(r.1*32+x-32*aM (l.take j),true),?_,by omega,λi U B=>?_,d,rfl⟩
    ·simp only[gP,gO,aqt,ajG,Nat.reduceAdd];refine⟨?_,?_,?_,?_⟩
     ·rw[aaD (by omega),aaD (by omega)];exact bf w0
     ·rw[aaD (by omega),aaD (by omega)];exact f1 _
     ·rw[aaD (by omega),ah5 (by simp;omega)]
     ·rw[ah5 (by simp;omega)]
    ·rw[aaD (by omega),aaD (by omega),aaF (by omega)]
   ·have t: ¬(x:Int)< ((32*aM (l.take j):Nat):Int)+r.2*32:=by omega
    rw[aaH (λh=>V h.2)]at d;simp(disch:=omega) only[go_sem,simprocAttr,Np,e3,f1,q,g,t,sU];refine⟨(0,false),?_,by omega,λi U B=>aaF (by omega),rfl,?_⟩
    ·simp only[gP,gO,aqt,ajG,Nat.reduceAdd];exact⟨bf w0,f1 _,f2 _,f3 _⟩
    ·rw[d,A,Nat.mul_add,Nat.mul_comm 32 r.2]
  ·have g: ¬(x:Int)>=((32*aM (l.take j):Nat):Int):=by omega
   rw[aaH (λh=>X h.1)]at d;simp only[go_sem,simprocAttr,Np,e3,f1,q,g,sU];refine⟨(0,false),?_,by omega,λi U B=>aaF (by omega),rfl,?_⟩
   ·simp only[gP,gO,aqt,ajG,Nat.reduceAdd];exact⟨bf w0,f1 _,f2 _,f3 _⟩
   ·rw[d,A,Nat.mul_add,Nat.mul_comm 32 r.2]
 ·rintro e ⟨e3,I,G⟩ s W p hp ⟨rfl,d⟩ f w Q;simp only[gP,gO,aqt,ajG,Nat.reduceAdd]at w;obtain⟨w0,w1,k,u⟩:=w;rw[Hz,List.drop_length]at d;have e0:ku l 0 x=none:=d;have O: ∀a b c,(((W.set (N+2) a).set (N+3) b).set p c).take N=H:=λa b c=>(((f.set (by omega)).set (by omega)).set (by omega)).take F
  have s2:=cx (o:=.box [.int .i64 0] none) k;have Y: ∀a b,((W.set (N+2) a).set (N+3) b)[N+3]?=some b:=λa b=>ah5 (by rw[ajB];exact fi u)
  have s2: ∀a b,((W.set (N+2) a).set (N+3) b)[N+2]?=some a:=λa b=>by rw[aaD (by omega)];exact cx k
  simp(disch:=omega) only[F1,go_sem,simprocAttr,I,G,k,u,Q,nO,O,s2,Y,Ot,e0]
 ·rintro e ⟨e3,I,G⟩ ex s W p hp ⟨rfl,d,hs⟩ f w Q;simp only[gP,gO,aqt,ajG,Nat.reduceAdd]at w;obtain⟨w0,w1,k,u⟩:=w;have P: ∀o,(W.set p o).take N=H:=λo=>(f.set (by omega)).take F
  simp(disch:=omega) only[F1,go_sem,simprocAttr,I,G,k,u,Q,nO,P];refine cU ?_ rfl;unfold Ot;rw[d,hs];rfl
def XY(t:aw)(O:bR t)(U:cu t)(a b:Nat)(T:a<4294967296)(K:b<4294967296)(H:List ae)(lo:oN):
  D X0 (.fn (.func Fs) [] []) [.agg (aI t),.int .u32 a,.int .u32 b] ⟨H,lo⟩=some (.ret (.bool (kr t a b)) ⟨H,lo⟩):=by
 refine aF Ha λN q=>?_
 have B: ∀h,ax t.b h=t.ax h:=λh=>rfl
 have f:=eF t.b a T;have g:=eF t.b b K;simp only[B]at f g;cases y:t.ax a
 ·rw[y]at f;simp only[F1,go_sem,simprocAttr,Ha,q,f,kr,y,ajT]
 ·rw[y]at f;cases A:t.ax b
  ·rw[A]at g;simp only[F1,go_sem,simprocAttr,Ha,q,f,g,kr,y,A,ajT,aud]
  ·rw[A]at g;have G:=XH t b (N+3) (H++[.box (aI t) none,.box [.int .u32 a] none,.box [.bool (decide ((a:Int)=b))] none]) (by simp[q]) none;simp only[go_sem,simprocAttr,Ha,q,f,g,G];have F:decide ((a:Int)=(b:Int))=decide (a=b):=ajF.2 (by omega);refine zd (S:=Bool) (λe=>e 4= .ptr (N+1) 0/\e 7= .ptr (N+2) 0) (by simp only[go_sem,simprocAttr]) (nP t b) q [.box (aI t) none,.box [.int .u32 b] none] (λs=>[.box (aI t) none,.box [.int .u32 a] none,.box [.bool s] none]) (nB:=3) (λ_=>rfl) (decide ((a:Int)=b)) (λj s=>s=(decide (a=b)|| ((aR t b).take j).contains a)) (λ_ _=>False) rfl ?_ (by simp) (by simp[F]) (λ_ _ h=>h.elim) ?_ ?_ ?_
   ·exact XI t O U b K (N+3)
   ·rintro e ⟨I,e7⟩ j x s M X;obtain⟨u,rfl,hu⟩:=XM M;refine⟨rfl,λW n hn Q C=>?_⟩;simp only[go_sem,simprocAttr,iJ];refine⟨[],by simp,λL l w=>?_⟩;simp only[gP,gO,aqt,ajG,Nat.reduceAdd]at w;obtain⟨w0,w1,m⟩:=w;have d: (decide (a=b)|| ((aR t b).take (j+1)).contains a)=(s||decide ((u:Int)=a)):=by
     rw[X,ajN,hu];have:decide ((u:Int)=a)=decide (a=u):=ajF.2 (by omega);rw[this];by_cases Z:a=b<;>by_cases Y:a=u<;>simp[Z,Y]
    have k: ∀z,(L.set (N+2) (.box [.bool z] none)).length=n->kb (L.set (N+2) (.box [.bool z] none)) N 0 [.box (aI t) none,.box [.int .u32 a] none,.box [.bool z] none]:=λz hl=>by
     simp only[gP,gO,aqt,ajG,Nat.reduceAdd];exact⟨by rw[aaD (by omega)];exact w0,by rw[aaD (by omega)];exact w1,cx m⟩
    cases s
    ·by_cases c: (u:Int)=a
     ·simp only[go_sem,simprocAttr,NP,I,e7,w1,m,ajJ,sU,c];exact⟨_,k _ (by rw[ajB];exact l),λi J v=>aaD (by omega),by rw[d];simp[c]⟩
     ·simp only[go_sem,simprocAttr,NP,I,e7,w1,m,ajJ,sU,c];exact⟨_,k _ (by rw[ajB];exact l),λi J v=>aaD (by omega),by rw[d];simp[c]⟩
    ·simp only[go_sem,simprocAttr,NP,e7,m,ajJ,sU];exact⟨_,k _ (by rw[ajB];exact l),λi J v=>aaD (by omega),by rw[d];simp⟩
   ·rintro e ⟨I,e7⟩ s W p P rfl r C R;simp only[gP,gO,aqt,ajG,Nat.reduceAdd]at C;obtain⟨w0,w1,m⟩:=C;have E: ∀o,(W.set p o).take N=H:=λo=>(r.set (by omega)).take q
    simp only[F1,go_sem,simprocAttr,e7,m,R,nO,E];rw[XN,aiv];refine cU (ajV _ ?_) rfl;unfold kr;rw[y,A];rfl
   ·rintro e he ex s W p P V;exact V.elim
def uA(t:aw)(h:Nat)(r:dk):AV:=.au [.agg (aI (fK t h r).1),.int .i64 (fK t h r).2]
def XZ(t:aw)(s:bR t)(h:Nat)(o:h<4294967296)(r:dk)(p:RB r.runs)(q:r.runs.length<=65)(k:r.len<4294967296)(H:List ae)(lo:oN):
  D X0 (.fn (.func Fo) [] []) [.agg (aI t),.int .u32 h,.agg (bW r)] ⟨H,lo⟩=some (.ret (uA t h r) ⟨H,lo⟩):=by
 refine aF CP λN i=>?_
 have n:=Ab h;have l: (aO h:Int)<32:=by omega
 have hs:iD h= .au [.int .i64 (aO h:Nat),.bool (eK h).isSome]:=rfl;have a:=eF t.b h o;have m:ax t.b h=t.ax h:=rfl;simp only[m]at a;have hm:=alD (eA r.runs) r.len r.runs k (nv _) p q;have d:fK t h r=if t.ax h=false then(t,4)else if 64<r.dC\/qn r.runs r.len=false then(t,2)else({t with r:=aq t.r (aO h) {r with up:=(t.r (aO h)).up}},0):=rfl
 cases g:t.ax h with
 |false=>
  rw[g]at a;have e:fK t h r=(t,4):=by rw[d,aaR g]
  simp only[F1,go_sem,simprocAttr,CP,i,a,cT,uA,e]
 |true=>
  rw[g]at a;rw[aaH (by rw[g];simp)]at d;have j:=Ai r.dC;by_cases f:r.dC<=64
  ·have c:decide (r.dC<=64)=true:=abj f;cases b:qn r.runs r.len with
   |false=>
    rw[aaR (.inr b)]at d;simp only[F1,go_sem,simprocAttr,CP,i,a,cT,j,c,hm,b,uA,d]
   |true=>
    rw[aaH (by rw[b];simp;omega)]at d;simp only[F1,go_sem,simprocAttr,CP,i,a,cT,j,c,hm,b,uA,d,jQ h o,hs,l,WW n,avK,N3 n];omega
  ·have c:decide (r.dC<=64)=false:=abi f;rw[aaR (.inl (by omega))]at d;simp only[F1,go_sem,simprocAttr,CP,i,a,cT,j,c,uA,d]
def wa(t:aw)(h u:Nat):AV:=.au [.agg (aI (mf t h u).1),.int .i64 (mf t h u).2]
def alH(t:aw)(Y:bR t)(Z:cu t)(h w:Nat)(S:h<4294967296)(X:w<4294967296)(H:List ae)(lo:oN):
  D X0 (.fn (.func BT) [] []) [.agg (aI t),.int .u32 h,.int .u32 w] ⟨H,lo⟩=some (.ret (wa t h w) ⟨H,lo⟩):=by
 refine aF CQ λN F=>?_
 have W:=Ab h;have B: (aO h:Int)<32:=by omega
 have hs:iD h= .au [.int .i64 (aO h:Nat),.bool (eK h).isSome]:=rfl;have b:=eF t.b h S;have g:=eF t.b w X;have T: ∀h,ax t.b h=t.ax h:=λh=>rfl
 simp only[T]at b g;have j:mf t h w=if t.ax h=false\/ (w≠0/\t.ax w=false)then(t,4)else if w≠0/\h∈w::aR t w then(t,12)else({t with r:=aq t.r (aO h) {t.r (aO h)with up:=w}},0):=rfl
 cases E:t.ax h with
 |false=>
  rw[E]at b;rw[aaR (.inl E)]at j;simp only[F1,go_sem,simprocAttr,CQ,F,b,cT,wa,j]
 |true=>
  rw[E]at b;by_cases c:w≠0/\t.ax w=false
  ·rw[aaR (.inr c)]at j;rw[c.2]at g;have y: ¬(w:Int)=0:=by omega
   simp only[F1,go_sem,simprocAttr,CQ,F,b,g,y,cT,wa,j]
  ·rw[aaH (by rw[E];simpa using c)]at j;have i:w=0\/ (¬(w:Int)=0/\t.ax w=true):=by
    by_cases l:w=0
    ·exact .inl l
    ·refine .inr ⟨by omega,?_⟩;cases I:t.ax w
     ·exact absurd ⟨l,I⟩ c
     ·rfl
   obtain⟨L,V⟩: ∃L,L=if w=0 then[]else w::aR t w:=⟨_,rfl⟩
   have o: (w≠0/\h∈w::aR t w)↔h∈L:=by
    rw[V];by_cases l:w=0
    ·simp[l]
    ·rw[aaH l];exact⟨λq=>q.2,λq=>⟨l,q⟩⟩
   have key: ∀Q:bU,(∀e:Env,e 1= .int .u32 h->e 2= .int .u32 w->e 3= .ptr N 0->e 6= .ptr (N+1) 0->h∉L->Q (.exit 0) ⟨e,[]⟩ ⟨H++[.box (aI t) none,.box l6 none],none⟩)->
     (∀e:Env,e 6= .ptr (N+1) 0->e 7= .int .i64 12->h∈L->Q .ret ⟨e,[]⟩ ⟨H++[.box (aI t) none,.box (aI t) none],none⟩)->
     ∀e:Env,e 1= .int .u32 h/\e 2= .int .u32 w/\e 3= .ptr N 0/\e 6= .ptr (N+1) 0/\e 8= .int .u32 w->wp X0 BT false (PC.loop Hb) ⟨e,[]⟩ ⟨H++[.box (aI t) none,.box l6 none],none⟩ Q:=by
    rintro Q I hr e ⟨e1,p,e3,e6,e8⟩;refine dB L.length (λk e H'=>H'=H++[.box (aI t) none,.box l6 none]/\e 1= .int .u32 h/\e 2= .int .u32 w/\e 3= .ptr N 0/\e 6= .ptr (N+1) 0/\ ∃x,e 8= .int .u32 (x:Nat)/\ (if x=0 then[]else x::aR t x)=L.drop k/\ (x≠0->t.ax x=true)/\h∉L.take k) 0 (by omega) ?_ ?_
    ·refine⟨rfl,e1,p,e3,e6,w,e8,by rw[V];simp,λl=>?_,by simp⟩;rcases i with rfl|q
     ·exact absurd rfl l
     ·exact q.2
    rintro k hk e H' ⟨rfl,e1,p,e3,e6,x,e8,z,m,a⟩ n hn;by_cases s:x=0
    ·subst s;have P:L.take k=L:=by
      have:=ajV List.length z;rw[aaR rfl,apj]at this;exact abk (by simp at this;omega)
     rw[P]at a;simp only[go_sem,simprocAttr,Hb,e8];exact I _ (by simp only[go_sem,simprocAttr,e1]) (by simp only[go_sem,simprocAttr,p]) (by simp only[go_sem,simprocAttr,e3]) (by simp only[go_sem,simprocAttr,e6]) a
    ·have A: ¬(x:Int)=0:=by omega
     have m:=m s;rw[aaH s]at z;have O:k<L.length:=by
      have:=ajV List.length z;rw[apj,ajC]at this;omega
     have M:L.take (k+1)=L.take k++[x]:=by
      rw[ajN];have:L[k]?=(L.drop k)[0]?:=by rw[anb];rfl
      rw[this,<-z];rfl
     by_cases G:x=h
     ·have f: (x:Int)=h:=by omega
      have d:h∈L:=by
       rw[<-aqr k L,<-z,G];simp
      have R: ¬(h:Int)=0:=by omega
      simp(disch:=omega) only[go_sem,simprocAttr,Hb,e1,e3,e6,e8,f,R,cT];exact hr _ (by simp only[go_sem,simprocAttr,e6]) (by simp only[go_sem,simprocAttr]) d
     ·have f: ¬(x:Int)=h:=by omega
      have J:=akR t Y x (gn m);have v:bK t x=kq t (aO x):=by unfold bK;rw[aaR m]
      have U:=ui Z x;simp(disch:=omega) only[go_sem,simprocAttr,Hb,e1,p,e3,e6,e8,A,f,J];refine⟨O,kq t (aO x),rfl,?_,λl=>?_,?_⟩
      ·rw[<-v,<-arY,<-z,apg,alq,U]
      ·exact(Ho (by rw[v];exact l)).1 ▸ (by rw[v])
      ·rw[M];simp[a];omega
   rcases i with rfl| ⟨y,C⟩
   ·rw[aaH (by simp)]at j;simp only[go_sem,simprocAttr,CQ,F,b];refine key _ ?_ ?_ _ (by simp only[go_sem,simprocAttr])
    ·intro e e1 p e3 e6 _;have K:aH (aI t) (96+aO h*12) [.int .u32 0]=aI {t with r:=aq t.r (aO h) {t.r (aO h)with up:=0}}:=akh (u:=0) W;simp(disch:=omega) only[F1,go_sem,simprocAttr,e1,p,e3,e6,jQ h S,hs,B,K,cT,wa,j];omega
    ·intro e e6 e7 d;rw[V]at d;simp at d
   ·rw[C]at g;simp only[go_sem,simprocAttr,CQ,F,b,g,y];refine key _ ?_ ?_ _ (by simp only[go_sem,simprocAttr])
    ·intro e e1 p e3 e6 a;rw[aaH (λq=>a (o.1 q))]at j;simp(disch:=omega) only[F1,go_sem,simprocAttr,e1,p,e3,e6,jQ h S,hs,B,akh W,cT,wa,j];omega
    ·intro e e6 e7 d;rw[aaR (o.2 d)]at j;simp(disch:=omega) only[F1,go_sem,simprocAttr,e6,e7,wa,j]
def Ap(t:aw)(a n:Nat):AV:=.au [.agg (aI (ib t a n).1),.int .u32 (ib t a n).2.1,.int .i64 (ib t a n).2.2]
def axs(t:aw)(k:bR t)(m:cu t)(a n:Nat)(j:a<4294967296)(H:List ae)(lo:oN):
  D X0 (.fn (.func SR) [] []) [.agg (aI t),.int .u32 a,.int .i64 n] ⟨H,lo⟩=some (.ret (Ap t a n) ⟨H,lo⟩):=by
 refine aF zV λN f=>?_
 have e:=awa t k a n j;have g:=Oj t k m a j;have d:ib t a n=if((me t a n).2.2=0\/ (me t a n).2.2=7)/\6<=depth t a then(t,0,8)else me t a n:=rfl
 by_cases i: (me t a n).2.2=0\/ (me t a n).2.2=7
 ·by_cases l:6<=depth t a
  ·rw[aaR ⟨i,l⟩]at d;have b: (depth t a:Int)>=6:=by omega
   rcases i with c|c
   ·simp only[F1,go_sem,simprocAttr,zV,f,e,Aj,c,g,b,cT,Ap,d]
   ·simp only[F1,go_sem,simprocAttr,zV,f,e,Aj,c,g,b,cT,Ap,d]
  ·rw[aaH (λh=>l h.2)]at d;have b: ¬(depth t a:Int)>=6:=by omega
   rcases i with c|c
   ·simp only[F1,go_sem,simprocAttr,zV,f,e,Aj,c,g,b,cT,Ap,d]
   ·simp only[F1,go_sem,simprocAttr,zV,f,e,Aj,c,g,b,cT,Ap,d]
 ·rw[aaH (λh=>i h.1)]at d;have p: ¬((me t a n).2.2:Int)=0:=by omega
  have o: ¬((me t a n).2.2:Int)=7:=by omega
  simp only[F1,go_sem,simprocAttr,zV,f,e,Aj,p,o,cT,Ap,d]
theorem alI:Ext X4 X where
 dp:=rfl
 fo:=rfl
 code:=rfl
 bZ:=λf=>by
  show(if f=iM then some ml else if f=ke then some nQ else if f=mI then some qy else if f=ng then some sb else if f=rl then some xS else if f=sV then some An else if f=pR then some Dc else none)=(if f=iM then some ml else if f=ke then some nQ else if f=mI then some qy else if f=ng then some sb else none)\/_;by_cases i:f=iM
  ·grind
  by_cases h:f=ke
  ·grind
  by_cases d:f=mI
  ·grind
  by_cases c:f=ng
  ·grind
  by_cases j:kL.contains f=true
  ·right
   refine⟨?_,?_⟩
   ·show(if f=iM then some ml else if f=ke then some nQ else if f=mI then some qy else if f=ng then some sb else none)=none
    grind
   ·show(if kL.contains f then none else zX.lookup f)=none
    grind
  ·left
   have a:kL.contains f=false:=by grind
   have e: ∀g,kL.contains g=true->f≠g:=λg b=>ie a b
   simp only[aaH i,aaH h,aaH d,aaH c,aaH (e rl rfl),aaH (e sV rfl),aaH (e pR rfl)]
theorem X7: ∀ {l:List aE},(∀x∈l,1<=x.2)->l.length<=aM l
 | [],_=>by simp
 |x::xs,h=>by
  have c:=h x (ald ..);have b:=X7 (l:=xs) λy a=>h y (ajH _ a)
  simp only[aM,ape,List.sum_cons,ajC]at b⊢;omega
def fV.rb{r:dk}(h:fV r):RB r.runs/\r.runs.length<=64:=by
 have c:=X7 λx a=>(h.runs x a).1
 have b:=h.aM;refine⟨⟨by omega,λx a=>?_⟩,by omega⟩;have:=h.runs x a;omega
def fV.Ou{r:dk}(h:fV r)(a:x<4294967296):fV {r with up:=x}:=⟨a,h.dC,h.len,h.cells,h.runs,h.aM⟩
def fV.setCells{r:dk}(h:fV r){f:Nat->Nat}(a: ∀i,f i<4294967296):fV {r with cells:=f}:=⟨h.up,h.dC,h.len,a,h.runs,h.aM⟩
def Df:fV dM:=⟨by trivial,by trivial,by trivial,by simp[dM],by trivial,by trivial⟩
def bR.get{t:aw}(a:bR t)(h:Nat):fV (aJ t h).1:=by
 unfold aJ;split
 ·exact(a.r _).Ou akI
 ·exact Df
theorem bR.aq{t:aw}(a:bR t){i:Nat}{r:dk}(b:fV r):bR {t with r:=aq t.r i r}:=⟨a.b,λj=>by
 show fV (Go.Proofs.YteplichagkpciaaGreatDoor.aq t.r i r j);by_cases e:j=i
 ·rw[e,cZ];exact b
 ·rw[ds e];exact a.r j⟩
def bR.set{t:aw}(a:bR t){r:dk}(b:fV r):bR (fK t h r).1:=by
 unfold fK;split
 ·omega
 ·split
  ·omega
  ·exact a.aq (b.Ou (a.r _).up)
def bR.raise{t:aw}(a:bR t)(b:x<4294967296):bR (mf t h x).1:=by
 unfold mf;split
 ·omega
 ·split
  ·omega
  ·exact a.aq ((a.r _).Ou b)
def iF(t a:aw):Prop:=a.b=t.b/\ ∀i,(a.r i).up=(t.r i).up
theorem iF.refl(t:aw):iF t t:=⟨rfl,λ_=>rfl⟩
theorem iF.trans{a b c:aw}(e:iF a b)(d:iF b c):iF a c:=⟨d.1.trans e.1,λi=>(d.2 i).trans (e.2 i)⟩
theorem iF.ax{t a:aw}(h:iF t a)(x:Nat):a.ax x=t.ax x:=by unfold aw.ax;rw[h.1]
theorem iF.bK{t a:aw}(h:iF t a)(x:Nat):bK a x=Go.Proofs.YteplichagkpciaaGreatDoor.bK t x:=by
 unfold Go.Proofs.YteplichagkpciaaGreatDoor.bK kq;simp only[h.ax,h.2]
theorem iF.eD{t a:aw}(h:iF t a): ∀n x,eD a n x=Go.Proofs.YteplichagkpciaaGreatDoor.eD t n x
 |0,_=>rfl
 |n+1,x=>by simp only[Go.Proofs.YteplichagkpciaaGreatDoor.eD,h.bK,h.eD n]
theorem iF.aR{t a:aw}(h:iF t a)(x:Nat):aR a x=Go.Proofs.YteplichagkpciaaGreatDoor.aR t x:=h.eD 32 x
def iF.tree{t a:aw}(h:iF t a)(b:cu t):cu a:=λx=>by rw[h.aR];exact b x
def iF.set(t:aw)(h:Nat)(r:dk):iF t (fK t h r).1:=by
 unfold fK;split
 ·exact .refl t
 ·split
  ·exact .refl t
  ·refine⟨rfl,λi=>?_⟩;show(aq t.r (aO h) _ i).up=_;by_cases e:i=aO h
   ·rw[e,cZ]
   ·rw[ds e]
def axt{t:aw}(c:cu t)(a:x∈dE t h):dep t h<=dep t x:=by
 have key: ∀n h,x∈ia t n h->dep t h<=dep t x:=by
  intro n
  induction n with
  |zero=>intro h a;rw[ia,ahc]at a;grind
  |succ n b=>
   intro h a;rcases ajR.1 a with rfl|a
   ·simp
   ·grind [C0]
 exact key 32 h a
def X8{t:aw}(a:t.ax h=true):depth t h=1+dep t h:=by unfold depth;rw[aaR a];rfl
def axu{t0 t:aw}(a:bR t)(h x:Nat):bR (z9 t0 h t x):=by
 refine a.set (fV.setCells (a.get x) λi=>?_);have:=(a.get x).cells i
 grind
def axv(t0 t:aw)(h x:Nat):iF t (z9 t0 h t x):=iF.set _ _ _
def xW(t0:aw)(h:Nat)(t:aw)(l:lN):aw:=l.foldl (z9 t0 h) t
def X9{t0 t:aw}(a:bR t)(h:Nat): ∀l,bR (xW t0 h t l):=by
 intro l
 induction l generalizing t with
 |nil=>exact a
 |cons x xs b=>exact b (axu a h x)
theorem Ya(t0:aw)(h:Nat): ∀ (l:lN) (t:aw),iF t (xW t0 h t l)
 | [],t=>.refl t
 |x::xs,t=>(axv t0 t h x).trans (Ya t0 h xs _)
def axw{t0 t:aw}{l:lN}{k:Nat}(a:l[k]?=some x):xW t0 h t (l.take (k+1))=z9 t0 h (xW t0 h t (l.take k)) x:=by
 unfold xW;rw[ajN,a,apm];rfl
theorem Yb(t:aw)(h:Nat):jr t h=if t.ax h=false then(t,4)else mf (xW t h t (dE t h)) h 0:=rfl
def alJ{t:aw}{x:lA}(a: (se t h)[j]?=some x): ∃y,x=[.int .u32 (y:Nat)]/\ (dE t h)[j]?=some y:=by
 unfold se at a;rw[ajP,ah3]at a;obtain⟨y,b,rfl⟩:=a;exact⟨y,rfl,b⟩
def axx{t:aw}(a:cu t)(h:Nat):depth t h<=6:=by
 unfold depth;split
 ·have:=a h;omega
 ·omega
theorem alK{f:Nat->Nat}{c:Nat}: ∀ (l:lN) (s:Nat),(∀x∈l,f x<=c)->s<=c->l.foldl (λn x=>max n (f x)) s<=c
 | [],s,_,hs=>hs
 |x::xs,s,b,hs=>alK xs _ (λy a=>b y (ajH _ a)) (by grind)
def axy{t:aw}(a:cu t)(h:Nat):ue t h<=7:=by
 exact alK (f:=λx=>depth t x-depth t h+1) _ _ (λx _=>by have:=axx a x;omega) (by omega)
def axz(t:aw)(m:bR t)(k:cu t)(h:Nat)(a:t.ax h=true)(H:List ae)(lo:oN):
  D X (.fn (.func Tf) [] []) [.agg (aI t),.int .u32 h] ⟨H,lo⟩=some (.ret (.int .i64 (ue t h:Nat)) ⟨H,lo⟩):=by
 refine aF VN λN q=>?_
 have J:=up dt (XQ t h (N+3) (H++[.box (aI t) none,.box [.int .u32 h] none,.box [.int .i64 0] none]) (by simp[q]) none);simp only[go_sem,simprocAttr,VN,q,J];refine zd (S:=Nat) (λe=>e 2= .ptr N 0/\e 3= .ptr (N+1) 0/\e 5= .ptr (N+2) 0) (by simp only[go_sem,simprocAttr]) (se t h) q [.box (aI t) none,.box [.int .u32 h] none] (λs=>[.box (aI t) none,.box [.int .u32 h] none,.box [.int .i64 (s:Nat)] none]) (nB:=3) (λ_=>rfl) 0
  (λj s=>s=((dE t h).take j).foldl (λn x=>max n (depth t x-depth t h+1)) 0/\s<=100) (λ_ _=>False) rfl ?_ (by simp) ⟨rfl,by omega⟩ (λ_ _ h=>h.elim) ?_ ?_ ?_
 ·exact XS alI t m k h a (N+3)
 ·rintro e ⟨A,e3,w⟩ j x s B ⟨hs,C⟩;obtain⟨y,rfl,z⟩:=alJ B;have c:y∈dE t h:=aoA z;have f:=Hp m.b a c;have G:=axt k c;have L:=k y;have T:=X8 f;have R:=X8 a;have Q:dep t y<=5:=L;have b:=λH lo=>up dt (Oj t m k y (gn f) H lo)
  have v:=λH lo=>up dt (Oj t m k h (gn a) H lo)
  refine⟨rfl,λW n O E u=>?_⟩;simp only[go_sem,simprocAttr,iJ];refine⟨[],by simp,λU K g=>?_⟩;simp only[gP,gO,aqt,ajG,Nat.reduceAdd]at g;obtain⟨w0,w1,l⟩:=g;have r:max (s:Int) ((depth t y:Int)-depth t h+1)=((max s (depth t y-depth t h+1):Nat):Int):=by omega
  simp(disch:=omega) only[go_sem,simprocAttr,ajr,A,e3,w,w0,w1,l,b,v,Q3,Q2,r,sU];refine⟨max s (depth t y-depth t h+1),?_,λi P F=>aaD (by omega),?_,?_⟩
  ·simp only[gP,gO,aqt,ajG,Nat.reduceAdd];exact⟨by rw[aaD (by omega)];exact w0,by rw[aaD (by omega)];exact w1,cx l⟩
  ·rw[ajN,z,apm,<-hs];rfl
  ·omega
 ·rintro e ⟨A,e3,w⟩ s W p M ⟨rfl,_⟩ d u I;simp only[gP,gO,aqt,ajG,Nat.reduceAdd]at u;obtain⟨w0,w1,l⟩:=u;have b: ∀o,(W.set p o).take N=H:=λo=>(d.set (by omega)).take q
  simp only[F1,go_sem,simprocAttr,w,l,I,nO,b];rw[XR,aiv];rfl
 grind
def xX(t:aw)(h w:Nat):AV:=.au [.agg (aI (vN t h w).1),.int .i64 (vN t h w).2]
def axA(t:aw)(k:bR t)(f:cu t)(h w:Nat)(q:h<4294967296)(p:w<4294967296)(H:List ae)(lo:oN):
  D X (.fn (.func SY) [] []) [.agg (aI t),.int .u32 h,.int .u32 w] ⟨H,lo⟩=some (.ret (xX t h w) ⟨H,lo⟩):=by
 refine aF xy λN i=>?_
 have a:=λH lo=>up dt (eF t.b h q H lo)
 have b:=λH lo=>up dt (eF t.b w p H lo)
 have v: ∀h,ax t.b h=t.ax h:=λh=>rfl
 simp only[v]at a b;have c:vN t h w=if t.ax h=false\/t.ax w=false then(t,4)else if root t h≠h\/kr t h w then(t,12)else if 6<depth t w+ue t h then(t,8)else mf t h w:=rfl
 have d:=λH lo=>up dt (Am t k f h q H lo)
 have e:=λH lo=>up dt (XY t k f h w q p H lo)
 have l:=λH lo=>up dt (Oj t k f w p H lo)
 have u:=λH lo=>up dt (alH t k f h w q p H lo)
 cases n:t.ax h with
 |false=>
  rw[n]at a;rw[aaR (.inl n)]at c;simp only[F1,go_sem,simprocAttr,xy,i,a,cT,xX,c]
 |true=>
  rw[n]at a;have j:=axz t k f h n;cases m:t.ax w with
  |false=>
   rw[m]at b;rw[aaR (.inr m)]at c;simp only[F1,go_sem,simprocAttr,xy,i,a,b,cT,xX,c]
  |true=>
   rw[m]at b;rw[aaH (by rw[n,m];simp)]at c;by_cases s:root t h=h
   ·have o: ((root t h:Nat):Int)=(h:Nat):=by omega
    cases r:kr t h w with
    |true=>
     rw[aaR (.inr r)]at c;rw[r]at e;rw[s]at d;simp only[F1,go_sem,simprocAttr,xy,i,a,b,d,e,cT,xX,c]
    |false=>
     rw[aaH (by rw[r];simp[s])]at c;rw[r]at e;rw[s]at d;have y:ue t h<=7:=axy f h;have z:depth t w<=100:=by
      have:=f w;rw[X8 m];show 1+(aR t w).length<=100;omega
     by_cases x:6<depth t w+ue t h
     ·have g: (depth t w:Int)+ue t h>6:=by omega
      rw[aaR x]at c;simp(disch:=omega) only[F1,go_sem,simprocAttr,xy,i,a,b,d,e,l,j,g,cT,xX,c]
     ·have g: ¬(depth t w:Int)+ue t h>6:=by omega
      rw[aaH x]at c;simp(disch:=omega) only[F1,go_sem,simprocAttr,xy,i,a,b,d,e,l,j,g,u,wa,cT,xX,c]
   ·have o: ¬((root t h:Nat):Int)=(h:Nat):=by omega
    rw[aaR (.inl s)]at c;simp only[F1,go_sem,simprocAttr,xy,i,a,b,d,o,cT,xX,c]
def wb(t:aw)(h c:Nat):Bool:=decide (c≠h)&&kr t c h
def axB(t:aw)(i:bR t)(l:cu t)(h c:Nat)(j:h<4294967296)(k:c<4294967296)(g f:Nat)(H:List ae)(b:H[f]?=some (.box (aI t) none))(a:H[g]?=some (.box [.int .u32 h] none))(lo:oN):
  D X (.fn (.func Fx) [] [.ptr g 0,.ptr f 0]) [.int .u32 c] ⟨H,lo⟩=some (.ret (.bool (wb t h c)) ⟨H,lo⟩):=by
 refine fb NU λN n=>?_
 have d:=λH lo=>up dt (XY t i l c h k j H lo)
 by_cases e:c=h
 ·simp(disch:=omega) only[F1,go_sem,simprocAttr,NU,a,wb,e,not_true,dF,ajT]
 ·have m: ¬(c:Int)=h:=by omega
  simp(disch:=omega) only[F1,go_sem,simprocAttr,NU,b,a,m,d,wb,e]
def uB(t:aw)(h:Nat)(f:Nat->Nat)(k:Nat):Nat->Nat:=λi=>if i<k/\wb t h (f i)=true then 0 else f i
theorem HB{t:aw}{f:Nat->Nat}{k:Nat}:uB t h f k i=if i<k/\wb t h (f i)=true then 0 else f i:=rfl
def axC(t:aw)(h:Nat)(f:Nat->Nat)(k:Nat):uB t h f (k+1)=if wb t h (f k)=true then aq (uB t h f k) k 0 else uB t h f k:=by
 funext i
 by_cases a:wb t h (f k)=true
 ·by_cases e:i=k
  ·simp_all[cZ,HB,aaR]
  ·grind [ds,HB]
 ·rw[aaH a,HB,HB]
  grind
def axD(t:aw)(h:Nat)(r:dk):bW {r with cells:=uB t h r.cells 8}=bW {r with cells:=λi=>if r.cells i≠h/\kr t (r.cells i) h then 0 else r.cells i}:=by
 refine aj6 (CU λi a=>?_);simp only[uB,wb,a,aBp]
 grind
def Ov(t:aw)(h:Nat):AV:=.au [.agg (aI (jr t h).1),.int .i64 (jr t h).2]
def axE(t:aw)(G:bR t)(hT:cu t)(h:Nat)(hh:h<4294967296)(H:List ae)(lo:oN):
  D X (.fn (.func Te) [] []) [.agg (aI t),.int .u32 h] ⟨H,lo⟩=some (.ret (Ov t h) ⟨H,lo⟩):=by
 refine aF NO λN T=>?_
 have q:=λH lo=>up dt (eF t.b h hh H lo)
 have hgg: ∀h,ax t.b h=t.ax h:=λh=>rfl
 simp only[hgg]at q;cases d:t.ax h with
 |false=>
  rw[d]at q;have Y:jr t h=(t,4):=by rw[Yb,aaR d]
  simp only[F1,go_sem,simprocAttr,NO,T,q,cT,Ov,Y]
 |true=>
  rw[d]at q;have Y:jr t h=mf (xW t h t (dE t h)) h 0:=by rw[Yb,aaH (by rw[d];simp)]
  have ha:=up dt (XQ t h (N+5) (H++[.box (aI t) none,.box [.int .u32 h] none,.box l6 none,.box [.fn (.func Fx) [] [.ptr (N+1) 0,.ptr N 0]] none,.box (aI t) none]) (by simp[T]) none);have hmx:max (N+1+1) (N+1)<=N+3+1:=by omega
  simp only[go_sem,simprocAttr,NO,T,q,cT,ha,hmx];refine zd (S:=aw) (λe=>e 3= .ptr (N+1) 0/\e 4= .ptr (N+2) 0/\e 6= .ptr (N+3) 0/\e 7= .ptr (N+4) 0) (by simp only[go_sem,simprocAttr]) (se t h) T [.box (aI t) none,.box [.int .u32 h] none] (λs=>[.box (aI t) none,.box [.int .u32 h] none,.box l6 none,.box [.fn (.func Fx) [] [.ptr (N+1) 0,.ptr N 0]] none,.box (aI s) none]) (nB:=5) (λ_=>rfl) t
   (λj s=>s=xW t h t ((dE t h).take j)) (λ_ _=>False) rfl ?_ (by simp) rfl (λ_ _ h=>h.elim) ?_ ?_ ?_
  ·exact XS alI t G hT h d (N+5)
  ·rintro e ⟨e3,e4,e6,e7⟩ j x s hx hs;obtain⟨y,rfl,hy⟩:=alJ hx;have hym:y∈dE t h:=aoA hy;have O:=Hp G.b d hym;have I:=axw (t0:=t) (t:=t) (h:=h) hy;have b:bR s:=by rw[hs];exact X9 G h _
   rw[<-hs]at I;have P:=λH lo=>up dt (vZ s b y (gn O) H lo)
   have A:=b.get y;have c:z9 t h s y=(fK s y {(aJ s y).1 with cells:=λi=>if(aJ s y).1.cells i≠h/\kr t ((aJ s y).1.cells i) h then 0 else(aJ s y).1.cells i}).1:=rfl;generalize hr: (aJ s y).1=r at*;have g:fV {r with cells:=λi=>if r.cells i≠h/\kr t (r.cells i) h then 0 else r.cells i}:=fV.setCells A λi=>by
    have:=A.cells i;show(if _ then _ else _)<_;split<;>omega
   have J:=λH lo=>up dt (XZ s b y (gn O) _ g.rb.1 (by have:=g.rb.2;omega) (by have:=g.len;omega) H lo)
   refine⟨rfl,λW n hn hnl hg=>?_⟩;simp only[go_sem,simprocAttr,iJ];refine⟨[],by simp,λF R Q=>?_⟩;simp only[gP,gO,aqt,ajG,Nat.reduceAdd]at Q;obtain⟨w0,w1,V,w3,U⟩:=Q;have f0: ∀L,(F++L)[N]?=_:=λL=>bf w0
   have f1: ∀L,(F++L)[N+1]?=_:=λL=>bf w1
   have f3: ∀L,(F++L)[N+3]?=_:=λL=>bf w3
   have f4: ∀L,(F++L)[N+4]?=_:=λL=>bf U
   have hpc:Den.part true 8 (bW r) 4=_:=N2 (r:=r);simp only[go_sem,simprocAttr,ajq,e7,U,P,nN,hr,ky,R,hpc,ajJ];refine dB 8 (λk B H'=>H'=F++[.box (bW {r with cells:=uB t h r.cells k}) none]/\B 6= .ptr (N+3) 0/\B 7= .ptr (N+4) 0/\B 8= .int .u32 y/\B 9= .ptr n 0/\B 33= .agg (arr 8 λi=>[.int .u32 (r.cells i)])/\B 34= .int .i64 k) 0 (by omega) ?_ ?_
   ·simp only[go_sem,simprocAttr,e6,e7];have:uB t h r.cells 0=r.cells:=by funext i;rw[HB,aaH (by omega)]
    rw[this]
   ·rintro k hk B H' ⟨rfl,a6,Z,a8,a9,E,C⟩ n' IK;simp only[bO,go_sem,simprocAttr,ajp,Z,E,C];refine⟨λhc=>?_,λhc=>?_⟩
    ·have l:k<8:=by omega
     have w:qP false 8 1 (.agg (arr 8 λi=>[AV.int .u32 (r.cells i)])) (.int .i64 (k:Nat))=some (.int .u32 (r.cells k)):=
      WK l (by have:=jM (ag:=false) (m:=1) (n:=8) (k:=1) (i:=k) (o:=0) (f:=λi=>[AV.int .u32 (r.cells i)]) (λ_=>rfl) l (by omega) (by omega);rw[ajG]at this;rw[this];rfl)
     have v:=axB t G hT h (r.cells k) hh (A.cells k) (N+1) N (F++[.box (bW {r with cells:=uB t h r.cells k}) none]) (f0 _) (f1 _) none;have c:=axC t h r.cells k;cases ho:wb t h (r.cells k)
     ·rw[ho]at c v;rw[aaH (by simp)]at c;simp(disch:=omega) only[go_sem,simprocAttr,a6,Z,a8,a9,E,C,w,f3,v];rw[c];exact⟨l,rfl⟩
     ·rw[ho]at c v;rw[aaR rfl]at c;simp(disch:=omega) only[go_sem,simprocAttr,a6,Z,a8,a9,E,C,w,f3,v];have Yc:=aki (r:={r with cells:=uB t h r.cells k}) (u:=0) l;rw[c];exact⟨by omega,by omega,l,ajV (λz=>F++[ae.box z none]) Yc⟩
    ·obtain rfl:k=8:=by omega
     have Yd:=axD t h r;simp only[go_sem,simprocAttr,Z,a8,a9,f4,Yd,J,uA,sU,R];have gv:List.drop 480 (aI s)=[]:=ajX (by rw[iz];omega);rw[gv,ajJ];refine⟨z9 t h s y,?_,by omega,λi hi I0=>?_,I.symm⟩
     ·simp only[gP,gO,aqt,ajG,Nat.reduceAdd];refine⟨?_,?_,?_,?_,?_⟩
      ·rw[aaD (by omega)];exact f0 _
      ·rw[aaD (by omega)];exact f1 _
      ·rw[aaD (by omega)];exact bf V
      ·rw[aaD (by omega)];exact f3 _
      ·rw[c];exact cx (f4 _)
     ·rw[aaD (by omega),aaF (by omega)]
  ·rintro e ⟨e3,e4,e6,e7⟩ s W p hp hs M hg hd;simp only[gP,gO,aqt,ajG,Nat.reduceAdd]at hg;obtain⟨w0,w1,V,w3,U⟩:=hg;rw[XR,aiv]at hs;have b:bR s:=by rw[hs];exact X9 G h _
   have hsT:cu s:=by rw[hs];exact(Ya t h _ t).tree hT
   have XT:=λH lo=>up dt (alH s b hsT h 0 hh (by omega) H lo)
   rw[<-hs]at Y;have Rl: ∀a o,((W.set (N+2) a).set p o).take N=H:=λa o=>((M.set (by omega)).set (by omega)).take T
   have K: ∀H lo,D X (.fn (.func BT) [] []) [.agg (aI s),.int .u32 h,.int .u32 0] ⟨H,lo⟩=some (.ret (wa s h 0) ⟨H,lo⟩):=XT;simp(disch:=omega) only[F1,go_sem,simprocAttr,e3,e4,e7,w1,V,U,K,wa,hd,nO,Rl,cT,cx V,Ov,Y]
  ·rintro e he ex s W p hp hJ;exact hJ.elim
structure xY(x:Ow):Prop where
 kind:x.kind<256
 aa:x.aa<256
 hold:x.hold<256
structure fN(o:bQ):Prop where
 root: ∀i,(o i).root<4294967296
 own: ∀i,xY (o i).own
def Ye:xY xI:=⟨by trivial,by trivial,by trivial⟩
def fN.of{o:bQ}(ho:fN o)(t:aw)(h:Nat):xY (ch o t h):=by
 unfold ch;split
 ·split
  ·exact ho.own _
  ·exact Ye
 ·exact Ye
def fN.Ox{o:bQ}(ho:fN o){t:aw}{r:Nat}{x:Ow}(b:r<4294967296)(a:xY x):fN (fU o t r aa x).1:=by
 unfold fU;split
 ·omega
 ·split
  ·omega
  ·split
   ·omega
   ·refine⟨λi=>?_,λi=>?_⟩
    ·show(aq o (aO r) ⟨r,x⟩ i).root<_;by_cases e:i=aO r
     ·rw[e,cZ];exact b
     ·rw[ds e];exact ho.root i
    ·show xY (aq o (aO r) ⟨r,x⟩ i).own;by_cases e:i=aO r
     ·rw[e,cZ];exact a
     ·rw[ds e];exact ho.own i
def Aq(aa:Nat):ic aa<256:=by
 unfold ic;have:2^(aa % 8)<=2^7:=Nat.pow_le_pow_right (by omega) (by omega);omega
def aGM(b:a<256): (BitVec.ofInt 8 (a:Int)).toNat=a:=by grind
def Oy(d:a<256)(c:b<256):dq .and (.int .u8 (a:Nat)) (.int .u8 (b:Nat))=some (.int .u8 ((a&&&b:Nat):Int)):=by
 rw[EE];have e: (BitVec.ofInt IntKind.u8.bits (a:Int)&&&BitVec.ofInt IntKind.u8.bits (b:Int)).toNat=a&&&b:=by
  show(BitVec.ofInt 8 (a:Int)&&&BitVec.ofInt 8 (b:Int)).toNat=_
  grind
 have f:a&&&b<=a:=Nat.and_le_left;rw[e,wrap_u8 (by omega) (by omega)]
def axJ(d:a<256)(c:b<256):dq .xor (.int .u8 (a:Nat)) (.int .u8 (b:Nat))=some (.int .u8 ((a^^^b:Nat):Int)):=by
 rw[QZ];have e: (BitVec.ofInt IntKind.u8.bits (a:Int)^^^BitVec.ofInt IntKind.u8.bits (b:Int)).toNat=a^^^b:=by
  show(BitVec.ofInt 8 (a:Int)^^^BitVec.ofInt 8 (b:Int)).toNat=_
  grind
 have f:a^^^b<2^8:=aB7 (by omega) (by omega);rw[e,wrap_u8 (by omega) (by omega)]
theorem alL{k:Nat}:x&&&2^k=0↔x.testBit k=false:=by
 constructor
 ·intro h;have: (x&&&2^k).testBit k=false:=by grind
  grind
 ·intro h;apply Nat.eq_of_testBit_eq
  grind
def alM:decide (¬((x&&&ic aa:Nat):Int)=0)=oM x aa:=by
 unfold oM ic;cases h:x.testBit (aa % 8)
 ·rw[alL.2 h];simp
 ·grind [alL]
def Yf(aa:Nat)(f:aa<4611686018427387904)(H:List ae)(lo:oN):D X0 (.fn (.func BQ) [] []) [.int .i64 aa] ⟨H,lo⟩=some (.ret (.int .u8 (ic aa:Nat)) ⟨H,lo⟩):=by
 refine aF VG λN h=>?_
 have e:dq .and (.int .i64 (aa:Nat)) (.int .i64 7)=some (.int .i64 ((aa % 8:Nat):Int)):=by
  rw[EE];have e: (BitVec.ofInt IntKind.i64.bits (aa:Int)&&&BitVec.ofInt IntKind.i64.bits 7).toNat=aa % 8:=by
   show(BitVec.ofInt 64 (aa:Int)&&&BitVec.ofInt 64 7).toNat=_;have c: (BitVec.ofInt 64 (aa:Int)).toNat=aa:=by grind
   have b: (BitVec.ofInt 64 7).toNat=2^3-1:=by rfl
   rw[BitVec.toNat_and,c,b,aDJ]
  rw[e,wrap_i64 (by omega) (by omega)]
 have g:=Aq aa;have d:k9 .shl (.int .u8 1) (.int .i64 ((aa % 8:Nat):Int))=some (.int .u8 (ic aa:Nat)):=by
  rw[Bj,aaR (by omega)];have: (1:Int)*2^(min ((aa % 8:Nat):Int).toNat IntKind.u8.bits)=(ic aa:Nat):=by
   have a:IntKind.u8.bits=8:=rfl;rw[a,aw1,as0 (by omega),Int.one_mul];unfold ic;simp
  rw[this,wrap_u8 (by omega) (by omega)]
 simp(disch:=omega) only[F1,go_sem,simprocAttr,VG,e,d]
def Dg(o:bQ)(ho:fN o)(t:aw)(m:bR t)(l:cu t)(h:Nat)(k:h<4294967296)(H:List ae)(lo:oN):
  D X0 (.fn (.func w5) [] []) [.agg (cN o),.agg (aI t),.int .u32 h] ⟨H,lo⟩=some (.ret (.agg (jN (ch o t h))) ⟨H,lo⟩):=by
 refine aF G5 λN j=>?_
 have a:=Am t m l h k;have b:=awz (h:=h) l k;have e:ch o t h=match eK (root t h)with|some i=>if(o i).root=root t h then(o i).own else xI|none=>xI:=rfl
 cases hs:eK (root t h)with
 |none=>
  rw[hs]at e;have e1:ch o t h=xI:=e;simp only[F1,go_sem,simprocAttr,G5,j,a,jQ (root t h) b,iD,hs,e1];rfl
 |some i=>
  rw[hs]at e;have g:=aj5 hs;have d: (i:Int)<32:=by omega
  by_cases hr: (o i).root=root t h
  ·have c: (((o i).root:Nat):Int)=(root t h:Nat):=by omega
   have e1:ch o t h=(o i).own:=by rw[e];exact aaR hr
   have f:jN (o i).own=[.int .u8 (o i).own.kind,.int .u8 (o i).own.aa,.int .u8 (o i).own.hold]:=rfl;simp only[F1,go_sem,simprocAttr,G5,j,a,jQ (root t h) b,iD,hs,e1,d,akl g,c,avL g,f]
  ·have c: ¬(((o i).root:Nat):Int)=(root t h:Nat):=by omega
   have e1:ch o t h=xI:=by rw[e];exact aaH hr
   simp only[F1,go_sem,simprocAttr,G5,j,a,jQ (root t h) b,iD,hs,e1,d,akl g,c];rfl
def lH(o:bQ)(t:aw)(r aa:Nat)(x:Ow):AV:=.au [.agg (cN (fU o t r aa x).1),.int .i64 (fU o t r aa x).2]
theorem axK:xb.length=128:=by rfl
theorem axL:List.drop 128 xb=[]:=by rfl
def gr:type_of% axK/\type_of% axL:=by decide
def HC(o:bQ)(t:aw)(v:bR t)(z:cu t)(r:Nat)(k:r<4294967296)(aa:Nat)(u:aa<4611686018427387904)(x:Ow)(H:List ae)(lo:oN):
  D X0 (.fn (.func w8) [] []) [.agg (cN o),.agg (aI t),.int .u32 r,.int .i64 aa,.agg (jN x)] ⟨H,lo⟩=some (.ret (lH o t r aa x) ⟨H,lo⟩):=by
 refine aF CR λN i=>?_
 have c:=Am t v z r k;have a:=eF t.b r k;have m: ∀h,ax t.b h=t.ax h:=λh=>rfl
 simp only[m]at a;have y:=Ab r;have l: (aO r:Int)<32:=by omega
 have hs:iD r= .au [.int .i64 (aO r:Nat),.bool (eK r).isSome]:=rfl;have b:fU o t r aa x=if t.ax r=false then(o,4)else if root t r≠r then(o,12)else if 8<=aa then(o,2)else(aq o (aO r) ⟨r,x⟩,0):=rfl
 have d:jN x=[.int .u8 x.kind,.int .u8 x.aa,.int .u8 x.hold]:=rfl;cases g:t.ax r with
 |false=>
  rw[aaR g]at b;rw[g]at a;simp only[F1,go_sem,simprocAttr,CR,i,a,lH,b,gr,d]
 |true=>
  rw[aaH (by rw[g];simp)]at b;rw[g]at a;by_cases q:root t r=r
  ·rw[aaH (by simpa using q)]at b;rw[q]at c;by_cases s:8<=aa
   ·rw[aaR s]at b;have f: (aa:Int)>=8:=by omega
    have n: ¬(aa:Int)<0:=by omega
    simp only[F1,go_sem,simprocAttr,CR,i,a,c,f,n,lH,b,gr,d]
   ·rw[aaH s]at b;have f: ¬(aa:Int)>=8:=by omega
    have n: ¬(aa:Int)<0:=by omega
    have e:=avM (w:=o) (x:=⟨r,x⟩) y;have j:ub ⟨r,x⟩=[.int .u32 r,.int .u8 x.kind,.int .u8 x.aa,.int .u8 x.hold]:=rfl;rw[j]at e;simp only[F1,go_sem,simprocAttr,CR,i,a,c,f,n,lH,b,gr,d,jQ r k,hs,l,e];omega
  ·rw[aaR q]at b;have p: ¬((root t r:Nat):Int)=(r:Nat):=by omega
   simp only[F1,go_sem,simprocAttr,CR,i,a,c,p,lH,b,gr,d]
section
variable(o:bQ)(t:aw)(ht:bR t)(hT:cu t)(r:Nat)(hr:r<4294967296)(aa:Nat)(oY:aa<256)(H:List ae)(lo:oN)
include ht hT hr oY
theorem axM:D X0 (.fn (.func Ta) [] []) [.agg (cN o),.agg (aI t),.int .u32 r,.int .i64 aa] ⟨H,lo⟩=some (.ret (.au [.agg (cN (rQ o t r aa).1),.int .i64 (rQ o t r aa).2]) ⟨H,lo⟩):=by
 refine aF VJ λN b=>?_
 have hs:=HC o t ht hT r hr aa (by omega) ⟨1,aa % 256,0⟩;have a:jN ⟨1,aa % 256,0⟩=[.int .u8 1,.int .u8 aa,.int .u8 0]:=by rw[ap9 oY];rfl
 rw[a]at hs;have c:rQ o t r aa=fU o t r aa ⟨1,aa % 256,0⟩:=rfl;simp(disch:=omega) only[F1,go_sem,simprocAttr,VJ,b,hs,lH,gr,c]
theorem axN:D X0 (.fn (.func SZ) [] []) [.agg (cN o),.agg (aI t),.int .u32 r,.int .i64 aa] ⟨H,lo⟩=some (.ret (.au [.agg (cN (CW o t r aa).1),.int .i64 (CW o t r aa).2]) ⟨H,lo⟩):=by
 refine aF VA λN c=>?_
 have hs:=HC o t ht hT r hr aa (by omega) ⟨3,0,ic aa⟩;have a:jN ⟨3,0,ic aa⟩=[.int .u8 3,.int .u8 0,.int .u8 (ic aa)]:=rfl;rw[a]at hs;have d:CW o t r aa=fU o t r aa ⟨3,0,ic aa⟩:=rfl;have b:=Yf aa (by omega);simp only[F1,go_sem,simprocAttr,VA,c,hs,b,lH,gr,d]
end
def axO(o:bQ)(t:aw)(ht:bR t)(hT:cu t)(r:Nat)(hr:r<4294967296)(H:List ae)(lo:oN):
  D X0 (.fn (.func S1) [] []) [.agg (cN o),.agg (aI t),.int .u32 r] ⟨H,lo⟩=some (.ret (.au [.agg (cN (Aa o t r).1),.int .i64 (Aa o t r).2]) ⟨H,lo⟩):=by
 refine aF VC λN a=>?_
 have hs: ∀H lo,D X0 (.fn (.func w8) [] []) [.agg (cN o),.agg (aI t),.int .u32 r,.int .i64 0,.agg [.int .u8 2,.int .u8 0,.int .u8 0]] ⟨H,lo⟩=_:=HC o t ht hT r hr 0 (by omega) ⟨2,0,0⟩;have b:Aa o t r=fU o t r 0 ⟨2,0,0⟩:=rfl;simp only[F1,go_sem,simprocAttr,VC,a,hs,lH,gr,b]
theorem alN{o:bQ}:List.drop 128 (cN o)=[]:=by rfl
def qA(o:bQ)(t:aw)(r aa:Nat)(hold:Bool):AV:=.au [.agg (cN (dD o t r aa hold).1),.int .u8 (dD o t r aa hold).2.1,.int .i64 (dD o t r aa hold).2.2]
def axP{o:bQ}{t:aw}{r:Nat}{x y:Ow}(h: (fU o t r aa x).2=0):fU (fU o t r aa x).1 t r aa y=fU o t r aa y:=by
 unfold fU at h⊢;split at h
 ·cases h
 ·simp_all[aaH,ua]
def axQ(o:bQ)(t:aw)(r aa:Nat)(x:Ow): (fU o t r aa x).2=if t.ax r=false then 4 else if root t r≠r then 12 else if 8<=aa then 2 else 0:=by
 unfold fU
 grind
def alO(o:bQ)(ho:fN o)(t:aw)(ht:bR t)(hT:cu t)(r:Nat)(hr:r<4294967296)(aa:Nat)(oY:aa<256)(hold:Bool)(H:List ae)(lo:oN):
  D X0 (.fn (.func KW) [] []) [.agg (cN o),.agg (aI t),.int .u32 r,.int .i64 aa,.bool hold] ⟨H,lo⟩=some (.ret (qA o t r aa hold) ⟨H,lo⟩):=by
 refine aF rI λN k=>?_
 have c:=Dg o ho t ht hT r hr;have j:=Yf aa (by omega);have d:=Am t ht hT r hr;have b:=eF t.b r hr;have B: ∀h,ax t.b h=t.ax h:=λh=>rfl
 simp only[B]at b;have q:=ho.of t r;have g:dD o t r aa hold=(let x:=ch o t r
  let e:=(fU o t r aa x).2
  if e=4\/ (t.ax r=true/\root t r≠r)then(o,0,e)
  else if x.kind≠3 then(o,0,12)
  else if e≠0 then(o,0,e)
  else if oM x.hold aa&&hold then(o,0,7)
  else if !oM x.hold aa&& !hold then(o,0,5)
  else((fU o t r aa {x with hold:=x.hold^^^ic aa}).1,x.hold^^^ic aa,(fU o t r aa {x with hold:=x.hold^^^ic aa}).2)):=rfl
 generalize F:ch o t r=x at*;have hs:=HC o t ht hT r hr aa (by omega) x;have a:=axQ o t r aa x;have A:jN x=[.int .u8 x.kind,.int .u8 x.aa,.int .u8 x.hold]:=rfl;have hand:=Oy q.hold (Aq aa);have f:=alM (x:=x.hold) (aa:=aa);rw[A]at hs c;simp only at g;cases w:t.ax r with
 |false=>
  rw[aaR w]at a;rw[a,aaR (.inl rfl)]at g;rw[w]at b;simp only[F1,go_sem,simprocAttr,rI,k,c,hs,lH,a,j,hand,f,gr,qA,g]
 |true=>
  rw[aaH (by rw[w];simp)]at a;rw[w]at b;by_cases p:root t r=r
  ·rw[aaH (by simpa using p)]at a;rw[p]at d;by_cases C:x.kind=3
   ·have i:decide (¬(x.kind:Int)=3)=false:=abi (by omega);by_cases z:8<=aa
    ·rw[aaR z]at a;rw[a,aaH (by simp[p]),aaH (by simpa using C),aaR (by omega)]at g;simp only[F1,go_sem,simprocAttr,rI,k,b,d,c,hs,lH,a,j,hand,f,i,gr,qA,g]
    ·rw[aaH z]at a;rw[a,aaH (by simp[p]),aaH (by simpa using C),aaH (by omega)]at g;have n:=HC (fU o t r aa x).1 t ht hT r hr aa (by omega) {x with hold:=x.hold^^^ic aa};have u:jN {x with hold:=x.hold^^^ic aa}=[.int .u8 x.kind,.int .u8 x.aa,.int .u8 (x.hold^^^ic aa:Nat)]:=rfl;have s:=axP (y:={x with hold:=x.hold^^^ic aa}) a;have v: (N+1 !=N)=true:=by simp
     have l:=axJ q.hold (Aq aa);rw[u]at n;cases m:oM x.hold aa<;>cases hold
     ·rw[m,aaH (by simp),aaR (by simp)]at g;simp only[F1,go_sem,simprocAttr,rI,k,b,d,c,hs,lH,a,j,hand,f,m,i,gr,qA,g]
     ·rw[m,aaH (by simp),aaH (by simp)]at g;simp only[F1,go_sem,simprocAttr,rI,k,b,d,c,hs,lH,a,j,hand,f,m,i,gr,qA,g,l,n,s,alN,v,at0]
     ·rw[m,aaH (by simp),aaH (by simp)]at g;simp only[F1,go_sem,simprocAttr,rI,k,b,d,c,hs,lH,a,j,hand,f,m,i,gr,qA,g,l,n,s,alN,v,at0]
     ·rw[m,aaR (by simp)]at g;simp only[F1,go_sem,simprocAttr,rI,k,b,d,c,hs,lH,a,j,hand,f,m,i,gr,qA,g]
   ·have i: ¬(x.kind:Int)=3:=by omega
    rw[aaH (by rw[a];simp[p];split<;>simp),aaR C]at g;by_cases z:8<=aa
    ·rw[aaR z]at a;simp only[F1,go_sem,simprocAttr,rI,k,b,d,c,hs,lH,a,j,hand,f,i,gr,qA,g]
    ·rw[aaH z]at a;simp only[F1,go_sem,simprocAttr,rI,k,b,d,c,hs,lH,a,j,hand,f,i,gr,qA,g]
  ·rw[aaR p]at a;have E: ¬((root t r:Nat):Int)=(r:Nat):=by omega
   rw[aaR (.inr ⟨w,p⟩),a]at g;simp only[F1,go_sem,simprocAttr,rI,k,b,d,E,c,hs,lH,a,j,hand,f,gr,qA,g]
def alP(o:bQ)(ho:fN o)(t:aw)(ht:bR t)(hT:cu t)(r:Nat)(hr:r<4294967296)(aa:Nat)(oY:aa<256)(H:List ae)(lo:oN):
  D X0 (.fn (.func KO) [] []) [.agg (cN o),.agg (aI t),.int .u32 r,.int .i64 aa] ⟨H,lo⟩=some (.ret (.au [.agg (cN (dD o t r aa true).1),.int .i64 (dD o t r aa true).2.2]) ⟨H,lo⟩):=by
 refine aF VB λN b=>?_
 have a:=alO o ho t ht hT r hr aa oY true;simp only[F1,go_sem,simprocAttr,VB,b,a,qA,gr]
def HD(x:Nat):Nat:=(La.getD x 0).toNat
def axR: ∀x,x<256->(HD x=0↔x=0):=by decide
def alQ{o:bQ}(ho:fN o){t:aw}{r:Nat}{hold:Bool}: (dD o t r aa hold).2.1<256:=by
 unfold dD;simp only;split
 ·simp
 ·split
  ·simp
  ·split
   ·simp
   ·split
    ·simp
    ·split
     ·simp
     ·exact aB7 (n:=8) (ho.of t r).hold (Aq aa)
def axS(o:bQ)(ho:fN o)(t:aw)(ht:bR t)(hT:cu t)(r:Nat)(hr:r<4294967296)(aa:Nat)(oY:aa<256)(H:List ae)(lo:oN):
  D X0 (.fn (.func Tg) [] []) [.agg (cN o),.agg (aI t),.int .u32 r,.int .i64 aa] ⟨H,lo⟩=some (.ret (.au [.agg (cN (dD o t r aa false).1),.int .i64 (HD (dD o t r aa false).2.1),.int .i64 (dD o t r aa false).2.2]) ⟨H,lo⟩):=by
 refine aF VO λN b=>?_
 have e:=alO o ho t ht hT r hr aa oY false;have c:=alQ ho (t:=t) (r:=r) (aa:=aa) (hold:=false);have a: ∀H lo,D X0 (.fn (.func Tl) [] []) [.int .u8 ((dD o t r aa false).2.1:Nat)] ⟨H,lo⟩=some (.ret (.int .i64 (HD (dD o t r aa false).2.1:Nat)) ⟨H,lo⟩):=by
  intro H lo;generalize(dD o t r aa false).2.1=x at*;refine aF V9 λN b=>?_
  have d:La.length=256:=by rfl
  have f:=UInt8.toNat_lt (La.getD x 0);simp(disch:=omega) only[F1,go_sem,simprocAttr,V9,d];exact⟨by omega,rfl⟩
 simp only[F1,go_sem,simprocAttr,VO,b,e,qA,a,gr]
structure uD(x:Tok):Prop where
 aL:x.aL<4294967296
 iS:x.iS<256
 to:x.to<256
 aR:x.aR<4294967296
structure gF(k:bh):Prop where
 b:gS k.b
 lt: ∀i,(k.b i).eU=true->i<16
 t: ∀i,uD (k.t i)
def alR:uD N4:=⟨by trivial,by trivial,by trivial,by trivial⟩
def gF.get{k:bh}(a:gF k)(h:Nat):uD (ck k h).1:=by
 unfold ck;split
 ·exact a.t _
 ·exact alR
def gF.slot{k:bh}(a:gF k)(b:ax k.b h=true):aO h<16:=by
 obtain⟨_,e,_⟩:=CY b;exact a.lt _ (by rw[e])
def Dh(k:bh)(i:gF k)(h:Nat)(f:h<4294967296)(H:List ae)(lo:oN):
  D X0 (.fn (.func wZ) [] []) [.agg (b0 k),.int .u32 h] ⟨H,lo⟩=some (.ret (.au [.agg (fJ (ck k h).1),.int .i64 (ck k h).2]) ⟨H,lo⟩):=by
 refine aF Nm λN g=>?_
 have a:=eF k.b h f;have hs:iD h= .au [.int .i64 (aO h:Nat),.bool (eK h).isSome]:=rfl;cases d:ax k.b h with
 |false=>
  rw[d]at a;have e:ck k h=(N4,4):=by unfold ck;grind
  simp only[F1,go_sem,simprocAttr,Nm,g,a,e];rfl
 |true=>
  rw[d]at a;have e:ck k h=(k.t (aO h),0):=by unfold ck;grind
  have j:=i.slot d;have c: (aO h:Int)<16:=by omega
  have b:fJ (k.t (aO h))=[.int .u32 (k.t (aO h)).aL,.int .u8 (k.t (aO h)).iS,.int .u8 (k.t (aO h)).to,.bool (k.t (aO h)).mu,.int .u32 (k.t (aO h)).aR]:=rfl;simp only[F1,go_sem,simprocAttr,Nm,g,a,e,jQ h f,hs,c,avO j,b]
def Yg(k:bh)(h:Nat)(d:h<4294967296)(H:List ae)(lo:oN):
  D X0 (.fn (.func FA) [] []) [.agg (b0 k),.int .u32 h] ⟨H,lo⟩=some (.ret (.bool (nz k h)) ⟨H,lo⟩):=by
 refine aF NV λN c=>?_
 have b:=eF k.b h d;by_cases e:h=0
 ·have a: (h:Int)=0:=by omega
  simp only[F1,go_sem,simprocAttr,NV,c,a,nz]
  grind
 ·have a: ¬(h:Int)=0:=by omega
  simp only[F1,go_sem,simprocAttr,NV,c,a,b,nz]
  grind
def alS{N:Nat}{A A' P:List ae}{ty:TypeId}(h:aN N (A++P) v sz ty af)(b:A'.length=A.length)(c:A.length<=N):aN N (A'++(P++M)) v sz ty af:=by
 obtain⟨a,d⟩:=h;refine⟨a,?_⟩
 grind
def wc(k:bh)(p:Tok->Bool)(n:Nat):lN:=((bo k.b).take n).filter λh=>p (ck k h).1
def axT{k:bh}{p:Tok->Bool}(h:n< (bo k.b).length):wc k p (n+1)=if p (ck k ((bo k.b).getD n default)).1 then wc k p n++[(bo k.b).getD n default]else wc k p n:=by
 unfold wc;rw[ajN,abe h,auo,getD_eq h]
 grind
def axU{k:bh}{p:Tok->Bool}: (wc k p n).length<=n:=ajU (ajZ _ _) (by grind)
def jw{S:Type}(k:bh)(f:S->Tok->S)(s:S)(n:Nat):S:=((bo k.b).take n).foldl (λs h=>f s (ck k h).1) s
def axV{S:Type}{k:bh}{f:S->Tok->S}{s:S}(h:n< (bo k.b).length):jw k f s (n+1)=f (jw k f s n) (ck k ((bo k.b).getD n default)).1:=by
 unfold jw;rw[ajN,abe h,apm,getD_eq h];rfl
def Oz{S:Type}(k:bh)(W:gF k)(fv:AV)(p:Tok->Bool)(f:S->Tok->S)(c:S)(N:Nat)(b:S->List ae)(r: ∀s,(b s).length=N)
  (hf: ∀s x L,uD x->D X fv [.agg (fJ x)] ⟨b s++L,none⟩=some (.ret (.bool (p x)) ⟨b (f s x)++L,none⟩)) (lo:oN):
  ∃w,D X (.fn (.func BR) [] []) [.agg (b0 k),fv] ⟨b c,lo⟩=some (.ret w ⟨b (jw k f c (bo k.b).length),lo⟩)/\Rv w 1 ((uf k p).map hC)/\w.refs=0:=by
 suffices hs: ∃V,D X (.fn (.func BR) [] []) [.agg (b0 k),fv] ⟨b c,lo⟩=some V/\ (λV=> ∃w,V=aS.ret w ⟨b (jw k f c (bo k.b).length),lo⟩/\Rv w 1 ((uf k p).map hC)/\w.refs=0) V by
  obtain⟨V,h1,w,rfl,h2⟩:=hs;exact⟨w,h1,h2⟩
 refine cE VH λM hM=>?_
 obtain rfl:M=N:=by rw[<-hM,r]
 obtain⟨v,J,e1,Y⟩:=XO k.b W.b (M+1) (b c++[.box (b0 k) none]) (by simp[r]) none;have F:D X (.fn (.func iM) [] []) [.agg (ca k.b)] ⟨b c++[.box (b0 k) none],none⟩=some _:=uy (p:=ml) rfl e1;have g:=(lG Y none).bD;have sL:=nA k.b;rw[aaS]at F Y g;obtain⟨j,U⟩: ∃j,j=[ae.box (b0 k) none]++J:=⟨_,rfl⟩;have T: ∀s L,(b s++(j++L))[M]?=some (.box (b0 k) none):=λs L=>by rw[dn (r s),U];rfl
 rw[<-U]at F Y g;simp only[go_sem,simprocAttr,VH,hM,F,g];refine dB (bo k.b).length (λn e H'=> ∃L,H'=b (jw k f c n)++(j++L)/\ (∃G,e 5=G/\aN (M+j.length) H' G 1 cg ((wc k p n).map hC))/\e 1=fv/\e 2= .ptr M 0/\e 12=v/\e 13= .int .i64 (bo k.b).length/\e 14= .int .i64 n) 0 (by omega) ?_ ?_
 ·simp only[go_sem,simprocAttr];exact⟨[],by simp[jw],_,rfl,aN.ai⟩
 rintro n hn e H' ⟨L,rfl,⟨G,e5,i⟩,e1,A,E,C,B⟩ n' u;have R:=T (jw k f c n);simp only[bO,go_sem,simprocAttr,ajm,e5,E,C,B];refine⟨λhc=>?_,λhc=>?_⟩
 ·have l:n< (bo k.b).length:=by omega
  have O:=eV l;have iu:=(jt W.b).1 O;have q:=axT (p:=p) l;have I:=axV (f:=f) (s:=c) l;have K:Rd ⟨b (jw k f c n)++(j++L),none⟩ v 1 ((bo k.b).map hC):=lG (alS Y (by rw[r,r]) (by rw[r];omega)) none;have y:=λH lo=>up dt (Dh k W ((bo k.b).getD n default) (gn iu) H lo)
  have Z:=W.get ((bo k.b).getD n default);have m:=hf (jw k f c n) (ck k ((bo k.b).getD n default)).1 (j++(L++[.box (fJ (ck k ((bo k.b).getD n default)).1) none])) Z;generalize hh: (bo k.b).getD n default=h at*;generalize hx: (ck k h).1=x at*;have t:fJ x=[.int .u32 x.aL,.int .u8 x.iS,.int .u8 x.to,.bool x.mu,.int .u32 x.aR]:=rfl;have nc:=axU (k:=k) (p:=p) (n:=n);have hA:=λ (a:Int)=>K.bX (k:=.i64) (a:=a)
  have hL:=K.cp (X:=X) (off:=0) (n:=1) (agg:=false) l;rw[hh,pH]at hL;have Q: ∀o,(b (jw k f c n)++(j++(L++[o])))[n']?=some o:=λo=>by rw[<-u,<-aaS j,<-aaS (b _)];simp
  have P: ∀o o',(b (jw k f c n)++(j++(L++[o]))).set n' o'=b (jw k f c n)++(j++(L++[o'])):=λo o'=>by
   have e: ∀o:ae,b (jw k f c n)++(j++(L++[o]))=(b (jw k f c n)++(j++L))++[o]:=λo=>by simp
   rw[e,e,<-u,aqs _ _ (ahT _)];simp
  have d:aN (M+j.length) (b (f (jw k f c n) x)++(j++(L++[.box (fJ x) none]))) G 1 cg ((wc k p n).map hC):=by
   have:=alS (A':=b (f (jw k f c n) x)) (M:=[.box (fJ x) none]) i (by rw[r,r]) (by rw[r];omega);rwa[aaS]at this
  cases hp:p x
  ·rw[hp]at m q;rw[t]at m d;simp(disch:=omega) only[go_sem,simprocAttr,e1,A,e5,E,C,B,hA,hL,R,y,u,t,Q,P,m,aaS,q,I];exact⟨by omega,l,_,rfl,G,rfl,d⟩
  ·rw[hp]at m q;rw[t]at m d;simp only[go_sem,simprocAttr,e1,A,e5,hA,hL,R,y,u,t,Q,P,m,aaS];refine⟨by omega,oy (H0:=b (f (jw k f c n) x)++j) (ys:=[[.int .u32 (h:Nat)]]) d ⟨_,aaS _ _ _⟩ (by simp[r]) (by omega) (by intro el sa;rw[ahc.1 sa];rfl) rfl (by unfold room;simp;omega) λv' H2 z ER=>?_⟩;obtain⟨L2,rfl⟩:=ER;simp(disch:=omega) only[go_sem,simprocAttr,e1,A,E,C,B];rw[aaR rfl]at q;refine⟨l,L2,by rw[I],v',rfl,?_⟩;rw[q,aiw];rwa[aaS]at z
 ·obtain rfl:n=(bo k.b).length:=by omega
  have ht:wc k p (bo k.b).length=uf k p:=by unfold wc uf;rw[aiv]
  rw[ht]at i;have h0:b9 ((uf k p).map hC)=0:=bz (λ_=>rfl) _;rw[aN.Rr (aN.le i (by omega)) (by omega)];refine⟨_,cU rfl (aqm (r _)),i.re,cJ i.re h0⟩
theorem nR(x:Tok):fJ x=[.int .u32 x.aL,.int .u8 x.iS,.int .u8 x.to,.bool x.mu,.int .u32 x.aR]:=rfl
theorem xZ{N:Nat}{H:List ae}(h:v.refs=0):finish N lo v ⟨H,none⟩=(v,⟨H.take N,lo⟩):=ja (.inl rfl) (by omega)
def axW(aL:Nat)(x:Tok)(p:Nat)(H:List ae)(a:H[p]?=some (.box [.int .u32 (aL:Nat)] none))(lo:oN):
  D X (.fn (.func K8) [] [.ptr p 0]) [.agg (fJ x)] ⟨H,lo⟩=some (.ret (.bool (decide (x.aL=aL))) ⟨H,lo⟩):=by
 refine fb Wc λN b=>?_
 have c: ∀L,(H++L)[p]?=_:=λL=>bf a
 simp only[F1,go_sem,simprocAttr,Wc,b,nR,c];exact cU (ajV AV.bool (ajF.2 (by omega))) rfl
def axX(aa:Nat)(x:Tok)(a:uD x)(p:Nat)(H:List ae)(b:H[p]?=some (.box [.int .i64 (aa:Nat)] none))(lo:oN):
  D X (.fn (.func KT) [] [.ptr p 0]) [.agg (fJ x)] ⟨H,lo⟩=some (.ret (.bool (decide (x.to=aa))) ⟨H,lo⟩):=by
 refine fb VI λN c=>?_
 have d: ∀L,(H++L)[p]?=_:=λL=>bf b
 have:=a.to;simp(disch:=omega) only[F1,go_sem,simprocAttr,VI,c,nR,d];exact cU (ajV AV.bool (ajF.2 (by omega))) rfl
def Yh(k:bh)(hk:gF k)(aL:Nat)(H:List ae)(lo:oN):
  ∃w,D X (.fn (.func Fv) [] []) [.agg (b0 k),.int .u32 aL] ⟨H,lo⟩=some (.ret w ⟨H,lo⟩)/\Rv w 1 ((nC k aL).map hC)/\w.refs=0:=by
 obtain⟨N,c⟩: ∃N,H.length=N:=⟨_,rfl⟩;obtain⟨w,e1,b,e3⟩:=Oz (S:=Unit) k hk (.fn (.func K8) [] [.ptr (N+1) 0]) (λx=>decide (x.aL=aL)) (λs _=>s) () (N+2) (λ_=>H++[.box (b0 k) none,.box [.int .u32 aL] none]) (λ_=>by grind)
  (λs x L _=>axW aL x (N+1) _ (by grind) none) none
 refine⟨w,?_,b,e3⟩;refine aF V5 λM a=>?_
 obtain rfl:M=N:=by omega
 simp only[go_sem,simprocAttr,V5,a,e1];rw[xZ e3,mF a]
def axY(k:bh)(hk:gF k)(aa:Nat)(H:List ae)(lo:oN):
  ∃w,D X (.fn (.func SO) [] []) [.agg (b0 k),.int .i64 aa] ⟨H,lo⟩=some (.ret w ⟨H,lo⟩)/\Rv w 1 ((xJ k aa).map hC)/\w.refs=0:=by
 obtain⟨N,d⟩: ∃N,H.length=N:=⟨_,rfl⟩;obtain⟨w,e1,c,e3⟩:=Oz (S:=Unit) k hk (.fn (.func KT) [] [.ptr (N+1) 0]) (λx=>decide (x.to=aa)) (λs _=>s) () (N+2) (λ_=>H++[.box (b0 k) none,.box [.int .i64 aa] none]) (λ_=>by grind)
  (λs x L b=>axX aa x b (N+1) _ (by grind) none) none
 refine⟨w,?_,c,e3⟩;refine aF Vc λM a=>?_
 obtain rfl:M=N:=by omega
 simp only[go_sem,simprocAttr,Vc,a,e1];rw[xZ e3,mF a]
theorem alT{α:Type}(q:α->Bool): ∀ (l:List α) (s:Bool),l.foldl (λs x=>s||q x) s=(s||l.any q)
 | [],s=>by simp
 |x::xs,s=>by rw[aAK,alT q xs,List.any_cons,Bool.or_assoc]
def axZ(k:bh)(aL ab:Nat)(s:Bool)(x:Tok)(N:Nat)(H:List ae)(h:H.length=N)(L:List ae):
  D X (.fn (.func K9) [] [.ptr (N+1) 0,.ptr (N+2) 0,.ptr (N+3) 0]) [.agg (fJ x)] ⟨H++[.box (b0 k) none,.box [.int .u32 aL] none,.box [.int .u32 ab] none,.box [.bool s] none]++L,none⟩=
    some (.ret (.bool (isRight aL ab x)) ⟨H++[.box (b0 k) none,.box [.int .u32 aL] none,.box [.int .u32 ab] none,.box [.bool (s|| (isRight aL ab x&&x.mu))] none]++L,none⟩):=by
 refine fb xC λM p=>?_
 rw[aaS]at p⊢;have m:M=N+4+L.length:=by rw[<-p];simp[h];omega
 have g1: ∀a b c d f,(H++(a::b::c::d::f))[N+1]?=some b:=λa b c d f=>by rw[bw h];rfl
 have g2: ∀a b c d f,(H++(a::b::c::d::f))[N+2]?=some c:=λa b c d f=>by rw[bw h];rfl
 have j: ∀a b c d f,(H++(a::b::c::d::f))[N+3]?=some d:=λa b c d f=>by rw[bw h];rfl
 have gm: ∀a b c d o,(H++(a::b::c::d:: (L++[o])))[M]?=some o:=λa b c d o=>by
  have:H++(a::b::c::d:: (L++[o]))=(H++(a::b::c::d::L))++[o]:=by simp
  rw[this,show M=(H++(a::b::c::d::L)).length by rw[m,ahU,h];simp only[ajC];omega];simp
 have i: ∀a b c d f o,(H++(a::b::c::d::f)).set (N+3) o=H++(a::b::c::o::f):=λa b c d f o=>by rw[nd h];rfl
 have tk: ∀a b c d o,(H++(a::b::c::d:: (L++[o]))).take M=H++(a::b::c::d::L):=λa b c d o=>by
  have:H++(a::b::c::d:: (L++[o]))=(H++(a::b::c::d::L))++[o]:=by simp
  rw[this];exact aqm (by simp[h,m];omega)
 have q:isRight aL ab x=(decide (x.aL=aL)&&decide (x.aR=ab)):=rfl;rw[q];by_cases l:x.aL=aL
 ·have e: (x.aL:Int)=aL:=by omega
  by_cases n:x.aR=ab
  ·have g: (x.aR:Int)=ab:=by omega
   cases s
   ·simp only[F1,go_sem,simprocAttr,xC,nR,g1,g2,j,i,tk,e,g,aaS,ajW,ajS];simp[l,n]
   ·simp only[F1,go_sem,simprocAttr,xC,nR,g1,g2,j,i,tk,e,g,aaS,ajW,ajS];simp[l,n]
  ·have g: ¬(x.aR:Int)=ab:=by omega
   cases s
   ·simp only[F1,go_sem,simprocAttr,xC,nR,g1,g2,j,i,tk,e,g,aaS,ajW,ajS];simp[l,n]
   ·simp only[F1,go_sem,simprocAttr,xC,nR,g1,g2,j,i,tk,e,g,aaS,ajW,ajS];simp[l,n]
 ·have e: ¬(x.aL:Int)=aL:=by omega
  cases s
  ·simp only[F1,go_sem,simprocAttr,xC,nR,g1,j,i,tk,e,aaS,ajW,ajS];simp[l]
  ·simp only[F1,go_sem,simprocAttr,xC,nR,g1,j,i,tk,e,aaS,ajW,ajS];simp[l]
def Yi(k:bh)(hk:gF k)(aL ab:Nat)(H:List ae)(lo:oN):
  D X (.fn (.func Fy) [] []) [.agg (b0 k),.int .u32 aL,.int .u32 ab] ⟨H,lo⟩=some (.ret (.au [.int .i64 (CX k aL ab:Nat),.bool (ug k aL ab)]) ⟨H,lo⟩):=by
 obtain⟨N,a⟩: ∃N,H.length=N:=⟨_,rfl⟩;obtain⟨w,e1,c,e3⟩:=Oz (S:=Bool) k hk (.fn (.func K9) [] [.ptr (N+1) 0,.ptr (N+2) 0,.ptr (N+3) 0]) (isRight aL ab) (λs x=>s|| (isRight aL ab x&&x.mu)) false (N+4)
  (λs=>H++[.box (b0 k) none,.box [.int .u32 aL] none,.box [.int .u32 ab] none,.box [.bool s] none]) (λ_=>by grind) (λs x L _=>axZ k aL ab s x N H a L) none
 have hm:jw k (λs x=>s|| (isRight aL ab x&&x.mu)) false (bo k.b).length=ug k aL ab:=by
  unfold jw ug;rw[aiv,alT (λh=>isRight aL ab (ck k h).1&& (ck k h).1.mu),at3]
 rw[hm]at e1;refine aF Wa λM b=>?_
 obtain rfl:M=N:=by rw[<-b,a]
 simp only[F1,go_sem,simprocAttr,Wa,b,e1,c.bD];rfl
section
variable(k:bh)(hk:gF k)(aL ab:Nat)(ha:ab<4294967296)(H:List ae)(lo:oN)
include hk ha
theorem alU:D X (.fn (.func Ft) [] []) [.agg (b0 k),.int .u32 aL,.int .u32 ab] ⟨H,lo⟩=some (.ret (.bool (xK k aL ab)) ⟨H,lo⟩):=by
 refine aF NR λN d=>?_
 have hr:=Yi k hk aL ab;have b:=λH lo=>up dt (Yg k ab ha H lo)
 have c:xK k aL ab=(nz k ab&& !ug k aL ab):=rfl;cases a:nz k ab
 ·rw[a]at b c;simp only[F1,go_sem,simprocAttr,NR,d,hr,b,c,ajT]
 ·rw[a]at b c;simp only[F1,go_sem,simprocAttr,NR,d,hr,b,c,aoC]
theorem alV:D X (.fn (.func Fu) [] []) [.agg (b0 k),.int .u32 aL,.int .u32 ab] ⟨H,lo⟩=some (.ret (.bool (Ac k aL ab)) ⟨H,lo⟩):=by
 refine aF NS λN d=>?_
 have hr:=Yi k hk aL ab;have b:=λH lo=>up dt (Yg k ab ha H lo)
 have c:Ac k aL ab=(nz k ab&&decide (CX k aL ab=0)):=rfl;cases a:nz k ab
 ·rw[a]at b c;simp only[F1,go_sem,simprocAttr,NS,d,hr,b,c,ajT]
 ·rw[a]at b c;simp only[F1,go_sem,simprocAttr,NS,d,hr,b,c,aoC];simp_all
end
section
set_option maxHeartbeats 2000000
def ax0(k:bh)(A:gF k)(x:Tok)(B:uD x)(H:List ae)(lo:oN):
  D X (.fn (.func Th) [] []) [.agg (b0 k),.agg (fJ x)] ⟨H,lo⟩=some (.ret (.int .i64 (qo k x:Nat)) ⟨H,lo⟩):=by
 refine aF jL λN o=>?_
 have hr:=Yi k A x.aL x.aR;have l:=λH lo=>up dt (Yg k x.aR B.aR H lo)
 have a:=λH lo=>up dt (Dh k A x.aR B.aR H lo)
 have C:=A.get x.aR;have b:qo k x=if nz k x.aR=false then 4
  else if 8<=x.iS\/8<=x.to\/x.iS=x.to\/x.aL=0 then 2
  else if x.aR≠0/\ ((ck k x.aR).1.aL≠x.aL\/ (ck k x.aR).1.to≠x.iS\/ (x.mu=true/\ (ck k x.aR).1.mu=false))then 12
  else if ug k x.aL x.aR=true\/ (x.mu=true/\0<CX k x.aL x.aR)then 5
  else 0:=rfl
 generalize hu: (ck k x.aR).1=w at*;generalize J:CX k x.aL x.aR=n at*;have z:=nR w;have y:=nR x;rw[z]at a;rw[y];cases r:nz k x.aR with
 |false=>
  rw[aaR r]at b;rw[r]at l;simp only[F1,go_sem,simprocAttr,jL,o,hr,l,a,b]
 |true=>
  rw[aaH (by rw[r];simp)]at b;rw[r]at l;by_cases I:8<=x.iS
  ·rw[aaR (.inl I)]at b;have d: (x.iS:Int)>=8:=by omega
   simp only[F1,go_sem,simprocAttr,jL,o,hr,l,a,b,d]
  ·have d: ¬(x.iS:Int)>=8:=by omega
   by_cases G:8<=x.to
   ·rw[aaR (.inr (.inl G))]at b;have e: (x.to:Int)>=8:=by omega
    simp only[F1,go_sem,simprocAttr,jL,o,hr,l,a,b,d,e]
   ·have e: ¬(x.to:Int)>=8:=by omega
    by_cases F:x.iS=x.to
    ·rw[aaR (.inr (.inr (.inl F)))]at b;have f:decide ((x.iS:Int)=x.to)=true:=abj (by omega);simp only[F1,go_sem,simprocAttr,jL,o,hr,l,a,b,d,e,f]
    ·have f: ¬(x.iS:Int)=x.to:=by omega
     by_cases E:x.aL=0
     ·rw[aaR (.inr (.inr (.inr E)))]at b;have g:decide ((x.aL:Int)=0)=true:=abj (by omega);simp only[F1,go_sem,simprocAttr,jL,o,hr,l,a,b,d,e,f,g]
     ·have g: ¬(x.aL:Int)=0:=by omega
      rw[aaH (by omega)]at b;by_cases t:x.aR=0
      ·have i:decide (¬(x.aR:Int)=0)=false:=abi (by omega);rw[aaH (λh=>h.1 t)]at b;cases hm:ug k x.aL x.aR
       ·rw[hm]at hr b;cases q:x.mu
        ·rw[q,aaH (by simp)]at b;simp only[F1,go_sem,simprocAttr,jL,o,hr,l,a,b,d,e,f,g,i]
        ·rw[q]at b;by_cases c:0<n
         ·have s: (n:Int)>0:=by omega
          rw[aaR (.inr ⟨rfl,c⟩)]at b;simp only[F1,go_sem,simprocAttr,jL,o,hr,l,a,b,d,e,f,g,i,s]
         ·have s: ¬(n:Int)>0:=by omega
          rw[aaH (by simp;omega)]at b;simp only[F1,go_sem,simprocAttr,jL,o,hr,l,a,b,d,e,f,g,i,s]
       ·rw[hm]at hr b;rw[aaR (.inl rfl)]at b;simp only[F1,go_sem,simprocAttr,jL,o,hr,l,a,b,d,e,f,g,i]
      ·have i: ¬(x.aR:Int)=0:=by omega
       by_cases v:w.aL=x.aL
       ·have j:decide (¬(w.aL:Int)=x.aL)=false:=abi (by omega);by_cases u:w.to=x.iS
        ·have m:decide (¬(w.to:Int)=x.iS)=false:=abi (by omega);cases q:x.mu
         ·rw[q,aaH (by simp[v,u])]at b;cases hm:ug k x.aL x.aR
          ·rw[hm,aaH (by simp)]at b;rw[hm]at hr;simp only[F1,go_sem,simprocAttr,jL,o,hr,l,a,b,d,e,f,g,i,j,m]
          ·rw[hm]at hr b;rw[aaR (.inl rfl)]at b;simp only[F1,go_sem,simprocAttr,jL,o,hr,l,a,b,d,e,f,g,i,j,m]
         ·cases p:w.mu
          ·rw[q,p,aaR (by simp[t])]at b;simp only[F1,go_sem,simprocAttr,jL,o,hr,l,a,b,d,e,f,g,i,j,m,p]
          ·rw[q,p,aaH (by simp[v,u])]at b;cases hm:ug k x.aL x.aR
           ·rw[hm]at hr b;by_cases c:0<n
            ·have s: (n:Int)>0:=by omega
             rw[aaR (.inr ⟨rfl,c⟩)]at b;simp only[F1,go_sem,simprocAttr,jL,o,hr,l,a,b,d,e,f,g,i,j,m,p,s]
            ·have s: ¬(n:Int)>0:=by omega
             rw[aaH (by simp;omega)]at b;simp only[F1,go_sem,simprocAttr,jL,o,hr,l,a,b,d,e,f,g,i,j,m,p,s]
           ·rw[hm]at hr b;rw[aaR (.inl rfl)]at b;simp only[F1,go_sem,simprocAttr,jL,o,hr,l,a,b,d,e,f,g,i,j,m,p]
        ·have m: ¬(w.to:Int)=x.iS:=by omega
         rw[aaR ⟨t,.inr (.inl u)⟩]at b;simp only[F1,go_sem,simprocAttr,jL,o,hr,l,a,b,d,e,f,g,i,j,m]
       ·have j: ¬(w.aL:Int)=x.aL:=by omega
        rw[aaR ⟨t,.inl v⟩]at b;simp only[F1,go_sem,simprocAttr,jL,o,hr,l,a,b,d,e,f,g,i,j]
end
theorem alW:vt.length=176:=by rfl
theorem alX:List.drop 176 vt=[]:=by rfl
theorem alY{k:bh}:List.drop 176 (b0 k)=[]:=by rfl
def qB:type_of% alW/\type_of% alX/\type_of% @alY/\type_of% Oa/\type_of% Ob:=⟨alW,alX,@alY,Oa,Ob⟩
def ax1(k:bh)(q:gF k)(x:Tok)(v:uD x)(H:List ae)(lo:oN):
  D X (.fn (.func S0) [] []) [.agg (b0 k),.agg (fJ x)] ⟨H,lo⟩=some (.ret (.au [.agg (b0 (lC k x).1),.int .u32 (lC k x).2.1,.int .i64 (lC k x).2.2]) ⟨H,lo⟩):=by
 refine aF CO λN r=>?_
 have hm:=ax0 k q x v;have e:=λH lo=>up dt (akO k.b q.b H lo)
 have a:=nR x;have d:lC k x=if qo k x≠0 then(k,0,qo k x)
  else match ny k.b with
  |some i=>if i<16 then({b:=aq k.b i {k.b i with eU:=true},t:=aq k.t i x},dg i (k.b i).gen,0)else(k,0,7)
  |none=>(k,0,7):=rfl
 by_cases c:qo k x=0
 ·rw[aaH (by omega)]at d;have p:decide (¬(qo k x:Int)=0)=false:=abi (by omega);cases j:ny k.b with
  |none=>
   rw[j]at d;simp only at d;have s:=λH lo=>up dt (jQ 0 (by omega) H lo)
   have m: ∀H lo,D X (.fn (.func l5) [] []) [.int .u32 0] ⟨H,lo⟩=some (.ret (iD 0) ⟨H,lo⟩):=s;have u:iD 0= .au [.int .i64 0,.bool false]:=rfl;rw[a]at hm;rw[a];simp only[F1,go_sem,simprocAttr,CO,r,hm,p,e,uw,qm,j,m,u,qB,d]
  |some i=>
   rw[j]at d;simp only at d;obtain⟨n,z,y,w⟩:=uh j;have hs:eK (dg i (k.b i).gen)=some i:=WR n (q.b i).1;have l:=λH lo=>up dt (jQ (dg i (k.b i).gen) (Hm n (q.b i).1) H lo)
   by_cases h:i<16
   ·rw[aaR h]at d;have f: ¬(i:Int)>=16:=by omega
    have o: (i:Int)<16:=by omega
    have g:=avP (k:={k with b:=aq k.b i {k.b i with eU:=true}}) (x:=x) h;rw[a]at hm g;rw[a];simp only[F1,go_sem,simprocAttr,CO,r,hm,p,e,uw,qm,j,l,iD,hs,f,o,qB,akn,g,d];exact⟨by simp,by omega⟩
   ·rw[aaH h]at d;have f: (i:Int)>=16:=by omega
    rw[a]at hm;rw[a];simp only[F1,go_sem,simprocAttr,CO,r,hm,p,e,uw,qm,j,l,iD,hs,f,qB,d]
 ·rw[aaR c]at d;have p: ¬(qo k x:Int)=0:=by omega
  rw[a]at hm;rw[a];simp only[F1,go_sem,simprocAttr,CO,r,hm,p,qB,d]
def alZ{k:bh}(a:gF k): ∀l,gF (nD k l):=by
 intro l
 induction l generalizing k with
 |nil=>exact a
 |cons h l b=>
  refine b ⟨Hn a.b h,λi c=>?_,a.t⟩;refine a.lt i ?_;revert c;show((eC k.b h).1 i).eU=true->_;unfold eC;split
  ·show(aq k.b (aO h) (rP (k.b (aO h))) i).eU=true->_;by_cases e:i=aO h
   ·rw[e,cZ];unfold rP;grind
   ·rw[ds e];exact id
  grind
def ax2{k:bh}{l:lN}(h:n<l.length):nD k (l.take (n+1))={nD k (l.take n)with b:=(eC (nD k (l.take n)).b (l.getD n default)).1}:=by
 unfold nD;rw[ajN,abe h,apm,getD_eq h];rfl
def al0(k:bh)(r:gF k)(w:AV)(l:lN)(H:List ae)(c:Rd ⟨H,none⟩ w 1 (l.map hC))(q: ∀h∈l,h<4294967296)(p:l.length<2^40)(lo:oN):
  D X (.fn (.func KZ) [] []) [.agg (b0 k),w] ⟨H,lo⟩=some (.ret (.agg (b0 (nD k l))) ⟨H,lo⟩):=by
 refine aF VT λN t=>?_
 have a: ∀L lo,ft ⟨H++L,lo⟩ .sl w=some (.int .i64 l.length):=λL lo=>(c.ext (L:=L) (ak:=lo)).bD
 simp only[go_sem,simprocAttr,VT,t,a];refine dB l.length (λn e H'=>H'=H++[.box (b0 (nD k (l.take n))) none,.box vt none]/\e 2= .ptr N 0/\e 4= .ptr (N+1) 0/\e 7=w/\e 8= .int .i64 l.length/\e 9= .int .i64 n) 0 (by omega) ?_ ?_
 ·trivial
 rintro n x e H' ⟨rfl,j,i,e7,e8,g⟩ v o;simp(disch:=omega) only[bO,F1,go_sem,simprocAttr,aju,j,i,e7,e8,g];refine⟨λs=>?_,λs=>?_⟩
 ·have b:n<l.length:=by omega
  have f:=alZ r (l.take n);have m:=λH lo=>up dt (akP (nD k (l.take n)).b f.b (l.getD n default) (q _ (eV b)) H lo)
  have d:=ax2 (k:=k) b;have u: ∀L lo,cb X ⟨H++L,lo⟩ false 1 (fa w n 0)=some (.int .u32 (l.getD n default:Nat)):=λL lo=>by rw[(c.ext (L:=L) (ak:=lo)).cp b,pH]
  simp(disch:=omega) only[go_sem,simprocAttr,c.bX,u,m,Ah,akn,j,i,e7,e8,g];exact⟨by omega,b,by rw[d]⟩
 ·obtain rfl:n=l.length:=by omega
  rw[aiv];simp only[go_sem,simprocAttr,qB]
def ax3(k:bh)(c:gF k)(a:Nat)(H:List ae)(lo:oN):
  D X (.fn (.func Td) [] []) [.agg (b0 k),.int .u32 a] ⟨H,lo⟩=some (.ret (.agg (b0 (N6 k a))) ⟨H,lo⟩):=by
 refine aF VL λN d=>?_
 obtain⟨w,e1,e,e3⟩:=Yh k c a (H++[.box (b0 k) none,.box vt none]) none;have b:=λH lo=>al0 k c w (nC k a) H (e _) (λh hm=>gn ((jt c.b).1 (ajL.1 hm).1)) (by have:=nA k.b;have: (nC k a).length<=_:=ajZ _ _;omega) lo
 have f:nD k (nC k a)=N6 k a:=rfl;simp only[F1,go_sem,simprocAttr,VL,d,e1,b,qB,f]
def nS(h:Nat):AV×AV:=(.int .u32 h,.bool true)
def m2(a:lN)(k:Nat):lN:=if k∈a then a else a++[k]
def al1(a b:Nat):pC (.int .u32 a) (.int .u32 b)=some (decide (a=b)):=by
 have h:pC (.int .u32 (a:Nat)) (.int .u32 (b:Nat))=some ((a:Int)==(b:Int)):=rfl;rw[h]
 congr 1
 grind
theorem al2(k:Nat): ∀b:lN,ea (.int .u32 k) (b.map nS)=some (if k∈b then some (.bool true)else none)
 | []=>rfl
 |a::b=>by
  simp only[ape,nS,ea,al1];by_cases h:k=a
  ·grind
  ·simp only[h,aDg,ajR,false_or];exact al2 k b
theorem al3(k:Nat): ∀b:lN,lT (.int .u32 k) (.bool true) (b.map nS)=some ((m2 b k).map nS)
 | []=>rfl
 |a::b=>by
  simp only[ape,nS,lT,al1];unfold m2;by_cases h:k=a
  ·subst h;simp[nS]
  ·simp only[h,aDg,ajR,false_or];rw[al3 k b];unfold m2;split<;>rfl
def ax4{gm:Nat->Option (List (AV×AV))}{H:List ae}{id:Nat}{a:lN}(h:H[id]?=some (.map (a.map nS)))(k:Nat):gV gm ⟨H,lo⟩ .int (.bool false) (.mp id) (.int .u32 k) false=some (.bool (a.contains k)):=by
 unfold gV;rw[aaR (show kY .int (.int .u32 (k:Nat))=true from rfl)];simp only[mapOf,h,al2]
 grind
def ax5{H:List ae}{id:Nat}{a:lN}(h:H[id]?=some (.map (a.map nS)))(k:Nat):mz ⟨H,lo⟩ .int (.mp id) (.int .u32 k) (.bool true)=some ⟨H.set id (.map ((m2 a k).map nS)),lo⟩:=by
 unfold mz;simp only[h,al3];rfl
theorem ax6{a:lN}{k:Nat}:x∈m2 a k↔x=k\/x∈a:=by
 unfold m2
 grind
def ax7{l:lN}: ∀ {b:lN} {x:Nat},x∈l.foldl m2 b↔x∈l\/x∈b:=by
 induction l with
 |nil=>simp
 |cons a l c=>grind [ax6]
def x0(k:bh):Nat->Nat->Prop
 |0,_=>False
 |n+1,h=> ∀x∈Xj k h,x0 k n x
def du(k:bh)(N:Nat)(H:List ae)(m:lN):List ae:=H++[.box (b0 k) none,.box vt none,.map (m.map nS),.box [.mp (N+2)] none,.box [.fn (.func BU) [] [.ptr (N+3) 0,.ptr N 0,.ptr (N+4) 0]] none]
def Di{k:bh}{N:Nat}{H:List ae}(a:H.length=N)(m:lN): (du k N H m).length=N+5:=by simp[du,a]
def ax8(h:Nat)(x:Tok)(p:Nat)(H:List ae)(a:H[p]?=some (.box [.int .u32 (h:Nat)] none))(lo:oN):
  D X (.fn (.func KY) [] [.ptr p 0]) [.agg (fJ x)] ⟨H,lo⟩=some (.ret (.bool (decide (x.aR=h))) ⟨H,lo⟩):=by
 refine fb VS λN b=>?_
 have c: ∀L,(H++L)[p]?=_:=λL=>bf a
 simp only[F1,go_sem,simprocAttr,VS,b,nR,c];exact cU (ajV AV.bool (ajF.2 (by omega))) rfl
def ax9(k:bh)(A:gF k)(N:Nat)(H:List ae)(d:H.length=N): ∀ (n h:Nat),h<4294967296->x0 k n h-> ∀ (m:lN) (L:List ae),
  D X (.fn (.func BU) [] [.ptr (N+3) 0,.ptr N 0,.ptr (N+4) 0]) [.int .u32 h] ⟨du k N H m++L,none⟩=some (.ret (.au []) ⟨du k N H ((nE k n h).foldl m2 m)++L,none⟩):=by
 intro n
 induction n with
 |zero=>intro h _ u;exact u.elim
 |succ n C=>
  intro h R u m L;refine fb VQ λM B=>?_
  have g:M=N+5+L.length:=by rw[<-B,ahU,Di d]
  have O: ∀m a,(du k N H m++a)[N]?=some (.box (b0 k) none):=λm a=>by unfold du;rw[aaS,dn d];rfl
  have g2: ∀m a,(du k N H m++a)[N+2]?=some (.map (m.map nS)):=λm a=>by unfold du;rw[aaS,bw d];rfl
  have K: ∀m a,(du k N H m++a)[N+3]?=some (.box [.mp (N+2)] none):=λm a=>by unfold du;rw[aaS,bw d];rfl
  have J: ∀m a,(du k N H m++a)[N+4]?=some (.box [.fn (.func BU) [] [.ptr (N+3) 0,.ptr N 0,.ptr (N+4) 0]] none):=λm a=>by unfold du;rw[aaS,bw d];rfl
  have gm: ∀m o,(du k N H m++(L++[o]))[M]?=some o:=λm o=>by
   have:M=(du k N H m++L).length:=by rw[g,ahU,Di d]
   rw[<-aaS,this];simp
  have s2: ∀m m' a,(du k N H m++a).set (N+2) (.map (m'.map nS))=du k N H m'++a:=λm m' a=>by unfold du;rw[aaS,nd d,aaS];rfl
  have tk: ∀m o,(du k N H m++(L++[o])).take M=du k N H m++L:=λm o=>by
   rw[<-aaS];exact aqm (by rw[g,ahU,Di d])
  have v: ∀m a lo,mz ⟨du k N H m++a,lo⟩ .int (.mp (N+2)) (.int .u32 (h:Nat)) (.bool true)=some ⟨du k N H (m2 m h)++a,lo⟩:=λm a lo=>by rw[ax5 (g2 m a),s2]
  obtain⟨w,e1,r,e3⟩:=Oz (S:=Unit) k A (.fn (.func KY) [] [.ptr M 0]) (λx=>decide (x.aR=h)) (λs _=>s) () (M+1) (λ_=>du k N H (m2 m h)++(L++[.box [.int .u32 h] none])) (λ_=>by rw[g,ahU,Di d];simp;omega)
   (λs x a _=>ax8 h x M _ (bf (gm _ _)) none) none
  simp only[go_sem,simprocAttr,VQ,B,O,K,gm,v,e1,r.bD,aaS];obtain⟨b,c⟩: ∃b,b=Xj k h:=⟨_,rfl⟩;have i:uf k (λx=>decide (x.aR=h))=b:=c.symm;rw[i]at r⊢;have F:b.length<=32:=by rw[c];exact ajU (ajZ _ _) (nA k.b)
  have z: ∀j,j<b.length->(b.take (j+1)).flatMap (nE k n)=(b.take j).flatMap (nE k n)++nE k n (b.getD j default):=λj y=>by
   rw[ajN,abe y,aqp,getD_eq y];simp
  refine dB b.length (λj e H'=>H'=du k N H (((b.take j).flatMap (nE k n)).foldl m2 (m2 m h))++(L++[.box [.int .u32 h] none])/\e 3= .ptr (N+4) 0/\e 11=w/\e 12= .int .i64 b.length/\e 13= .int .i64 j) 0 (by omega) ?_ ?_
  ·simp only[go_sem,simprocAttr];simp
  rintro j y e H' ⟨rfl,P,q,p,l⟩ Q E;simp only[bO,F1,go_sem,simprocAttr,ajt,q,p,l];refine⟨λI=>?_,λI=>?_⟩
  ·have f:j<b.length:=by omega
   have hm:=eV f;have t:ax k.b (b.getD j default)=true:=(jt A.b).1 (by rw[c]at hm⊢;exact(ajL.1 hm).1);have G:=C (b.getD j default) (gn t) (u _ (by rw[c]at hm⊢;exact hm)) (((b.take j).flatMap (nE k n)).foldl m2 (m2 m h)) (L++[.box [.int .u32 h] none]);simp(disch:=omega) only[go_sem,simprocAttr,r.bX,r.cp,↓pH,P,q,p,l,J,G];refine⟨by omega,f,?_⟩;rw[z j f,apm]
  ·obtain rfl:j=b.length:=by omega
   rw[aiv];simp only[go_sem,simprocAttr,tk];rw[c];rfl
def x4(k:bh)(h n:Nat):lN:=((bo k.b).take n).filter λx=>(nE k 16 h).contains x
def aya{k:bh}(a:n< (bo k.b).length):x4 k h (n+1)=if(nE k 16 h).contains ((bo k.b).getD n default)then x4 k h n++[(bo k.b).getD n default]else x4 k h n:=by
 unfold x4;rw[ajN,abe a,auo,getD_eq a]
 grind
def ayb{k:bh}: (x4 k h n).length<=n:=ajU (ajZ _ _) (by grind)
def al4(k:bh)(A:gF k)(h:Nat)(Y:h<4294967296)(ht:ax k.b h=true->x0 k 16 h)(H:List ae)(lo:oN):
  ∃w,D X (.fn (.func Fl) [] []) [.agg (b0 k),.int .u32 h] ⟨H,lo⟩=some (.ret (.au [.agg (b0 (mW k h).1),w,.int .i64 (mW k h).2.2]) ⟨H,lo⟩):=by
 suffices hs: ∃z,D X (.fn (.func Fl) [] []) [.agg (b0 k),.int .u32 h] ⟨H,lo⟩=some z/\ (λz=> ∃w,z=aS.ret (.au [.agg (b0 (mW k h).1),w,.int .i64 (mW k h).2.2]) ⟨H,lo⟩) z by
  obtain⟨z,h1,w,rfl⟩:=hs;exact⟨w,h1⟩
 refine cE NH λN c=>?_
 have j:=λH lo=>up dt (eF k.b h Y H lo)
 cases y:ax k.b h with
 |false=>
  rw[y]at j;have V:mW k h=(k,[],4):=by unfold mW;rw[y];rfl
  simp only[F1,go_sem,simprocAttr,NH,c,j,qB,V];exact⟨_,rfl⟩
 |true=>
  rw[y]at j;have V:mW k h=(nD k (rR k h),rR k h,0):=by unfold mW;rw[y];rfl
  have B:=ax9 k A N H c 16 h Y (ht y) [] [];have F: ∀m,du k N H m=H++[.box (b0 k) none,.box vt none,.map (m.map nS),.box [.mp (N+2)] none,.box [.fn (.func BU) [] [.ptr (N+3) 0,.ptr N 0,.ptr (N+4) 0]] none]:=λ_=>rfl
  rw[ajJ,ajJ,F []]at B;obtain⟨m,hm⟩: ∃m,m=(nE k 16 h).foldl m2 []:=⟨_,rfl⟩;rw[<-hm]at B;obtain⟨v,J,i1,i2⟩:=XO k.b A.b (N+5) (du k N H m) (Di c m) none;have C:D X (.fn (.func iM) [] []) [.agg (ca k.b)] ⟨du k N H m,none⟩=some _:=uy (p:=ml) rfl i1;have g0: ∀d,(du k N H m++d)[N]?=some (.box (b0 k) none):=λd=>by unfold du;rw[aaS,dn c];rfl
  have g:=(lG i2 none).bD;have I:max (N+3+1) (max (N+1) (N+4+1))<=N+4+1:=by omega
  simp only[awu]at B;have P:N<=N+1:=Nat.le_succ N;have R: (du k N H m)[N]?=some (.box (b0 k) none):=by have:=g0 [];rwa[ajJ]at this
  simp only[go_sem,simprocAttr,NH,c,j,B,C,g,I,P,R];have g1: ∀d,(du k N H m++d)[N+1]?=some (.box vt none):=λd=>by unfold du;rw[aaS,bw c];rfl
  have g2: ∀d,(du k N H m++d)[N+2]?=some (.map (m.map nS)):=λd=>by unfold du;rw[aaS,bw c];rfl
  have Z: ∀d,(du k N H m++d)[N+3]?=some (.box [.mp (N+2)] none):=λd=>by unfold du;rw[aaS,bw c];rfl
  have K: ∀x,m.contains x=(nE k 16 h).contains x:=λx=>by
   rw[ap8,auD,auD,hm,ax7];simp
  have sL:=nA k.b;refine dB (bo k.b).length (λn e H'=> ∃L,H'=du k N H m++(J++L)/\ (∃l,e 9=l/\aN (N+5+J.length) H' l 1 cg ((x4 k h n).map hC))/\e 2= .ptr N 0/\e 4= .ptr (N+1) 0/\e 7= .ptr (N+3) 0/\e 25=v/\e 26= .int .i64 (bo k.b).length/\e 27= .int .i64 n) 0 (by omega) ?_ ?_
  ·simp only[go_sem,simprocAttr];exact⟨[],by simp,_,rfl,aN.ai⟩
  rintro n hn e H' ⟨L,rfl,⟨l,S,a⟩,U,T,e7,t,s,r⟩ n' IK;simp only[bO,go_sem,simprocAttr,ajk,U,t,s,r];refine⟨λhc=>?_,λhc=>?_⟩
  ·have i:n< (bo k.b).length:=by omega
   have b:=aya (k:=k) (h:=h) i;have o:Rd ⟨du k N H m++(J++L),none⟩ v 1 ((bo k.b).map hC):=lG (by have:=i2.ext (L:=L);rwa[aaS]at this) none;have Q:=o.cp (X:=X) (off:=0) (n:=1) (agg:=false) i;rw[pH]at Q;generalize(bo k.b).getD n default=x at*;have f: ∀gm,gV gm ⟨du k N H m++(J++L),none⟩ .int (.bool false) (.mp (N+2)) (.int .u32 (x:Nat)) false=some (.bool ((nE k 16 h).contains x)):=λgm=>by rw[ax4 (g2 _),K]
   have nc:=ayb (k:=k) (h:=h) (n:=n);cases W: (nE k 16 h).contains x
   ·rw[W]at f b;simp(disch:=omega) only[go_sem,simprocAttr,U,T,e7,S,t,s,r,o.bX,Q,Z,f];rw[aaH (by simp)]at b;exact⟨by omega,i,L,rfl,l,rfl,by rw[b];exact a⟩
   ·rw[W]at f b;simp only[go_sem,simprocAttr,e7,S,o.bX,Q,Z,f];refine⟨by omega,oy (H0:=du k N H m++J) (ys:=[[.int .u32 (x:Nat)]]) a ⟨_,aaS _ _ _⟩ (by rw[ahU,Di c]) (by omega) (by intro el O;rw[ahc.1 O];rfl) rfl (by unfold room;simp;omega) λv' H2 q G=>?_⟩;obtain⟨L2,rfl⟩:=G;simp(disch:=omega) only[go_sem,simprocAttr,U,T,e7,t,s,r];rw[aaR rfl]at b;refine⟨i,L2,by simp,v',rfl,?_⟩;rw[b,aiw];rwa[aaS]at q
  ·obtain rfl:n=(bo k.b).length:=by omega
   have M:x4 k h (bo k.b).length=rR k h:=by unfold x4 rR;rw[aiv]
   rw[M]at a;have E:=al0 k A l (rR k h) (du k N H m++(J++L)) (lG a none) (λx hx=>gn ((jt A.b).1 (ajL.1 hx).1)) (by have: (rR k h).length<=_:=ajZ _ _;omega) none;simp only[go_sem,simprocAttr,T,S,g0,g1,E,qB,cx (g1 _)];have u:kc N H (du k N H m++(J++L)):=by unfold du;rw[aaS];exact kc.app c
   have ho:aN N ((du k N H m++(J++L)).set (N+1) (ae.box (b0 (nD k (rR k h))) none)) l 1 cg ((rR k h).map hC):=aN.mn (aN.le a (by omega)) (g1 _);rw[V,alz (.inl rfl) ho ?_ ?_ ?_]
   ·exact⟨bt l ((rR k h).map hC),cU rfl ((u.set (by omega)).take c)⟩
   ·rw[bz (λ_=>rfl)];omega
   ·simp[AV.refs,N0]
   ·simp[AV.refs]
end Go.Proofs.YteplichagkpciaaGreatDoor
