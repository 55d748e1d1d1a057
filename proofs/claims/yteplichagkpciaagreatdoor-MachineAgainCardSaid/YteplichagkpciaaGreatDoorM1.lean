/- What functions do; conditions as stated. -/
import Derived.Test.YteplichagkpciaaGreatDoorC
set_option linter.all false
set_option maxRecDepth 10000
set_option maxHeartbeats 1000000
namespace Go.Proofs.YteplichagkpciaaGreatDoor
open Go Go.Den
variable{α:Type}{f:FuncId}{i j n sz h a x ai b aa:Nat}{v:AV}{l:List α}{p:α->Bool}{pf:PF}{lo aj:oN}{af:List lA}
def acK:=@decide_eq_false
def ac5:=@decide_eq_true
def ada:=@List.mem_singleton
def aev:=@decide_eq_decide
def afH:=@Bool.false_and
def af0:=@List.length_filter_le
def ahM:=@List.mem_cons_self
def ajO:=@List.set_set
def akp:=@List.foldl_append
def amj:=@Int.natCast_add
def amm:=@Bool.eq_iff_iff
def anW:=@List.take_left'
def anZ:=@Int.cast_ofNat_Int
def aoi:=@List.set_append_right
def aoq:=@List.map_eq_nil_iff
def aor:=@List.getElem_of_mem
def aoH:=@Bool.not_false
def aoI:=@Bool.and_false
def aoJ:=@List.filter_append
def aoN:=@List.prefix_rfl
def arp:=@List.findIdx?_eq_some_iff_getElem
def au1:=@List.length_pos_iff
def au3:=@Option.isSome_some
def au4:=@Option.isSome_none
def axy:=@Nat.xor_lt_two_pow
def axz:=@eq_true
def ayG:=@Nat.and_two_pow_sub_one_eq_mod
def aq{α:Type}(f:Nat->α)(i:Nat)(x:α):Nat->α:=λj=>if j=i then x else f j
theorem cu{f:Nat->α}{x:α}:aq f i x i=x:=acE rfl
theorem cy{f:Nat->α}{x:α}(h:j≠i):aq f i x j=f j:=acz h
def l6{f:Nat->α}:aq f i (f i)=f:=by
 unfold aq;grind
def r9{f:Nat->α}{x y:α}:aq (aq f i x) i y=aq f i y:=by
 unfold aq;grind
def oQ{β:Type}(g:α->β)(f:Nat->α)(i:Nat)(x:α): (λj=>g (aq f i x j))=aq (λj=>g (f j)) i (g x):=by
 unfold aq;grind
def arr(n:Nat)(f:Nat->lA):lA:=(List.range n).flatMap f
theorem yy(n:Nat)(f:Nat->lA):arr (n+1) f=arr n f++f n:=by
 simp[arr,an7]
theorem Bb{k:Nat}{f:Nat->lA}(h: ∀i,(f i).length=k): ∀n,(arr n f).length=n*k
 |0=>by simp[arr]
 |n+1=>by rw[yy,ac6,Bb h n,h,aog]
theorem EC{f g:Nat->lA}: ∀ {n:Nat},(∀i,i<n->f i=g i)->arr n f=arr n g
 |0,_=>rfl
 |n+1,h=>by rw[yy,yy,EC (n:=n) λi j=>h i (by omega),h n (by omega)]
def apk(n m:Nat)(f:Nat->lA):arr (n+m) f=arr n f++arr m (λj=>f (n+j)):=by
 induction m with
 |zero=>simp[arr]
 |succ m h=>grind [Nat.add_assoc,yy,List.append_assoc]
def Q7{f:Nat->lA}(h:i<n):arr n f=arr i f++(f i++arr (n-i-1) λj=>f (i+1+j)):=by
 obtain⟨m,rfl⟩: ∃m,n=i+1+m:=⟨n-i-1,by omega⟩;rw[apk,yy,acF,show i+1+m-i-1=m by omega]
theorem Bc{f:Nat->lA}(h: ∀i,aI (f i)=0): ∀n,aI (arr n f)=0
 |0=>rfl
 |n+1=>by
  rw[yy];have: ∀a b:lA,aI (a++b)=max (aI a) (aI b):=by
   intro a b
   induction a with
   |nil=>rfl
   |cons x a j=>simp[aI,j,Nat.max_assoc]
  rw[this,Bc h n,h];rfl
def ED(a b:lA):aI (a++b)=max (aI a) (aI b):=by
 induction a with
 |nil=>rfl
 |cons x a f=>simp[aI,f,Nat.max_assoc]
section
variable{ag:Bool}{m off:Nat}{a r vs:lA}
theorem jZ(h:a.length<=off):Den.part ag m (a++r) off=Den.part ag m r (off-a.length):=by
 unfold Den.part;cases ag
 ·grind
 ·grind [List.drop_append,List.drop_eq_nil_of_le,List.length_append]
theorem nI(h:off+m<=a.length)(f:0<m):Den.part ag m (a++r) off=Den.part ag m a off:=by
 unfold Den.part
 grind
theorem EE(h:a.length=m):Den.part true m a 0=some (.agg a):=by
 unfold Den.part
 grind
def kI{k o:Nat}{f:Nat->lA}(h: ∀i,(f i).length=k)(j:i<n)(ho:o+m<=k)(l:0<m):Den.part ag m (arr n f) (i*k+o)=Den.part ag m (f i) o:=by
 rw[Q7 j,jZ (by rw[Bb h];omega),Bb h,show i*k+o-i*k=o by omega,nI (by grind) l]
def gx(h:a.length<=off):aM (a++r) off vs=a++aM r (off-a.length) vs:=by
 unfold aM;rw[avS,ac4 h,as2,afL (by omega),afY,acF,show off+vs.length-a.length=off-a.length+vs.length by omega]
def qA(h:off+vs.length<=a.length):aM (a++r) off vs=aM a off vs++r:=by
 unfold aM
 grind
def nJ(h:a.length=vs.length):aM a 0 vs=vs:=by
 unfold aM
 grind
def nK{k o:Nat}{f:Nat->lA}(h: ∀i,(f i).length=k)(l:i<n)(ho:o+vs.length<=k):aM (arr n f) (i*k+o) vs=arr n (aq f i (aM (f i) o vs)):=by
 have e1:arr i (aq f i (aM (f i) o vs))=arr i f:=EC λj q=>cy (by omega)
 have p: (arr (n-i-1) λj=>aq f i (aM (f i) o vs) (i+1+j))=arr (n-i-1) λj=>f (i+1+j):=EC λj _=>cy (by omega)
 rw[Q7 (f:=aq f i (aM (f i) o vs)) l,cu,e1,p];rw[Q7 l,gx (by rw[Bb h];omega),Bb h,show i*k+o-i*k=o by omega,qA (by grind)]
end
def Q8{ag:Bool}{k:Nat}{cs:lA}(f:k<n)(h:Den.part ag sz cs (k*sz)=some v):pM ag n sz (.agg cs) (.int .i64 k)=some v:=by
 have:pM ag n sz (.agg cs) (.int .i64 k)=if 0<=(k:Int)/\ (k:Int)<n then Den.part ag sz cs ((k:Int).toNat*sz)else none:=rfl
 grind
theorem aee{id off:Nat}:Den.nu n (.ptr id off)= .rd id off (Nat.max n 1):=rfl
theorem aef{id off:Nat}:GS n (.ptr id off)= .wr id off n:=rfl
@[irreducible]def cat (H L:List ae):List ae:=H++L
section
variable{H L M:List ae}{a b c d e g x:ae}{n:Nat}
theorem fh:cat H L=H++L:=by unfold cat;rfl
def JZ: (cat H L).length=H.length+L.length:=by rw[fh,ac6]
def Q9:cat H L++M=cat H (L++M):=by rw[fh,fh,acF]
def ct2(h:H.length=n): (cat H L++M).take n=H:=by rw[fh,acF];grind
def ct1(h:H.length=n): (cat H L).take n=H:=by rw[fh];grind
def cg0(h:H.length=n): (cat H (a::L)++M)[n]?=some a:=by rw[fh,acF,di h];rfl
def Nv(h:H.length=n): (cat H (a::L)++M).set n x=cat H (x::L)++M:=by grind [fh,List.append_assoc,GM]
def cp0(h:H.length=n): (cat H (a::L))[n]?=some a:=by rw[fh,di h];rfl
def cq0(h:H.length=n): (cat H (a::L)).set n x=cat H (x::L):=by grind [fh,GM]
def cg1(h:H.length=n): (cat H (a::b::L)++M)[n+1]?=some b:=by rw[fh,acF,bE h];rfl
def cs1(h:H.length=n): (cat H (a::b::L)++M).set (n+1) x=cat H (a::x::L)++M:=by grind [fh,List.append_assoc,mA]
def cp1(h:H.length=n): (cat H (a::b::L))[n+1]?=some b:=by rw[fh,bE h];rfl
def cq1(h:H.length=n): (cat H (a::b::L)).set (n+1) x=cat H (a::x::L):=by grind [fh,mA]
def cg2(h:H.length=n): (cat H (a::b::c::L)++M)[n+2]?=some c:=by rw[fh,acF,bE h];rfl
def cs2(h:H.length=n): (cat H (a::b::c::L)++M).set (n+2) x=cat H (a::b::x::L)++M:=by grind [fh,List.append_assoc,mA]
def cp2(h:H.length=n): (cat H (a::b::c::L))[n+2]?=some c:=by rw[fh,bE h];rfl
def cq2(h:H.length=n): (cat H (a::b::c::L)).set (n+2) x=cat H (a::b::x::L):=by grind [fh,mA]
def cg3(h:H.length=n): (cat H (a::b::c::d::L)++M)[n+3]?=some d:=by rw[fh,acF,bE h];rfl
def cs3(h:H.length=n): (cat H (a::b::c::d::L)++M).set (n+3) x=cat H (a::b::c::x::L)++M:=by grind [fh,List.append_assoc,mA]
def cp3(h:H.length=n): (cat H (a::b::c::d::L))[n+3]?=some d:=by rw[fh,bE h];rfl
def cq3(h:H.length=n): (cat H (a::b::c::d::L)).set (n+3) x=cat H (a::b::c::x::L):=by grind [fh,mA]
def cg4(h:H.length=n): (cat H (a::b::c::d::e::L)++M)[n+4]?=some e:=by rw[fh,acF,bE h];rfl
def cs4(h:H.length=n): (cat H (a::b::c::d::e::L)++M).set (n+4) x=cat H (a::b::c::d::x::L)++M:=by grind [fh,List.append_assoc,mA]
def cp4(h:H.length=n): (cat H (a::b::c::d::e::L))[n+4]?=some e:=by rw[fh,bE h];rfl
def cq4(h:H.length=n): (cat H (a::b::c::d::e::L)).set (n+4) x=cat H (a::b::c::d::x::L):=by grind [fh,mA]
def cg5(h:H.length=n): (cat H (a::b::c::d::e::g::L)++M)[n+5]?=some g:=by rw[fh,acF,bE h];rfl
def cs5(h:H.length=n): (cat H (a::b::c::d::e::g::L)++M).set (n+5) x=cat H (a::b::c::d::e::x::L)++M:=by grind [fh,List.append_assoc,mA]
def cp5(h:H.length=n): (cat H (a::b::c::d::e::g::L))[n+5]?=some g:=by rw[fh,bE h];rfl
def cq5(h:H.length=n): (cat H (a::b::c::d::e::g::L)).set (n+5) x=cat H (a::b::c::d::e::x::L):=by grind [fh,mA]
end
structure Slot where
 gen:Nat
 eJ:Bool
 ret:Bool
 deriving DecidableEq,Inhabited
abbrev cM:=Nat->Slot
def iI(s:Slot):lA:=[.int .u32 s.gen,.bool s.eJ,.bool s.ret]
def bY(b:cM):lA:=arr 32 λi=>iI (b i)
theorem J0(s:Slot): (iI s).length=3:=rfl
theorem nL(b:cM): (bY b).length=96:=by rfl
theorem Ra(b:cM):aI (bY b)=0:=by rfl
section
variable{b:cM}{i:Nat}
theorem Rb:Den.part true 96 (bY b) 0=some (.agg (bY b)):=by rfl
def aeF(h:i<32):Den.part true 3 (bY b) (i*3)=some (.agg (iI (b i))):=kI (k:=3) (o:=0) (f:=λi=>iI (b i)) (λi=>J0 (b i)) h (by omega) (by omega)
def Rc(h:i<32):pM true 32 3 (.agg (bY b)) (.int .i64 i)=some (.agg (iI (b i))):=Q8 h (aeF h)
def aeG(h:i<32):Den.part false 1 (bY b) (i*3)=some (.int .u32 (b i).gen):=kI (k:=3) (o:=0) (f:=λi=>iI (b i)) (λi=>J0 (b i)) h (by omega) (by omega)
def aeH(h:i<32):Den.part false 1 (bY b) (i*3+1)=some (.bool (b i).eJ):=kI (k:=3) (o:=1) (f:=λi=>iI (b i)) (λi=>J0 (b i)) h (by omega) (by omega)
def Re{s:Slot}{o:Nat}{vs:lA}(h:i<32)(ho:o+vs.length<=3)(j:aM (iI (b i)) o vs=iI s):aM (bY b) (i*3+o) vs=bY (aq b i s):=by
 unfold bY;rw[nK (k:=3) (f:=λi=>iI (b i)) (λi=>J0 (b i)) h ho,j,oQ]
theorem apl{g:Nat}(h:i<32):aM (bY b) (i*3) [.int .u32 g]=bY (aq b i {b i with gen:=g}):=Re (o:=0) h (by simp) rfl
def apm{g:Nat}(h:i<32):aM (bY b) (i*3) [.int .u32 ((g:Int)+1)]=bY (aq b i {b i with gen:=g+1}):=apl (g:=g+1) h
theorem aeI{v:Bool}(h:i<32):aM (bY b) (i*3+1) [.bool v]=bY (aq b i {b i with eJ:=v}):=Re (o:=1) h (by simp) rfl
theorem apn{v:Bool}(h:i<32):aM (bY b) (i*3+2) [.bool v]=bY (aq b i {b i with ret:=v}):=Re (o:=2) h (by simp) rfl
theorem aeJ: (bY b).take 96=bY b:=by rfl
end
def eF(h:Nat):oN:=if 1<=h % 256/\h % 256<=32/\h/256<=8388607 then some (h % 256-1)else none
def c7(i f:Nat):Nat:=f*256+i+1
def aeK(e:eF h=some i):i<32:=by
 unfold eF at e;grind
def Rf{f:Nat}(h:i<32)(j:f<=8388607):eF (c7 i f)=some i:=by
 unfold eF c7
 grind
def aeL{a b c:lA}(h:b=c):a++b=a++c:=by rw[h]
def azf{a b c:lA}(h:b=c):b++a=c++a:=by rw[h]
abbrev aF:=Nat×Nat
structure df where
 up:Nat
 du:Nat
 runs:List aF
 len:Nat
 cells:Nat->Nat
structure aw where
 b:cM
 r:Nat->df
structure Ow where
 kind:Nat
 aa:Nat
 hold:Nat
 deriving DecidableEq
structure Sd where
 root:Nat
 own:Ow
 deriving DecidableEq
abbrev bJ:=Nat->Sd
structure Tok where
 aN:Nat
 iM:Nat
 to:Nat
 mu:Bool
 aS:Nat
 deriving DecidableEq
structure bh where
 b:cM
 t:Nat->Tok
structure j0 where
 fr:Nat
 word:Nat
 aN:Nat
 share:Bool
 deriving DecidableEq
structure cP where
 ring:Nat->j0
 fr:Nat
 n:Nat
 closed:Bool
structure bF where
 T:aw
 O:bJ
 K:bh
 cY:Nat->cP
 alive:Nat->Bool
 born:Nat->Bool
structure cz where
 op:Nat
 r:Nat
 s:Nat
 a:Nat
 b:Nat
 v:Nat
 deriving DecidableEq
structure bB where
 e:Nat
 v:Nat
 w:Nat
 deriving DecidableEq
def aA(r:aF):lA:=[.int .i64 (r.1:Nat),.int .i64 (r.2:Nat)]
def en(l:List aF):AV:=if l.isEmpty then .an else .sl (l.map aA) false
def bR(r:df):lA:=[.int .u32 r.up,.int .i64 r.du,en r.runs,.int .i64 r.len]++arr 8 λi=>[.int .u32 (r.cells i)]
def wg(f:Nat->df):lA:=arr 32 λi=>bR (f i)
def aK(t:aw):lA:=bY t.b++wg t.r
def jx(o:Ow):lA:=[.int .u8 o.kind,.int .u8 o.aa,.int .u8 o.hold]
def sa(x:Sd):lA:=[.int .u32 x.root,.int .u8 x.own.kind,.int .u8 x.own.aa,.int .u8 x.own.hold]
def cJ(o:bJ):lA:=arr 32 λi=>sa (o i)
def fC(x:Tok):lA:=[.int .u32 x.aN,.int .u8 x.iM,.int .u8 x.to,.bool x.mu,.int .u32 x.aS]
def EF(f:Nat->Tok):lA:=arr 16 λi=>fC (f i)
def bS(k:bh):lA:=bY k.b++EF k.t
def eo(m:j0):lA:=[.int .u8 m.fr,.int .u64 m.word,.int .u32 m.aN,.bool m.share]
def J1(f:Nat->j0):lA:=arr 4 λi=>eo (f i)
def cA(b:cP):lA:=J1 b.ring++[.int .i64 b.fr,.int .i64 b.n,.bool b.closed]
def wi(f:Nat->cP):lA:=arr 8 λi=>cA (f i)
def sb(f:Nat->Bool):lA:=arr 8 λi=>[.bool (f i)]
def gh(T:aw)(O:bJ)(K:bh):lA:=aK T++(cJ O++bS K)
def bz(s:bF):lA:=aK s.T++(cJ s.O++(bS s.K++(wi s.cY++(sb s.alive++sb s.born))))
def bg(c:cz):lA:=[.int .u8 c.op,.int .u32 c.r,.int .u32 c.s,.int .u32 c.a,.int .u32 c.b,.int .u64 c.v]
def bD(r:bB):lA:=[.int .i64 r.e,.int .u64 r.v,.int .u32 r.w]
theorem yz(r:df): (bR r).length=12:=by rfl
theorem azg(f:Nat->df): (wg f).length=384:=by rfl
theorem iv(t:aw): (aK t).length=480:=by rfl
theorem sc(o:bJ): (cJ o).length=128:=by rfl
theorem azh(f:Nat->Tok): (EF f).length=80:=by rfl
theorem yA(k:bh): (bS k).length=176:=by rfl
theorem aeM(f:Nat->j0): (J1 f).length=16:=by rfl
theorem yB(b:cP): (cA b).length=19:=by rfl
theorem oR(f:Nat->cP): (wi f).length=152:=by rfl
theorem EG(f:Nat->Bool): (sb f).length=8:=by rfl
theorem kJ(T:aw)(O:bJ)(K:bh): (gh T O K).length=784:=by simp only[gh,ac6,iv,sc,yA]
def dY(s:bF): (bz s).length=952:=by simp only[bz,ac6,iv,sc,yA,oR,EG]
def Rg(l:List aF): (en l).refs=0:=by
 unfold en;split
 ·rfl
 ·exact bp (λ_=>rfl) l
def apo{g:Nat->AV}(h: ∀i,(g i).refs=0)(n:Nat):aI (arr n λi=>[g i])=0:=Bc (λi=>by simp[aI,h]) n
def Rh(r:df):aI (bR r)=0:=by
 rw[bR,ED,apo (λ_=>rfl)];simp[aI,AV.refs,Rg]
def apq(f:Nat->df):aI (wg f)=0:=Bc (λi=>Rh (f i)) 32
def wj(t:aw):aI (aK t)=0:=by rw[aK,ED,Ra,apq];rfl
theorem Ri(o:bJ):aI (cJ o)=0:=by rfl
theorem J2(k:bh):aI (bS k)=0:=by rfl
theorem aeN(b:cP):aI (cA b)=0:=by rfl
theorem apr(f:Nat->cP):aI (wi f)=0:=by rfl
theorem aps(f:Nat->Bool):aI (sb f)=0:=by rfl
def nM(s:bF):aI (bz s)=0:=by simp only[bz,ED,wj,Ri,J2,apr,aps];rfl
def mN(l:List aF):Rv (en l) 2 (l.map aA):=by
 cases l with
 |nil=>exact .an
 |cons a l=>exact .sl (by intro el h;obtain⟨x,_,rfl⟩:=ael.1 h;rfl)
def Rj{ag:Bool}{m:Nat}{a b r:lA}{off:Nat}(c:a.length=off):Den.part ag m (a++r) off=Den.part ag m r 0:=by grind [jZ]
theorem wk{m:Nat}{a r:lA}(c:a.length=m)(b:0<m):Den.part true m (a++r) 0=some (.agg a):=by grind [nI,EE]
section
variable{ag:Bool}{m o i:Nat}
theorem aeO{r:df}:Den.part false 1 (bR r) 0=some (.int .u32 r.up):=rfl
theorem aeP{r:df}:Den.part false 1 (bR r) 1=some (.int .i64 r.du):=rfl
theorem aeQ{r:df}:Den.part false 1 (bR r) 2=some (en r.runs):=rfl
theorem aeR{r:df}:Den.part false 1 (bR r) 3=some (.int .i64 r.len):=rfl
theorem aeS{r:df}:Den.part true 2 (bR r) 2=some (.agg [en r.runs,.int .i64 r.len]):=rfl
theorem J3{r:df}:Den.part true 8 (bR r) 4=some (.agg (arr 8 λi=>[.int .u32 (r.cells i)])):=by rfl
theorem aeT{t:aw}:Den.part true 96 (aK t) 0=some (.agg (bY t.b)):=by rfl
theorem aeU{t:aw}:Den.part true 480 (aK t) 0=some (.agg (aK t)):=by rfl
def aeV{t:aw}(h:i<32)(ho:o+m<=12)(a:0<m):Den.part ag m (aK t) (96+i*12+o)=Den.part ag m (bR (t.r i)) o:=by
 unfold aK;rw[jZ (by rw[nL];omega),nL,show 96+i*12+o-96=i*12+o by omega];exact kI (k:=12) (f:=λi=>bR (t.r i)) (λi=>yz _) h ho a
def apt{t:aw}(h:i<32):Den.part true 12 (aK t) (96+i*12)=some (.agg (bR (t.r i))):=by
 have:=aeV (ag:=true) (m:=12) (o:=0) (t:=t) h (by omega) (by omega);rw[aem]at this;rw[this,EE (yz _)]
def Rk{t:aw}(h:i<32):Den.part false 1 (aK t) (96+i*12)=some (.int .u32 (t.r i).up):=aeV (o:=0) h (by omega) (by omega)
def J4{t:aw}{r:df}(h:i<32):aM (aK t) (96+i*12) (bR r)=aK {t with r:=aq t.r i r}:=by
 unfold aK;rw[gx (by rw[nL];omega),nL,show 96+i*12-96=i*12+0 by omega];unfold wg;rw[nK (k:=12) (f:=λi=>bR (t.r i)) (λi=>yz _) h (by rw[yz];omega),nJ (by rfl),oQ]
def aeW{t:aw}{u:Nat}(h:i<32):aM (aK t) (96+i*12) [.int .u32 u]=aK {t with r:=aq t.r i {t.r i with up:=u}}:=by
 unfold aK;rw[gx (by rw[nL];omega),nL,show 96+i*12-96=i*12+0 by omega];unfold wg;rw[nK (k:=12) (f:=λi=>bR (t.r i)) (λi=>yz _) h (by simp),oQ];rfl
theorem apu{r:df}{u:Nat}:aM (bR r) 0 [.int .u32 u]=bR {r with up:=u}:=rfl
def aeX{r:df}{u:Nat}(h:i<8):aM (bR r) (4+i) [.int .u32 u]=bR {r with cells:=aq r.cells i u}:=by
 unfold bR;rw[gx (by simp)];refine aeL ?_;have:=nK (n:=8) (k:=1) (i:=i) (o:=0) (vs:=[AV.int .u32 u]) (f:=λi=>[AV.int .u32 (r.cells i)]) (λ_=>rfl) h (by simp);rw[show 4+i- [AV.int .u32 r.up,.int .i64 r.du,en r.runs,.int .i64 r.len].length=i*1+0 by simp,this];exact afW (arr 8) (oQ (λu:Nat=>[AV.int .u32 u]) r.cells i u).symm
def aeY{w:bJ}(h:i<32)(ho:o+m<=4)(a:0<m):Den.part ag m (cJ w) (i*4+o)=Den.part ag m (sa (w i)) o:=
 kI (k:=4) (f:=λi=>sa (w i)) (λ_=>rfl) h ho a
theorem aeZ{w:bJ}:Den.part true 128 (cJ w) 0=some (.agg (cJ w)):=by rfl
def ae0{w:bJ}(h:i<32):Den.part false 1 (cJ w) (i*4)=some (.int .u32 (w i).root):=aeY (o:=0) h (by omega) (by omega)
def apv{w:bJ}(h:i<32):Den.part true 3 (cJ w) (i*4+1)=some (.agg (jx (w i).own)):=aeY (o:=1) h (by omega) (by omega)
def apw{w:bJ}{x:Sd}(h:i<32):aM (cJ w) (i*4) (sa x)=cJ (aq w i x):=by
 have:=nK (n:=32) (k:=4) (i:=i) (o:=0) (vs:=sa x) (f:=λi=>sa (w i)) (λ_=>rfl) h (by simp[sa]);unfold cJ;rw[show i*4=i*4+0 by omega,this,nJ (a:=sa (w i)) (vs:=sa x) rfl,oQ]
theorem ae1{k:bh}:Den.part true 96 (bS k) 0=some (.agg (bY k.b)):=by rfl
theorem Rl{k:bh}:Den.part true 176 (bS k) 0=some (.agg (bS k)):=by rfl
def apx{f:Nat->Tok}(h:i<16):Den.part true 5 (EF f) (i*5)=some (.agg (fC (f i))):=
 kI (k:=5) (o:=0) (f:=λi=>fC (f i)) (λ_=>rfl) h (by omega) (by omega)
def apy{k:bh}(h:i<16):Den.part true 5 (bS k) (96+i*5)=some (.agg (fC (k.t i))):=by
 unfold bS;rw[jZ (by rw[nL];omega),nL,show 96+i*5-96=i*5 by omega];exact apx h
theorem ae2{k:bh}{b:cM}:aM (bS k) 0 (bY b)=bS {k with b:=b}:=by rfl
def apz{k:bh}{x:Tok}(h:i<16):aM (bS k) (96+i*5) (fC x)=bS {k with t:=aq k.t i x}:=by
 unfold bS;rw[gx (by rw[nL];omega),nL,show 96+i*5-96=i*5+0 by omega];unfold EF;rw[nK (k:=5) (f:=λi=>fC (k.t i)) (λ_=>rfl) h (by simp[fC]),nJ (a:=fC (k.t i)) (vs:=fC x) rfl,oQ]
def apA{f:Nat->j0}(h:i<4):Den.part true 4 (J1 f) (i*4)=some (.agg (eo (f i))):=
 kI (k:=4) (o:=0) (f:=λi=>eo (f i)) (λ_=>rfl) h (by omega) (by omega)
theorem qB{b:cP}:Den.part true 19 (cA b) 0=some (.agg (cA b)):=by rfl
def ae3{b:cP}(h:i<4):Den.part true 4 (cA b) (i*4)=some (.agg (eo (b.ring i))):=by
 unfold cA;rw[nI (by rw[aeM];omega) (by omega)];exact apA h
theorem ae4{b:cP}:Den.part false 1 (cA b) 16=some (.int .i64 b.fr):=by rfl
theorem Bd{b:cP}:Den.part false 1 (cA b) 17=some (.int .i64 b.n):=by rfl
theorem yE{b:cP}:Den.part false 1 (cA b) 18=some (.bool b.closed):=by rfl
def apB{b:cP}{x:j0}(h:i<4):aM (cA b) (i*4) (eo x)=cA {b with ring:=aq b.ring i x}:=by
 unfold cA;rw[qA (by rw[aeM];simp[eo];omega)];unfold J1;rw[show i*4=i*4+0 by omega,nK (k:=4) (f:=λi=>eo (b.ring i)) (λ_=>rfl) h (by simp[eo]),nJ (a:=eo (b.ring i)) (vs:=eo x) rfl,oQ]
theorem apC{b:cP}:aM (cA b) 16 [.int .i64 x]=cA {b with fr:=x}:=by rfl
theorem ae5{b:cP}:aM (cA b) 17 [.int .i64 x]=cA {b with n:=x}:=by rfl
theorem apD{b:cP}{x:Bool}:aM (cA b) 18 [.bool x]=cA {b with closed:=x}:=by rfl
def ae6{f:Nat->Bool}(h:i<8):Den.part false 1 (sb f) i=some (.bool (f i)):=by
 have:=kI (ag:=false) (m:=1) (n:=8) (k:=1) (i:=i) (o:=0) (f:=λi=>[AV.bool (f i)]) (λ_=>rfl) h (by omega) (by omega);rw[show i*1+0=i by omega]at this;exact this
def apE{f:Nat->cP}(h:i<8):Den.part true 19 (wi f) (i*19)=some (.agg (cA (f i))):=by
 have:=kI (ag:=true) (m:=19) (n:=8) (k:=19) (i:=i) (o:=0) (f:=λi=>cA (f i)) (λ_=>yB _) h (by omega) (by omega);exact this.trans qB
def oS{T:aw}{O:bJ}{K:bh}:Den.part true 480 (gh T O K) 0=some (.agg (aK T)):=wk (iv _) (by omega)
theorem oT{T:aw}{O:bJ}{K:bh}:Den.part true 128 (gh T O K) 480=some (.agg (cJ O)):=by
 unfold gh;rw[Rj (b:=[]) (iv _)];exact wk (sc _) (by omega)
theorem qC{T:aw}{O:bJ}{K:bh}:Den.part true 176 (gh T O K) 608=some (.agg (bS K)):=by
 unfold gh;rw[jZ (by rw[iv];omega),iv,Rj (b:=[]) (sc _)];exact Rl
theorem nN(s:bF):bz s=gh s.T s.O s.K++(wi s.cY++(sb s.alive++sb s.born)):=by simp[bz,gh]
theorem Rm{s:bF}:Den.part true 784 (bz s) 0=some (.agg (gh s.T s.O s.K)):=by grind [nN,wk,kJ]
theorem Rn{s:bF}:Den.part true 952 (bz s) 0=some (.agg (bz s)):=EE (dY s)
theorem Ro{s:bF}:Den.part true 480 (bz s) 0=some (.agg (aK s.T)):=wk (iv _) (by omega)
theorem J5{s:bF}:Den.part true 128 (bz s) 480=some (.agg (cJ s.O)):=by grind [nN,nI,kJ,oT]
theorem J6{s:bF}:Den.part true 176 (bz s) 608=some (.agg (bS s.K)):=by grind [nN,nI,kJ,qC]
theorem apF{s:bF}(h:i<8):Den.part true 19 (bz s) (784+i*19)=some (.agg (cA (s.cY i))):=by
 rw[nN,jZ (by rw[kJ];omega),kJ,show 784+i*19-784=i*19 by omega,nI (by rw[oR];omega) (by omega)];exact apE h
def apG{s:bF}:Den.part true 152 (bz s) 784=some (.agg (wi s.cY)):=by
 rw[nN,Rj (b:=[]) (kJ _ _ _)];exact wk (oR _) (by omega)
theorem Rp{s:bF}(h:i<8):Den.part false 1 (bz s) (936+i)=some (.bool (s.alive i)):=by
 rw[nN,jZ (by rw[kJ];omega),kJ,jZ (by rw[oR];omega),oR,show 936+i-784-152=i by omega,nI (by trivial) (by omega)];exact ae6 h
theorem apH{s:bF}(h:i<8):Den.part false 1 (bz s) (944+i)=some (.bool (s.born i)):=by
 rw[nN,jZ (by rw[kJ];omega),kJ,jZ (by rw[oR];omega),oR,jZ (by rw[EG];omega),EG,show 944+i-784-152-8=i by omega];exact ae6 h
def apI{s:bF}{t:aw}:aM (bz s) 0 (aK t)=bz {s with T:=t}:=by
 unfold bz;rw[qA (by grind [iv]),nJ (by rw[iv,iv])]
def apJ{s:bF}{w:bJ}:aM (bz s) 480 (cJ w)=bz {s with O:=w}:=by
 unfold bz;rw[gx (by rw[iv];omega),iv,qA (by grind [sc]),nJ (by rfl)]
def apK{s:bF}{k:bh}:aM (bz s) 608 (bS k)=bz {s with K:=k}:=by
 unfold bz;rw[gx (by rw[iv];omega),iv,gx (by rw[sc];omega),sc,qA (by rw[yA,yA];omega),nJ (by rfl)]
def apL{s:bF}{b:cP}(h:i<8):aM (bz s) (784+i*19) (cA b)=bz {s with cY:=aq s.cY i b}:=by
 rw[nN,gx (by rw[kJ];omega),kJ,show 784+i*19-784=i*19+0 by omega,qA (by rw[oR,yB];omega),nN];unfold wi;rw[nK (k:=19) (f:=λi=>cA (s.cY i)) (λ_=>yB _) h (by rw[yB];omega),nJ (by rfl),oQ]
def ae7{f:Nat->Bool}{v:Bool}(h:i<8):aM (sb f) i [.bool v]=sb (aq f i v):=by
 have:=nK (n:=8) (k:=1) (i:=i) (o:=0) (vs:=[AV.bool v]) (f:=λi=>[AV.bool (f i)]) (λ_=>rfl) h (by simp);rw[show i*1+0=i by omega]at this;unfold sb;rw[this];exact afW (arr 8) (oQ (λv:Bool=>[AV.bool v]) f i v).symm
def ae8{s:bF}{v:Bool}(h:i<8):aM (bz s) (936+i) [.bool v]=bz {s with alive:=aq s.alive i v}:=by
 rw[nN,gx (by rw[kJ];omega),kJ,gx (by rw[oR];omega),oR,show 936+i-784-152=i by omega,qA (by trivial),ae7 h,nN]
def ae9{s:bF}{v:Bool}(h:i<8):aM (bz s) (944+i) [.bool v]=bz {s with born:=aq s.born i v}:=by
 rw[nN,gx (by rw[kJ];omega),kJ,gx (by rw[oR];omega),oR,gx (by rw[EG];omega),EG,show 944+i-784-152-8=i by omega,ae7 h,nN]
end
theorem afa{t:aw}: (aK t).take 480=aK t:=by rfl
theorem afb{k:bh}: (bS k).take 176=bS k:=by rfl
theorem afc{r:df}:Den.part true 12 (bR r) 0=some (.agg (bR r)):=by rfl
theorem afd{t:aw}:List.drop 96 (aK t)=wg t.r:=by rfl
theorem afe{b:cM}{r:Nat->df}:bY b++wg r=aK ⟨b,r⟩:=rfl
theorem aff{u:Nat}{r:df}:AV.int .u32 (u:Nat)::List.drop 1 (bR r)=bR {r with up:=u}:=rfl
theorem afg{b:cM}{f:Nat->Tok}:bY b++EF f=bS ⟨b,f⟩:=rfl
theorem Rq(r:aF): (aA r).length=2:=rfl
theorem afh{r:aF}:Den.part false 1 (aA r) 0=some (.int .i64 (r.1:Nat)):=rfl
theorem afi{r:aF}:Den.part false 1 (aA r) 1=some (.int .i64 (r.2:Nat)):=rfl
theorem Rr{r:aF}:Den.part true 2 (aA r) 0=some (.agg (aA r)):=rfl
theorem afj{r:aF}: (aA r).take 2=aA r:=rfl
theorem afk{r:aF}: (aA r).drop 2=[]:=rfl
theorem afl(r:aF):aI (aA r)=0:=rfl
def ML:=gG @Rq<|gG @afj<|gG @afk<|gG @afl<|gG @afd<|gG @afe<|gG @aff<|gG @afg<|gG @aeJ<|gG @nL<|gG @Ra<|gG @afa<|gG @iv<|gG @wj<|gG @yz<|gG @Rh<|gG @sc<|gG @Ri<|gG @afb<|gG @yA @J2
def MP:=gG @afh<|gG @afi<|gG @Rr<|gG @Rb<|gG @aeO<|gG @aeP<|gG @aeQ<|gG @aeR<|gG @aeS<|gG @afc<|gG @aeT<|gG @aeU<|gG @aeZ<|gG @ae1 @Rl
def Zz:type_of% @R2/\type_of% @C1/\type_of% @P1/\type_of% @N1/\type_of% @O1/\type_of% @V1/\type_of% @V2/\type_of% @V3/\type_of% @wrap_i64/\type_of% @wrap_u64/\type_of% @wrap_u8/\type_of% @wrap_u16/\type_of% @wrap_u32/\type_of% @wrap_i32/\type_of% @di/\type_of% @bE/\type_of% @GM/\type_of% @mA/\type_of% @lh/\type_of% @XY/\type_of% @ack/\type_of% @Option.isSome_some.{0}/\type_of% @Option.isSome_none.{0}/\type_of% @Option.getD_some.{0}/\type_of% @Option.getD_none.{0}/\type_of% @Bool.not_true/\type_of% @Bool.not_false/\type_of% @cg0/\type_of% @cg1/\type_of% @cg2/\type_of% @cg3/\type_of% @cg4/\type_of% @cg5/\type_of% @Nv/\type_of% @cs1/\type_of% @cs2/\type_of% @cs3/\type_of% @cs4/\type_of% @cs5/\type_of% @ct2/\type_of% @ct1/\type_of% @cp0/\type_of% @cp1/\type_of% @cp2/\type_of% @cp3/\type_of% @cp4/\type_of% @cp5/\type_of% @cq0/\type_of% @cq1/\type_of% @cq2/\type_of% @cq3/\type_of% @cq4/\type_of% @cq5/\type_of% @List.getElem?_set_ne.{0}/\type_of% @Q1/\type_of% @G1/\type_of% @GU/\type_of% @GV/\type_of% @GW/\type_of% @GX/\type_of% @GY/\type_of% @GZ/\type_of% @G4/\type_of% @G5/\type_of% @G6/\type_of% @G7/\type_of% @ML/\type_of% @List.length_take.{0}/\type_of% @Nat.min_self/\type_of% @List.append_nil.{0}/\type_of% @Nat.zero_le/\type_of% @Nat.add_zero/\type_of% @Nat.zero_add/\type_of% @Nat.le_refl/\type_of% @and_true/\type_of% @true_and/\type_of% @if_true.{1}:=
 ⟨@R2,@C1,@P1,@N1,@O1,@V1,@V2,@V3,@wrap_i64,@wrap_u64,@wrap_u8,@wrap_u16,@wrap_u32,@wrap_i32,@di,@bE,@GM,@mA,@lh,@XY,@ack,@au3.{0},@au4.{0},@ahL.{0},@avR.{0},@arq,@aoH,@cg0,@cg1,@cg2,@cg3,@cg4,@cg5,@Nv,@cs1,@cs2,@cs3,@cs4,@cs5,@ct2,@ct1,@cp0,@cp1,@cp2,@cp3,@cp4,@cp5,@cq0,@cq1,@cq2,@cq3,@cq4,@cq5,@abN.{0},@Q1,@G1,@GU,@GV,@GW,@GX,@GY,@GZ,@G4,@G5,@G6,@G7,@ML,@aeD.{0},@awp,@aeC.{0},@ac7,@aem,@ajg,@aeg,@akq,@axg,@aeE.{1}⟩
attribute [go_sem] Zz aee aef
attribute [go_sem ↓] R1 MP Int.cast_ofNat_Int
def az(b:cM)(h:Nat):Bool:=match eF h with
 |some i=>decide (b i=⟨h/256,true,false⟩)
 |none=>false
def aO(h:Nat):Nat:=(eF h).getD 0
def mO(b:cM)(i:Nat):Bool:=!(b i).eJ&& !(b i).ret
def mP(b:cM):oN:=(List.range 32).find? (mO b)
def oU(b:cM):cM×Nat×Bool:=match mP b with
 |some i=>(aq b i {b i with eJ:=true},c7 i (b i).gen,true)
 |none=>(b,0,false)
def qD(s:Slot):Slot:=if s.gen=8388607 then⟨s.gen,false,true⟩else⟨s.gen+1,false,s.ret⟩
def ep(b:cM)(h:Nat):cM×Bool:=if az b h then(aq b (aO h) (qD (b (aO h))),true)else(b,false)
def bn(b:cM):lN:=((List.range 32).filter λi=>(b i).eJ).map λi=>c7 i (b i).gen
def kK(r:aF):Bool:=decide (1<=r.2)&&decide (r.1+r.2<=64)
def hO(x:aF)(b:Bool)(a:List aF):List aF->Option (List aF)
 | []=>some (if b then a else a++[x])
 |y::ys=>
  if y.1+y.2<x.1 then hO x b (a++[y]) ys
  else if x.1+x.2<y.1 then hO x true (a++(if b then[]else[x])++[y]) ys
  else if y.1+y.2=x.1 then hO (y.1,y.2+x.2) b a ys
  else if y.1=x.1+x.2 then hO (x.1,x.2+y.2) b a ys
  else none
def iw(l:List aF)(x:aF):Option (List aF):=if kK x then hO x false [] l else none
def l7:List aF->List aF->Option (List aF)
 |all,[]=>some all
 |all,x::xs=>match iw all x with
  |some a=>l7 a xs
  |none=>none
def aU(l:List aF):Nat:=(l.map (·.2)).sum
def oV(a:List aF)(len:Nat):Bool:=(l7 [] a).isSome&&decide (len<=aU a*32)
def dG:df:=⟨0,0,[],0,λ_=>0⟩
def aw.az(t:aw)(h:Nat):Bool:=Go.Proofs.YteplichagkpciaaGreatDoor.az t.b h
def j6(t:aw)(i:Nat):Nat:=if t.az (t.r i).up then(t.r i).up else 0
def aL(t:aw)(h:Nat):df×Nat:=if t.az h then({t.r (aO h)with up:=j6 t (aO h)},0)else(dG,4)
def ln(t:aw)(up n:Nat):aw×Nat×Nat:=
 if up≠0/\t.az up=false then(t,0,4)
 else if 64<n then(t,0,2)
 else match mP t.b with
  |some i=>({b:=aq t.b i {t.b i with eJ:=true},r:=aq t.r i {dG with up:=up,du:=n}},c7 i (t.b i).gen,0)
  |none=>(t,0,7)
def kM(t:aw)(h:Nat):aw×Nat:=
 if t.az h then({b:=(ep t.b h).1,r:=aq t.r (aO h) dG},0)else(t,4)
def fD(t:aw)(h:Nat)(r:df):aw×Nat:=
 if t.az h=false then(t,4)
 else if 64<r.du\/oV r.runs r.len=false then(t,2)
 else({t with r:=aq t.r (aO h) {r with up:=(t.r (aO h)).up}},0)
def bH(t:aw)(h:Nat):Nat:=if t.az h then j6 t (aO h)else 0
def eu(t:aw):Nat->Nat->lN
 |0,_=>[]
 |n+1,h=>if bH t h=0 then[]else bH t h::eu t n (bH t h)
def aS(t:aw)(h:Nat):lN:=eu t 32 h
def lp(t:aw)(h up:Nat):aw×Nat:=
 if t.az h=false\/ (up≠0/\t.az up=false)then(t,4)
 else if up≠0/\h∈up::aS t up then(t,12)
 else({t with r:=aq t.r (aO h) {t.r (aO h)with up:=up}},0)
def depth(t:aw)(h:Nat):Nat:=if t.az h then 1+(aS t h).length else 0
def root(t:aw)(h:Nat):Nat:=if t.az h then(aS t h).getLastD h else 0
def j7(t:aw)(a b:Nat):Bool:=t.az a&&t.az b&& (decide (a=b)|| (aS t b).contains a)
def kids(t:aw)(h:Nat):lN:=if t.az h then(bn t.b).filter (λx=>bH t x=h)else[]
def hU(t:aw):Nat->Nat->lN
 |0,h=>[h]
 |n+1,h=>h:: (kids t h).flatMap (hU t n)
def under(t:aw)(h:Nat):lN:=if t.az h then hU t 32 h else[]
def hY(t:aw)(a n:Nat):aw×Nat×Nat:=
 let x:=ln t a n
 if(x.2.2=0\/x.2.2=7)/\6<=depth t a then(t,0,8)else x
def yF(t0:aw)(h:Nat)(t:aw)(x:Nat):aw:=
 let r:=(aL t x).1
 (fD t x {r with cells:=λi=>if r.cells i≠h/\j7 t0 (r.cells i) h then 0 else r.cells i}).1
def jf(t:aw)(h:Nat):aw×Nat:=
 if t.az h=false then(t,4)else lp ((hU t 32 h).foldl (yF t h) t) h 0
def sd(t:aw)(h:Nat):Nat:=(hU t 32 h).foldl (λn x=>max n (depth t x-depth t h+1)) 0
def uD(t:aw)(h a:Nat):aw×Nat:=
 if t.az h=false\/t.az a=false then(t,4)
 else if root t h≠h\/j7 t h a then(t,12)
 else if 6<depth t a+sd t h then(t,8)
 else lp t h a
def lq(t:aw)(h:Nat):aw×lN×Nat:=
 if under t h=[]then(t,[],4)else((under t h).foldl (λt x=>(kM t x).1) t,under t h,0)
def wm:Ow:=⟨0,0,0⟩
def b0(o:bJ)(t:aw)(h:Nat):Ow:=match eF (root t h)with
 |some i=>if(o i).root=root t h then(o i).own else wm
 |none=>wm
def fQ(o:bJ)(t:aw)(r:Nat)(aa:Nat)(x:Ow):bJ×Nat:=
 if t.az r=false then(o,4)
 else if root t r≠r then(o,12)
 else if 8<=aa then(o,2)
 else(aq o (aO r) ⟨r,x⟩,0)
def qE(o:bJ)(t:aw)(r aa:Nat):bJ×Nat:=fQ o t r aa ⟨1,aa % 256,0⟩
def wo(o:bJ)(t:aw)(r:Nat):bJ×Nat:=fQ o t r 0 ⟨2,0,0⟩
def hZ(aa:Nat):Nat:=2^(aa % 8)
def yG(o:bJ)(t:aw)(r aa:Nat):bJ×Nat:=fQ o t r aa ⟨3,0,hZ aa⟩
def nO(x aa:Nat):Bool:=x.testBit (aa % 8)
def dv(o:bJ)(t:aw)(r aa:Nat)(hold:Bool):bJ×Nat×Nat:=
 let x:=b0 o t r
 let e:=(fQ o t r aa x).2
 if e=4\/ (t.az r=true/\root t r≠r)then(o,0,e)
 else if x.kind≠3 then(o,0,12)
 else if e≠0 then(o,0,e)
 else if nO x.hold aa&&hold then(o,0,7)
 else if !nO x.hold aa&& !hold then(o,0,5)
 else((fQ o t r aa {x with hold:=x.hold^^^hZ aa}).1,x.hold^^^hZ aa,(fQ o t r aa {x with hold:=x.hold^^^hZ aa}).2)
def J7:Tok:=⟨0,0,0,false,0⟩
def ch(k:bh)(h:Nat):Tok×Nat:=if az k.b h then(k.t (aO h),0)else(J7,4)
def se(k:bh)(p:Tok->Bool):lN:=(bn k.b).filter λh=>p (ch k h).1
def isRight(b a:Nat)(x:Tok):Bool:=decide (x.aN=b)&&decide (x.aS=a)
def Be(k:bh)(b a:Nat):Nat:=(se k (isRight b a)).length
def sf(k:bh)(b a:Nat):Bool:=(bn k.b).any λh=>isRight b a (ch k h).1&& (ch k h).1.mu
def mQ(k:bh)(h:Nat):Bool:=decide (h=0)||az k.b h
def oW(k:bh)(x:Tok):Nat:=
 if mQ k x.aS=false then 4
 else if 8<=x.iM\/8<=x.to\/x.iM=x.to\/x.aN=0 then 2
 else if x.aS≠0/\ ((ch k x.aS).1.aN≠x.aN\/ (ch k x.aS).1.to≠x.iM\/ (x.mu=true/\ (ch k x.aS).1.mu=false))then 12
 else if sf k x.aN x.aS=true\/ (x.mu=true/\0<Be k x.aN x.aS)then 5
 else 0
def kN(k:bh)(x:Tok):bh×Nat×Nat:=
 if oW k x≠0 then(k,0,oW k x)
 else match mP k.b with
  |some i=>if i<16 then({b:=aq k.b i {k.b i with eJ:=true},t:=aq k.t i x},c7 i (k.b i).gen,0)else(k,0,7)
  |none=>(k,0,7)
def gO(b:cM):Prop:= ∀i,(b i).gen<=8388607/\ ((b i).eJ=true->(b i).ret=false)
def EH(e:eF h=some i):i<32/\h/256<=8388607/\h % 256=i+1/\h<2147483648:=by
 unfold eF at e;grind
def yH(h:Nat):aO h<32:=by
 unfold aO;cases e:eF h with
 |none=>simp
 |some i=>exact(EH e).1
theorem EI(e:eF h=some i):aO h=i:=by simp[aO,e]
theorem Rs(e:eF h=some i):c7 i (h/256)=h:=by
 have:=EH e;unfold c7;omega
theorem kO{b:cM}:az b h=true↔ ∃i,eF h=some i/\b i=⟨h/256,true,false⟩:=by
 unfold az
 grind
def gi{b:cM}(a:az b h=true):h<4294967296:=by
 obtain⟨i,e,_⟩:=kO.1 a;have:=EH e;omega
def Rt{b:cM}(a:az b h=true):h≠0:=by
 obtain⟨i,e,_⟩:=kO.1 a;have:=EH e;omega
def Bf{b:cM}(a:az b h=true):eF h=some (aO h)/\b (aO h)=⟨h/256,true,false⟩/\c7 (aO h) (h/256)=h:=by grind [kO,EI,Rs]
theorem Ru{b:cM}(d:gO b)(c:i<32):az b (c7 i (b i).gen)=(b i).eJ:=by
 obtain⟨j,h⟩:=d i;have e:=Rf c j;have f:c7 i (b i).gen/256=(b i).gen:=by unfold c7;omega
 unfold az;rw[e];simp only[f];revert h;generalize b i=s;obtain⟨g,a,r⟩:=s;simp_all
theorem jg{b:cM}(d:gO b):h∈bn b↔az b h=true:=by
 unfold bn;simp only[ael,aey,ame];constructor
 ·grind [Ru]
 ·intro c;obtain⟨i,e,a⟩:=kO.1 c;refine⟨i,⟨(EH e).1,by grind⟩,?_⟩;rw[a];exact Rs e
theorem mR(b:cM): (bn b).length<=32:=by
 unfold bn
 grind
def EJ{g:Nat}(a:i<32)(b:g<=8388607):c7 i g<4294967296:=by unfold c7;omega
theorem sg{b:cM}(e:mP b=some i):i<32/\ (b i).eJ=false/\ (b i).ret=false/\ ∀j,j<i->mO b j=false:=by
 unfold mP at e;rw[List.find?_range_eq_some]at e;obtain⟨a,d,c⟩:=e;unfold mO at a
 grind
theorem Rw{b:cM}(a:gO b)(e:mP b=some i):gO (aq b i {b i with eJ:=true}):=by
 intro j;by_cases h:j=i
 ·subst h;rw[cu];exact⟨(a j).1,λ_=>(sg e).2.2.1⟩
 ·rw[cy h];exact a j
theorem EL{b:cM}(a:gO b)(h:Nat):gO (ep b h).1:=by
 unfold ep;split
 ·intro j;by_cases e:j=aO h
  ·subst e;simp only[cu];have:=(a (aO h)).1;unfold qD;grind
  ·simp only[cy e];exact a j
 omega
structure fR(r:df):Prop where
 up:r.up<4294967296
 du:r.du<=64
 len:r.len<=2048
 cells: ∀i,r.cells i<4294967296
 runs: ∀x∈r.runs,1<=x.2/\x.1+x.2<=64
 aU:aU r.runs<=64
structure bL(t:aw):Prop where
 b:gO t.b
 r: ∀i,fR (t.r i)
def cp(t:aw):Prop:= ∀h,(aS t h).length<=5
def afm{t:aw}:j6 t i<4294967296:=by
 unfold j6;split
 ·rename_i h;exact gi h
 ·omega
def apM{t:aw}:bH t h<4294967296:=by
 unfold bH;split
 ·exact afm
 ·omega
theorem EM{t:aw}(a:bH t h≠0):t.az (bH t h)=true/\t.az h=true:=by
 unfold bH at*;split at a
 ·unfold j6 at*
  grind
 omega
theorem Rx{t:aw}: ∀ (n:Nat) (h:Nat),(eu t n h).length<n-> ∀m,n<=m->eu t m h=eu t n h
 |0,_,a,_,_=>by omega
 |n+1,h,a,m,hm=>by
  obtain⟨m,rfl⟩: ∃k,m=k+1:=⟨m-1,by omega⟩;simp only[eu]at a⊢;by_cases hu:bH t h=0
  ·grind
  ·rw[acz hu]at a;simp only[aep]at a;rw[Rx n _ (by omega) m (by omega)]
def sh{t:aw}(a:cp t)(h:Nat):aS t h=if bH t h=0 then[]else bH t h::aS t (bH t h):=by
 unfold aS;by_cases hu:bH t h=0
 ·rw[acE hu,eu,acE hu]
 ·have e:eu t 33 h=eu t 32 h:=Rx 32 h (by have:=a h;unfold aS at this;omega) 33 (by omega);rw[<-e,eu,acz hu]
def apN{t:aw}(c:cp t)(a:x∈aS t h):t.az x=true:=by
 have key: ∀ (n h:Nat),(aS t h).length<=n->x∈aS t h->t.az x=true:=by
  intro n
  induction n with
  |zero=>grind
  |succ n d=>
   intro h b a;rw[sh c]at a b;by_cases hu:bH t h=0
   ·grind
   ·rw[acz hu]at a b;rcases aeB.1 a with rfl|a
    ·exact(EM hu).1
    grind
 exact key _ h (aeg _) a
def dep(t:aw)(h:Nat):Nat:=(aS t h).length
theorem Bg{t:aw}(b:cp t)(a:bH t h≠0):dep t h=dep t (bH t h)+1:=by
 unfold dep;rw[sh b,acz a];rfl
def J8{t:aw}(a:x∈kids t h):t.az h=true/\bH t x=h/\x∈bn t.b:=by
 unfold kids at a
 grind
theorem Bh{t:aw}(a:cp t)(b:x∈kids t h):dep t x=dep t h+1:=by
 obtain⟨d,c,_⟩:=J8 b;have:=Bg a (h:=x) (by rw[c];exact Rt d)
 grind
def afn(t:aw)(h:Nat): (kids t h).length<=32:=by
 unfold kids;split
 ·grind [Nat.le_trans,List.length_filter_le,mR]
 ·simp
theorem afo{α β:Type}{f g:α->List β}: ∀ {l:List α},(∀x∈l,f x=g x)->l.flatMap f=l.flatMap g
 | [],_=>rfl
 |x::xs,h=>by
  rw[aoV,aoV,h x (ahM ..),afo λy a=>h y (aew _ a)]
theorem Ry{t:aw}(a:cp t): ∀ (n h:Nat),5<=n+dep t h-> ∀m,n<=m->hU t m h=hU t n h
 |0,h,d,m,_=>by
  have c:kids t h=[]:=by
   cases e:kids t h with
   |nil=>rfl
   |cons x xs=>
    have:=Bh a (h:=h) (x:=x) (by grind);have f:=a x;unfold dep at*;omega
  cases m with
  |zero=>rfl
  |succ m=>rw[hU,hU,c];rfl
 |n+1,h,d,m,hm=>by
  obtain⟨m,rfl⟩: ∃k,m=k+1:=⟨m-1,by omega⟩;refine afW (h:: ·) (afo λx b=>?_);exact Ry a n x (by have:=Bh a b;omega) m (by omega)
def dw(t:aw)(h:Nat):lN:=hU t 32 h
def Rz{t:aw}(a:cp t)(h:Nat):dw t h=h:: (kids t h).flatMap (dw t):=by
 unfold dw;rw[<-Ry a 32 h (by omega) 33 (by omega),hU]
theorem RA{α:Type}(f:α->Nat)(c:Nat): ∀l:List α,(∀x∈l,f x<=c)->(l.map f).sum<=l.length*c
 | [],_=>by simp
 |x::xs,h=>by
  have d:=h x (ahM ..);have b:=RA f c xs λy a=>h y (aew _ a)
  simp only[alM,List.sum_cons,aep,aog];omega
theorem afp(t:aw): ∀ (n h:Nat),(hU t n h).length<=33^n
 |0,h=>by simp[hU]
 |n+1,h=>by
  rw[hU,aep,List.length_flatMap];have c:=RA (λx=>(hU t n x).length) (33^n) (kids t h) λx _=>afp t n x
  have a:=afn t h;have b: (kids t h).length*33^n<=32*33^n:=ajX _ a
  grind
def RC{t:aw}(a:cp t)(h:Nat): (dw t h).length<=39135393:=by
 have:=afp t 5 h;unfold dw;rw[Ry a 5 h (by omega) 32 (by omega)];omega
def azi{t:aw}(h:Nat):dw t h≠[]:=by unfold dw;rw[hU];simp
def EN{t:aw}(f:gO t.b)(b:t.az h=true)(a:x∈dw t h):t.az x=true:=by
 have key: ∀ (n h:Nat),t.az h=true->x∈hU t n h->t.az x=true:=by
  intro n
  induction n with
  |zero=>intro h b a;rw[hU,ada]at a;grind
  |succ n c=>
   intro h b a;rcases aeB.1 a with rfl|a
   ·omega
   ·obtain⟨y,d,e⟩:=aoa.1 a;exact c y ((jg f).1 (J8 d).2.2) e
 exact key 32 h b a
def mS(k:bh)(a:Nat):lN:=se k λx=>decide (x.aN=a)
def wq(k:bh)(aa:Nat):lN:=se k λx=>decide (x.to=aa)
def mT(k:bh)(l:lN):bh:=l.foldl (λk h=>{k with b:=(ep k.b h).1}) k
def J9(k:bh)(a:Nat):bh:=mT k (mS k a)
def RE(k:bh)(h:Nat):lN:=se k λx=>decide (x.aS=h)
def mU(k:bh):Nat->Nat->lN
 |0,h=>[h]
 |n+1,h=>h:: (RE k h).flatMap (mU k n)
def qF(k:bh)(h:Nat):lN:=(bn k.b).filter λx=>(mU k 16 h).contains x
def l8(k:bh)(h:Nat):bh×lN×Nat:=if az k.b h then(mT k (qF k h),qF k h,0)else(k,[],4)
def wu(k:bh)(b a:Nat):Bool:=mQ k a&& !sf k b a
def yI(k:bh)(b a:Nat):Bool:=mQ k a&&decide (Be k b a=0)
def EO(T:aw)(K:bh)(h a:Nat):Bool:=
 if a=0 then wu K h 0 else if a=1 then yI K h 0 else if a=2 then !((under T h).any λx=>decide (0< (mS K x).length))else false
def ER(K:bh)(aa h a:Nat):Bool:=(mS K h).any λt=>
 decide ((ch K t).1.to=aa)&& ((decide (a=0)&&wu K h t)|| (decide (a=1)&& (ch K t).1.mu&&yI K h t))
def wx(T:aw)(O:bJ)(K:bh)(aa h a:Nat):Nat:=
 if T.az h=false then 4
 else if(b0 O T h).kind=3 then(if a=0/\aa<8/\ (b0 O T h).hold.testBit aa=true then 0 else 5)
 else if(b0 O T h).kind=1 then(if((b0 O T h).aa=aa/\EO T K h a=true)\/ER K aa h a=true then 0 else 5)
 else 5
def yL:j0:=⟨0,0,0,false⟩
def lr(b:cP)(i:Nat):Nat:=(b.fr+i) % 4
def nP(b:cP)(m:j0):cP×Nat:=
 if b.closed then(b,11)else if b.n=4 then(b,7)else({b with ring:=aq b.ring (lr b b.n) m,n:=b.n+1},0)
def l9(b:cP):cP×j0×Nat:=
 if b.n=0 then(b,yL,if b.closed then 11 else 10)else({b with fr:=lr b 1,n:=b.n-1},b.ring b.fr,0)
def uE(b:cP):cP×Nat:=if b.closed then(b,11)else({b with closed:=true},0)
def fS(b:cP):List j0:=(List.range b.n).map λi=>b.ring (lr b i)
def yM:cP:=⟨λ_=>yL,0,0,true⟩
def mW(t:aw)(r a to:Nat)(b:Bool):aw×Nat:=
 if t.az r=false\/ (to≠0/\t.az to=false)then(t,4)
 else if 8<=a then(t,2)
 else if to≠0/\b=false/\j7 t to r=false then(t,5)
 else
  let x:=(aL t r).1
  let n:=fD t r {x with cells:=aq x.cells a to}
  if n.2=0 then n else(t,n.2)
def si(t:aw)(r a:Nat):Nat×Nat:=
 if t.az r=false then(0,4)
 else if 8<=a then(0,2)
 else
  let to:=(aL t r).1.cells a
  if to=0 then(0,10)else if t.az to=false then(0,4)else(to,0)
structure aB where
 s:bF
 aa:Nat
 c:cz
 run:aF
 ma:Nat
 asks:Bool
 back:List aF
abbrev R(α:Type):=Except Nat α
def ask(b:Bool)(e:Nat):R Unit:=if b then .ok ()else .error e
def cC(e:Nat):R Unit:=if e=0 then .ok ()else .error e
def aB.t(x:aB)(T:aw):aB:={x with s:={x.s with T:=T}}
def aB.o(x:aB)(O:bJ):aB:={x with s:={x.s with O:=O}}
def aB.k(x:aB)(K:bh):aB:={x with s:={x.s with K:=K}}
def aB.bx(x:aB)(i:Nat)(b:cP):aB:={x with s:={x.s with cY:=aq x.s.cY i b}}
def fK(x:aB)(h a:Nat):R Unit:=cC (wx x.s.T x.s.O x.s.K x.aa h a)
def mb(x:aB)(aa:Nat):R Unit:=ask (decide (aa<8)&&x.s.alive aa) 2
def iN(x:aB)(y:Nat):aB:={x.k (J9 x.s.K y)with back:=x.back++(aL x.s.T y).1.runs}
def gy(x:aB)(h:Nat):aB:=let y:=(under x.s.T h).foldl iN x;y.t (lq y.s.T h).1
def wy(x:aB)(h:Nat):R aB:=do cC (jf x.s.T h).2;return x.t (jf x.s.T h).1
def mX(x:aB)(h aa:Nat):R aB:=do cC (qE x.s.O x.s.T h aa).2;return x.o (qE x.s.O x.s.T h aa).1
def nQ(x:aB)(h:Nat)(r:df):R aB:=do cC (fD x.s.T h r).2;return x.t (fD x.s.T h r).1
def bO:bB:=⟨0,0,0⟩
def wz(x:aB):R (aB×bB):=do
 if x.c.r≠0 then fK x x.c.r 1
 let n:=hY x.s.T x.c.r (min x.c.a 65)
 cC n.2.2
 let y:=x.t n.1
 let y<-if x.c.r=0 then mX y n.2.1 x.aa else pure y
 return (y,{bO with w:=n.2.1})
def isObj(a b:Nat):Bool:=decide (1<=a)&&decide (a<=128)&& [1,2,4,8].contains b
def gP(c:List aF)(len b a:Nat):oN:=
 if isObj b a then(let at':=(len+a-1)/a*a;if at'+b<=aU c*32 then some at' else none)else none
def oX(a b:Nat):oN:=if isObj a b then some ((a+31)/32)else none
def j8(a:List aF):Nat->Nat->oN:=match a with
 | []=>λ_ _=>none
 |r::rs=>λbase at'=>if base<=at'/\at'<base+r.2*32 then some (r.1*32+at'-base)else j8 rs (base+r.2*32) at'
def mc(x:aB):R (aB×bB):=do
 let size:=min x.c.a 129
 let align:=min x.c.b 9
 let n<-match oX size align with|some n=>pure n|none=>.error 2
 fK x x.c.r 1
 cC (aL x.s.T x.c.r).2
 let r:=(aL x.s.T x.c.r).1
 match gP r.runs r.len size align with
 |some at'=>do
  let y<-nQ x x.c.r {r with len:=at'+size}
  return (y,{bO with v:=at'})
 |none=>do
  ask (decide (aU r.runs+n<=r.du)) 6
  let x:={x with ma:=n}
  if x.asks then return (x,bO)
  let runs:=r.runs++[x.run]
  let len:=aU r.runs*32
  ask (decide (x.run.2=n)&&oV runs len) 2
  let at':=(gP runs len size align).getD 0
  let b:=match gP runs len size align with|some a=>a+size|none=>len
  let y<-nQ x x.c.r {r with runs:=runs,len:=b}
  return (y,{bO with v:=at'})
def uF(x:aB)(a:Nat):R (aB×bB):=do
 ask (decide (1<=x.c.b)&&decide (x.c.b<=8)) 2
 fK x x.c.r a
 cC (aL x.s.T x.c.r).2
 ask (decide (x.c.a+x.c.b<=(aL x.s.T x.c.r).1.len)) 9
 return (x,bO)
def yN(x:aB):R (aB×bB):=do
 fK x x.c.r 1
 cC (aL x.s.T x.c.r).2
 let r:=(aL x.s.T x.c.r).1
 let y<-nQ {x with back:=x.back++r.runs} x.c.r {dG with du:=r.du}
 return (y,bO)
def yO(x:aB):R (aB×bB):=do
 fK x x.c.r 2
 return (gy x x.c.r,bO)
def Bi(x:aB):R (aB×bB):=do
 fK x x.c.r 2
 ask (decide (root x.s.T x.c.r≠x.c.r)) 12
 let y<-wy x x.c.r
 let y<-mX y x.c.r x.aa
 return (y,bO)
def Bj(x:aB):R (aB×bB):=do
 fK x x.c.r 2
 fK x x.c.s 1
 let t:=uD x.s.T x.c.r x.c.s
 cC t.2
 return (x.t t.1,bO)
def Bk(x:aB):R (aB×bB):=do
 fK x x.c.r 2
 let y<-wy x x.c.r
 let o:=yG y.s.O y.s.T x.c.r x.aa
 cC o.2
 return (y.o o.1,bO)
def yP(x:aB)(h:Nat):R Unit:=do
 ask (x.s.T.az h) 4
 let o:=b0 x.s.O x.s.T h
 ask (decide (root x.s.T h=h)&&decide (o.kind=3)) 12
 ask (o.hold.testBit x.aa) 5
def yS(x:aB)(h aa:Nat):bJ×Nat:=((dv x.s.O x.s.T h aa true).1,(dv x.s.O x.s.T h aa true).2.2)
def yT(x:aB):R (aB×bB):=do
 mb x x.c.a
 yP x x.c.r
 let o:=yS x x.c.r x.c.a
 cC o.2
 return (x.o o.1,bO)
def kQ(x:aB)(h aa:Nat):R aB:=do
 let o:=dv x.s.O x.s.T h aa false
 cC o.2.2
 let y:=x.o o.1
 return if o.2.1=0 then gy y h else y
def Bl(x:aB):R (aB×bB):=do
 yP x x.c.r
 return (<-kQ x x.c.r x.aa,bO)
def uG(x:aB):R (aB×bB):=do
 mb x x.c.a
 ask (decide (x.c.b<=1)) 2
 ask (x.s.T.az x.c.r) 4
 if x.c.s=0 then ask (decide ((b0 x.s.O x.s.T x.c.r).kind=1)&&decide ((b0 x.s.O x.s.T x.c.r).aa=x.aa)) 5
 else do
  cC (ch x.s.K x.c.s).2
  ask (decide ((ch x.s.K x.c.s).1.to=x.aa)&&decide ((ch x.s.K x.c.s).1.aN=x.c.r)) 5
 let k:=kN x.s.K ⟨x.c.r,x.aa % 256,x.c.a % 256,decide (x.c.b=1),x.c.s⟩
 cC k.2.2
 return (x.k k.1,{bO with w:=k.2.1})
def Bm(x:aB):R (aB×bB):=do
 cC (ch x.s.K x.c.s).2
 ask (decide ((ch x.s.K x.c.s).1.to=x.aa)) 5
 return (x.k (l8 x.s.K x.c.s).1,bO)
def qG(x:aB):R (aB×bB):=do
 mb x x.c.a
 ask (decide (x.c.b<=1)) 2
 let share:=decide (x.c.r≠0)&&decide (x.c.b=1)
 let y<-if share then do
     yP x x.c.r
     pure (if(yS x x.c.r x.c.a).2=0 then x.o (yS x x.c.r x.c.a).1 else x)
  else if x.c.r≠0 then do
   fK x x.c.r 2
   let y<-wy x x.c.r
   let o:=wo y.s.O y.s.T x.c.r
   cC o.2
   pure (y.o o.1)
  else pure x
 let b:=nP (y.s.cY x.c.a) ⟨x.aa % 256,x.c.v,x.c.r,share⟩
 cC b.2
 return (y.bx x.c.a b.1,bO)
def sj(x:aB):R (aB×bB):=do
 let b:=l9 (x.s.cY x.aa)
 cC b.2.2
 let y:=x.bx x.aa b.1
 let m:=b.2.1
 let y<-if m.aN≠0/\m.share=false then mX y m.aN x.aa else pure y
 return (y,{bO with v:=m.word,w:=m.aN})
def Bn(x:aB):R (aB×bB):=do
 let b:=uE (x.s.cY x.aa)
 cC b.2
 return (x.bx x.aa b.1,bO)
def sk(x:aB):R (aB×bB):=do
 fK x x.c.r 1
 if x.c.s≠0 then fK x x.c.s 0
 let t:=mW x.s.T x.c.r (min x.c.a 8) x.c.s (decide ((b0 x.s.O x.s.T x.c.s).kind=3))
 cC t.2
 return (x.t t.1,bO)
def Bo(x:aB):R (aB×bB):=do
 fK x x.c.r 0
 let t:=si x.s.T x.c.r (min x.c.a 8)
 cC t.2
 return (x,{bO with w:=t.1})
def oY(x:aB)(aa:Nat):R aB:=do
 let l:=fS (x.s.cY aa)
 let y:=x.bx aa yM
 let y:={y with s:={y.s with alive:=aq y.s.alive aa false}}
 let y<-l.foldlM (λy m=>if m.aN=0\/m.share=true then pure y else if y.s.alive m.fr then mX y m.aN m.fr else pure (gy y m.aN)) y
 let y:=(wq y.s.K aa).foldl (λy h=>y.k (l8 y.s.K h).1) y
 let y:=((bn y.s.T.b).filter λh=>decide (root y.s.T h=h)&&decide ((b0 y.s.O y.s.T h).kind=1)&&decide ((b0 y.s.O y.s.T h).aa=aa)).foldl gy y
 ((bn y.s.T.b).filter λh=>decide (root y.s.T h=h)&&decide ((b0 y.s.O y.s.T h).kind=3)&& (decide (aa<8)&&nO (b0 y.s.O y.s.T h).hold aa)).foldlM (λy h=>kQ y h aa) y
def Bp(x:aB):R (aB×bB):=do
 mb x x.c.a
 return (<-oY x x.c.a,bO)
def uH(x:aB):R (aB×bB):=do
 ask (decide (x.c.a<8)&& !x.s.born (x.c.a % 8)) 2
 return ({x with s:={x.s with alive:=aq x.s.alive x.c.a true,born:=aq x.s.born x.c.a true}},bO)
def lu(x:aB):R (aB×bB):=match x.c.op with
 |1=>wz x|2=>mc x|3=>uF x 0|4=>uF x 1|5=>yN x|6=>yO x|7=>Bi x|8=>Bj x|9=>Bk x|10=>yT x
 |11=>Bl x|12=>uG x|13=>Bm x|14=>qG x|15=>sj x|16=>sj x|17=>Bn x|18=>sk x|19=>Bo x
 |20=>do return (<-oY x x.aa,bO)
 |21=>Bp x|22=>uH x
 |_=>.error 2
def jh(x:aB):R (aB×bB):=do
 ask (decide (x.aa<8)&&x.s.alive x.aa) 12
 lu x
def db(s:bF)(aa:Nat)(c:cz)(run:aF):bF×bB×List aF:=match jh ⟨s,aa,c,run,0,false,[]⟩with
 |.ok (x,r)=>if r.e=0 then(x.s,r,x.back)else(s,r,[])
 |.error e=>(s,{bO with e:=e},[])
def eU(s:bF)(aa:Nat)(c:cz):Nat:=if c.op≠2 then 0 else match jh ⟨s,aa,c,(0,0),0,true,[]⟩with
 |.ok (x,_)=>x.ma
 |.error _=>0
def gz(s:bF)(c:cz):lN×Nat:=
 if(aL s.T c.r).2≠0 then([],(aL s.T c.r).2)
 else if(c.op≠3/\c.op≠4)\/c.b<1\/8<c.b then([],2)
 else if(aL s.T c.r).1.len<c.a+c.b then([],9)
 else((List.range c.b).map λi=>(j8 (aL s.T c.r).1.runs 0 (c.a+i)).getD 0,0)
def nR(s:bF)(aa:Nat)(c:cz):Nat:=if 0<eU s aa c then 0 else(db s aa c (0,0)).2.1.e
def wA(s:bF)(aa:Nat)(c:cz):Bool:=decide (c.op=15)&&decide (nR s aa c=10)
def nS(s:bF)(h:Nat):lN:=if s.T.az h then[h]else[]
def sq(s:bF)(c:cz):lN:=
 if[1,2,3,4,5,10,12,18,19].contains c.op then nS s c.r
 else if[6,7,9,11].contains c.op then under s.T c.r
 else if c.op=8 then
  (if under s.T c.r=[]\/s.T.az c.s=false then[]else if(under s.T c.r).contains c.s then under s.T c.r else under s.T c.r++[c.s])
 else if c.op=13 then(if(ch s.K c.s).2=0 then nS s (ch s.K c.s).1.aN else[])
 else if c.op=14 then(if c.b=1 then nS s c.r else under s.T c.r)
 else[]
structure eV where
 has:Nat
 n:Nat
 wait:Nat->Nat
abbrev Marks:=Nat->eV
def wB:eV:=⟨0,0,λ_=>0⟩
def qH(l:eV)(aa:Nat):oN:=(List.range l.n).find? λi=>decide (l.wait i=aa % 256)
def RF(l:eV)(i:Nat):eV:={l with n:=l.n-1,wait:=aq (λj=>if i<=j/\j<7 then l.wait (j+1)else l.wait j) (l.n-1) 0}
def sr(l:eV)(aa:Nat):eV:=match qH l aa with
 |none=>l
 |some i=>RF l i
def gA(a aa:Nat):Bool:=decide (a<32)&&decide (aa<8)
def ia(m:Marks)(a aa:Nat):Marks×Bool:=
 if gA a aa=false then(m,false)
 else if(m a).has=aa+1 then(m,true)
 else if(m a).has=0/\ ((m a).n=0\/qH (m a) aa=some 0)then(aq m a {sr (m a) aa with has:=aa+1},true)
 else if qH (m a) aa=none then(aq m a {m a with n:=(m a).n+1,wait:=aq (m a).wait (m a).n aa},false)
 else(m,false)
def yY(l:eV)(aa:Nat):eV:=if l.has=aa+1 then{l with has:=0}else l
def me(m:Marks)(aa:Nat):Marks:=λi=>if gA i aa then sr (yY (m i) aa) aa else m i
structure cQ where
 n:Nat
 free:List aF
 bytes:Nat->Nat->Nat
 cI:Bool
def qI(l:List aF)(x:aF):Option (List aF):=
 if kK x=false then none
 else match l.findIdx? λy=>decide (x=y)|| (decide (y.1<=x.1)&&decide (x.1+x.2<=y.1+y.2))with
  |none=>none
  |some i=>
   let y:=l.getD i (0,0)
   some (l.take i++((if y.1<x.1 then[(y.1,x.1-y.1)]else[])++(if x.1+x.2<y.1+y.2 then[(x.1+x.2,y.1+y.2- (x.1+x.2))]else[]))++l.drop (i+1))
def RG(l:List aF)(k:Nat):Bool:=decide (k<64)&&l.any λy=>decide ((k,1)=y)|| (decide (y.1<=k)&&decide (k+1<=y.1+y.2))
def ji(p:cQ)(n:Nat):cQ×Nat×Nat:=
 if n<1 then(p,0,2)
 else match p.free.find? λx=>decide (1<=n)&&decide (n<=x.2)with
  |none=>(p,0,6)
  |some x=>(match qI p.free (x.1,n)with
   |some l=>{p with free:=l,cI:=false}
   |none=>p,x.1,0)
def gj(p:cQ)(a:Nat):Nat:=if p.n<=a then 2 else if RG p.free a then 12 else 0
def qJ(p:cQ)(a:Nat):cQ:=if gj p a=0 then{p with bytes:=aq p.bytes a λ_=>0}else p
def Ka(p:cQ)(a:Nat):cQ:=match iw p.free (a,1)with
 |some l=>{p with free:=l,cI:=false}
 |none=>p
def qK(p:cQ)(a:Nat):cQ:=if gj p a=0 then Ka p a else p
def qL(p:cQ)(at':Nat):Nat:=if gj p (at'/32)=0 then p.bytes (at'/32) (at' % 32)else 0
def ss(p:cQ)(at' b:Nat):cQ:=if gj p (at'/32)=0 then{p with bytes:=aq p.bytes (at'/32) (aq (p.bytes (at'/32)) (at' % 32) b)}else p
structure Core where
 S:bF
 P:cQ
 M:Marks
 Q:lN
structure Call where
 aa:Nat
 c:cz
 checked:Bool
 aW:lN
 run:aF
 eW:Nat
def iO(r:aF):lN:=(List.range r.2).map λi=>r.1+i
def cO(x:Core)(r:aF):Core:={x with Q:=x.Q++iO r}
def wC(x:Core)(c:Call):Core:={cO x c.run with M:=me x.M c.aa}
structure bM where
 x:Core
 c:Call
 r:bB
 ended:Bool
def mY(s:bM)(r:bB):bM:={s with r:=r,ended:=true,x:=wC s.x s.c}
def j9(s:bM):bM×Bool:=
 if s.c.checked then(s,false)
 else if wA s.x.S s.c.aa s.c.c then(s,true)
 else if nR s.x.S s.c.aa s.c.c≠0 then(mY s {bO with e:=nR s.x.S s.c.aa s.c.c},true)
 else({s with c:={s.c with checked:=true,aW:=sq s.x.S s.c.c}},true)
def mf(s:bM):bM×Bool:=match s.c.aW with
 | []=>(s,false)
 |h::a=>
  let m:=ia s.x.M (aO h) s.c.aa
  ({s with x:={s.x with M:=m.1},c:=if m.2 then{s.c with aW:=a}else s.c},true)
def mg(s:bM):bM×Bool:=
 let n:=eU s.x.S s.c.aa s.c.c
 if n=0\/0<s.c.run.2 then(s,false)
 else
  let p:=ji s.x.P n
  if p.2.2≠0 then(mY {s with x:={s.x with P:=p.1}} {bO with e:=p.2.2},true)
  else({s with x:={s.x with P:=p.1},c:={s.c with run:=(p.2.1,n)}},true)
def mh(s:bM):bM×Bool:=
 if s.c.run.2<=s.c.eW then(s,false)
 else({s with x:={s.x with P:=qJ s.x.P (s.c.run.1+s.c.eW)},c:={s.c with eW:=s.c.eW+1}},true)
def byteOf(v i:Nat):Nat:=v/2^(8*i) % 256
def uI(s:bM):bM:=
 let s:=if 0<s.c.run.2/\eU s.x.S s.c.aa s.c.c≠s.c.run.2 then{s with x:=cO s.x s.c.run,c:={s.c with run:=(0,0)}}else s
 let places:=(gz s.x.S s.c.c).1
 let d:=db s.x.S s.c.aa s.c.c s.c.run
 if d.2.1.e≠0 then mY s d.2.1
 else
  let P:=if s.c.c.op=4 then(List.range places.length).foldl (λP i=>ss P (places.getD i 0) (byteOf s.c.c.v i)) s.x.P else s.x.P
  let v:=if s.c.c.op=3 then(List.range places.length).foldl (λv i=>v|||qL s.x.P (places.getD i 0)*2^(8*i)) d.2.1.v else d.2.1.v
  let x:=d.2.2.foldl cO {s.x with S:=d.1,P:=P}
  mY {s with x:=x,c:={s.c with run:=(0,0)}} {d.2.1 with v:=v}
def fT(x:Core)(c:Call):bM:=
 let d:bM:=⟨x,c,bO,false⟩
 let s1:=j9 d
 if s1.2 then s1.1 else
 let s2:=mf s1.1
 if s2.2 then s2.1 else
 let b:=mg s2.1
 if b.2 then b.1 else
 let a:=mh b.1
 if a.2 then a.1 else uI a.1
def iz(x:Core):Core×Bool:=match x.Q with
 | []=>(x,false)
 |q::a=>({x with P:=qK x.P q,Q:=a},true)
structure dH where
 op:Nat
 a:Nat
 b:Nat
 c:Nat
 n:Nat
 deriving DecidableEq,Inhabited
def qM(x:dH)(n:Nat):Bool:=
 (decide (x.op<=6)|| (decide (16<x.op)&&decide (x.op<=38)))&&decide (x.a<8/\x.b<8/\x.c<8)&& (!(decide (x.op=5)||decide (x.op=6))||decide (x.n<n))
def oZ(l:List dH):Bool:=decide (l.length<=64)&&l.all λx=>qM x l.length
def qN:lB->List dH
 |a::b::c::d::e::f::r=>⟨a.toNat,b.toNat,c.toNat,d.toNat,e.toNat+256*f.toNat⟩::qN r
 |_=>[]
def decode(s:lB):Option (List dH):=
 if s.length % 6≠0\/384<s.length then none else if oZ (qN s)then some (qN s)else none
structure Task where
 code:List dH
 next:Nat
 aW:Nat->Nat
def lv:Nat:=18446744073709551616
def qO(t:Task):Option dH:=t.code[t.next]?
def mi:cz:=⟨0,0,0,0,0,0⟩
def iA(t:Task):cz×Bool:=match qO t with
 |none=>({mi with op:=20},true)
 |some x=>
  if x.op=0 then({mi with op:=20},true)
  else if x.op<=16 then(mi,false)
  else(⟨x.op-16,t.aW (x.b % 8) % 4294967296,t.aW (x.c % 8) % 4294967296,t.aW 6 % 4294967296,x.n,t.aW 5⟩,true)
def qP(t:Task):Task:=
 if(iA t).2 then t
 else match qO t with
  |none=>t
  |some x=>
   let b:=t.aW (x.b % 8)
   let c:=t.aW (x.c % 8)
   let put:=λv=>{t with aW:=aq t.aW (x.a % 8) v,next:=t.next+1}
   if x.op=1 then put x.n
   else if x.op=2 then put ((b+c) % lv)
   else if x.op=3 then put ((b+lv-c) % lv)
   else if x.op=4 then put (b*2^x.n % lv)
   else if x.op=5 then{t with next:=x.n}
   else if x.op=6 then{t with next:=if t.aW (x.a % 8)≠0 then x.n else t.next+1}
   else{t with next:=t.next+1}
def su(t:Task)(r:bB):Task:=match qO t with
 |none=>t
 |some x=>if(iA t).2 then{t with aW:=aq (aq (aq t.aW (x.a % 8) r.v) 4 r.w) 7 r.e,next:=t.next+1}else t
structure Runner where
 t:Task
 c:Call
 busy:Bool
 fr:Nat
structure Event where
 aa:Nat
 c:cz
 run:aF
 r:bB
 fr:Nat
 to:Nat
structure aV where
 ar:Core
 ay:Nat->Runner
 now:Nat
 ca:List Event
def fu:Call:=⟨0,mi,false,[],(0,0),0⟩
def o5:Task:=⟨[],0,λ_=>0⟩
def Bq:Runner:=⟨o5,fu,false,0⟩
def fL(m:aV)(t:Nat):Bool:=decide (t<8)&&m.ar.S.alive t
def jy(m:aV)(i:Nat):aV:=
 if(m.ay i).busy=true/\fL m i=false then{m with ar:=wC m.ar (m.ay i).c,ay:=aq m.ay i {m.ay i with busy:=false,c:=fu}}else m
def jz(m:aV):aV:=(List.range 8).foldl jy m
def handed(b:aF)(a c:Nat):aF:=if b.2<=c-a/\0<b.2 then(0,0)else b
def Kb(m:aV)(t:Nat)(c:Call)(run:aF)(r:bB):aV:=
 {m with ca:=m.ca++[⟨t,c.c,run,r,(m.ay t).fr,m.now⟩],ay:=aq m.ay t {m.ay t with t:=su (m.ay t).t r,busy:=false,c:=fu}}
def o6(m:aV)(t:Nat):aV:=
 let c:=(m.ay t).c
 let s:=fT m.ar c
 let m':={m with ar:=s.x,ay:=aq m.ay t {m.ay t with c:=s.c}}
 if s.ended then
  let run:=if s.r.e≠0\/s.c.c.op≠2 then(0,0)else c.run
  Kb m' t s.c (handed run m.ar.Q.length s.x.Q.length) s.r
 else m'
def qQ(m:aV)(t:Nat):aV:=
 let x:=m.ay t
 if x.busy then o6 m t
 else if(iA x.t).2 then o6 {m with ay:=aq m.ay t {x with c:={fu with aa:=t,c:=(iA x.t).1},busy:=true,fr:=m.now}} t
 else{m with ay:=aq m.ay t {x with t:=qP x.t}}
def yZ(m:aV)(t:Nat):aV:=
 let c:={mi with op:=20}
 let d:=db m.ar.S t c (0,0)
 {m with ar:={d.2.2.foldl cO m.ar with S:=d.1},ca:=m.ca++[⟨t,c,(0,0),d.2.1,m.now,m.now⟩]}
def eX(m:aV)(b:Nat):aV×Nat:=
 let t:=b % 8
 if(8<b/\b<16)\/24<=b then(m,2)
 else if b=8 then(if(iz m.ar).2 then(jz {m with ar:=(iz m.ar).1,now:=m.now+1},0)else(m,10))
 else if fL m t=false then(m,12)
 else if 16<=b then(jz (yZ {m with now:=m.now+1} t),0)
 else(jz (qQ {m with now:=m.now+1} t),0)
def lC(m:aV)(t:Nat):Option Call:=if t<8/\ (m.ay t).busy=true then some (m.ay t).c else none
def iP(m:aV)(t:Nat):Bool:=match lC m t with
 |none=>false
 |some c=>fL m t&& !c.checked&&wA m.ar.S t c.c
def jA(m:aV)(t:Nat):Bool:=decide (t<8)&&fL m t&& !iP m t
structure Kc where
 aU:Int
 aC:List lB
 aE:lN
def kR(b:Nat):Bool:=decide (b<8)||decide (b=8)|| (decide (16<=b)&&decide (b<24))
def mZ(s:Kc):Bool:=
 decide (1<=s.aU/\s.aU<=64/\1<=s.aC.length/\s.aC.length<=8/\s.aE.length<=4000)&&s.aC.all (λp=>(decode p).isSome)&&s.aE.all kR
def nT:bF:=⟨⟨λ_=>⟨0,false,false⟩,λ_=>dG⟩,λ_=>⟨0,wm⟩,⟨λ_=>⟨0,false,false⟩,λ_=>J7⟩,λ_=>⟨λ_=>yL,0,0,false⟩,λi=>decide (i=0),λi=>decide (i=0)⟩
def Kd(s:Kc):aV:=⟨⟨nT,⟨s.aU.toNat,[(0,s.aU.toNat)],λ_ _=>0,true⟩,λ_=>wB,[]⟩,λi=>{Bq with t:={o5 with code:=((s.aC[i]?).bind decode).getD []}},0,[]⟩
def wD(s:Kc):aV×lN:=s.aE.foldl (λp b=>((eX p.1 b).1,p.2++[(eX p.1 b).2])) (Kd s,[])
def kL:lN:=[56,19,193,190,188,182,167,166]
noncomputable def X0:Ctx:={dy:=λg=>(Ba.lookup g).map λ_=>[.kZ g],code:=λf=>if kL.contains f then none else yx.lookup f,bU:=λ_=>none,fG:=λg=>(Ba.lookup g).map rI}
def apO(h:Nat)(c:h<4294967296):dh .and (.int .u32 h) (.int .u32 255)=some (.int .u32 ((h % 256:Nat):Int)):=by
 rw[CP];have e: (BitVec.ofInt IntKind.u32.bits (h:Int)&&&BitVec.ofInt IntKind.u32.bits 255).toNat=h % 256:=by
  show(BitVec.ofInt 32 (h:Int)&&&BitVec.ofInt 32 255).toNat=h % 256;rw[BitVec.toNat_and];have b: (BitVec.ofInt 32 (h:Int)).toNat=h:=by grind
  have a: (BitVec.ofInt 32 255).toNat=2^8-1:=by rfl
  rw[b,a,ayG]
 rw[e,wrap_u32 (by omega) (by omega)]
theorem p8: (2:Int)^min 8 IntKind.u32.bits=256:=by rfl
def afq: ((a:Nat):Int).fdiv 256=((a/256:Nat):Int):=by grind
def apP(s:Slot)(g:Nat)(a c:Bool):dA (.agg [.int,.bool,.bool]) (.agg (iI s)) (.agg [.int .u32 g,.bool a,.bool c])=some (decide (s=⟨g,a,c⟩)):=by
 obtain⟨b,a',d⟩:=s;simp only[dA,iI,aep,alQ,Nz,abU,abV,aeE,and_self,Slot.mk.injEq,Int.natCast_inj]
 grind
def iB(h:Nat):AV:=.av [.int .i64 ((eF h).getD 0:Nat),.bool (eF h).isSome]
def jB(h:Nat)(b:h<4294967296)(H:List ae)(lo:oN):D X0 (.fn (.func 82) [] []) [.int .u32 h] ⟨H,lo⟩=some (.ret (iB h) ⟨H,lo⟩):=by
 refine aH OX λN c=>?_
 simp(disch:=omega) only[↓R1,Zz,simprocAttr,OX,apO h b];refine vz 19 (.bool (!(eF h).isSome)) [4] rfl rfl ?_ λd=>?_
 ·simp only[R4,↓R1,Zz,simprocAttr,p8,afq]
  (repeat' (first|apply And.intro|intro _))
  all_goals(refine afW AV.bool ?_;unfold eF;split<;>simp<;>omega)
 cases a:eF h with
 |none=>simp(disch:=omega) only[F1,↓R1,Zz,simprocAttr,iB,a]
 |some i=>
  have: (h % 256:Nat)- (1:Int)=(i:Nat):=by
   unfold eF at a;split at a<;>cases a;omega
  simp(disch:=omega) only[F1,↓R1,Zz,simprocAttr,iB,a,this]
def afr(i g:Nat)(a:i<32)(b:g<=8388607)(H:List ae)(lo:oN):D X0 (.fn (.func 117) [] []) [.int .i64 i,.int .u32 g] ⟨H,lo⟩=some (.ret (.int .u32 (c7 i g)) ⟨H,lo⟩):=by
 refine aH Pa λN c=>?_
 simp(disch:=omega) only[F1,↓R1,Zz,simprocAttr,Pa,p8];exact de (afW _ (by rfl)) rfl
def ew(b:cM)(h:Nat)(e:h<4294967296)(H:List ae)(lo:oN):D X0 (.fn (.func 50) [] []) [.agg (bY b),.int .u32 h] ⟨H,lo⟩=some (.ret (.bool (az b h)) ⟨H,lo⟩):=by
 refine aH OI λN f=>?_
 simp only[↓R1,Zz,simprocAttr,OI,f,jB h e,iB];cases a:eF h with
 |none=>simp(disch:=omega) only[F1,↓R1,Zz,simprocAttr,az,a]
 |some i=>
  have d:=aeK a;have c: (i:Int)<32:=by omega
  simp(disch:=omega) only[F1,↓anZ,↓R1,Zz,simprocAttr,az,a,aeF d,c,p8,afq,apP]
def nU{p:Nat->Prop}{k:Nat}(h: ∀j,j<k->p j)(a:p k): ∀j,j<k+1->p j:=by grind
def apQ{p:Nat->Bool}{k:Nat}(b:k<n)(a:p k=true)(h: ∀j,j<k->p j=false): (List.range n).find? p=some k:=by simp_all
def apR{p:Nat->Bool}(h: ∀j,j<n->p j=false): (List.range n).find? p=none:=by grind
def sv(b:cM):AV:=.av [.agg (bY (oU b).1),.int .u32 (oU b).2.1,.bool (oU b).2.2]
theorem Ke:vH.length=96:=by rfl
theorem Kf:List.drop 96 vH=[]:=by rfl
def Kg:type_of% Ke/\type_of% Kf:=by decide
def afs(b:cM)(r:gO b)(H:List ae)(lo:oN):D X0 (.fn (.func 302) [] []) [.agg (bY b)] ⟨H,lo⟩=some (.ret (sv b) ⟨H,lo⟩):=by
 refine aH Qy λN s=>?_
 simp only[go_sem,simprocAttr,Qy,s,↓Rb];refine ek 32 (λk e H'=> ∃J,H'=cat H (.box (bY b) none:: .box vH none::J)/\e 1= .ptr N 0/\e 2= .ptr (N+1) 0/\e 8= .agg (bY b)/\e 9= .int .i64 k/\ ∀j,j<k->mO b j=false) 0 (by omega) ?_ ?_
 ·simp only[go_sem,simprocAttr];exact⟨[],fh.symm,by simp⟩
 rintro k t e H' ⟨J,rfl,m,l,p,o,f⟩ n q;have d: ∀a b,(cat H (a::b::J)).length=n:=λ_ _=>by rw[<-q,JZ,JZ];rfl
 simp(disch:=omega) only[cg,F1,go_sem,simprocAttr,ad7,m,l,p,o];refine⟨λh=>?_,λh=>?_⟩
 ·have c:k<32:=by omega
  cases g: (b k).eJ
  ·cases i: (b k).ret
   ·simp(disch:=first|omega|apply d) only[F1,go_sem,simprocAttr,h,d,Rc c,iI,g,i,m,l,aeI c,afr k (b k).gen c (r k).1,Kg];have e:mP b=some k:=apQ c (by simp[mO,g,i]) f;exact⟨by omega,by simp[sv,oU,e,i]⟩
   ·simp(disch:=first|omega|apply d) only[go_sem,simprocAttr,h,d,Rc c,iI,g,i,m,l,p,o];exact⟨c,_,Q9,nU f (by simp[mO,i])⟩
  ·simp(disch:=first|omega|apply d) only[go_sem,simprocAttr,h,d,Rc c,iI,g,m,l,p,o];exact⟨c,_,Q9,nU f (by simp[mO,g])⟩
 ·simp(disch:=first|omega|apply d) only[go_sem,simprocAttr,Kg];have e:mP b=none:=apR λj u=>f j (by omega)
  simp[sv,oU,e]
def atR(b:cM)(k:Nat):AV:=.av [.int .u32 (if k<32/\ (b k).eJ=true then c7 k (b k).gen else 0:Nat),.bool (decide (k<32)&& (b k).eJ)]
def apS(b:cM)(h:gO b)(k:Nat)(H:List ae)(lo:oN):D X0 (.fn (.func 92) [] []) [.agg (bY b),.int .i64 k] ⟨H,lo⟩=some (.ret (atR b k) ⟨H,lo⟩):=by
 refine aH D8 λN d=>?_
 have e: ¬(k:Int)<0:=by omega
 by_cases a:k<32
 ·have c: ¬(k:Int)>=32:=by omega
  have g: (k:Int)<32:=by omega
  cases f: (b k).eJ
  ·simp only[F1,go_sem,simprocAttr,D8,d,e,c,g,aeH a,f,atR,a]
  ·simp only[F1,go_sem,simprocAttr,D8,d,e,c,g,aeH a,aeG a,f,afr k (b k).gen a (h k).1,atR,a]
 ·have c: (k:Int)>=32:=by omega
  simp only[F1,go_sem,simprocAttr,D8,d,e,c,atR,a,false_and,afH]
def y0(b:cM)(h:Nat):AV:=.av [.agg (bY (ep b h).1),.bool (ep b h).2]
def aft(b:cM)(l:gO b)(h:Nat)(f:h<4294967296)(H:List ae)(lo:oN):D X0 (.fn (.func 330) [] []) [.agg (bY b),.int .u32 h] ⟨H,lo⟩=some (.ret (y0 b h) ⟨H,lo⟩):=by
 refine aH JY λN g=>?_
 cases c:az b h with
 |false=>
  simp only[F1,go_sem,simprocAttr,JY,g,ew b h f,c,Kg,y0,ep]
 |true=>
  obtain⟨e1,m,e3⟩:=Bf c;have d:=yH h;have e: (aO h:Int)<32:=by omega
  generalize a:aO h=i at*;have k:=(l i).1;simp(disch:=omega) only[cg,F1,go_sem,simprocAttr,JY,g,ew b h f,c,Kg,jB h f,iB,e1,e,aeI d,apn d,apm d,aeG d,r9,cu];refine⟨by omega,λj=>⟨by omega,?_⟩,λj=>⟨by omega,?_⟩⟩
  ·simp[y0,ep,c,a,qD,show(b i).gen=8388607 by omega]
  ·simp[y0,ep,c,a,qD,show¬(b i).gen=8388607 by omega]
theorem Br:ku.length=480:=by rfl
theorem apT:List.drop 480 ku=[]:=by rfl
def cR:type_of% Br/\type_of% apT/\type_of% Ke/\type_of% Kf:=by decide
def y5(n:Nat)(H:List ae)(lo:oN):D X0 (.fn (.func 322) [] []) [.int .i64 n] ⟨H,lo⟩=some (.ret (.bool (decide (n<=64))) ⟨H,lo⟩):=by
 refine aH QL λN b=>?_
 have a: (n:Int)>=0:=by omega
 simp(disch:=omega) only[F1,go_sem,simprocAttr,QL,a];exact de (afW AV.bool (amm.2 (by grind))) rfl
theorem afu:bR dG=[.int .u32 0,.int .i64 0,.an,.int .i64 0,.int .u32 0,.int .u32 0,.int .u32 0,.int .u32 0,.int .u32 0,.int .u32 0,.int .u32 0,.int .u32 0]:=rfl
def afv(t:aw)(j:bL t)(h:Nat)(d:h<4294967296)(H:List ae)(lo:oN):D X0 (.fn (.func 83) [] []) [.agg (aK t),.int .u32 h] ⟨H,lo⟩=some (.ret (.int .u32 (j6 t (aO h))) ⟨H,lo⟩):=by
 refine aH I4 λN g=>?_
 have c:=yH h;have a: (aO h:Int)<32:=by omega
 have e:iB h= .av [.int .i64 (aO h:Nat),.bool (eF h).isSome]:=rfl;have hu:=(j.r (aO h)).up;generalize aO h=i at*;have f:az t.b (t.r i).up=t.az (t.r i).up:=rfl;cases b:t.az (t.r i).up
 ·simp only[F1,go_sem,simprocAttr,I4,g,jB h d,e,a,Rk c,ew t.b (t.r i).up hu,f,b,j6,aek]
 ·simp only[F1,go_sem,simprocAttr,I4,g,jB h d,e,a,Rk c,ew t.b (t.r i).up hu,f,b,j6]
def m0(t:aw)(h:Nat):AV:=.av [.agg (bR (aL t h).1),.int .i64 (aL t h).2]
def uJ(t:aw)(j:bL t)(h:Nat)(c:h<4294967296)(H:List ae)(lo:oN):D X0 (.fn (.func 44) [] []) [.agg (aK t),.int .u32 h] ⟨H,lo⟩=some (.ret (m0 t h) ⟨H,lo⟩):=by
 refine aH IY λN i=>?_
 have k:=yH h;have f: (aO h:Int)<32:=by omega
 have e:iB h= .av [.int .i64 (aO h:Nat),.bool (eF h).isSome]:=rfl;have d:=afv t j h c;have b:aL t h=if t.az h then({t.r (aO h)with up:=j6 t (aO h)},0)else(dG,4):=rfl
 unfold m0;rw[b];have g:az t.b h=t.az h:=rfl;cases a:t.az h
 ·simp only[F1,go_sem,simprocAttr,IY,i,ew t.b h c,g,a,afu,aek]
 ·simp only[F1,go_sem,simprocAttr,IY,i,jB h c,e,f,apt k,ew t.b h c,g,a,d]
def y6(t:aw)(a n:Nat):AV:=.av [.agg (aK (ln t a n).1),.int .u32 (ln t a n).2.1,.int .i64 (ln t a n).2.2]
theorem afw: [AV.int .u32 0,.int .i64 n,.an,.int .i64 0,.int .u32 0,.int .u32 0,.int .u32 0,.int .u32 0,.int .u32 0,.int .u32 0,.int .u32 0,.int .u32 0]=bR {dG with up:=0,du:=n}:=rfl
theorem apU{u:Nat}: [AV.int .u32 (u:Nat),.int .i64 n,.an,.int .i64 0,.int .u32 0,.int .u32 0,.int .u32 0,.int .u32 0,.int .u32 0,.int .u32 0,.int .u32 0,.int .u32 0]=bR {dG with up:=u,du:=n}:=rfl
def apV(t:aw)(o:bL t)(a n:Nat)(m:a<4294967296)(H:List ae)(lo:oN):D X0 (.fn (.func 284) [] []) [.agg (aK t),.int .u32 a,.int .i64 n] ⟨H,lo⟩=some (.ret (y6 t a n) ⟨H,lo⟩):=by
 refine aH uC λN j=>?_
 have p:az t.b a=t.az a:=rfl;have d:=afs t.b o.b;unfold y6 ln;by_cases e:a≠0/\t.az a=false
 ·rw[acE e];have b: ¬(a:Int)=0:=by omega
  simp only[F1,go_sem,simprocAttr,uC,j,b,ew t.b a m,p,e.2,cR]
 ·rw[acz e];have c:a=0\/ (¬(a:Int)=0/\t.az a=true):=by
   by_cases s:a=0
   ·exact .inl s
   ·refine .inr ⟨by omega,?_⟩;cases u:t.az a
    ·exact absurd ⟨s,u⟩ e
    ·rfl
  by_cases r:64<n
  ·rw[acE r];have h:decide (n<=64)=false:=by simp;omega
   rcases c with rfl| ⟨b,g⟩
   ·simp only[F1,go_sem,simprocAttr,uC,j,y5,h,cR]
   ·simp only[F1,go_sem,simprocAttr,uC,j,b,ew t.b a m,p,g,y5,h,cR]
  ·rw[acz r];have h:decide (n<=64)=true:=by simp;omega
   cases l:mP t.b with
   |none=>
    rcases c with rfl| ⟨b,g⟩
    ·simp only[F1,go_sem,simprocAttr,uC,j,y5,h,cR,d,sv,oU,l]
    ·simp only[F1,go_sem,simprocAttr,uC,j,b,ew t.b a m,p,g,y5,h,cR,d,sv,oU,l]
   |some i=>
    obtain⟨f,x,w,v⟩:=sg l;have k: (i:Int)<32:=by omega
    have q:eF (c7 i (t.b i).gen)=some i:=Rf f (o.b i).1;rcases c with rfl| ⟨b,g⟩
    ·simp only[F1,go_sem,simprocAttr,uC,j,y5,h,cR,d,sv,oU,l,k,jB (c7 i (t.b i).gen) (EJ f (o.b i).1),iB,q,afw,J4 f];omega
    ·simp only[F1,go_sem,simprocAttr,uC,j,b,ew t.b a m,p,g,y5,h,cR,d,sv,oU,l,k,jB (c7 i (t.b i).gen) (EJ f (o.b i).1),iB,q,apU,J4 f];omega
def RH(t:aw)(h:Nat):AV:=.av [.agg (aK (kM t h).1),.int .i64 (kM t h).2]
def apW(t:aw)(i:bL t)(h:Nat)(f:h<4294967296)(H:List ae)(lo:oN):D X0 (.fn (.func 324) [] []) [.agg (aK t),.int .u32 h] ⟨H,lo⟩=some (.ret (RH t h) ⟨H,lo⟩):=by
 refine aH JV λN g=>?_
 have j:=yH h;have a: (aO h:Int)<32:=by omega
 have e:iB h= .av [.int .i64 (aO h:Nat),.bool (eF h).isSome]:=rfl;have d:=aft t.b i.b h f;have k:az t.b h=t.az h:=rfl;unfold RH kM;cases b:t.az h
 ·have c:ep t.b h=(t.b,false):=by unfold ep;grind
  simp only[F1,go_sem,simprocAttr,JV,g,d,y0,c,cR,aek]
 ·have c: (ep t.b h).2=true:=by unfold ep;rw[k,b];rfl
  simp only[F1,go_sem,simprocAttr,JV,g,d,y0,c,cR,jB h f,e,a,<-afu,J4 j];omega
def fE[Inhabited α]{k:Nat}(h:k<l.length):l.getD k default∈l:=by grind
def ka{α:Type}(p:α->Bool)(l:List α):Int:=match l.findIdx? p with
 |some i=>i
 |none=> -1
def y7(p:α->Bool)(l:List α):decide (0<=ka p l)=l.any p:=by
 unfold ka
 grind
def y8[Inhabited α]{k:Nat}(b:k<l.length)(h: ∀j,j<k->p (l.getD j default)=false)(a:p (l.getD k default)=true):ka p l=k:=by
 have:l.findIdx? p=some k:=by grind [List.findIdx?_eq_some_iff_getElem]
 unfold ka;rw[this]
def y9[Inhabited α](h: ∀j,j<l.length->p (l.getD j default)=false):ka p l= -1:=by
 have:l.findIdx? p=none:=by grind [List.findIdx?_eq_none_iff,List.getElem_of_mem]
 unfold ka;rw[this]
def hC(h:Nat):lA:=[.int .u32 h]
theorem pH:Den.part false 1 (hC h) 0=some (.int .u32 h):=rfl
def bC(b:UInt8):lA:=[.int .u8 b.toNat]
theorem pB{b:UInt8}:Den.part false 1 (bC b) 0=some (.int .u8 b.toNat):=rfl
def sC(s:lB):lA:=[S s]
theorem pS{s:lB}:Den.part false 1 (sC s) 0=some (S s):=rfl
structure Instr where
 op:Nat
 a:Nat
 b:Nat
 c:Nat
 n:Nat
 deriving DecidableEq,Inhabited
def afx(v fv:AV)(l:List aF)(b:Rv v 2 (l.map aA))(r:l.length<2^40)(p:aF->Bool)(H:List ae)(lo:oN)
  (o: ∀x∈l,D X0 fv [.agg (aA x)] ⟨H,none⟩=some (.ret (.bool (p x)) ⟨H,none⟩)):D X0 (.fn (.func 112) [] []) [v,fv] ⟨H,lo⟩=some (.ret (.int .i64 (ka p l)) ⟨H,lo⟩):=by
 refine aH O7 λN u=>?_
 simp only[go_sem,simprocAttr,O7,b.bK];refine ek l.length (λk e H'=>H'=H/\e 0=v/\e 1=fv/\e 7= .int .i64 l.length/\e 8= .int .i64 k/\ ∀j,j<k->p (l.getD j default)=false) 0 (by omega) ?_ ?_
 ·simp only[go_sem,simprocAttr];omega
 ·rintro k s e H' ⟨rfl,i,g,f,d,c⟩ n q;simp(disch:=omega) only[cg,F1,go_sem,simprocAttr,adx,i,g,f,d];refine⟨λh=>?_,λh=>?_⟩
  ·have a:k<l.length:=by omega
   simp(disch:=omega) only[go_sem,simprocAttr,b.cG,b.cS,↓Rr,o _ (fE a)];refine⟨by omega,?_⟩;cases m:p (l.getD k default)
   ·simp(disch:=omega) only[go_sem,simprocAttr,i,g,f,d]
    grind
   ·simp(disch:=omega) only[F1,go_sem,simprocAttr];rw[y8 a c m]
  ·rw[y9 (λj t=>c j (by omega))]
def apX(v fv:AV)(l:List aF)(a:Rv v 2 (l.map aA))(b:l.length<2^40)(p:aF->Bool)(H:List ae)(lo:oN)
  (c: ∀x∈l,D X0 fv [.agg (aA x)] ⟨H,none⟩=some (.ret (.bool (p x)) ⟨H,none⟩)):D X0 (.fn (.func 79) [] []) [v,fv] ⟨H,lo⟩=some (.ret (.bool (l.any p)) ⟨H,lo⟩):=by
 refine aH OV λN d=>?_
 simp(disch:=omega) only[F1,go_sem,simprocAttr,OV,afx v fv l a b p H none c,y7]
def afy{X:Ctx}(a:Ext X0 X)(h:X0.code f=some pf)(b:X0.bU f=none):X.bU f=none:=by
 rcases a.bU f with e| ⟨_,e⟩
 ·grind
 grind
def afz{X:Ctx}(a:Ext X0 X)(h:X0.code f=some pf):X.code f=some pf:=by rw[a.code];exact h
def up{X:Ctx}(a:Ext X0 X){args:lA}{E:AS}{r:aT}(h:D X0 v args E=some r):D X v args E=some r:=acv a _ _ _ _ h
def afA{X:Ctx}(f:Ext X0 X)(v fv:AV)(l:lN)(H:List ae)(b:Rd ⟨H,none⟩ v 1 (l.map hC))(s:l.length<2^40)(p:Nat->Bool)(lo:oN)
  (q: ∀x∈l,D X fv [.int .u32 x] ⟨H,none⟩=some (.ret (.bool (p x)) ⟨H,none⟩)):D X (.fn (.func 195) [] []) [v,fv] ⟨H,lo⟩=some (.ret (.int .i64 (ka p l)) ⟨H,lo⟩):=by
 refine MX PV (afy f rfl rfl) (afz f rfl) rfl λN w=>?_
 simp only[go_sem,simprocAttr,PV,b.bK];refine ek l.length (λk e H'=>H'=H/\e 0=v/\e 1=fv/\e 7= .int .i64 l.length/\e 8= .int .i64 k/\ ∀j,j<k->p (l.getD j default)=false) 0 (by omega) ?_ ?_
 ·simp only[go_sem,simprocAttr];omega
 ·rintro k t e H' ⟨rfl,o,m,i,g,c⟩ n r;simp(disch:=omega) only[cg,F1,go_sem,simprocAttr,adR,o,m,i,g];refine⟨λh=>?_,λh=>?_⟩
  ·have a:k<l.length:=by omega
   simp(disch:=omega) only[go_sem,simprocAttr,b.cG,b.cS,↓pH,q _ (fE a)];refine⟨by omega,?_⟩;cases d:p (l.getD k default)
   ·simp(disch:=omega) only[go_sem,simprocAttr,o,m,i,g];exact⟨a,nU c d⟩
   ·simp(disch:=omega) only[F1,go_sem,simprocAttr];rw[y8 a c d]
  ·rw[y9 (λj u=>c j (by omega))]
def afB{X:Ctx}(a:Ext X0 X)(v fv:AV)(l:lN)(H:List ae)(b:Rd ⟨H,none⟩ v 1 (l.map hC))(c:l.length<2^40)(p:Nat->Bool)(lo:oN)
  (d: ∀x∈l,D X fv [.int .u32 x] ⟨H,none⟩=some (.ret (.bool (p x)) ⟨H,none⟩)):D X (.fn (.func 319) [] []) [v,fv] ⟨H,lo⟩=some (.ret (.bool (l.any p)) ⟨H,lo⟩):=by
 refine MX QI (afy a rfl rfl) (afz a rfl) rfl λN e=>?_
 simp(disch:=omega) only[F1,go_sem,simprocAttr,QI,afA a v fv l H b c p none d,y7]
def apY(v fv:AV)(l:lB)(b:Rv v 1 (l.map bC))(r:l.length<2^40)(p:UInt8->Bool)(H:List ae)(lo:oN)
  (o: ∀x∈l,D X0 fv [.int .u8 x.toNat] ⟨H,none⟩=some (.ret (.bool (p x)) ⟨H,none⟩)):D X0 (.fn (.func 136) [] []) [v,fv] ⟨H,lo⟩=some (.ret (.int .i64 (ka p l)) ⟨H,lo⟩):=by
 refine aH Pn λN u=>?_
 simp only[go_sem,simprocAttr,Pn,b.bK];refine ek l.length (λk e H'=>H'=H/\e 0=v/\e 1=fv/\e 7= .int .i64 l.length/\e 8= .int .i64 k/\ ∀j,j<k->p (l.getD j default)=false) 0 (by omega) ?_ ?_
 ·simp only[go_sem,simprocAttr];omega
 ·rintro k s e H' ⟨rfl,m,i,g,f,c⟩ n q;simp(disch:=omega) only[cg,F1,go_sem,simprocAttr,adD,m,i,g,f];refine⟨λh=>?_,λh=>?_⟩
  ·have a:k<l.length:=by omega
   simp(disch:=omega) only[go_sem,simprocAttr,b.cG,b.cS,↓pB,o _ (fE a)];refine⟨by omega,?_⟩;cases d:p (l.getD k default)
   ·simp(disch:=omega) only[go_sem,simprocAttr,m,i,g,f];exact⟨a,nU c d⟩
   ·simp(disch:=omega) only[F1,go_sem,simprocAttr];rw[y8 a c d]
  ·rw[y9 (λj t=>c j (by omega))]
def apZ(v fv:AV)(l:lB)(a:Rv v 1 (l.map bC))(b:l.length<2^40)(p:UInt8->Bool)(H:List ae)(lo:oN)
  (c: ∀x∈l,D X0 fv [.int .u8 x.toNat] ⟨H,none⟩=some (.ret (.bool (p x)) ⟨H,none⟩)):D X0 (.fn (.func 101) [] []) [v,fv] ⟨H,lo⟩=some (.ret (.bool (l.any p)) ⟨H,lo⟩):=by
 refine aH O2 λN d=>?_
 simp(disch:=omega) only[F1,go_sem,simprocAttr,O2,apY v fv l a b p H none c,y7]
def ap0(v fv:AV)(l:List lB)(b:Rv v 1 (l.map sC))(r:l.length<2^40)(p: lB->Bool)(H:List ae)(lo:oN)
  (o: ∀x∈l,D X0 fv [S x] ⟨H,none⟩=some (.ret (.bool (p x)) ⟨H,none⟩)):D X0 (.fn (.func 135) [] []) [v,fv] ⟨H,lo⟩=some (.ret (.int .i64 (ka p l)) ⟨H,lo⟩):=by
 refine aH Pm λN u=>?_
 simp only[go_sem,simprocAttr,Pm,b.bK];refine ek l.length (λk e H'=>H'=H/\e 0=v/\e 1=fv/\e 7= .int .i64 l.length/\e 8= .int .i64 k/\ ∀j,j<k->p (l.getD j default)=false) 0 (by omega) ?_ ?_
 ·simp only[go_sem,simprocAttr];omega
 ·rintro k s e H' ⟨rfl,m,i,g,f,c⟩ n q;simp(disch:=omega) only[cg,F1,go_sem,simprocAttr,adC,m,i,g,f];refine⟨λh=>?_,λh=>?_⟩
  ·have a:k<l.length:=by omega
   simp(disch:=omega) only[go_sem,simprocAttr,b.cG,b.cS,↓pS,o _ (fE a)];refine⟨by omega,?_⟩;cases d:p (l.getD k default)
   ·simp(disch:=omega) only[go_sem,simprocAttr,m,i,g,f];exact⟨a,nU c d⟩
   ·simp(disch:=omega) only[F1,go_sem,simprocAttr];rw[y8 a c d]
  ·rw[y9 (λj t=>c j (by omega))]
def ap1(v fv:AV)(l:List lB)(a:Rv v 1 (l.map sC))(b:l.length<2^40)(p: lB->Bool)(H:List ae)(lo:oN)
  (c: ∀x∈l,D X0 fv [S x] ⟨H,none⟩=some (.ret (.bool (p x)) ⟨H,none⟩)):D X0 (.fn (.func 100) [] []) [v,fv] ⟨H,lo⟩=some (.ret (.bool (l.any p)) ⟨H,lo⟩):=by
 refine aH O0 λN d=>?_
 simp(disch:=omega) only[F1,go_sem,simprocAttr,O0,ap0 v fv l a b p H none c,y7]
def Bt(r:aF)(b:r.1+r.2<4294967296)(H:List ae)(lo:oN):D X0 (.fn (.func 113) [] []) [.agg (aA r)] ⟨H,lo⟩=some (.ret (.int .i64 (r.1+r.2:Nat)) ⟨H,lo⟩):=by
 refine aH O8 λN a=>?_
 simp(disch:=omega) only[F1,go_sem,simprocAttr,O8,a,aA,amj]
def RI(r:aF)(c:r.1<4294967296)(b:r.2<4294967296)(H:List ae)(lo:oN):D X0 (.fn (.func 78) [] []) [.agg (aA r)] ⟨H,lo⟩=some (.ret (.bool (kK r)) ⟨H,lo⟩):=by
 refine aH OU λN a=>?_
 simp(disch:=omega) only[R4,F1,go_sem,simprocAttr,OU,a,aA,kK]
 (repeat' (first|apply And.intro|intro _))
 all_goals(first|omega| (refine de (afW AV.bool (amm.2 ?_)) rfl;grind))
def holds(y x:aF):Bool:=decide (x=y)|| (decide (y.1<=x.1)&&decide (x.1+x.2<=y.1+y.2))
def run_eq(a b:aF):dA (.agg [.int,.int]) (.agg (aA a)) (.agg (aA b))=some (decide (a=b)):=by
 obtain⟨f,e⟩:=a;obtain⟨d,c⟩:=b;simp only[dA,aA,aep,alQ,Nz,abV,aeE,and_self,aof,Int.natCast_inj]
 grind
def afC(y x:aF)(d:y.1+y.2<4294967296)(e:x.1+x.2<4294967296)(H:List ae)(lo:oN):D X0 (.fn (.func 81) [] []) [.agg (aA y),.agg (aA x)] ⟨H,lo⟩=some (.ret (.bool (holds y x)) ⟨H,lo⟩):=by
 refine aH D7 λN b=>?_
 have f:=Bt y d;have ex:=Bt x e;by_cases he:x=y
 ·simp only[F1,go_sem,simprocAttr,D7,b,run_eq,he,holds]
 ·by_cases c:y.1<=x.1
  ·have a: (y.1:Int)<=x.1:=by omega
   simp only[F1,go_sem,simprocAttr,D7,b,run_eq,he,holds,c,a,f,ex,amj];refine de (afW AV.bool (amm.2 ?_)) rfl
   grind
  ·have a: ¬(y.1:Int)<=x.1:=by omega
   simp only[F1,go_sem,simprocAttr,D7,b,run_eq,he,holds,c,a,afH,ars]
def za(l:List aF):Prop:=l.length<=64/\ ∀x∈l,x.1+x.2<=64
def ap2(x y:aF)(c:x.1+x.2<4294967296)(b:y.1+y.2<4294967296)(p:Nat)(H:List ae)(lo:oN)(e:H[p]?=some (.box (aA x) none)):
  D X0 (.fn (.func 80) [] [.ptr p 0]) [.agg (aA y)] ⟨H,lo⟩=some (.ret (.bool (holds y x)) ⟨H,lo⟩):=by
 refine fe OW λN d=>?_
 have a: ∀L,(H++L)[p]?=some (.box (aA x) none):=λL=>by grind
 simp only[F1,go_sem,simprocAttr,OW,d,a,afC y x b c]
def Kh(l:List aF)(k:Nat):Bool:=decide (k<64)&&l.any λy=>holds y (k,1)
def ap3(v:AV)(l:List aF)(f:Rv v 2 (l.map aA))(b:za l)(k:Nat)(i:k<2147483648)(H:List ae)(lo:oN):
  D X0 (.fn (.func 43) [] []) [.agg [v],.int .i64 k] ⟨H,lo⟩=some (.ret (.bool (Kh l k)) ⟨H,lo⟩):=by
 refine aH IX λN a=>?_
 have hm:=RI (k,1) (by omega) (by simp);have c:=apX v (.fn (.func 80) [] [.ptr (N+1) 0]) l f (by have:=b.1;omega) (λy=>holds y (k,1)) (H++[.box [v] none,.box (aA (k,1)) none]) none (λy d=>ap2 (k,1) y (by omega) (by have:=b.2 y d;omega) (N+1) _ none (by rw[bE a];rfl));have g:aA (k,1)=[.int .i64 (k:Nat),.int .i64 1]:=rfl;rw[g]at hm c;by_cases h:k<64
 ·have e:kK (k,1)=true:=by simp[kK];omega
  simp only[F1,go_sem,simprocAttr,IX,a,hm,e,c];simp[Kh,h]
 ·have e:kK (k,1)=false:=by simp[kK];omega
  simp only[F1,go_sem,simprocAttr,IX,a,hm,e];simp[Kh,h]
def wE{X:Ctx}(pf:PF){args cap:lA}{H:List ae}{R:aT->Prop}(b:X.bU f=none)(e:X.code f=some pf)(d:Nat.ble (args++cap).length pf.ntmps=true)
  (h: ∀n,H.length=n->wp X f false pf.body ⟨c9 (args++cap),[]⟩ ⟨H,none⟩ (dE X n lo pf.results R)): ∃a,D X (.fn (.func f) [] cap) args ⟨H,lo⟩=some a/\R a:=by
 have c:=anV d;refine MW b e (by grind) ?_
 grind
def uK(l:List aF):List lA:=(List.range l.length).map λi=>[.int .i64 (i:Nat),.agg (aA (l.getD i default))]
def wF(l:List aF): (uK l).length=l.length:=by simp[uK]
def Ki{l:List aF}(h:j<l.length): (uK l)[j]?=some [.int .i64 (j:Nat),.agg (aA (l.getD j default))]:=by
 unfold uK;grind
def Bu{N id o:Nat}{f:Fn}{L:lA}{H:List ae}(h:N<=id):finish N lo (.fn f [] (.ptr id o::L)) ⟨H,none⟩=(.fn f [] (.ptr id o::L),⟨H,lo⟩):=by
 have a: ¬(AV.fn f [] (.ptr id o::L)).refs<=N:=by simp only[AV.refs,aI];omega
 refine abW a ?_;unfold Den.freeze;simp[a]
def afD(a:Rv v sz af){H:List ae}{tg:Option TypeId}:rF ⟨H,lo⟩ v tg=some (.ptr H.length 0,⟨H++[.box [v] tg],lo⟩):=by
 obtain⟨h,_,_⟩:=a ⟨[],none⟩;cases v<;>first|rfl|grind
def cq(b:Rv v sz af)(c:bT af=0):v.refs=0:=by
 obtain⟨d,a,e⟩:=b ⟨[],none⟩;cases v<;>simp only[]at d
 ·rfl
 ·simp only[Den.elems]at a;split at a
  ·cases a;simpa only[AV.refs]using c
  grind
 ·trivial
def RJ(v:AV)(l:List aF)(d:Rv v 2 (l.map aA))(N:Nat)(H:List ae)(c:H.length=N)(lo:oN):
  D X0 (.fn (.func 74) [] []) [.agg [v]] ⟨H,lo⟩=some (.ret (.fn (.func 138) [] [.ptr (N+1) 0]) ⟨H++[.box [v] none,.box [v] none],lo⟩):=by
 have e:=λH'=>afD (H:=H') (lo:=none) (tg:=none) d
 have e1:D X0 (.fn (.func 108) [] []) [v] ⟨H++[.box [v] none],none⟩=some (.ret (.fn (.func 138) [] [.ptr (N+1) 0]) ⟨H++[.box [v] none,.box [v] none],none⟩):=by
  refine aH O6 λM a=>?_
  have b:M=N+1:=by rw[<-a];simp[c]
  subst b;simp only[go_sem,simprocAttr,O6,a,e];rw[Bu (by omega)]
 refine aH OR λM a=>?_
 obtain rfl:M=N:=by rw[<-a,c]
 simp only[go_sem,simprocAttr,OR,a,e1];rw[Bu (by omega)]
def mj{X:Ctx}{a:List RV}{R:aT->Prop}{e:Env}{p:Nat}{b:lN}{H:List ae}{l:oN}:
  dE X n lo a R .ret ⟨e,p::b⟩ ⟨H,l⟩=match H[p]? with|some .fj=>dE X n lo a R .ret ⟨e,b⟩ ⟨H.set p .dead,l⟩|_=>False:=by
 simp only[xP,dC];cases c:H[p]? with
 |none=>simp
 |some o=>cases o<;>simp[AS.set]
def fits(n:Nat)(x:aF):Bool:=decide (1<=n)&&decide (n<=x.2)
def Kj(l:List aF)(n:Nat):AV:=match l.find? (fits n)with
 |some x=>.av [.int .i64 (x.1:Nat),.bool true]
 |none=>.av [.int .i64 0,.bool false]
def ap4[Inhabited α]{k:Nat}(b:k<l.length)(h: ∀j,j<k->p (l.getD j default)=false)(a:p (l.getD k default)=true):l.find? p=some (l.getD k default):=by
 rw[List.find?_eq_some_iff_getElem];refine⟨a,k,b,?_,λj c=>?_⟩
 ·grind
 grind
def ap5[Inhabited α](h: ∀j,j<l.length->p (l.getD j default)=false):l.find? p=none:=by
 rw[avC];intro x a;obtain⟨j,b,rfl⟩:=aor a
 grind
def RK(v:AV)(l:List aF)(A:Rv v 2 (l.map aA))(Y:za l)(a:Nat)(o:ae):
  s7 X0 (.fn (.func 138) [] [.ptr (a+1) 0]) a [o,.box [v] none] (uK l):=by
 intro S V y I J b C q B W s hP h0 vG d hG lo;have X:l.length<=64:=Y.1;have j: ∀i,V.dp i->i<b:=λi Z=>(q i Z).1
 suffices h: ∃x,D X0 (.fn (.func 138) [] [.ptr (a+1) 0]) [y] ⟨W,lo⟩=some x/\
  (λx=> ∃f p aj,x=aT.ret (.av []) ⟨p,aj⟩/\V.P f p/\ (I (uK l).length f\/J f)/\b<=p.length/\
    (∀i,i<b-> ¬V.dp i-> ¬(a<=i/\i<a+[o,ae.box [v] none].length)->p[i]?=W[i]?)/\kq V.c b lo aj none (V.row f)) x by grind
 refine wE Pp rfl rfl rfl λN hN=>?_
 obtain rfl:N=b:=by omega
 have u:W[a+1]?=some (.box [v] none):=hG 1 (by simp);simp only[go_sem,simprocAttr,Pp,u,A.bK];refine iJ l.length (λk e p aj=> ∃f,I k f/\jR V N W (λi=>a<=i/\i<a+[o,ae.box [v] none].length) f p aj/\e 0=y/\e 5=v/\e 6= .int .i64 l.length/\e 7= .int .i64 k) 0 (by omega) ?_ ?_
 ·simp only[go_sem,simprocAttr];exact⟨s,h0,⟨hP,by omega,λ_ _ _ _=>rfl,.inl ⟨rfl,d⟩,λr e=>by rw[d]at e;cases e⟩⟩
 rintro k hk e W1 z ⟨s1,H,G,L,K,e6,e7⟩ n U;simp only[cg,go_sem,simprocAttr,adE,K,e6,e7];refine⟨λh=>?_,λh=>?_⟩
 ·have t:k<l.length:=by omega
  have m:=G.push C j [.box (aA (l.getD k default)) none];obtain⟨c,s2,W2,T,R,Q,P,O,M,F⟩:=B k _ s1 (Ki t) H (W1++[.box (aA (l.getD k default)) none]) m.P m.len z;have w:=m.step Q P O M;simp(disch:=omega) only[go_sem,simprocAttr,A.cG,A.cS,h,U,L,R];cases c
  ·obtain⟨E,g,f1,f2,f3,f4,f5⟩:=w.fin C j (dB:=lo);simp only[go_sem,simprocAttr,f1];exact⟨s2,E,g,rfl,f2,.inr F,f3,f4,f5⟩
  ·simp(disch:=omega) only[go_sem,simprocAttr,L,K,e6,e7];exact⟨t,s2,F,w⟩
 ·obtain⟨E,g,f1,f2,f3,f4,f5⟩:=G.fin C j (dB:=lo);simp only[go_sem,simprocAttr,f1];exact⟨s1,E,g,rfl,f2,.inl (by rw[wF,show l.length=k by omega];exact H),f3,f4,f5⟩
def bf{H L:List ae}{o:ae}(h:H[i]?=some o): (H++L)[i]?=some o:=by grind
def cT{H:List ae}{p:Nat}{x o:ae}(h:H[p]?=some x): (H.set p o)[p]?=some o:=by grind
def dM{H:List ae}{o:ae}(h:H[i]?=some o):i<H.length:=by grind
def kS{W H:List ae}{N:Nat}(a:H.length=N)(h: ∀i,i<N->W[i]?=H[i]?):W.take N=H:=by
 apply al4
 grind
def ap6(v:AV)(l:List aF)(Q:Rv v 2 (l.map aA))(Z:za l)(m:Nat)(H:List ae)(lo:oN):
  D X0 (.fn (.func 173) [] []) [.agg [v],.int .i64 m] ⟨H,lo⟩=some (.ret (Kj l m) ⟨H,lo⟩):=by
 refine aH PD λN C=>?_
 have he:=RJ v l Q (N+4) (H++[.box [v] none,.box [.int .i64 m] none,.box [.int .i64 0] none,.box [.bool false] none]) (by simp[C]) none;simp only[go_sem,simprocAttr,PD,C,he];refine s9 (S:=Option aF) (λe=>e 3= .ptr (N+1) 0/\e 4= .ptr (N+2) 0/\e 5= .ptr (N+3) 0) (by simp only[go_sem,simprocAttr]) (uK l) C [.box [v] none,.box [v] none] (λs=>[.box [v] none,.box [.int .i64 m] none,.box [.int .i64 ((s.getD (0,0)).1:Nat)] none,.box [.bool s.isSome] none]) (nB:=4) (λ_=>rfl) none
  (λj s=>s=none/\ ∀i,i<j->fits m (l.getD i default)=false) (λex s=>ex= .ret/\s.isSome=true/\l.find? (fits m)=s) rfl ?_ (by simp) ⟨rfl,λi G=>absurd G (amz i)⟩ (λex s h=>⟨.ret,by rw[h.1];rfl,by rw[h.1];rfl,by rw[h.1];rfl⟩) ?_ ?_ ?_
 ·exact RK v l Q Z (N+4) _
 ·rintro e ⟨e3,F,E⟩ j y s J ⟨rfl,f⟩;have R:j<l.length:=by
   have:=(abQ.1 J).1;rwa[wF]at this
  rw[Ki R]at J;cases J;have P:=ap4 (p:=fits m) R f;have z:=nU (p:=λi=>fits m (l.getD i default)=false) f;generalize l.getD j default=r at*;refine⟨rfl,λW n' Y X w=>?_⟩;simp only[go_sem,simprocAttr,gT,Y];refine⟨[.box (aA r) none],rfl,λI n B=>?_⟩;simp only[eP,eO,akq,aem,Nat.reduceAdd]at B;obtain⟨w0,w1,u,t⟩:=B;have f1: ∀L,(I++L)[N+1]?=some (.box [.int .i64 m] none):=λL=>bf w1
  have f2: ∀L,(I++L)[N+2]?=some (.box [.int .i64 (0:Nat)] none):=λL=>bf u
  have f3: ∀L,(I++L)[N+3]?=some (.box [.bool false] none):=λL=>bf t
  by_cases c:fits m r=true
  ·have c2:1<=m/\m<=r.2:=by unfold fits at c;simpa using c
   have g: (m:Int)>=1:=by omega
   have q: (r.2:Int)>=m:=by omega
   simp(disch:=omega) only[go_sem,simprocAttr,Js,e3,F,E,f1,f2,f3,n,g,q,ac1];refine⟨some r,?_,by omega,λi G A=>?_,rfl,P c⟩
   ·simp only[eP,eO,akq,aem,Nat.reduceAdd];refine⟨?_,?_,?_,?_⟩
    ·rw[abN (by omega),abN (by omega)];exact bf w0
    ·rw[abN (by omega),abN (by omega)];exact f1 _
    ·rw[abN (by omega),ac9 (by simp;omega)];rfl
    ·rw[ac9 (by simp;omega)];rfl
   ·rw[abN (by omega),abN (by omega),abP (by omega)]
  ·have c:fits m r=false:=by simpa using c
   have k:gW (I++[ae.box (aA r) none]) N 0 [.box [v] none,.box [.int .i64 m] none,.box [.int .i64 (0:Nat)] none,.box [.bool false] none]:=by
    simp only[eP,eO,akq,aem,Nat.reduceAdd];exact⟨bf w0,f1 _,f2 _,f3 _⟩
   by_cases h1:1<=m
   ·have g: (m:Int)>=1:=by omega
    have q: ¬(r.2:Int)>=m:=by unfold fits at c;simp[h1]at c;omega
    simp only[go_sem,simprocAttr,Js,e3,f1,n,g,q,nz];exact⟨none,k,by omega,λi G A=>abP (by omega),rfl,z c⟩
   ·have g: ¬(m:Int)>=1:=by omega
    simp only[go_sem,simprocAttr,Js,e3,f1,n,g,nz];exact⟨none,k,by omega,λi G A=>abP (by omega),rfl,z c⟩
 ·rintro e ⟨e3,F,E⟩ s W p V ⟨rfl,f⟩ d w O;simp only[eP,eO,akq,aem,Nat.reduceAdd]at w;obtain⟨w0,w1,u,t⟩:=w;rw[wF]at f;have K: ∀a b c,(((W.set (N+2) a).set (N+3) b).set p c).take N=H:=λa b c=>(((d.set (by omega)).set (by omega)).set (by omega)).take C
  have T: ∀a b,((W.set (N+2) a).set (N+3) b)[N+3]?=some b:=λa b=>ac9 (by rw[aen];exact dM t)
  have s2: ∀a b,((W.set (N+2) a).set (N+3) b)[N+2]?=some a:=λa b=>by rw[abN (by omega)];exact cT u
  simp(disch:=omega) only[F1,go_sem,simprocAttr,F,E,u,t,O,mj,K,s2,T,Kj,ap5 f]
 ·rintro e ⟨e3,F,E⟩ ex s W p V ⟨rfl,U,hI⟩ d w O;simp only[eP,eO,akq,aem,Nat.reduceAdd]at w;obtain⟨w0,w1,u,t⟩:=w;have M: ∀o,(W.set p o).take N=H:=λo=>(d.set (by omega)).take C
  simp(disch:=omega) only[F1,go_sem,simprocAttr,F,E,u,t,O,mj,M];refine de ?_ rfl;unfold Kj;rw[hI];cases s with
  |none=>cases U
  |some x=>rfl
structure Bv where
 x:aF
 put:Bool
 out:List aF
 row:oN
 res:AV
 ok:Bool
def afE(H:List ae)(N:Nat)(v:AV)(s:Bv)(W:List ae):Prop:=
 (∀i,i<N->W[i]?=H[i]?)/\W[N]?=some (.box [v] none)/\W[N+1]?=some (.box [s.res] none)/\W[N+2]?=some (.box [.bool s.ok] none)/\W[N+3]?=some (.box (aA s.x) none)/\
   W[N+5]?=some (.box [.bool s.put] none)/\SV (N+4) 2 fg W s.row (s.out.map aA)
def RL(H:List ae)(N:Nat)(v:AV):YV Bv:=⟨afE H N v,Bv.row,λi=>i<N+6,N⟩
def ap7(H:List ae)(N:Nat)(v:AV): (RL H N v).Ok where
 st:=λs W e ⟨m,l,k,j,g,f,b⟩ h=>by
  have d: ∀i,i<N+6->e[i]?=W[i]?:=λi a=>h i (.inl a)
  exact⟨λi a=>by grind,by grind,by grind,by grind,
   by simp_all,by simp_all,b.st (d _ (by omega)) λi a=>h i (.inr a)⟩
 lt:=λs W r ⟨_,_,_,_,_,_,b⟩ c=>b.row c
def RM(l:List aF)(a:aF)(v:AV)(j:Nat)(s:Bv):Prop:=
 hO a false [] l=hO s.x s.put s.out (l.drop j)/\s.x.1+s.x.2<=64/\s.out.length<=2*j/\s.res= .an/\s.ok=false
def afF(l:List aF)(a:aF)(v:AV)(b:Ex)(s:Bv):Prop:=b= .ret/\hO a false [] l=none/\s.res=v/\s.ok=false
def o7(v:AV)(l:List aF)(x:aF):AV:=match iw l x with
 |some a=>.av [.agg [en a],.bool true]
 |none=>.av [.agg [v],.bool false]
def afG(v:AV)(l:List aF)(hv:Rv v 2 (l.map aA))(hl:za l)(x:aF)(RN:x.1<4294967296)(RP:x.2<4294967296)(H:List ae)(lo:oN):
  D X0 (.fn (.func 120) [] []) [.agg [v],.int .i64 (x.1:Nat),.int .i64 (x.2:Nat)] ⟨H,lo⟩=some (.ret (o7 v l x) ⟨H,lo⟩):=by
 refine aH Jc λN hN=>?_
 have hm:=RI x RN RP;have hr:aA x=[.int .i64 (x.1:Nat),.int .i64 (x.2:Nat)]:=rfl;rw[hr]at hm;have RQ:v.refs=0:=cq hv (bp (λ_=>rfl) l);cases m:kK x with
 |false=>
  simp(disch:=omega) only[F1,go_sem,simprocAttr,Jc,hN,hm,m,RQ];have e1:o7 v l x= .av [.agg [v],.bool false]:=by unfold o7 iw;rw[m];rfl
  rw[e1]
 |true=>
  have he:=RJ v l hv (N+6) (H++[.box [v] none,.box [.an] none,.box [.bool false] none,.box (aA x) none,.box [.an] none,.box [.bool false] none]) (by simp[hN]) none;rw[hr]at he;simp(disch:=omega) only[go_sem,simprocAttr,Jc,hN,hm,m,he];rw[<-hr];generalize G: ((((((((((((((c9 _).set 3 _).set 6 _).set 7 _).set 13 _).set 14 _).set 15 _).set 8 _).set 16 _).set 17 _).set 18 _).set 9 _).set 10 _).set 20 _).set 21 _=e;have J:e 3= .ptr N 0:=by rw[<-G];rfl
  have q6:e 6= .ptr (N+1) 0:=by rw[<-G];rfl
  have q7:e 7= .ptr (N+2) 0:=by rw[<-G];rfl
  have q8:e 8= .ptr (N+3) 0:=by rw[<-G];rfl
  have q9:e 9= .ptr (N+4) 0:=by rw[<-G];rfl
  have Kk:e 10= .ptr (N+5) 0:=by rw[<-G];rfl
  have q21: (ao.t 21).get e= .fn (.func 138) [] [.ptr (N+6+1) 0]:=by rw[<-G];rfl
  clear G;obtain⟨F,ES⟩: ∃F,F=H++[ae.box [v] none,.box [.an] none,.box [.bool false] none,.box (aA x) none,.box [.an] none,.box [.bool false] none,.box [v] none,.box [v] none]:=⟨_,rfl⟩;have ap8:F.length=N+8:=by rw[ES];simp[hN]
  rw[<-ES];have t: ∀k,F[N+k]?=[ae.box [v] none,.box [.an] none,.box [.bool false] none,.box (aA x) none,.box [.an] none,.box [.bool false] none,.box [v] none,.box [v] none][k]?:=λk=>by rw[ES,bE hN]
  have ap9:F[N]?=some (.box [v] none):=by rw[ES,di hN];rfl
  have NO:afE H N v ⟨x,false,[],none,.an,false⟩ F:=by
   refine⟨λi b=>by rw[ES,abP (by omega)],ap9,t 1,t 2,t 3,t 5,.inl ⟨rfl,rfl,t 4⟩⟩
  have pX:x.1+x.2<=64:=by unfold kK at m;simp at m;omega
  refine NP (RL H N v) (ap7 H N v) (uK l) (N+6) [.box [v] none,.box [v] none] F ⟨x,false,[],none,.an,false⟩ (by rw[q21];rfl) (by rw[q21];exact RK v l hv hl (N+6) _)
   (λi b=>?_) (by simp[ap8]) (λi b=>?_) NO rfl (RM l x v) (afF l x v) ⟨rfl,pX,by simp,rfl,rfl⟩ (λex s h=>?_) ?_ ?_ ?_
  ·match i,b with
   |0,_=>exact t 6
   |1,_=>exact t 7
  ·have:i<N+6:=b;simp only[aep,alQ];omega
  ·exact⟨.ret,by rw[h.1];rfl,by rw[h.1];rfl,by rw[h.1];rfl⟩
  ·intro j y s hy hI;have hj:j<l.length:=by
    have:=(abQ.1 hy).1;rwa[wF]at this
   rw[Ki hj]at hy;cases hy;have aqa:l.drop j=l.getD j default::l.drop (j+1):=by
    rw[amf hj,aer,acJ hj];rfl
   have hym:=hl.2 _ (fE hj);generalize l.getD j default=y at*;refine⟨rfl,λW hP vG=>?_⟩;obtain⟨n,hn⟩: ∃n,W.length=n:=⟨_,rfl⟩;simp(disch:=omega) only[go_sem,simprocAttr,gT,hn];refine⟨[.box (aA y) none],rfl,λQ hW2 NK=>?_⟩;obtain⟨g1,g2,g3,g4⟩:=hI;rw[aqa]at g1;obtain⟨p0,p1,p2,p3,p4,p5,Y⟩:=NK;have w:Q.length=n:=by omega
   have f3: ∀L,(Q++L)[N+3]?=some (.box (aA s.x) none):=λL=>bf p4
   have f5: ∀L,(Q++L)[N+5]?=some (.box [.bool s.put] none):=λL=>bf p5
   have f0: ∀L,(Q++L)[N]?=some (.box [v] none):=λL=>bf p1
   have f1: ∀L,(Q++L)[N+1]?=some (.box [s.res] none):=λL=>bf p2
   have f2: ∀L,(Q++L)[N+2]?=some (.box [.bool s.ok] none):=λL=>bf p3
   have hnN:N+10<=n:=by omega
   have RR:=hl.1;have ey:=Bt y (by omega);have ex:=Bt s.x (by omega);have M:SV (N+4) 2 fg (Q++[.box (aA y) none]) s.row (s.out.map aA):=Y.st (by rw[abP (by omega)]) λi b=>by
    obtain⟨_,_,_,_,q⟩:=Y.row b;rw[abP (dM q)]
   have f: ∀i,s.row=some i->N+6<=i:=by
    intro i b;rcases Y with⟨q,_⟩| ⟨id,ai,q,_,K,J,S⟩
    ·rw[q]at b;cases b
    ·rw[q]at b;cases b;have:i≠N+5:=by rintro rfl;rw[p5]at S;cases S
     omega
   have My: (Q++[ae.box (aA y) none]).length=n+1:=by simp[w]
   have fin: ∀ (A:List ae) (g:Bv) (Kl:oN) (fr:Fr),(∀i,i<n->i≠N+3->i≠N+4->i≠N+5->s.row≠some i->A[i]?=Q[i]?)->A[N+3]?=some (.box (aA g.x) none)->A[N+5]?=some (.box [.bool g.put] none)->
     SV (N+4) 2 fg A g.row (g.out.map aA)->g.res=s.res->g.ok=s.ok->n<=A.length->((Kl=none/\g.row=s.row)\/ (∃j,N<=j/\j<N+10/\Kl=some j/\ (g.row=s.row\/ ∃r,g.row=some r/\n<=r)))->RM l x v (j+1) g->
     NH (RL H N v) (F.length+2) s Q (RM l x v (j+1)) (afF l x v) .normal fr ⟨A,Kl⟩:=by
    intro A g Kl fr h1 h2 h3 h4 h5 h6 h7 h8 h9;have T: ∀i,i<N+3->A[i]?=Q[i]?:=λi b=>h1 i (by omega) (by omega) (by omega) (by omega) (λe=>by have:=f i e;omega)
    refine⟨g,⟨λi b=>by rw[T i (by omega)];exact p0 i b,by rw[T N (by omega)];exact p1,by rw[T (N+1) (by omega),h5];exact p2,by rw[T (N+2) (by omega),h6];exact p3,h2,h3,h4⟩,⟨by show Q.length<=A.length;omega,λi b hp hr=>?_⟩,?_,h9⟩
    ·have nm: ¬i<N+6:=hp;exact h1 i (by omega) (by omega) (by omega) (by omega) hr
    ·rcases h8 with h8| ⟨j,C,K,J,S⟩
     ·exact .inl h8
     ·refine .inr ⟨j,C,by omega,J,?_⟩;rw[w];exact S
   have E: ∀af:List lA,af.length<=200->(af.length+1)*16<=room:=λaf h=>by unfold room;omega
   by_cases c1:y.1+y.2<s.x.1
   ·have O: (y.1:Int)+y.2<s.x.1:=by omega
    obtain⟨R,v',W3,A,r',a1,a2,a3,a4,a5,P,a7⟩:=M.append (bytes:=16) (el:=aA y) (by omega) (by omega) rfl rfl (E _ (by simp;omega)) none;simp(disch:=omega) only[go_sem,simprocAttr,yq,q8,q9,w,f3,ey,O,a1,a2,a3,CX,amj];refine fin A {s with out:=s.out++[y],row:=r'} _ _ (λi C K J S q5=>?_) ?_ ?_ (by rw[aeq];exact a4) rfl rfl (by omega) (.inr ⟨N+4,by omega,by omega,rfl,?_⟩) ⟨?_,g2,by simp;omega,g4⟩
    ·rw[P i (by omega) J q5,abP (by omega)]
    ·rw[P _ (by omega) (by omega) (λq=>by have:=f _ q;omega)];exact f3 _
    ·rw[P _ (by omega) (by omega) (λq=>by have:=f _ q;omega)];exact f5 _
    ·rcases a7 with q| ⟨q,C,K⟩
     ·exact .inl q
     ·exact .inr ⟨q,C,by omega⟩
    ·rw[g1,hO,acE c1]
   have O: ¬(y.1:Int)+y.2<s.x.1:=by omega
   by_cases c2:s.x.1+s.x.2<y.1
   ·have X: (y.1:Int)>s.x.1+s.x.2:=by omega
    cases c:s.put
    ·obtain⟨R,v',W3,A,r',a1,a2,a3,a4,a5,P,a7⟩:=M.append (bytes:=16) (el:=aA s.x) (by omega) (by omega) rfl rfl (E _ (by simp;omega)) none;have RS: ∀i,r'=some i->N+6<=i:=by
      intro i b;rcases a7 with q| ⟨q,C,K⟩
      ·rw[q]at b;exact f i b
      ·rw[C]at b;cases b;omega
     have u5:A[N+5]?=some (.box [.bool false] none):=by
      rw[P _ (by omega) (by omega) (λq=>by have:=f _ q;omega),<-c];exact f5 _
     have un:A[n]?=some (.box (aA y) none):=by
      rw[P _ (by omega) (by omega) (λq=>?_),<-w]
      ·simp
      ·rcases Y with⟨z,_⟩| ⟨id,ai,z,_,z2,z3,z4⟩
       ·rw[z]at q;cases q
       ·rw[z]at q;cases q;have:=dM z4;omega
     have aqb:SV (N+4) 2 fg (A.set (N+5) (.box [.bool true] none)) r' ((s.out++[s.x]).map aA):=by
      rw[aeq];exact SV.st a4 (abN (by omega)) λi b=>abN (by have:=RS i b;omega)
     obtain⟨vw,v2,V,W6,r2,b1,b2,b3,b4,b5,b6,b7⟩:=aqb.append (bytes:=16) (el:=aA y) (by rw[aen];omega) (by omega) rfl rfl (E _ (by simp;omega)) (some (N+4));have b1':A[N+4]?=some (.box [vw] none):=by rw[<-b1,abN (by omega)]
     have afK:cK (some (N+4)) (N+4)=some (N+4):=by simp[cK]
     simp(disch:=omega) only[go_sem,simprocAttr,yq,q8,q9,Kk,w,f3,f5,ey,ex,O,X,a1,a2,a3,CX,amj,c,u5,un,b1',b2,b3,afK];refine fin W6 {s with put:=true,out:=s.out++[s.x]++[y],row:=r2} _ _ (λi C K J S q5=>?_) ?_ ?_ (by rw[aeq];exact b4) rfl rfl (by rw[aen]at b5;omega) (.inr ⟨N+4,by omega,by omega,rfl,?_⟩) ⟨?_,g2,by simp;omega,g4⟩
     ·have Nt:r'≠some i:=by
        intro q;rcases a7 with z| ⟨z,z1,z2⟩
        ·rw[z]at q;exact q5 q
        ·rw[z1]at q;cases q;omega
      rw[b6 i (by rw[aen];omega) J Nt,abN (by omega),P i (by omega) J q5,abP (by omega)]
     ·rw[b6 _ (by rw[aen];omega) (by omega) (λq=>by have:=RS _ q;omega),abN (by omega),P _ (by omega) (by omega) (λq=>by have:=f _ q;omega)];exact f3 _
     ·rw[b6 _ (by rw[aen];omega) (by omega) (λq=>by have:=RS _ q;omega)];exact ac9 (by omega)
     ·rcases b7 with q| ⟨q,C,K⟩
      ·rcases a7 with z| ⟨z,z1,z2⟩
       ·exact .inl (q.trans z)
       ·exact .inr ⟨z,q.trans z1,by omega⟩
      ·rw[aen]at K;exact .inr ⟨q,C,by omega⟩
     ·rw[g1,hO,acz c1,acE c2,c];simp
    ·obtain⟨R,v',W3,A,r',a1,a2,a3,a4,a5,P,a7⟩:=M.append (bytes:=16) (el:=aA y) (by omega) (by omega) rfl rfl (E _ (by simp;omega)) none;simp(disch:=omega) only[go_sem,simprocAttr,yq,q8,q9,Kk,w,f3,f5,ey,ex,O,X,a1,a2,a3,CX,amj,c];refine fin A {s with out:=s.out++[y],row:=r'} _ _ (λi C K J S q5=>?_) ?_ ?_ (by rw[aeq];exact a4) rfl rfl (by omega) (.inr ⟨N+4,by omega,by omega,rfl,?_⟩) ⟨?_,g2,by simp;omega,g4⟩
     ·rw[P i (by omega) J q5,abP (by omega)]
     ·rw[P _ (by omega) (by omega) (λq=>by have:=f _ q;omega)];exact f3 _
     ·rw[P _ (by omega) (by omega) (λq=>by have:=f _ q;omega)];exact f5 _
     ·rcases a7 with q| ⟨q,C,K⟩
      ·exact .inl q
      ·exact .inr ⟨q,C,by omega⟩
     ·rw[g1,hO,acz c1,acE c2,c];simp
   have X: ¬(y.1:Int)>s.x.1+s.x.2:=by omega
   by_cases c3:y.1+y.2=s.x.1
   ·have Km: ((y.1:Int)+y.2=s.x.1)=True:=axz (by omega);simp(disch:=omega) only[go_sem,simprocAttr,yq,q8,w,f3,ey,ex,O,X,Km,amj];refine fin _ {s with x:=(y.1,y.2+s.x.2)} _ _ (λi C K J S q5=>?_) ?_ ?_ (M.st (abN (by omega)) λi b=>abN (by have:=f _ b;omega)) rfl rfl (by rw[aen];omega) (.inl ⟨rfl,rfl⟩) ⟨?_,by simp;omega,by simp;omega,g4⟩
    ·rw[abN (by omega),abP (by omega)]
    ·rw[ac9 (by omega)];rfl
    ·rw[abN (by omega)];exact f5 _
    ·rw[g1,hO,acz c1,acz c2,acE c3]
   have Km: ¬(y.1:Int)+y.2=s.x.1:=by omega
   by_cases c4:y.1=s.x.1+s.x.2
   ·have RT: ((y.1:Int)=s.x.1+s.x.2)=True:=axz (by omega);simp(disch:=omega) only[go_sem,simprocAttr,yq,q8,w,f3,ey,ex,O,X,Km,RT,amj];refine fin _ {s with x:=(s.x.1,s.x.2+y.2)} _ _ (λi C K J S q5=>?_) ?_ ?_ (M.st (abN (by omega)) λi b=>abN (by have:=f _ b;omega)) rfl rfl (by rw[aen];omega) (.inl ⟨rfl,rfl⟩) ⟨?_,by simp;omega,by simp;omega,g4⟩
    ·rw[abN (by omega),abP (by omega)]
    ·rw[ac9 (by omega)];rfl
    ·rw[abN (by omega)];exact f5 _
    ·rw[g1,hO,acz c1,acz c2,acz c3,acE c4]
   ·have RT: ¬(y.1:Int)=s.x.1+s.x.2:=by omega
    simp(disch:=omega) only[go_sem,simprocAttr,yq,J,q6,q7,q8,w,f0,f1,f2,f3,ey,ex,O,X,Km,RT,amj,RQ];obtain⟨Wf,ET⟩: ∃Wf,Wf=((Q++[ae.box (aA y) none]).set (N+1) (ae.box [v] none)).set (N+2) (ae.box [AV.bool false] none):=⟨_,rfl⟩;rw[<-ET];have hk: ∀i,i<n->i≠N+1->i≠N+2->Wf[i]?=Q[i]?:=λi C K J=>by
     rw[ET,abN (by omega),abN (by omega),abP (by omega)]
    have k1:Wf[N+1]?=some (.box [v] none):=by
     rw[ET,abN (by omega)];exact ac9 (by omega)
    have k2:Wf[N+2]?=some (.box [.bool false] none):=by
     rw[ET];exact ac9 (by rw[aen];omega)
    have kl:Wf.length=n+1:=by rw[ET];simp[w]
    refine⟨{s with res:=v,ok:=false},⟨λi b=>?_,?_,k1,k2,?_,?_,?_⟩,⟨?_,λi b hp hr=>?_⟩,.inl ⟨rfl,rfl⟩,rfl,?_,rfl,rfl⟩
    ·show Wf[i]?=_;rw[hk i (by omega) (by omega) (by omega)];exact p0 i b
    ·show Wf[N]?=_;rw[hk N (by omega) (by omega) (by omega)];exact p1
    ·show Wf[N+3]?=_;rw[hk _ (by omega) (by omega) (by omega)];exact p4
    ·show Wf[N+5]?=_;rw[hk _ (by omega) (by omega) (by omega)];exact p5
    ·exact Y.st (hk _ (by omega) (by omega) (by omega)) λi b=>by
      obtain⟨_,_,_,_,q⟩:=Y.row b;have:=dM q;have:=f i b;exact hk i (by omega) (by omega) (by omega)
    ·show Q.length<=Wf.length;omega
    ·have nm: ¬i<N+6:=hp;exact hk i (by omega) (by omega) (by omega)
    ·rw[g1,hO,acz c1,acz c2,acz c3,acz c4]
  ·intro g W' aj hI hP Hi hd oC RU;obtain⟨p0,p1,p2,p3,p4,p5,Y⟩:=hP;obtain⟨g1,g2,g3,g4,g5⟩:=hI;rw[wF,List.drop_length]at g1;rw[wF]at g3;have RR:=hl.1;have U:dX N aj:=by
    rcases RU with⟨rfl,_⟩| ⟨q,C,K,rfl⟩
    ·exact .inl rfl
    ·exact .inr ⟨q,C,rfl⟩
   have f: ∀i,g.row=some i->N+6<=i/\i≠F.length:=by
    intro i b;rcases Y with⟨q,_⟩| ⟨id,ai,q,_,K,J,S⟩
    ·rw[q]at b;cases b
    ·rw[q]at b;cases b;have:i≠N+5:=by rintro rfl;rw[p5]at S;cases S
     exact⟨by omega,by rintro rfl;rw[hd]at S;cases S⟩
   obtain⟨B,hB⟩: ∃B,B=((PC.aN [o 83 (I.load false 1 (ao.t 9)),o 84 (I.build [AV.an] [(0,1,ao.t 83)]),u (I.store 1 (ao.t 6) (ao.t 84)),u (I.store 1 (ao.t 7) (ao.c (AV.bool true)))]).seq PC.ret):=⟨_,rfl⟩;rw[<-hB];have fin: ∀ (V:List ae) (Z:oN) (fr:Env) (out:List aF) (r5:oN),(∀i,i<N->V[i]?=H[i]?)->SV (N+4) 2 fg V r5 (out.map aA)->(∃z,V[N+1]?=some (.box [z] none))->(∃z,V[N+2]?=some (.box [z] none))->
     V[F.length]?=some .fj->dX N Z->hO x false [] l=some out->fr 9= .ptr (N+4) 0->fr 6= .ptr (N+1) 0->fr 7= .ptr (N+2) 0->
     wp X0 120 false B ⟨fr,[F.length]⟩ ⟨V,Z⟩
      (dE X0 N lo [RV.cell 6 true 1,RV.cell 7 false 1] λx_1=>x_1=aT.ret (o7 v l x) ⟨H,lo⟩):=by
    intro V Z fr out r5 h1 h2 ⟨z1,h3⟩ ⟨z2,h4⟩ h5 h6 h7 h9 h10 xJ;obtain⟨R,b1,b2,b3,b4,b5⟩:=h2.own (N:=N) (by omega) (by intro el pT;obtain⟨r,_,rfl⟩:=ael.1 pT;rfl);have hl5:F.length<V.length:=dM h5;have s1: (V.set (N+1) (ae.box [R] none))[N+1]?=some (.box [R] none):=ac9 (by omega);have s2: ((V.set (N+1) (ae.box [R] none)).set (N+2) (ae.box [AV.bool true] none))[N+2]?=some (.box [.bool true] none):=ac9 (by rw[aen];omega);have e1:o7 v l x= .av [.agg [en out],.bool true]:=by unfold o7 iw;rw[acE m,h7]
    have hor:bT (out.map aA)=0:=bp (λ_=>rfl) out;have oC:bu R (out.map aA)=en out:=by
     rcases b2.2 with⟨rfl,q⟩| ⟨id,ai,_,rfl,_⟩
     ·have:out=[]:=aoq.1 q;subst this;rfl
     ·unfold en;cases out with
      |nil=>
       rcases h2 with⟨_,_,q⟩| ⟨_,_,_,q,_⟩
       ·rw[q]at b1;cases b1
       ·exact absurd rfl q
      |cons a l2=>rfl
    rw[hB];simp(disch:=omega) only[go_sem,simprocAttr,h9,h10,xJ,b1,b3,b4,h3,h4,h5,s1,s2,mj];have RW: ∀RX,Fz ⟨((V.set (N+1) (ae.box [R] none)).set (N+2) (ae.box [AV.bool true] none)).set F.length ae.dead,RX⟩ N 12 (.av [.agg [R],.bool true]) (.av [.agg [en out],.bool true]):=by
     intro RX;have aqf:aR N (((V.set (N+1) (ae.box [R] none)).set (N+2) (ae.box [AV.bool true] none)).set F.length ae.dead) R 2 fg (out.map aA):=by
      obtain⟨c1,c2⟩:=b2;refine⟨c1,?_⟩;rcases c2 with c2| ⟨id,ai,c3,c4,c5⟩
      ·exact .inl c2
      ·have d1:id≠N+1:=by rintro rfl;rw[h3]at c5;cases c5
       have d2:id≠N+2:=by rintro rfl;rw[h4]at c5;cases c5
       have d3:id≠F.length:=by rintro rfl;rw[h5]at c5;cases c5
       exact .inr ⟨id,ai,c3,c4,by rw[abN (by omega),abN (by omega),abN (by omega)];exact c5⟩
     have f1:=Fz.own (d:=0) (lo:=RX) aqf (by omega);rw[oC]at f1;exact(Fz.av (.cons (Fz.agg (.cons f1 .nil)) (.cons ((Fz.low (d:=0) (by simp[AV.refs])).mono (by omega)) .nil))).mono (by omega)
    have ml: (((V.set (N+1) (ae.box [R] none)).set (N+2) (ae.box [AV.bool true] none)).set F.length ae.dead).take N=H:=kS hN λi b=>by
     rw[abN (by omega),abN (by omega),abN (by omega)];exact h1 i b
    have hl6:dX N (if R.refs<=N+1+1 then Z else cK Z (N+1)):=by
     split
     ·exact h6
     ·exact h6.min (p:=N+1) (by omega) (.inr rfl)
    rw[s8 hl6 (RW _),ml,e1]
   have p0': ∀i,i<N->W'[i]?=H[i]?:=p0;have p1':W'[N+1]?=some (.box [g.res] none):=p2;cases c:g.put
   ·have M:SV (N+4) 2 fg W' g.row (g.out.map aA):=Y;obtain⟨R,v',W3,A,r',a1,a2,a3,a4,a5,P,a7⟩:=M.append (bytes:=16) (el:=aA g.x) (by omega) (by omega) rfl rfl (by unfold room;simp;omega) aj;have k: ∀i,i<N+4->A[i]?=W'[i]?:=λi b=>P i (by omega) (by omega) (λq=>by have:=(f _ q).1;omega)
    simp(disch:=omega) only[go_sem,simprocAttr,q8,q9,Kk,p4,p5,c,a1,a2,a3];refine fin A _ _ (g.out++[g.x]) r' (λi b=>by rw[k i (by omega)];exact p0' i b) (by rw[aeq];exact a4) ⟨_,by rw[k (N+1) (by omega)];exact p2⟩ ⟨_,by rw[k (N+2) (by omega)];exact p3⟩ ?_ (U.min (p:=N+4) (by omega) (.inr rfl)) ?_ q9 q6 q7
    ·rw[P F.length (by omega) (by omega) (λq=>(f _ q).2 rfl)];exact hd
    ·rw[g1,hO,c];rfl
   ·simp(disch:=omega) only[go_sem,simprocAttr,Kk,p5,c];refine fin W' _ _ g.out g.row p0' Y ⟨_,p2⟩ ⟨_,p3⟩ hd U ?_ q9 q6 q7;rw[g1,hO,c];rfl
  ·intro ex g W' aj hJ hP Hi hd oC RU;obtain⟨p0,p1,p2,p3,p4,p5,Y⟩:=hP;obtain⟨rfl,g1,g2,g3⟩:=hJ;have U:dX N aj:=by
    rcases RU with⟨rfl,_⟩| ⟨q,C,K,rfl⟩
    ·exact .inl rfl
    ·exact .inr ⟨q,C,rfl⟩
   rw[g2]at p2;rw[g3]at p3;have e1:o7 v l x= .av [.agg [v],.bool false]:=by unfold o7 iw;rw[acE m,g1]
   have RW:Fz ⟨W'.set F.length ae.dead,aj⟩ N 12 (.av [.agg [v],.bool false]) (.av [.agg [v],.bool false]):=Fz.low (by simp[AV.refs,aI,RQ]);have ml: (W'.set F.length ae.dead).take N=H:=kS hN λi b=>by rw[abN (by omega)];exact p0 i b
   simp(disch:=omega) only[go_sem,simprocAttr,q6,q7,mj,hd,p2,p3];rw[s8 U RW,ml,e1]
def afM(t:aw)(x:Nat): (aL t x).1.up=bH t x:=by unfold aL bH;split<;>rfl
theorem kb{r:df}:aM [AV.int .u32 0,.int .i64 0,.an,.int .i64 0,.int .u32 0,.int .u32 0,.int .u32 0,.int .u32 0,.int .u32 0,.int .u32 0,.int .u32 0,.int .u32 0] 0 (bR r)=bR r:=by rfl
def RY(t:aw)(h:Nat)(N:Nat)(H:List ae)(b:H.length=N)(lo:oN):D X0 (.fn (.func 293) [] []) [.agg (aK t),.int .u32 h] ⟨H,lo⟩=some (.ret (.fn (.func 325) [] [.ptr N 0,.ptr (N+1) 0]) ⟨H++[.box (aK t) none,.box [.int .u32 h] none],lo⟩):=by
 refine aH Qv λM a=>?_
 obtain rfl:M=N:=by omega
 simp only[go_sem,simprocAttr,Qv,a];rw[Bu (by omega)]
def m2(t:aw)(h:Nat):List lA:=(aS t h).map λx=>[.int .u32 (x:Nat)]
def RZ(t:aw)(ht:bL t)(hT:cp t)(h:Nat)(hh:h<4294967296)(a:Nat):
  s7 X0 (.fn (.func 325) [] [.ptr a 0,.ptr (a+1) 0]) a [.box (aK t) none,.box [.int .u32 h] none] (m2 t h):=by
 intro S V y I J b P m sX W s hP h0 vG z hG lo;have o: ∀i,V.dp i->i<b:=λi hi=>(m i hi).1
 suffices h: ∃Y,D X0 (.fn (.func 325) [] [.ptr a 0,.ptr (a+1) 0]) [y] ⟨W,lo⟩=some Y/\
   (λY=> ∃v u aj,Y=aT.ret (.av []) ⟨u,aj⟩/\V.P v u/\ (I (m2 t h).length v\/J v)/\b<=u.length/\
     (∀i,i<b-> ¬V.dp i-> ¬(a<=i/\i<a+[ae.box (aK t) none,.box [.int .u32 (h:Nat)] none].length)->u[i]?=W[i]?)/\kq V.c b lo aj none (V.row v)) Y by
  obtain⟨Y,h1,v,u,aj,rfl,q1,q2,q3,q4,q5⟩:=h;exact⟨v,u,aj,h1,q1,q2,q3,q4,q5⟩
 refine wE QN rfl rfl rfl λN hN=>?_
 obtain rfl:N=b:=by omega
 have g0:W[a]?=some (.box (aK t) none):=hG 0 (by simp);have g1:W[a+1]?=some (.box [.int .u32 h] none):=hG 1 (by simp);have ha:=dM g1;have R0: ¬V.dp a:=λq=>(m a q).2 ⟨by omega,by simp⟩
 have A: ¬V.dp (a+1):=λq=>(m _ q).2 ⟨by omega,by simp⟩
 simp only[go_sem,simprocAttr,QN];refine iJ ((aS t h).length+1) (λk e u aj=> ∃v x,I k v/\jR V N W (λi=>a<=i/\i<a+[ae.box (aK t) none,.box [.int .u32 (h:Nat)] none].length) v u aj/\u[a]?=some (.box (aK t) none)/\u[a+1]?=some (.box [.int .u32 (x:Nat)] none)/\x<4294967296/\k<=(aS t h).length/\aS t x=(aS t h).drop k/\e 0=y/\e 1= .ptr a 0/\e 2= .ptr (a+1) 0) 0 (by omega) ?_ ?_
 ·simp only[go_sem,simprocAttr];exact⟨s,h,h0,⟨hP,by omega,λ_ _ _ _=>rfl,.inl ⟨rfl,z⟩,λr e=>by rw[z]at e;cases e⟩,g0,g1,hh,rfl⟩
 rintro k hk e W1 Q ⟨s1,x,hI,X,w0,w1,hx,R3,p,e0,e1,e2⟩ n U;have g:=sh hT x;have R5:N<=n:=by have:=X.len;omega
 have f0: ∀L,(W1++L)[a]?=some (.box (aK t) none):=λL=>bf w0
 have f1: ∀L,(W1++L)[a+1]?=some (.box [.int .u32 x] none):=λL=>bf w1
 have Z:=uJ t ht x hx;have hu:=afM t x;have f: (aL t x).2=if t.az x then 0 else 4:=by unfold aL;split<;>rfl
 have B: ∀L,bH t x=0-> ∃j d,finish N lo (.av []) ⟨W1++L,Q⟩=(.av [],⟨j,d⟩)/\V.P s1 j/\ (I (m2 t h).length s1\/J s1)/\N<=j.length/\ (∀i,i<N-> ¬V.dp i-> ¬(a<=i/\i<a+[ae.box (aK t) none,.box [.int .u32 (h:Nat)] none].length)->j[i]?=W[i]?)/\kq V.c N lo d none (V.row s1):=by
  intro L G;obtain⟨j,d,w,F,l,E,C⟩:=(X.push P o L).fin P o (dB:=lo);refine⟨j,d,w,F,.inl ?_,l,E,C⟩;rw[acE G]at g;rw[g]at p;have:=afW List.length p;rw[alN]at this;have e: (m2 t h).length=(aS t h).length:=by simp[m2]
  simp only[alQ]at this;rw[e,show(aS t h).length=k by omega];exact hI
 cases H:t.az x
 ·rw[H]at f;have G:bH t x=0:=by unfold bH;rw[H];rfl
  obtain⟨j,d,w,F,l,E,C,O⟩:=B [.box (bR (aL t x).1) none] G;simp only[go_sem,simprocAttr,EA,e1,e2,w0,w1,Z,m0,kb,f,U,w];exact⟨s1,j,d,rfl,F,l,E,C,O⟩
 ·rw[H]at f;by_cases G:bH t x=0
  ·obtain⟨j,d,w,F,l,E,C,O⟩:=B [.box (bR (aL t x).1) none] G;simp only[go_sem,simprocAttr,EA,e1,e2,w0,w1,Z,m0,kb,f,U,hu,G,w];exact⟨s1,j,d,rfl,F,l,E,C,O⟩
  ·have R: ¬((bH t x:Nat):Int)=0:=by omega
   rw[acz G]at g;have hk':k< (aS t h).length:=by
    have:=afW List.length (g ▸ p);rw[alN]at this;simp only[aep]at this;omega
   have vB: (m2 t h)[k]?=some [.int .u32 (bH t x:Nat)]:=by
    unfold m2;rw[aeA];have: (aS t h)[k]?=((aS t h).drop k)[0]?:=by rw[ajQ];rfl
    rw[this,<-p,g];rfl
   have M:=X.push P o [.box (bR (aL t x).1) none];obtain⟨c,s2,W2,mm,w,F,l,E,C,O⟩:=sX k _ s1 vB hI (W1++[.box (bR (aL t x).1) none]) M.P M.len Q;have K:=M.step F l E C;have T: ∀i,i<N->V.row s1≠some i:=λi hi q=>by have:=X.row _ q;omega
   have v0:W2[a]?=some (.box (aK t) none):=by rw[l.2 a (by simp;omega) R0 (T _ (by omega))];exact f0 _
   have v1:W2[a+1]?=some (.box [.int .u32 x] none):=by rw[l.2 (a+1) (by simp;omega) A (T _ (by omega))];exact f1 _
   have hWn:n+1<=W2.length:=by have:=l.1;simp at this;omega
   have vn:W2[n]?=some (.box (bR (aL t x).1) none):=by
    rw[l.2 n (by simp;omega) (λq=>by have:=o _ q;omega) (λq=>by have:=P.Hj X.P q;omega)];rw[<-U];simp
   cases c
   ·obtain⟨j,d,q1,q2,q3,q4,q5⟩:=K.fin P o (dB:=lo);simp only[go_sem,simprocAttr,EA,e0,e1,e2,w0,w1,Z,m0,kb,f,U,hu,R,w,q1];exact⟨s2,j,d,rfl,q2,.inr O,q3,q4,q5⟩
   ·simp(disch:=omega) only[go_sem,simprocAttr,EA,e0,e1,e2,w0,w1,Z,m0,kb,f,U,hu,R,w,v0,v1,vn];refine⟨by omega,s2,bH t x,O,?_,?_,apM,by omega,?_⟩
    ·exact K.set P A (λq=>by have:=K.row _ q;omega) (.inl ⟨by omega,by simp⟩)
    ·exact ac9 (by omega)
    ·have:=afW (List.drop 1) (g ▸ p);rw[an4]at this;simpa using this
def R6{t:aw}{x:lA}(a: (m2 t h)[j]?=some x): ∃u,x=[.int .u32 (u:Nat)]/\ (aS t h)[j]?=some u:=by
 unfold m2 at a
 grind
def R7(t:aw)(h:Nat): (m2 t h).length=(aS t h).length:=by simp[m2]
def Kn(t:aw)(v:bL t)(q:cp t)(h:Nat)(m:h<4294967296)(H:List ae)(lo:oN):D X0 (.fn (.func 285) [] []) [.agg (aK t),.int .u32 h] ⟨H,lo⟩=some (.ret (.int .i64 (depth t h:Nat)) ⟨H,lo⟩):=by
 refine aH JN λN f=>?_
 have g:az t.b h=t.az h:=rfl;have a:=ew t.b h m;simp only[g]at a;cases b:t.az h
 ·simp only[F1,go_sem,simprocAttr,JN,f,a,depth,b,aek]
 ·rw[b]at a;have C:=RY t h (N+2) (H++[.box (aK t) none,.box [.int .i64 1] none]) (by simp[f]) none;simp only[go_sem,simprocAttr,JN,f,a,C];refine s9 (S:=Nat) (λe=>e 5= .ptr (N+1) 0) (by simp only[go_sem,simprocAttr]) (m2 t h) f [.box (aK t) none,.box [.int .u32 h] none] (λn=>[.box (aK t) none,.box [.int .i64 (n+1:Nat)] none]) (nB:=2) (λ_=>rfl) 0 (λj s=>s=j) (λ_ _=>False) rfl ?_ (by simp) rfl (λ_ _ h=>h.elim) ?_ ?_ ?_
  ·exact RZ t v q h m (N+2)
  ·rintro e he j x s r rfl;obtain⟨u,rfl,hu⟩:=R6 r;refine⟨rfl,λW n I z k=>?_⟩;simp only[go_sem,simprocAttr,gT];refine⟨[],by simp,λK E d=>?_⟩;simp only[eP,eO,akq,aem]at d;obtain⟨w0,w1⟩:=d;have G:s< (aS t h).length:=(abQ.1 hu).1;have w:=q h;simp(disch:=omega) only[go_sem,simprocAttr,ad2,he,w1,aeC,nz];refine⟨s+1,?_,λi J A=>abN (by omega),rfl⟩;simp only[eP,eO,akq,aem];exact⟨by rw[abN (by omega)];exact w0,ac9 (by omega)⟩
  ·rintro e he s W p y rfl c k B;simp only[eP,eO,akq,aem]at k;obtain⟨w0,w1⟩:=k;have l: ∀o,(W.set p o).take N=H:=λo=>(c.set (by omega)).take f
   simp only[F1,go_sem,simprocAttr,he,w1,B,mj,l];rw[R7];refine de (afW _ ?_) rfl;unfold depth;rw[acE b];omega
  ·rintro e he ex s W p y F;exact F.elim
def aqh{t:aw}(b:cp t)(c:h<4294967296):root t h<4294967296:=by
 unfold root;split
 ·cases e:aS t h with
  |nil=>grind
  |cons a l=>
   have hm: (aS t h).getLastD h∈aS t h:=by grind
   rw[<-e];exact gi (apN b hm)
 ·omega
def zb(t:aw)(r:bL t)(C:cp t)(h:Nat)(m:h<4294967296)(H:List ae)(lo:oN):D X0 (.fn (.func 259) [] []) [.agg (aK t),.int .u32 h] ⟨H,lo⟩=some (.ret (.int .u32 (root t h:Nat)) ⟨H,lo⟩):=by
 refine aH JH λN f=>?_
 have g:az t.b h=t.az h:=rfl;have a:=ew t.b h m;simp only[g]at a;cases b:t.az h
 ·simp only[F1,go_sem,simprocAttr,JH,f,a,root,b,aek]
 ·rw[b]at a;have A:=RY t h (N+2) (H++[.box (aK t) none,.box [.int .u32 h] none]) (by simp[f]) none;simp only[go_sem,simprocAttr,JH,f,a,A];refine s9 (S:=Nat) (λe=>e 3= .ptr (N+1) 0) (by simp only[go_sem,simprocAttr]) (m2 t h) f [.box (aK t) none,.box [.int .u32 h] none] (λn=>[.box (aK t) none,.box [.int .u32 (n:Nat)] none]) (nB:=2) (λ_=>rfl) h (λj s=>s=((aS t h).take j).getLastD h) (λ_ _=>False) rfl ?_ (by simp) rfl (λ_ _ h=>h.elim) ?_ ?_ ?_
  ·exact RZ t r C h m (N+2)
  ·rintro e he j x s q rfl;obtain⟨u,rfl,hu⟩:=R6 q;refine⟨rfl,λW n F w k=>?_⟩;simp only[go_sem,simprocAttr,gT];refine⟨[],by simp,λI B d=>?_⟩;simp only[eP,eO,akq,aem]at d;obtain⟨w0,w1⟩:=d;simp only[go_sem,simprocAttr,adY,he,w1,aeC,nz];refine⟨u,?_,λi G y=>abN (by omega),?_⟩
   ·simp only[eP,eO,akq,aem];exact⟨by rw[abN (by omega)];exact w0,ac9 (by omega)⟩
   ·rw[aex,hu];simp
  ·rintro e he s W p v rfl c k z;simp only[eP,eO,akq,aem]at k;obtain⟨w0,w1⟩:=k;have l: ∀o,(W.set p o).take N=H:=λo=>(c.set (by omega)).take f
   simp only[F1,go_sem,simprocAttr,he,w1,z,mj,l];rw[R7,aeo];refine de (afW _ ?_) rfl;unfold root;rw[acE b]
  ·rintro e he ex s W p v E;exact E.elim
noncomputable def lD:lA->AS->Option aT:=ny X0 (D X0) Lw 56 IZ
noncomputable def X1:Ctx:={X0 with bU:=λf=>if f=56 then some lD else none}
noncomputable def m4:lA->AS->Option aT:=ny X1 (D X1) Lw 19 IW
noncomputable def X2:Ctx:={X0 with bU:=λf=>if f=56 then some lD else if f=19 then some m4 else none}
noncomputable def o8:lA->AS->Option aT:=ny X2 (D X2) Lw 193 Ej
noncomputable def X3:Ctx:={X0 with bU:=λf=>if f=56 then some lD else if f=19 then some m4 else if f=193 then some o8 else none}
noncomputable def qR:lA->AS->Option aT:=ny X3 (D X3) Lw 190 Jx
noncomputable def X4:Ctx:={X0 with bU:=λf=>if f=56 then some lD else if f=19 then some m4 else if f=193 then some o8 else if f=190 then some qR else none}
noncomputable def wG:lA->AS->Option aT:=ny X4 (D X4) Lw 188 Jw
noncomputable def X5:Ctx:={X0 with bU:=λf=>if f=56 then some lD else if f=19 then some m4 else if f=193 then some o8 else if f=190 then some qR else if f=188 then some wG else none}
noncomputable def zd:lA->AS->Option aT:=ny X5 (D X5) Lw 182 Jv
noncomputable def X6:Ctx:={X0 with bU:=λf=>if f=56 then some lD else if f=19 then some m4 else if f=193 then some o8 else if f=190 then some qR else if f=188 then some wG else if f=182 then some zd else none}
noncomputable def Bw:lA->AS->Option aT:=ny X6 (D X6) Lw 167 Eg
noncomputable def X:Ctx:={X0 with bU:=λf=>if f=56 then some lD else if f=19 then some m4 else if f=193 then some o8 else if f=190 then some qR else if f=188 then some wG else if f=182 then some zd else if f=167 then some Bw else none}
def EU{P:FuncId->Option (lA->AS->Option aT)}(h: ∀f,kL.contains f=false->P f=none):Ext X0 {X0 with bU:=P}where
 dy:=rfl
 fG:=rfl
 code:=rfl
 bU:=λf=>by
  cases a:kL.contains f
  ·left;exact h f a
  ·right
   refine⟨rfl,?_⟩;show(if kL.contains f then none else yx.lookup f)=none
   grind
def ib{g:FuncId}(h:kL.contains f=false)(a:kL.contains g=true):f≠g:=by grind
def afN:Ext X0 X2:=EU λf h=>by rw[acz (ib h rfl),acz (ib h rfl)]
def aqi:Ext X0 X3:=EU λf h=>by rw[acz (ib h rfl),acz (ib h rfl),acz (ib h rfl)]
def aqj:Ext X0 X4:=EU λf h=>by rw[acz (ib h rfl),acz (ib h rfl),acz (ib h rfl),acz (ib h rfl)]
def afO:Ext X0 X6:=EU λf h=>by rw[acz (ib h rfl),acz (ib h rfl),acz (ib h rfl),acz (ib h rfl),acz (ib h rfl),acz (ib h rfl)]
def dj:Ext X0 X:=EU λf h=>by rw[acz (ib h rfl),acz (ib h rfl),acz (ib h rfl),acz (ib h rfl),acz (ib h rfl),acz (ib h rfl),acz (ib h rfl)]
def aqk(p:Nat->Bool)(k:Nat): (List.range (k+1)).filter p=(List.range k).filter p++(if p k then[k]else[]):=by grind [List.range_succ]
def aR.le{N M:Nat}{H:List ae}{ty:TypeId}(h:aR N H v sz ty af)(b:M<=N):aR M H v sz ty af:=by
 obtain⟨a,c⟩:=h;refine⟨a,?_⟩
 grind
def qS(b:cM)(k:Nat):lN:=((List.range k).filter λi=>(b i).eJ).map λi=>c7 i (b i).gen
def aql(b:cM)(k:Nat):qS b (k+1)=if(b k).eJ then qS b k++[c7 k (b k).gen]else qS b k:=by
 unfold qS;rw[aqk]
 grind
def aqm(b:cM)(k:Nat): (qS b k).length<=k:=by
 unfold qS
 grind
def R8(b:cM)(A:gO b)(N:Nat)(H:List ae)(w:H.length=N)(lo:oN): ∃v J,lD [.agg (bY b)] ⟨H,lo⟩=some (.ret v ⟨H++J,lo⟩)/\aR (N+1) (H++J) v 1 bZ ((bn b).map hC):=by
 suffices h: ∃o,lD [.agg (bY b)] ⟨H,lo⟩=some o/\ (λo=> ∃v J,o=aT.ret v ⟨H++J,lo⟩/\aR (N+1) (H++J) v 1 bZ ((bn b).map hC)) o by
  obtain⟨o,m,v,J,rfl,B⟩:=h;exact⟨v,J,m,B⟩
 refine vF (X:=X0) IZ rfl λM E=>?_
 obtain rfl:M=N:=by omega
 have u: (H++[ae.box (bY b) none]).length=M+1:=by simp[w]
 simp only[go_sem,simprocAttr,IZ,w];refine ek 32 (λk e H'=>(H++[ae.box (bY b) none])<+:H'/\ (∃v,e 3=v/\aR (M+1) H' v 1 bZ ((qS b k).map hC))/\e 1= .ptr M 0/\e 7= .int .i64 k) 0 (by omega) ?_ ?_
 ·simp only[go_sem,simprocAttr];exact⟨aoN,_,rfl,aR.an⟩
 rintro k D e H' ⟨⟨L,rfl⟩,⟨v,y,a⟩,m,x⟩ n C;have j: (H++[ae.box (bY b) none]++L)[M]?=some (.box (bY b) none):=by rw[acF,di w];rfl
 have t:=apS b A k (H++(.box (bY b) none::L)) none;simp only[acF,af3,afY]at j;have q:=aqm b k;simp only[cg,go_sem,simprocAttr,adp,m,y,x,j,t,atR];refine⟨λh=>?_,λh=>?_⟩
 ·have c:k<32:=by omega
  have d:=aql b k;cases z: (b k).eJ
  ·rw[z]at d;simp(disch:=omega) only[go_sem,simprocAttr,c,m,y,x,dT];rw[d];exact⟨⟨L,by simp⟩,v,rfl,by simpa using a⟩
  ·rw[z]at d;simp only[go_sem,simprocAttr,c,y,dT];have i: (H++[ae.box (bY b) none])<+: (H++(.box (bY b) none::L)):=⟨L,by simp⟩;have g:aR (M+1) (H++(.box (bY b) none::L)) v 1 bZ ((qS b k).map hC):=by simpa using a
   refine oA (H0:=H++[ae.box (bY b) none]) (ys:=[[.int .u32 (c7 k (b k).gen:Nat)]]) g i u (by omega) (by intro el s;rw[ada.1 s];rfl) rfl (by unfold room;simp;omega) λv' F f r=>?_
   simp(disch:=omega) only[go_sem,simprocAttr,m,x];refine⟨c,r,?_⟩;rw[d];have:List.map hC (qS b k++[c7 k (b k).gen])=List.map hC (qS b k)++[[.int .u32 (c7 k (b k).gen:Nat)]]:=by simp[hC]
   simp only[aeE];rw[this];exact⟨v',rfl,f⟩
 ·obtain rfl:k=32:=by omega
  have:bn b=qS b 32:=rfl;rw[this];simp only[go_sem,simprocAttr,rK,fX];exact⟨_,_,rfl,by simpa using a⟩
def sw{X:Ctx}{p:lA->AS->Option aT}{args:lA}{E:AS}{r:aT}(a:X.bU f=some p)(h:p args E=some r):D X (.fn (.func f) [] []) args E=some r:=CV a h
def afP(b:cM)(d:gO b)(N:Nat)(H:List ae)(e:H.length=N)(lo:oN): ∃v J,m4 [.agg (bY b)] ⟨H,lo⟩=some (.ret v ⟨H++J,lo⟩)/\aR (N+1) (H++J) v 1 bZ ((bn b).map hC):=by
 suffices h: ∃a,m4 [.agg (bY b)] ⟨H,lo⟩=some a/\ (λa=> ∃v J,a=aT.ret v ⟨H++J,lo⟩/\aR (N+1) (H++J) v 1 bZ ((bn b).map hC)) a by grind
 refine vF (X:=X1) IW rfl λM g=>?_
 obtain rfl:M=N:=by omega
 obtain⟨v,J,e1,f⟩:=R8 b d (M+1) (H++[.box (bY b) none]) (by grind) none;have c:D X1 (.fn (.func 56) [] []) [.agg (bY b)] ⟨H++[.box (bY b) none],none⟩=some (.ret v ⟨H++[.box (bY b) none]++J,none⟩):=sw (p:=lD) rfl e1;simp only[go_sem,simprocAttr,IW,e,c,rK,fX];exact⟨_,_,rfl,(aR.le (M:=M+1) f (by omega)).mono (by simp)⟩
def o9{H:List ae}{o:ae}(h:H[i]?=some o):H.set i o=H:=by
 apply al4
 grind
def afQ{H:List ae}{id:Nat}{ty:TypeId}(h:H[id]?=some (.row ai 1 ty af))(a:i<af.length)(b: ∀el∈af,el.length=1)(g:v.cm=false)(f:v.cells=[v])(d:v.refs=0):
  jM ⟨H,lo⟩ 1 (.dc id ai i 0) v=some ⟨H.set id (.row ai 1 ty (af.set i [v])),lo⟩:=by
 have c:=b _ (as1 a);simp only[jM,h,acJ a];rw[acE ⟨trivial,c,g,by grind,by omega⟩];have e:aM af[i] 0 v.cells=[v]:=by
  rw[f];simp only[aM,List.take_zero,afY,aep,alQ,ajg]
  grind
 rw[e];simp[AS.set,d]
def EV{H:List ae}{id:Nat}{ty:TypeId}{c:Bool}(h:H[id]?=some (.row ai 1 ty af))(d:n<=af.length)(b: ∀el∈af,el.length=1):Rd ⟨H,lo⟩ (.ref id ai 1 0 n c) 1 (af.take n):=by
 refine⟨trivial,?_,λel a=>b el (afZ a)⟩;simp only[Den.elems,h]
 grind
def aqn{id:Nat}(h:i<=n):fZ 1 (.ref id ai 1 0 n false) (some (.int .i64 (i:Nat))) none none=some (.ref id ai 1 i (n-i) false):=by
 simp only[fZ,fY,k0,k5]
 grind
def afR{id:Nat}(h:i<=n):fZ 1 (.ref id ai 1 0 n false) none (some (.int .i64 (i:Nat))) none=some (.ref id ai 1 0 i false):=by
 simp only[fZ,fY,k0,k5]
 grind
def kept(p:Nat->Bool)(l:lN)(k:Nat):lN:=(l.take k).filter λh=>!p h
def gk(p:Nat->Bool)(l:lN)(k:Nat):lN:=kept p l k++l.drop (kept p l k).length
section
variable{p:Nat->Bool}{l:lN}{k:Nat}
def R9: (kept p l k).length<=k:=afI (af0 _ _) (by grind)
def afS: (kept p l k).length<=l.length:=afI (af0 _ _) (by grind)
def ze: (gk p l k).length=l.length:=by
 have:=afS (p:=p) (l:=l) (k:=k);simp only[gk,ac6,alN];omega
theorem getD_eq(a:k<l.length):l.getD k default=l[k]:=by grind
def EW(a:k<l.length):kept p l (k+1)=if p (l.getD k default)=true then kept p l k else kept p l k++[l.getD k default]:=by
 have e:l.take (k+1)=l.take k++[l.getD k default]:=by simp_all
 unfold kept
 grind
def aqo(a:k<l.length): (gk p l k).getD k default=l.getD k default:=by
 have b:=R9 (p:=p) (l:=l) (k:=k);unfold gk
 grind
def aqp(b:k<l.length)(a:p (l.getD k default)=false): (gk p l k).set (kept p l k).length (l.getD k default)=gk p l (k+1):=by
 have c:=R9 (p:=p) (l:=l) (k:=k);have e:=EW (p:=p) b;rw[a]at e;unfold gk;have d:l.drop (kept p l k).length=l[(kept p l k).length]'(by omega)::l.drop ((kept p l k).length+1):=amf (by omega)
 grind
def aqq(b:k<l.length)(a:p (l.getD k default)=true):gk p l (k+1)=gk p l k:=by
 have e:=EW (p:=p) b;rw[acE a]at e;unfold gk;rw[e]
def aqr(h:l.findIdx? p=some b):b<l.length/\kept p l (b+1)=l.take b:=by
 rw[arp]at h;obtain⟨c,g,f⟩:=h;refine⟨c,?_⟩;rw[EW c,acE (by grind)];unfold kept;rw[List.filter_eq_self];intro a d;obtain⟨j,e,rfl⟩:=aor d
 grind
def afT:kept p l l.length=l.filter λh=>!p h:=by unfold kept;grind
end
def aqs{H:List ae}{id off len:Nat}{c:Bool}{ty:TypeId}(h:H[id]?=some (.row ai 1 ty af))(a:off+len<=af.length):
  rj ⟨H,lo⟩ [.int .u32 0] (.ref id ai 1 off len c)=some ⟨H.set id (.row ai 1 ty (af.take off++(List.replicate len [.int .u32 0]++af.drop (off+len)))),lo⟩:=by
 simp only[rj,h];rw[acE ⟨trivial,trivial,rfl,a,rfl⟩];simp[AS.set]
def map_set{β:Type}(g:α->β)(l:List α)(i:Nat)(x:α): (l.map g).set i (g x)=(l.set i x).map g:=by simp
def aqt(id ai:Nat)(H:List ae)(l:lN)(hl:l.length<=1000)(i:H[id]?=some (.row ai 1 bZ (l.map hC)))(fv:AV)(p:Nat->Bool)
  (T: ∀af,∀h∈l,D X2 fv [.int .u32 h] ⟨H.set id (.row ai 1 bZ af),none⟩=some (.ret (.bool (p h)) ⟨H.set id (.row ai 1 bZ af),none⟩)) (lo:oN):
  ∃rest,o8 [.ref id ai 1 0 l.length false,fv] ⟨H,lo⟩=some (.ret (.ref id ai 1 0 (l.filter λh=>!p h).length false) ⟨H.set id (.row ai 1 bZ ((l.filter λh=>!p h).map hC++rest)),lo⟩)/\ ∀el∈rest,el=[.int .u32 0]:=by
 suffices h: ∃A,o8 [.ref id ai 1 0 l.length false,fv] ⟨H,lo⟩=some A/\ (λA=> ∃rest,A=aT.ret (.ref id ai 1 0 (l.filter λh=>!p h).length false) ⟨H.set id (.row ai 1 bZ ((l.filter λh=>!p h).map hC++rest)),lo⟩/\ ∀el∈rest,el=[.int .u32 0]) A by grind
 have J:=(abQ.1 i).1;have V: ∀el∈l.map hC,el.length=1:=by intro el f;obtain⟨x,_,rfl⟩:=ael.1 f;rfl
 have Q:=o9 i;have O: ∀h∈l,D X2 fv [.int .u32 h] ⟨H,none⟩=some (.ret (.bool (p h)) ⟨H,none⟩):=λh hm=>by
  have:=T (l.map hC) h hm;rwa[Q]at this
 have G:Rd ⟨H,none⟩ (.ref id ai 1 0 l.length false) 1 (l.map hC):=by
  have:=EV (lo:=none) (c:=false) (n:=l.length) i (by simp) V;rwa[ac4 (by simp)]at this
 have w:=afA afN (.ref id ai 1 0 l.length false) fv l H G (by omega) p none O;refine vF (X:=X2) Ej rfl λM hM=>?_
 cases m:l.findIdx? p with
 |none=>
  have K:ka p l= -1:=by unfold ka;rw[m]
  have N:l.filter (λh=>!p h)=l:=by
   rw[List.filter_eq_self];intro a Z;rw[List.findIdx?_eq_none_iff]at m;simp[m a Z]
  simp only[go_sem,simprocAttr,Ej,w,K,rK,fX];exact⟨[],by rw[N,aeC,Q],λ_ h=>by cases h⟩
 |some i0=>
  have K:ka p l=(i0:Nat):=by unfold ka;rw[m]
  have u: ((i0:Nat):Int)≠ -1:=by omega
  obtain⟨Y,v⟩:=aqr m;have b: ∀af,(H.set id (.row ai 1 bZ af))[id]?=some (.row ai 1 bZ af):=λaf=>ac9 J
  have P:gk p l (i0+1)=l:=by
   have e: (l.take i0).length=i0:=by rw[aeD];omega
   unfold gk;rw[v,e,amx]
  simp(disch:=omega) only[go_sem,simprocAttr,Ej,w,K,u];refine ek l.length (λk e H'=>H'=H.set id (.row ai 1 bZ ((gk p l k).map hC))/\e 0= .ref id ai 1 0 l.length false/\e 1=fv/\e 5= .int .i64 (kept p l k).length/\e 6= .int .i64 k) (i0+1) (by omega) ?_ ?_
  ·have e: (kept p l (i0+1)).length=i0:=by rw[v,aeD];omega
   rw[P,e];simp only[go_sem,simprocAttr,Q]
  ·rintro k hk e H' ⟨rfl,z,U,y,R⟩ n hn;have q: ∀lo,Rd ⟨H.set id (.row ai 1 bZ ((gk p l k).map hC)),lo⟩ (.ref id ai 1 0 l.length false) 1 ((gk p l k).map hC):=λlo=>by
    have:=EV (lo:=lo) (c:=false) (n:=l.length) (b ((gk p l k).map hC)) (by rw[aej,ze];exact aeg _) (by intro el f;obtain⟨x,_,rfl⟩:=ael.1 f;rfl);rwa[ac4 (by rw[aej,ze];exact aeg _)]at this
   have W:=R9 (p:=p) (l:=l) (k:=k);have r:=afS (p:=p) (l:=l) (k:=k);have j: ∀E,fb E .sl (.ref id ai 1 0 l.length false)=some (.int .i64 l.length):=λE=>rfl
   simp only[cg,go_sem,simprocAttr,adQ,z,y,R,j];refine⟨λh=>?_,λh=>?_⟩
   ·have d:k<l.length:=by omega
    have I:k< (gk p l k).length:=by rw[ze];exact d
    have L:=aqo (p:=p) d;have s:=λ (a:Int)=>(q none).cG (k:=.i64) (a:=a)
    have o:=(q none).cS (X:=X2) (off:=0) (n:=1) (agg:=false) I;have g:=T ((gk p l k).map hC) (l.getD k default) (fE d);rw[L]at o;simp only[eh,ajg]at o;rw[ze]at s;cases t:p (l.getD k default)
    ·rw[t]at g;have B:jM ⟨H.set id (.row ai 1 bZ ((gk p l k).map hC)),none⟩ 1 (.dc id ai (kept p l k).length 0) (.int .u32 (l.getD k default))=some ⟨H.set id (.row ai 1 bZ ((gk p l (k+1)).map hC)),none⟩:=by
      rw[afQ (b _) (by rw[aej,ze];omega) (by intro el f;obtain⟨x,_,rfl⟩:=ael.1 f;rfl) rfl rfl rfl,ajO];have: ((gk p l k).map hC).set (kept p l k).length [.int .u32 (l.getD k default)]=(gk p l (k+1)).map hC:=by
       rw[<-aqp d t,<-map_set];rfl
      rw[this]
     have S: (kept p l (k+1)).length=(kept p l k).length+1:=by rw[EW d,t];simp
     simp(disch:=omega) only[go_sem,simprocAttr,S,s,o,↓pH,g,B,z,U,y,R,eh];exact⟨by omega,by omega,by omega⟩
    ·rw[t]at g;have S:kept p l (k+1)=kept p l k:=by rw[EW d,t];simp
     have e6:=aqq d t;simp(disch:=omega) only[go_sem,simprocAttr,S,e6,s,o,↓pH,g,z,U,y,R,eh];exact⟨by omega,by omega⟩
   ·obtain rfl:k=l.length:=by omega
    have F:=aqn (id:=id) (ai:=ai) (n:=l.length) r;have C:=afR (id:=id) (ai:=ai) (n:=l.length) r;have g:=aqs (lo:=none) (off:=(kept p l l.length).length) (len:=l.length- (kept p l l.length).length) (c:=false) (b ((gk p l l.length).map hC)) (by rw[aej,ze];omega);simp only[go_sem,simprocAttr,z,y,F,C,g,rK,fX];refine⟨List.replicate (l.length- (kept p l l.length).length) [.int .u32 0],?_,λel f=>aqJ f⟩;rw[ajO];have e1:List.take (kept p l l.length).length (List.map hC (gk p l l.length))=(l.filter λh=>!p h).map hC:=by
     unfold gk;rw[aeq,anW (by simp),afT]
    have e2:List.drop ((kept p l l.length).length+(l.length- (kept p l l.length).length)) (List.map hC (gk p l l.length))=[]:=afL (by rw[aej,ze];omega);rw[e1,e2,aeC,afT]
def aqu{X:Ctx}(j:Ext X0 X)(t:aw)(f:bL t)(h x:Nat)(e:x<4294967296)(d a:Nat)(H:List ae)(b:H[d]?=some (.box (aK t) none))(c:H[a]?=some (.box [.int .u32 h] none))(lo:oN):
  D X (.fn (.func 194) [] [.ptr d 0,.ptr a 0]) [.int .u32 x] ⟨H,lo⟩=some (.ret (.bool (decide (bH t x≠h))) ⟨H,lo⟩):=by
 refine up j ?_;refine fe PU λN i=>?_
 have m: ∀L,(H++L)[a]?=some (.box [.int .u32 h] none):=λL=>bf c
 have g:=uJ t f x e;have hu:=afM t x;simp only[F1,go_sem,simprocAttr,PU,i,b,m,g,m0,kb,hu];refine de (afW AV.bool ?_) rfl
 grind
def afU(N:Nat)(H:List ae)(v:AV)(ty:TypeId)(af a:List lA):Prop:=
 (∃id ai,N<=id/\v= .ref id ai 1 0 af.length false/\H[id]?=some (.row ai 1 ty (af++a)))/\ ∀el∈a,el.length=1
def aqv(t:aw)(q:bL t)(h:Nat)(r:t.az h=true)(N:Nat)(H:List ae)(K:H.length=N)(lo:oN):
  ∃v J rest,qR [.agg (aK t),.int .u32 h] ⟨H,lo⟩=some (.ret v ⟨H++J,lo⟩)/\afU (N+2) (H++J) v bZ ((kids t h).map hC) rest:=by
 have E:=gi r
 suffices B: ∃n,qR [.agg (aK t),.int .u32 h] ⟨H,lo⟩=some n/\ (λn=> ∃v J rest,n=aT.ret v ⟨H++J,lo⟩/\afU (N+2) (H++J) v bZ ((kids t h).map hC) rest) n by
  obtain⟨n,G,v,J,rest,rfl,F⟩:=B;exact⟨v,J,rest,G,F⟩
 refine vF (X:=X3) Jx rfl λM s=>?_
 obtain rfl:M=N:=by omega
 have i:=up aqi (ew t.b h E (H++[.box (aK t) none,.box [.int .u32 h] none]) none);have u:Go.Proofs.YteplichagkpciaaGreatDoor.az t.b h=t.az h:=rfl;rw[u]at i;rw[r]at i;obtain⟨v,J,e1,I⟩:=afP t.b q.b (M+2) (H++[.box (aK t) none,.box [.int .u32 h] none]) (by simp[s]) none;have j:D X3 (.fn (.func 19) [] []) [.agg (bY t.b)] ⟨H++[.box (aK t) none,.box [.int .u32 h] none],none⟩=some (.ret v ⟨H++[.box (aK t) none,.box [.int .u32 h] none]++J,none⟩):=sw (p:=m4) rfl e1;have f:h∈bn t.b:=(jg q.b).2 r;have g: (bn t.b).filter (λx=>!decide (bH t x≠h))=kids t h:=by
  unfold kids;rw[acE r];refine List.filter_congr λx _=>?_
  by_cases e:bH t x=h<;>simp[e]
 rcases I.2 with⟨_,e⟩| ⟨id,ai,C,rfl,a⟩
 ·rw[aoq.1 e]at f;cases f
 rw[aej]at j;obtain⟨H1,c⟩: ∃H1,H1=H++[ae.box (aK t) none,.box [.int .u32 h] none]++J:=⟨_,rfl⟩;have b:=dM a;have z:H1[M]?=some (.box (aK t) none):=by rw[c,acF,di s];rfl
 have y:H1[M+1]?=some (.box [.int .u32 h] none):=by rw[c,acF,bE s];rfl
 rw[<-c]at a b;obtain⟨rest,d1,d2⟩:=aqt id ai H1 (bn t.b) (by have:=mR t.b;omega) a (.fn (.func 194) [] [.ptr M 0,.ptr (M+1) 0]) (λx=>decide (bH t x≠h))
  (λaf x A=>aqu afN t q h x (gi ((jg q.b).1 A)) M (M+1) _ (by rw[abN (by omega)];exact z) (by rw[abN (by omega)];exact y) none) none
 rw[g]at d1;have m:D X3 (.fn (.func 193) [] []) [.ref id ai 1 0 (bn t.b).length false,.fn (.func 194) [] [.ptr M 0,.ptr (M+1) 0]] ⟨H1,none⟩=some _:=sw (p:=o8) rfl d1;rw[c]at m;simp only[acF,af3,afY]at m j;simp only[go_sem,simprocAttr,Jx,s,i,j,m,rK,fX];have d: ∀L:List ae,∀o,(H++L).set id o=H++L.set (id-H.length) o:=λL o=>aoi _ _ (by omega)
 refine⟨_,_,rest,de rfl (d _ _),⟨id,ai,by omega,by rw[aej],?_⟩,λel w=>by rw[d2 el w];rfl⟩;rw[<-d];refine ac9 ?_;rw[c]at b;simpa using b
def iD(l:lN)(k:Nat):lN:=(List.range l.length).map λi=>if i<k\/l.length-k<=i then l.getD (l.length-1-i) default else l.getD i default
section
variable{l:lN}{k:Nat}
def sx: (iD l k).length=l.length:=by simp[iD]
def aqw(h:i<l.length): (iD l k).getD i default=if i<k\/l.length-k<=i then l.getD (l.length-1-i) default else l.getD i default:=by
 unfold iD
 grind
def aqx:iD l 0=l:=by
 apply al4;unfold iD
 grind
def aqy(h:l.length<=2*k+1):iD l k=l.reverse:=by
 apply al4;intro i;unfold iD;by_cases a:i<l.length
 ·rw[aeA,an8 a]
  grind
 grind
def aqz(h:2*k+1<l.length): ((iD l k).set k (l.getD (l.length-1-k) default)).set (l.length-1-k) (l.getD k default)=iD l (k+1):=by
 apply al4;intro i;by_cases a:i<l.length
 ·by_cases e1:l.length-1-k=i
  ·unfold iD
   grind
  ·rw[abN e1];by_cases b:k=i
   ·subst b;rw[ac9 (by rw[sx];omega)];unfold iD;rw[aeA,an8 a];simp only[aei];rw[acE (by omega)]
   ·rw[abN b];unfold iD;rw[aeA,aeA,an8 a];simp only[aei];by_cases c:i<k\/l.length-k<=i
    ·rw[acE c,acE (by omega)]
    ·rw[acz c,acz (by omega)]
 ·rw[ajP (by simp[sx];omega),ajP (by rw[sx];omega)]
end
def aqA(id ai:Nat)(H:List ae)(l:lN)(P:l.length<=1000)(b:List lA)(i:H[id]?=some (.row ai 1 bZ (l.map hC++b)))(f: ∀el∈b,el.length=1)(lo:oN):
  D X0 (.fn (.func 191) [] []) [.ref id ai 1 0 l.length false] ⟨H,lo⟩=some (.ret (.av []) ⟨H.set id (.row ai 1 bZ (l.reverse.map hC++b)),lo⟩):=by
 refine aH PT λN R=>?_
 have y:=dM i;have g: ∀E,fb E .sl (.ref id ai 1 0 l.length false)=some (.int .i64 l.length):=λE=>rfl
 have d: ∀af,(H.set id (.row ai 1 bZ af))[id]?=some (.row ai 1 bZ af):=λaf=>ac9 y
 have M: ∀k,∀el∈(iD l k).map hC++b,el.length=1:=λk el p=>by
  rcases ac8.1 p with h|h
  ·obtain⟨x,_,rfl⟩:=ael.1 h;rfl
  ·exact f _ h
 simp(disch:=omega) only[go_sem,simprocAttr,PT,g];refine ek l.length (λk e H'=>H'=H.set id (.row ai 1 bZ ((iD l k).map hC++b))/\e 0= .ref id ai 1 0 l.length false/\e 2= .int .i64 k/\e 3= .int .i64 ((l.length:Int)-1-k)) 0 (by omega) ?_ ?_
 ·rw[aqx,o9 i];simp only[go_sem,simprocAttr];exact afW _ (by omega)
 rintro k Q e H' ⟨rfl,K,J,I⟩ n O;simp only[cg,F1,go_sem,simprocAttr,adP,K,J,I];refine⟨λh=>?_,λh=>?_⟩
 ·have u:2*k+1<l.length:=by omega
  have w:k<l.length:=by omega
  obtain⟨m,hm⟩: ∃m,m=l.length-1-k:=⟨_,rfl⟩;have t: (l.length:Int)-1-k=(m:Nat):=by omega
  have o:Rd ⟨H.set id (.row ai 1 bZ ((iD l k).map hC++b)),none⟩ (.ref id ai 1 0 l.length false) 1 ((iD l k).map hC):=by
   have:=EV (lo:=none) (c:=false) (n:=l.length) (d ((iD l k).map hC++b)) (by rw[ac6,aej,sx];omega) (M k);rwa[anW (by rw[aej,sx])]at this
  have C:iG 1 (.ref id ai 1 0 l.length false) (.int .i64 (m:Nat))=some (.dc id ai m 0):=by
   have:=o.cG (k:=.i64) (a:=(m:Nat));rw[sx,acE (by omega)]at this;rw[this];simp[eh]
  have B:iG 1 (.ref id ai 1 0 l.length false) (.int .i64 (k:Nat))=some (.dc id ai k 0):=by
   have:=o.cG (k:=.i64) (a:=(k:Nat));rw[sx,acE (by omega)]at this;rw[this];simp[eh]
  have A: ∀j,j<l.length->bW X0 ⟨H.set id (.row ai 1 bZ ((iD l k).map hC++b)),none⟩ false 1 (.dc id ai j 0)=some (.int .u32 ((iD l k).getD j default:Nat)):=λj F=>by
   have:=o.cS (X:=X0) (j:=j) (off:=0) (n:=1) (agg:=false) (by rw[sx];exact F);simp only[eh,ajg]at this;rw[this,pH]
  have s:=A m (by omega);have r:=A k (by omega);rw[aqw (by omega),acz (by omega)]at s r;have G: ∀ (L:lN) (j v:Nat),L.length=l.length->j<l.length->jM ⟨H.set id (.row ai 1 bZ (L.map hC++b)),none⟩ 1 (.dc id ai j 0) (.int .u32 v)=some ⟨H.set id (.row ai 1 bZ ((L.set j v).map hC++b)),none⟩:=λL j v A F=>by
   rw[afQ (d _) (by rw[ac6,aej];omega) (λel p=>by
    rcases ac8.1 p with h|h
    ·obtain⟨x,_,rfl⟩:=ael.1 h;rfl
    ·exact f _ h) rfl rfl rfl,ajO,aqc _ _ (by rw[aej];omega)]
   have: (L.map hC).set j [.int .u32 v]=(L.set j v).map hC:=by rw[<-map_set];rfl
   rw[this]
  have z:=G (iD l k) k (l.getD m default) sx (by omega);have q:=G ((iD l k).set k (l.getD m default)) m (l.getD k default) (by rw[aen,sx]) (by omega);rw[hm,aqz u,<-hm]at q;simp(disch:=omega) only[go_sem,simprocAttr,K,J,I,t,C,B,s,r,z,q];exact⟨w,afW _ (by omega)⟩
 ·have he:=aqy (l:=l) (k:=k) (by omega);rw[he,ac4 (by rw[aen];omega)]
def Sa(t:aw)(h:Nat)(N:Nat)(H:List ae)(b:H.length=N)(lo:oN):D X0 (.fn (.func 183) [] []) [.agg (aK t),.int .u32 h] ⟨H,lo⟩=some (.ret (.fn (.func 189) [] [.ptr (N+1) 0,.ptr N 0]) ⟨H++[.box (aK t) none,.box [.int .u32 h] none],lo⟩):=by
 refine aH PK λM a=>?_
 obtain rfl:M=N:=by omega
 simp only[go_sem,simprocAttr,PK,a];rw[Bu (by omega)]
def qT(t:aw)(h:Nat):List lA:=(dw t h).map hC
def Sb(t:aw)(h:Nat): (qT t h).length=(dw t h).length:=by simp[qT]
structure aqB(W:List ae)(v:AV)(id:Nat)(st:lN):Prop where
 ex: ∃ai rest,v= .ref id ai 1 0 st.length false/\W[id]?=some (.row ai 1 bZ (st.map hC++rest))/\ ∀el∈rest,el.length=1
theorem ou{t:aw}: ∀st:lN,st.length<=(st.flatMap (dw t)).length
 | []=>by simp
 |x::xs=>by
  have d:1<=(dw t x).length:=by
   cases e:dw t x with
   |nil=>trivial
   |cons a b=>simp
  have c:=ou (t:=t) xs
  grind
def aqC{H:List ae}{id:Nat}{ty:TypeId}{ys:List lA}(h:H[id]?=some (.row ai 1 ty af))(f:n<=af.length)(e: ∀el∈ys,el.length=1)(a:bT ys=0)(d: (n+ys.length)*4<=room)(b:ys≠[]):
  dm ⟨H,lo⟩ ty 1 4 (.ref id ai 1 0 n false) ys=some (.ref id (ai+1) 1 0 (n+ys.length) false,⟨H.set id (.row (ai+1) 1 ty (af.take n++ys)),lo⟩):=by
 have c:0<1/\ys.all (λel=>el.length==1)=true:=⟨by omega,by grind⟩;unfold dm;rw[acE c];simp only[h];rw[acE ⟨trivial,trivial,trivial,trivial,by omega,d⟩,acz (by grind)];simp[AS.set,a]
def aqD{H:List ae}{id:Nat}{ty:TypeId}(h:H[id]?=some (.row ai 1 ty af))(a:n<=af.length)(b:n*4<=room):
  dm ⟨H,lo⟩ ty 1 4 (.ref id ai 1 0 n false) []=some (.ref id ai 1 0 n false,⟨H,lo⟩):=by
 unfold dm
 grind
def aqE{X Y:Ctx}(a:Ext X Y)(h:X.code f=some pf)(b:X.bU f=none):Y.bU f=none:=by
 rcases a.bU f with e| ⟨_,e⟩
 ·grind
 grind
def aqF{X Y:Ctx}(a:Ext X Y)(h:X.code f=some pf):Y.code f=some pf:=by rw[a.code];exact h
def wH{X Y:Ctx}(a:Ext X Y){args:lA}{E:AS}{r:aT}(h:D X v args E=some r):D Y v args E=some r:=acv a _ _ _ _ h
def Sc{Y:Ctx}(U:Ext X4 Y)(t:aw)(ht:bL t)(hT:cp t)(h:Nat)(hg:t.az h=true)(a:Nat):
  s7 Y (.fn (.func 189) [] [.ptr (a+1) 0,.ptr a 0]) a [.box (aK t) none,.box [.int .u32 h] none] (qT t h):=by
 intro S V y I J b hV afV sX W s hP h0 vG C hG lo;have hh:=gi hg;have o: ∀i,V.dp i->i<b:=λi hi=>(afV i hi).1
 suffices h: ∃cr,D Y (.fn (.func 189) [] [.ptr (a+1) 0,.ptr a 0]) [y] ⟨W,lo⟩=some cr/\
   (λcr=> ∃O P aj,cr=aT.ret (.av []) ⟨P,aj⟩/\V.P O P/\ (I (qT t h).length O\/J O)/\b<=P.length/\
     (∀i,i<b-> ¬V.dp i-> ¬(a<=i/\i<a+[ae.box (aK t) none,.box [.int .u32 (h:Nat)] none].length)->P[i]?=W[i]?)/\kq V.c b lo aj none (V.row O)) cr by
  obtain⟨cr,h1,O,P,aj,rfl,q1,q2,q3,q4,q5⟩:=h;exact⟨O,P,aj,h1,q1,q2,q3,q4,q5⟩
 refine wE PR (aqE U rfl rfl) (aqF U rfl) rfl λN hN=>?_
 obtain rfl:N=b:=by omega
 have g0:W[a]?=some (.box (aK t) none):=hG 0 (by simp);have g1:W[a+1]?=some (.box [.int .u32 h] none):=hG 1 (by simp);have ha:=dM g1;have R0: ¬V.dp a:=λq=>(afV a q).2 ⟨by omega,by simp⟩
 have hul:=RC hT h;have F: ∀n:Nat,n<=40000000->n*4<=room:=λn hn=>by unfold room;omega
 simp only[go_sem,simprocAttr,PR,hN,g1];refine iJ (dw t h).length (λk e P aj=> ∃O st id,I k O/\jR V N W (λi=>a<=i/\i<a+[ae.box (aK t) none,.box [.int .u32 (h:Nat)] none].length) O P aj/\P[a]?=some (.box (aK t) none)/\aqB P (e 4) id st/\N<=id/\V.row O≠some id/\
  st.reverse.flatMap (dw t)=(dw t h).drop k/\ (∀x∈st,t.az x=true)/\e 0=y/\e 1= .ptr (a+1) 0/\e 2= .ptr a 0) 0 (by omega) ?_ ?_
 ·simp only[go_sem,simprocAttr];refine⟨s,[h],N,h0,?_,?_,?_,aeg _,?_,by simp,by simpa using hg⟩
  ·exact jR.push hV o ⟨hP,by omega,λ_ _ _ _=>rfl,.inl ⟨rfl,C⟩,λr e=>by rw[C]at e;cases e⟩ _
  ·exact bf g0
  ·exact⟨0,[],rfl,by rw[di hN];rfl,by simp⟩
  ·rw[C];simp
 rintro k hk e W1 R ⟨s1,st,id,hI,hS,w0,⟨ai,rest,e4,hr,G⟩,hid,afX,A,ir,e0,e1,e2⟩ n hn;have R5:N<=n:=by have:=hS.len;omega
 have azo:=dM hr;have azp:st.length<=(dw t h).length-k:=by
  have:=ou (t:=t) st.reverse;rw[A,List.length_reverse,alN]at this;exact this
 have H: ∀E,fb E .sl (.ref id ai 1 0 st.length false)=some (.int .i64 st.length):=λE=>rfl
 simp(disch:=omega) only[cg,go_sem,simprocAttr,adO,e4,H];refine⟨λhc=>?_,λhc=>?_⟩
 ·obtain⟨d,x,rfl⟩: ∃d x,st=d++[x]:=⟨st.dropLast,st.getLast (by rintro rfl;simp at hc),(List.dropLast_concat_getLast _).symm⟩;have hgx:=ir x (by simp);have hx:=gi hgx;have T: (d++[x]).length=d.length+1:=by simp
  have u: (dw t h).drop k=x:: ((kids t x).flatMap (dw t)++d.reverse.flatMap (dw t)):=by
   rw[<-A,List.reverse_append,amv];show(x:: []).flatMap (dw t)++_=_;rw[aoV,List.flatMap_nil,aeC,Rz hT x];rfl
  have R3:k< (dw t h).length:=by
   have:=afW List.length u;rw[alN,aep]at this;omega
  have vB: (qT t h)[k]?=some [.int .u32 (x:Nat)]:=by
   unfold qT;rw[aeA];have: (dw t h)[k]?=((dw t h).drop k)[0]?:=by rw[ajQ];rfl
   rw[this,u];rfl
  obtain⟨c,s2,W2,l,p1,p2,p3,p4,p5,p6⟩:=sX k _ s1 vB hI W1 hS.P hS.len R;have L:=hS.step p2 p3 p4 p5;have Se: ∀i,i<N->V.row s1≠some i:=λi hi q=>by have:=hS.row _ q;omega
  have v0:W2[a]?=some (.box (aK t) none):=by rw[p3.2 a (by omega) R0 (Se _ (by omega))];exact w0
  have vr:W2[id]?=some (.row ai 1 bZ ((d++[x]).map hC++rest)):=by rw[p3.2 id (by omega) (λq=>by have:=o _ q;omega) afX];exact hr
  have rA:Rd ⟨W1,R⟩ (.ref id ai 1 0 (d++[x]).length false) 1 ((d++[x]).map hC):=by
   have:=EV (lo:=R) (c:=false) (n:=(d++[x]).length) hr (by simp) (λel g=>by
    rcases ac8.1 g with h|h
    ·obtain⟨x,_,rfl⟩:=ael.1 h;rfl
    ·exact G _ h)
   rwa[anW (by simp)]at this
  have hA:iG 1 (.ref id ai 1 0 (d.length+1) false) (.int .i64 (d.length:Nat))=some (.dc id ai d.length 0):=by
   have:=rA.cG (k:=.i64) (a:=(d.length:Nat));rw[T,acE (by omega)]at this;rw[this];simp[eh]
  have hL:bW Y ⟨W1,R⟩ false 1 (.dc id ai d.length 0)=some (.int .u32 (x:Nat)):=by
   have:=rA.cS (X:=Y) (j:=d.length) (off:=0) (n:=1) (agg:=false) (by simp);simp only[eh,ajg]at this;rw[this,pH];simp
  have Sf: ((d.length:Nat):Int)+1-1=(d.length:Nat):=by omega
  cases c
  ·obtain⟨M,Ko,q1,q2,q3,q4,q5⟩:=L.fin hV o (dB:=lo);simp only[go_sem,simprocAttr,Sf,e0,T,hA,hL,p1,q1];exact⟨s2,M,Ko,rfl,q2,.inr p6,q3,q4,q5⟩
  ·obtain⟨kv,Jk,m,k1,⟨z,v,kid,rfl,Z⟩,k3⟩:=aqv t ht x hgx W2.length W2 rfl l;have hkn:=dM Z;have kl:=afn t x;have w:=wH U (sw (X:=X4) (f:=190) (p:=qR) rfl k1);have r1:=wH U<|up aqj (aqA z v (W2++Jk) (kids t x) (by omega) m Z k3 l);rw[aej]at w;have azr:id≠z:=by have:=dM vr;omega
   obtain⟨M,K⟩: ∃M,M=(W2++Jk).set z (.row v 1 bZ ((kids t x).reverse.map hC++m)):=⟨_,rfl⟩;rw[<-K]at r1;have Q:M[id]?=some (.row ai 1 bZ ((d++[x]).map hC++rest)):=by rw[K,abN (by omega)];exact bf vr
   have v03:M[a]?=some (.box (aK t) none):=by rw[K,abN (by have:=dM v0;omega)];exact bf v0
   have g:Den.elems ⟨M,l⟩ 1 (.ref z v 1 0 (kids t x).length false)=some ((kids t x).reverse.map hC):=by
    have h3:M[z]?=some (.row v 1 bZ ((kids t x).reverse.map hC++m)):=by rw[K];exact ac9 hkn
    have:=(EV (lo:=l) (c:=false) (n:=(kids t x).length) h3 (by simp) (λel g=>by
     rcases ac8.1 g with h|h
     ·obtain⟨x,_,rfl⟩:=ael.1 h;rfl
     ·exact k3 _ h)).eq
    rwa[anW (by simp)]at this
   have hS3:jR V N W (λi=>a<=i/\i<a+[ae.box (aK t) none,.box [.int .u32 (h:Nat)] none].length) s2 M l:=by
    rw[K];exact(L.push hV o Jk).set hV (λq=>by have:=o _ q;have:=L.len;omega) (λq=>by have:=hV.Hj L.P q;omega) (.inr (by have:=L.len;omega))
   have vx:=afR (id:=id) (ai:=ai) (n:=d.length+1) (i:=d.length) (by omega);have B:V.row s2≠some id:=by
    rcases p4 with q| ⟨r,q,hq⟩
    ·rw[q];exact afX
    ·rw[q];intro e;cases e;omega
   have Sg: ((d++(kids t x).reverse).reverse).flatMap (dw t)=(dw t h).drop (k+1):=by
    have:=afW (List.drop 1) u;rw[an4]at this;rw[this,List.reverse_append,List.reverse_reverse,amv];rfl
   have af1: ∀y∈d++(kids t x).reverse,t.az y=true:=λy hy=>by
    rcases ac8.1 hy with h|h
    ·exact ir y (by simp[h])
    ·exact(jg ht.b).1 (J8 (List.mem_reverse.1 h)).2.2
   by_cases hke:kids t x=[]
   ·have rE:=aqD (lo:=l) (n:=d.length) Q (by simp) (F _ (by omega));rw[hke]at g w r1 Sg af1;simp only[alQ,List.reverse_nil,avb]at g w r1;simp(disch:=omega) only[go_sem,simprocAttr,Sf,e0,e1,e2,e4,T,hA,hL,p1,v0,w,r1,vx,g,rE];refine⟨R3,s2,d,id,p6,hS3,v03,⟨ai,[hC x]++rest,rfl,?_,?_⟩,hid,B,by simpa using Sg,λy hy=>ir y (by simp[hy])⟩
    ·rw[Q];simp
    ·intro el g;rcases ac8.1 g with h|h
     ·rw[ada.1 h];rfl
     ·exact G _ h
   ·have rE:=aqC (lo:=l) (n:=d.length) (ys:=(kids t x).reverse.map hC) Q (by simp) (λel g=>by obtain⟨x,_,rfl⟩:=ael.1 g;rfl) (bp (λ_=>rfl) _) (F _ (by simp;omega)) (by simpa using hke);simp(disch:=omega) only[go_sem,simprocAttr,Sf,e0,e1,e2,e4,T,hA,hL,p1,v0,w,r1,vx,g,rE];refine⟨R3,s2,d++(kids t x).reverse,id,p6,?_,?_,⟨ai+1,[],?_,?_,λ_ h=>by cases h⟩,hid,B,Sg,af1⟩
    ·exact hS3.set hV (λq=>by have:=o _ q;omega) B (.inr (by omega))
    ·exact v03
    ·simp
    ·rw[ac9 (dM Q)];have e:List.take d.length (List.map hC (d++[x])++rest)=List.map hC d:=by
      rw[aeq,acF,anW (by simp)]
     rw[e,aeq,aeC]
 ·obtain⟨M,Ko,q1,q2,q3,q4,q5⟩:=hS.fin hV o (dB:=lo);have aqI:st=[]:=by
   have:st.length=0:=by omega
   exact ahK.1 this
  subst aqI;have hk2:k=(qT t h).length:=by
   rw[Sb];have:=afW List.length A;rw[alN]at this;simp at this;omega
  simp only[go_sem,simprocAttr,q1];exact⟨s1,M,Ko,rfl,q2,.inl (hk2 ▸ hI),q3,q4,q5⟩
def aqK{X:Ctx}{a:List RV}{R:aT->Prop}{e:Env}{p:Nat}{b:lN}{H:List ae}{l:oN}:
  Ak X lo a R .ret ⟨e,p::b⟩ ⟨H,l⟩=match H[p]? with|some .fj=>Ak X lo a R .ret ⟨e,b⟩ ⟨H.set p .dead,l⟩|_=>False:=by
 simp only[Ak,dC];cases c:H[p]? with
 |none=>simp
 |some o=>cases o<;>simp[AS.set]
structure ASt where
 l:lN
 row:oN
def af4(H:List ae)(N a k:Nat):YV ASt:=⟨λs W=>(∀i,i<N-> ¬(a<=i/\i<a+k)->W[i]?=H[i]?)/\SV N 1 bZ W s.row (s.l.map hC),ASt.row,λi=>i<N+1/\ ¬(a<=i/\i<a+k),N⟩
def aqL{H:List ae}{N k:Nat}(h:a+k<=N): (af4 H N a k).Ok where
 st:=λs W j ⟨g,c⟩ b=>by
  refine⟨λi d f=>?_,c.st (b _ (.inl ⟨asD _,by omega⟩)) λi d=>b i (.inr d)⟩;rw[b i (.inl ⟨by omega,f⟩)];grind
 lt:=λs W r ⟨_,c⟩ e=>c.row e
def aqM(g:AV)(xs:lN)(vB:xs.length<=40000000)(a:Nat)(G:List ae)(D:pN X4 g=true)(B:s7 X4 g a G (xs.map hC))(N:Nat)(H:List ae)(hN:H.length=N)(F:a+G.length<=N)
  (hG: ∀i,i<G.length->H[a+i]?=G[i]?) (lo:oN):
  ∃v W aj,wG [.an,g] ⟨H,lo⟩=some (.ret v ⟨W,aj⟩)/\aR N W v 1 bZ (xs.map hC)/\ (∀i,i<N-> ¬(a<=i/\i<a+G.length)->W[i]?=H[i]?)/\N<=W.length/\ (aj=lo\/ ∃j,N<=j/\aj=cK lo j):=by
 suffices hs: ∃n,wG [.an,g] ⟨H,lo⟩=some n/\ (λn=> ∃v W aj,n=aT.ret v ⟨W,aj⟩/\aR N W v 1 bZ (xs.map hC)/\ (∀i,i<N-> ¬(a<=i/\i<a+G.length)->W[i]?=H[i]?)/\N<=W.length/\ (aj=lo\/ ∃j,N<=j/\aj=cK lo j)) n by
  obtain⟨n,h1,v,W,aj,rfl,h2⟩:=hs;exact⟨v,W,aj,h1,h2⟩
 refine vF (X:=X4) Jw rfl λM J=>?_
 obtain rfl:M=N:=by omega
 have hb:=afD (H:=H) (lo:=none) (tg:=none) (Rv.an (sz:=1));simp only[go_sem,simprocAttr,Jw,J,hb];obtain⟨k,c⟩: ∃k,k=H++[ae.box [.an] none]:=⟨_,rfl⟩;rw[<-c];have Y:k.length=M+1:=by rw[c];simp[J]
 have m:SV M 1 bZ k none []:=.inl ⟨rfl,rfl,by rw[c,di J];rfl⟩;generalize d: ((((c9 _).set 2 _).set 4 _).set 6 _)=e;have f:e 2= .ptr M 0:=by rw[<-d];rfl
 have R: (ao.t 6).get e=g:=by rw[<-d];rfl
 clear d;refine NP (af4 H M a G.length) (aqL F) (xs.map hC) a G k ⟨[],none⟩ (by rw[R];exact D) (by rw[R];exact B) (λi b=>?_) (by omega) (λi b=>⟨by have:=b.1;omega,b.2⟩) ⟨λi b p=>?_,m⟩ rfl
  (λj s=>s.l=xs.take j) (λ_ _=>False) rfl (λ_ _ h=>h.elim) ?_ ?_ (λ_ _ _ _ h=>h.elim)
 ·rw[c,abP (by omega)];exact hG i b
 ·rw[c,abP (by omega)]
 ·intro j y s T t;rw[aeA,aeh]at T;obtain⟨x,U,rfl⟩:=T;have hj:=(abQ.1 U).1;refine⟨rfl,λW Z vG=>?_⟩;simp only[go_sem,simprocAttr,gT,hC];refine⟨[],by simp,λW2 hW2 I=>?_⟩;obtain⟨w,o⟩:=I;have vx:s.l.length<=40000000:=by
   have:s.l=xs.take j:=t;rw[this,aeD];omega
  obtain⟨vv,v',W3,O,Q,a1,a2,a3,a4,a5,a6,a7⟩:=o.append (bytes:=4) (el:=hC x) (by omega) (by omega) rfl rfl (by rw[aej];unfold room;omega) none;have C:hC x=[.int .u32 (x:Nat)]:=rfl;rw[C]at a2;simp only[go_sem,simprocAttr,adN,f,a1,a2,a3,CX,aeC];have l: ∀i,s.row=some i->M<i:=by
   intro i b;rcases o with⟨q,_⟩| ⟨id,ai,q,_,f,q3,q4⟩
   ·rw[q]at b;cases b
   ·rw[q]at b;cases b;exact f
  refine⟨⟨s.l++[x],Q⟩,⟨λi b p=>?_,?_⟩,⟨by show W2.length<=O.length;omega,λi b hp hr=>?_⟩,.inr ⟨M,aeg _,by omega,rfl,?_⟩,?_⟩
  ·show O[i]?=_;rw[a6 i (by omega) (by omega) (λq=>by have:=l i q;omega)];exact w i b p
  ·show SV M 1 bZ O Q ((s.l++[x]).map hC);rw[aeq];exact a4
  ·have z: ¬(i<M+1/\ ¬(a<=i/\i<a+G.length)):=hp;exact a6 i b (by rintro rfl;exact z ⟨by omega,by omega⟩) hr
  ·rcases a7 with q| ⟨q,u,f⟩
   ·exact .inl q
   ·exact .inr ⟨q,u,by omega⟩
  ·show s.l++[x]=xs.take (j+1);have:s.l=xs.take j:=t;rw[this,aex,U];rfl
 ·intro P W' aj t Z hl V oC A;obtain⟨w,o⟩:=Z;have K:P.l=xs:=by
   have:P.l=xs.take (xs.map hC).length:=t;rw[this,aej,aeo]
  obtain⟨v,o1,S,o3,o4,_⟩:=o.own (N:=M) (aeg _) (by intro el E;obtain⟨r,_,rfl⟩:=ael.1 E;rfl);rw[K]at S;have ho:aR M (W'.set k.length .dead) v 1 bZ (xs.map hC):=by
   obtain⟨c1,L⟩:=S;refine⟨c1,?_⟩;rcases L with L| ⟨id,ai,d1,d2,d3⟩
   ·exact .inl L
   ·refine .inr ⟨id,ai,d1,d2,?_⟩;rw[abN];exact d3;rintro rfl;rw[V]at d3;cases d3
  simp only[go_sem,simprocAttr,f,o1,V,aqK,rK];refine⟨v,_,_,rfl,ho,λi b p=>?_,by rw[aen];omega,?_⟩
  ·rw[abN (by omega)];exact w i b p
  ·rcases A with⟨rfl,_⟩| ⟨j,u,f,rfl⟩
   ·exact .inl rfl
   ·exact .inr ⟨j,u,rfl⟩
def aqN(g:AV)(xs:lN)(c:xs.length<=40000000)(a:Nat)(G:List ae)(e:pN X4 g=true)(d:s7 X4 g a G (xs.map hC))(N:Nat)(H:List ae)(s:H.length=N)(f:a+G.length<=N)
  (m: ∀i,i<G.length->H[a+i]?=G[i]?) (lo:oN):
  ∃v W aj,zd [g] ⟨H,lo⟩=some (.ret v ⟨W,aj⟩)/\aR N W v 1 bZ (xs.map hC)/\ (∀i,i<N-> ¬(a<=i/\i<a+G.length)->W[i]?=H[i]?)/\N<=W.length/\ (aj=lo\/ ∃j,N<=j/\aj=cK lo j):=by
 suffices r: ∃b,zd [g] ⟨H,lo⟩=some b/\ (λb=> ∃v W aj,b=aT.ret v ⟨W,aj⟩/\aR N W v 1 bZ (xs.map hC)/\ (∀i,i<N-> ¬(a<=i/\i<a+G.length)->W[i]?=H[i]?)/\N<=W.length/\ (aj=lo\/ ∃j,N<=j/\aj=cK lo j)) b by grind
 refine vF (X:=X5) Jv rfl λM l=>?_
 obtain rfl:M=N:=by omega
 obtain⟨v,W,aj,e1,q,e3,o,n⟩:=aqM g xs c a G e d M H l f m none;have h:D X5 (.fn (.func 188) [] []) [.an,g] ⟨H,none⟩=some _:=sw (p:=wG) rfl e1;simp only[go_sem,simprocAttr,Jv,h,rK];refine⟨v,W,_,rfl,q,e3,o,?_⟩;rcases n with rfl| ⟨j,k,rfl⟩
 ·exact .inl rfl
 ·exact .inr ⟨j,k,rfl⟩
def aqO(t:aw)(q:bL t)(n:cp t)(h:Nat)(s:h<4294967296)(N:Nat)(H:List ae)(B:H.length=N)(lo:oN):
  ∃v J aj,Bw [.agg (aK t),.int .u32 h] ⟨H,lo⟩=some (.ret v ⟨H++J,aj⟩)/\aR N (H++J) v 1 bZ ((under t h).map hC)/\ (aj=lo\/ ∃j,N<=j/\aj=cK lo j):=by
 suffices A: ∃k,Bw [.agg (aK t),.int .u32 h] ⟨H,lo⟩=some k/\ (λk=> ∃v J aj,k=aT.ret v ⟨H++J,aj⟩/\aR N (H++J) v 1 bZ ((under t h).map hC)/\ (aj=lo\/ ∃j,N<=j/\aj=cK lo j)) k by grind
 refine vF (X:=X6) Eg rfl λM e=>?_
 obtain rfl:M=N:=by omega
 have a:=up afO (ew t.b h s (H++[.box (aK t) none]) none);have l:Go.Proofs.YteplichagkpciaaGreatDoor.az t.b h=t.az h:=rfl;rw[l]at a;cases d:t.az h with
 |false=>
  rw[d]at a;simp only[go_sem,simprocAttr,Eg,e,a,rK,fX];refine⟨_,_,_,rfl,?_,.inl rfl⟩;unfold under;rw[d];exact aR.an
 |true=>
  rw[d]at a;have hu:under t h=dw t h:=by unfold under;rw[acE d];rfl
  obtain⟨H1,b⟩: ∃H1,H1=H++[ae.box (aK t) none,.box (aK t) none,.box [.int .u32 h] none]:=⟨_,rfl⟩;have o:=up afO (Sa t h (M+1) (H++[.box (aK t) none]) (by simp[e]) none);have f:H1.length=M+3:=by rw[b];simp[e]
  have m: ∀i,i<2->H1[M+1+i]?=[ae.box (aK t) none,.box [.int .u32 h] none][i]?:=λi r=>by
   rw[b,aet (by omega),show M+1+i-H.length=i+1 by omega];rfl
  obtain⟨v,W,aj,y,x,w,C,u⟩:=aqN (.fn (.func 189) [] [.ptr (M+1+1) 0,.ptr (M+1) 0]) (dw t h) (by have:=RC n h;omega) (M+1) [.box (aK t) none,.box [.int .u32 h] none] rfl (Sc ⟨rfl,rfl,rfl,λ_=>.inl rfl⟩ t q n h d (M+1)) (M+3) H1 f (by simp) m none;have g:D X6 (.fn (.func 182) [] []) [.fn (.func 189) [] [.ptr (M+1+1) 0,.ptr (M+1) 0]] ⟨H1,none⟩=some _:=sw (p:=zd) rfl y;have c:W=H++W.drop M:=by
   have:W.take M=H:=kS e λi r=>by
    rw[w i (by omega) (by omega),b,abP (by omega)]
   rw[<-this];simp
  rw[b]at g;simp only[acF,af3,afY]at o;simp only[go_sem,simprocAttr,Eg,e,a,o,g,rK];refine⟨v,W.drop M,_,de rfl c,?_,?_⟩
  ·rw[<-c,hu];exact aR.le x (by omega)
  ·rcases u with rfl| ⟨j,z,rfl⟩
   ·exact .inl rfl
   ·exact .inr ⟨j,by omega,rfl⟩
def aR.m5{N:Nat}{H:List ae}{ty:TypeId}(h:aR N H v sz ty af){p:Nat}{cs:lA}{tg:Option TypeId}(b:H[p]?=some (.box cs tg)){o:ae}:aR N (H.set p o) v sz ty af:=by
 obtain⟨a,c⟩:=h;refine⟨a,?_⟩
 grind
def lE{N:Nat}{H:List ae}{ty:TypeId}{g:α->lA}(h:aR N H v sz ty (l.map g))(lo:oN):Rd ⟨H,lo⟩ v sz (l.map g):=h.rd
def Kq(t:aw)(a:bL t)(c:cp t)(h:Nat)(b:h<4294967296)(N:Nat)(H:List ae)(d:H.length=N)(lo:oN):
  ∃v J aj,D X (.fn (.func 167) [] []) [.agg (aK t),.int .u32 h] ⟨H,lo⟩=some (.ret v ⟨H++J,aj⟩)/\aR N (H++J) v 1 bZ ((under t h).map hC)/\ (aj=lo\/ ∃j,N<=j/\aj=cK lo j):=by
 obtain⟨v,J,aj,f,e⟩:=aqO t a c h b N H d lo;exact⟨v,J,aj,sw (p:=Bw) rfl f,e⟩
def dX.of{N:Nat}(h:aj=Option.none\/ ∃j,N<=j/\aj=cK Option.none j):dX N aj:=by trivial
def dX.le{N M:Nat}(h:dX N lo)(a:M<=N):dX M lo:=by
 rcases h with h| ⟨j,q,e⟩
 ·exact .inl h
 ·exact .inr ⟨j,by omega,e⟩
def Kr{t:aw}(b:bL t)(a:x∈under t h):t.az x=true:=by
 unfold under at a;split at a
 ·rename_i c;exact EN b.b c a
 grind
def EX{t:aw}(a:cp t)(h:Nat): (under t h).length<=39135393:=by
 unfold under;split
 ·exact RC a h
 ·simp
def aqP:fR dG:=⟨by trivial,by trivial,by trivial,by simp[dG],by trivial,by trivial⟩
def bL.drop{t:aw}(a:bL t)(h:Nat):bL (kM t h).1:=by
 unfold kM;split
 ·refine⟨EL a.b h,λi=>?_⟩;show fR (aq t.r (aO h) dG i);by_cases e:i=aO h
  ·rw[e,cu];exact aqP
  ·rw[cy e];exact a.r i
 omega
def kc(t:aw)(l:lN):aw:=l.foldl (λt x=>(kM t x).1) t
theorem af5{t:aw}(a:bL t): ∀l:lN,bL (kc t l)
 | []=>a
 |x::xs=>af5 (a.drop x) xs
def aqQ{t:aw}{l:lN}{k:Nat}(h:k<l.length):kc t (l.take (k+1))=(kM (kc t (l.take k)) (l.getD k default)).1:=by
 unfold kc;rw[aex,acJ h,akp,getD_eq h];rfl
def iQ{N:Nat}{H:List ae}(b:dX N aj)(a:v.refs<=N):finish N lo v ⟨H,aj⟩=(v,⟨H.take N,lo⟩):=s8 b ((Fz.low (d:=11) a))
def EY{N:Nat}{H:List ae}{ty:TypeId}(b:dX N aj)(h:aR N H v sz ty af)(a:bT af<=N):finish N lo v ⟨H,aj⟩=(bu v af,⟨H.take N,lo⟩):=
 s8 b ((Fz.own (d:=8) h a))
def af6{N:Nat}{a b:AV}{H:List ae}{ty:TypeId}(e:dX N aj)(h:aR N H v sz ty af)(c:bT af<=N)(g:a.refs<=N)(f:b.refs<=N):
  finish N lo (.av [a,v,b]) ⟨H,aj⟩=(.av [a,bu v af,b],⟨H.take N,lo⟩):=
 s8 e (Fz.av (d:=11) (gV.cons ((Fz.low (d:=0) g).mono (by omega)) (gV.cons ((Fz.own (d:=0) h c).mono (by omega)) (gV.cons ((Fz.low (d:=0) f).mono (by omega)) gV.nil))))
def aqR(t:aw)(z:bL t)(K:cp t)(h:Nat)(Q:h<4294967296)(H:List ae)(lo:oN):
  ∃w,D X (.fn (.func 292) [] []) [.agg (aK t),.int .u32 h] ⟨H,lo⟩=some (.ret (.av [.agg (aK (lq t h).1),w,.int .i64 (lq t h).2.2]) ⟨H,lo⟩):=by
 suffices P: ∃l,D X (.fn (.func 292) [] []) [.agg (aK t),.int .u32 h] ⟨H,lo⟩=some l/\ (λl=> ∃w,l=aT.ret (.av [.agg (aK (lq t h).1),w,.int .i64 (lq t h).2.2]) ⟨H,lo⟩) l by
  obtain⟨l,S,w,rfl⟩:=P;exact⟨w,S⟩
 refine cH JP λN d=>?_
 obtain⟨v,J,y,s,r,E⟩:=Kq t z K h Q (N+2) (H++[.box (aK t) none,.box ku none]) (by simp[d]) none;have O:=EX K h;have a:=(lE r y).bK;obtain⟨m,b⟩: ∃m,m=H++[ae.box (aK t) none,.box ku none]++J:=⟨_,rfl⟩;have w0:m[N]?=some (.box (aK t) none):=by rw[b,acF,di d];rfl
 have w1:m[N+1]?=some (.box ku none):=by rw[b,acF,bE d];rfl
 have c:jb N H m:=by rw[b,acF];exact jb.app d
 rw[<-b]at s r a;by_cases he:under t h=[]
 ·have e1:lq t h=(t,[],4):=by unfold lq;rw[acE he]
  have C: ((under t h).length:Int)=0:=by rw[he];rfl
  rw[e1];simp only[go_sem,simprocAttr,JP,d,s,a,C,w0,w1,cR,cT w1];rw[iQ (dX.le (dX.of E) (by omega)) ?_]
  ·exact⟨_,de rfl ((c.set (by omega)).take d)⟩
  ·simp[AV.refs,aI,wj]
 ·have C: ¬((under t h).length:Int)=0:=by
    have:=au1.2 he;omega
  simp only[go_sem,simprocAttr,JP,d,s,a,C];refine iJ (under t h).length (λk e q aj=>jb N H q/\q[N]?=some (.box (aK (kc t ((under t h).take k))) none)/\q[N+1]?=some (.box ku none)/\aR (N+2) q v 1 bZ ((under t h).map hC)/\dX (N+2) aj/\
   e 2= .ptr N 0/\e 4= .ptr (N+1) 0/\e 7=v/\e 17=v/\e 18= .int .i64 (under t h).length/\e 19= .int .i64 k) 0 (by omega) ?_ ?_
  ·simp only[go_sem,simprocAttr];exact⟨c,w0,w1,r,dX.of E⟩
  rintro k V e T x ⟨G,p,o,u,F,M,L,e7,j,i,g⟩ n U;have B:=af5 z ((under t h).take k);simp only[cg,go_sem,simprocAttr,ad3,M,j,i,g];refine⟨λR=>?_,λR=>?_⟩
  ·have f:k< (under t h).length:=by omega
   have I:=lE u x;have A:=λH lo=>up dj<|apW (kc t ((under t h).take k)) B ((under t h).getD k default) (gi (Kr z (fE f))) H lo
   simp(disch:=omega) only[go_sem,simprocAttr,I.cG,I.cS,↓pH,p,A,RH,M,L,e7,j,i,g,<-aqQ f];exact⟨by omega,f,G.set (by omega),cT p,o,aR.m5 u p,F⟩
  ·simp only[go_sem,simprocAttr,p,o,L,e7,cR,cT o];obtain rfl:k=(under t h).length:=by omega
   have ho:aR N (T.set (N+1) (ae.box (aK (kc t ((under t h).take (under t h).length))) none)) v 1 bZ ((under t h).map hC):=aR.m5 (aR.le u (by omega)) o;rw[af6 (dX.le F (by omega)) ho ?_ ?_ ?_]
   ·refine⟨bu v ((under t h).map hC),de ?_ ((G.set (by omega)).take d)⟩;unfold lq;rw[acz he,aeo];rfl
   ·rw[bp (λ_=>rfl)];omega
   ·simp[AV.refs,wj]
   ·simp[AV.refs]
def RB(l:List aF):Prop:=l.length<=100/\ ∀x∈l,x.1<4294967296/\x.2<4294967296
def Sh{l:List aF}{k:Nat}(h:k<l.length):aU (l.take (k+1))=aU (l.take k)+(l.getD k default).2:=by
 unfold aU;rw[aex,acJ h,aeq,List.sum_append,aer,acJ h];simp
def aqS{l:List aF}(h: ∀x∈l,x.2<4294967296):aU l<=l.length*4294967296:=by
 exact RA (λx:aF=>x.2) 4294967296 l λx a=>Nat.le_of_lt (h x a)
def RB.bd{l:List aF}(h:RB l)(k:Nat):aU (l.take k)<=429496729600:=by
 have c:=aqS (l:=l.take k) λx a=>(h.2 x (afZ a)).2
 have b: (l.take k).length<=100:=by have:=h.1;grind
 omega
def RB.iH{l:List aF}(h:RB l):aU l<=429496729600:=by
 have:=h.bd l.length;grind
def wI(l:List aF):List lA:=(List.range l.length).map λi=>[.int .i64 (32*aU (l.take i):Nat),.agg (aA (l.getD i default))]
def E0(l:List aF): (wI l).length=l.length:=by simp[wI]
def Si{l:List aF}(h:j<l.length): (wI l)[j]?=some [.int .i64 (32*aU (l.take j):Nat),.agg (aA (l.getD j default))]:=by
 unfold wI;grind
def af7(v:AV)(n:Nat)(b:v.refs=0)(N:Nat)(H:List ae)(c:H.length=N)(lo:oN):D X0 (.fn (.func 84) [] []) [.agg [v,.int .i64 n]] ⟨H,lo⟩=some (.ret (.fn (.func 114) [] [.ptr N 0]) ⟨H++[.box [v,.int .i64 n] none],lo⟩):=by
 refine aH OY λM a=>?_
 obtain rfl:M=N:=by omega
 simp only[go_sem,simprocAttr,OY,a];rw[Bu (by omega)]
def af8(v:AV)(z:Nat)(l:List aF)(E:Rv v 2 (l.map aA))(H:RB l)(a:Nat):
  s7 X0 (.fn (.func 114) [] [.ptr a 0]) a [.box [v,.int .i64 z] none] (wI l):=by
 intro S V y I J b A t F W s hP h0 vG j hG lo;have RR:=H.1;have f: ∀i,V.dp i->i<b:=λi hi=>(t i hi).1
 suffices h: ∃x,D X0 (.fn (.func 114) [] [.ptr a 0]) [y] ⟨W,lo⟩=some x/\
   (λx=> ∃d m aj,x=aT.ret (.av []) ⟨m,aj⟩/\V.P d m/\ (I (wI l).length d\/J d)/\b<=m.length/\
     (∀i,i<b-> ¬V.dp i-> ¬(a<=i/\i<a+[ae.box [v,.int .i64 z] none].length)->m[i]?=W[i]?)/\kq V.c b lo aj none (V.row d)) x by
  obtain⟨x,h1,d,m,aj,rfl,q1,q2,Z,Y,X⟩:=h;exact⟨d,m,aj,h1,q1,q2,Z,Y,X⟩
 refine wE O9 rfl rfl rfl λN hN=>?_
 obtain rfl:N=b:=by omega
 have u:W[a]?=some (.box [v,.int .i64 z] none):=hG 0 (by simp);simp only[go_sem,simprocAttr,O9,u,E.bK];refine iJ l.length (λk e m aj=> ∃d,I k d/\jR V N W (λi=>a<=i/\i<a+[ae.box [v,.int .i64 z] none].length) d m aj/\e 0=y/\e 3= .int .i64 (32*aU (l.take k):Nat)/\e 7=v/\e 8= .int .i64 l.length/\e 9= .int .i64 k) 0 (by omega) ?_ ?_
 ·simp only[go_sem,simprocAttr];exact⟨s,h0,⟨hP,by omega,λ_ _ _ _=>rfl,.inl ⟨rfl,j⟩,λr e=>by rw[j]at e;cases e⟩,by simp[aU]⟩
 rintro k hk e W1 C ⟨s1,Q,B,T,e3,e7,e8,R⟩ n P;simp only[cg,go_sem,simprocAttr,ady,e7,e8,R];refine⟨λh=>?_,λh=>?_⟩
 ·have g:k<l.length:=by omega
  have xS:=H.2 _ (fE g);have hpg:=H.bd k;have Gf:=Sh g;have hx:=Si g;generalize G:l.getD k default=r at*;have p:=B.push A f [.box (aA r) none];obtain⟨c,s2,W2,mm,O,p2,M,p4,p5,L⟩:=F k _ s1 hx Q (W1++[.box (aA r) none]) p.P p.len C;have w:=p.step p2 M p4 p5;have R5:N<=n:=by have:=B.len;omega
  have U:W2[n]?=some (.box (aA r) none):=by
   rw[M.2 n (by simp;omega) (λq=>by have:=f _ q;omega) (λq=>by have:=A.Hj B.P q;omega)];rw[<-P];simp
  simp(disch:=omega) only[go_sem,simprocAttr,E.cG,E.cS,h,P,T,e3,G];cases c
  ·obtain⟨K,o,f1,f2,f3,f4,f5⟩:=w.fin A f (dB:=lo);simp only[go_sem,simprocAttr,O,f1];exact⟨s2,K,o,rfl,f2,.inr L,f3,f4,f5⟩
  ·simp(disch:=omega) only[go_sem,simprocAttr,T,e3,e7,e8,R,O,U];exact⟨g,s2,L,w,afW _ (by omega)⟩
 ·obtain⟨K,o,f1,f2,f3,f4,f5⟩:=B.fin A f (dB:=lo);simp only[go_sem,simprocAttr,f1];exact⟨s1,K,o,rfl,f2,.inl (by rw[E0,show l.length=k by omega];exact Q),f3,f4,f5⟩
theorem Ks{r:aF}:aM [AV.int .i64 0,.int .i64 0] 0 (aA r)=aA r:=rfl
def Kt(v:AV)(n:Nat)(l:List aF)(w:Rv v 2 (l.map aA))(g:RB l)(H:List ae)(lo:oN):
  D X0 (.fn (.func 45) [] []) [.agg [v,.int .i64 n]] ⟨H,lo⟩=some (.ret (.int .i64 (aU l:Nat)) ⟨H,lo⟩):=by
 refine aH OG λN u=>?_
 have d:v.refs=0:=cq w (bp (λ_=>rfl) l);have F:=af7 v n d (N+2) (H++[.box [v,.int .i64 n] none,.box [.int .i64 0] none]) (by grind) none;simp only[go_sem,simprocAttr,OG,u,F];refine s9 (S:=Nat) (λe=>e 3= .ptr (N+1) 0) (by rfl) (wI l) u [.box [v,.int .i64 n] none] (λm=>[.box [v,.int .i64 n] none,.box [.int .i64 (m:Nat)] none]) (nB:=2) (λ_=>rfl) 0 (λj s=>s=aU (l.take j)) (λ_ _=>False) rfl ?_ (by simp) (by rfl) (λ_ _ h=>h.elim) ?_ ?_ ?_
 ·exact af8 v n l w g (N+2)
 ·rintro e he j x s c rfl;have k:j<l.length:=by
   have:=(abQ.1 c).1;rwa[E0]at this
  rw[Si k]at c;cases c;have y:=g.2 _ (fE k);have z:=g.bd j;have f:=Sh k;refine⟨rfl,λW I C A q=>?_⟩;simp only[go_sem,simprocAttr,gT,C,Ks];refine⟨[.box (aA (l.getD j default)) none],rfl,λG t b=>?_⟩;simp only[eP,eO,akq,aem]at b;obtain⟨w0,w1⟩:=b;have f1: ∀L,(G++L)[N+1]?=some (.box [.int .i64 (aU (l.take j):Nat)] none):=λL=>bf w1
  simp(disch:=omega) only[go_sem,simprocAttr,adm,he,f1,t,nz];refine⟨aU (l.take (j+1)),?_,by omega,λi K B=>?_,rfl⟩
  ·simp only[eP,eO,akq,aem];refine⟨by rw[abN (by omega)];exact bf w0,?_⟩;rw[ac9 (by simp;omega),f,amj]
  ·rw[abN (by omega),abP (by omega)]
 ·rintro e he s W p J rfl a q E;simp only[eP,eO,akq,aem]at q;obtain⟨w0,w1⟩:=q;have r: ∀o,(W.set p o).take N=H:=λo=>(a.set (by omega)).take u
  simp only[F1,go_sem,simprocAttr,he,w1,E,mj,r];rw[E0,aeo]
 grind
def iC(n:Nat):lA:=[.int .i64 n]
theorem pI:Den.part false 1 (iC n) 0=some (.int .i64 n):=rfl
def aqU(v:AV)(l:lN)(b:Rv v 1 (l.map iC))(q:l.length<2^40)(x:Nat)(H:List ae)(lo:oN):
  D X0 (.fn (.func 335) [] []) [v,.int .i64 x] ⟨H,lo⟩=some (.ret (.int .i64 (ka (λy=>decide (x=y)) l)) ⟨H,lo⟩):=by
 refine aH QS λN t=>?_
 simp only[go_sem,simprocAttr,QS,b.bK];refine ek l.length (λk e H'=>H'=H/\e 0=v/\e 1= .int .i64 x/\e 7= .int .i64 l.length/\e 8= .int .i64 k/\ ∀j,j<k->decide (x=l.getD j default)=false) 0 (by omega) ?_ ?_
 ·simp only[go_sem,simprocAttr];omega
 ·rintro k r e H' ⟨rfl,o,m,i,g,f⟩ n p;simp(disch:=omega) only[cg,F1,go_sem,simprocAttr,aeb,o,m,i,g];refine⟨λh=>?_,λh=>?_⟩
  ·have c:k<l.length:=by omega
   by_cases d:x=l.getD k default
   ·have a: ((x:Nat):Int)=((l.getD k default:Nat):Int):=by rw[<-d]
    simp(disch:=omega) only[F1,go_sem,simprocAttr,b.cG,b.cS,↓pI,a];rw[y8 c f (ac5 d)];exact⟨by omega,rfl⟩
   ·have a: ¬((x:Nat):Int)=((l.getD k default:Nat):Int):=by omega
    simp(disch:=omega) only[go_sem,simprocAttr,b.cG,b.cS,↓pI,a,o,m,i,g];exact⟨by omega,c,nU f (acK d)⟩
  ·rw[y9 (λj s=>f j (by omega))]
def aqV(v:AV)(l:lN)(a:Rv v 1 (l.map iC))(b:l.length<2^40)(x:Nat)(H:List ae)(lo:oN):
  D X0 (.fn (.func 323) [] []) [v,.int .i64 x] ⟨H,lo⟩=some (.ret (.bool (l.contains x)) ⟨H,lo⟩):=by
 refine aH QM λN c=>?_
 simp only[F1,go_sem,simprocAttr,QM,aqU v l a b x,y7]
 grind
def af9(a b:Nat)(h:a<2147483648)(g:b<2147483648)(H:List ae)(lo:oN):
  D X0 (.fn (.func 287) [] []) [.int .i64 a,.int .i64 b] ⟨H,lo⟩=some (.ret (.bool (isObj a b)) ⟨H,lo⟩):=by
 refine aH Ev λN f=>?_
 have e:=aqV (.sl [[.int .i64 1],[.int .i64 2],[.int .i64 4],[.int .i64 8]] true) [1,2,4,8] (.sl (by simp)) (by simp) b H none;by_cases c: (a:Int)>=1
 ·by_cases d: (a:Int)<=128
  ·simp only[F1,go_sem,simprocAttr,Ev,c,d,e];unfold isObj
   grind
  ·simp(disch:=omega) only[F1,go_sem,simprocAttr,Ev,c,d];refine de (afW AV.bool ?_) rfl;unfold isObj;rw[acK (by omega: ¬a<=128)];simp
 ·simp(disch:=omega) only[F1,go_sem,simprocAttr,Ev,c];refine de (afW AV.bool ?_) rfl;unfold isObj;rw[acK (by omega: ¬1<=a)];simp
theorem E2: ∀ (l:List aF) (x:aF) (put:Bool) (out a:List aF),x.1+x.2<=64->(∀y∈l,y.1+y.2<=64)->(∀y∈out,y.1+y.2<=64)->hO x put out l=some a->
  (∀y∈a,y.1+y.2<=64)/\a.length<=out.length+l.length+(if put then 0 else 1)
 | [],x,put,out,a,e,_,ho,h=>by
   unfold hO at h
   grind
 |y::ys,x,put,out,a,e,g,ho,h=>by
  have i:=g y (ahM ..);have b: ∀z∈ys,z.1+z.2<=64:=λz d=>g z (aew _ d)
  unfold hO at h;split at h
  ·obtain⟨c,f⟩:=E2 ys x put _ a e b (λz d=>by grind) h
   grind
  ·split at h
   ·obtain⟨c,f⟩:=E2 ys x true _ a e b (λz d=>by
      rcases ac8.1 d with h|h
      ·rcases ac8.1 h with h|h
       ·exact ho z h
       ·cases put
        ·simp only[aek,ahz]at h;rw[ada.1 h];exact e
        ·simp at h
      ·rw[ada.1 h];exact i) h
    refine⟨c,?_⟩;cases put<;>simp only[ac6,aep,alQ,aeE,ahz,aek]at f⊢ <;>omega
   ·split at h
    ·obtain⟨c,f⟩:=E2 ys _ put out a (by simp;omega) b ho h;exact⟨c,by simp only[aep];omega⟩
    ·split at h
     ·obtain⟨c,f⟩:=E2 ys _ put out a (by simp;omega) b ho h;exact⟨c,by simp only[aep];omega⟩
     ·cases h
def aqW{x:aF}(h:kK x=true):1<=x.2/\x.1+x.2<=64:=by
 unfold kK at h;grind
def aqX{l a:List aF}{x:aF}(b: ∀y∈l,y.1+y.2<=64)(h:iw l x=some a): (∀y∈a,y.1+y.2<=64)/\a.length<=l.length+1:=by
 unfold iw at h;split at h
 ·rename_i hm;have:=E2 l x false [] a (aqW hm).2 b (by simp) h
  grind
 grind
theorem Ku: ∀ (a b all:List aF),l7 all (a++b)=(l7 all a).bind λm=>l7 m b
 | [],b,all=>rfl
 |x::a,b,all=>by
  simp only[af3,l7];cases iw all x with
  |none=>rfl
  |some m=>exact Ku a b m
def aqY{l:List aF}{k:Nat}(h:k<l.length)(a:List aF):l7 a (l.take (k+1))=(l7 a (l.take k)).bind λm=>iw m (l.getD k default):=by
 rw[aex,acJ h,Ku,aer,acJ h];simp only[Option.toList_some,l7,ahL]
 grind
def aqZ{l:List aF}{k:Nat}{a:List aF}(h:l7 a (l.take k)=none):l7 a l=none:=by grind [List.take_append_drop,Ku]
def aga(v:AV)(n:Nat)(l:List aF)(w:n<4294967296)(g:Rv v 2 (l.map aA))(s:RB l)(C:l.length<=65)(H:List ae)(lo:oN):
  D X0 (.fn (.func 212) [] []) [.agg [v,.int .i64 n]] ⟨H,lo⟩=some (.ret (.bool (oV l n)) ⟨H,lo⟩):=by
 refine aH PW λN E=>?_
 have r:=Kt v n l g s;have B:=s.iH;simp only[go_sem,simprocAttr,PW,E,g.bK];refine ek l.length (λk e H'=> ∃J A,H'=cat H (.box [v,.int .i64 n] none:: .box [en A] none::J)/\l7 [] (l.take k)=some A/\A.length<=k/\ (∀x∈A,x.1+x.2<=64)/\e 1= .ptr N 0/\e 3= .ptr (N+1) 0/\e 9=v/\e 10= .int .i64 l.length/\e 11= .int .i64 k) 0 (by omega) ?_ ?_
 ·simp only[go_sem,simprocAttr];exact⟨[],[],fh.symm,by simp[l7],by simp,by simp⟩
 rintro k I e H' ⟨J,A,rfl,t,F,o,e1,e3,y,q,p⟩ z w;have d: ∀a b,(cat H (a::b::J)).length=z:=λ_ _=>by rw[<-w,JZ,JZ];rfl
 simp(disch:=omega) only[cg,go_sem,simprocAttr,adS,e1,y,q,p];refine⟨λh=>?_,λh=>?_⟩
 ·have f:k<l.length:=by omega
  have i:=s.2 _ (fE f);have j:=afG (en A) A (mN A) ⟨by omega,o⟩ (l.getD k default) i.1 i.2;have c:=aqY f [];rw[t]at c;simp only[an1]at c;cases m:iw A (l.getD k default)with
  |none=>
   rw[m]at c;have u:oV l n=false:=by unfold oV;rw[aqZ c];rfl
   simp(disch:=first|omega|apply d) only[F1,go_sem,simprocAttr,g.cG,g.cS,h,d,e3,Ks,j,o7,m,u,Rg]
  |some A'=>
   rw[m]at c;obtain⟨G,K⟩:=aqX o m;simp(disch:=first|omega|apply d) only[go_sem,simprocAttr,g.cG,g.cS,h,d,e1,e3,y,q,p,Ks,j,o7,m,Rg];exact⟨f,_,A',Q9,c,by omega,G⟩
 ·obtain rfl:k=l.length:=by omega
  rw[aeo]at t;have u:oV l n=decide (n<=aU l*32):=by unfold oV;rw[t];rfl
  simp(disch:=first|omega|apply d) only[F1,go_sem,simprocAttr,r];rw[u];exact de (afW AV.bool (aev.2 (by omega))) rfl
def aq0(a k:Nat)(e:a<4611686018427387904)(g:k<=3): (BitVec.ofInt 64 (a:Int)&&& ~~~ (BitVec.ofInt 64 ((2^k:Nat)-1:Int))).toNat=a/2^k*2^k:=by
 have e1:BitVec.ofInt 64 (a:Int)=BitVec.ofNat 64 a:=by simp
 have f:BitVec.ofInt 64 ((2^k:Nat)-1:Int)=BitVec.ofNat 64 (2^k-1):=by
  have: ((2^k:Nat)-1:Int)=((2^k-1:Nat):Int):=by
   have:=Nat.pow_pos (n:=k) (show 0<2 by omega);omega
  rw[this];simp
 rw[e1,f];apply Nat.eq_of_testBit_eq;intro i;rw[<-Nat.shiftLeft_eq,Nat.testBit_shiftLeft,Nat.testBit_div_two_pow,BitVec.testBit_toNat,BitVec.getLsbD_and,BitVec.getLsbD_not,BitVec.getLsbD_ofNat,BitVec.getLsbD_ofNat,Nat.testBit_two_pow_sub_one];by_cases b:i<64
 ·by_cases c:i<k
  ·simp[b,c];intro d;omega
  ·simp[b,c,show k<=i by omega,show i-k+k=i by omega]
 ·have:a.testBit i=false:=Nat.testBit_lt_two_pow (af2 e (by
    have: (4611686018427387904:Nat)=2^62:=by decide
    rw[this];exact Nat.pow_le_pow_right (by omega) (by omega)))
  by_cases c:k<=i
  ·simp[b,c,show i-k+k=i by omega,this]
  ·simp[b,c]
def aq1(f:a<4611686018427387904)(h: [1,2,4,8].contains b=true):dh .andNot (.int .i64 (a:Nat)) (.int .i64 ((b:Nat)-1))=some (.int .i64 (a/b*b:Nat)):=by
 have c: ∀k,k<=3->b=2^k->dh .andNot (.int .i64 (a:Nat)) (.int .i64 ((b:Nat)-1))=some (.int .i64 (a/b*b:Nat)):=by
  intro k d e;subst e;rw[Na];have e3:=aq0 a k f d;have g: (BitVec.ofInt IntKind.i64.bits (a:Int)&&& ~~~ (BitVec.ofInt IntKind.i64.bits ((2^k:Nat)-1:Int))).toNat=a/2^k*2^k:=e3;rw[g];have i:a/2^k*2^k<=a:=Nat.div_mul_le_self a _;rw[wrap_i64 (by omega) (by omega)]
 have:b=1\/b=2\/b=4\/b=8:=by grind
 rcases this with e|e|e|e
 ·exact c 0 (by omega) e
 ·exact c 1 (by omega) e
 ·exact c 2 (by omega) e
 ·exact c 3 (by omega) e
def aq2(h:isObj b a=true):1<=b/\b<=128/\ [1,2,4,8].contains a=true/\1<=a/\a<=8:=by
 unfold isObj at h
 grind
def wJ(l:List aF)(n b a:Nat):AV:=.av [.int .i64 ((gP l n b a).getD 0:Nat),.bool (gP l n b a).isSome]
def agb(v:AV)(n:Nat)(l:List aF)(y:n<4294967296)(o:Rv v 2 (l.map aA))(j:RB l)(c b:Nat)(s:c<2147483648)(r:b<2147483648)(H:List ae)(lo:oN):
  D X0 (.fn (.func 252) [] []) [.agg [v,.int .i64 n],.int .i64 c,.int .i64 b] ⟨H,lo⟩=some (.ret (wJ l n c b) ⟨H,lo⟩):=by
 refine aH Eo λN i=>?_
 have h:=Kt v n l o j;have p:=j.iH;have ho:=af9 c b s r;cases d:isObj c b with
 |false=>
  have e:gP l n c b=none:=by unfold gP;rw[d];rfl
  simp only[F1,go_sem,simprocAttr,Eo,i,ho,d,wJ,e]
 |true=>
  obtain⟨x,w,m,u,t⟩:=aq2 d;have g:D X0 (.fn (.func 288) [] [.ptr (N+1) 0]) [.int .i64 n] ⟨H++[.box [v,.int .i64 n] none,.box [.int .i64 b] none],none⟩=some (.ret (.int .i64 ((n+b-1)/b*b:Nat)) ⟨H++[.box [v,.int .i64 n] none,.box [.int .i64 b] none],none⟩):=by
   refine fe Qt λM A=>?_
   have e1: (n:Int)+b-1=((n+b-1:Nat):Int):=by omega
   simp(disch:=omega) only[F1,go_sem,simprocAttr,Qt,e1,aq1 (a:=n+b-1) (by omega) m]
  have z: (n+b-1)/b*b<=n+b-1:=Nat.div_mul_le_self _ _;have e:gP l n c b=if(n+b-1)/b*b+c<=aU l*32 then some ((n+b-1)/b*b)else none:=by unfold gP;rw[d];rfl
  generalize q: (n+b-1)/b*b=at' at*;by_cases k:at'+c<=aU l*32
  ·have f: ¬(at':Int)+c>aU l*32:=by omega
   rw[acE k]at e;simp(disch:=omega) only[F1,go_sem,simprocAttr,Eo,i,ho,d,g,h,f,wJ,e]
  ·have f: (at':Int)+c>aU l*32:=by omega
   rw[acz k]at e;simp(disch:=omega) only[F1,go_sem,simprocAttr,Eo,i,ho,d,g,h,f,wJ,e]
def uL(l:List aF)(n b c:Nat):Nat:=match gP l n b c with|some a=>a+b|none=>n
def agc(v:AV)(n:Nat)(l:List aF)(k:n<4294967296)(f:Rv v 2 (l.map aA))(g:RB l)(c b:Nat)(o:c<2147483648)(m:b<2147483648)(H:List ae)(lo:oN):
  D X0 (.fn (.func 254) [] []) [.agg [v,.int .i64 n],.int .i64 c,.int .i64 b] ⟨H,lo⟩=some (.ret (.av [.agg [v,.int .i64 (uL l n c b:Nat)],.int .i64 ((gP l n c b).getD 0:Nat),.bool (gP l n c b).isSome]) ⟨H,lo⟩):=by
 refine aH JF λN i=>?_
 have h:=agb v n l k f g c b o m;have d:v.refs=0:=cq f (bp (λ_=>rfl) l);have j:=g.iH;cases e:gP l n c b with
 |none=>simp only[F1,go_sem,simprocAttr,JF,i,h,wJ,e,uL,d]
 |some a=>
  have p:a<=20000000000000:=by
   unfold gP at e
   grind
  simp(disch:=omega) only[F1,go_sem,simprocAttr,JF,i,h,wJ,e,uL,d,amj]
def aq3(a b:Nat)(f:a<2147483648)(d:b<2147483648)(H:List ae)(lo:oN):
  D X0 (.fn (.func 250) [] []) [.int .i64 a,.int .i64 b] ⟨H,lo⟩=some (.ret (.av [.int .i64 ((oX a b).getD 0:Nat),.bool (oX a b).isSome]) ⟨H,lo⟩):=by
 refine aH JE λN g=>?_
 have ho:=af9 a b f d;cases c:isObj a b with
 |false=>
  have e:oX a b=none:=by unfold oX;grind
  simp(disch:=omega) only[F1,go_sem,simprocAttr,JE,ho,c,e]
 |true=>
  have e:oX a b=some ((a+31)/32):=by unfold oX;grind
  have e1: ((a:Int)+32-1).tdiv 32=(((a+31)/32:Nat):Int):=by
   rw[Int.tdiv_eq_ediv_of_nonneg (by omega)];omega
  simp(disch:=omega) only[F1,go_sem,simprocAttr,JE,ho,c,e,e1]
def aq4{H:List ae}{bytes:Nat}{ty:TypeId}{ys:List lA}(a:0<sz)(d: ∀el∈ys,el.length=sz)(b:ys≠[])(c:ys.length*bytes<=room):
  dm ⟨H,lo⟩ ty sz bytes .an ys=some (.ref H.length 0 sz 0 ys.length false,⟨H++[.row 0 sz ty ys],lo⟩):=by
 unfold dm;rw[acE ⟨a,by grind⟩];rw[acz (by grind),acE c];rfl
def aq5{H:List ae}{bytes:Nat}{ty:TypeId}{ys:List lA}(a:0<sz)(e: ∀el∈af,el.length=sz)(d: ∀el∈ys,el.length=sz)(b:ys≠[])(c: (af.length+ys.length)*bytes<=room):
  dm ⟨H,lo⟩ ty sz bytes (.sl af true) ys=some (.ref H.length 0 sz 0 (af.length+ys.length) false,⟨H++[.row 0 sz ty (af++ys)],lo⟩):=by
 unfold dm;rw[acE ⟨a,by grind⟩];simp only;rw[acz (by grind),acE ⟨c,by grind⟩];rfl
def Bx(v:AV):AV:=match v with
 |.sl af _=>.sl af true
 |v=>v
def aq6(v:AV)(l:List aF)(d:Rv v 2 (l.map aA))(H:List ae)(lo:oN):
  D X0 (.fn (.func 289) [] []) [v] ⟨H,lo⟩=some (.ret (Bx v) ⟨H,lo⟩):=by
 refine aH JO λN i=>?_
 obtain⟨h,a,j⟩:=d ⟨[],none⟩;have f:=bp (g:=aA) (λ_=>rfl) l;cases v<;>simp only[]at h
 ·have b:fZ 2 .an none (some (.int .i64 0)) (some (.int .i64 0))=some .an:=by rfl
  simp(disch:=omega) only[F1,go_sem,simprocAttr,JO,b,Bx]
 ·rename_i af c;simp only[Den.elems]at a;split at a
  ·cases a;have e:fZ 2 (.sl (l.map aA) c) none (some (.int .i64 (l.length:Nat))) (some (.int .i64 (l.length:Nat)))=some (.sl (l.map aA) true):=by
    simp[fZ,fY,k0,k5,aA];exact ac4 (by simp)
   simp(disch:=omega) only[F1,go_sem,simprocAttr,JO,e,aej,f,ac7,Bx]
  grind
 ·simp[Den.elems]at a
def aq7(v:AV)(n:Nat)(l:List aF)(k:Rv v 2 (l.map aA))(s:RB l)(r:aF)(H:List ae)(lo:oN):
  D X0 (.fn (.func 253) [] []) [.agg [v,.int .i64 n],.agg (aA r)] ⟨H,lo⟩=some (.ret (.agg [en (l++[r]),.int .i64 (aU l*32:Nat)]) ⟨H,lo⟩):=by
 refine aH Qe λN m=>?_
 have p:=Kt v n l k s;have w:=s.iH;have y:=s.1;have u:v.refs=0:=cq k (bp (λ_=>rfl) l);have z:=aq6 v l k;obtain⟨id,j⟩: ∃id,(H++[ae.box [v,.int .i64 n] none,.box (aA r) none,.box [.an,.int .i64 0] none]).length=id:=⟨_,rfl⟩;have t: ∀lo,dm ⟨H++[ae.box [v,.int .i64 n] none,.box (aA r) none,.box [.an,.int .i64 0] none],lo⟩ fg 2 16 (Bx v) [aA r]=some (.ref id 0 2 0 (l.length+1) false,⟨H++[ae.box [v,.int .i64 n] none,.box (aA r) none,.box [.an,.int .i64 0] none]++[.row 0 2 fg (l.map aA++[aA r])],lo⟩):=by
  intro lo;obtain⟨A,b,B⟩:=k ⟨[],none⟩;rw[<-j];cases v<;>simp only[]at A
  ·simp only[Den.elems]at b;have:l=[]:=by
    have:=(ahJ b).symm;exact aoq.1 this
   subst this;rw[show Bx .an= .an from rfl,aq4 (by omega) (λel a=>by rw[ada.1 a];rfl) (by simp) (by simp[room])];rfl
  ·simp only[Den.elems]at b;split at b
   ·cases b;rw[show ∀c,Bx (.sl (l.map aA) c)= .sl (l.map aA) true fromλ_=>rfl,aq5 (by omega) (λel a=>by obtain⟨x,_,rfl⟩:=ael.1 a;rfl) (λel a=>by rw[ada.1 a];rfl) (by simp) (by simp[room];omega)];simp
   ·cases b
  ·simp[Den.elems]at b
 have i:id=N+3:=by rw[<-j];simp[m]
 subst i;simp(disch:=omega) only[go_sem,simprocAttr,Qe,m,z,t,p];have q:dX N (if N+1<=N then none else cK none (N+2)):=by rw[acz (by omega)];exact .inr ⟨N+2,by omega,rfl⟩
 have f:aR N (H++[ae.box [v,AV.int IntKind.i64 ↑n] none,ae.box (aA r) none,ae.box [AV.ref (N+3) 0 2 0 (l.length+1) false,AV.int IntKind.i64 (↑(aU l)*32)] none,ae.row 0 2 fg (List.map aA l++[aA r])]) (.ref (N+3) 0 2 0 (l.length+1) false) 2 fg (l.map aA++[aA r]):=by
  refine⟨λel a=>?_,.inr ⟨N+3,0,by omega,by simp,?_⟩⟩
  ·rcases ac8.1 a with h|h
   ·obtain⟨x,_,rfl⟩:=ael.1 h;rfl
   ·rw[ada.1 h];rfl
  ·rw[bE m];rfl
 have o:bT (l.map aA++[aA r])=0:=by
  have:=bp (g:=aA) (λ_=>rfl) (l++[r]);rwa[aeq]at this
 rw[s8 q (Fz.agg (d:=11) (gV.cons (Fz.mono (Fz.own (d:=0) f (by rw[o];omega)) (by omega)) (gV.cons (Fz.mono (Fz.low (d:=0) (v:=.int .i64 (↑(aU l)*32)) (by simp[AV.refs])) (by omega)) gV.nil)))];refine de ?_ (lh m);have e:en (l++[r])= .sl (l.map aA++[aA r]) false:=by
  unfold en;have: (l++[r]).isEmpty=false:=by cases l<;>rfl
  rw[this];simp
 rw[e,Int.natCast_mul];rfl
def Kv(l:List aF)(x:Nat):AV:=.av [.int .i64 ((j8 l 0 x).getD 0:Nat),.bool (j8 l 0 x).isSome]
theorem agd(r:aF)(l:List aF)(b x:Nat):j8 (r::l) b x=if b<=x/\x<b+r.2*32 then some (r.1*32+x-b)else j8 l (b+r.2*32) x:=rfl
def aq8(v:AV)(n:Nat)(l:List aF)(T:Rv v 2 (l.map aA))(M:RB l)(x:Nat)(hx:x<1099511627776)(H:List ae)(lo:oN):
  D X0 (.fn (.func 176) [] []) [.agg [v,.int .i64 n],.int .i64 x] ⟨H,lo⟩=some (.ret (Kv l x) ⟨H,lo⟩):=by
 refine aH PG λN F=>?_
 have K:v.refs=0:=cq T (bp (λ_=>rfl) l);have ha:=af7 v n K (N+4) (H++[.box [v,.int .i64 n] none,.box [.int .i64 x] none,.box [.int .i64 0] none,.box [.bool false] none]) (by simp[F]) none;simp only[go_sem,simprocAttr,PG,F,ha];refine s9 (S:=Nat×Bool) (λe=>e 3= .ptr (N+1) 0/\e 4= .ptr (N+2) 0/\e 5= .ptr (N+3) 0) (by simp only[go_sem,simprocAttr]) (wI l) F [.box [v,.int .i64 n] none] (λs=>[.box [v,.int .i64 n] none,.box [.int .i64 x] none,.box [.int .i64 (s.1:Nat)] none,.box [.bool s.2] none]) (nB:=4) (λ_=>rfl) (0,false)
  (λj s=>s=(0,false)/\j8 l 0 x=j8 (l.drop j) (32*aU (l.take j)) x) (λex s=>ex= .ret/\j8 l 0 x=some s.1/\s.2=true) rfl ?_ (by simp) ⟨rfl,by simp[aU]⟩ (λex s h=>?_) ?_ ?_ ?_
 ·exact af8 v n l T M (N+4)
 ·exact⟨.ret,by rw[h.1];rfl,by rw[h.1];rfl,by rw[h.1];rfl⟩
 ·rintro e ⟨e3,I,G⟩ j y s J ⟨rfl,d⟩;have C:j<l.length:=by
   have:=(abQ.1 J).1;rwa[E0]at this
  rw[Si C]at J;cases J;have xS:=M.2 _ (fE C);have hpg:=M.bd j;have A:=Sh C;have m:l.drop j=l.getD j default::l.drop (j+1):=by
   rw[amf C,aer,acJ C];rfl
  rw[m,agd]at d;generalize hrg:l.getD j default=r at*;refine⟨rfl,λW n' hn hnl w=>?_⟩;simp only[go_sem,simprocAttr,gT,hn,Ks];refine⟨[.box (aA r) none],rfl,λR q E=>?_⟩;simp only[eP,eO,akq,aem,Nat.reduceAdd]at E;obtain⟨w0,w1,k,u⟩:=E;have f1: ∀L,(R++L)[N+1]?=some (.box [.int .i64 x] none):=λL=>bf w1
  have f2: ∀L,(R++L)[N+2]?=some (.box [.int .i64 (0:Nat)] none):=λL=>bf k
  have f3: ∀L,(R++L)[N+3]?=some (.box [.bool false] none):=λL=>bf u
  by_cases X:32*aU (l.take j)<=x
  ·have g: (x:Int)>=((32*aU (l.take j):Nat):Int):=by omega
   by_cases V:x<32*aU (l.take j)+r.2*32
   ·have t: (x:Int)< ((32*aU (l.take j):Nat):Int)+r.2*32:=by omega
    rw[acE ⟨X,V⟩]at d;have z: (r.1:Int)*32+x- ((32*aU (l.take j):Nat):Int)=((r.1*32+x-32*aU (l.take j):Nat):Int):=by omega
    simp(disch:=omega) only[go_sem,simprocAttr,Jt,e3,I,G,f1,f2,f3,q,g,t,z,ac1];refine⟨(r.1*32+x-32*aU (l.take j),true),?_,by omega,λi U B=>?_,d,rfl⟩
    ·simp only[eP,eO,akq,aem,Nat.reduceAdd];refine⟨?_,?_,?_,?_⟩
     ·rw[abN (by omega),abN (by omega)];exact bf w0
     ·rw[abN (by omega),abN (by omega)];exact f1 _
     ·rw[abN (by omega),ac9 (by simp;omega)]
     ·rw[ac9 (by simp;omega)]
    ·rw[abN (by omega),abN (by omega),abP (by omega)]
   ·have t: ¬(x:Int)< ((32*aU (l.take j):Nat):Int)+r.2*32:=by omega
    rw[acz (λh=>V h.2)]at d;simp(disch:=omega) only[go_sem,simprocAttr,Jt,e3,f1,q,g,t,nz];refine⟨(0,false),?_,by omega,λi U B=>abP (by omega),rfl,?_⟩
    ·simp only[eP,eO,akq,aem,Nat.reduceAdd];exact⟨bf w0,f1 _,f2 _,f3 _⟩
    ·rw[d,A,Nat.mul_add,Nat.mul_comm 32 r.2]
  ·have g: ¬(x:Int)>=((32*aU (l.take j):Nat):Int):=by omega
   rw[acz (λh=>X h.1)]at d;simp only[go_sem,simprocAttr,Jt,e3,f1,q,g,nz];refine⟨(0,false),?_,by omega,λi U B=>abP (by omega),rfl,?_⟩
   ·simp only[eP,eO,akq,aem,Nat.reduceAdd];exact⟨bf w0,f1 _,f2 _,f3 _⟩
   ·rw[d,A,Nat.mul_add,Nat.mul_comm 32 r.2]
 ·rintro e ⟨e3,I,G⟩ s W p hp ⟨rfl,d⟩ f w Q;simp only[eP,eO,akq,aem,Nat.reduceAdd]at w;obtain⟨w0,w1,k,u⟩:=w;rw[E0,List.drop_length]at d;have e0:j8 l 0 x=none:=d;have O: ∀a b c,(((W.set (N+2) a).set (N+3) b).set p c).take N=H:=λa b c=>(((f.set (by omega)).set (by omega)).set (by omega)).take F
  have s2:=cT (o:=.box [.int .i64 0] none) k;have Y: ∀a b,((W.set (N+2) a).set (N+3) b)[N+3]?=some b:=λa b=>ac9 (by rw[aen];exact dM u)
  have s2: ∀a b,((W.set (N+2) a).set (N+3) b)[N+2]?=some a:=λa b=>by rw[abN (by omega)];exact cT k
  simp(disch:=omega) only[F1,go_sem,simprocAttr,I,G,k,u,Q,mj,O,s2,Y,Kv,e0]
 ·rintro e ⟨e3,I,G⟩ ex s W p hp ⟨rfl,d,Z⟩ f w Q;simp only[eP,eO,akq,aem,Nat.reduceAdd]at w;obtain⟨w0,w1,k,u⟩:=w;have P: ∀o,(W.set p o).take N=H:=λo=>(f.set (by omega)).take F
  simp(disch:=omega) only[F1,go_sem,simprocAttr,I,G,k,u,Q,mj,P];refine de ?_ rfl;unfold Kv;rw[d,Z];rfl
def Sj(t:aw)(O:bL t)(U:cp t)(a b:Nat)(T:a<4294967296)(K:b<4294967296)(H:List ae)(lo:oN):
  D X0 (.fn (.func 295) [] []) [.agg (aK t),.int .u32 a,.int .u32 b] ⟨H,lo⟩=some (.ret (.bool (j7 t a b)) ⟨H,lo⟩):=by
 refine aH Ew λN q=>?_
 have B: ∀h,az t.b h=t.az h:=λh=>rfl
 have f:=ew t.b a T;have g:=ew t.b b K;simp only[B]at f g;cases y:t.az a
 ·rw[y]at f;simp only[F1,go_sem,simprocAttr,Ew,q,f,j7,y,afH]
 ·rw[y]at f;cases A:t.az b
  ·rw[A]at g;simp only[F1,go_sem,simprocAttr,Ew,q,f,g,j7,y,A,afH,aoI]
  ·rw[A]at g;have G:=RY t b (N+3) (H++[.box (aK t) none,.box [.int .u32 a] none,.box [.bool (decide ((a:Int)=b))] none]) (by simp[q]) none;simp only[go_sem,simprocAttr,Ew,q,f,g,G];have F:decide ((a:Int)=(b:Int))=decide (a=b):=aev.2 (by omega);refine s9 (S:=Bool) (λe=>e 4= .ptr (N+1) 0/\e 7= .ptr (N+2) 0) (by simp only[go_sem,simprocAttr]) (m2 t b) q [.box (aK t) none,.box [.int .u32 b] none] (λs=>[.box (aK t) none,.box [.int .u32 a] none,.box [.bool s] none]) (nB:=3) (λ_=>rfl) (decide ((a:Int)=b)) (λj s=>s=(decide (a=b)|| ((aS t b).take j).contains a)) (λ_ _=>False) rfl ?_ (by simp) (by simp[F]) (λ_ _ h=>h.elim) ?_ ?_ ?_
   ·exact RZ t O U b K (N+3)
   ·rintro e ⟨I,e7⟩ j x s M X;obtain⟨u,rfl,hu⟩:=R6 M;refine⟨rfl,λW n hn Q C=>?_⟩;simp only[go_sem,simprocAttr,gT];refine⟨[],by simp,λL l w=>?_⟩;simp only[eP,eO,akq,aem,Nat.reduceAdd]at w;obtain⟨w0,w1,m⟩:=w;have d: (decide (a=b)|| ((aS t b).take (j+1)).contains a)=(s||decide ((u:Int)=a)):=by
     rw[X,aex,hu];have:decide ((u:Int)=a)=decide (a=u):=aev.2 (by omega);rw[this];by_cases Z:a=b<;>by_cases Y:a=u<;>simp[Z,Y]
    have k: ∀z,(L.set (N+2) (.box [.bool z] none)).length=n->gW (L.set (N+2) (.box [.bool z] none)) N 0 [.box (aK t) none,.box [.int .u32 a] none,.box [.bool z] none]:=λz hl=>by
     simp only[eP,eO,akq,aem,Nat.reduceAdd];exact⟨by rw[abN (by omega)];exact w0,by rw[abN (by omega)];exact w1,cT m⟩
    cases s
    ·by_cases c: (u:Int)=a
     ·simp only[go_sem,simprocAttr,JR,I,e7,w1,m,aeC,nz,c];exact⟨_,k _ (by rw[aen];exact l),λi J v=>abN (by omega),by rw[d];simp[c]⟩
     ·simp only[go_sem,simprocAttr,JR,I,e7,w1,m,aeC,nz,c];exact⟨_,k _ (by rw[aen];exact l),λi J v=>abN (by omega),by rw[d];simp[c]⟩
    ·simp only[go_sem,simprocAttr,JR,e7,m,aeC,nz];exact⟨_,k _ (by rw[aen];exact l),λi J v=>abN (by omega),by rw[d];simp⟩
   ·rintro e ⟨I,e7⟩ s W p P rfl r C R;simp only[eP,eO,akq,aem,Nat.reduceAdd]at C;obtain⟨w0,w1,m⟩:=C;have E: ∀o,(W.set p o).take N=H:=λo=>(r.set (by omega)).take q
    simp only[F1,go_sem,simprocAttr,e7,m,R,mj,E];rw[R7,aeo];refine de (afW _ ?_) rfl;unfold j7;rw[y,A];rfl
   ·rintro e he ex s W p P V;exact V.elim
def sy(t:aw)(h:Nat)(r:df):AV:=.av [.agg (aK (fD t h r).1),.int .i64 (fD t h r).2]
def Sk(t:aw)(u:bL t)(h:Nat)(o:h<4294967296)(r:df)(q:RB r.runs)(s:r.runs.length<=65)(k:r.len<4294967296)(H:List ae)(lo:oN):
  D X0 (.fn (.func 290) [] []) [.agg (aK t),.int .u32 h,.agg (bR r)] ⟨H,lo⟩=some (.ret (sy t h r) ⟨H,lo⟩):=by
 refine aH A7 λN i=>?_
 have n:=yH h;have l: (aO h:Int)<32:=by omega
 have p:iB h= .av [.int .i64 (aO h:Nat),.bool (eF h).isSome]:=rfl;have a:=ew t.b h o;have m:az t.b h=t.az h:=rfl;simp only[m]at a;have hm:=aga (en r.runs) r.len r.runs k (mN _) q s;have d:fD t h r=if t.az h=false then(t,4)else if 64<r.du\/oV r.runs r.len=false then(t,2)else({t with r:=aq t.r (aO h) {r with up:=(t.r (aO h)).up}},0):=rfl
 cases g:t.az h with
 |false=>
  rw[g]at a;have e:fD t h r=(t,4):=by rw[d,acE g]
  simp only[F1,go_sem,simprocAttr,A7,i,a,cR,sy,e]
 |true=>
  rw[g]at a;rw[acz (by rw[g];simp)]at d;have j:=y5 r.du;by_cases f:r.du<=64
  ·have c:decide (r.du<=64)=true:=ac5 f;cases b:oV r.runs r.len with
   |false=>
    rw[acE (.inr b)]at d;simp only[F1,go_sem,simprocAttr,A7,i,a,cR,j,c,hm,b,sy,d]
   |true=>
    rw[acz (by rw[b];simp;omega)]at d;simp only[F1,go_sem,simprocAttr,A7,i,a,cR,j,c,hm,b,sy,d,jB h o,p,l,Rk n,apu,J4 n];omega
  ·have c:decide (r.du<=64)=false:=acK f;rw[acE (.inl (by omega))]at d;simp only[F1,go_sem,simprocAttr,A7,i,a,cR,j,c,sy,d]
def uM(t:aw)(h u:Nat):AV:=.av [.agg (aK (lp t h u).1),.int .i64 (lp t h u).2]
def age(t:aw)(Z:bL t)(hT:cp t)(h w:Nat)(S:h<4294967296)(Y:w<4294967296)(H:List ae)(lo:oN):
  D X0 (.fn (.func 297) [] []) [.agg (aK t),.int .u32 h,.int .u32 w] ⟨H,lo⟩=some (.ret (uM t h w) ⟨H,lo⟩):=by
 refine aH A8 λN F=>?_
 have X:=yH h;have B: (aO h:Int)<32:=by omega
 have W:iB h= .av [.int .i64 (aO h:Nat),.bool (eF h).isSome]:=rfl;have b:=ew t.b h S;have g:=ew t.b w Y;have T: ∀h,az t.b h=t.az h:=λh=>rfl
 simp only[T]at b g;have j:lp t h w=if t.az h=false\/ (w≠0/\t.az w=false)then(t,4)else if w≠0/\h∈w::aS t w then(t,12)else({t with r:=aq t.r (aO h) {t.r (aO h)with up:=w}},0):=rfl
 cases E:t.az h with
 |false=>
  rw[E]at b;rw[acE (.inl E)]at j;simp only[F1,go_sem,simprocAttr,A8,F,b,cR,uM,j]
 |true=>
  rw[E]at b;by_cases c:w≠0/\t.az w=false
  ·rw[acE (.inr c)]at j;rw[c.2]at g;have y: ¬(w:Int)=0:=by omega
   simp only[F1,go_sem,simprocAttr,A8,F,b,g,y,cR,uM,j]
  ·rw[acz (by rw[E];simpa using c)]at j;have i:w=0\/ (¬(w:Int)=0/\t.az w=true):=by
    by_cases l:w=0
    ·exact .inl l
    ·refine .inr ⟨by omega,?_⟩;cases I:t.az w
     ·exact absurd ⟨l,I⟩ c
     ·rfl
   obtain⟨L,V⟩: ∃L,L=if w=0 then[]else w::aS t w:=⟨_,rfl⟩
   have o: (w≠0/\h∈w::aS t w)↔h∈L:=by
    rw[V];by_cases l:w=0
    ·simp[l]
    ·rw[acz l];exact⟨λq=>q.2,λq=>⟨l,q⟩⟩
   have key: ∀Q:bQ,(∀e:Env,e 1= .int .u32 h->e 2= .int .u32 w->e 3= .ptr N 0->e 6= .ptr (N+1) 0->h∉L->Q (.exit 0) ⟨e,[]⟩ ⟨H++[.box (aK t) none,.box ku none],none⟩)->
     (∀e:Env,e 6= .ptr (N+1) 0->e 7= .int .i64 12->h∈L->Q .ret ⟨e,[]⟩ ⟨H++[.box (aK t) none,.box (aK t) none],none⟩)->
     ∀e:Env,e 1= .int .u32 h/\e 2= .int .u32 w/\e 3= .ptr N 0/\e 6= .ptr (N+1) 0/\e 8= .int .u32 w->wp X0 297 false (PC.loop Ey) ⟨e,[]⟩ ⟨H++[.box (aK t) none,.box ku none],none⟩ Q:=by
    rintro Q I hr e ⟨e1,p,e3,e6,e8⟩;refine ek L.length (λk e H'=>H'=H++[.box (aK t) none,.box ku none]/\e 1= .int .u32 h/\e 2= .int .u32 w/\e 3= .ptr N 0/\e 6= .ptr (N+1) 0/\ ∃x,e 8= .int .u32 (x:Nat)/\ (if x=0 then[]else x::aS t x)=L.drop k/\ (x≠0->t.az x=true)/\h∉L.take k) 0 (by omega) ?_ ?_
    ·refine⟨rfl,e1,p,e3,e6,w,e8,by rw[V];simp,λl=>?_,by simp⟩;rcases i with rfl|q
     ·exact absurd rfl l
     ·exact q.2
    rintro k hk e H' ⟨rfl,e1,p,e3,e6,x,e8,z,m,a⟩ n hn;by_cases s:x=0
    ·subst s;have P:L.take k=L:=by
      have:=afW List.length z;rw[acE rfl,alN]at this;exact ac4 (by simp at this;omega)
     rw[P]at a;simp only[go_sem,simprocAttr,Ey,e8];exact I _ (by simp only[go_sem,simprocAttr,e1]) (by simp only[go_sem,simprocAttr,p]) (by simp only[go_sem,simprocAttr,e3]) (by simp only[go_sem,simprocAttr,e6]) a
    ·have A: ¬(x:Int)=0:=by omega
     have m:=m s;rw[acz s]at z;have O:k<L.length:=by
      have:=afW List.length z;rw[alN,aep]at this;omega
     have M:L.take (k+1)=L.take k++[x]:=by
      rw[aex];have:L[k]?=(L.drop k)[0]?:=by rw[ajQ];rfl
      rw[this,<-z];rfl
     by_cases G:x=h
     ·have f: (x:Int)=h:=by omega
      have d:h∈L:=by
       rw[<-amx k L,<-z,G];simp
      have R: ¬(h:Int)=0:=by omega
      simp(disch:=omega) only[go_sem,simprocAttr,Ey,e1,e3,e6,e8,f,R,cR];exact hr _ (by simp only[go_sem,simprocAttr,e6]) (by simp only[go_sem,simprocAttr]) d
     ·have f: ¬(x:Int)=h:=by omega
      have J:=afv t Z x (gi m);have v:bH t x=j6 t (aO x):=by unfold bH;rw[acE m]
      have U:=sh hT x;simp(disch:=omega) only[go_sem,simprocAttr,Ey,e1,p,e3,e6,e8,A,f,J];refine⟨O,j6 t (aO x),rfl,?_,λl=>?_,?_⟩
      ·rw[<-v,<-an4,<-z,anc,aks,U]
      ·exact(EM (by rw[v];exact l)).1 ▸ (by rw[v])
      ·rw[M];simp[a];omega
   rcases i with rfl| ⟨y,C⟩
   ·rw[acz (by simp)]at j;simp only[go_sem,simprocAttr,A8,F,b];refine key _ ?_ ?_ _ (by simp only[go_sem,simprocAttr])
    ·intro e e1 p e3 e6 _;have K:aM (aK t) (96+aO h*12) [.int .u32 0]=aK {t with r:=aq t.r (aO h) {t.r (aO h)with up:=0}}:=aeW (u:=0) X;simp(disch:=omega) only[F1,go_sem,simprocAttr,e1,p,e3,e6,jB h S,W,B,K,cR,uM,j];omega
    ·intro e e6 e7 d;rw[V]at d;simp at d
   ·rw[C]at g;simp only[go_sem,simprocAttr,A8,F,b,g,y];refine key _ ?_ ?_ _ (by simp only[go_sem,simprocAttr])
    ·intro e e1 p e3 e6 a;rw[acz (λq=>a (o.1 q))]at j;simp(disch:=omega) only[F1,go_sem,simprocAttr,e1,p,e3,e6,jB h S,W,B,aeW X,cR,uM,j];omega
    ·intro e e6 e7 d;rw[acE (o.2 d)]at j;simp(disch:=omega) only[F1,go_sem,simprocAttr,e6,e7,uM,j]
def zf(t:aw)(a n:Nat):AV:=.av [.agg (aK (hY t a n).1),.int .u32 (hY t a n).2.1,.int .i64 (hY t a n).2.2]
def ara(t:aw)(k:bL t)(m:cp t)(a n:Nat)(j:a<4294967296)(H:List ae)(lo:oN):
  D X0 (.fn (.func 247) [] []) [.agg (aK t),.int .u32 a,.int .i64 n] ⟨H,lo⟩=some (.ret (zf t a n) ⟨H,lo⟩):=by
 refine aH yv λN f=>?_
 have e:=apV t k a n j;have g:=Kn t k m a j;have d:hY t a n=if((ln t a n).2.2=0\/ (ln t a n).2.2=7)/\6<=depth t a then(t,0,8)else ln t a n:=rfl
 by_cases i: (ln t a n).2.2=0\/ (ln t a n).2.2=7
 ·by_cases l:6<=depth t a
  ·rw[acE ⟨i,l⟩]at d;have b: (depth t a:Int)>=6:=by omega
   rcases i with c|c
   ·simp only[F1,go_sem,simprocAttr,yv,f,e,y6,c,g,b,cR,zf,d]
   ·simp only[F1,go_sem,simprocAttr,yv,f,e,y6,c,g,b,cR,zf,d]
  ·rw[acz (λh=>l h.2)]at d;have b: ¬(depth t a:Int)>=6:=by omega
   rcases i with c|c
   ·simp only[F1,go_sem,simprocAttr,yv,f,e,y6,c,g,b,cR,zf,d]
   ·simp only[F1,go_sem,simprocAttr,yv,f,e,y6,c,g,b,cR,zf,d]
 ·rw[acz (λh=>i h.1)]at d;have p: ¬((ln t a n).2.2:Int)=0:=by omega
  have o: ¬((ln t a n).2.2:Int)=7:=by omega
  simp only[F1,go_sem,simprocAttr,yv,f,e,y6,p,o,cR,zf,d]
theorem agf:Ext X4 X where
 dy:=rfl
 fG:=rfl
 code:=rfl
 bU:=λf=>by
  show(if f=56 then some lD else if f=19 then some m4 else if f=193 then some o8 else if f=190 then some qR else if f=188 then some wG else if f=182 then some zd else if f=167 then some Bw else none)=(if f=56 then some lD else if f=19 then some m4 else if f=193 then some o8 else if f=190 then some qR else none)\/_;by_cases i:f=56
  ·grind
  by_cases h:f=19
  ·grind
  by_cases d:f=193
  ·grind
  by_cases c:f=190
  ·grind
  by_cases j:kL.contains f=true
  ·right
   refine⟨?_,?_⟩
   ·show(if f=56 then some lD else if f=19 then some m4 else if f=193 then some o8 else if f=190 then some qR else none)=none
    grind
   ·show(if kL.contains f then none else yx.lookup f)=none
    grind
  ·left
   have a:kL.contains f=false:=by grind
   have e: ∀g,kL.contains g=true->f≠g:=λg b=>ib a b
   simp only[acz i,acz h,acz d,acz c,acz (e 188 rfl),acz (e 182 rfl),acz (e 167 rfl)]
theorem Sl: ∀ {l:List aF},(∀x∈l,1<=x.2)->l.length<=aU l
 | [],_=>by simp
 |x::xs,h=>by
  have c:=h x (ahM ..);have b:=Sl (l:=xs) λy a=>h y (aew _ a)
  simp only[aU,alM,List.sum_cons,aep]at b⊢;omega
def fR.rb{r:df}(h:fR r):RB r.runs/\r.runs.length<=64:=by
 have c:=Sl λx a=>(h.runs x a).1
 have b:=h.aU;refine⟨⟨by omega,λx a=>?_⟩,by omega⟩;have:=h.runs x a;omega
def fR.Kw{r:df}(h:fR r)(a:x<4294967296):fR {r with up:=x}:=⟨a,h.du,h.len,h.cells,h.runs,h.aU⟩
def fR.setCells{r:df}(h:fR r){f:Nat->Nat}(a: ∀i,f i<4294967296):fR {r with cells:=f}:=⟨h.up,h.du,h.len,a,h.runs,h.aU⟩
def By:fR dG:=⟨by trivial,by trivial,by trivial,by simp[dG],by trivial,by trivial⟩
def bL.get{t:aw}(a:bL t)(h:Nat):fR (aL t h).1:=by
 unfold aL;split
 ·exact(a.r _).Kw afm
 ·exact By
theorem bL.aq{t:aw}(a:bL t){i:Nat}{r:df}(b:fR r):bL {t with r:=aq t.r i r}:=⟨a.b,λj=>by
 show fR (Go.Proofs.YteplichagkpciaaGreatDoor.aq t.r i r j);by_cases e:j=i
 ·rw[e,cu];exact b
 ·rw[cy e];exact a.r j⟩
def bL.set{t:aw}(a:bL t){r:df}(b:fR r):bL (fD t h r).1:=by
 unfold fD;split
 ·omega
 ·split
  ·omega
  ·exact a.aq (b.Kw (a.r _).up)
def bL.raise{t:aw}(a:bL t)(b:x<4294967296):bL (lp t h x).1:=by
 unfold lp;split
 ·omega
 ·split
  ·omega
  ·exact a.aq ((a.r _).Kw b)
def iE(t a:aw):Prop:=a.b=t.b/\ ∀i,(a.r i).up=(t.r i).up
theorem iE.refl(t:aw):iE t t:=⟨rfl,λ_=>rfl⟩
theorem iE.trans{a b c:aw}(e:iE a b)(d:iE b c):iE a c:=⟨d.1.trans e.1,λi=>(d.2 i).trans (e.2 i)⟩
theorem iE.az{t a:aw}(h:iE t a)(x:Nat):a.az x=t.az x:=by unfold aw.az;rw[h.1]
theorem iE.bH{t a:aw}(h:iE t a)(x:Nat):bH a x=Go.Proofs.YteplichagkpciaaGreatDoor.bH t x:=by
 unfold Go.Proofs.YteplichagkpciaaGreatDoor.bH j6;simp only[h.az,h.2]
theorem iE.eu{t a:aw}(h:iE t a): ∀n x,eu a n x=Go.Proofs.YteplichagkpciaaGreatDoor.eu t n x
 |0,_=>rfl
 |n+1,x=>by simp only[Go.Proofs.YteplichagkpciaaGreatDoor.eu,h.bH,h.eu n]
theorem iE.aS{t a:aw}(h:iE t a)(x:Nat):aS a x=Go.Proofs.YteplichagkpciaaGreatDoor.aS t x:=h.eu 32 x
def iE.tree{t a:aw}(h:iE t a)(b:cp t):cp a:=λx=>by rw[h.aS];exact b x
def iE.set(t:aw)(h:Nat)(r:df):iE t (fD t h r).1:=by
 unfold fD;split
 ·exact .refl t
 ·split
  ·exact .refl t
  ·refine⟨rfl,λi=>?_⟩;show(aq t.r (aO h) _ i).up=_;by_cases e:i=aO h
   ·rw[e,cu]
   ·rw[cy e]
def arb{t:aw}(c:cp t)(a:x∈dw t h):dep t h<=dep t x:=by
 have key: ∀n h,x∈hU t n h->dep t h<=dep t x:=by
  intro n
  induction n with
  |zero=>intro h a;rw[hU,ada]at a;grind
  |succ n b=>
   intro h a;rcases aeB.1 a with rfl|a
   ·simp
   ·grind [Bh]
 exact key 32 h a
def Sm{t:aw}(a:t.az h=true):depth t h=1+dep t h:=by unfold depth;rw[acE a];rfl
def arc{t0 t:aw}(a:bL t)(h x:Nat):bL (yF t0 h t x):=by
 refine a.set (fR.setCells (a.get x) λi=>?_);have:=(a.get x).cells i
 grind
def ard(t0 t:aw)(h x:Nat):iE t (yF t0 h t x):=iE.set _ _ _
def wK(t0:aw)(h:Nat)(t:aw)(l:lN):aw:=l.foldl (yF t0 h) t
def Sn{t0 t:aw}(a:bL t)(h:Nat): ∀l,bL (wK t0 h t l):=by
 intro l
 induction l generalizing t with
 |nil=>exact a
 |cons x xs b=>exact b (arc a h x)
theorem So(t0:aw)(h:Nat): ∀ (l:lN) (t:aw),iE t (wK t0 h t l)
 | [],t=>.refl t
 |x::xs,t=>(ard t0 t h x).trans (So t0 h xs _)
def are{t0 t:aw}{l:lN}{k:Nat}(a:l[k]?=some x):wK t0 h t (l.take (k+1))=yF t0 h (wK t0 h t (l.take k)) x:=by
 unfold wK;rw[aex,a,akp];rfl
theorem Sp(t:aw)(h:Nat):jf t h=if t.az h=false then(t,4)else lp (wK t h t (dw t h)) h 0:=rfl
def agh{t:aw}{x:lA}(a: (qT t h)[j]?=some x): ∃y,x=[.int .u32 (y:Nat)]/\ (dw t h)[j]?=some y:=by
 unfold qT at a;rw[aeA,aeh]at a;obtain⟨y,b,rfl⟩:=a;exact⟨y,rfl,b⟩
def arf{t:aw}(a:cp t)(h:Nat):depth t h<=6:=by
 unfold depth;split
 ·have:=a h;omega
 ·omega
theorem agi{f:Nat->Nat}{c:Nat}: ∀ (l:lN) (s:Nat),(∀x∈l,f x<=c)->s<=c->l.foldl (λn x=>max n (f x)) s<=c
 | [],s,_,a=>a
 |x::xs,s,d,a=>agi xs _ (λy b=>d y (aew _ b)) (by grind)
def arh{t:aw}(a:cp t)(h:Nat):sd t h<=7:=by
 exact agi (f:=λx=>depth t x-depth t h+1) _ _ (λx _=>by have:=arf a x;omega) (by omega)
def ari(t:aw)(m:bL t)(k:cp t)(h:Nat)(a:t.az h=true)(H:List ae)(lo:oN):
  D X (.fn (.func 296) [] []) [.agg (aK t),.int .u32 h] ⟨H,lo⟩=some (.ret (.int .i64 (sd t h:Nat)) ⟨H,lo⟩):=by
 refine aH Qw λN q=>?_
 have K:=up dj (Sa t h (N+3) (H++[.box (aK t) none,.box [.int .u32 h] none,.box [.int .i64 0] none]) (by simp[q]) none);simp only[go_sem,simprocAttr,Qw,q,K];refine s9 (S:=Nat) (λe=>e 2= .ptr N 0/\e 3= .ptr (N+1) 0/\e 5= .ptr (N+2) 0) (by simp only[go_sem,simprocAttr]) (qT t h) q [.box (aK t) none,.box [.int .u32 h] none] (λs=>[.box (aK t) none,.box [.int .u32 h] none,.box [.int .i64 (s:Nat)] none]) (nB:=3) (λ_=>rfl) 0
  (λj s=>s=((dw t h).take j).foldl (λn x=>max n (depth t x-depth t h+1)) 0/\s<=100) (λ_ _=>False) rfl ?_ (by simp) ⟨rfl,by omega⟩ (λ_ _ h=>h.elim) ?_ ?_ ?_
 ·exact Sc agf t m k h a (N+3)
 ·rintro e ⟨A,e3,w⟩ j x s B ⟨E,C⟩;obtain⟨y,rfl,z⟩:=agh B;have c:y∈dw t h:=ajY z;have f:=EN m.b a c;have I:=arb k c;have M:=k y;have U:=Sm f;have T:=Sm a;have R:dep t y<=5:=M;have b:=λH lo=>up dj (Kn t m k y (gi f) H lo)
  have v:=λH lo=>up dj (Kn t m k h (gi a) H lo)
  refine⟨rfl,λW n P F u=>?_⟩;simp only[go_sem,simprocAttr,gT];refine⟨[],by simp,λV L g=>?_⟩;simp only[eP,eO,akq,aem,Nat.reduceAdd]at g;obtain⟨w0,w1,l⟩:=g;have r:max (s:Int) ((depth t y:Int)-depth t h+1)=((max s (depth t y-depth t h+1):Nat):Int):=by omega
  simp(disch:=omega) only[go_sem,simprocAttr,ad6,A,e3,w,w0,w1,l,b,v,Nc,Nb,r,nz];refine⟨max s (depth t y-depth t h+1),?_,λi Q G=>abN (by omega),?_,?_⟩
  ·simp only[eP,eO,akq,aem,Nat.reduceAdd];exact⟨by rw[abN (by omega)];exact w0,by rw[abN (by omega)];exact w1,cT l⟩
  ·rw[aex,z,akp,<-E];rfl
  ·omega
 ·rintro e ⟨A,e3,w⟩ s W p O ⟨rfl,_⟩ d u J;simp only[eP,eO,akq,aem,Nat.reduceAdd]at u;obtain⟨w0,w1,l⟩:=u;have b: ∀o,(W.set p o).take N=H:=λo=>(d.set (by omega)).take q
  simp only[F1,go_sem,simprocAttr,w,l,J,mj,b];rw[Sb,aeo];rfl
 grind
def wL(t:aw)(h w:Nat):AV:=.av [.agg (aK (uD t h w).1),.int .i64 (uD t h w).2]
def arj(t:aw)(k:bL t)(f:cp t)(h w:Nat)(q:h<4294967296)(p:w<4294967296)(H:List ae)(lo:oN):
  D X (.fn (.func 261) [] []) [.agg (aK t),.int .u32 h,.int .u32 w] ⟨H,lo⟩=some (.ret (wL t h w) ⟨H,lo⟩):=by
 refine aH v8 λN i=>?_
 have a:=λH lo=>up dj (ew t.b h q H lo)
 have b:=λH lo=>up dj (ew t.b w p H lo)
 have v: ∀h,az t.b h=t.az h:=λh=>rfl
 simp only[v]at a b;have c:uD t h w=if t.az h=false\/t.az w=false then(t,4)else if root t h≠h\/j7 t h w then(t,12)else if 6<depth t w+sd t h then(t,8)else lp t h w:=rfl
 have d:=λH lo=>up dj (zb t k f h q H lo)
 have e:=λH lo=>up dj (Sj t k f h w q p H lo)
 have l:=λH lo=>up dj (Kn t k f w p H lo)
 have u:=λH lo=>up dj (age t k f h w q p H lo)
 cases n:t.az h with
 |false=>
  rw[n]at a;rw[acE (.inl n)]at c;simp only[F1,go_sem,simprocAttr,v8,i,a,cR,wL,c]
 |true=>
  rw[n]at a;have j:=ari t k f h n;cases m:t.az w with
  |false=>
   rw[m]at b;rw[acE (.inr m)]at c;simp only[F1,go_sem,simprocAttr,v8,i,a,b,cR,wL,c]
  |true=>
   rw[m]at b;rw[acz (by rw[n,m];simp)]at c;by_cases s:root t h=h
   ·have o: ((root t h:Nat):Int)=(h:Nat):=by omega
    cases r:j7 t h w with
    |true=>
     rw[acE (.inr r)]at c;rw[r]at e;rw[s]at d;simp only[F1,go_sem,simprocAttr,v8,i,a,b,d,e,cR,wL,c]
    |false=>
     rw[acz (by rw[r];simp[s])]at c;rw[r]at e;rw[s]at d;have y:sd t h<=7:=arh f h;have z:depth t w<=100:=by
      have:=f w;rw[Sm m];show 1+(aS t w).length<=100;omega
     by_cases x:6<depth t w+sd t h
     ·have g: (depth t w:Int)+sd t h>6:=by omega
      rw[acE x]at c;simp(disch:=omega) only[F1,go_sem,simprocAttr,v8,i,a,b,d,e,l,j,g,cR,wL,c]
     ·have g: ¬(depth t w:Int)+sd t h>6:=by omega
      rw[acz x]at c;simp(disch:=omega) only[F1,go_sem,simprocAttr,v8,i,a,b,d,e,l,j,g,u,uM,cR,wL,c]
   ·have o: ¬((root t h:Nat):Int)=(h:Nat):=by omega
    rw[acE (.inl s)]at c;simp only[F1,go_sem,simprocAttr,v8,i,a,b,d,o,cR,wL,c]
def uN(t:aw)(h c:Nat):Bool:=decide (c≠h)&&j7 t c h
def ark(t:aw)(i:bL t)(l:cp t)(h c:Nat)(j:h<4294967296)(k:c<4294967296)(g f:Nat)(H:List ae)(b:H[f]?=some (.box (aK t) none))(a:H[g]?=some (.box [.int .u32 h] none))(lo:oN):
  D X (.fn (.func 326) [] [.ptr g 0,.ptr f 0]) [.int .u32 c] ⟨H,lo⟩=some (.ret (.bool (uN t h c)) ⟨H,lo⟩):=by
 refine fe JW λN n=>?_
 have d:=λH lo=>up dj (Sj t i l c h k j H lo)
 by_cases e:c=h
 ·simp(disch:=omega) only[F1,go_sem,simprocAttr,JW,a,uN,e,not_true,dF,afH]
 ·have m: ¬(c:Int)=h:=by omega
  simp(disch:=omega) only[F1,go_sem,simprocAttr,JW,b,a,m,d,uN,e]
def sA(t:aw)(h:Nat)(f:Nat->Nat)(k:Nat):Nat->Nat:=λi=>if i<k/\uN t h (f i)=true then 0 else f i
theorem E3{t:aw}{f:Nat->Nat}{k:Nat}:sA t h f k i=if i<k/\uN t h (f i)=true then 0 else f i:=rfl
def arl(t:aw)(h:Nat)(f:Nat->Nat)(k:Nat):sA t h f (k+1)=if uN t h (f k)=true then aq (sA t h f k) k 0 else sA t h f k:=by
 funext i
 by_cases a:uN t h (f k)=true
 ·by_cases e:i=k
  ·simp_all[cu,E3,acE]
  ·grind [cy,E3]
 ·rw[acz a,E3,E3]
  grind
def arn(t:aw)(h:Nat)(r:df):bR {r with cells:=sA t h r.cells 8}=bR {r with cells:=λi=>if r.cells i≠h/\j7 t (r.cells i) h then 0 else r.cells i}:=by
 refine aeL (EC λi a=>?_);simp only[sA,uN,a,axg]
 grind
def Kx(t:aw)(h:Nat):AV:=.av [.agg (aK (jf t h).1),.int .i64 (jf t h).2]
def aro(t:aw)(I:bL t)(hT:cp t)(h:Nat)(hh:h<4294967296)(H:List ae)(lo:oN):
  D X (.fn (.func 294) [] []) [.agg (aK t),.int .u32 h] ⟨H,lo⟩=some (.ret (Kx t h) ⟨H,lo⟩):=by
 refine aH JQ λN U=>?_
 have q:=λH lo=>up dj (ew t.b h hh H lo)
 have hgg: ∀h,az t.b h=t.az h:=λh=>rfl
 simp only[hgg]at q;cases d:t.az h with
 |false=>
  rw[d]at q;have Z:jf t h=(t,4):=by rw[Sp,acE d]
  simp only[F1,go_sem,simprocAttr,JQ,U,q,cR,Kx,Z]
 |true=>
  rw[d]at q;have Z:jf t h=lp (wK t h t (dw t h)) h 0:=by rw[Sp,acz (by rw[d];simp)]
  have ha:=up dj (Sa t h (N+5) (H++[.box (aK t) none,.box [.int .u32 h] none,.box ku none,.box [.fn (.func 326) [] [.ptr (N+1) 0,.ptr N 0]] none,.box (aK t) none]) (by simp[U]) none);have hmx:max (N+1+1) (N+1)<=N+3+1:=by omega
  simp only[go_sem,simprocAttr,JQ,U,q,cR,ha,hmx];refine s9 (S:=aw) (λe=>e 3= .ptr (N+1) 0/\e 4= .ptr (N+2) 0/\e 6= .ptr (N+3) 0/\e 7= .ptr (N+4) 0) (by simp only[go_sem,simprocAttr]) (qT t h) U [.box (aK t) none,.box [.int .u32 h] none] (λs=>[.box (aK t) none,.box [.int .u32 h] none,.box ku none,.box [.fn (.func 326) [] [.ptr (N+1) 0,.ptr N 0]] none,.box (aK s) none]) (nB:=5) (λ_=>rfl) t
   (λj s=>s=wK t h t ((dw t h).take j)) (λ_ _=>False) rfl ?_ (by simp) rfl (λ_ _ h=>h.elim) ?_ ?_ ?_
  ·exact Sc agf t I hT h d (N+5)
  ·rintro e ⟨e3,e4,e6,e7⟩ j x s hx A;obtain⟨y,rfl,hy⟩:=agh hx;have hym:y∈dw t h:=ajY hy;have P:=EN I.b d hym;have J:=are (t0:=t) (t:=t) (h:=h) hy;have b:bL s:=by rw[A];exact Sn I h _
   rw[<-A]at J;have Q:=λH lo=>up dj (uJ s b y (gi P) H lo)
   have B:=b.get y;have c:yF t h s y=(fD s y {(aL s y).1 with cells:=λi=>if(aL s y).1.cells i≠h/\j7 t ((aL s y).1.cells i) h then 0 else(aL s y).1.cells i}).1:=rfl;generalize hr: (aL s y).1=r at*;have g:fR {r with cells:=λi=>if r.cells i≠h/\j7 t (r.cells i) h then 0 else r.cells i}:=fR.setCells B λi=>by
    have:=B.cells i;show(if _ then _ else _)<_;split<;>omega
   have K:=λH lo=>up dj (Sk s b y (gi P) _ g.rb.1 (by have:=g.rb.2;omega) (by have:=g.len;omega) H lo)
   refine⟨rfl,λW n hn hnl hg=>?_⟩;simp only[go_sem,simprocAttr,gT];refine⟨[],by simp,λG T R=>?_⟩;simp only[eP,eO,akq,aem,Nat.reduceAdd]at R;obtain⟨w0,w1,Y,w3,V⟩:=R;have f0: ∀L,(G++L)[N]?=_:=λL=>bf w0
   have f1: ∀L,(G++L)[N+1]?=_:=λL=>bf w1
   have f3: ∀L,(G++L)[N+3]?=_:=λL=>bf w3
   have f4: ∀L,(G++L)[N+4]?=_:=λL=>bf V
   have hpc:Den.part true 8 (bR r) 4=_:=J3 (r:=r);simp only[go_sem,simprocAttr,ad5,e7,V,Q,m0,hr,kb,T,hpc,aeC];refine ek 8 (λk C H'=>H'=G++[.box (bR {r with cells:=sA t h r.cells k}) none]/\C 6= .ptr (N+3) 0/\C 7= .ptr (N+4) 0/\C 8= .int .u32 y/\C 9= .ptr n 0/\C 33= .agg (arr 8 λi=>[.int .u32 (r.cells i)])/\C 34= .int .i64 k) 0 (by omega) ?_ ?_
   ·simp only[go_sem,simprocAttr,e6,e7];have:sA t h r.cells 0=r.cells:=by funext i;rw[E3,acz (by omega)]
    rw[this]
   ·rintro k hk C H' ⟨rfl,a6,a7,a8,a9,F,E⟩ n' Gc;simp only[cg,go_sem,simprocAttr,ad4,a7,F,E];refine⟨λhc=>?_,λhc=>?_⟩
    ·have l:k<8:=by omega
     have w:pM false 8 1 (.agg (arr 8 λi=>[AV.int .u32 (r.cells i)])) (.int .i64 (k:Nat))=some (.int .u32 (r.cells k)):=
      Q8 l (by have:=kI (ag:=false) (m:=1) (n:=8) (k:=1) (i:=k) (o:=0) (f:=λi=>[AV.int .u32 (r.cells i)]) (λ_=>rfl) l (by omega) (by omega);rw[aem]at this;rw[this];rfl)
     have v:=ark t I hT h (r.cells k) hh (B.cells k) (N+1) N (G++[.box (bR {r with cells:=sA t h r.cells k}) none]) (f0 _) (f1 _) none;have c:=arl t h r.cells k;cases ho:uN t h (r.cells k)
     ·rw[ho]at c v;rw[acz (by simp)]at c;simp(disch:=omega) only[go_sem,simprocAttr,a6,a7,a8,a9,F,E,w,f3,v];rw[c];exact⟨l,rfl⟩
     ·rw[ho]at c v;rw[acE rfl]at c;simp(disch:=omega) only[go_sem,simprocAttr,a6,a7,a8,a9,F,E,w,f3,v];have hsp:=aeX (r:={r with cells:=sA t h r.cells k}) (u:=0) l;rw[c];exact⟨by omega,by omega,l,afW (λz=>G++[ae.box z none]) hsp⟩
    ·obtain rfl:k=8:=by omega
     have Sq:=arn t h r;simp only[go_sem,simprocAttr,a7,a8,a9,f4,Sq,K,sy,nz,T];have gq:List.drop 480 (aK s)=[]:=afL (by rw[iv];omega);rw[gq,aeC];refine⟨yF t h s y,?_,by omega,λi hi Gs=>?_,J.symm⟩
     ·simp only[eP,eO,akq,aem,Nat.reduceAdd];refine⟨?_,?_,?_,?_,?_⟩
      ·rw[abN (by omega)];exact f0 _
      ·rw[abN (by omega)];exact f1 _
      ·rw[abN (by omega)];exact bf Y
      ·rw[abN (by omega)];exact f3 _
      ·rw[c];exact cT (f4 _)
     ·rw[abN (by omega),abP (by omega)]
  ·rintro e ⟨e3,e4,e6,e7⟩ s W p hp A O hg hd;simp only[eP,eO,akq,aem,Nat.reduceAdd]at hg;obtain⟨w0,w1,Y,w3,V⟩:=hg;rw[Sb,aeo]at A;have b:bL s:=by rw[A];exact Sn I h _
   have hsT:cp s:=by rw[A];exact(So t h _ t).tree hT
   have Se:=λH lo=>up dj (age s b hsT h 0 hh (by omega) H lo)
   rw[<-A]at Z;have Nu: ∀a o,((W.set (N+2) a).set p o).take N=H:=λa o=>((O.set (by omega)).set (by omega)).take U
   have M: ∀H lo,D X (.fn (.func 297) [] []) [.agg (aK s),.int .u32 h,.int .u32 0] ⟨H,lo⟩=some (.ret (uM s h 0) ⟨H,lo⟩):=Se;simp(disch:=omega) only[F1,go_sem,simprocAttr,e3,e4,e7,w1,Y,V,M,uM,hd,mj,Nu,cR,cT Y,Kx,Z]
  ·rintro e he ex s W p hp hJ;exact hJ.elim
structure wN(x:Ow):Prop where
 kind:x.kind<256
 aa:x.aa<256
 hold:x.hold<256
structure fF(o:bJ):Prop where
 root: ∀i,(o i).root<4294967296
 own: ∀i,wN (o i).own
def Sr:wN wm:=⟨by trivial,by trivial,by trivial⟩
def fF.of{o:bJ}(ho:fF o)(t:aw)(h:Nat):wN (b0 o t h):=by
 unfold b0;split
 ·split
  ·exact ho.own _
  ·exact Sr
 ·exact Sr
def fF.Ky{o:bJ}(ho:fF o){t:aw}{r:Nat}{x:Ow}(b:r<4294967296)(a:wN x):fF (fQ o t r aa x).1:=by
 unfold fQ;split
 ·omega
 ·split
  ·omega
  ·split
   ·omega
   ·refine⟨λi=>?_,λi=>?_⟩
    ·show(aq o (aO r) ⟨r,x⟩ i).root<_;by_cases e:i=aO r
     ·rw[e,cu];exact b
     ·rw[cy e];exact ho.root i
    ·show wN (aq o (aO r) ⟨r,x⟩ i).own;by_cases e:i=aO r
     ·rw[e,cu];exact a
     ·rw[cy e];exact ho.own i
def zg(aa:Nat):hZ aa<256:=by
 unfold hZ;have:2^(aa % 8)<=2^7:=Nat.pow_le_pow_right (by omega) (by omega);omega
def azt(b:a<256): (BitVec.ofInt 8 (a:Int)).toNat=a:=by grind
def Kz(d:a<256)(c:b<256):dh .and (.int .u8 (a:Nat)) (.int .u8 (b:Nat))=some (.int .u8 ((a&&&b:Nat):Int)):=by
 rw[CP];have e: (BitVec.ofInt IntKind.u8.bits (a:Int)&&&BitVec.ofInt IntKind.u8.bits (b:Int)).toNat=a&&&b:=by
  show(BitVec.ofInt 8 (a:Int)&&&BitVec.ofInt 8 (b:Int)).toNat=_
  grind
 have f:a&&&b<=a:=Nat.and_le_left;rw[e,wrap_u8 (by omega) (by omega)]
def arv(d:a<256)(c:b<256):dh .xor (.int .u8 (a:Nat)) (.int .u8 (b:Nat))=some (.int .u8 ((a^^^b:Nat):Int)):=by
 rw[M9];have e: (BitVec.ofInt IntKind.u8.bits (a:Int)^^^BitVec.ofInt IntKind.u8.bits (b:Int)).toNat=a^^^b:=by
  show(BitVec.ofInt 8 (a:Int)^^^BitVec.ofInt 8 (b:Int)).toNat=_
  grind
 have f:a^^^b<2^8:=axy (by omega) (by omega);rw[e,wrap_u8 (by omega) (by omega)]
theorem agj{k:Nat}:x&&&2^k=0↔x.testBit k=false:=by
 constructor
 ·intro h;have: (x&&&2^k).testBit k=false:=by grind
  grind
 ·intro h;apply Nat.eq_of_testBit_eq
  grind
def agk:decide (¬((x&&&hZ aa:Nat):Int)=0)=nO x aa:=by
 unfold nO hZ;cases h:x.testBit (aa % 8)
 ·rw[agj.2 h];simp
 ·grind [agj]
def Ss(aa:Nat)(f:aa<4611686018427387904)(H:List ae)(lo:oN):D X0 (.fn (.func 280) [] []) [.int .i64 aa] ⟨H,lo⟩=some (.ret (.int .u8 (hZ aa:Nat)) ⟨H,lo⟩):=by
 refine aH Qp λN h=>?_
 have e:dh .and (.int .i64 (aa:Nat)) (.int .i64 7)=some (.int .i64 ((aa % 8:Nat):Int)):=by
  rw[CP];have e: (BitVec.ofInt IntKind.i64.bits (aa:Int)&&&BitVec.ofInt IntKind.i64.bits 7).toNat=aa % 8:=by
   show(BitVec.ofInt 64 (aa:Int)&&&BitVec.ofInt 64 7).toNat=_;have c: (BitVec.ofInt 64 (aa:Int)).toNat=aa:=by grind
   have b: (BitVec.ofInt 64 7).toNat=2^3-1:=by rfl
   rw[BitVec.toNat_and,c,b,ayG]
  rw[e,wrap_i64 (by omega) (by omega)]
 have g:=zg aa;have d:kn .shl (.int .u8 1) (.int .i64 ((aa % 8:Nat):Int))=some (.int .u8 (hZ aa:Nat)):=by
  rw[z9,acE (by omega)];have: (1:Int)*2^(min ((aa % 8:Nat):Int).toNat IntKind.u8.bits)=(hZ aa:Nat):=by
   have a:IntKind.u8.bits=8:=rfl;rw[a,ayr,aon (by omega),Int.one_mul];unfold hZ;simp
  rw[this,wrap_u8 (by omega) (by omega)]
 simp(disch:=omega) only[F1,go_sem,simprocAttr,Qp,e,d]
def Bz(o:bJ)(ho:fF o)(t:aw)(p:bL t)(n:cp t)(h:Nat)(m:h<4294967296)(H:List ae)(lo:oN):
  D X0 (.fn (.func 267) [] []) [.agg (cJ o),.agg (aK t),.int .u32 h] ⟨H,lo⟩=some (.ret (.agg (jx (b0 o t h))) ⟨H,lo⟩):=by
 refine aH Er λN k=>?_
 have a:=zb t p n h m;have b:=aqh (h:=h) n m;have f:b0 o t h=match eF (root t h)with|some i=>if(o i).root=root t h then(o i).own else wm|none=>wm:=rfl
 cases d:eF (root t h)with
 |none=>
  rw[d]at f;have e1:b0 o t h=wm:=f;simp only[F1,go_sem,simprocAttr,Er,k,a,jB (root t h) b,iB,d,e1];rfl
 |some i=>
  rw[d]at f;have j:=aeK d;have e: (i:Int)<32:=by omega
  by_cases l: (o i).root=root t h
  ·have c: (((o i).root:Nat):Int)=(root t h:Nat):=by omega
   have e1:b0 o t h=(o i).own:=by rw[f];exact acE l
   have g:jx (o i).own=[.int .u8 (o i).own.kind,.int .u8 (o i).own.aa,.int .u8 (o i).own.hold]:=rfl;simp only[F1,go_sem,simprocAttr,Er,k,a,jB (root t h) b,iB,d,e1,e,ae0 j,c,apv j,g]
  ·have c: ¬(((o i).root:Nat):Int)=(root t h:Nat):=by omega
   have e1:b0 o t h=wm:=by rw[f];exact acz l
   simp only[F1,go_sem,simprocAttr,Er,k,a,jB (root t h) b,iB,d,e1,e,ae0 j,c];rfl
def kT(o:bJ)(t:aw)(r aa:Nat)(x:Ow):AV:=.av [.agg (cJ (fQ o t r aa x).1),.int .i64 (fQ o t r aa x).2]
theorem arw:uc.length=128:=by rfl
theorem arx:List.drop 128 uc=[]:=by rfl
def gl:type_of% arw/\type_of% arx:=by decide
def E4(o:bJ)(t:aw)(v:bL t)(A:cp t)(r:Nat)(k:r<4294967296)(aa:Nat)(u:aa<4611686018427387904)(x:Ow)(H:List ae)(lo:oN):
  D X0 (.fn (.func 298) [] []) [.agg (cJ o),.agg (aK t),.int .u32 r,.int .i64 aa,.agg (jx x)] ⟨H,lo⟩=some (.ret (kT o t r aa x) ⟨H,lo⟩):=by
 refine aH A9 λN i=>?_
 have c:=zb t v A r k;have a:=ew t.b r k;have m: ∀h,az t.b h=t.az h:=λh=>rfl
 simp only[m]at a;have z:=yH r;have l: (aO r:Int)<32:=by omega
 have y:iB r= .av [.int .i64 (aO r:Nat),.bool (eF r).isSome]:=rfl;have b:fQ o t r aa x=if t.az r=false then(o,4)else if root t r≠r then(o,12)else if 8<=aa then(o,2)else(aq o (aO r) ⟨r,x⟩,0):=rfl
 have d:jx x=[.int .u8 x.kind,.int .u8 x.aa,.int .u8 x.hold]:=rfl;cases g:t.az r with
 |false=>
  rw[acE g]at b;rw[g]at a;simp only[F1,go_sem,simprocAttr,A9,i,a,kT,b,gl,d]
 |true=>
  rw[acz (by rw[g];simp)]at b;rw[g]at a;by_cases q:root t r=r
  ·rw[acz (by simpa using q)]at b;rw[q]at c;by_cases s:8<=aa
   ·rw[acE s]at b;have f: (aa:Int)>=8:=by omega
    have n: ¬(aa:Int)<0:=by omega
    simp only[F1,go_sem,simprocAttr,A9,i,a,c,f,n,kT,b,gl,d]
   ·rw[acz s]at b;have f: ¬(aa:Int)>=8:=by omega
    have n: ¬(aa:Int)<0:=by omega
    have e:=apw (w:=o) (x:=⟨r,x⟩) z;have j:sa ⟨r,x⟩=[.int .u32 r,.int .u8 x.kind,.int .u8 x.aa,.int .u8 x.hold]:=rfl;rw[j]at e;simp only[F1,go_sem,simprocAttr,A9,i,a,c,f,n,kT,b,gl,d,jB r k,y,l,e];omega
  ·rw[acE q]at b;have p: ¬((root t r:Nat):Int)=(r:Nat):=by omega
   simp only[F1,go_sem,simprocAttr,A9,i,a,c,p,kT,b,gl,d]
section
variable(o:bJ)(t:aw)(ht:bL t)(hT:cp t)(r:Nat)(hr:r<4294967296)(aa:Nat)(ml:aa<256)(H:List ae)(lo:oN)
include ht hT hr ml
theorem ary:D X0 (.fn (.func 286) [] []) [.agg (cJ o),.agg (aK t),.int .u32 r,.int .i64 aa] ⟨H,lo⟩=some (.ret (.av [.agg (cJ (qE o t r aa).1),.int .i64 (qE o t r aa).2]) ⟨H,lo⟩):=by
 refine aH Qs λN c=>?_
 have b:=E4 o t ht hT r hr aa (by omega) ⟨1,aa % 256,0⟩;have a:jx ⟨1,aa % 256,0⟩=[.int .u8 1,.int .u8 aa,.int .u8 0]:=by rw[amo ml];rfl
 rw[a]at b;have d:qE o t r aa=fQ o t r aa ⟨1,aa % 256,0⟩:=rfl;simp(disch:=omega) only[F1,go_sem,simprocAttr,Qs,c,b,kT,gl,d]
theorem arz:D X0 (.fn (.func 262) [] []) [.agg (cJ o),.agg (aK t),.int .u32 r,.int .i64 aa] ⟨H,lo⟩=some (.ret (.av [.agg (cJ (yG o t r aa).1),.int .i64 (yG o t r aa).2]) ⟨H,lo⟩):=by
 refine aH Qi λN d=>?_
 have b:=E4 o t ht hT r hr aa (by omega) ⟨3,0,hZ aa⟩;have a:jx ⟨3,0,hZ aa⟩=[.int .u8 3,.int .u8 0,.int .u8 (hZ aa)]:=rfl;rw[a]at b;have e:yG o t r aa=fQ o t r aa ⟨3,0,hZ aa⟩:=rfl;have c:=Ss aa (by omega);simp only[F1,go_sem,simprocAttr,Qi,d,b,c,kT,gl,e]
end
def arA(o:bJ)(t:aw)(ht:bL t)(hT:cp t)(r:Nat)(hr:r<4294967296)(H:List ae)(lo:oN):
  D X0 (.fn (.func 270) [] []) [.agg (cJ o),.agg (aK t),.int .u32 r] ⟨H,lo⟩=some (.ret (.av [.agg (cJ (wo o t r).1),.int .i64 (wo o t r).2]) ⟨H,lo⟩):=by
 refine aH Qk λN b=>?_
 have a: ∀H lo,D X0 (.fn (.func 298) [] []) [.agg (cJ o),.agg (aK t),.int .u32 r,.int .i64 0,.agg [.int .u8 2,.int .u8 0,.int .u8 0]] ⟨H,lo⟩=_:=E4 o t ht hT r hr 0 (by omega) ⟨2,0,0⟩;have c:wo o t r=fQ o t r 0 ⟨2,0,0⟩:=rfl;simp only[F1,go_sem,simprocAttr,Qk,b,a,kT,gl,c]
theorem agl{o:bJ}:List.drop 128 (cJ o)=[]:=by rfl
def pa(o:bJ)(t:aw)(r aa:Nat)(hold:Bool):AV:=.av [.agg (cJ (dv o t r aa hold).1),.int .u8 (dv o t r aa hold).2.1,.int .i64 (dv o t r aa hold).2.2]
def arB{o:bJ}{t:aw}{r:Nat}{x y:Ow}(h: (fQ o t r aa x).2=0):fQ (fQ o t r aa x).1 t r aa y=fQ o t r aa y:=by
 unfold fQ at h⊢;split at h
 ·cases h
 ·simp_all[acz,r9]
def arC(o:bJ)(t:aw)(r aa:Nat)(x:Ow): (fQ o t r aa x).2=if t.az r=false then 4 else if root t r≠r then 12 else if 8<=aa then 2 else 0:=by
 unfold fQ
 grind
def agm(o:bJ)(ho:fF o)(t:aw)(ht:bL t)(hT:cp t)(r:Nat)(hr:r<4294967296)(aa:Nat)(ml:aa<256)(hold:Bool)(H:List ae)(lo:oN):
  D X0 (.fn (.func 299) [] []) [.agg (cJ o),.agg (aK t),.int .u32 r,.int .i64 aa,.bool hold] ⟨H,lo⟩=some (.ret (pa o t r aa hold) ⟨H,lo⟩):=by
 refine aH qy λN l=>?_
 have c:=Bz o ho t ht hT r hr;have k:=Ss aa (by omega);have d:=zb t ht hT r hr;have b:=ew t.b r hr;have C: ∀h,az t.b h=t.az h:=λh=>rfl
 simp only[C]at b;have s:=ho.of t r;have g:dv o t r aa hold=(let x:=b0 o t r
  let e:=(fQ o t r aa x).2
  if e=4\/ (t.az r=true/\root t r≠r)then(o,0,e)
  else if x.kind≠3 then(o,0,12)
  else if e≠0 then(o,0,e)
  else if nO x.hold aa&&hold then(o,0,7)
  else if !nO x.hold aa&& !hold then(o,0,5)
  else((fQ o t r aa {x with hold:=x.hold^^^hZ aa}).1,x.hold^^^hZ aa,(fQ o t r aa {x with hold:=x.hold^^^hZ aa}).2)):=rfl
 generalize G:b0 o t r=x at*;have j:=E4 o t ht hT r hr aa (by omega) x;have a:=arC o t r aa x;have B:jx x=[.int .u8 x.kind,.int .u8 x.aa,.int .u8 x.hold]:=rfl;have hand:=Kz s.hold (zg aa);have f:=agk (x:=x.hold) (aa:=aa);rw[B]at j c;simp only at g;cases z:t.az r with
 |false=>
  rw[acE z]at a;rw[a,acE (.inl rfl)]at g;rw[z]at b;simp only[F1,go_sem,simprocAttr,qy,l,c,j,kT,a,k,hand,f,gl,pa,g]
 |true=>
  rw[acz (by rw[z];simp)]at a;rw[z]at b;by_cases q:root t r=r
  ·rw[acz (by simpa using q)]at a;rw[q]at d;by_cases E:x.kind=3
   ·have i:decide (¬(x.kind:Int)=3)=false:=acK (by omega);by_cases A:8<=aa
    ·rw[acE A]at a;rw[a,acz (by simp[q]),acz (by simpa using E),acE (by omega)]at g;simp only[F1,go_sem,simprocAttr,qy,l,b,d,c,j,kT,a,k,hand,f,i,gl,pa,g]
    ·rw[acz A]at a;rw[a,acz (by simp[q]),acz (by simpa using E),acz (by omega)]at g;have p:=E4 (fQ o t r aa x).1 t ht hT r hr aa (by omega) {x with hold:=x.hold^^^hZ aa};have v:jx {x with hold:=x.hold^^^hZ aa}=[.int .u8 x.kind,.int .u8 x.aa,.int .u8 (x.hold^^^hZ aa:Nat)]:=rfl;have u:=arB (y:={x with hold:=x.hold^^^hZ aa}) a;have w: (N+1 !=N)=true:=by simp
     have m:=arv s.hold (zg aa);rw[v]at p;cases n:nO x.hold aa<;>cases hold
     ·rw[n,acz (by simp),acE (by simp)]at g;simp only[F1,go_sem,simprocAttr,qy,l,b,d,c,j,kT,a,k,hand,f,n,i,gl,pa,g]
     ·rw[n,acz (by simp),acz (by simp)]at g;simp only[F1,go_sem,simprocAttr,qy,l,b,d,c,j,kT,a,k,hand,f,n,i,gl,pa,g,m,p,u,agl,w,aq9]
     ·rw[n,acz (by simp),acz (by simp)]at g;simp only[F1,go_sem,simprocAttr,qy,l,b,d,c,j,kT,a,k,hand,f,n,i,gl,pa,g,m,p,u,agl,w,aq9]
     ·rw[n,acE (by simp)]at g;simp only[F1,go_sem,simprocAttr,qy,l,b,d,c,j,kT,a,k,hand,f,n,i,gl,pa,g]
   ·have i: ¬(x.kind:Int)=3:=by omega
    rw[acz (by rw[a];simp[q];split<;>simp),acE E]at g;by_cases A:8<=aa
    ·rw[acE A]at a;simp only[F1,go_sem,simprocAttr,qy,l,b,d,c,j,kT,a,k,hand,f,i,gl,pa,g]
    ·rw[acz A]at a;simp only[F1,go_sem,simprocAttr,qy,l,b,d,c,j,kT,a,k,hand,f,i,gl,pa,g]
  ·rw[acE q]at a;have F: ¬((root t r:Nat):Int)=(r:Nat):=by omega
   rw[acE (.inr ⟨z,q⟩),a]at g;simp only[F1,go_sem,simprocAttr,qy,l,b,d,F,c,j,kT,a,k,hand,f,gl,pa,g]
def agn(o:bJ)(ho:fF o)(t:aw)(ht:bL t)(hT:cp t)(r:Nat)(hr:r<4294967296)(aa:Nat)(ml:aa<256)(H:List ae)(lo:oN):
  D X0 (.fn (.func 265) [] []) [.agg (cJ o),.agg (aK t),.int .u32 r,.int .i64 aa] ⟨H,lo⟩=some (.ret (.av [.agg (cJ (dv o t r aa true).1),.int .i64 (dv o t r aa true).2.2]) ⟨H,lo⟩):=by
 refine aH Qj λN b=>?_
 have a:=agm o ho t ht hT r hr aa ml true;simp only[F1,go_sem,simprocAttr,Qj,b,a,pa,gl]
def E5(x:Nat):Nat:=(Hk.getD x 0).toNat
def arD: ∀x,x<256->(E5 x=0↔x=0):=by decide
def ago{o:bJ}(ho:fF o){t:aw}{r:Nat}{hold:Bool}: (dv o t r aa hold).2.1<256:=by
 unfold dv;simp only;split
 ·simp
 ·split
  ·simp
  ·split
   ·simp
   ·split
    ·simp
    ·split
     ·simp
     ·exact axy (n:=8) (ho.of t r).hold (zg aa)
def arE(o:bJ)(ho:fF o)(t:aw)(ht:bL t)(hT:cp t)(r:Nat)(hr:r<4294967296)(aa:Nat)(ml:aa<256)(H:List ae)(lo:oN):
  D X0 (.fn (.func 300) [] []) [.agg (cJ o),.agg (aK t),.int .u32 r,.int .i64 aa] ⟨H,lo⟩=some (.ret (.av [.agg (cJ (dv o t r aa false).1),.int .i64 (E5 (dv o t r aa false).2.1),.int .i64 (dv o t r aa false).2.2]) ⟨H,lo⟩):=by
 refine aH Qx λN b=>?_
 have e:=agm o ho t ht hT r hr aa ml false;have c:=ago ho (t:=t) (r:=r) (aa:=aa) (hold:=false);have a: ∀H lo,D X0 (.fn (.func 327) [] []) [.int .u8 ((dv o t r aa false).2.1:Nat)] ⟨H,lo⟩=some (.ret (.int .i64 (E5 (dv o t r aa false).2.1:Nat)) ⟨H,lo⟩):=by
  intro H lo;generalize(dv o t r aa false).2.1=x at*;refine aH QO λN b=>?_
  have d:Hk.length=256:=by rfl
  have f:=UInt8.toNat_lt (Hk.getD x 0);simp(disch:=omega) only[F1,go_sem,simprocAttr,QO,d];exact⟨by omega,rfl⟩
 simp only[F1,go_sem,simprocAttr,Qx,b,e,pa,a,gl]
structure sB(x:Tok):Prop where
 aN:x.aN<4294967296
 iM:x.iM<256
 to:x.to<256
 aS:x.aS<4294967296
structure gB(k:bh):Prop where
 b:gO k.b
 lt: ∀i,(k.b i).eJ=true->i<16
 t: ∀i,sB (k.t i)
def agp:sB J7:=⟨by trivial,by trivial,by trivial,by trivial⟩
def gB.get{k:bh}(a:gB k)(h:Nat):sB (ch k h).1:=by
 unfold ch;split
 ·exact a.t _
 ·exact agp
def gB.slot{k:bh}(a:gB k)(b:az k.b h=true):aO h<16:=by
 obtain⟨_,e,_⟩:=Bf b;exact a.lt _ (by rw[e])
def BA(k:bh)(j:gB k)(h:Nat)(f:h<4294967296)(H:List ae)(lo:oN):
  D X0 (.fn (.func 171) [] []) [.agg (bS k),.int .u32 h] ⟨H,lo⟩=some (.ret (.av [.agg (fC (ch k h).1),.int .i64 (ch k h).2]) ⟨H,lo⟩):=by
 refine aH Jq λN g=>?_
 have a:=ew k.b h f;have i:iB h= .av [.int .i64 (aO h:Nat),.bool (eF h).isSome]:=rfl;cases d:az k.b h with
 |false=>
  rw[d]at a;have e:ch k h=(J7,4):=by unfold ch;grind
  simp only[F1,go_sem,simprocAttr,Jq,g,a,e];rfl
 |true=>
  rw[d]at a;have e:ch k h=(k.t (aO h),0):=by unfold ch;grind
  have l:=j.slot d;have c: (aO h:Int)<16:=by omega
  have b:fC (k.t (aO h))=[.int .u32 (k.t (aO h)).aN,.int .u8 (k.t (aO h)).iM,.int .u8 (k.t (aO h)).to,.bool (k.t (aO h)).mu,.int .u32 (k.t (aO h)).aS]:=rfl;simp only[F1,go_sem,simprocAttr,Jq,g,a,e,jB h f,i,c,apy l,b]
def St(k:bh)(h:Nat)(d:h<4294967296)(H:List ae)(lo:oN):
  D X0 (.fn (.func 329) [] []) [.agg (bS k),.int .u32 h] ⟨H,lo⟩=some (.ret (.bool (mQ k h)) ⟨H,lo⟩):=by
 refine aH JX λN c=>?_
 have b:=ew k.b h d;by_cases e:h=0
 ·have a: (h:Int)=0:=by omega
  simp only[F1,go_sem,simprocAttr,JX,c,a,mQ]
  grind
 ·have a: ¬(h:Int)=0:=by omega
  simp only[F1,go_sem,simprocAttr,JX,c,a,b,mQ]
  grind
def agq{N:Nat}{A A' P M:List ae}{ty:TypeId}(h:aR N (A++P) v sz ty af)(b:A'.length=A.length)(c:A.length<=N):aR N (A'++(P++M)) v sz ty af:=by
 obtain⟨a,d⟩:=h;refine⟨a,?_⟩
 grind
def uO(k:bh)(p:Tok->Bool)(n:Nat):lN:=((bn k.b).take n).filter λh=>p (ch k h).1
def arF{k:bh}{p:Tok->Bool}(h:n< (bn k.b).length):uO k p (n+1)=if p (ch k ((bn k.b).getD n default)).1 then uO k p n++[(bn k.b).getD n default]else uO k p n:=by
 unfold uO;rw[aex,acJ h,aoJ,getD_eq h]
 grind
def arG{k:bh}{p:Tok->Bool}: (uO k p n).length<=n:=afI (af0 _ _) (by grind)
def jk{S:Type}(k:bh)(f:S->Tok->S)(s:S)(n:Nat):S:=((bn k.b).take n).foldl (λs h=>f s (ch k h).1) s
def arH{S:Type}{k:bh}{f:S->Tok->S}{s:S}(h:n< (bn k.b).length):jk k f s (n+1)=f (jk k f s n) (ch k ((bn k.b).getD n default)).1:=by
 unfold jk;rw[aex,acJ h,akp,getD_eq h];rfl
def KA{S:Type}(k:bh)(W:gB k)(fv:AV)(p:Tok->Bool)(f:S->Tok->S)(c:S)(N:Nat)(b:S->List ae)(r: ∀s,(b s).length=N)
  (hf: ∀s x L,sB x->D X fv [.agg (fC x)] ⟨b s++L,none⟩=some (.ret (.bool (p x)) ⟨b (f s x)++L,none⟩)) (lo:oN):
  ∃w,D X (.fn (.func 281) [] []) [.agg (bS k),fv] ⟨b c,lo⟩=some (.ret w ⟨b (jk k f c (bn k.b).length),lo⟩)/\Rv w 1 ((se k p).map hC)/\w.refs=0:=by
 suffices hs: ∃V,D X (.fn (.func 281) [] []) [.agg (bS k),fv] ⟨b c,lo⟩=some V/\ (λV=> ∃w,V=aT.ret w ⟨b (jk k f c (bn k.b).length),lo⟩/\Rv w 1 ((se k p).map hC)/\w.refs=0) V by
  obtain⟨V,h1,w,rfl,h2⟩:=hs;exact⟨w,h1,h2⟩
 refine cH Qq λM hM=>?_
 obtain rfl:M=N:=by rw[<-hM,r]
 obtain⟨v,J,e1,Y⟩:=R8 k.b W.b (M+1) (b c++[.box (bS k) none]) (by simp[r]) none;have F:D X (.fn (.func 56) [] []) [.agg (bY k.b)] ⟨b c++[.box (bS k) none],none⟩=some _:=sw (p:=lD) rfl e1;have g:=(lE Y none).bK;have rC:=mR k.b;rw[acF]at F Y g;obtain⟨j,U⟩: ∃j,j=[ae.box (bS k) none]++J:=⟨_,rfl⟩;have T: ∀s L,(b s++(j++L))[M]?=some (.box (bS k) none):=λs L=>by rw[di (r s),U];rfl
 rw[<-U]at F Y g;simp only[go_sem,simprocAttr,Qq,hM,F,g];refine ek (bn k.b).length (λn e H'=> ∃L,H'=b (jk k f c n)++(j++L)/\ (∃G,e 5=G/\aR (M+j.length) H' G 1 bZ ((uO k p n).map hC))/\e 1=fv/\e 2= .ptr M 0/\e 12=v/\e 13= .int .i64 (bn k.b).length/\e 14= .int .i64 n) 0 (by omega) ?_ ?_
 ·simp only[go_sem,simprocAttr];exact⟨[],by simp[jk],_,rfl,aR.an⟩
 rintro n hn e H' ⟨L,rfl,⟨G,e5,i⟩,e1,A,E,C,B⟩ n' u;have R:=T (jk k f c n);simp only[cg,go_sem,simprocAttr,ad1,e5,E,C,B];refine⟨λhc=>?_,λhc=>?_⟩
 ·have l:n< (bn k.b).length:=by omega
  have O:=fE l;have ir:=(jg W.b).1 O;have q:=arF (p:=p) l;have I:=arH (f:=f) (s:=c) l;have K:Rd ⟨b (jk k f c n)++(j++L),none⟩ v 1 ((bn k.b).map hC):=lE (agq Y (by rw[r,r]) (by rw[r];omega)) none;have y:=λH lo=>up dj (BA k W ((bn k.b).getD n default) (gi ir) H lo)
  have Z:=W.get ((bn k.b).getD n default);have m:=hf (jk k f c n) (ch k ((bn k.b).getD n default)).1 (j++(L++[.box (fC (ch k ((bn k.b).getD n default)).1) none])) Z;generalize hh: (bn k.b).getD n default=h at*;generalize hx: (ch k h).1=x at*;have t:fC x=[.int .u32 x.aN,.int .u8 x.iM,.int .u8 x.to,.bool x.mu,.int .u32 x.aS]:=rfl;have rB:=arG (k:=k) (p:=p) (n:=n);have hA:=λ (a:Int)=>K.cG (k:=.i64) (a:=a)
  have hL:=K.cS (X:=X) (off:=0) (n:=1) (agg:=false) l;rw[hh,pH]at hL;have Q: ∀o,(b (jk k f c n)++(j++(L++[o])))[n']?=some o:=λo=>by rw[<-u,<-acF j,<-acF (b _)];simp
  have P: ∀o o',(b (jk k f c n)++(j++(L++[o]))).set n' o'=b (jk k f c n)++(j++(L++[o'])):=λo o'=>by
   have e: ∀o:ae,b (jk k f c n)++(j++(L++[o]))=(b (jk k f c n)++(j++L))++[o]:=λo=>by simp
   rw[e,e,<-u,aoi _ _ (aeg _)];simp
  have d:aR (M+j.length) (b (f (jk k f c n) x)++(j++(L++[.box (fC x) none]))) G 1 bZ ((uO k p n).map hC):=by
   have:=agq (A':=b (f (jk k f c n) x)) (M:=[.box (fC x) none]) i (by rw[r,r]) (by rw[r];omega);rwa[acF]at this
  cases hp:p x
  ·rw[hp]at m q;rw[t]at m d;simp(disch:=omega) only[go_sem,simprocAttr,e1,A,e5,E,C,B,hA,hL,R,y,u,t,Q,P,m,acF,q,I];exact⟨by omega,l,_,rfl,G,rfl,d⟩
  ·rw[hp]at m q;rw[t]at m d;simp only[go_sem,simprocAttr,e1,A,e5,hA,hL,R,y,u,t,Q,P,m,acF];refine⟨by omega,oA (H0:=b (f (jk k f c n) x)++j) (ys:=[[.int .u32 (h:Nat)]]) d ⟨_,acF _ _ _⟩ (by simp[r]) (by omega) (by intro el pT;rw[ada.1 pT];rfl) rfl (by unfold room;simp;omega) λv' H2 z CZ=>?_⟩;obtain⟨L2,rfl⟩:=CZ;simp(disch:=omega) only[go_sem,simprocAttr,e1,A,E,C,B];rw[acE rfl]at q;refine⟨l,L2,by rw[I],v',rfl,?_⟩;rw[q,aeq];rwa[acF]at z
 ·obtain rfl:n=(bn k.b).length:=by omega
  have ht:uO k p (bn k.b).length=se k p:=by unfold uO se;rw[aeo]
  rw[ht]at i;have h0:bT ((se k p).map hC)=0:=bp (λ_=>rfl) _;rw[aR.Hd (aR.le i (by omega)) (by omega)];refine⟨_,de rfl (anW (r _)),i.qd,cq i.qd h0⟩
theorem m6(x:Tok):fC x=[.int .u32 x.aN,.int .u8 x.iM,.int .u8 x.to,.bool x.mu,.int .u32 x.aS]:=rfl
theorem wO{N:Nat}{H:List ae}(h:v.refs=0):finish N lo v ⟨H,none⟩=(v,⟨H.take N,lo⟩):=iQ (.inl rfl) (by omega)
def arI(aN:Nat)(x:Tok)(p:Nat)(H:List ae)(a:H[p]?=some (.box [.int .u32 (aN:Nat)] none))(lo:oN):
  D X (.fn (.func 334) [] [.ptr p 0]) [.agg (fC x)] ⟨H,lo⟩=some (.ret (.bool (decide (x.aN=aN))) ⟨H,lo⟩):=by
 refine fe QR λN b=>?_
 have c: ∀L,(H++L)[p]?=_:=λL=>bf a
 simp only[F1,go_sem,simprocAttr,QR,b,m6,c];exact de (afW AV.bool (aev.2 (by omega))) rfl
def arJ(aa:Nat)(x:Tok)(a:sB x)(p:Nat)(H:List ae)(b:H[p]?=some (.box [.int .i64 (aa:Nat)] none))(lo:oN):
  D X (.fn (.func 282) [] [.ptr p 0]) [.agg (fC x)] ⟨H,lo⟩=some (.ret (.bool (decide (x.to=aa))) ⟨H,lo⟩):=by
 refine fe Qr λN c=>?_
 have d: ∀L,(H++L)[p]?=_:=λL=>bf b
 have:=a.to;simp(disch:=omega) only[F1,go_sem,simprocAttr,Qr,c,m6,d];exact de (afW AV.bool (aev.2 (by omega))) rfl
def Su(k:bh)(hk:gB k)(aN:Nat)(H:List ae)(lo:oN):
  ∃w,D X (.fn (.func 321) [] []) [.agg (bS k),.int .u32 aN] ⟨H,lo⟩=some (.ret w ⟨H,lo⟩)/\Rv w 1 ((mS k aN).map hC)/\w.refs=0:=by
 obtain⟨N,c⟩: ∃N,H.length=N:=⟨_,rfl⟩;obtain⟨w,e1,b,e3⟩:=KA (S:=Unit) k hk (.fn (.func 334) [] [.ptr (N+1) 0]) (λx=>decide (x.aN=aN)) (λs _=>s) () (N+2) (λ_=>H++[.box (bS k) none,.box [.int .u32 aN] none]) (λ_=>by grind)
  (λs x L _=>arI aN x (N+1) _ (by grind) none) none
 refine⟨w,?_,b,e3⟩;refine aH QK λM a=>?_
 obtain rfl:M=N:=by omega
 simp only[go_sem,simprocAttr,QK,a,e1];rw[wO e3,lh a]
def arK(k:bh)(hk:gB k)(aa:Nat)(H:List ae)(lo:oN):
  ∃w,D X (.fn (.func 214) [] []) [.agg (bS k),.int .i64 aa] ⟨H,lo⟩=some (.ret w ⟨H,lo⟩)/\Rv w 1 ((wq k aa).map hC)/\w.refs=0:=by
 obtain⟨N,d⟩: ∃N,H.length=N:=⟨_,rfl⟩;obtain⟨w,e1,c,e3⟩:=KA (S:=Unit) k hk (.fn (.func 282) [] [.ptr (N+1) 0]) (λx=>decide (x.to=aa)) (λs _=>s) () (N+2) (λ_=>H++[.box (bS k) none,.box [.int .i64 aa] none]) (λ_=>by grind)
  (λs x L b=>arJ aa x b (N+1) _ (by grind) none) none
 refine⟨w,?_,c,e3⟩;refine aH PY λM a=>?_
 obtain rfl:M=N:=by omega
 simp only[go_sem,simprocAttr,PY,a,e1];rw[wO e3,lh a]
theorem agr{α:Type}(q:α->Bool): ∀ (l:List α) (s:Bool),l.foldl (λs x=>s||q x) s=(s||l.any q)
 | [],s=>by simp
 |x::xs,s=>by rw[awW,agr q xs,List.any_cons,Bool.or_assoc]
def arL(k:bh)(aN ab:Nat)(s:Bool)(x:Tok)(N:Nat)(H:List ae)(h:H.length=N)(L:List ae):
  D X (.fn (.func 336) [] [.ptr (N+1) 0,.ptr (N+2) 0,.ptr (N+3) 0]) [.agg (fC x)] ⟨H++[.box (bS k) none,.box [.int .u32 aN] none,.box [.int .u32 ab] none,.box [.bool s] none]++L,none⟩=
    some (.ret (.bool (isRight aN ab x)) ⟨H++[.box (bS k) none,.box [.int .u32 aN] none,.box [.int .u32 ab] none,.box [.bool (s|| (isRight aN ab x&&x.mu))] none]++L,none⟩):=by
 refine fe wc λM p=>?_
 rw[acF]at p⊢;have m:M=N+4+L.length:=by rw[<-p];simp[h];omega
 have g1: ∀a b c d f,(H++(a::b::c::d::f))[N+1]?=some b:=λa b c d f=>by rw[bE h];rfl
 have g2: ∀a b c d f,(H++(a::b::c::d::f))[N+2]?=some c:=λa b c d f=>by rw[bE h];rfl
 have j: ∀a b c d f,(H++(a::b::c::d::f))[N+3]?=some d:=λa b c d f=>by rw[bE h];rfl
 have gm: ∀a b c d o,(H++(a::b::c::d:: (L++[o])))[M]?=some o:=λa b c d o=>by
  have:H++(a::b::c::d:: (L++[o]))=(H++(a::b::c::d::L))++[o]:=by simp
  rw[this,show M=(H++(a::b::c::d::L)).length by rw[m,ac6,h];simp only[aep];omega];simp
 have i: ∀a b c d f o,(H++(a::b::c::d::f)).set (N+3) o=H++(a::b::c::o::f):=λa b c d f o=>by rw[mA h];rfl
 have tk: ∀a b c d o,(H++(a::b::c::d:: (L++[o]))).take M=H++(a::b::c::d::L):=λa b c d o=>by
  have:H++(a::b::c::d:: (L++[o]))=(H++(a::b::c::d::L))++[o]:=by simp
  rw[this];exact anW (by simp[h,m];omega)
 have q:isRight aN ab x=(decide (x.aN=aN)&&decide (x.aS=ab)):=rfl;rw[q];by_cases l:x.aN=aN
 ·have e: (x.aN:Int)=aN:=by omega
  by_cases n:x.aS=ab
  ·have g: (x.aS:Int)=ab:=by omega
   cases s
   ·simp only[F1,go_sem,simprocAttr,wc,m6,g1,g2,j,i,tk,e,g,acF,af3,afY];simp[l,n]
   ·simp only[F1,go_sem,simprocAttr,wc,m6,g1,g2,j,i,tk,e,g,acF,af3,afY];simp[l,n]
  ·have g: ¬(x.aS:Int)=ab:=by omega
   cases s
   ·simp only[F1,go_sem,simprocAttr,wc,m6,g1,g2,j,i,tk,e,g,acF,af3,afY];simp[l,n]
   ·simp only[F1,go_sem,simprocAttr,wc,m6,g1,g2,j,i,tk,e,g,acF,af3,afY];simp[l,n]
 ·have e: ¬(x.aN:Int)=aN:=by omega
  cases s
  ·simp only[F1,go_sem,simprocAttr,wc,m6,g1,j,i,tk,e,acF,af3,afY];simp[l]
  ·simp only[F1,go_sem,simprocAttr,wc,m6,g1,j,i,tk,e,acF,af3,afY];simp[l]
def Sv(k:bh)(hk:gB k)(aN ab:Nat)(H:List ae)(lo:oN):
  D X (.fn (.func 328) [] []) [.agg (bS k),.int .u32 aN,.int .u32 ab] ⟨H,lo⟩=some (.ret (.av [.int .i64 (Be k aN ab:Nat),.bool (sf k aN ab)]) ⟨H,lo⟩):=by
 obtain⟨N,a⟩: ∃N,H.length=N:=⟨_,rfl⟩;obtain⟨w,e1,c,e3⟩:=KA (S:=Bool) k hk (.fn (.func 336) [] [.ptr (N+1) 0,.ptr (N+2) 0,.ptr (N+3) 0]) (isRight aN ab) (λs x=>s|| (isRight aN ab x&&x.mu)) false (N+4)
  (λs=>H++[.box (bS k) none,.box [.int .u32 aN] none,.box [.int .u32 ab] none,.box [.bool s] none]) (λ_=>by grind) (λs x L _=>arL k aN ab s x N H a L) none
 have hm:jk k (λs x=>s|| (isRight aN ab x&&x.mu)) false (bn k.b).length=sf k aN ab:=by
  unfold jk sf;rw[aeo,agr (λh=>isRight aN ab (ch k h).1&& (ch k h).1.mu),ars]
 rw[hm]at e1;refine aH QP λM b=>?_
 obtain rfl:M=N:=by rw[<-b,a]
 simp only[F1,go_sem,simprocAttr,QP,b,e1,c.bK];rfl
section
variable(k:bh)(hk:gB k)(aN ab:Nat)(ha:ab<4294967296)(H:List ae)(lo:oN)
include hk ha
theorem ags:D X (.fn (.func 315) [] []) [.agg (bS k),.int .u32 aN,.int .u32 ab] ⟨H,lo⟩=some (.ret (.bool (wu k aN ab)) ⟨H,lo⟩):=by
 refine aH JT λN e=>?_
 have d:=Sv k hk aN ab;have b:=λH lo=>up dj (St k ab ha H lo)
 have c:wu k aN ab=(mQ k ab&& !sf k aN ab):=rfl;cases a:mQ k ab
 ·rw[a]at b c;simp only[F1,go_sem,simprocAttr,JT,e,d,b,c,afH]
 ·rw[a]at b c;simp only[F1,go_sem,simprocAttr,JT,e,d,b,c,aha]
theorem agt:D X (.fn (.func 317) [] []) [.agg (bS k),.int .u32 aN,.int .u32 ab] ⟨H,lo⟩=some (.ret (.bool (yI k aN ab)) ⟨H,lo⟩):=by
 refine aH JU λN e=>?_
 have d:=Sv k hk aN ab;have b:=λH lo=>up dj (St k ab ha H lo)
 have c:yI k aN ab=(mQ k ab&&decide (Be k aN ab=0)):=rfl;cases a:mQ k ab
 ·rw[a]at b c;simp only[F1,go_sem,simprocAttr,JU,e,d,b,c,afH]
 ·rw[a]at b c;simp only[F1,go_sem,simprocAttr,JU,e,d,b,c,aha];simp_all
end
section
set_option maxHeartbeats 2000000
def arM(k:bh)(B:gB k)(x:Tok)(C:sB x)(H:List ae)(lo:oN):
  D X (.fn (.func 301) [] []) [.agg (bS k),.agg (fC x)] ⟨H,lo⟩=some (.ret (.int .i64 (oW k x:Nat)) ⟨H,lo⟩):=by
 refine aH jw λN p=>?_
 have j:=Sv k B x.aN x.aS;have m:=λH lo=>up dj (St k x.aS C.aS H lo)
 have a:=λH lo=>up dj (BA k B x.aS C.aS H lo)
 have E:=B.get x.aS;have b:oW k x=if mQ k x.aS=false then 4
  else if 8<=x.iM\/8<=x.to\/x.iM=x.to\/x.aN=0 then 2
  else if x.aS≠0/\ ((ch k x.aS).1.aN≠x.aN\/ (ch k x.aS).1.to≠x.iM\/ (x.mu=true/\ (ch k x.aS).1.mu=false))then 12
  else if sf k x.aN x.aS=true\/ (x.mu=true/\0<Be k x.aN x.aS)then 5
  else 0:=rfl
 generalize hu: (ch k x.aS).1=w at*;generalize K:Be k x.aN x.aS=n at*;have A:=m6 w;have z:=m6 x;rw[A]at a;rw[z];cases s:mQ k x.aS with
 |false=>
  rw[acE s]at b;rw[s]at m;simp only[F1,go_sem,simprocAttr,jw,p,j,m,a,b]
 |true=>
  rw[acz (by rw[s];simp)]at b;rw[s]at m;by_cases J:8<=x.iM
  ·rw[acE (.inl J)]at b;have d: (x.iM:Int)>=8:=by omega
   simp only[F1,go_sem,simprocAttr,jw,p,j,m,a,b,d]
  ·have d: ¬(x.iM:Int)>=8:=by omega
   by_cases I:8<=x.to
   ·rw[acE (.inr (.inl I))]at b;have e: (x.to:Int)>=8:=by omega
    simp only[F1,go_sem,simprocAttr,jw,p,j,m,a,b,d,e]
   ·have e: ¬(x.to:Int)>=8:=by omega
    by_cases G:x.iM=x.to
    ·rw[acE (.inr (.inr (.inl G)))]at b;have f:decide ((x.iM:Int)=x.to)=true:=ac5 (by omega);simp only[F1,go_sem,simprocAttr,jw,p,j,m,a,b,d,e,f]
    ·have f: ¬(x.iM:Int)=x.to:=by omega
     by_cases F:x.aN=0
     ·rw[acE (.inr (.inr (.inr F)))]at b;have g:decide ((x.aN:Int)=0)=true:=ac5 (by omega);simp only[F1,go_sem,simprocAttr,jw,p,j,m,a,b,d,e,f,g]
     ·have g: ¬(x.aN:Int)=0:=by omega
      rw[acz (by omega)]at b;by_cases u:x.aS=0
      ·have i:decide (¬(x.aS:Int)=0)=false:=acK (by omega);rw[acz (λh=>h.1 u)]at b;cases hm:sf k x.aN x.aS
       ·rw[hm]at j b;cases r:x.mu
        ·rw[r,acz (by simp)]at b;simp only[F1,go_sem,simprocAttr,jw,p,j,m,a,b,d,e,f,g,i]
        ·rw[r]at b;by_cases c:0<n
         ·have t: (n:Int)>0:=by omega
          rw[acE (.inr ⟨rfl,c⟩)]at b;simp only[F1,go_sem,simprocAttr,jw,p,j,m,a,b,d,e,f,g,i,t]
         ·have t: ¬(n:Int)>0:=by omega
          rw[acz (by simp;omega)]at b;simp only[F1,go_sem,simprocAttr,jw,p,j,m,a,b,d,e,f,g,i,t]
       ·rw[hm]at j b;rw[acE (.inl rfl)]at b;simp only[F1,go_sem,simprocAttr,jw,p,j,m,a,b,d,e,f,g,i]
      ·have i: ¬(x.aS:Int)=0:=by omega
       by_cases y:w.aN=x.aN
       ·have l:decide (¬(w.aN:Int)=x.aN)=false:=acK (by omega);by_cases v:w.to=x.iM
        ·have o:decide (¬(w.to:Int)=x.iM)=false:=acK (by omega);cases r:x.mu
         ·rw[r,acz (by simp[y,v])]at b;cases hm:sf k x.aN x.aS
          ·rw[hm,acz (by simp)]at b;rw[hm]at j;simp only[F1,go_sem,simprocAttr,jw,p,j,m,a,b,d,e,f,g,i,l,o]
          ·rw[hm]at j b;rw[acE (.inl rfl)]at b;simp only[F1,go_sem,simprocAttr,jw,p,j,m,a,b,d,e,f,g,i,l,o]
         ·cases q:w.mu
          ·rw[r,q,acE (by simp[u])]at b;simp only[F1,go_sem,simprocAttr,jw,p,j,m,a,b,d,e,f,g,i,l,o,q]
          ·rw[r,q,acz (by simp[y,v])]at b;cases hm:sf k x.aN x.aS
           ·rw[hm]at j b;by_cases c:0<n
            ·have t: (n:Int)>0:=by omega
             rw[acE (.inr ⟨rfl,c⟩)]at b;simp only[F1,go_sem,simprocAttr,jw,p,j,m,a,b,d,e,f,g,i,l,o,q,t]
            ·have t: ¬(n:Int)>0:=by omega
             rw[acz (by simp;omega)]at b;simp only[F1,go_sem,simprocAttr,jw,p,j,m,a,b,d,e,f,g,i,l,o,q,t]
           ·rw[hm]at j b;rw[acE (.inl rfl)]at b;simp only[F1,go_sem,simprocAttr,jw,p,j,m,a,b,d,e,f,g,i,l,o,q]
        ·have o: ¬(w.to:Int)=x.iM:=by omega
         rw[acE ⟨u,.inr (.inl v)⟩]at b;simp only[F1,go_sem,simprocAttr,jw,p,j,m,a,b,d,e,f,g,i,l,o]
       ·have l: ¬(w.aN:Int)=x.aN:=by omega
        rw[acE ⟨u,.inl y⟩]at b;simp only[F1,go_sem,simprocAttr,jw,p,j,m,a,b,d,e,f,g,i,l]
end
theorem agu:rL.length=176:=by rfl
theorem agv:List.drop 176 rL=[]:=by rfl
theorem agw{k:bh}:List.drop 176 (bS k)=[]:=by rfl
def pc:type_of% agu/\type_of% agv/\type_of% @agw/\type_of% Ke/\type_of% Kf:=⟨agu,agv,@agw,Ke,Kf⟩
def arN(k:bh)(q:gB k)(x:Tok)(w:sB x)(H:List ae)(lo:oN):
  D X (.fn (.func 268) [] []) [.agg (bS k),.agg (fC x)] ⟨H,lo⟩=some (.ret (.av [.agg (bS (kN k x).1),.int .u32 (kN k x).2.1,.int .i64 (kN k x).2.2]) ⟨H,lo⟩):=by
 refine aH A6 λN r=>?_
 have hm:=arM k q x w;have e:=λH lo=>up dj (afs k.b q.b H lo)
 have a:=m6 x;have d:kN k x=if oW k x≠0 then(k,0,oW k x)
  else match mP k.b with
  |some i=>if i<16 then({b:=aq k.b i {k.b i with eJ:=true},t:=aq k.t i x},c7 i (k.b i).gen,0)else(k,0,7)
  |none=>(k,0,7):=rfl
 by_cases c:oW k x=0
 ·rw[acz (by omega)]at d;have p:decide (¬(oW k x:Int)=0)=false:=acK (by omega);cases j:mP k.b with
  |none=>
   rw[j]at d;simp only at d;have s:=λH lo=>up dj (jB 0 (by omega) H lo)
   have m: ∀H lo,D X (.fn (.func 82) [] []) [.int .u32 0] ⟨H,lo⟩=some (.ret (iB 0) ⟨H,lo⟩):=s;have u:iB 0= .av [.int .i64 0,.bool false]:=rfl;rw[a]at hm;rw[a];simp only[F1,go_sem,simprocAttr,A6,r,hm,p,e,sv,oU,j,m,u,pc,d]
  |some i=>
   rw[j]at d;simp only at d;obtain⟨n,A,z,y⟩:=sg j;have v:eF (c7 i (k.b i).gen)=some i:=Rf n (q.b i).1;have l:=λH lo=>up dj (jB (c7 i (k.b i).gen) (EJ n (q.b i).1) H lo)
   by_cases h:i<16
   ·rw[acE h]at d;have f: ¬(i:Int)>=16:=by omega
    have o: (i:Int)<16:=by omega
    have g:=apz (k:={k with b:=aq k.b i {k.b i with eJ:=true}}) (x:=x) h;rw[a]at hm g;rw[a];simp only[F1,go_sem,simprocAttr,A6,r,hm,p,e,sv,oU,j,l,iB,v,f,o,pc,ae2,g,d];exact⟨by simp,by omega⟩
   ·rw[acz h]at d;have f: (i:Int)>=16:=by omega
    rw[a]at hm;rw[a];simp only[F1,go_sem,simprocAttr,A6,r,hm,p,e,sv,oU,j,l,iB,v,f,pc,d]
 ·rw[acE c]at d;have p: ¬(oW k x:Int)=0:=by omega
  rw[a]at hm;rw[a];simp only[F1,go_sem,simprocAttr,A6,r,hm,p,pc,d]
def agx{k:bh}(a:gB k): ∀l,gB (mT k l):=by
 intro l
 induction l generalizing k with
 |nil=>exact a
 |cons h l b=>
  refine b ⟨EL a.b h,λi c=>?_,a.t⟩;refine a.lt i ?_;revert c;show((ep k.b h).1 i).eJ=true->_;unfold ep;split
  ·show(aq k.b (aO h) (qD (k.b (aO h))) i).eJ=true->_;by_cases e:i=aO h
   ·rw[e,cu];unfold qD;grind
   ·rw[cy e];exact id
  grind
def arO{k:bh}{l:lN}(h:n<l.length):mT k (l.take (n+1))={mT k (l.take n)with b:=(ep (mT k (l.take n)).b (l.getD n default)).1}:=by
 unfold mT;rw[aex,acJ h,akp,getD_eq h];rfl
def agy(k:bh)(r:gB k)(w:AV)(l:lN)(H:List ae)(c:Rd ⟨H,none⟩ w 1 (l.map hC))(q: ∀h∈l,h<4294967296)(p:l.length<2^40)(lo:oN):
  D X (.fn (.func 305) [] []) [.agg (bS k),w] ⟨H,lo⟩=some (.ret (.agg (bS (mT k l))) ⟨H,lo⟩):=by
 refine aH QB λN t=>?_
 have a: ∀L lo,fb ⟨H++L,lo⟩ .sl w=some (.int .i64 l.length):=λL lo=>(c.ext (L:=L) (aj:=lo)).bK
 simp only[go_sem,simprocAttr,QB,t,a];refine ek l.length (λn e H'=>H'=H++[.box (bS (mT k (l.take n))) none,.box rL none]/\e 2= .ptr N 0/\e 4= .ptr (N+1) 0/\e 7=w/\e 8= .int .i64 l.length/\e 9= .int .i64 n) 0 (by omega) ?_ ?_
 ·trivial
 rintro n x e H' ⟨rfl,j,i,e7,e8,g⟩ v o;simp(disch:=omega) only[cg,F1,go_sem,simprocAttr,ad9,j,i,e7,e8,g];refine⟨λs=>?_,λs=>?_⟩
 ·have b:n<l.length:=by omega
  have f:=agx r (l.take n);have m:=λH lo=>up dj (aft (mT k (l.take n)).b f.b (l.getD n default) (q _ (fE b)) H lo)
  have d:=arO (k:=k) b;have u: ∀L lo,bW X ⟨H++L,lo⟩ false 1 (eh w n 0)=some (.int .u32 (l.getD n default:Nat)):=λL lo=>by rw[(c.ext (L:=L) (aj:=lo)).cS b,pH]
  simp(disch:=omega) only[go_sem,simprocAttr,c.cG,u,m,y0,ae2,j,i,e7,e8,g];exact⟨by omega,b,by rw[d]⟩
 ·obtain rfl:n=l.length:=by omega
  rw[aeo];simp only[go_sem,simprocAttr,pc]
def arP(k:bh)(c:gB k)(a:Nat)(H:List ae)(lo:oN):
  D X (.fn (.func 291) [] []) [.agg (bS k),.int .u32 a] ⟨H,lo⟩=some (.ret (.agg (bS (J9 k a))) ⟨H,lo⟩):=by
 refine aH Qu λN d=>?_
 obtain⟨w,e1,e,e3⟩:=Su k c a (H++[.box (bS k) none,.box rL none]) none;have b:=λH lo=>agy k c w (mS k a) H (e _) (λh hm=>gi ((jg c.b).1 (aey.1 hm).1)) (by have:=mR k.b;have: (mS k a).length<=_:=af0 _ _;omega) lo
 have f:mT k (mS k a)=J9 k a:=rfl;simp only[F1,go_sem,simprocAttr,Qu,d,e1,b,pc,f]
def m7(h:Nat):AV×AV:=(.int .u32 h,.bool true)
def mn(a:lN)(k:Nat):lN:=if k∈a then a else a++[k]
def agz(a b:Nat):oo (.int .u32 a) (.int .u32 b)=some (decide (a=b)):=by
 have h:oo (.int .u32 (a:Nat)) (.int .u32 (b:Nat))=some ((a:Int)==(b:Int)):=rfl;rw[h]
 congr 1
 grind
theorem agA(k:Nat): ∀b:lN,dU (.int .u32 k) (b.map m7)=some (if k∈b then some (.bool true)else none)
 | []=>rfl
 |a::b=>by
  simp only[alM,m7,dU,agz];by_cases h:k=a
  ·grind
  ·simp only[h,ayC,aeB,false_or];exact agA k b
theorem agB(k:Nat): ∀b:lN,k6 (.int .u32 k) (.bool true) (b.map m7)=some ((mn b k).map m7)
 | []=>rfl
 |a::b=>by
  simp only[alM,m7,k6,agz];unfold mn;by_cases h:k=a
  ·subst h;simp[m7]
  ·simp only[h,ayC,aeB,false_or];rw[agB k b];unfold mn;split<;>rfl
def arQ{gm:Nat->Option (List (AV×AV))}{H:List ae}{id:Nat}{a:lN}(h:H[id]?=some (.map (a.map m7)))(k:Nat):iV gm ⟨H,lo⟩ .int (.bool false) (.mp id) (.int .u32 k) false=some (.bool (a.contains k)):=by
 unfold iV;rw[acE (show kf .int (.int .u32 (k:Nat))=true from rfl)];simp only[mapOf,h,agA]
 grind
def arR{H:List ae}{id:Nat}{a:lN}(h:H[id]?=some (.map (a.map m7)))(k:Nat):lJ ⟨H,lo⟩ .int (.mp id) (.int .u32 k) (.bool true)=some ⟨H.set id (.map ((mn a k).map m7)),lo⟩:=by
 unfold lJ;simp only[h,agB];rfl
theorem arS{a:lN}{k:Nat}:x∈mn a k↔x=k\/x∈a:=by
 unfold mn
 grind
def arT{l:lN}: ∀ {b:lN} {x:Nat},x∈l.foldl mn b↔x∈l\/x∈b:=by
 induction l with
 |nil=>simp
 |cons a l c=>grind [arS]
def wP(k:bh):Nat->Nat->Prop
 |0,_=>False
 |n+1,h=> ∀x∈RE k h,wP k n x
def dk(k:bh)(N:Nat)(H:List ae)(m:lN):List ae:=H++[.box (bS k) none,.box rL none,.map (m.map m7),.box [.mp (N+2)] none,.box [.fn (.func 303) [] [.ptr (N+3) 0,.ptr N 0,.ptr (N+4) 0]] none]
def BB{k:bh}{N:Nat}{H:List ae}(a:H.length=N)(m:lN): (dk k N H m).length=N+5:=by simp[dk,a]
def arU(h:Nat)(x:Tok)(p:Nat)(H:List ae)(a:H[p]?=some (.box [.int .u32 (h:Nat)] none))(lo:oN):
  D X (.fn (.func 304) [] [.ptr p 0]) [.agg (fC x)] ⟨H,lo⟩=some (.ret (.bool (decide (x.aS=h))) ⟨H,lo⟩):=by
 refine fe QA λN b=>?_
 have c: ∀L,(H++L)[p]?=_:=λL=>bf a
 simp only[F1,go_sem,simprocAttr,QA,b,m6,c];exact de (afW AV.bool (aev.2 (by omega))) rfl
def arV(k:bh)(A:gB k)(N:Nat)(H:List ae)(d:H.length=N): ∀ (n h:Nat),h<4294967296->wP k n h-> ∀ (m:lN) (L:List ae),
  D X (.fn (.func 303) [] [.ptr (N+3) 0,.ptr N 0,.ptr (N+4) 0]) [.int .u32 h] ⟨dk k N H m++L,none⟩=some (.ret (.av []) ⟨dk k N H ((mU k n h).foldl mn m)++L,none⟩):=by
 intro n
 induction n with
 |zero=>intro h _ u;exact u.elim
 |succ n C=>
  intro h R u m L;refine fe Qz λM B=>?_
  have g:M=N+5+L.length:=by rw[<-B,ac6,BB d]
  have O: ∀m a,(dk k N H m++a)[N]?=some (.box (bS k) none):=λm a=>by unfold dk;rw[acF,di d];rfl
  have g2: ∀m a,(dk k N H m++a)[N+2]?=some (.map (m.map m7)):=λm a=>by unfold dk;rw[acF,bE d];rfl
  have K: ∀m a,(dk k N H m++a)[N+3]?=some (.box [.mp (N+2)] none):=λm a=>by unfold dk;rw[acF,bE d];rfl
  have J: ∀m a,(dk k N H m++a)[N+4]?=some (.box [.fn (.func 303) [] [.ptr (N+3) 0,.ptr N 0,.ptr (N+4) 0]] none):=λm a=>by unfold dk;rw[acF,bE d];rfl
  have gm: ∀m o,(dk k N H m++(L++[o]))[M]?=some o:=λm o=>by
   have:M=(dk k N H m++L).length:=by rw[g,ac6,BB d]
   rw[<-acF,this];simp
  have s2: ∀m m' a,(dk k N H m++a).set (N+2) (.map (m'.map m7))=dk k N H m'++a:=λm m' a=>by unfold dk;rw[acF,mA d,acF];rfl
  have tk: ∀m o,(dk k N H m++(L++[o])).take M=dk k N H m++L:=λm o=>by
   rw[<-acF];exact anW (by rw[g,ac6,BB d])
  have v: ∀m a lo,lJ ⟨dk k N H m++a,lo⟩ .int (.mp (N+2)) (.int .u32 (h:Nat)) (.bool true)=some ⟨dk k N H (mn m h)++a,lo⟩:=λm a lo=>by rw[arR (g2 m a),s2]
  obtain⟨w,e1,r,e3⟩:=KA (S:=Unit) k A (.fn (.func 304) [] [.ptr M 0]) (λx=>decide (x.aS=h)) (λs _=>s) () (M+1) (λ_=>dk k N H (mn m h)++(L++[.box [.int .u32 h] none])) (λ_=>by rw[g,ac6,BB d];simp;omega)
   (λs x a _=>arU h x M _ (bf (gm _ _)) none) none
  simp only[go_sem,simprocAttr,Qz,B,O,K,gm,v,e1,r.bK,acF];obtain⟨b,c⟩: ∃b,b=RE k h:=⟨_,rfl⟩;have i:se k (λx=>decide (x.aS=h))=b:=c.symm;rw[i]at r⊢;have F:b.length<=32:=by rw[c];exact afI (af0 _ _) (mR k.b)
  have z: ∀j,j<b.length->(b.take (j+1)).flatMap (mU k n)=(b.take j).flatMap (mU k n)++mU k n (b.getD j default):=λj y=>by
   rw[aex,acJ y,amv,getD_eq y];simp
  refine ek b.length (λj e H'=>H'=dk k N H (((b.take j).flatMap (mU k n)).foldl mn (mn m h))++(L++[.box [.int .u32 h] none])/\e 3= .ptr (N+4) 0/\e 11=w/\e 12= .int .i64 b.length/\e 13= .int .i64 j) 0 (by omega) ?_ ?_
  ·simp only[go_sem,simprocAttr];simp
  rintro j y e H' ⟨rfl,P,q,p,l⟩ Q E;simp only[cg,F1,go_sem,simprocAttr,ad8,q,p,l];refine⟨λI=>?_,λI=>?_⟩
  ·have f:j<b.length:=by omega
   have hm:=fE f;have t:az k.b (b.getD j default)=true:=(jg A.b).1 (by rw[c]at hm⊢;exact(aey.1 hm).1);have G:=C (b.getD j default) (gi t) (u _ (by rw[c]at hm⊢;exact hm)) (((b.take j).flatMap (mU k n)).foldl mn (mn m h)) (L++[.box [.int .u32 h] none]);simp(disch:=omega) only[go_sem,simprocAttr,r.cG,r.cS,↓pH,P,q,p,l,J,G];refine⟨by omega,f,?_⟩;rw[z j f,akp]
  ·obtain rfl:j=b.length:=by omega
   rw[aeo];simp only[go_sem,simprocAttr,tk];rw[c];rfl
def wQ(k:bh)(h n:Nat):lN:=((bn k.b).take n).filter λx=>(mU k 16 h).contains x
def arW{k:bh}(a:n< (bn k.b).length):wQ k h (n+1)=if(mU k 16 h).contains ((bn k.b).getD n default)then wQ k h n++[(bn k.b).getD n default]else wQ k h n:=by
 unfold wQ;rw[aex,acJ a,aoJ,getD_eq a]
 grind
def arX{k:bh}: (wQ k h n).length<=n:=afI (af0 _ _) (by grind)
def agC(k:bh)(A:gB k)(h:Nat)(Y:h<4294967296)(ht:az k.b h=true->wP k 16 h)(H:List ae)(lo:oN):
  ∃w,D X (.fn (.func 269) [] []) [.agg (bS k),.int .u32 h] ⟨H,lo⟩=some (.ret (.av [.agg (bS (l8 k h).1),w,.int .i64 (l8 k h).2.2]) ⟨H,lo⟩):=by
 suffices hs: ∃z,D X (.fn (.func 269) [] []) [.agg (bS k),.int .u32 h] ⟨H,lo⟩=some z/\ (λz=> ∃w,z=aT.ret (.av [.agg (bS (l8 k h).1),w,.int .i64 (l8 k h).2.2]) ⟨H,lo⟩) z by
  obtain⟨z,h1,w,rfl⟩:=hs;exact⟨w,h1⟩
 refine cH JK λN c=>?_
 have j:=λH lo=>up dj (ew k.b h Y H lo)
 cases y:az k.b h with
 |false=>
  rw[y]at j;have V:l8 k h=(k,[],4):=by unfold l8;rw[y];rfl
  simp only[F1,go_sem,simprocAttr,JK,c,j,pc,V];exact⟨_,rfl⟩
 |true=>
  rw[y]at j;have V:l8 k h=(mT k (qF k h),qF k h,0):=by unfold l8;rw[y];rfl
  have B:=arV k A N H c 16 h Y (ht y) [] [];have F: ∀m,dk k N H m=H++[.box (bS k) none,.box rL none,.map (m.map m7),.box [.mp (N+2)] none,.box [.fn (.func 303) [] [.ptr (N+3) 0,.ptr N 0,.ptr (N+4) 0]] none]:=λ_=>rfl
  rw[aeC,aeC,F []]at B;obtain⟨m,hm⟩: ∃m,m=(mU k 16 h).foldl mn []:=⟨_,rfl⟩;rw[<-hm]at B;obtain⟨v,J,i1,i2⟩:=R8 k.b A.b (N+5) (dk k N H m) (BB c m) none;have C:D X (.fn (.func 56) [] []) [.agg (bY k.b)] ⟨dk k N H m,none⟩=some _:=sw (p:=lD) rfl i1;have g0: ∀d,(dk k N H m++d)[N]?=some (.box (bS k) none):=λd=>by unfold dk;rw[acF,di c];rfl
  have g:=(lE i2 none).bK;have I:max (N+3+1) (max (N+1) (N+4+1))<=N+4+1:=by omega
  simp only[avb]at B;have P:N<=N+1:=Nat.le_succ N;have R: (dk k N H m)[N]?=some (.box (bS k) none):=by have:=g0 [];rwa[aeC]at this
  simp only[go_sem,simprocAttr,JK,c,j,B,C,g,I,P,R];have g1: ∀d,(dk k N H m++d)[N+1]?=some (.box rL none):=λd=>by unfold dk;rw[acF,bE c];rfl
  have g2: ∀d,(dk k N H m++d)[N+2]?=some (.map (m.map m7)):=λd=>by unfold dk;rw[acF,bE c];rfl
  have Z: ∀d,(dk k N H m++d)[N+3]?=some (.box [.mp (N+2)] none):=λd=>by unfold dk;rw[acF,bE c];rfl
  have K: ∀x,m.contains x=(mU k 16 h).contains x:=λx=>by
   rw[amm,aru,aru,hm,arT];simp
  have rC:=mR k.b;refine ek (bn k.b).length (λn e H'=> ∃L,H'=dk k N H m++(J++L)/\ (∃l,e 9=l/\aR (N+5+J.length) H' l 1 bZ ((wQ k h n).map hC))/\e 2= .ptr N 0/\e 4= .ptr (N+1) 0/\e 7= .ptr (N+3) 0/\e 25=v/\e 26= .int .i64 (bn k.b).length/\e 27= .int .i64 n) 0 (by omega) ?_ ?_
  ·simp only[go_sem,simprocAttr];exact⟨[],by simp,_,rfl,aR.an⟩
  rintro n hn e H' ⟨L,rfl,⟨l,S,a⟩,U,T,e7,t,s,r⟩ n' Gc;simp only[cg,go_sem,simprocAttr,adZ,U,t,s,r];refine⟨λhc=>?_,λhc=>?_⟩
  ·have i:n< (bn k.b).length:=by omega
   have b:=arW (k:=k) (h:=h) i;have o:Rd ⟨dk k N H m++(J++L),none⟩ v 1 ((bn k.b).map hC):=lE (by have:=i2.ext (L:=L);rwa[acF]at this) none;have Q:=o.cS (X:=X) (off:=0) (n:=1) (agg:=false) i;rw[pH]at Q;generalize(bn k.b).getD n default=x at*;have f: ∀gm,iV gm ⟨dk k N H m++(J++L),none⟩ .int (.bool false) (.mp (N+2)) (.int .u32 (x:Nat)) false=some (.bool ((mU k 16 h).contains x)):=λgm=>by rw[arQ (g2 _),K]
   have rB:=arX (k:=k) (h:=h) (n:=n);cases W: (mU k 16 h).contains x
   ·rw[W]at f b;simp(disch:=omega) only[go_sem,simprocAttr,U,T,e7,S,t,s,r,o.cG,Q,Z,f];rw[acz (by simp)]at b;exact⟨by omega,i,L,rfl,l,rfl,by rw[b];exact a⟩
   ·rw[W]at f b;simp only[go_sem,simprocAttr,e7,S,o.cG,Q,Z,f];refine⟨by omega,oA (H0:=dk k N H m++J) (ys:=[[.int .u32 (x:Nat)]]) a ⟨_,acF _ _ _⟩ (by rw[ac6,BB c]) (by omega) (by intro el O;rw[ada.1 O];rfl) rfl (by unfold room;simp;omega) λv' H2 q G=>?_⟩;obtain⟨L2,rfl⟩:=G;simp(disch:=omega) only[go_sem,simprocAttr,U,T,e7,t,s,r];rw[acE rfl]at b;refine⟨i,L2,by simp,v',rfl,?_⟩;rw[b,aeq];rwa[acF]at q
  ·obtain rfl:n=(bn k.b).length:=by omega
   have M:wQ k h (bn k.b).length=qF k h:=by unfold wQ qF;rw[aeo]
   rw[M]at a;have E:=agy k A l (qF k h) (dk k N H m++(J++L)) (lE a none) (λx hx=>gi ((jg A.b).1 (aey.1 hx).1)) (by have: (qF k h).length<=_:=af0 _ _;omega) none;simp only[go_sem,simprocAttr,T,S,g0,g1,E,pc,cT (g1 _)];have u:jb N H (dk k N H m++(J++L)):=by unfold dk;rw[acF];exact jb.app c
   have ho:aR N ((dk k N H m++(J++L)).set (N+1) (ae.box (bS (mT k (qF k h))) none)) l 1 bZ ((qF k h).map hC):=aR.m5 (aR.le a (by omega)) (g1 _);rw[V,af6 (.inl rfl) ho ?_ ?_ ?_]
   ·exact⟨bu l ((qF k h).map hC),de rfl ((u.set (by omega)).take c)⟩
   ·rw[bp (λ_=>rfl)];omega
   ·simp[AV.refs,J2]
   ·simp[AV.refs]
end Go.Proofs.YteplichagkpciaaGreatDoor
