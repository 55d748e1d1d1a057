/- What functions do; conditions as stated. -/
import Derived.Test.YteplichagkpciaaGreatDoorM2
import Derived.Test.YteplichagkpciaaGreatDoorD2
import Derived.KernelRfl
import Derived.Test.YteplichagkpciaaGreatDoorProg
import Derived.WalkKit
import Derived.Lib.AppendZerosOnto
set_option linter.all false
set_option maxRecDepth 10000
set_option maxHeartbeats 1000000
namespace Go.Proofs.YteplichagkpciaaGreatDoor
open Go Go.Den Go.RowKit
variable{m:aZ}{v qv rv pv kv ev:AV}{sz p a b i k q M t e aa j:Nat}{lo:oN}{tg:Option TypeId}{H0:List ae}{Q:Prop}{af:List lA}{x y:ar}{r:bF}{α:Type}{c:cz}{aC:List lB}{aB aK:Nat->AV}{l:lN}{f:Nat->Bool}
def aqx:=@Int.tmod_eq_emod_of_nonneg
def ash:=@decide_eq_true_iff
def axF:=@List.all_eq_not_any_not
def aCi:=@List.all_eq_false
def aEw:=@List.any_eq_true
def cF(x:Core)(q:Nat)(qv:AV):lA:=bB x.S++([.ptr q 0]++(cQ x.M++[qv]))
section
variable{x:Core}{q:Nat}{qv:AV}
def OZ: (cF x q qv).length=1274:=by simp only[cF,ahU,fe,ef];rfl
def anU:aG (cF x q qv)=max (q+1) qv.refs:=by
 simp only[cF,Hf,oK,jV];simp[aG,AV.refs]
def anV:Den.part true 952 (cF x q qv) 0=some (.agg (bB x.S)):=by exact xH (fe _) (by omega)
def Y2{ag:Bool}{m o:Nat}(ho:952<=o):Den.part ag m (cF x q qv) o=Den.part ag m ([.ptr q 0]++(cQ x.M++[qv])) (o-952):=by
 unfold cF;rw[ko (by rw[fe];exact ho),fe]
def anW:Den.part false 1 (cF x q qv) 952=some (.ptr q 0):=by rw[Y2 (by omega)];rfl
def anX:Den.part true 320 (cF x q qv) 953=some (.agg (cQ x.M)):=by
 rw[Y2 (by omega),ko (by simp)];exact xH (ef _) (by omega)
def Y3:Den.part false 1 (cF x q qv) 1273=some qv:=by
 rw[Y2 (by omega),ko (by simp),ko (by rw[ef];simp),ef];rfl
def anY{s:bI}:aH (cF x q qv) 0 (bB s)=cF {x with S:=s} q qv:=by
 unfold cF;rw[rL (by rw[fe,fe];omega),rM (by rw[fe,fe])]
def anZ{m:Marks}:aH (cF x q qv) 953 (cQ m)=cF {x with M:=m} q qv:=by
 unfold cF;rw[gy (by rw[fe];omega),fe,gy (by simp),rL (by rw[ef];simp[ef])];have:953-952- [AV.ptr q 0].length=0:=rfl;rw[this,rM (by rw[ef,ef])]
def an0:aH (cF x q qv) 1273 [v]=cF x q v:=by
 unfold cF;rw[gy (by rw[fe];omega),fe,gy (by simp),gy (by rw[ef];simp),ef];rfl
theorem aGW{P:cV}:cF {x with P:=P} q qv=cF x q qv:=rfl
theorem aA7{Q:lN}:cF {x with Q:=Q} q qv=cF x q qv:=rfl
def O0: (cF x q qv)[1273]?=some qv:=Y3
def KL:=gG @anV<|gG @anW<|gG @anX<|gG @Y3 @O0
def KS:=gG @anY<|gG @anZ<|gG @an0 @OZ
end
def c9(N:Nat)(H:List ae)(v:AV)(sz:Nat)(ty:TypeId)(af:List lA):Prop:=
 (∀el∈af,el.length=sz)/\ ((v= .ai/\af=[])\/ ∃id aj off all,N<=id/\v= .ref id aj sz off af.length false/\H[id]?=some (.row aj sz ty all)/\off+af.length<=all.length/\ (all.drop off).take af.length=af)
theorem c9.ai{N:Nat}{H:List ae}{ty:TypeId}:c9 N H .ai sz ty []:=⟨by simp,.inl ⟨rfl,rfl⟩⟩
section
variable{N:Nat}{H H':List ae}{v:AV}{sz:Nat}{ty:TypeId}{af:List lA}
def c9.rd(h:c9 N H v sz ty af):Rd ⟨H,lo⟩ v sz af:=by
 obtain⟨b,a⟩:=h;rcases a with⟨rfl,rfl⟩| ⟨id,aj,off,all,d,rfl,hr,e,c⟩
 ·exact .ai
 ·refine⟨trivial,?_,b⟩;simp only[elems,hr,aBp]
  grind
def c9.oo(h:c9 N H v sz ty af)(b: ∀ (id aj:Nat) (all:List lA),H[id]?=some (ae.row aj sz ty all)->H'[id]?=some (ae.row aj sz ty all)):c9 N H' v sz ty af:=by
 obtain⟨a,c⟩:=h;refine⟨a,?_⟩
 grind
def c9.app(h:c9 N H v sz ty af)(L:List ae):c9 N (H++L) v sz ty af:=h.oo λ_ _ _ hr=>bf hr
theorem c9.set(h:c9 N H v sz ty af){cs:lA}(a:H[p]?=some (.box cs tg))(o:ae):c9 N (H.set p o) v sz ty af:=h.oo λid _ _ hr=>by grind
theorem c9.take{n:Nat}{a:List lA}(h:c9 N H v sz ty af)(e:c9 N H0 v sz ty a)(j:H0.length=n):c9 N (H.take n) v sz ty af:=by
 obtain⟨d,b⟩:=h;refine⟨d,?_⟩;rcases b with b| ⟨id,aj,off,all,l,g,hr,k,i⟩
 ·grind
 ·rcases e.2 with⟨q,_⟩| ⟨c,_,_,_,_,q,f,_⟩
  ·grind
  grind
def c9.tail{a:lA}{bytes:Nat}(h:c9 N H v sz ty (a::af)): ∃w,gd sz v (some (.int .i64 1)) none none=some w/\c9 N H w sz ty af/\w.cn=false/\w.cells=[w]/\w.refs=v.refs:=by
 obtain⟨g,c⟩:=h;rcases c with⟨_,c⟩| ⟨id,aj,off,all,e,rfl,hr,j,i⟩
 ·grind
 ·refine⟨.ref id aj sz (off+1) af.length false,?_,⟨λel d=>g el (ajH _ d),.inr ⟨id,aj,off+1,all,e,rfl,hr,by grind,?_⟩⟩,rfl,rfl,rfl⟩
  ·have f:gb (a::af).length (some (.int .i64 1)) none=some (1,af.length+1):=by
     have: (1:Int)<=af.length+1:=by omega
     simp[gb,lR,this]
   simp only[gd,f,lS]
   grind
  ·have: (all.drop off).take (af.length+1)=a::af:=by omega
   have c:all.drop (off+1)=(all.drop off).drop 1:=by simp
   rw[c];generalize all.drop off=l at this;cases l with
   |nil=>grind
   |cons b l=>grind
def c9.append{bytes:Nat}{y:lA}(h:c9 N H v sz ty af)(s:N<=H.length)(j:0<sz)(u:y.length=sz)(l:aG y=0)(r: (af.length+1)*bytes<=room):
  ∃v' H',dx ⟨H,lo⟩ ty sz bytes v [y]=some (v',⟨H',lo⟩)/\c9 N H' v' sz ty (af++[y])/\H.length<=H'.length/\ (∀i,i<N->H'[i]?=H[i]?)/\ (∀ (i:Nat) (o:ae),(∀a d,o≠ae.row a sz ty d)->H[i]?=some o->H'[i]?=some o)/\v'.cn=false/\v'.cells=[v']/\N<v'.refs:=by
 have f:0<sz/\ [y].all (λel=>el.length==sz)=true:=⟨j,by grind⟩;obtain⟨z,t⟩:=h;have g: ∀el∈af++[y],el.length=sz:=by grind
 rcases t with⟨rfl,rfl⟩| ⟨id,aj,off,all,n,rfl,b,w,k⟩
 ·refine⟨.ref H.length 0 sz 0 1 false,H++[.row 0 sz ty [y]],?_,⟨g,.inr ⟨H.length,0,0,[y],s,rfl,by simp,by simp,by simp⟩⟩,by simp,λi p=>aaF (by omega),λi o _ ho=>bf ho,rfl,rfl,by simp only[AV.refs];omega⟩;unfold dx;rw[aaR f];simp only[atZ];rw[aaH (by omega),aaR (by omega)];rfl
 ·have c:=fi b;refine⟨.ref id (aj+1) sz 0 (af.length+1) false,H.set id (.row (aj+1) sz ty (af++[y])),?_,⟨g,.inr ⟨id,aj+1,0,af++[y],n,by simp,by simp[c],by simp,abk (by simp)⟩⟩,by simp,λi p=>aaD (by omega),λi o ho e=>?_,rfl,rfl,by simp only[AV.refs];omega⟩
  ·unfold dx;rw[aaR f];simp only[b,atZ];rw[aaR ⟨trivial,trivial,trivial,trivial,by omega,r⟩,aaH (by omega)];have:b9 [y]=0:=by simp[b9,l]
   simp[AS.set,this,k]
  ·rw[aaD];exact e;rintro rfl;rw[b]at e;cases e;exact ho _ _ rfl
end
def Mu(o:ae):Prop:= ∃a d,o= .row a 1 nh d
structure Fq(m:Nat)(S:lN)(H H':List ae):Prop where
 len:H.length<=H'.length
 low: ∀i,i<m->H'[i]?=H[i]?
 box: ∀i o,i∉S-> ¬Mu o->H[i]?=some o->H'[i]?=some o
section
variable{m:Nat}{S T:lN}{A B C H W:List ae}
theorem Fq.refl:Fq m S A A:=⟨ahT _,λ_ _=>rfl,λ_ _ _ _ h=>h⟩
theorem Fq.trans(h:Fq m S A B)(g:Fq m S B C):Fq m S A C:=⟨ajU h.len g.len,λi a=>(g.low i a).trans (h.low i a),λi o a ho b=>g.box i o a ho (h.box i o a ho b)⟩
def Fq.mono(h:Fq m S A B)(a: ∀i∈S,i∈T):Fq m T A B:=⟨h.len,h.low,λi o b ho c=>h.box i o (λq=>b (a i q)) ho c⟩
theorem Fq.set(b:p∈S)(c:m<=p)(o:ae):Fq m S A (A.set p o):=⟨by simp,λi a=>aaD (by omega),λi w a _ h=>by grind⟩
def Fq.app(L:List ae)(a:m<=A.length):Fq m S A (A++L):=⟨by simp,λi b=>aaF (by omega),λi o _ _ h=>bf h⟩
def Fq.pre{L:List ae}(h:Fq m S (H++L) W)(a:m<=H.length):Fq m S H W:=(Fq.app L a).trans h
theorem Fq.take{N:Nat}(h:Fq m S A B)(d:A.length=N)(c:m<=N):Fq m S A (B.take N):=⟨by rw[ajM];have:=h.len;omega,λi a=>by rw[ajO (by omega)];exact h.low i a,λi o a ho b=>by
 have:=fi b;rw[ajO (by omega)];exact h.box i o a ho b⟩
def Fq.own{cs:lA}(h:Fq m S A B)(b:p∉S)(c:A[p]?=some (.box cs tg)):B[p]?=some (.box cs tg):=h.box p _ b (λq=>by obtain⟨a,d,q⟩:=q;cases q) c
end
def fZ(Q:Prop)(B:Nat)(H H':List ae)(lo ak:oN):Prop:=(ak=lo/\H'.length=H.length/\Q)\/ ∃j,j<=B/\ak=cI lo j
def aA8:cI (cI lo a) b=cI lo (min a b):=by
 cases lo with
 |none=>exact ajV some (Nat.min_comm b a)
 |some c=>show some (min b (min a c))=some (min (min a b) c);grind
theorem fZ.same{B:Nat}{H:List ae}(h:Q):fZ Q B H H lo lo:=.inl ⟨rfl,rfl,h⟩
section
variable{m N B:Nat}{S:lN}{H L W H2:List ae}{lo mH:oN}{Q:Prop}{v:AV}
def O2(h:H.length=N)(k:B<N)(e:m<=N)(i:Fq m S (H++L) W)(f:fZ Q B (H++L) W none mH)(d:v.refs<=N):
  ∃H2 a,finish N lo v ⟨W,mH⟩=(v,⟨H2,a⟩)/\Fq m S H H2/\fZ Q B H H2 lo a/\ (H2=W\/ (H2=W.take N/\Q)):=by
 have b:=i.pre (by omega);rcases f with⟨rfl,l,c⟩| ⟨j,g,rfl⟩
 ·refine⟨W.take N,lo,ja (.inl rfl) d,b.take h e,.inl ⟨rfl,?_,c⟩,.inr ⟨rfl,c⟩⟩
  grind
 ·refine⟨W,cI lo j,?_,b,.inr ⟨j,g,rfl⟩,.inl rfl⟩;have:cI none j=some j:=rfl;exact wq (by omega)
def O3{o:ae}(h:H2=W\/ (H2=W.take N/\Q))(b:i<N)(a:W[i]?=some o):H2[i]?=some o:=by grind
def c9.pa{n:Nat}{ty:TypeId}{v v':AV}{a:List lA}(h:c9 n W v' sz ty af)(c:H2=W\/ (H2=W.take N/\Q))(b:Q->v'=v)(e:c9 n H v sz ty a)(d:H.length=N):c9 n H2 v' sz ty af:=by
 rcases c with rfl| ⟨rfl,q⟩
 ·exact h
 ·have:=b q;subst this;exact h.take e d
end
structure dG(m p q:Nat)(x:Core)(qv:AV)(H:List ae):Prop where
 mp:m<=p
 mq:m<=q
 qp:q<p
 box:H[p]?=some (.box (cF x q qv) none)
 ij:H[q]?=some (.box (cm x.P) none)
 iG:c9 (p+1) H qv 1 nh (x.Q.map je)
section
variable{m p q:Nat}{x:Core}{qv:AV}{H:List ae}
def dG.lt(h:dG m p q x qv H):p<H.length:=fi h.box
theorem dG.app(h:dG m p q x qv H)(L:List ae):dG m p q x qv (H++L):=⟨h.mp,h.mq,h.qp,bf h.box,bf h.ij,h.iG.app L⟩
theorem dG.set(h:dG m p q x qv H){cs:lA}(c:H[i]?=some (.box cs tg))(b:i≠p)(a:i≠q)(o:ae):dG m p q x qv (H.set i o):=
 ⟨h.mp,h.mq,h.qp,(aaD b).trans h.box,(aaD a).trans h.ij,h.iG.set c o⟩
theorem dG.pa{W H2:List ae}{N:Nat}{a:AV}{d:Core}(h:dG m p q x qv W)(b:H2=W\/ (H2=W.take N/\Q))(e:Q->qv=a)(c:dG m p q d a H0)(f:H0.length=N):dG m p q x qv H2:=
 have g:=c.lt
 ⟨h.mp,h.mq,h.qp,O3 b (by omega) h.box,O3 b (by have:=h.qp;omega) h.ij,c9.pa h.iG b e c.iG f⟩
def dG.an1(h:dG m p q x qv H)(M:Marks):dG m p q {x with M:=M} qv (H.set p (.box (cF {x with M:=M} q qv) none)):=
 ⟨h.mp,h.mq,h.qp,cx h.box,(aaD (by have:=h.qp;omega)).trans h.ij,h.iG.set h.box _⟩
def dG.an2(h:dG m p q x qv H)(s:bI):dG m p q {x with S:=s} qv (H.set p (.box (cF {x with S:=s} q qv) none)):=
 ⟨h.mp,h.mq,h.qp,cx h.box,(aaD (by have:=h.qp;omega)).trans h.ij,h.iG.set h.box _⟩
def dG.HT(h:dG m p q x qv H)(P:cV):dG m p q {x with P:=P} qv (H.set q (.box (cm P) none)):=
 ⟨h.mp,h.mq,h.qp,(aaD (by have:=h.qp;omega)).trans h.box,cx h.ij,h.iG.set h.ij _⟩
def dG.fp(h:dG m p q x qv H)(o:ae):Fq m [p,q] H (H.set p o):=Fq.set (by simp) h.mp o
def dG.fq(h:dG m p q x qv H)(o:ae):Fq m [p,q] H (H.set q o):=Fq.set (by simp) h.mq o
end
def Y4(m p q:Nat)(H:List ae)(lo:oN)(b:Core)(qv:AV)(r:AV)(c:aS):Prop:=
 ∃a H' ak,c= .ret r ⟨H',ak⟩/\dG m p q b a H'/\Fq m [p,q] H H'/\fZ (a=qv) p H H' lo ak
def jf(x:Core)(r:aE)(k:Nat):Core:={x with Q:=x.Q++(iX r).take k}
def an3(x:Core)(r:aE):jf x r r.2=c7 x r:=by
 unfold jf c7;rw[abk (by simp[iX])]
def an4{r:aE}(h:k<r.2): (iX r).take (k+1)=(iX r).take k++[r.1+k]:=by
 rw[ajN];simp[iX,h]
def Y5{m:Nat}{x:Core}{H:List ae}(l:dG m p q x qv H)(r:aE)(X:r.1<4294967296/\r.2<4294967296)(hQ:x.Q.length<17179869184)(lo:oN):
  ∃K,D XC (.fn (.func E4) [] []) [.ptr p 0,.agg (ay r)] ⟨H,lo⟩=some K/\Y4 m p q H lo (c7 x r) qv (.au []) K:=by
 refine cE UC λN s=>?_
 have C:p<N:=by rw[<-s];exact l.lt
 have h1: (ay r)[1]?=some (.int .i64 r.2):=rfl;simp only[go_sem,simprocAttr,UC,s];refine gX r.2 (λk e W ak=> ∃c,e 0= .ptr p 0/\e 3= .ptr N 0/\e 6= .int .i64 r.2/\e 7= .int .i64 k/\dG m p q (jf x r k) c W/\W[N]?=some (.box (ay r) none)/\Fq m [p,q] (H++[.box (ay r) none]) W/\fZ (c=qv) p (H++[.box (ay r) none]) W none ak) 0 (by omega) ?_ ?_
 ·refine⟨qv,?_⟩;simp(disch:=omega) only[go_sem,simprocAttr];refine⟨?_,Fq.refl,fZ.same trivial⟩;have:=l.app [.box (ay r) none];unfold jf;simpa using this
 rintro k Z e W ak ⟨c,J,e3,e6,e7,b,hw,I,g⟩ n Y;have h0: (ay r)[0]?=some (.int .i64 r.1):=rfl;simp only[bO,go_sem,simprocAttr,aiX,J,e6,e7];refine⟨λO=>?_,λO=>?_⟩
 ·have E:k<r.2:=by omega
  have V:=(o8 (b.iG.rd (lo:=none)));simp(disch:=omega) only[go_sem,simprocAttr,e3,b.box,hw,↓KL];have h: (x.Q++(iX r).take k).length<=x.Q.length+r.2:=by simp[iX];omega
  have M:=b.lt;obtain⟨v',W',g1,g2,g3,U,t,T,R,g8⟩:=c9.append (bytes:=8) (lo:=ak) (y:=[.int .i64 ((r.1:Int)+k)]) b.iG (by omega) (by omega) rfl rfl (by rw[ahX];show((x.Q++(iX r).take k).length+1)*8<=room;unfold room;omega);have z: ∀cs tg,∀a d,ae.box cs tg≠ .row a 1 nh d:=λ_ _ _ _ e=>by cases e
  have f:=t p _ (z _ _) b.box;have u:=t q _ (z _ _) b.ij;have w:=t N _ (z _ _) hw;have F: ¬v'.refs<=p+1:=by omega
  rw[g1];simp(disch:=omega) only[go_sem,simprocAttr,J,e3,e6,e7,f,KS,T,R,F];refine⟨by omega,v',?_⟩;refine⟨?_,w,?_,?_⟩
  ·refine⟨b.mp,b.mq,b.qp,by rw[aA7];exact cx f,(aaD (by have:=b.qp;omega)).trans u,?_⟩;have: (jf x r (k+1)).Q.map je=(jf x r k).Q.map je++[[.int .i64 ((r.1:Int)+k)]]:=by
    unfold jf;rw[an4 E,<-aaS,aiw];rfl
   rw[this];exact g2.set f _
  ·refine I.trans ⟨by simp;omega,λi G=>?_,λi o G ho P=>?_⟩
   ·rw[aaD (by have:=b.mp;omega)];exact U i (by have:=b.mp;omega)
   ·rw[aaD (by rintro rfl;simp at G)];exact t i o (λa d e=>ho ⟨a,d,e⟩) P
  ·rcases g with⟨rfl,_,_⟩| ⟨j,hj,rfl⟩
   ·exact .inr ⟨p,ahT _,rfl⟩
   ·exact .inr ⟨min j p,by omega,aA8⟩
 ·obtain rfl:k=r.2:=by omega
  have hm:=l.mp;obtain⟨H2,A,f1,f2,f3,f4⟩:=O2 (lo:=lo) s C (by omega) I g (v:=.au []) (abX _);rw[f1];rw[an3]at b;exact⟨c,H2,A,rfl,b.pa f4 id l s,f2,f3⟩
def bN(c:Call)(rv:AV):lA:=[.int .i64 c.aa]++(bg c.c++([.bool c.checked,rv]++(ay c.run++[.int .i64 c.fh])))
theorem aA9(c:Call)(rv:AV):bN c rv=[.int .i64 c.aa,.int .u8 c.c.op,.int .u32 c.c.r,.int .u32 c.c.s,.int .u32 c.c.a,.int .u32 c.c.b,.int .u64 c.c.v,.bool c.checked,rv,.int .i64 c.run.1,.int .i64 c.run.2,.int .i64 c.fh]:=rfl
structure fP(c:Call):Prop where
 aa:c.aa<4294967296
 iH:jT c.c
 aU: ∀h∈c.aU,h<4294967296
 run:c.run.1<65536/\c.run.2<65536
 fh:c.fh<65536
structure jW(x:Core):Prop where
 S:bm x.S
 P:fR x.P
 M: ∀i,ig (x.M i)
 Q: ∀k∈x.Q,k<2147483648
 Ql:x.Q.length<8589934592
def an5{m:Nat}{x:Core}{H:List ae}(b:dG m p q x qv H)(l:jW x)(c:Call)(n:fP c)(rv:AV)(r:rv.refs=0)(lo:oN):
  ∃k,D XC (.fn (.func J0) [] []) [.ptr p 0,.agg (bN c rv)] ⟨H,lo⟩=some k/\Y4 m p q H lo (vY x c) qv (.au []) k:=by
 refine cE Uj λN d=>?_
 have f:p<N:=by rw[<-d];exact b.lt
 have hr:=n.run;obtain⟨k,g1,a,W,ak,rfl,g2,o,y⟩:=Y5 (b.app [.box (bN c rv) none]) c.run ⟨by omega,by omega⟩ (by have:=l.Ql;omega) none;have h:Den.part true 2 (bN c rv) 9=some (.agg (ay c.run)):=rfl;have i: (bN c rv)[0]?=some (.int .i64 c.aa):=rfl;have j:N∉[p,q]:=by have:=b.qp;simp;omega
 have wn:W[N]?=some (.box (bN c rv) none):=o.own j (by rw[dn d];rfl);have t:=λH lo=>c0 (aAB x.M l.M c.aa n.aa H lo)
 have w: (c7 x c.run).M=x.M:=rfl;have g:=λm=>ef m
 simp only[go_sem,simprocAttr,Uj,d,↓h,g1,g2.box,wn,i,↓KL,KS,w,t,g,jV];have u:=o.trans (g2.fp (.box (cF {c7 x c.run with M:=rV x.M c.aa} q a) none));have s:fZ (a=qv) p (H++[.box (bN c rv) none]) (W.set p (.box (cF {c7 x c.run with M:=rV x.M c.aa} q a) none)) none ak:=y.elim (λq=>.inl ⟨q.1,by rw[ajB];exact q.2.1,q.2.2⟩) .inr;obtain⟨H2,e,f1,f2,f3,f4⟩:=O2 (lo:=lo) d f (by have:=b.mp;omega) u s (v:=.au []) (abX _);rw[f1];exact⟨a,H2,e,rfl,(g2.an1 _).pa f4 id b d,f2,f3⟩
def aBa{m:Nat}{x:Core}{H:List ae}(c:dG m p q x qv H)(t:jW x)(lo:oN):
  ∃y,D XC (.fn (.func RY) [] []) [.ptr p 0] ⟨H,lo⟩=some y/\Y4 m p q H lo (iY x).1 qv (.bool (iY x).2) y:=by
 have ho:Old p H (.box (cF x q qv) none):=⟨c.box⟩;refine cE MU λN r=>?_
 have h:p<N:=by rw[<-r];exact c.lt
 have b:=(c.iG.rd (lo:=none)).bD;unfold iY;have E:Fq m [p,q] (H++[]) H:=by rw[ajJ];exact Fq.refl
 cases n:x.Q with
 |nil=>
  rw[n]at b;simp(disch:=omega) only[F1,go_sem,simprocAttr,MU,c.box,↓KL,b];exact⟨qv,H,lo,rfl,c,Fq.refl,fZ.same rfl⟩
 |cons a l=>
  have d:=c.iG;rw[n]at b d;rw[ape]at d;have G: ¬((l.length:Nat):Int)+1=0:=by omega
  have k:j5 1 qv (.int .i64 0)=some (fa qv 0 0):=by
   rw[(d.rd (lo:=none)).addr,aaR ⟨by omega,by simp⟩];rfl
  have i:cb XC ⟨H,none⟩ false 1 (fa qv 0 0)=some (.int .i64 a):=(d.rd (lo:=none)).load (by simp);obtain⟨w,s1,s2,B,A,z⟩:=c9.tail (bytes:=8) d;have F:=λlo=>c0 (aAU t.P c.ij lo (t.Q a (by rw[n];simp)))
  have j: (FP.rd p 952 1).ok (lZ 1 (fa qv 0 0))=true:=by
   rcases d.2 with⟨_,e⟩| ⟨_,_,_,_,_,rfl,_⟩
   ·cases e
   ·rfl
  have s: ∀o,(H.set q o)[p]?=some (.box (cF x q qv) none):=λo=>(aaD (by have:=c.qp;omega)).trans c.box
  have C:p+1<w.refs:=by
   rw[z];rcases d.2 with⟨_,e⟩| ⟨id,_,_,_,J,rfl,_⟩
   ·cases e
   ·simp only[AV.refs];omega
  have f: ¬w.refs<=p+1:=by omega
  simp only[go_sem,simprocAttr,MU,r,c.box,↓KL,b,G,k,i,F,j,s,s1,B,A,KS,f];have u:=(c.fq (.box (cm (rY x.P a)) none)).trans ((c.HT (rY x.P a)).fp (.box (cF x q w) none));have hm:=c.mp;obtain⟨I,g,f1,f2,f3,f4⟩:=O2 (m:=m) (N:=N) (lo:=lo) (Q:=False) (L:=[]) r h (by omega) (by rw[ajJ];exact u) (.inr ⟨p,ahT _,rfl⟩) (v:=.bool true) (abX _);rw[f1];have f5:I=(H.set q (.box (cm (rY x.P a)) none)).set p (.box (cF x q w) none):=f4.elim id λe=>e.2.elim
  rw[f5];refine⟨w,_,g,rfl,⟨c.mp,c.mq,c.qp,cx (s _),(aaD (by have:=c.qp;omega)).trans (cx c.ij),?_⟩,u,?_⟩
  ·exact(s2.set c.ij _).set (s _) _
  ·rw[f5]at f3;exact f3.elim (λe=>e.2.2.elim) .inr
def dN(st:bY)(p:Nat)(rv:AV):lA:=[.ptr p 0]++(bN st.c rv++(bG st.r++[.bool st.ended]))
section
variable{st:bY}{p:Nat}{rv:AV}
theorem Y6: (dN st p rv).length=17:=rfl
theorem an6: (dN st p rv)[0]?=some (.ptr p 0):=rfl
theorem an7: (dN st p rv)[1]?=some (.int .i64 st.c.aa):=rfl
theorem an8: (dN st p rv)[8]?=some (.bool st.c.checked):=rfl
theorem an9: (dN st p rv)[9]?=some rv:=rfl
theorem aoa: (dN st p rv)[10]?=some (.int .i64 st.c.run.1):=rfl
theorem aob: (dN st p rv)[11]?=some (.int .i64 st.c.run.2):=rfl
theorem aoc: (dN st p rv)[12]?=some (.int .i64 st.c.fh):=rfl
theorem aod: (dN st p rv)[16]?=some (.bool st.ended):=rfl
theorem Y7:Den.part true 12 (dN st p rv) 1=some (.agg (bN st.c rv)):=rfl
theorem aoe:Den.part true 6 (dN st p rv) 2=some (.agg (bg st.c.c)):=rfl
theorem aof:Den.part true 2 (dN st p rv) 10=some (.agg (ay st.c.run)):=rfl
theorem aog:Den.part true 3 (dN st p rv) 13=some (.agg (bG st.r)):=rfl
theorem aoh{b:Bool}:aH (dN st p rv) 8 [.bool b]=dN {st with c:={st.c with checked:=b}} p rv:=rfl
theorem aoi:aH (dN st p rv) 9 [v]=dN st p v:=rfl
theorem aoj{r:aE}:aH (dN st p rv) 10 (ay r)=dN {st with c:={st.c with run:=r}} p rv:=rfl
theorem aok{n:Nat}:aH (dN st p rv) 12 [.int .i64 n]=dN {st with c:={st.c with fh:=n}} p rv:=rfl
theorem aol:aH (dN st p rv) 13 (bG r)=dN {st with r:=r} p rv:=rfl
theorem aom{b:Bool}:aH (dN st p rv) 16 [.bool b]=dN {st with ended:=b} p rv:=rfl
def Y8(c:Call)(h:rv.refs=0):aG (bN c rv)=0:=by rw[aA9];simp[aG,AV.refs,h]
def PL:=gG @an6<|gG @an7<|gG @an8<|gG @an9<|gG @aoa<|gG @aob<|gG @aoc<|gG @aod<|gG @Y7<|gG @aoe<|gG @aof @aog
def PS:=gG @aoh<|gG @aoi<|gG @aoj<|gG @aok<|gG @aol<|gG @aom @Y6
end
structure de(m p q s:Nat)(st:bY)(qv rv:AV)(H:List ae):Prop where
 co:dG m p q st.x qv H
 ps:p<s
 box:H[s]?=some (.box (dN st p rv) none)
 aU:Rv rv 1 (st.c.aU.map hC)
section
variable{m p q s:Nat}{st:bY}{qv rv:AV}{H:List ae}
def de.lt(h:de m p q s st qv rv H):s<H.length:=fi h.box
theorem de.rz(h:de m p q s st qv rv H):rv.refs=0:=cJ h.aU (bz (λ_=>rfl) _)
theorem de.app(h:de m p q s st qv rv H)(L:List ae):de m p q s st qv rv (H++L):=⟨h.co.app L,h.ps,bf h.box,h.aU⟩
theorem de.set(h:de m p q s st qv rv H){qF:bY}{si:AV}(a:qF.x=st.x)(b:Rv si 1 (qF.c.aU.map hC)):de m p q s qF qv si (H.set s (.box (dN qF p si) none)):=
 ⟨a ▸ h.co.set h.box (by have:=h.ps;omega) (by have:=h.ps;have:=h.co.qp;omega) _,h.ps,cx h.box,b⟩
def de.fs(h:de m p q s st qv rv H)(o:ae):Fq m [p,q,s] H (H.set s o):=Fq.set (by simp) (by have:=h.ps;have:=h.co.mp;omega) o
def de.sn(h:de m p q s st qv rv H):s∉[p,q]:=by have:=h.ps;have:=h.co.qp;grind
def de.az{W:List ae}{b:Core}{a:AV}(h:de m p q s st qv rv H)(d:dG m p q b a W)(c:Fq m [p,q] H W):de m p q s {st with x:=b} a rv W:=
 ⟨d,h.ps,c.own h.sn h.box,h.aU⟩
def Fq.m3{H W:List ae}(h:Fq m [p,q] H W):Fq m [p,q,s] H W:=h.mono (by simp)
theorem de.pa{W d:List ae}{N:Nat}{a c:AV}{b:bY}(h:de m p q s st qv rv W)(e:d=W\/ (d=W.take N/\Q))(i:Q->qv=a)(g:de m p q s b a c H0)(f:H0.length=N):de m p q s st qv rv d:=
 ⟨h.co.pa e i g.co f,h.ps,O3 e (by rw[<-f];exact g.lt) h.box,h.aU⟩
end
def eg(m p q s:Nat)(H:List ae)(lo:oN)(qF:bY)(qv:AV)(r:AV)(b:aS):Prop:=
 ∃a si H' ak,b= .ret r ⟨H',ak⟩/\de m p q s qF a si H'/\Fq m [p,q,s] H H'/\fZ (a=qv) p H H' lo ak
structure qG(st:bY):Prop where
 x:jW st.x
 c:fP st.c
def eg.fin{m s N:Nat}{d st:bY}{a e:AV}{H L W:List ae}{b:oN}(c:de m p q s d a e H)(g:H.length=N)(h:de m p q s st qv rv W)(k:Fq m [p,q,s] (H++L) W)(j:fZ (qv=a) p (H++L) W none b)(i:v.refs<=N):
  eg m p q s H lo st a v (.ret (finish N lo v ⟨W,b⟩).1 (finish N lo v ⟨W,b⟩).2):=by
 have r:=c.lt;have o:=c.ps;have n:=c.co.mp;obtain⟨l,f,f1,f2,f3,f4⟩:=O2 (m:=m) (N:=N) (lo:=lo) g (by omega) (by omega) k j i;rw[f1];exact⟨qv,rv,l,f,rfl,h.pa f4 id c g,f2,f3⟩
def Y9{m s:Nat}{st:bY}{H:List ae}(a:de m p q s st qv rv H)(e:qG st)(r:bF)(lo:oN):
  ∃d,D XC (.fn (.func BM) [] []) [.ptr s 0,.agg (bG r)] ⟨H,lo⟩=some d/\eg m p q s H lo (rZ st r) qv (.au []) d:=by
 refine cE UL λN g=>?_
 have h:=(a.app [.box (bG r) none]).set (qF:={st with r:=r,ended:=true}) (si:=rv) rfl a.aU;have k:=(a.app [.box (bG r) none]).fs (.box (dN {st with r:=r,ended:=true} p rv) none);obtain⟨d,g1,b,W,ak,rfl,g2,i,l⟩:=an5 h.co e.x st.c e.c rv a.rz none;have f:=λL=>bf (L:=L) a.box
 have c:=λL o=>cx (o:=o) (f L)
 simp only[go_sem,simprocAttr,UL,g,f,PL,PS,yb,uG,sh,c,amC,↓Y7,g1];have j:fZ (b=qv) p (H++[.box (bG r) none]) W none ak:=l.elim (λq=>.inl ⟨q.1,by grind,q.2.2⟩) .inr;exact eg.fin a g (h.az g2 i) (k.trans i.m3) j (abX _)
def fR.aon{p:cV}(h:fR p)(n:Nat):fR (jv p n).1:=by
 unfold jv;split
 ·exact h
 split
 ·exact h
 ·rename_i x b;cases a:rW p.free (x.1,n)with
  |none=>exact h
  |some l=>exact⟨h.n,h.free.take a,h.bytes⟩
def fR.clear{p:cV}(h:fR p)(i:Nat):fR (rX p i):=by
 unfold rX;split
 ·refine⟨h.n,h.free,λa b=>?_⟩;show aq p.bytes i (λ_=>0) a b<256;unfold aq;split
  ·simp
  ·exact h.bytes a b
 omega
def fR.back{p:cV}(h:fR p)(i:Nat):fR (rY p i):=by
 unfold rY;split
 ·unfold N7;cases a:iA p.free (i,1)with
  |none=>exact h
  |some l=>exact⟨h.n,h.free.iA a,h.bytes⟩
 omega
def fR.write{p:cV}(h:fR p)(i b:Nat)(d:b<256):fR (vX p i b):=by
 unfold vX;split
 ·refine⟨h.n,h.free,λa c=>?_⟩;show aq p.bytes (i/32) (aq (p.bytes (i/32)) (i % 32) b) a c<256;unfold aq;split
  ·show(if c=i % 32 then b else p.bytes (i/32) c)<256;split
   ·omega
   ·exact h.bytes _ _
  ·exact h.bytes a c
 omega
def aBb{p:cV}(h:fR p)(n:Nat)(c:n<=64)(b: (jv p n).2.2=0): (jv p n).2.1+n<=64:=by
 unfold jv at b⊢;split
 ·grind
 ·rename_i e;split
  ·grind
  ·rename_i x a;have d:=h.free.bd x (at6 a)
   grind
def aoo{h:Nat}{r:dk}(e:nG x h r= .ok y):y.mY=x.mY:=by
 unfold nG at e;cases a:bc (fK x.s.T h r).2 with
 |error _=>rw[a]at e;cases e
 |ok _=>rw[a]at e;cases e;rfl
def bp{β:Type}{m:R α}{f:α->R β}{b:β}(h: (m>>=f)= .ok b): ∃a,m= .ok a/\f a= .ok b:=by
 cases m with
 |error e=>cases h
 |ok a=>exact⟨a,rfl,h⟩
def aBc(e:x.mY=0)(h:jO x= .ok (y,r)):y.mY<=4:=by
 unfold jO at h;dsimp only at h;cases b:qs (min x.c.a 129) (min x.c.b 9)with
 |none=>rw[b]at h;cases h
 |some n=>
  have c:n<=4:=by
   unfold qs at b;split at b
   ·rename_i ho;have:min x.c.a 129<=128:=by unfold isObj at ho;simp at ho;omega
    cases b;omega
   ·cases b
  rw[b]at h;obtain⟨a,e1,h⟩:=bp h;cases e1;obtain⟨_,_,h⟩:=bp h;obtain⟨_,_,h⟩:=bp h;split at h
  ·obtain⟨z,d,h⟩:=bp h;cases h;rw[aoo d,e];omega
  ·obtain⟨_,_,h⟩:=bp h;split at h
   ·cases h;exact c
   ·obtain⟨_,_,h⟩:=bp h;obtain⟨z,d,h⟩:=bp h;cases h;rw[aoo d];exact c
def aop(s:bI)(aa:Nat)(c:cz):fg s aa c<=4:=by
 unfold fg;split
 ·omega
 ·split
  ·rename_i y r e;obtain⟨_,_,e⟩:=bp (show(ask _ _>>=λ_=>kx _)=_ from e);unfold kx at e;have:c.op=2:=by omega
   simp only[this]at e;exact aBc rfl e
  ·omega
theorem eg.same{m s:Nat}{st:bY}{H:List ae}{r:AV}(h:de m p q s st qv rv H):eg m p q s H lo st qv r (.ret r ⟨H,lo⟩):=⟨qv,rv,H,lo,rfl,h,Fq.refl,fZ.same rfl⟩
def eg.HU{m s N:Nat}{c st:bY}{a d:AV}{H W:List ae}{b:oN}(g:de m p q s c a d H)(f:H.length=N)(h:de m p q s st qv rv W)(j:Fq m [p,q,s] H W)(i:fZ (qv=a) p H W none b)(e:v.refs<=N):
 eg m p q s H lo st a v (.ret (finish N lo v ⟨W,b⟩).1 (finish N lo v ⟨W,b⟩).2):=eg.fin (L:=[]) g f h (by grind) (by grind) e
def aoq{m s:Nat}{st:bY}{H:List ae}(ha:de m p q s st qv rv H)(hx:qG st)(e:Nat)(lo:oN):
 ∃a,D XC (.fn (.func BM) [] []) [.ptr s 0,.agg [.int .i64 e,.int .u64 0,.int .u32 0]] ⟨H,lo⟩=some a/\eg m p q s H lo (rZ st {b8 with e:=e}) qv (.au []) a:=Y9 ha hx {b8 with e:=e} lo
section
variable(hD: ∀op,mo op){m p q s:Nat}{st:bY}{qv rv:AV}{H:List ae}(ha:de m p q s st qv rv H)(hx:qG st)(lo:oN)
include hD ha hx
theorem aBd: ∃f,D XC (.fn (.func BI) [] []) [.ptr s 0] ⟨H,lo⟩=some f/\eg m p q s H lo (oT st).1 qv (.bool (oT st).2) f:=by
 refine cE CI λN b=>?_
 have k:s<N:=by rw[<-b];exact ha.lt
 have hw:=anR st.x.S hx.x.S st.c.aa hx.c.aa st.c.c hx.c.iH (hD _);have g:=anQ st.x.S hx.x.S st.c.aa hx.c.aa st.c.c hx.c.iH (hD _);unfold oT;cases d:st.c.checked with
 |true=>
  simp(disch:=omega) only[F1,go_sem,simprocAttr,CI,ha.box,PL,d];exact eg.same ha
 |false=>
  cases i:C3 st.x.S st.c.aa st.c.c with
  |true=>
   rw[i]at hw;simp only[F1,go_sem,simprocAttr,CI,b,ha.box,ha.co.box,PL,↓PL,KL,↓KL,d,hw];exact eg.same ha
  |false=>
   rw[i]at hw;by_cases h:oR st.x.S st.c.aa st.c.c=0
   ·have a: ((oR st.x.S st.c.aa st.c.c:Nat):Int)=0:=by omega
    obtain⟨v,d1,d2⟩:=aA6 hx.x.S hx.c.iH H none;obtain⟨t1,t2⟩:=o8 (d2 ⟨[],none⟩);have t3:=cJ d2 (bz (λ_=>rfl) _);have e:=λo=>cx (o:=o) ha.box
    simp only[go_sem,simprocAttr,CI,b,ha.box,ha.co.box,PL,↓PL,KL,↓KL,PS,d,hw,g,a,d1,t1,t2,t3,e,amC];rw[aaH (λq=>q h)];exact eg.HU (v:=.bool true) ha b (ha.set (qF:={st with c:={st.c with checked:=true,aU:=uq st.x.S st.c.c}}) rfl d2) (ha.fs _) (.inl ⟨rfl,by simp,rfl⟩) (abX _)
   ·have a: ¬((oR st.x.S st.c.aa st.c.c:Nat):Int)=0:=by omega
    obtain⟨f,g1,j,si,W,ak,rfl,g2,n,l⟩:=aoq ha hx (oR st.x.S st.c.aa st.c.c) none;simp only[go_sem,simprocAttr,CI,b,ha.box,ha.co.box,PL,↓PL,KL,↓KL,d,hw,g,a,g1];rw[aaR h];exact eg.HU ha b g2 n l (abX _)
omit hD in
theorem aBe: ∃P,D XC (.fn (.func BJ) [] []) [.ptr s 0] ⟨H,lo⟩=some P/\eg m p q s H lo (oU st).1 qv (.bool (oU st).2) P:=by
 have ho:Old s H (.box (dN st p rv) none):=⟨ha.box⟩;refine cE GL λN n=>?_
 have R:s<N:=by rw[<-n];exact ha.lt
 have S:p<N:=by have:=ha.ps;omega
 have a:=ha.aU.bD (E:=⟨H,none⟩);unfold oU;cases hr:st.c.aU with
 |nil=>
  rw[hr]at a;simp(disch:=omega) only[F1,go_sem,simprocAttr,GL,n,ha.box,PL,a];exact eg.same ha
 |cons h hs=>
  have f:=ha.aU;rw[hr]at a f;have O: ¬((hs.length:Nat):Int)+1=0:=by omega
  have z:j5 1 rv (.int .i64 0)=some (fa rv 0 0):=by
   rw[f.bX,aaR ⟨by omega,by simp⟩];rfl
  have v: ∀E,cb XC E false 1 (fa rv 0 0)=some (.int .u32 h):=λE=>f.cp (by simp)
  have e:=λH lo=>c0 (jQ h (hx.c.aU h (by rw[hr];simp)) H lo)
  have C: ((eK h).getD 0)=aO h:=rfl;unfold iD at e;rw[C]at e;have d:=λH lo=>c0 (aAt st.x.M hx.x.M (aO h) st.c.aa hx.c.aa H lo)
  have A:rn.length=320:=by decide
  have r:List.drop 320 rn=[]:=ajX (by rw[A];omega);have t: ∀m:Marks,List.take 320 (cQ m)=cQ m:=λm=>abk (by rw[ef];omega)
  have I:=λL=>bf (L:=L) ha.box
  have y:=λL=>bf (L:=L) ha.co.box
  have u:=λm=>ef m
  obtain⟨c,B⟩: ∃c,rv= .sl ((h::hs).map hC) c:=by
   obtain⟨Q,l,T⟩:=f ⟨[],none⟩;cases rv<;>simp only[]at Q
   ·simp[Den.elems]at l
   ·rename_i af c;simp only[Den.elems]at l;split at l
    ·cases l;exact⟨c,rfl⟩
    ·cases l
   ·simp[Den.elems]at l
  obtain⟨w,s1,s2⟩:=anG (sz:=1) (af:=(h::hs).map hC) (c:=c) (i:=1) (by intro el G;obtain⟨x,_,rfl⟩:=ais.1 G;rfl) (by simp);rw[<-B]at s1;have s1:gd 1 rv (some (.int .i64 1)) none none=some w:=s1;obtain⟨t1,t2⟩:=o8 (s2 ⟨[],none⟩);have t3:=cJ s2 (bz (g:=hC) (λ_=>rfl) hs);have F: ∀L o,((H++L).set p o)[s]?=some (.box (dN st p rv) none):=λL o=>(aaD (by have:=ha.ps;omega)).trans (I L)
  obtain⟨j,k⟩: ∃j,j=(iW st.x.M (aO h) st.c.aa).1:=⟨_,rfl⟩;have J:=(ha.app [.box (cQ j) none]).az ((ha.app [.box (cQ j) none]).co.an1 j) ((ha.app [.box (cQ j) none]).co.fp _);have K:=(ha.app [.box (cQ j) none]).co.fp (.box (cF {st.x with M:=j} q qv) none);rw[<-k]at d;cases b: (iW st.x.M (aO h) st.c.aa).2 with
  |true=>
   rw[b]at d;simp(disch:=omega) only[go_sem,simprocAttr,GL,n,ha.box,I,y,F,PL,↓PL,PS,KL,↓KL,KS,a,O,z,v,e,d,A,r,t,u,jV,s1,t1,t2,t3];rw[aaR b,<-k];exact eg.fin ha n (J.set (qF:={st with x:={st.x with M:=j},c:={st.c with aU:=hs}}) rfl s2) (K.m3.trans (J.fs _)) (.inl ⟨rfl,by simp,rfl⟩) (abX _)
  |false=>
   rw[b]at d;simp(disch:=omega) only[go_sem,simprocAttr,GL,n,ha.box,I,y,PL,↓PL,KL,↓KL,KS,a,O,z,v,e,d,A,r,t,u,jV];rw[aaH (by rw[b];simp),<-k];exact eg.fin ha n J K.m3 (.inl ⟨rfl,by simp,rfl⟩) (abX _)
theorem aBf: ∃l,D XC (.fn (.func BK) [] []) [.ptr s 0] ⟨H,lo⟩=some l/\eg m p q s H lo (oV st).1 qv (.bool (oV st).2) l:=by
 have ho:Old s H (.box (dN st p rv) none):=⟨ha.box⟩;refine cE CJ λN f=>?_
 have i:=λH lo=>cB (YT st.x.S hx.x.S st.c.aa hx.c.aa st.c.c hx.c.iH (hD _) H lo)
 have v:=aop st.x.S st.c.aa st.c.c;unfold oV;dsimp only;by_cases y:fg st.x.S st.c.aa st.c.c=0
 ·have a:decide (((fg st.x.S st.c.aa st.c.c:Nat):Int)=0)=true:=abj (by omega);rw[aaR (.inl y)];simp only[F1,go_sem,simprocAttr,CJ,f,ha.box,ha.co.box,PL,↓PL,KL,↓KL,i,a];exact eg.same ha
 ·have a:decide (((fg st.x.S st.c.aa st.c.c:Nat):Int)=0)=false:=abi (by omega);by_cases w:0<st.c.run.2
  ·have b: ((st.c.run.2:Nat):Int)>0:=by omega
   rw[aaR (.inr w)];simp only[F1,go_sem,simprocAttr,CJ,f,ha.box,ha.co.box,PL,↓PL,KL,↓KL,i,a,b];exact eg.same ha
  ·have b: ¬((st.c.run.2:Nat):Int)>0:=by omega
   rw[aaH (by omega)];have h:=λlo=>aAX hx.x.P ha.co.ij lo (n:=fg st.x.S st.c.aa st.c.c) (by omega)
   have j:=ha.az (ha.co.HT (jv st.x.P (fg st.x.S st.c.aa st.c.c)).1) (ha.co.fq _);have o:=ha.co.fq (.box (cm (jv st.x.P (fg st.x.S st.c.aa st.c.c)).1) none);have k:qG {st with x:={st.x with P:=(jv st.x.P (fg st.x.S st.c.aa st.c.c)).1}}:=⟨⟨hx.x.S,hx.x.P.aon _,hx.x.M,hx.x.Q,hx.x.Ql⟩,hx.c⟩;generalize u:jv st.x.P (fg st.x.S st.c.aa st.c.c)=d at*;by_cases r:d.2.2=0
   ·have e:decide (((d.2.2:Nat):Int)=0)=true:=abj (by omega);rw[aaH (λq=>q r)];have g: [AV.int .i64 (d.2.1:Nat),.int .i64 ((fg st.x.S st.c.aa st.c.c:Nat))]=ay (d.2.1,fg st.x.S st.c.aa st.c.c):=rfl;simp only[go_sem,simprocAttr,CJ,f,ha.box,ha.co.box,PL,↓PL,KL,↓KL,i,a,b,h,e,j.box,g,PS];exact eg.HU ha f (j.set (qF:={st with x:={st.x with P:=d.1},c:={st.c with run:=(d.2.1,fg st.x.S st.c.aa st.c.c)}}) rfl ha.aU) (o.m3.trans (j.fs _)) (.inl ⟨rfl,by simp,rfl⟩) (abX _)
   ·have e:decide (((d.2.2:Nat):Int)=0)=false:=abi (by omega);rw[aaR r];obtain⟨l,g1,t,si,W,ak,rfl,g2,A,z⟩:=aoq j k d.2.2 none;simp only[go_sem,simprocAttr,CJ,f,ha.box,ha.co.box,PL,↓PL,KL,↓KL,i,a,b,h,e,g1];exact eg.HU ha f g2 (o.m3.trans A) (z.elim (λq=>.inl ⟨q.1,by rw[q.2.1,ajB],q.2.2⟩) .inr) (abX _)
omit hD in
theorem aBg: ∃h,D XC (.fn (.func BL) [] []) [.ptr s 0] ⟨H,lo⟩=some h/\eg m p q s H lo (oW st).1 qv (.bool (oW st).2) h:=by
 have ho:Old s H (.box (dN st p rv) none):=⟨ha.box⟩;refine cE Nd λN e=>?_
 have j:=hx.c.run;have k:=hx.c.fh;unfold oW;by_cases g:st.c.run.2<=st.c.fh
 ·have a: ((st.c.fh:Nat):Int)>=st.c.run.2:=by omega
  rw[aaR g];simp(disch:=omega) only[F1,go_sem,simprocAttr,Nd,e,ha.box,PL,a];exact eg.same ha
 ·have a: ¬((st.c.fh:Nat):Int)>=st.c.run.2:=by omega
  rw[aaH g];have d: ∀lo,D XC (.fn (.func Ka) [] []) [.ptr q 0,.int .i64 ((st.c.run.1:Int)+st.c.fh)] ⟨H,lo⟩=_:=λlo=>c0 (aAS hx.x.P ha.co.ij lo (i:=st.c.run.1+st.c.fh) (by omega))
  have f:=ha.az (ha.co.HT (rX st.x.P (st.c.run.1+st.c.fh))) (ha.co.fq _);have l:=ha.co.fq (.box (cm (rX st.x.P (st.c.run.1+st.c.fh))) none);have b: ∀x,aH (dN {st with x:=x} p rv) 12 [.int .i64 ((st.c.fh:Int)+1)]=dN {st with x:=x,c:={st.c with fh:=st.c.fh+1}} p rv:=λ_=>rfl
  simp(disch:=omega) only[go_sem,simprocAttr,Nd,e,ha.box,ha.co.box,PL,KL,a,d,f.box,b,Y6];exact eg.HU ha e (f.set (qF:={st with x:={st.x with P:=rX st.x.P (st.c.run.1+st.c.fh)},c:={st.c with fh:=st.c.fh+1}}) rfl ha.aU) (l.m3.trans (f.fs _)) (.inl ⟨rfl,by simp,rfl⟩) (abX _)
end
theorem aor: ∀ (l:List aE) (b x k:Nat),(∀r∈l,r.1+r.2<=64)->ku l b x=some k->k<=2048+x
 | [],_,_,_,_,h=>by cases h
 |r::rs,b,x,k,a,h=>by
  rw[alG]at h;split at h
  ·grind
  ·exact aor rs _ x k (λz c=>a z (by grind)) h
def aos{s:bI}(d:bm s)(c:cz): (iU s c).1.length<=8/\ ∀k∈(iU s c).1,k<65536:=by
 unfold iU;split
 ·simp
 split
 ·simp
 split
 ·simp
 ·rename_i l j h;refine⟨by simp;omega,λk e=>?_⟩;obtain⟨i,g,rfl⟩:=ais.1 e;have f:=arH.1 g;have b:=d.T.get c.r;have a:=b.len;cases he:ku (aJ s.T c.r).1.runs 0 (c.a+i)with
  |none=>simp
  |some v=>
   have:=aor _ _ _ _ (λr hr=>(b.runs r hr).2) he;simp;omega
def aBh(v i:Nat)(a:i<8):k9 .shr (.int .u64 v) (.int .i64 (8*(i:Int)))=some (.int .u64 ((v/2^(8*i):Nat))):=by
 rw[EF,aaR (by omega)];have b:min (8*(i:Int)).toNat IntKind.u64.bits=8*i:=by
  have:IntKind.u64.bits=64:=rfl;omega
 grind
def aot(b i:Nat)(f:b<256)(e:i<8):k9 .shl (.int .u64 b) (.int .i64 (8*(i:Int)))=some (.int .u64 ((b*2^(8*i):Nat)))/\b*2^(8*i)<18446744073709551616:=by
 have a:b*2^(8*i)<18446744073709551616:=by
  rcases(show i=0\/i=1\/i=2\/i=3\/i=4\/i=5\/i=6\/i=7 by omega)with q|q|q|q|q|q|q|q<;>subst q<;>simp<;>omega
 refine⟨?_,a⟩;rw[Bj,aaR (by omega)];have d:min (8*(i:Int)).toNat IntKind.u64.bits=8*i:=by
  have:IntKind.u64.bits=64:=rfl;omega
 rw[d];have c: ((2:Int)^(8*i))=((2^(8*i):Nat):Int):=by rfl
 rw[c,<-Int.natCast_mul,wrap_u64 (by omega) (by omega)]
def aou(a b:Nat)(d:a<18446744073709551616)(c:b<18446744073709551616):dq .or (.int .u64 a) (.int .u64 b)=some (.int .u64 ((a|||b:Nat)))/\a|||b<18446744073709551616:=by
 have f:a|||b<2^64:=Nat.or_lt_two_pow d c;refine⟨?_,f⟩;rw[Jj];have e: ∀n:Nat,n<18446744073709551616->(BitVec.ofInt IntKind.u64.bits (n:Int)).toNat=n:=by
  have:IntKind.u64.bits=64:=rfl
  grind
 rw[BitVec.toNat_or,e a d,e b c,wrap_u64 (by omega) (by omega)]
def aBi(v i:Nat):IntKind.wrap .u8 ((v/2^(8*i):Nat):Int)=(byteOf v i:Nat):=anx _
def uI(P:cV)(pl:lN)(v k:Nat):cV:=(List.range k).foldl (λP i=>vX P (pl.getD i 0) (byteOf v i)) P
def aov(P:cV)(pl:lN)(v k:Nat):uI P pl v (k+1)=vX (uI P pl v k) (pl.getD k 0) (byteOf v k):=by
 unfold uI;rw[arI,apm];rfl
def qH(P:cV)(pl:lN)(v k:Nat):Nat:=(List.range k).foldl (λv i=>v|||ur P (pl.getD i 0)*2^(8*i)) v
def aow(P:cV)(pl:lN)(v k:Nat):qH P pl v (k+1)=qH P pl v k|||ur P (pl.getD k 0)*2^(8*k):=by
 unfold qH;rw[arI,apm];rfl
theorem Za{P:cV}(h:fR P)(pl:lN)(v:Nat): ∀k,fR (uI P pl v k)
 |0=>h
 |k+1=>by rw[aov];exact(Za h pl v k).write _ _ (als _ (by omega))
def aox{P:cV}(h:fR P)(i:Nat):ur P i<256:=by
 unfold ur;split
 ·exact h.bytes _ _
 ·omega
theorem Zb{P:cV}(h:fR P)(pl:lN)(v:Nat)(a:v<18446744073709551616): ∀k,k<=8->qH P pl v k<18446744073709551616
 |0,_=>a
 |k+1,b=>by
  rw[aow];exact(aou _ _ (Zb h pl v a k (by omega)) (aot _ _ (aox h _) (by omega)).2).2
def aoy{pl:lN}(d:Rv pv 1 (pl.map je))(v:pl.length<=8){f:Fn}{cs:lA}(m:AV)(F:Nat->List ae)(t: ∀k,(F k).length=(F 0).length)
  (p: ∀k,k<pl.length->D XC (.fn f [] cs) [.int .i64 (pl.getD k 0:Nat),.int .i64 k] ⟨F k,none⟩=some (.ret (.au []) ⟨F (k+1),none⟩)) (lo:oN):
  D XC (.fn (.func Kc) [] []) [m,pv,.fn f [] cs] ⟨F 0,lo⟩=some (.ret (.au []) ⟨F pl.length,lo⟩):=by
 refine aF UN λN r=>?_
 simp only[go_sem,simprocAttr,UN,d.bD];refine dB pl.length (λk e H'=>H'=F k/\e 2= .fn f [] cs/\e 8=pv/\e 9= .int .i64 pl.length/\e 10= .int .i64 k) 0 (by omega) ?_ ?_
 ·simp only[go_sem,simprocAttr]
 rintro k w e H' ⟨rfl,s,l,j,b⟩ n u;simp only[bO,F1,go_sem,simprocAttr,ai2,l,j,b];refine⟨λo=>?_,λo=>?_⟩
 ·have a:k<pl.length:=by omega
  have i: ∀y,(je y)[0]?=some (.int .i64 y):=λ_=>rfl
  have g:pl.getD k default=pl.getD k 0:=rfl;have h:=p k a;simp(disch:=omega) only[go_sem,simprocAttr,s,l,j,b,d.bX,d.cp,i,g,h];exact⟨by omega,a⟩
 ·obtain rfl:k=pl.length:=by omega
  have q: (F pl.length).length=N:=by rw[t,r]
  have c: (F pl.length).take N=F pl.length:=abk (by omega);simp only[go_sem,simprocAttr,c]
def aBj{m s:Nat}{st:bY}{W:List ae}(f:de m p q s st qv rv W)(k:fR st.x.P){n g:Nat}(t:W[n]?=some (.box [.ptr s 0] none))(r:W[g]?=some (.box (bg c) none))(at' i:Nat)(j:at'<65536)(h:i<8)(lo:oN):
  D XC (.fn (.func Kd) [] [.ptr n 0,.ptr g 0]) [.int .i64 at',.int .i64 i] ⟨W,lo⟩=some (.ret (.au []) ⟨W.set q (.box (cm (vX st.x.P at' (byteOf c.v i))) none),lo⟩):=by
 refine fb UO λN l=>?_
 have hw:=λlo=>c0 (aAW k f.co.ij lo (at':=at') (b:=byteOf c.v i) (by omega))
 have a: ∀o,(W.set q o).take N=W.set q o:=λo=>abk (by grind)
 have d:=aBh c.v i h;have e:=aBi c.v i;simp(disch:=omega) only[F1,go_sem,simprocAttr,UO,l,t,r,f.box,f.co.box,PL,KL,fY,d,e,hw,a]
def aBk{m s:Nat}{st:bY}{W:List ae}(e:de m p q s st qv rv W)(f:fR st.x.P){n:Nat}(h:r.v<18446744073709551616)(w:W[n]?=some (.box [.ptr s 0] none))(u:W[a]?=some (.box (bG r) none))(at' i:Nat)(l:at'<65536)(j:i<8)(lo:oN):
  D XC (.fn (.func Ke) [] [.ptr n 0,.ptr a 0]) [.int .i64 at',.int .i64 i] ⟨W,lo⟩=some (.ret (.au []) ⟨W.set a (.box (bG {r with v:=r.v|||ur st.x.P at'*2^(8*i)}) none),lo⟩):=by
 refine fb UP λN t=>?_
 have hw:=λlo=>c0 (aAV f e.co.ij lo (at':=at') (by omega))
 have b: ∀o,(W.set a o).take N=W.set a o:=λo=>abk (by grind)
 have k:=aox f at';obtain⟨s1,s2⟩:=aot (ur st.x.P at') i k j;obtain⟨g,x⟩:=aou r.v (ur st.x.P at'*2^(8*i)) h s2;have d: (bG r)[1]?=some (.int .u64 r.v):=rfl;have c: ∀n:Nat,aH (bG r) 1 [.int .u64 n]=bG {r with v:=n}:=λ_=>rfl
 simp(disch:=omega) only[F1,go_sem,simprocAttr,UP,t,w,u,e.box,e.co.box,PL,KL,hw,s1,g,d,c,b,uG]
def uJ:PC->PC|.seq a _=>a|x=>x
def uK:PC->PC|.seq _ b=>b|x=>x
def fE(Q:Prop)(B:Nat)(lo:oN):Prop:=(lo=none/\Q)\/ ∃j,j<=B/\lo=some j
theorem fE.no{B:Nat}(h:Q):fE Q B none:=.inl ⟨rfl,h⟩
def fE.step{e d:Prop}{B:Nat}{m l:List ae}{b a:oN}(h:fE e B b)(g:fZ d B m l b a)(f:e->d->Q):fE Q B a:=by
 rcases h with⟨rfl,h⟩| ⟨j,i,rfl⟩
 ·rcases g with⟨rfl,_,g⟩| ⟨k,c,rfl⟩
  ·exact .inl ⟨rfl,f h g⟩
  ·exact .inr ⟨k,c,rfl⟩
 ·rcases g with⟨rfl,_,_⟩| ⟨k,c,rfl⟩
  ·exact .inr ⟨j,i,rfl⟩
  ·exact .inr ⟨min k j,by omega,rfl⟩
def fZ.n{B:Nat}{H H':List ae}(h:fZ Q B H H' none lo):fE Q B lo:=(fE.no trivial).step h λ_ q=>q
def eg.aoz{m s N:Nat}{f st:bY}{a g:AV}{H W:List ae}{c:oN}(e:de m p q s f a g H)(l:H.length=N)(h:de m p q s st qv rv W)(i:Fq m [p,q,s] H W)(o:fE (qv=a) p c)(n:v.refs<=N):
  eg m p q s H lo st a v (.ret (finish N lo v ⟨W,c⟩).1 (finish N lo v ⟨W,c⟩).2):=by
 have x:=e.lt;have w:=e.ps;have u:=e.co.mp;have t: ∃d b,finish N lo v ⟨W,c⟩=(v,⟨d,b⟩)/\Fq m [p,q,s] H d/\fZ (qv=a) p H d lo b/\ (d=W\/ (d=W.take N/\qv=a)):=by
  rcases o with⟨rfl,k⟩| ⟨j,r,rfl⟩
  ·refine⟨W.take N,lo,ja (.inl rfl) n,i.take l (by omega),.inl ⟨rfl,?_,k⟩,.inr ⟨rfl,k⟩⟩;rw[ajM];have:=i.len;omega
  ·exact⟨W,cI lo j,wq (by omega),i,.inr ⟨j,r,rfl⟩,.inl rfl⟩
 obtain⟨d,b,f1,f2,f3,f4⟩:=t;rw[f1];exact⟨qv,rv,d,b,rfl,h.pa f4 id e l,f2,f3⟩
def m6(n:Nat):PC:=match n with
 |0=>oI.body
 |n+1=>uK (m6 n)
def jX(n:Nat):PC:=uJ (m6 n)
def Zc:PC:=m6 3
def Zd:PC:=m6 6
def Ze:PC:=m6 7
theorem aBl:oI.body= .seq (jX 0) (.seq (jX 1) (.seq (jX 2) Zc)):=rfl
theorem aBm:Zc= .seq (jX 3) (.seq (jX 4) (.seq (jX 5) Zd)):=rfl
theorem aBn:Zd= .seq (jX 6) Ze:=rfl
theorem aBo:Ze= .seq (jX 7) (.seq (jX 8) (.seq (jX 9) (m6 10))):=rfl
def eL(st:bY):bY:=if 0<st.c.run.2/\fg st.x.S st.c.aa st.c.c≠st.c.run.2 then{st with x:=c7 st.x st.c.run,c:={st.c with run:=(0,0)}}else st
structure CmS(m p q s N M:Nat)(H:List ae)(qv0 rv:AV)(st:bY)(c:cz)(nx:bI)(r:bF)(bv:AV)(e:Env)(W:List ae)(lo:oN):Prop where
 e1:e 1= .ptr N 0
 e3:e 3= .ptr (N+1) 0
 e6:e 6= .ptr M 0
 e7:e 7= .ptr (M+1) 0
 e8:e 8=bv
 st: ∃qv,de m p q s st qv rv W/\fE (qv=qv0) p lo
 w0:W[N]?=some (.box [.ptr s 0] none)
 w1:W[N+1]?=some (.box (bg c) none)
 w6:W[M]?=some (.box (bB nx) none)
 w7:W[M+1]?=some (.box (bG r) none)
 fr:Fq m [p,q,s] H W
 sN:s<N
 NM:N+2<=M
theorem DB: ∀ (l:List aE) (x:Core),(∀r∈l,r.2<=64)->(l.foldl c7 x).Q.length<=x.Q.length+64*l.length
 | [],_,_=>by simp
 |r::l,x,h=>by
  have:=DB l (c7 x r) (λz a=>h z (by grind));have b: (c7 x r).Q.length=x.Q.length+r.2:=by simp[c7,iX]
  grind
theorem Zf: ∀ (l:List aE) (x:Core),(l.foldl c7 x).S=x.S/\ (l.foldl c7 x).P=x.P/\ (l.foldl c7 x).M=x.M
 | [],_=>⟨rfl,rfl,rfl⟩
 |r::l,x=>Zf l (c7 x r)
theorem Zg: ∀ (l:List aE) (x:Core),(∀r∈l,r.1<=64/\r.2<=64)->(∀k∈x.Q,k<2147483648)-> ∀k∈(l.foldl c7 x).Q,k<2147483648
 | [],_,_,h=>h
 |r::l,x,h,c=>Zg l (c7 x r) (λz b=>h z (by grind)) λk a=>by
  rcases aha.1 a with a|a
  ·grind
  ·obtain⟨i,d,rfl⟩:=ais.1 a
   grind
def jW.aoB{x:Core}(a:jW x){l:List aE}(b: ∀r∈l,r.1<=64/\r.2<=64)(f:x.Q.length+64*l.length<8589934592):jW (l.foldl c7 x):=by
 obtain⟨e,d,c⟩:=Zf l x;exact⟨e ▸ a.S,d ▸ a.P,c ▸ a.M,Zg l x b a.Q,by have:=DB l x (λr hr=>(b r hr).2);omega⟩
def Zh{m s N:Nat}{H:List ae}{g T:AV}{R st:bY}{nx:bI}{bv:AV}{back:List aE}{e:Env}{W:List ae}(h0:de m p q s R g T H)(hN:H.length=N)
  (h:CmS m p q s N M H g rv st c nx r bv e W lo) (hb:Rv bv 2 (back.map ay)) (B:back.length<=4096/\ ∀r∈back,r.1<=64/\r.2<=64) (y:qG st) (Y:bm nx) (hQ:st.x.Q.length<4294967296) (F:oN):
  wp XC vk false Ze ⟨e,[]⟩ ⟨W,lo⟩ (dw XC N F [.t 2] (eg m p q s H F (rZ {st with x:=back.foldl c7 {st.x with S:=nx},c:={st.c with run:=(0,0)}} r) g (.bool true))):=by
 obtain⟨e1,e3,e6,e7,e8,⟨qv,d,f⟩,w0,w1,w6,w7,fr,sN,NM⟩:=h;have IP:=d.ps;have Zi:=d.co.qp;have hmp:=d.co.mp;have Q:=d.az (d.co.an2 nx) (d.co.fp _);have O:=Q.set (qF:={st with x:={st.x with S:=nx},c:={st.c with run:=(0,0)}}) rfl d.aU;have hF:=(d.co.fp (.box (cF {st.x with S:=nx} q qv) none)).m3.trans (Q.fs (.box (dN {st with x:={st.x with S:=nx},c:={st.c with run:=(0,0)}} p rv) none));have hw: ∀i o,i≠p->i≠s->W[i]?=some o->((W.set p (.box (cF {st.x with S:=nx} q qv) none)).set s (.box (dN {st with x:={st.x with S:=nx},c:={st.c with run:=(0,0)}} p rv) none))[i]?=some o:=λi o hi hi2 ho=>by
  rw[aaD (Ne.symm hi2),aaD (Ne.symm hi)];exact ho
 have G: [AV.int .i64 0,.int .i64 0]=ay (0,0):=rfl;have J: ∀r:aE,(ay r).length=2:=λ_=>rfl
 have I: ∀r:aE,aG (ay r)=0:=λ_=>rfl
 have hNp: (N !=p)=true:=by simp;omega
 rw[aBo];simp only[go_sem,simprocAttr,oI,jX,m6,uJ,uK,e1,e6,e8,w0,w6,d.box,d.co.box,Q.box,PL,G,PS,KS,oK,hb.bD,fe,J,I,OS,hNp];generalize hW1: (W.set p (.box (cF {st.x with S:=nx} q qv) none)).set s (.box (dN {st with x:={st.x with S:=nx},c:={st.c with run:=(0,0)}} p rv) none)=W1 at*;refine gX back.length (λk e P j=> ∃w,e 1= .ptr N 0/\e 7= .ptr (M+1) 0/\e 128=bv/\e 129= .int .i64 back.length/\e 130= .int .i64 k/\de m p q s {st with x:=(back.take k).foldl c7 {st.x with S:=nx},c:={st.c with run:=(0,0)}} w rv P/\fE (w=g) p j/\P[N]?=some (.box [.ptr s 0] none)/\P[M+1]?=some (.box (bG r) none)/\Fq m [p,q,s] H P) 0 (by omega) ?_ ?_
 ·refine⟨qv,?_⟩;simp only[go_sem,simprocAttr,e1,e7];exact⟨O,f,hw _ _ (by omega) (by omega) w0,hw _ _ (by omega) (by omega) w7,fr.trans hF⟩
 clear f Q O hF hw w0 w1 w6 w7 fr e1 e3 e6 e7 e8 d hW1;rintro k hk e P j ⟨w,e1,e7,v,u,t,d,f,w0,w7,fr⟩ n hn;have K:=λL=>bf (L:=L) w0
 have hbx:=λL=>bf (L:=L) d.box
 simp only[bO,go_sem,simprocAttr,ai0,e1,v,u,t];refine⟨λhh=>?_,λhh=>?_⟩
 ·have l:k<back.length:=by omega
  generalize A:back.getD k default=D at*;have A6:=B.2 D (by rw[<-A];exact eV l);have V:=DB (back.take k) {st.x with S:=nx} (λz hz=>(B.2 z (ajY hz)).2);have Ek: (back.take k).length<=k:=by simp;omega
  obtain⟨cr,g1,E,W3,U,rfl,g2,C,g4⟩:=Y5 (d.co.app [.box (ay D) none]) D ⟨by omega,by omega⟩ (by
   have: ({st.x with S:=nx}:Core).Q=st.x.Q:=rfl;rw[this]at V;show((back.take k).foldl c7 {st.x with S:=nx}).Q.length<_;omega) j
  simp(disch:=omega) only[go_sem,simprocAttr,e1,e7,v,u,t,hb.bX,hb.cp,A,hn,J,I,K,hbx,PL,g1];have hs:=(d.app [.box (ay D) none]).az g2 C;have Zj:N∉[p,q]:=by simp;omega
  have Z:M+1∉[p,q]:=by simp;omega
  have e0: (back.take (k+1)).foldl c7 {st.x with S:=nx}=c7 ((back.take k).foldl c7 {st.x with S:=nx}) D:=by
   rw[<-A,ajN,abe l,apm,aiu,abe l];rfl
  rw[e0];refine⟨by omega,l,E,hs,f.step g4 (λa b=>b.trans a),C.own Zj (K _),C.own Z (bf w7),?_⟩;exact fr.trans (C.m3.pre (by have:=d.lt;omega))
 ·obtain rfl:k=back.length:=by omega
  rw[aiv]at d;have X:qG {st with x:=back.foldl c7 {st.x with S:=nx},c:={st.c with run:=(0,0)}}:=
   ⟨jW.aoB (x:={st.x with S:=nx}) ⟨Y,y.x.P,y.x.M,y.x.Q,by show st.x.Q.length<_;omega⟩ B.2 (by show st.x.Q.length+_<_;omega),⟨y.c.aa,y.c.iH,y.c.aU,⟨by show 0<65536;omega,by show 0<65536;omega⟩,y.c.fh⟩⟩
  obtain⟨cr,g1,E,rv3,W3,U,rfl,g2,C,g4⟩:=Y9 d X r j;simp only[go_sem,simprocAttr,e7,w0,w7,yb,uG,g1];exact eg.aoz h0 hN g2 (fr.trans C) (f.step g4 λa b=>b.trans a) (abX _)
def de.other{m s:Nat}{st:bY}{W:List ae}(h:de m p q s st qv rv W){cs:lA}(a:W[i]?=some (.box cs tg))(d:i≠p)(c:i≠q)(b:i≠s)(o:ae):de m p q s st qv rv (W.set i o):=
 ⟨h.co.set a d c o,h.ps,(aaD b).trans h.box,h.aU⟩
def AE(P:cV)(c:cz)(pl:lN):cV:=if c.op=4 then uI P pl c.v pl.length else P
def AF(P:cV)(c:cz)(pl:lN)(v:Nat):Nat:=if c.op=3 then qH P pl v pl.length else v
def aBu{m s N:Nat}{H:List ae}{j F:AV}{E st:bY}{nx:bI}{bv:AV}{back:List aE}{pl:lN}{e:Env}{W:List ae}(T:de m p q s E j F H)(O:H.length=N)
  (h:CmS m p q s N M H j rv st c nx r bv e W lo) (Y:e 4=pv) (z:Rv pv 1 (pl.map je)) (A:pl.length<=8/\ ∀k∈pl,k<65536) (G:c.op=3->r.v<18446744073709551616) (K:Rv bv 2 (back.map ay)) (t:back.length<=4096/\ ∀r∈back,r.1<=64/\r.2<=64) (d:qG st) (l:bm nx) (L:st.x.Q.length<4294967296) (b:oN):
  wp XC vk false Zd ⟨e,[]⟩ ⟨W,lo⟩ (dw XC N b [.t 2] (eg m p q s H b (rZ {st with x:=back.foldl c7 {st.x with S:=nx,P:=AE st.x.P c pl},c:={st.c with run:=(0,0)}} {r with v:=AF st.x.P c pl r.v}) j (.bool true))):=by
 have h':=h;obtain⟨e1,e3,e6,e7,e8,⟨qv,a,n⟩,w0,w1,w6,w7,fr,sN,NM⟩:=h;have IP:=a.ps;have Z:=a.co.qp;have hmp:=a.co.mp;have B: ∀k,k<pl.length->pl.getD k 0<65536:=λk D=>by simp_all
 rw[aBn];by_cases X:c.op=4
 ·have w: (c.op:Int)=4:=by omega
  have u:W.set q (.box (cm (uI st.x.P pl c.v 0)) none)=W:=qz a.co.ij;have g:=λlo=>aoy z A.1 (f:=.func Kd) (cs:=[.ptr N 0,.ptr (N+1) 0]) (.ptr s 0) (λk=>W.set q (.box (cm (uI st.x.P pl c.v k)) none)) (λk=>by simp) (λk D=>by
   have Q:=a.az (a.co.HT (uI st.x.P pl c.v k)) (a.co.fq _);rw[aBj Q (Za d.x.P pl c.v k) ((aaD (by omega)).trans w0) ((aaD (by omega)).trans w1) _ k (B k D) (by omega)];show some (aS.ret _ ⟨_,_⟩)=_;rw[amC,aov]) lo
  simp only[u]at g;simp only[go_sem,simprocAttr,oI,jX,m6,uJ,uK,e1,e3,Y,w0,w1,fY,w,g];have U:AE st.x.P c pl=uI st.x.P pl c.v pl.length:=aaR X;have C:AF st.x.P c pl r.v=r.v:=aaH (by omega);rw[U,C];refine Zh (rv:=rv) (M:=M) (c:=c) (nx:=nx) (r:=r) (bv:=bv) (back:=back) (st:={st with x:={st.x with P:=uI st.x.P pl c.v pl.length}}) T O ?_ K t ⟨⟨d.x.S,Za d.x.P pl c.v _,d.x.M,d.x.Q,d.x.Ql⟩,d.c⟩ l L b;exact⟨e1,e3,e6,e7,e8,⟨qv,a.az (a.co.HT _) (a.co.fq _),n⟩,(aaD (by omega)).trans w0,(aaD (by omega)).trans w1,(aaD (by omega)).trans w6,(aaD (by omega)).trans w7,fr.trans (a.co.fq _).m3,sN,NM⟩
 ·have w: ¬(c.op:Int)=4:=by omega
  have U:AE st.x.P c pl=st.x.P:=aaH X;rw[U];by_cases R:c.op=3
  ·have y: (c.op:Int)=3:=by omega
   have u:W.set (M+1) (.box (bG {r with v:=qH st.x.P pl r.v 0}) none)=W:=qz w7;have g:=λlo=>aoy z A.1 (f:=.func Ke) (cs:=[.ptr N 0,.ptr (M+1) 0]) (.ptr s 0) (λk=>W.set (M+1) (.box (bG {r with v:=qH st.x.P pl r.v k}) none)) (λk=>by simp) (λk D=>by
    have Q:=a.other w7 (by omega) (by omega) (by omega) (.box (bG {r with v:=qH st.x.P pl r.v k}) none);rw[aBk Q d.x.P (r:={r with v:=qH st.x.P pl r.v k}) (Zb d.x.P pl r.v (G R) k (by omega)) ((aaD (by omega)).trans w0) (cx w7) _ k (B k D) (by omega)];show some (aS.ret _ ⟨_,_⟩)=_;rw[amC,aow]) lo
   simp only[u]at g;simp only[go_sem,simprocAttr,oI,jX,m6,uJ,uK,e1,e3,Y,e7,w0,w1,fY,y,g];have C:AF st.x.P c pl r.v=qH st.x.P pl r.v pl.length:=aaR R;rw[C];have J:Fq m [p,q,s] H (W.set (M+1) (.box (bG {r with v:=qH st.x.P pl r.v pl.length}) none)):=⟨by rw[ajB];exact fr.len,λi I=>by rw[aaD (by omega)];exact fr.low i I,λi o I ho V=>by
    have:=fi V;rw[aaD (by omega)];exact fr.box i o I ho V⟩
   refine Zh (rv:=rv) (M:=M) (c:=c) (nx:=nx) (bv:=bv) (back:=back) (r:={r with v:=qH st.x.P pl r.v pl.length}) T O ?_ K t d l L b;exact⟨e1,e3,e6,e7,e8,⟨qv,a.other w7 (by omega) (by omega) (by omega) _,n⟩,(aaD (by omega)).trans w0,(aaD (by omega)).trans w1,(aaD (by omega)).trans w6,cx w7,J,sN,NM⟩
  ·have y: ¬(c.op:Int)=3:=by omega
   have C:AF st.x.P c pl r.v=r.v:=aaH R;rw[C];simp only[go_sem,simprocAttr,oI,jX,m6,uJ,uK,e3,w1,fY,w,y];refine Zh (rv:=rv) (M:=M) (c:=c) (nx:=nx) (bv:=bv) (back:=back) (r:=r) T O ?_ K t d l L b;exact⟨e1,e3,e6,e7,e8,⟨qv,a,n⟩,w0,w1,w6,w7,fr,sN,NM⟩
structure sj(d:bI×bF×List aE)(c:cz):Prop where
 S:bm d.1
 len:d.2.2.length<=4096
 runs: ∀r∈d.2.2,r.1<=64/\r.2<=64
 v:c.op=3->d.2.1.v<18446744073709551616
 w:d.2.1.w<4294967296
 e:d.2.1.e<4294967296
def O4(st:bY):bY:=
 let d:=dR st.x.S st.c.aa st.c.c st.c.run
 if d.2.1.e≠0 then rZ st d.2.1
 else rZ {st with x:=d.2.2.foldl c7 {st.x with S:=d.1,P:=AE st.x.P st.c.c (iU st.x.S st.c.c).1},c:={st.c with run:=(0,0)}} {d.2.1 with v:=AF st.x.P st.c.c (iU st.x.S st.c.c).1 d.2.1.v}
theorem aoD(s:bY):Af s=O4 (eL s):=by rfl
def Zk{m s N:Nat}{H:List ae}{h z:AV}{y st:bY}{e:Env}{W:List ae}(Y: ∀op,mo op)(F:de m p q s y h z H)(E:H.length=N)
  (I:e 1= .ptr N 0) (G:e 3= .ptr (N+1) 0) (f:de m p q s st qv rv W) (k:fE (qv=h) p lo) (x:W[N]?=some (.box [.ptr s 0] none)) (t:W[N+1]?=some (.box (bg st.c.c) none)) (J:Fq m [p,q,s] H W)
  (g:qG st) (v:sj (dR st.x.S st.c.aa st.c.c st.c.run) st.c.c) (X:st.x.Q.length<4294967296) (i:oN):
  wp XC vk false Zc ⟨e,[]⟩ ⟨W,lo⟩ (dw XC N i [.t 2] (eg m p q s H i (O4 st) h (.bool true))):=by
 have T:=f.ps;have S:=f.co.qp;have U:=f.co.mp;have sN:s<N:=by rw[<-E];exact F.lt
 have R:=g.c.run;obtain⟨pv,u,P⟩:=aAl st.x.S g.x.S st.c.c g.c.iH W lo;have u:=cB u;obtain⟨bv,d1,d2⟩:=YS st.x.S g.x.S st.c.aa g.c.aa st.c.c g.c.iH st.c.run ⟨by omega,by omega⟩ (Y _) (W++[.box pV none,.box [.int .i64 0,.int .u64 0,.int .u32 0] none]) lo;have d1:=cB d1;have C:=aos g.x.S st.c.c;unfold O4;dsimp only;generalize V:dR st.x.S st.c.aa st.c.c st.c.run=d at*;obtain⟨M,w⟩: ∃M,W.length=M:=⟨_,rfl⟩;have D:N+2<=M:=by have:=fi t;omega
 have B:=λL=>bf (L:=L) x
 have o:=λL=>bf (L:=L) f.box
 have A:=λL=>bf (L:=L) t
 have n:=λL=>bf (L:=L) f.co.box
 have l: (bG d.2.1)[0]?=some (.int .i64 d.2.1.e):=rfl;rw[aBm];by_cases he:d.2.1.e=0
 ·have j: ((d.2.1.e:Nat):Int)=0:=by omega
  rw[aaH (λq=>q he)];simp only[go_sem,simprocAttr,oI,jX,m6,uJ,uK,I,G,x,t,w,f.box,f.co.box,B,A,o,n,PL,↓PL,KL,↓KL,DZ,u,d1,l,j,oK,sh];refine aBu (rv:=rv) (M:=M) (c:=st.c.c) (nx:=d.1) (r:=d.2.1) (bv:=bv) (pv:=pv) (pl:=(iU st.x.S st.c.c).1) (back:=d.2.2) F E ?_ rfl P C v.v d2 ⟨v.len,v.runs⟩ g v.S X i;exact⟨I,G,rfl,rfl,rfl,⟨qv,f.app _,k⟩,B _,A _,by rw[dn w];rfl,by rw[bw w];rfl,J.trans (Fq.app _ (by omega)),sN,D⟩
 ·have j: ¬((d.2.1.e:Nat):Int)=0:=by omega
  rw[aaR he];obtain⟨cr,g1,O,K,W2,Q,rfl,g2,g3,Z⟩:=Y9 (f.app [.box (bB d.1) none,.box (bG d.2.1) none]) g d.2.1 lo;simp only[go_sem,simprocAttr,oI,jX,m6,uJ,uK,I,G,x,t,w,f.box,f.co.box,B,A,o,n,PL,↓PL,KL,↓KL,DZ,u,d1,l,j,oK,sh,g1];exact eg.aoz F E g2 (J.trans (g3.pre (by omega))) (k.step Z λa b=>b.trans a) (abX _)
theorem Zl:aG (bg c)=0:=rfl
def aBv{m s:Nat}{H:List ae}{st:bY}(t: ∀op,mo op)(a:de m p q s st qv rv H)(b:qG st)(h:sj (dR (eL st).x.S (eL st).c.aa (eL st).c.c (eL st).c.run) st.c.c)(U:st.x.Q.length<2147483648)(lo:oN):
  ∃B,D XC (.fn (.func vk) [] []) [.ptr s 0] ⟨H,lo⟩=some B/\eg m p q s H lo (Af st) qv (.bool true) B:=by
 have ho:Old s H (.box (dN st p rv) none):=⟨a.box⟩;refine cE oI λN d=>?_
 have sN:s<N:=by rw[<-d];exact a.lt
 have Q:=a.ps;have O:=a.co.qp;have R:=a.co.mp;rw[aoD,aBl];have M:=b.c.run;have F:=λH lo=>cB (YT st.x.S b.x.S st.c.aa b.c.aa st.c.c b.c.iH (t _) H lo)
 have E: (H++[.box [.ptr s 0] none,.box (bg st.c.c) none])[N]?=some (.box [.ptr s 0] none):=by rw[dn d];rfl
 have C: (H++[.box [.ptr s 0] none,.box (bg st.c.c) none])[N+1]?=some (.box (bg st.c.c) none):=by rw[bw d];rfl
 have f:=λL=>bf (L:=L) a.box
 have n:=λL=>bf (L:=L) a.co.box
 by_cases I:0<st.c.run.2
 ·have e: ((st.c.run.2:Nat):Int)>0:=by omega
  by_cases G:fg st.x.S st.c.aa st.c.c=st.c.run.2
  ·have g:decide (((fg st.x.S st.c.aa st.c.c:Nat):Int)=st.c.run.2)=true:=abj (by omega);have o:eL st=st:=aaH (λq=>q.2 G);rw[o]at h⊢;simp only[go_sem,simprocAttr,oI,jX,m6,uJ,uK,d,f,n,PL,↓PL,KL,↓KL,HM,OT,Zl,HQ,e,F,g];exact Zk t a d rfl rfl (a.app _) (fE.no rfl) E C (Fq.app _ (by omega)) b h (by omega) lo
  ·have g:decide (((fg st.x.S st.c.aa st.c.c:Nat):Int)=st.c.run.2)=false:=abi (by omega);have o:eL st={st with x:=c7 st.x st.c.run,c:={st.c with run:=(0,0)}}:=aaR ⟨I,G⟩;rw[o]at h⊢;obtain⟨B,g1,J,V,K,rfl,g2,u,T⟩:=Y5 (a.co.app [.box [.ptr s 0] none,.box (bg st.c.c) none]) st.c.run ⟨by omega,by omega⟩ (by omega) none;have hs:=(a.app [.box [.ptr s 0] none,.box (bg st.c.c) none]).az g2 u;have A:N∉[p,q]:=by simp;omega
   have z:N+1∉[p,q]:=by simp;omega
   have v0:=u.own A E;have v1:=u.own z C;have j: [AV.int .i64 0,.int .i64 0]=ay (0,0):=rfl;have w: ∀r:aE,(ay r).length=2:=λ_=>rfl
   have v: ∀r:aE,aG (ay r)=0:=λ_=>rfl
   simp only[go_sem,simprocAttr,oI,jX,m6,uJ,uK,d,f,n,PL,↓PL,KL,↓KL,HM,OT,Zl,HQ,e,F,g,g1,v0,hs.box,j,w,v,PS];have P: (c7 st.x st.c.run).Q.length=st.x.Q.length+st.c.run.2:=by simp[c7,iX]
   have y:qG {st with x:=c7 st.x st.c.run,c:={st.c with run:=(0,0)}}:=⟨⟨b.x.S,b.x.P,b.x.M,λk l=>by
    rcases aha.1 l with l|l
    ·exact b.x.Q k l
    ·obtain⟨i,S,rfl⟩:=ais.1 l;have:=arH.1 S;show st.c.run.1+i<_;omega,by show(c7 st.x st.c.run).Q.length<_;omega⟩,⟨b.c.aa,b.c.iH,b.c.aU,⟨by show 0<65536;omega,by show 0<65536;omega⟩,b.c.fh⟩⟩
   refine Zk (st:={st with x:=c7 st.x st.c.run,c:={st.c with run:=(0,0)}}) t a d ?_ ?_ (hs.set rfl a.aU) T.n ?_ ?_ ?_ y h (by show(c7 st.x st.c.run).Q.length<_;omega) lo
   ·exact rfl
   ·exact rfl
   ·exact(aaD (by omega)).trans v0
   ·exact(aaD (by omega)).trans v1
   ·exact((Fq.app _ (by omega)).trans u.m3).trans (hs.fs _)
 ·have e: ¬((st.c.run.2:Nat):Int)>0:=by omega
  have o:eL st=st:=aaH (λq=>I q.1);rw[o]at h⊢;simp only[go_sem,simprocAttr,oI,jX,m6,uJ,uK,d,f,PL,↓PL,HM,Zl,HQ,e];exact Zk t a d rfl rfl (a.app _) (fE.no rfl) E C (Fq.app _ (by omega)) b h (by omega) lo
def eh:Nat->bY->bY×Bool
 |0=>oT|1=>oU|2=>oV|3=>oW|_=>λs=>(Af s,true)
def aoE:Nat->FuncId
 |0=>BI|1=>BJ|2=>BK|3=>BL|_=>vk
def aoF{s:bY}(h: (oT s).2=false): (oT s).1=s:=by
 unfold oT at*;grind
def aoG{s:bY}(h: (oU s).2=false): (oU s).1=s:=by
 unfold oU at*;grind
def aoH{s:bY}(h: (oV s).2=false): (oV s).1=s:=by
 unfold oV at*;grind
def aoI{s:bY}(h: (oW s).2=false): (oW s).1=s:=by
 unfold oW at*;grind
def aBw{s:bY}(h: (eh k s).2=false): (eh k s).1=s:=by
 rcases(show k=0\/k=1\/k=2\/k=3\/4<=k by omega)with q|q|q|q|q
 ·subst q;exact aoF h
 ·subst q;exact aoG h
 ·subst q;exact aoH h
 ·subst q;exact aoI h
 ·obtain⟨j,rfl⟩: ∃j,k=j+4:=⟨k-4,by omega⟩;cases h
def m7(s:bY)(k:Nat):bY:=if(eh k s).2 then(eh k s).1 else match k with
 |0=>if(eh 1 s).2 then(eh 1 s).1 else if(eh 2 s).2 then(eh 2 s).1 else if(eh 3 s).2 then(eh 3 s).1 else(eh 4 s).1
 |1=>if(eh 2 s).2 then(eh 2 s).1 else if(eh 3 s).2 then(eh 3 s).1 else(eh 4 s).1
 |2=>if(eh 3 s).2 then(eh 3 s).1 else(eh 4 s).1
 |_=>(eh 4 s).1
def DC{s:bY}(h: (eh k s).2=true):m7 s k=(eh k s).1:=by unfold m7;grind
def HV{s:bY}(b:k<4)(h: (eh k s).2=false):m7 s k=m7 s (k+1):=by
 have a: ¬(eh k s).2=true:=by grind
 rcases(show k=0\/k=1\/k=2\/k=3 by omega)with q|q|q|q<;>subst q
 ·exact(aaH a: (if(eh 0 s).2=true then(eh 0 s).1 else m7 s 1)=m7 s 1)
 ·exact(aaH a: (if(eh 1 s).2=true then(eh 1 s).1 else m7 s 2)=m7 s 2)
 ·exact(aaH a: (if(eh 2 s).2=true then(eh 2 s).1 else m7 s 3)=m7 s 3)
 ·exact(aaH a: (if(eh 3 s).2=true then(eh 3 s).1 else m7 s 4)=m7 s 4)
def aBx(x:Core)(c:Call):gA x c=m7 ⟨x,c,b8,false⟩ 0:=by
 unfold gA;dsimp only;generalize(⟨x,c,b8,false⟩:bY)=s;cases e: (oT s).2 with
 |true=>rw[aaR rfl,DC (k:=0) e];rfl
 |false=>
  rw[aaH (by simp),aoF e,HV (k:=0) (by omega) e];cases d: (oU s).2 with
  |true=>rw[aaR rfl,DC (k:=1) d];rfl
  |false=>
   rw[aaH (by simp),aoG d,HV (k:=1) (by omega) d];cases b: (oV s).2 with
   |true=>rw[aaR rfl,DC (k:=2) b];rfl
   |false=>
    rw[aaH (by simp),aoH b,HV (k:=2) (by omega) b];cases a: (oW s).2 with
    |true=>rw[aaR rfl,DC (k:=3) a];rfl
    |false=>rw[aaH (by simp),aoI a,HV (k:=3) (by omega) a,DC (k:=4) rfl];rfl
def aBy{m s:Nat}{H:List ae}{st:bY}(c: ∀op,mo op)(b:de m p q s st qv rv H)(a:qG st)(e:sj (dR (eL st).x.S (eL st).c.aa (eL st).c.c (eL st).c.run) st.c.c)(f:st.x.Q.length<2147483648)(k:Nat)(lo:oN):
  ∃d,D XC (.fn (.func (aoE k)) [] []) [.ptr s 0] ⟨H,lo⟩=some d/\eg m p q s H lo (eh k st).1 qv (.bool (eh k st).2) d:=by
 rcases(show k=0\/k=1\/k=2\/k=3\/4<=k by omega)with h|h|h|h|h
 ·subst h;exact aBd c b a lo
 ·subst h;exact aBe b a lo
 ·subst h;exact aBf c b a lo
 ·subst h;exact aBg b a lo
 ·obtain⟨j,rfl⟩: ∃j,k=j+4:=⟨k-4,by omega⟩;exact aBv c b a e f lo
def aBz{X:Ctx}{f:FuncId}{fs args:lA}{E:AS}{r:aS}(h:D X (.fn (.func f) [] []) (fs++args) E=some r):D X (.fn (.func f) fs []) args E=some r:=by
 obtain⟨n,a⟩:=y7 h;cases n with
 |zero=>cases a
 |succ n=>exact QF (n:=n+1) _ _ _ _ a
def O5(m p q:Nat)(H:List ae)(lo:oN)(st:bY)(qv:AV)(b:aS):Prop:=
 ∃a si H' ak,b= .ret (.au [.agg (bN st.c si),.agg (bG st.r),.bool st.ended]) ⟨H',ak⟩/\dG m p q st.x a H'/\Rv si 1 (st.c.aU.map hC)/\Fq m [p,q] H H'/\fZ (a=qv) p H H' lo ak
def wy:lA:=[.int .i64 0,.int .u8 0,.int .u32 0,.int .u32 0,.int .u32 0,.int .u32 0,.int .u64 0,.bool false,.ai,.int .i64 0,.int .i64 0,.int .i64 0]
def nW:lA:=[.int .i64 0,.int .u64 0,.int .u32 0]
def Fq.cut{m:Nat}{S T:lN}{H B W:List ae}(h:Fq m S (H++B) W)(d: ∀i∈S,i∈T\/H.length<=i)(c:m<=H.length):Fq m T H W:=⟨by have:=h.len;grind,λi a=>by rw[h.low i a,List.getElem?_append_left (by omega)],λi o a ho b=>by
 exact h.box i o (λq=>by grind) ho (bf b)⟩
def Fq.out{m:Nat}{T:lN}{H W:List ae}(h:Fq m T H W)(e:H.length<=i)(c:m<=H.length)(o:ae):Fq m T H (W.set i o):=⟨by rw[ajB];exact h.len,λj a=>by rw[aaD (by omega)];exact h.low j a,λj o a ho b=>by
 have d:=fi b;rw[aaD (by omega)];exact h.box j o a ho b⟩
def O5.fin{m N:Nat}{H W:List ae}{b:oN}{a:AV}{i:Core}{st:bY}(e:dG m p q i a H)(g:H.length=N)(h:dG m p q st.x qv W)(c:Rv rv 1 (st.c.aU.map hC))(d:Fq m [p,q] H W)(l:fE (qv=a) p b):
  O5 m p q H lo st a (.ret (finish N lo (.au [.agg (bN st.c rv),.agg (bG st.r),.bool st.ended]) ⟨W,b⟩).1 (finish N lo (.au [.agg (bN st.c rv),.agg (bG st.r),.bool st.ended]) ⟨W,b⟩).2):=by
 have s:=e.lt;have r:=e.mp;have k: (AV.au [.agg (bN st.c rv),.agg (bG st.r),.bool st.ended]).refs<=N:=by
  have:=Y8 st.c (cJ c (bz (λ_=>rfl) _));have o:= @sh st.r;simp[AV.refs,aG,this,o]
 rcases l with⟨rfl,f⟩| ⟨j,n,rfl⟩
 ·rw[ja (.inl rfl) k];refine⟨qv,rv,_,lo,rfl,h.pa (Q:=qv=a) (.inr ⟨rfl,f⟩) id e g,c,d.take g (by omega),.inl ⟨rfl,?_,f⟩⟩;rw[ajM];have:=d.len;omega
 ·rw[wq (by omega)];exact⟨qv,rv,W,cI lo j,rfl,h,c,d,.inr ⟨j,n,rfl⟩⟩
def aBA{m:Nat}{H:List ae}{x:Core}{c:Call}(hD: ∀op,mo op)(J:dG m p q x qv H)(hx:jW x)(hc:fP c)(hr:Rv rv 1 (c.aU.map hC))
  (F:sj (dR (eL ⟨x,c,b8,false⟩).x.S (eL ⟨x,c,b8,false⟩).c.aa (eL ⟨x,c,b8,false⟩).c.c (eL ⟨x,c,b8,false⟩).c.run) c.c) (hQ:x.Q.length<2147483648) (lo:oN):
  ∃Y,D XC (.fn (.func Sl) [] []) [.ptr p 0,.agg (bN c rv)] ⟨H,lo⟩=some Y/\O5 m p q H lo (gA x c) qv Y:=by
 refine cE Uv λN l=>?_
 have o7:p<N:=by rw[<-l];exact J.lt
 have Zi:=J.qp;have hmp:=J.mp;obtain⟨st,d⟩: ∃st:bY,st=⟨x,c,b8,false⟩:=⟨_,rfl⟩;have G: ∀ (c:Call) rv,List.take 12 (bN c rv)=bN c rv:=λ_ _=>rfl
 have v: ∀rv,AV.ptr p 0:: (bN c rv++[.int .i64 0,.int .u64 0,.int .u32 0,.bool false])=dN st p rv:=λrv=>by rw[d];rfl
 have hrz:=cJ hr (bz (λ_=>rfl) _);obtain⟨B,hB⟩: ∃B:List ae,B=[.box (bN c rv) none,.box wy none,.box nW none,.box (dN st p rv) none]:=⟨_,rfl⟩;have hB4: (H++B).length=N+4:=by rw[hB];simp[l]
 have w:de m p q (N+3) st qv rv (H++B):=by
  rw[d];exact⟨J.app B,by omega,by rw[hB,bw l,d];rfl,hr⟩
 have U:qG st:=by rw[d];exact⟨hx,hc⟩
 rw[aBx,<-d];rw[<-d]at F;have F:sj (dR (eL st).x.S (eL st).c.aa (eL st).c.c (eL st).c.run) st.c.c:=by rw[d]at F⊢;exact F
 have I: ∀ (c:Call) rv,(bN c rv).length=12:=λ_ _=>rfl
 have ala:min 12 12=12:=rfl;have C: ∀k,k<5->qP false 5 1 (.agg [.fn (.func BI) [.ptr (N+3) 0] [],.fn (.func BJ) [.ptr (N+3) 0] [],.fn (.func BK) [.ptr (N+3) 0] [],.fn (.func BL) [.ptr (N+3) 0] [],.fn (.func vk) [.ptr (N+3) 0] []]) (.int .i64 (k:Nat))=some (.fn (.func (aoE k)) [.ptr (N+3) 0] []):=by
  intro k hk;rcases(show k=0\/k=1\/k=2\/k=3\/k=4 by omega)with h|h|h|h|h<;>subst h<;>rfl
 generalize X:AV.agg [.fn (.func BI) [.ptr (N+3) 0] [],.fn (.func BJ) [.ptr (N+3) 0] [],.fn (.func BK) [.ptr (N+3) 0] [],.fn (.func BL) [.ptr (N+3) 0] [],.fn (.func vk) [.ptr (N+3) 0] []]=Z at C;simp only[go_sem,simprocAttr,Uv,l,I,G,v,X];refine gX 5 (λk e W j=> ∃g s,e 4= .ptr (N+1) 0/\e 5= .ptr (N+2) 0/\e 7= .ptr (N+3) 0/\e 24=Z/\e 25= .int .i64 k/\k<=4/\de m p q (N+3) st g s W/\fE (g=qv) p j/\Fq m [p,q,N+3] (H++B) W/\m7 st 0=m7 st k) 0 (by omega) ?_ ?_
 ·refine⟨qv,rv,?_⟩;simp only[go_sem,simprocAttr];rw[hB]at w⊢;exact⟨w,fE.no trivial,Fq.refl⟩
 rintro k hk e W j ⟨g,s,e4,e5,e7,L,K,hk4,hs,y,hf,A⟩ n hn;have E:=C k (by omega);obtain⟨Y,g1,Q,P,M,Dd,rfl,g2,g3,g4⟩:=aBy hD hs U F (by rw[d];exact hQ) k j;have g1:=aBz (fs:=[.ptr (N+3) 0]) (args:=[]) g1;simp only[bO,go_sem,simprocAttr,aiW,e7,L,K];refine⟨λ_=>?_,λhh=>absurd (show((k:Nat):Int)<5 by omega) hh⟩;have f:=hf.trans g3;cases r: (eh k st).2 with
 |true=>
  rw[r]at g1;have v1:M[N+1]?=some (.box wy none):=f.own (by simp;omega) (by rw[hB,bw l];rfl);have v2:M[N+2]?=some (.box nW none):=f.own (by simp;omega) (by rw[hB,bw l];rfl);have O: ∀o,(M.set (N+1) o)[N+2]?=some (.box nW none):=λo=>(aaD (by omega)).trans v2
  have s1:=λo=>cx (o:=o) v1
  have s2:=λo o'=>cx (o:=o') (O o)
  have s3: ∀o o':ae,((M.set (N+1) o).set (N+2) o')[N+1]?=some o:=λo o'=>(aaD (by omega)).trans (s1 o)
  have S:wy.length=12:=rfl;have R:nW.length=3:=rfl;have u:List.drop 12 wy=[]:=rfl;have t:List.drop 3 nW=[]:=rfl;have V:=Y8 (eh k st).1.c g2.rz;simp only[go_sem,simprocAttr,E,e4,e5,e7,g1,g2.box,v1,O,s2,s3,PL,↓PL,S,R,u,t,I,G,yb,uG,sh,V,As];refine⟨by simp,by simp,?_⟩;rw[A,DC r];have hq3:q<N:=by omega
  refine O5.fin J l ((g2.co.set v1 (by omega) (by omega) _).set (O _) (by omega) (by omega) _) g2.aU ?_ (y.step g4 λa b=>b.trans a);exact((f.cut (T:=[p,q]) (by intro i hi;simp at hi⊢;omega) (by omega)).out (by omega) (by omega) _).out (by omega) (by omega) _
 |false=>
  rw[r]at g1;have he:=aBw r;rw[he]at g2;have z:k<4:=by
   rcases(show k<4\/k=4 by omega)with q|q
   ·exact q
   ·subst q;cases r
  simp(disch:=omega) only[go_sem,simprocAttr,E,e4,e5,e7,L,K,g1];exact⟨Q,P,by omega,g2,y.step g4 (λa b=>b.trans a),f,by rw[A,HV z r]⟩
def da(x:dO):lA:=[.int .u8 x.op,.int .u8 x.a,.int .u8 x.b,.int .u8 x.c,.int .u16 x.n]
def db(t:Task)(cv:AV):lA:=[cv,.int .i64 t.next]++arr 8 λi=>[.int .u64 (t.aU i)]
structure HW(x:dO):Prop where
 op:x.op<39
 a:x.a<8
 b:x.b<8
 c:x.c<8
 n:x.n<65536
 j:x.op=5\/x.op=6->x.n<=64
structure lK(t:Task):Prop where
 len:t.code.length<=64
 ins: ∀x∈t.code,HW x
 next:t.next<=64
 aU: ∀i,t.aU i<18446744073709551616
section
variable{t:Task}{cv:AV}
theorem yf: (db t cv).length=10:=rfl
def HX(h:cv.refs=0):aG (db t cv)=0:=by
 unfold db;rw[Hf,NX (λ_=>rfl)];simp[aG,AV.refs,h]
theorem aoJ: (db t cv)[0]?=some cv:=rfl
theorem aoK: (db t cv)[1]?=some (.int .i64 t.next):=rfl
theorem aoL: (db t cv)[7]?=some (.int .u64 (t.aU 5)):=rfl
theorem aoM: (db t cv)[8]?=some (.int .u64 (t.aU 6)):=rfl
theorem aoN:List.take 10 (db t cv)=db t cv:=rfl
def Zm(h:i<8): (db t cv)[2+i]?=some (.int .u64 (t.aU i)):=by
 rcases(show i=0\/i=1\/i=2\/i=3\/i=4\/i=5\/i=6\/i=7 by omega)with q|q|q|q|q|q|q|q<;>subst q<;>rfl
theorem aoO{n:Nat}:aH (db t cv) 1 [.int .i64 n]=db {t with next:=n} cv:=rfl
def HY{v:Nat}(h:i<8):aH (db t cv) (2+i) [.int .u64 v]=db {t with aU:=aq t.aU i v} cv:=by
 rcases(show i=0\/i=1\/i=2\/i=3\/i=4\/i=5\/i=6\/i=7 by omega)with q|q|q|q|q|q|q|q<;>subst q<;>rfl
def TK:=gG @aoJ<|gG @aoK<|gG @aoL<|gG @aoM<|gG @aoN<|gG @aoO @yf
end
theorem aoP(x:dO): (da x).length=5:=rfl
theorem aoQ(x:dO):aG (da x)=0:=rfl
theorem aoR(x:dO): (da x)[0]?=some (.int .u8 x.op):=rfl
theorem aoS(x:dO): (da x)[1]?=some (.int .u8 x.a):=rfl
theorem aoT(x:dO): (da x)[2]?=some (.int .u8 x.b):=rfl
theorem aoU(x:dO): (da x)[3]?=some (.int .u8 x.c):=rfl
theorem aoV(x:dO): (da x)[4]?=some (.int .u16 x.n):=rfl
theorem aoW(x:dO):List.take 5 (da x)=da x:=rfl
theorem aoX(x:dO):List.drop 5 (da x)=[]:=rfl
def IL:type_of% @aoP/\type_of% @aoQ/\type_of% @aoR/\type_of% @aoS/\type_of% @aoT/\type_of% @aoU/\type_of% @aoV/\type_of% @aoW/\type_of% @aoX:=⟨aoP,aoQ,aoR,aoS,aoT,aoU,aoV,aoW,aoX⟩
def DD:dO:=⟨0,0,0,0,0⟩
def HZ(t:Task):AV:=.au [.agg (da ((r7 t).getD DD)),.bool (r7 t).isSome]
section
variable{t:Task}{cv:AV}(hv:Rv cv 5 (t.code.map da))(jx:lK t)(H:List ae)(lo:oN)
include hv jx
theorem Zn:D X0 (.fn (.func E2) [] []) [.agg (db t cv)] ⟨H,lo⟩=some (.ret (HZ t) ⟨H,lo⟩):=by
 refine aF M9 λN d=>?_
 have h:=jx.next;have i:=jx.len;have f: ¬((t.next:Nat):Int)<0:=by omega
 have a:=λE=>hv.bD (E:=E)
 have c: [AV.int .u8 0,.int .u8 0,.int .u8 0,.int .u8 0,.int .u16 0]=da DD:=rfl;unfold HZ r7;by_cases j:t.next<t.code.length
 ·have b: ¬((t.next:Nat):Int)>=t.code.length:=by omega
  have e:t.code[t.next]?=some (t.code.getD t.next default):=by grind
  rw[e];have g: (0:Int)<=t.next/\ (t.next:Int)<t.code.length:=by omega
  simp(disch:=omega) only[F1,go_sem,simprocAttr,M9,d,TK,f,a,b,hv.bX,hv.cp,g,IL,pO]
 ·have b: ((t.next:Nat):Int)>=t.code.length:=by omega
  have e:t.code[t.next]?=none:=ana (by omega);rw[e];simp only[F1,go_sem,simprocAttr,M9,d,TK,f,a,b,c,IL,pO]
omit hv jx in
theorem AG(i:Nat)(a:i<8):D X0 (.fn (.func vi) [] []) [.agg (db t cv),.int .u8 i] ⟨H,lo⟩=some (.ret (.int .u64 (t.aU i)) ⟨H,lo⟩):=by
 refine aF Uu λN c=>?_
 have hm: ((i:Nat):Int).tmod 8=i:=by rw[aqx (by omega)];omega
 have b: (0:Int)<=i/\ (i:Int)<8:=by omega
 simp(disch:=omega) only[F1,go_sem,simprocAttr,Uu,c,hm,b,Zm a]
omit hv in
theorem H4{x:dO}(a:r7 t=some x):HW x:=by
 unfold r7 at a;exact jx.ins x (aoA a)
theorem Zo:D X0 (.fn (.func EW) [] []) [.agg (db t cv)] ⟨H,lo⟩=some (.ret (.au [.agg (bg (iB t).1),.bool (iB t).2]) ⟨H,lo⟩):=by
 refine aF CF λN f=>?_
 have b:=λH lo=>Zn hv jx H lo
 have m: [AV.int .u8 0,.int .u32 0,.int .u32 0,.int .u32 0,.int .u32 0,.int .u64 0]=bg nJ:=rfl;have l: [AV.int .u8 20,.int .u32 0,.int .u32 0,.int .u32 0,.int .u32 0,.int .u64 0]=bg {nJ with op:=20}:=rfl;have a: [AV.int .u8 0,.int .u8 0,.int .u8 0,.int .u8 0,.int .u16 0]=da DD:=rfl;have s: ∀c,List.take 6 (bg c)=bg c:=λ_=>rfl
 have u: ∀c,List.drop 6 (bg c)=[]:=λ_=>rfl
 unfold HZ at b;unfold iB;cases h:r7 t with
 |none=>
  rw[h]at b;simp only[axH,auW]at b;simp only[F1,go_sem,simprocAttr,CF,f,TK,b,IL,a,pO];rfl
 |some x=>
  rw[h]at b;simp only[alr,auS]at b;have ho:=H4 jx h;have o:=ho.op;have hr:=jx.aU;by_cases j:x.op=0
  ·have d: (x.op:Int)=0:=by omega
   simp only[aaR j];simp only[F1,go_sem,simprocAttr,CF,f,TK,b,IL,a,d,pO];rfl
  ·have d:decide ((x.op:Int)=0)=false:=abi (by omega);by_cases k:x.op<=16
   ·have e: (x.op:Int)<=16:=by omega
    simp only[aaH j,aaR k];simp only[F1,go_sem,simprocAttr,CF,f,TK,b,IL,a,d,e,pO];rfl
   ·have e: ¬(x.op:Int)<=16:=by omega
    have q:x.b % 8=x.b:=ap9 ho.b;have p:x.c % 8=x.c:=ap9 ho.c;have hs: (x.op:Int)-16=((x.op-16:Nat):Int):=by omega
    have g: ∀n:Nat,IntKind.wrap .u32 (n:Int)=((n % 4294967296:Nat):Int):=λn=>by
     unfold IntKind.wrap IntKind.bits IntKind.signed;simp
    have r:=ho.n;have i:x.n % 4294967296=x.n:=ap9 (by omega);have rb:=λH lo=>AG (t:=t) (cv:=cv) H lo x.b ho.b
    have rc:=λH lo=>AG (t:=t) (cv:=cv) H lo x.c ho.c
    simp only[aaH j,aaH k,q,p];simp(disch:=omega) only[F1,go_sem,simprocAttr,CF,f,TK,b,IL,a,d,e,pO,rb,rc,hs,g,i];rfl
end
theorem wrap64(n:Nat):IntKind.wrap .u64 (n:Int)=((n % mj:Nat):Int):=by rfl
theorem aoY(n:Nat): ((n:Nat):Int).tmod 8=((n % 8:Nat):Int):=by rfl
section
variable{t:Task}{cv:AV}(hv:Rv cv 5 (t.code.map da))(jx:lK t)
include hv jx
theorem aBC(r:bF)(z:r.w<4294967296/\r.e<4294967296)(H:List ae)(lo:oN):
  D X0 (.fn (.func J7) [] []) [.agg (db t cv),.agg (bG r)] ⟨H,lo⟩=some (.ret (.agg (db (uu t r) cv)) ⟨H,lo⟩):=by
 refine aF GM λN i=>?_
 have b:=λH lo=>Zn hv jx H lo
 have hw:=λH lo=>Zo hv jx H lo
 have e: [AV.int .u8 0,.int .u8 0,.int .u8 0,.int .u8 0,.int .u16 0]=da DD:=rfl;have d: [AV.int .u8 0,.int .u32 0,.int .u32 0,.int .u32 0,.int .u32 0,.int .u64 0]=bg nJ:=rfl;have k: ∀c,(bg c).length=6:=λ_=>rfl
 have l: ∀c,List.drop 6 (bg c)=[]:=λ_=>rfl
 have j: ∀c,aG (bg c)=0:=λ_=>rfl
 have f:=λt:Task=>HX (t:=t) (cJ hv (bz (λ_=>rfl) _))
 have w:=jx.next;have u: (bG r)[0]?=some (.int .i64 r.e):=rfl;have s: (bG r)[1]?=some (.int .u64 r.v):=rfl;have q: (bG r)[2]?=some (.int .u32 r.w):=rfl;unfold HZ at b;unfold uu;cases hx:r7 t with
 |none=>
  rw[hx]at b;simp only[axH,auW]at b;simp only[F1,go_sem,simprocAttr,GM,i,TK,b,hw,IL,e,d,k,l,j,f]
 |some x=>
  rw[hx]at b;simp only[alr,auS]at b;have ho:=H4 jx hx;cases g: (iB t).2 with
  |false=>
   rw[g]at hw;simp only[F1,go_sem,simprocAttr,GM,i,TK,b,hw,IL,e,d,k,l,j,f]
  |true=>
   rw[g]at hw;have h:x.a % 8<8:=by omega
   have y: (0:Int)<=(x.a % 8:Nat)/\ ((x.a % 8:Nat):Int)<8:=by omega
   have m:=λ (t:Task) (v:Nat)=>HY (t:=t) (cv:=cv) (v:=v) h
   have p: ∀ (t:Task) (v:Nat),aH (db t cv) 6 [.int .u64 v]=db {t with aU:=aq t.aU 4 v} cv:=λ_ _=>rfl
   have o: ∀ (t:Task) (v:Nat),aH (db t cv) 9 [.int .u64 v]=db {t with aU:=aq t.aU 7 v} cv:=λ_ _=>rfl
   have s1: ∀ (t:Task) (n:Nat),aH (db t cv) 1 [.int .i64 ((n:Int)+1)]=db {t with next:=n+1} cv:=λ_ _=>rfl
   simp only[ajQ];simp(disch:=omega) only[F1,go_sem,simprocAttr,GM,i,TK,b,hw,IL,e,d,k,l,j,f,aoY,y,m,p,o,s1,u,s,q];omega
end
section
variable{t:Task}{cv:AV}{x:dO}{n u5 u7 u8 a:Nat}{H:List ae}(hv:Rv cv 5 (t.code.map da))(jx:lK t)(hx:HW x)(ha:a<8)(hn:H[n]?=some (.box (db t cv) none))(h5:H[u5]?=some (.box (da x) none))(h7:H[u7]?=some (.box [.ptr n (2+a)] none))(h8:H[u8]?=some (.box [.int .i64 ((t.next:Int)+1)] none))(lo:oN)
abbrev O6(t:Task)(a v:Nat):Task:={t with aU:=aq t.aU a v}
include ha hn h5 h7 hx in
theorem aBD:D X0 (.fn (.func BC) [] [.ptr u5 0,.ptr u7 0]) [] ⟨H,lo⟩=some (.ret (.au []) ⟨H.set n (.box (db (O6 t a x.n) cv) none),lo⟩):=by
 refine fb Ux λN c=>?_
 have b: ∀o,(H.set n o).take N=H.set n o:=λo=>abk (by simp[c])
 have e:=hx.n;have f:2+a<=9:=by omega
 have d:=λ (v:Nat)=>HY (t:=t) (cv:=cv) (v:=v) ha
 simp(disch:=omega) only[F1,go_sem,simprocAttr,Ux,c,hn,h5,h7,IL,d,b,yf,f]
include ha hn h5 h7 hx in
theorem aBE:D X0 (.fn (.func BD) [] [.ptr n 0,.ptr u5 0,.ptr u7 0]) [] ⟨H,lo⟩=some (.ret (.au []) ⟨H.set n (.box (db (O6 t a ((t.aU x.b+t.aU x.c) % mj)) cv) none),lo⟩):=by
 refine fb Uy λN c=>?_
 have b: ∀o,(H.set n o).take N=H.set n o:=λo=>abk (by simp[c])
 have e:2+a<=9:=by omega
 have d:=λ (v:Nat)=>HY (t:=t) (cv:=cv) (v:=v) ha
 have rb:=λH lo=>AG (t:=t) (cv:=cv) H lo x.b hx.b
 have rc:=λH lo=>AG (t:=t) (cv:=cv) H lo x.c hx.c
 have hw:IntKind.wrap .u64 ((t.aU x.b:Int)+t.aU x.c)=(((t.aU x.b+t.aU x.c) % mj:Nat):Int):=wrap64 (t.aU x.b+t.aU x.c);simp(disch:=omega) only[F1,go_sem,simprocAttr,Uy,c,hn,h5,h7,IL,TK,rb,rc,hw,d,b,e]
include jx ha hn h5 h7 hx in
theorem aBF:D X0 (.fn (.func BE) [] [.ptr n 0,.ptr u5 0,.ptr u7 0]) [] ⟨H,lo⟩=some (.ret (.au []) ⟨H.set n (.box (db (O6 t a ((t.aU x.b+mj-t.aU x.c) % mj)) cv) none),lo⟩):=by
 refine fb Uz λN c=>?_
 have b: ∀o,(H.set n o).take N=H.set n o:=λo=>abk (by simp[c])
 have e:2+a<=9:=by omega
 have d:=λ (v:Nat)=>HY (t:=t) (cv:=cv) (v:=v) ha
 have rb:=λH lo=>AG (t:=t) (cv:=cv) H lo x.b hx.b
 have rc:=λH lo=>AG (t:=t) (cv:=cv) H lo x.c hx.c
 have g:=jx.aU x.b;have f:=jx.aU x.c;have hw:IntKind.wrap .u64 ((t.aU x.b:Int)-t.aU x.c)=(((t.aU x.b+mj-t.aU x.c) % mj:Nat):Int):=by
  unfold IntKind.wrap IntKind.bits IntKind.signed mj;simp;omega
 simp(disch:=omega) only[F1,go_sem,simprocAttr,Uz,c,hn,h5,h7,IL,TK,rb,rc,hw,d,b,e]
include ha hn h5 h7 hx in
theorem aBG:D X0 (.fn (.func BF) [] [.ptr n 0,.ptr u5 0,.ptr u7 0]) [] ⟨H,lo⟩=some (.ret (.au []) ⟨H.set n (.box (db (O6 t a (t.aU x.b*2^x.n % mj)) cv) none),lo⟩):=by
 refine fb UA λN d=>?_
 have b: ∀o,(H.set n o).take N=H.set n o:=λo=>abk (by simp[d])
 have f:2+a<=9:=by omega
 have e:=λ (v:Nat)=>HY (t:=t) (cv:=cv) (v:=v) ha
 have rb:=λH lo=>AG (t:=t) (cv:=cv) H lo x.b hx.b
 have c:k9 .shl (.int .u64 (t.aU x.b)) (.int .u16 x.n)=some (.int .u64 ((t.aU x.b*2^x.n % mj:Nat))):=by
  rw[Bj,aaR (by omega)];have i: ∀k:Nat,((2:Int)^k)=((2^k:Nat):Int):=λk=>by rw[Int.natCast_pow];rfl
  rw[i,<-Int.natCast_mul,wrap64];have l:IntKind.u64.bits=64:=rfl;by_cases h:x.n<=64
  ·rw[show min ((x.n:Nat):Int).toNat IntKind.u64.bits=x.n by omega]
  ·rw[show min ((x.n:Nat):Int).toNat IntKind.u64.bits=64 by omega];have e1:t.aU x.b*2^64 % mj=0:=Nat.mul_mod_left _ _;have j:t.aU x.b*2^x.n % mj=0:=by
    obtain⟨k,g⟩:=Nat.exists_eq_add_of_le (show 64<=x.n by omega);rw[g,Nat.pow_add,<-Nat.mul_assoc,Nat.mul_right_comm];exact Nat.mul_mod_left _ _
   rw[e1,j]
 simp(disch:=omega) only[F1,go_sem,simprocAttr,UA,d,hn,h5,h7,IL,TK,rb,c,e,b,f]
include h5 h8 hx in
theorem aBH:D X0 (.fn (.func BG) [] [.ptr u5 0,.ptr u8 0]) [] ⟨H,lo⟩=some (.ret (.au []) ⟨H.set u8 (.box [.int .i64 x.n] none),lo⟩):=by
 refine fb UB λN c=>?_
 have b: ∀o,(H.set u8 o).take N=H.set u8 o:=λo=>abk (by simp[c])
 have d:=hx.n;simp(disch:=omega) only[F1,go_sem,simprocAttr,UB,c,h5,h8,IL,b]
include ha hn h5 h7 h8 hx in
theorem aBI:D X0 (.fn (.func BH) [] [.ptr u7 0,.ptr u5 0,.ptr u8 0]) [] ⟨H,lo⟩=some (.ret (.au []) ⟨H.set u8 (.box [.int .i64 ((if t.aU a≠0 then x.n else t.next+1:Nat))] none),lo⟩):=by
 refine fb Na λN c=>?_
 have b: ∀o,(H.set u8 o).take N=H.set u8 o:=λo=>abk (by simp[c])
 have f:=hx.n;have g:2+a<=9:=by omega
 by_cases h:t.aU a=0
 ·have d: ((t.aU a:Nat):Int)=0:=by omega
  rw[aaH (by omega)];have e:H.set u8 (.box [.int .i64 ((t.next+1:Nat):Int)] none)=H:=qz h8;rw[e];simp(disch:=omega) only[F1,go_sem,simprocAttr,Na,c,hn,h5,h7,h8,IL,Zm ha,d,b]
 ·have d: ¬((t.aU a:Nat):Int)=0:=by omega
  rw[aaR (by omega)];simp(disch:=omega) only[F1,go_sem,simprocAttr,Na,c,hn,h5,h7,h8,IL,Zm ha,d,b]
end
def Zp(N:Nat):List (AV×AV):=[(.int .u8 1,.fn (.func BC) [] [.ptr (N+3) 0,.ptr (N+4) 0]),(.int .u8 2,.fn (.func BD) [] [.ptr N 0,.ptr (N+3) 0,.ptr (N+4) 0]),(.int .u8 3,.fn (.func BE) [] [.ptr N 0,.ptr (N+3) 0,.ptr (N+4) 0]),(.int .u8 4,.fn (.func BF) [] [.ptr N 0,.ptr (N+3) 0,.ptr (N+4) 0]),(.int .u8 5,.fn (.func BG) [] [.ptr (N+3) 0,.ptr (N+5) 0]),(.int .u8 6,.fn (.func BH) [] [.ptr (N+4) 0,.ptr (N+3) 0,.ptr (N+5) 0])]
def pc(N k:Nat):List (AV×AV):=(Zp N).take k
theorem aBJ(N:Nat):ae.map []= .map (pc N 0):=rfl
def DE{N:Nat}{H:List ae}(a:H.length=N)(B:List ae)(b:B.length=6){key:Int}(d:v.refs<=N+7)(h:lT (.int .u8 key) v (pc N k)=some (pc N (k+1)))(lo:oN):
  mz ⟨H++(B++[.map (pc N k)]),lo⟩ .int (.mp (N+6)) (.int .u8 key) v=some ⟨H++(B++[.map (pc N (k+1))]),lo⟩:=by
 simp only[mz,kY,ajQ];have e: (H++(B++[ae.map (pc N k)]))[N+6]?=some (.map (pc N k)):=by grind
 simp only[e,h];have c: (H++(B++[ae.map (pc N k)])).set (N+6) (.map (pc N (k+1)))=H++(B++[.map (pc N (k+1))]):=by
  rw[aqs _ _ (by omega),aqs _ _ (by omega)];simp[a,b]
 simp only[AS.set,c]
 grind
def pn(N a:Nat):Option AV:=match a with
 |1=>some (.fn (.func BC) [] [.ptr (N+3) 0,.ptr (N+4) 0])
 |2=>some (.fn (.func BD) [] [.ptr N 0,.ptr (N+3) 0,.ptr (N+4) 0])
 |3=>some (.fn (.func BE) [] [.ptr N 0,.ptr (N+3) 0,.ptr (N+4) 0])
 |4=>some (.fn (.func BF) [] [.ptr N 0,.ptr (N+3) 0,.ptr (N+4) 0])
 |5=>some (.fn (.func BG) [] [.ptr (N+3) 0,.ptr (N+5) 0])
 |6=>some (.fn (.func BH) [] [.ptr (N+4) 0,.ptr (N+3) 0,.ptr (N+5) 0])
 |_=>none
def aBK(N a:Nat):ea (.int .u8 a) (pc N 6)=some (pn N a):=by
 by_cases h:a<=6
 ·rcases(show a=0\/a=1\/a=2\/a=3\/a=4\/a=5\/a=6 by omega)with q|q|q|q|q|q|q<;>subst q<;>rfl
 ·have e:pn N a=none:=by unfold pn;grind
  rw[e];have b: ∀k:Int,k<=6->(((a:Nat):Int)==k)=false:=λk c=>by grind
  show ea (.int .u8 a) (Zp N)=some none;unfold Zp;simp only[ea,pC,ajQ,b 1 (by omega),b 2 (by omega),b 3 (by omega),b 4 (by omega),b 5 (by omega),b 6 (by omega)]
def aBL{t:Task}{cv:AV}(X:Rv cv 5 (t.code.map da))(g:lK t)(H:List ae)(lo:oN):
  D X0 (.fn (.func Sf) [] []) [.agg (db t cv)] ⟨H,lo⟩=some (.ret (.agg (db (r8 t) cv)) ⟨H,lo⟩):=by
 refine aF M4 λN d=>?_
 have L:=λH lo=>Zn X g H lo
 have hw:=λH lo=>Zo X g H lo
 have U: [AV.int .u8 0,.int .u8 0,.int .u8 0,.int .u8 0,.int .u16 0]=da DD:=rfl;have G: [AV.int .u8 0,.int .u32 0,.int .u32 0,.int .u32 0,.int .u32 0,.int .u64 0]=bg nJ:=rfl;have cl: ∀c,(bg c).length=6:=λ_=>rfl
 have cd: ∀c,List.drop 6 (bg c)=[]:=λ_=>rfl
 have cr: ∀c,aG (bg c)=0:=λ_=>rfl
 have a:=λt:Task=>HX (t:=t) (cJ X (bz (λ_=>rfl) _))
 have O7:=g.next;unfold r8;cases s: (iB t).2 with
 |true=>
  rw[s]at hw;rw[aaR rfl];simp only[F1,go_sem,simprocAttr,M4,d,TK,hw,G,cl,cd,cr,a]
 |false=>
  rw[s]at hw;rw[aaH (by simp)];cases V:r7 t with
  |none=>
   have: (iB t).2=true:=by unfold iB;rw[V]
   rw[s]at this;cases this
  |some x=>
   unfold HZ at L;rw[V]at L;simp only[alr,auS]at L;have ho:=H4 g V;have i:x.a % 8<8:=by omega
   have hb: (0:Int)<=(x.a % 8:Nat)/\ ((x.a % 8:Nat):Int)<8:=by omega
   obtain⟨B,hB⟩: ∃B:List ae,B=[.box (db t cv) none,.box [.ai,.int .i64 0,.int .u64 0,.int .u64 0,.int .u64 0,.int .u64 0,.int .u64 0,.int .u64 0,.int .u64 0,.int .u64 0] none,.box (bg (iB t).1) none,.box (da x) none,.box [.ptr N (2+x.a % 8)] none,.box [.int .i64 ((t.next:Int)+1)] none]:=⟨_,rfl⟩;have hm:=aBJ N;have l4:N<=N+4:=by omega
   have S:=DE (k:=0) (key:=1) (v:=.fn (.func BC) [] [.ptr (N+3) 0,.ptr (N+4) 0]) d B (by rw[hB];rfl) (by simp[AV.refs,aG]) rfl;have R:=DE (k:=1) (key:=2) (v:=.fn (.func BD) [] [.ptr N 0,.ptr (N+3) 0,.ptr (N+4) 0]) d B (by rw[hB];rfl) (by simp[AV.refs,aG]) rfl;have Q:=DE (k:=2) (key:=3) (v:=.fn (.func BE) [] [.ptr N 0,.ptr (N+3) 0,.ptr (N+4) 0]) d B (by rw[hB];rfl) (by simp[AV.refs,aG]) rfl;have P:=DE (k:=3) (key:=4) (v:=.fn (.func BF) [] [.ptr N 0,.ptr (N+3) 0,.ptr (N+4) 0]) d B (by rw[hB];rfl) (by simp[AV.refs,aG]) rfl;have O:=DE (k:=4) (key:=5) (v:=.fn (.func BG) [] [.ptr (N+3) 0,.ptr (N+5) 0]) d B (by rw[hB];rfl) (by simp[AV.refs,aG]) rfl;have M:=DE (k:=5) (key:=6) (v:=.fn (.func BH) [] [.ptr (N+4) 0,.ptr (N+3) 0,.ptr (N+5) 0]) d B (by rw[hB];rfl) (by simp[AV.refs,aG]) rfl;rw[hB]at S R Q P O M;simp only[ajW,ajS]at S R Q P O M;simp(disch:=omega) only[go_sem,simprocAttr,M4,d,TK,hw,L,IL,U,G,cl,cd,cr,aoY,hb,hm,l4,S,R,Q,P,O,M];have Y: ∀E:AS,E.heap[N+6]?=some (.map (pc N 6))->gV X0.fo E .int .cR (.mp (N+6)) (.int .u8 x.op) true=some (match pn N x.op with|some v=>.au [v,.bool true]|none=>.au [.cR,.bool false]):=by
    intro E h;simp only[gV,kY,ajQ,mapOf,h,aBK];cases pn N x.op<;>rfl
   rw[Y _ (by rw[bw d];rfl)];obtain⟨W,u⟩: ∃W,W=H++[.box (db t cv) none,.box [.ai,.int .i64 0,.int .u64 0,.int .u64 0,.int .u64 0,.int .u64 0,.int .u64 0,.int .u64 0,.int .u64 0,.int .u64 0] none,.box (bg (iB t).1) none,.box (da x) none,.box [.ptr N (2+x.a % 8)] none,.box [.int .i64 ((t.next:Int)+1)] none,.map (pc N 6)]:=⟨_,rfl⟩;have w0:W[N]?=some (.box (db t cv) none):=by rw[u,dn d];rfl
   have w1:W[N+1]?=some (.box [.ai,.int .i64 0,.int .u64 0,.int .u64 0,.int .u64 0,.int .u64 0,.int .u64 0,.int .u64 0,.int .u64 0,.int .u64 0] none):=by rw[u,bw d];rfl
   have y:W[N+3]?=some (.box (da x) none):=by rw[u,bw d];rfl
   have C:W[N+4]?=some (.box [.ptr N (2+x.a % 8)] none):=by rw[u,bw d];rfl
   have A:W[N+5]?=some (.box [.int .i64 ((t.next:Int)+1)] none):=by rw[u,bw d];rfl
   have wt:W.take N=H:=by rw[u,mF d]
   rw[<-u];have I:=λo=>cx (o:=o) w0
   have f: ∀o,(W.set N o)[N+1]?=_:=λo=>(aaD (by omega)).trans w1
   have m: ∀o,(W.set N o)[N+5]?=_:=λo=>(aaD (by omega)).trans A
   have g5:=λo=>cx (o:=o) A
   have w: ∀o,(W.set (N+5) o)[N]?=_:=λo=>(aaD (by omega)).trans w0
   have Z: ∀o,(W.set (N+5) o)[N+1]?=_:=λo=>(aaD (by omega)).trans w1
   have q:=λo o'=>cx (o:=o') (w o)
   have l: ∀o o',((W.set (N+5) o).set N o')[N+1]?=_:=λo o'=>(aaD (by omega)).trans (Z o)
   have b:=λo o'=>cx (o:=o') (f o)
   have j:=λo o' J=>cx (o:=J) (l o o')
   have t0: ∀o o',((W.set N o).set (N+1) o').take N=H:=λo o'=>by rw[atQ (by omega),atQ (by omega),wt]
   have t5: ∀o o' J,(((W.set (N+5) o).set N o').set (N+1) J).take N=H:=λo o' J=>by rw[atQ (by omega),atQ (by omega),atQ (by omega),wt]
   have s1: ∀ (t:Task) (n:Nat),aH (db t cv) 1 [.int .i64 ((n:Int)+1)]=db {t with next:=n+1} cv:=λ_ _=>rfl
   have t10: ∀t:Task,List.take 10 (db t cv)=db t cv:=λ_=>rfl
   have c1:=λlo=>aBD ho i w0 y C lo
   have c2:=λlo=>aBE ho i w0 y C lo
   have c3:=λlo=>aBF g ho i w0 y C lo
   have c4:=λlo=>aBG ho i w0 y C lo
   have c5:=λlo=>aBH ho y A lo
   have c6:=λlo=>aBI ho i w0 y C A lo
   have eb:x.b % 8=x.b:=ap9 ho.b;have ec:x.c % 8=x.c:=ap9 ho.c;rw[eb,ec];by_cases p:x.op=1
   ·rw[aaR p,p];simp only[pn];simp only[F1,go_sem,simprocAttr,c1,I,f,m,b,t0,amC,TK,s1,t10,a]
   ·by_cases r:x.op=2
    ·rw[aaH p,aaR r,r];simp only[pn];simp only[F1,go_sem,simprocAttr,c2,I,f,m,b,t0,amC,TK,s1,t10,a]
    ·by_cases z:x.op=3
     ·rw[aaH p,aaH r,aaR z,z];simp only[pn];simp only[F1,go_sem,simprocAttr,c3,I,f,m,b,t0,amC,TK,s1,t10,a]
     ·by_cases F:x.op=4
      ·rw[aaH p,aaH r,aaH z,aaR F,F];simp only[pn];simp only[F1,go_sem,simprocAttr,c4,I,f,m,b,t0,amC,TK,s1,t10,a]
      ·by_cases K:x.op=5
       ·rw[aaH p,aaH r,aaH z,aaH F,aaR K,K];simp only[pn];simp only[F1,go_sem,simprocAttr,c5,g5,w,q,l,j,t5,TK,t10,a]
       ·by_cases T:x.op=6
        ·rw[aaH p,aaH r,aaH z,aaH F,aaH K,aaR T,T];simp only[pn];simp only[F1,go_sem,simprocAttr,c6,g5,w,q,l,j,t5,TK,t10,a]
        ·rw[aaH p,aaH r,aaH z,aaH F,aaH K,aaH T];have e:pn N x.op=none:=by unfold pn;split<;>first|omega|rfl
         rw[e];simp only[F1,go_sem,simprocAttr,w0,A,I,f,b,t0,TK,s1,t10,a]
instance:Inhabited dO:=⟨DD⟩
def aBM(v fv:AV)(l:List dO)(H:List ae)(c:Rd ⟨H,none⟩ v 5 (l.map da))(s:l.length<2147483648)(p:dO->Bool)(lo:oN)
  (q: ∀x∈l,D X0 fv [.agg (da x)] ⟨H,none⟩=some (.ret (.bool (p x)) ⟨H,none⟩)):D X0 (.fn (.func Sz) [] []) [v,fv] ⟨H,lo⟩=some (.ret (.int .i64 (fX p l)) ⟨H,lo⟩):=by
 refine aF UR λN w=>?_
 simp only[go_sem,simprocAttr,UR,c.bD];refine dB l.length (λk e H'=>H'=H/\e 0=v/\e 1=fv/\e 7= .int .i64 l.length/\e 8= .int .i64 k/\ ∀j,j<k->p (l.getD j default)=false) 0 (by omega) ?_ ?_
 ·simp only[go_sem,simprocAttr];omega
 ·rintro k t e H' ⟨rfl,o,m,i,g,d⟩ n r;simp(disch:=omega) only[bO,F1,go_sem,simprocAttr,ai3,o,m,i,g];refine⟨λh=>?_,λh=>?_⟩
  ·have a:k<l.length:=by omega
   have b: ∀x,Den.part true 5 (da x) 0=some (.agg (da x)):=λ_=>rfl
   simp(disch:=omega) only[go_sem,simprocAttr,c.bX,c.cp,↓b,q _ (eV a)];refine⟨by omega,?_⟩;cases f:p (l.getD k default)
   ·simp(disch:=omega) only[go_sem,simprocAttr,o,m,i,g];exact⟨a,lF d f⟩
   ·simp(disch:=omega) only[F1,go_sem,simprocAttr];rw[v5 a d f]
  ·rw[v7 (λj u=>d j (by omega))]
def aBN(v fv:AV)(l:List dO)(H:List ae)(a:Rd ⟨H,none⟩ v 5 (l.map da))(b:l.length<2147483648)(p:dO->Bool)(lo:oN)
  (c: ∀x∈l,D X0 fv [.agg (da x)] ⟨H,none⟩=some (.ret (.bool (p x)) ⟨H,none⟩)):D X0 (.fn (.func Ss) [] []) [v,fv] ⟨H,lo⟩=some (.ret (.bool (l.any p)) ⟨H,lo⟩):=by
 refine aF UI λN d=>?_
 simp(disch:=omega) only[F1,go_sem,simprocAttr,UI,aBM v fv l H a b p none c,xR]
def aBO(x:dO)(n:Nat)(f:x.op<256/\x.a<256/\x.b<256/\x.c<256/\x.n<65536)(k:n<2147483648)(H:List ae)(lo:oN):
  D X0 (.fn (.func Su) [] []) [.agg (da x),.int .i64 n] ⟨H,lo⟩=some (.ret (.bool (r0 x n)) ⟨H,lo⟩):=by
 refine aF UK λN g=>?_
 obtain⟨q,p,o,m,l⟩:=f;simp only[go_sem,simprocAttr,UK,g,IL];refine vd 5 (.bool (decide (16<x.op)&&decide (x.op<=38))) [1,2] rfl rfl ?_ λr=>?_
 ·simp(disch:=omega) only[R4,go_sem,simprocAttr,IL]
  (repeat' (first|apply And.intro|intro _))
  all_goals(refine ajV AV.bool (ap8.2 ?_);simp[];try(intros;omega))
 simp(disch:=omega) only[go_sem,simprocAttr,IL];refine vd 6 (.bool (decide (x.op=5)||decide (x.op=6))) [1,2,5] rfl rfl ?_ λe1=>?_
 ·simp(disch:=omega) only[R4,go_sem,simprocAttr,IL]
  (repeat' (first|apply And.intro|intro _))
  all_goals(refine ajV AV.bool (ap8.2 ?_);simp[];try(intros;omega))
 have a:gg qO [.int .u8 (x.a:Nat),.int .u8 (x.b:Nat),.int .u8 (x.c:Nat)]=some (.int .u8 ((max (max x.a x.b) x.c:Nat))):=by
  have e:gg qO [.int .u8 (x.a:Nat),.int .u8 (x.b:Nat),.int .u8 (x.c:Nat)]=some (.int .u8 (if(x.c:Int)>(if(x.b:Int)>x.a then(x.b:Int)else x.a)then(x.c:Int)else(if(x.b:Int)>x.a then(x.b:Int)else x.a))):=by simp[gg,qO]
  rw[e];congr 2;split<;>split<;>omega
 have b:decide (((max (max x.a x.b) x.c:Nat):Int)<8)=decide (x.a<8/\x.b<8/\x.c<8):=ajF.2 (by omega);have d:decide ((x.op:Int)<=6)=decide (x.op<=6):=ajF.2 (by omega);have c:decide ((x.n:Int)<n)=decide (x.n<n):=ajF.2 (by omega);unfold r0;generalize decide (x.op<=6)=j at*;generalize decide (x.a<8/\x.b<8/\x.c<8)=i at*;generalize decide (x.n<n)=h at*;generalize(decide (16<x.op)&&decide (x.op<=38))=A at*;generalize(decide (x.op=5)||decide (x.op=6))=J at*;cases j<;>cases A<;>cases i<;>cases J<;>cases h<;>simp(disch:=omega) only[F1,go_sem,simprocAttr,IL,d,a,b,c,Bool.or_false,axG,aud,Bool.or_true,auM,aBB]
def aBP(v:AV)(l:List dO)(p:l.length<2147483648)(q: ∀x∈l,x.op<256/\x.a<256/\x.b<256/\x.c<256/\x.n<65536)(N:Nat)(H:List ae)(f:Rd ⟨H,none⟩ v 5 (l.map da))(lo:oN)(r:v.refs<=H.length)(t:v.cn=false/\v.cells=[v]):
  D X0 (.fn (.func So) [] []) [v] ⟨H,lo⟩=some (.ret (.bool (qu l)) ⟨H,lo⟩):=by
 refine aF Nb λN m=>?_
 have b: ∀lo,qZ ⟨H,lo⟩ v none=some (.ptr N 0,⟨H++[.box [v] none],lo⟩):=λlo=>by
  have s:=f.kind;subst m;cases v<;>simp only[]at s<;>rfl
 have g:=f.bD;have a:Rd ⟨H++[.box [v] none],none⟩ v 5 (l.map da):=f.ext;have j:=aBN v (.fn (.func St) [] [.ptr N 0]) l (H++[.box [v] none]) a p (λx=>!r0 x l.length) none (λx h=>by
  refine fb UJ λM n=>?_
  have k: ∀L,(H++(.box [v] none::L))[N]?=some (.box [v] none):=λL=>by rw[dn m];rfl
  have i: ∀L,ft ⟨H++(.box [v] none::L),none⟩ .sl v=some (.int .i64 l.length):=λL=>Rd.bD (f.ext (L:=.box [v] none::L))
  have hm:=λH lo=>aBO x l.length (q x h) p H lo
  have c: ∀x,Den.part true 5 (da x) 0=some (.agg (da x)):=λ_=>rfl
  obtain rfl:M=N+1:=by rw[<-n];simp[m]
  simp(disch:=omega) only[F1,go_sem,simprocAttr,UJ,n,↓c,k,i,hm];refine cU rfl ?_;have e:H++[ae.box [v] none,.box (da x) none]=(H++[.box [v] none])++[.box (da x) none]:=by simp
  rw[e,aqm n])
 unfold qu;by_cases d:l.length<=64
 ·have o: ((l.length:Nat):Int)<=64:=by omega
  rw[abj d,aoC];simp(disch:=omega) only[F1,go_sem,simprocAttr,Nb,b,a.bD,o,j];rw[axF]
 ·have o: ¬((l.length:Nat):Int)<=64:=by omega
  rw[abi d,ajT];simp(disch:=omega) only[F1,go_sem,simprocAttr,Nb,b,a.bD,o]
def qI(l:lB):dO:=⟨(l.getD 0 0).toNat,(l.getD 1 0).toNat,(l.getD 2 0).toNat,(l.getD 3 0).toNat,(l.getD 4 0).toNat+256*(l.getD 5 0).toNat⟩
def aBQ{s:lB}(h:k+6<=s.length):r6 (s.drop k)=qI (s.drop k)::r6 (s.drop (k+6)):=by
 have e:s.drop (k+6)=(s.drop k).drop 6:=by simp
 rw[e];have g:6<=(s.drop k).length:=by grind
 generalize s.drop k=l at*
 match l,g with
 |a::b::c::d::e::f::r,_=>rfl
def aBR(e f:Nat)(a:e<256)(d:f<256):dq .or (.int .u16 e) (.int .u16 ((f*256:Nat)))=some (.int .u16 ((e+256*f:Nat))):=by
 rw[Jj];have e1: ∀n:Nat,n<65536->(BitVec.ofInt IntKind.u16.bits (n:Int)).toNat=n:=by
  have:IntKind.u16.bits=16:=rfl
  grind
 have c:e|||f*256=e+256*f:=by
  have:=Nat.shiftLeft_add_eq_or_of_lt (b:=e) (i:=8) a f;rw[Nat.shiftLeft_eq]at this
  grind
 rw[BitVec.toNat_or,e1 e (by omega),e1 (f*256) (by omega),c];have:IntKind.wrap .u16 ((e+256*f:Nat):Int)=((e+256*f:Nat):Int):=by
  unfold IntKind.wrap IntKind.bits IntKind.signed;grind
 rw[this]
def aBS(f:Nat)(a:f<256):k9 .shl (.int .u16 f) (.int .u64 8)=some (.int .u16 ((f*256:Nat))):=by
 rw[Bj,aaR (by omega)];have:IntKind.wrap .u16 ((f:Int)*2^(min (8:Int).toNat IntKind.u16.bits))=((f*256:Nat):Int):=by
  have h:min (8:Int).toNat IntKind.u16.bits=8:=rfl;rw[h];unfold IntKind.wrap IntKind.bits IntKind.signed;grind
 rw[this]
def aBT{H:List ae}{n:Nat}{s:lB}(k:H[n]?=some (.box [.int .u8 0,.int .u8 0,.int .u8 0,.int .u8 0,.int .u8 0,.int .u8 0] none))(j:6<=s.length):
  sy ⟨H,lo⟩ 1 (.fk n 1 0 6) (S s)=some (.int .i64 6,⟨H.set n (.box [.int .u8 (s.getD 0 0).toNat,.int .u8 (s.getD 1 0).toNat,.int .u8 (s.getD 2 0).toNat,.int .u8 (s.getD 3 0).toNat,.int .u8 (s.getD 4 0).toNat,.int .u8 (s.getD 5 0).toNat] none),lo⟩):=by
 match s,j with
 |a::b::c::d::e::f::r,_=>
  have l:DU ⟨H,lo⟩ 1 (S (a::b::c::d::e::f::r))=some ((a::b::c::d::e::f::r).map λx=>[.int .u8 x.toNat]):=by
   simp only[DU,S,ajQ];rfl
  have i:b9 ((a::b::c::d::e::f::r).map λx:UInt8=>[AV.int .u8 x.toNat])=0:=bz (g:=λx:UInt8=>[AV.int .u8 x.toNat]) (λ_=>rfl) _;have h: ((a::b::c::d::e::f::r).map λx:UInt8=>[AV.int .u8 x.toNat]).all (λel=>el.length==1)=true:=by simp
  have m: ((a::b::c::d::e::f::r).map λx:UInt8=>[AV.int .u8 x.toNat]).length.min 6=6:=by
   show min _ 6=6;simp
  simp only[sy,l,k,m,i,AS.set,h];rw[aaR ⟨trivial,by decide,trivial⟩,aaR (abX _)];rfl
def aBU(l:lB): (qI l).op<256/\ (qI l).a<256/\ (qI l).b<256/\ (qI l).c<256/\ (qI l).n<65536:=by
 have h: ∀u:UInt8,u.toNat<256:=λu=>u.toNat_lt
 refine⟨h _,h _,h _,h _,?_⟩;have b:=h (l.getD 4 0);have a:=h (l.getD 5 0);show(l.getD 4 0).toNat+256*(l.getD 5 0).toNat<65536;omega
def gu(s:lB)(k:Nat):List dO:=(List.range k).map λi=>qI (s.drop (6*i))
def Zq(s:lB)(k:Nat):gu s (k+1)=gu s k++[qI (s.drop (6*k))]:=by unfold gu;rw[arI,aiw];rfl
theorem aoZ{s:lB}: ∀m k,6*(k+m)=s.length->gu s k++r6 (s.drop (6*k))=gu s (k+m)
 |0,k,h=>by
  have:s.drop (6*k)=[]:=ajX (by omega);rw[this];simp[r6]
 |m+1,k,h=>by
  have hle:6*k+6<=s.length:=by omega
  rw[aBQ hle];have:=aoZ (s:=s) m (k+1) (by omega);rw[Zq]at this
  grind
def ao0{s:lB}(h:s.length % 6=0):r6 s=gu s (s.length/6):=by
 have:=aoZ (s:=s) (s.length/6) 0 (by omega);simpa[gu]using this
def ao1(s:lB)(H:List ae)(lo:oN):
  ∃v,D X0 (.fn (.func EX) [] []) [S s] ⟨H,lo⟩=some (.ret (.au [v,.int .i64 (if(decode s).isSome then 0 else 3:Nat)]) ⟨H,lo⟩)/\Rv v 5 (((decode s).getD []).map da):=by
 suffices B: ∃o,D X0 (.fn (.func EX) [] []) [S s] ⟨H,lo⟩=some o/\ (λo=> ∃v,o=aS.ret (.au [v,.int .i64 (if(decode s).isSome then 0 else 3:Nat)]) ⟨H,lo⟩/\Rv v 5 (((decode s).getD []).map da)) o by grind
 refine cE GF λN A=>?_
 have tm: ((s.length:Nat):Int).tmod 6=((s.length % 6:Nat):Int):=by rfl
 by_cases G:s.length % 6=0
 ·have c:decide (((s.length % 6:Nat):Int)=0)=true:=abj (by omega);by_cases T:s.length<=384
  ·have g: ¬((s.length:Nat):Int)>384:=by omega
   simp only[go_sem,simprocAttr,GF,tm,c,g];refine dB (s.length/6) (λk e W=>e 0=S (s.drop (6*k))/\H<+:W/\aN N W (e 4) 5 aiq ((gu s k).map da)) 0 (by omega) ?_ ?_
   ·simp only[go_sem,simprocAttr];exact⟨ar0,aN.ai⟩
   rintro k R e W ⟨d,a,h⟩ n C;have K: (s.drop (6*k)).length=s.length-6*k:=apj ..;simp only[bO,go_sem,simprocAttr,aiT,d,C];refine⟨λO=>?_,λO=>?_⟩
   ·have f:k<s.length/6:=by omega
    have P:6<=(s.drop (6*k)).length:=by omega
    have z:=λlo=>aBT (lo:=lo) (H:=W++[.box [.int .u8 0,.int .u8 0,.int .u8 0,.int .u8 0,.int .u8 0,.int .u8 0] none]) (n:=n) (s:=s.drop (6*k)) (by rw[dn C];rfl) P
    have r:uQ (S (s.drop (6*k))) (some (.int .i64 6)) none=some (S (s.drop (6*(k+1)))):=by
     rw[Jl,aaR ⟨by omega,by omega⟩,arY];rfl
    have E:qI (s.drop (6*k))=qI (s.drop (6*k)):=rfl;have F: ∀j,((s.drop (6*k)).getD j 0).toNat<256:=λj=>UInt8.toNat_lt _
    have Q:=F 4;have I:=F 5;have w:=aBR _ _ Q I;have t:=aBS _ I;simp(disch:=omega) only[go_sem,simprocAttr,d,anM,z,w,t];have l: (gu s k).length=k:=by simp[gu]
    refine oy (N:=N) (H0:=H) (bytes:=6) (ys:=[da (qI (s.drop (6*k)))]) h.ext (a.trans (ast _ _)) A (by omega) (by intro el y;rw[ahc.1 y];rfl) rfl (by rw[ahX,l];show(k+1)*6<=room;unfold room;omega) λv' U p u=>?_
    simp only[go_sem,simprocAttr,d,r];refine⟨f,u,?_⟩;rw[Zq,aiw];exact p
   ·have f:k=s.length/6:=by omega
    have m:r6 s=gu s k:=by rw[f];exact ao0 G
    have l: (gu s k).length=k:=by simp[gu]
    have b:=λlo=>aBP (e 4) (gu s k) (by omega) (λx B=>by
     obtain⟨i,_,rfl⟩:=ais.1 B;exact aBU _) 0 W (lG h none) lo (by
     rcases h.2 with⟨q,_⟩| ⟨id,aj,_,q,J⟩
     ·rw[q];exact abX _
     ·rw[q];have:=fi J;simp only[AV.refs];omega) (o8 (lG h none))
    have d:decode s=if qu (gu s k)then some (gu s k)else none:=by unfold decode;rw[aaH (by omega),m]
    rw[d];cases hm:qu (gu s k)with
    |true=>
     rw[hm]at b;simp only[go_sem,simprocAttr,b];rw[h.ahf (by rw[bz (λ_=>rfl)];omega) (abX _)];exact⟨_,cU rfl (iZ A λi M=>by obtain⟨L,rfl⟩:=a;rw[aaF (by omega)]),aN.re h⟩
    |false=>
     rw[hm]at b;simp only[go_sem,simprocAttr,b];rw[xZ rfl];exact⟨.ai,cU rfl (iZ A λi M=>by obtain⟨L,rfl⟩:=a;rw[aaF (by omega)]),.ai⟩
  ·have g: ((s.length:Nat):Int)>384:=by omega
   have d:decode s=none:=by unfold decode;rw[aaR (.inr (by omega))]
   rw[d];simp(disch:=omega) only[F1,go_sem,simprocAttr,GF,tm,c,g];exact⟨.ai,rfl,.ai⟩
 ·have c:decide (((s.length % 6:Nat):Int)=0)=false:=abi (by omega);have d:decode s=none:=by unfold decode;rw[aaR (.inl G)]
  rw[d];simp(disch:=omega) only[F1,go_sem,simprocAttr,GF,tm,c];exact⟨.ai,rfl,.ai⟩
def aBV(b:UInt8)(H:List ae)(lo:oN):D X0 (.fn (.func Si) [] []) [.int .u8 b.toNat] ⟨H,lo⟩=some (.ret (.bool (lE b.toNat)) ⟨H,lo⟩):=by
 refine aF Un λN h=>?_
 generalize b.toNat=n at*;have e1:decide ((n:Int)<8)=decide (n<8):=ajF.2 (by omega);have c:decide ((n:Int)=8)=decide (n=8):=ajF.2 (by omega);have e3:decide (16<=(n:Int))=decide (16<=n):=ajF.2 (by omega);have a:decide ((n:Int)<24)=decide (n<24):=ajF.2 (by omega);unfold lE;generalize decide (n<8)=g at*;generalize decide (n=8)=f at*;generalize decide (16<=n)=e at*;generalize decide (n<24)=d at*;cases g<;>cases f<;>cases e<;>cases d<;>simp(disch:=omega) only[F1,go_sem,simprocAttr,Un,e1,c,e3,a,Bool.or_false,axG,aud,Bool.or_true]
def aBW(p:lB)(H:List ae)(lo:oN):D X0 (.fn (.func J1) [] []) [S p] ⟨H,lo⟩=some (.ret (.bool (!(decode p).isSome)) ⟨H,lo⟩):=by
 refine aF M5 λN b=>?_
 obtain⟨v,d1,_⟩:=ao1 p H none;cases a: (decode p).isSome with
 |true=>
  rw[a]at d1;simp(disch:=omega) only[F1,go_sem,simprocAttr,M5,d1]
 |false=>
  rw[a]at d1;simp(disch:=omega) only[F1,go_sem,simprocAttr,M5,d1]
def aBX(b:UInt8)(H:List ae)(lo:oN):D X0 (.fn (.func J2) [] []) [.int .u8 b.toNat] ⟨H,lo⟩=some (.ret (.bool (!lE b.toNat)) ⟨H,lo⟩):=by
 refine aF Um λN a=>?_
 simp(disch:=omega) only[F1,go_sem,simprocAttr,Um,aBV]
structure H5(aM:Int)(aC:List lB)(aX:lB)(pv kv:AV):Prop where
 pr:Rv pv 1 (aC.map sC)
 pk:Rv kv 1 (aX.map bC)
 np:aC.length<1099511627776
 nk:aX.length<1099511627776
def aBY{a:Int}{c:lB}(h:H5 a aC c pv kv)(o: -9223372036854775808<=a/\a<9223372036854775808)(H:List ae)(lo:oN):
  D X0 (.fn (.func R5) [] []) [.agg [.int .i64 a,pv,kv]] ⟨H,lo⟩=some (.ret (.bool (nL ⟨a,aC,c.map UInt8.toNat⟩)) ⟨H,lo⟩):=by
 refine aF Ub λN s=>?_
 have q:=cJ h.pr (bz (λ_=>rfl) _);have r:=cJ h.pk (bz (λ_=>rfl) _);have d:=λH lo=>awg pv (.fn (.func J1) [] []) aC h.pr h.np (λp=>!(decode p).isSome) H lo (λx _=>aBW x H none)
 have e:=λH lo=>awe kv (.fn (.func J2) [] []) c h.pk h.nk (λb=>!lE b.toNat) H lo (λx _=>aBX x H none)
 have n: (!aC.any λp=>!(decode p).isSome)=aC.all λp=>(decode p).isSome:=axF.symm
 have m: (!c.any λb=>!lE b.toNat)=c.all λb=>lE b.toNat:=axF.symm
 have l:nL ⟨a,aC,c.map UInt8.toNat⟩=(decide (1<=a/\a<=64/\1<=aC.length/\aC.length<=8/\c.length<=4000)&&aC.all (λp=>(decode p).isSome)&&c.all λb=>lE b.toNat):=by
  unfold nL;simp only[ahX,List.all_map];rfl
 have e1:decide (1<=a/\a<=64/\1<=aC.length/\aC.length<=8/\c.length<=4000)=(!decide (a<1)&& !decide (64<a)&& !decide ((aC.length:Int)<1)&& !decide (8< (aC.length:Int))&& !decide (4000< (c.length:Int))):=by
  rw[ap8];simp;omega
 rw[l,e1,<-n,<-m];generalize k:decide (a<1)=A;generalize j:decide (64<a)=z;generalize i:decide ((aC.length:Int)<1)=y;generalize g:decide (8< (aC.length:Int))=w;generalize f:decide (4000< (c.length:Int))=v;generalize(aC.any λp=>!(decode p).isSome)=u at*;generalize(c.any λb=>!lE b.toNat)=t at*;clear n m l e1;cases A<;>cases z<;>cases y<;>cases w<;>cases v<;>simp only[F1,go_sem,simprocAttr,Ub,s,h.pr.bD,h.pk.bD,k,j,i,g,f,ajT,aud,auM,aBB,axG,aoC];cases u<;>cases t<;>simp(disch:=omega) only[F1,go_sem,simprocAttr,d,e,aud,auM,aBB,axG]
def aBZ(p:lB)(H:List ae)(lo:oN):
  ∃cv,D X0 (.fn (.func R7) [] []) [S p] ⟨H,lo⟩=some (.ret (.au [.agg (db {uv with code:=(decode p).getD []} cv),.int .i64 (if(decode p).isSome then 0 else 3:Nat)]) ⟨H,lo⟩)/\Rv cv 5 (((decode p).getD []).map da):=by
 obtain⟨N,c⟩: ∃N,H.length=N:=⟨_,rfl⟩;obtain⟨v,d1,d2⟩:=ao1 p (H++[.box [.ai,.int .i64 0,.int .u64 0,.int .u64 0,.int .u64 0,.int .u64 0,.int .u64 0,.int .u64 0,.int .u64 0,.int .u64 0] none]) none;have a:=cJ d2 (bz (λ_=>rfl) _);obtain⟨t1,t2⟩:=o8 (d2 ⟨[],none⟩);cases b:decode p with
 |some l=>
  rw[b]at d1 d2;refine⟨v,?_,d2⟩;refine aF GB λM d=>?_
  obtain rfl:M=N:=by omega
  simp only[F1,go_sem,simprocAttr,GB,c,d1,t1,t2,a,pO];rfl
 |none=>
  rw[b]at d1 d2;simp only[auW,ah2,ak8]at d1;refine⟨.ai,?_,.ai⟩;refine aF GB λM d=>?_
  obtain rfl:M=N:=by omega
  simp only[F1,go_sem,simprocAttr,GB,c,d1,pO];rfl
def yg(r:Runner)(cv rv:AV):lA:=db r.t cv++(bN r.c rv++[.bool r.busy,.int .i64 r.fr])
def jY(e:Event):lA:=[.int .i64 e.aa]++(bg e.c++(ay e.run++(bG e.r++[.int .i64 e.fr,.int .i64 e.to])))
def cG(m:aZ)(p:Nat)(aB aK:Nat->AV)(ev:AV):lA:=[.ptr p 0]++(arr 8 (λi=>yg (m.aA i) (aB i) (aK i))++[.int .i64 m.now,ev])
section
variable{m:aZ}{p:Nat}{aB aK:Nat->AV}{ev:AV}{i:Nat}
theorem O8: (arr 8 (λi=>yg (m.aA i) (aB i) (aK i))).length=192:=by rfl
theorem po: (cG m p aB aK ev).length=195:=by rfl
def H6{ag:Bool}{o:Nat}(h:i<8)(ho:o+k<=24)(a:0<k):Den.part ag k (cG m p aB aK ev) (1+i*24+o)=Den.part ag k (yg (m.aA i) (aB i) (aK i)) o:=by
 unfold cG;rw[ko (by grind),show 1+i*24+o- [AV.ptr p 0].length=i*24+o by grind,rK (by rw[O8];omega) a];exact jM (k:=24) (f:=λi=>yg (m.aA i) (aB i) (aK i)) (λ_=>rfl) h ho a
theorem qJ: (cG m p aB aK ev)[0]?=some (.ptr p 0):=rfl
theorem DF: (cG m p aB aK ev)[193]?=some (.int .i64 m.now):=by rfl
theorem ao2: (cG m p aB aK ev)[194]?=some ev:=by rfl
def yh(h:i<8): (cG m p aB aK ev)[1+i*24+22]?=some (.bool (m.aA i).busy):=H6 (ag:=false) (k:=1) h (by omega) (by omega)
def aB0(h:i<8): (cG m p aB aK ev)[1+i*24+23]?=some (.int .i64 (m.aA i).fr):=H6 (ag:=false) (k:=1) h (by omega) (by omega)
def O9(h:i<8):Den.part true 10 (cG m p aB aK ev) (1+i*24)=some (.agg (db (m.aA i).t (aB i))):=H6 (o:=0) h (by omega) (by omega)
def DG(h:i<8):Den.part true 12 (cG m p aB aK ev) (1+i*24+10)=some (.agg (bN (m.aA i).c (aK i))):=H6 h (by omega) (by omega)
def Pa(h:i<8):Den.part true 2 (cG m p aB aK ev) (1+i*24+19)=some (.agg (ay (m.aA i).c.run)):=H6 h (by omega) (by omega)
theorem ao3{n:Nat}:aH (cG m p aB aK ev) 193 [.int .i64 n]=cG {m with now:=n} p aB aK ev:=by rfl
def ao4:aH (cG m p aB aK ev) 194 [v]=cG m p aB aK v:=by
 unfold cG;rw[gy (by simp),gy (by rw[O8];simp),O8];rfl
def H7{o:Nat}{vs:lA}{r:Runner}{cv:AV}(h:i<8)(ho:o+vs.length<=24)(a:aH (yg (m.aA i) (aB i) (aK i)) o vs=yg r cv rv):
  aH (cG m p aB aK ev) (1+i*24+o) vs=cG {m with aA:=aq m.aA i r} p (aq aB i cv) (aq aK i rv) ev:=by
 unfold cG;rw[gy (by grind),show 1+i*24+o- [AV.ptr p 0].length=i*24+o by grind,rL (by rw[O8];omega),mT (k:=24) (f:=λi=>yg (m.aA i) (aB i) (aK i)) (λ_=>rfl) h ho,a]
 congr 2
 refine CU λj _=>?_
 by_cases e:j=i
 ·subst e;simp only[cZ]
 ·simp only[ds e]
def Zr{b:Bool}(h:i<8):aH (cG m p aB aK ev) (1+i*24+22) [.bool b]=cG {m with aA:=aq m.aA i {m.aA i with busy:=b}} p aB aK ev:=by
 have:=H7 (m:=m) (p:=p) (aB:=aB) (aK:=aK) (ev:=ev) (o:=22) (vs:=[.bool b]) (r:={m.aA i with busy:=b}) (cv:=aB i) (rv:=aK i) h (by simp) rfl;rwa[mS,mS]at this
def aB1{n:Nat}(h:i<8):aH (cG m p aB aK ev) (1+i*24+23) [.int .i64 n]=cG {m with aA:=aq m.aA i {m.aA i with fr:=n}} p aB aK ev:=by
 have:=H7 (m:=m) (p:=p) (aB:=aB) (aK:=aK) (ev:=ev) (o:=23) (vs:=[.int .i64 n]) (r:={m.aA i with fr:=n}) (cv:=aB i) (rv:=aK i) h (by simp) rfl;rwa[mS,mS]at this
def ao5{t:Task}(h:i<8):aH (cG m p aB aK ev) (1+i*24) (db t (aB i))=cG {m with aA:=aq m.aA i {m.aA i with t:=t}} p aB aK ev:=by
 have:=H7 (m:=m) (p:=p) (aB:=aB) (aK:=aK) (ev:=ev) (o:=0) (vs:=db t (aB i)) (r:={m.aA i with t:=t}) (cv:=aB i) (rv:=aK i) h (by rw[yf];omega) rfl;rwa[mS,mS]at this
def AH{c:Call}(h:i<8):aH (cG m p aB aK ev) (1+i*24+10) (bN c rv)=cG {m with aA:=aq m.aA i {m.aA i with c:=c}} p aB (aq aK i rv) ev:=by
 have:=H7 (m:=m) (p:=p) (aB:=aB) (aK:=aK) (ev:=ev) (o:=10) (vs:=bN c rv) (r:={m.aA i with c:=c}) (cv:=aB i) (rv:=rv) h (by rw[show(bN c rv).length=12 from rfl];omega) rfl;rwa[mS]at this
theorem aG1{x:Core}:cG {m with az:=x} p aB aK ev=cG m p aB aK ev:=rfl
end
def Mu2(o:ae):Prop:=Mu o\/ ∃a d,o= .row a 14 pT d
structure Fm(n:Nat)(S:lN)(H H':List ae):Prop where
 len:H.length<=H'.length
 low: ∀i,i<n->H'[i]?=H[i]?
 box: ∀i o,i∉S-> ¬Mu2 o->H[i]?=some o->H'[i]?=some o
section
variable{n:Nat}{S T:lN}{A B C H W:List ae}
theorem Fm.refl:Fm n S A A:=⟨ahT _,λ_ _=>rfl,λ_ _ _ _ h=>h⟩
theorem Fm.trans(h:Fm n S A B)(g:Fm n S B C):Fm n S A C:=⟨ajU h.len g.len,λi a=>(g.low i a).trans (h.low i a),λi o a ho b=>g.box i o a ho (h.box i o a ho b)⟩
def Fq.fm(h:Fq n S A B)(a: ∀i∈S,i∈T):Fm n T A B:=⟨h.len,h.low,λi o b ho c=>h.box i o (λq=>b (a i q)) (λq=>ho (.inl q)) c⟩
theorem Fm.set(a:p∈S)(b:n<=p)(o:ae):Fm n S A (A.set p o):=(Fq.set a b o).fm λ_ h=>h
theorem Fm.app(L:List ae)(a:n<=A.length):Fm n S A (A++L):=(Fq.app L a).fm λ_ h=>h
theorem Fm.take{N:Nat}(h:Fm n S A B)(d:A.length=N)(c:n<=N):Fm n S A (B.take N):=⟨by rw[ajM];have:=h.len;omega,λi a=>by rw[ajO (by omega)];exact h.low i a,λi o a ho b=>by
 have:=fi b;rw[ajO (by omega)];exact h.box i o a ho b⟩
def Fm.own{cs:lA}(h:Fm n S A B)(b:p∉S)(c:A[p]?=some (.box cs tg)):B[p]?=some (.box cs tg):=h.box p _ b (λq=>by rcases q with⟨a,d,q⟩| ⟨a,d,q⟩<;>cases q) c
def Fm.out(h:Fm n T H W)(e:H.length<=i)(c:n<=H.length)(o:ae):Fm n T H (W.set i o):=⟨by rw[ajB];exact h.len,λj a=>by rw[aaD (by omega)];exact h.low j a,λj o a ho b=>by
 have d:=fi b;rw[aaD (by omega)];exact h.box j o a ho b⟩
def Fm.pre{L:List ae}(h:Fm n S (H++L) W)(a:n<=H.length):Fm n S H W:=(Fm.app L a).trans h
end
structure bH(n M p q:Nat)(m:aZ)(qv ev:AV)(aB aK:Nat->AV)(H:List ae):Prop where
 nM:n<=M
 Mq:M<q
 co:dG n p q m.az qv H
 box:H[M]?=some (.box (cG m p aB aK ev) none)
 uL:c9 (M+1) H ev 14 pT (m.cP.map jY)
 cv: ∀i,Rv (aB i) 5 ((m.aA i).t.code.map da)
 rv: ∀i,Rv (aK i) 1 ((m.aA i).c.aU.map hC)
section
variable{n M p q:Nat}{m:aZ}{qv ev:AV}{aB aK:Nat->AV}{H:List ae}
def bH.lt(h:bH n M p q m qv ev aB aK H):M<H.length:=fi h.box
theorem bH.app(h:bH n M p q m qv ev aB aK H)(L:List ae):bH n M p q m qv ev aB aK (H++L):=⟨h.nM,h.Mq,h.co.app L,bf h.box,h.uL.app L,h.cv,h.rv⟩
def bH.Mn(h:bH n M p q m qv ev aB aK H):M∉[p,q]:=by have:=h.Mq;have:=h.co.qp;grind
def bH.az{W:List ae}{c:Core}{b:AV}(h:bH n M p q m qv ev aB aK H)(f:dG n p q c b W)(e:Fq n [p,q] H W):bH n M p q {m with az:=c} b ev aB aK W:=
 ⟨h.nM,h.Mq,f,e.own h.Mn h.box,h.uL.oo λid aj all hr=>e.box id _ (by
   have j:=h.co.box;have g:=h.co.ij
   grind) (λq=>by obtain⟨a,d,q⟩:=q;cases q) hr,h.cv,h.rv⟩
theorem bH.set(h:bH n M p q m qv ev aB aK H){m':aZ}{nX a:Nat->AV}(d:m'.az=m.az)(e:m'.cP=m.cP)(c: ∀i,Rv (nX i) 5 ((m'.aA i).t.code.map da))(b: ∀i,Rv (a i) 1 ((m'.aA i).c.aU.map hC)):
  bH n M p q m' qv ev nX a (H.set M (.box (cG m' p nX a ev) none)):=
 ⟨h.nM,h.Mq,d ▸ h.co.set h.box (by have:=h.Mq;have:=h.co.qp;omega) (by have:=h.Mq;omega) _,cx h.box,e ▸ h.uL.set h.box _,c,b⟩
def bH.fM(h:bH n M p q m qv ev aB aK H)(o:ae):Fm n [M,p,q] H (H.set M o):=Fm.set (by simp) h.nM o
def bH.fc{W:List ae}(h:Fq n [p,q] H W):Fm n [M,p,q] H W:=h.fm λi a=>by grind
def bH.other(h:bH n M p q m qv ev aB aK H){cs:lA}(a:H[i]?=some (.box cs tg))(d:i≠p)(c:i≠q)(b:i≠M)(o:ae):bH n M p q m qv ev aB aK (H.set i o):=
 ⟨h.nM,h.Mq,h.co.set a d c o,(aaD b).trans h.box,h.uL.set a _,h.cv,h.rv⟩
theorem bH.pa{W j:List ae}{N:Nat}{b c:AV}{d a:Nat->AV}{l:aZ}(h:bH n M p q m qv ev aB aK W)(e:j=W\/ (j=W.take N/\Q))(k:Q->qv=b/\ev=c)(g:bH n M p q l b c d a H0)(f:H0.length=N):bH n M p q m qv ev aB aK j:=
 ⟨h.nM,h.Mq,h.co.pa e (λq=>(k q).1) g.co f,O3 e (by rw[<-f];exact g.lt) h.box,c9.pa h.uL e (λq=>(k q).2) g.uL f,h.cv,h.rv⟩
end
def gI(n M p q:Nat)(H:List ae)(lo:oN)(m':aZ)(qv ev:AV)(r:AV)(d:aS):Prop:=
 ∃b c nX a H' ak,d= .ret r ⟨H',ak⟩/\bH n M p q m' b c nX a H'/\Fm n [M,p,q] H H'/\fZ (b=qv/\c=ev) p H H' lo ak
def gI.fin{n N:Nat}{o:aZ}{a c:AV}{e d:Nat->AV}{H W:List ae}{b:oN}(f:bH n M p q o a c e d H)(l:H.length=N)(h:bH n M p q m qv ev aB aK W)(g:Fm n [M,p,q] H W)(s:fE (qv=a/\ev=c) p b)(r:v.refs<=N):
  gI n M p q H lo m a c v (.ret (finish N lo v ⟨W,b⟩).1 (finish N lo v ⟨W,b⟩).2):=by
 have x:=f.lt;have w:=f.nM;have u:=f.co.lt;rcases s with⟨rfl,k⟩| ⟨j,t,rfl⟩
 ·rw[ja (.inl rfl) r];refine⟨qv,ev,aB,aK,_,lo,rfl,h.pa (.inr ⟨rfl,k⟩) id f l,g.take l (by omega),.inl ⟨rfl,?_,k⟩⟩;rw[ajM];have:=g.len;omega
 ·rw[wq (by omega)];exact⟨qv,ev,aB,aK,W,cI lo j,rfl,h,g,.inr ⟨j,t,rfl⟩⟩
structure dH(m:aZ):Prop where
 az:jW m.az
 t: ∀i,lK (m.aA i).t
 c: ∀i,fP (m.aA i).c
 fr: ∀i,(m.aA i).fr<2147483648
 now:m.now<2147483648
 ev:m.cP.length<2147483648
 run: ∀i,(m.aA i).c.run.1<=64/\ (m.aA i).c.run.2<=64
def Pb{n:Nat}{H:List ae}(h:bH n M p q m qv ev aB aK H)(t:Nat)(lo:oN):D XC (.fn (.func Bz) [] []) [.ptr M 0,.int .i64 t] ⟨H,lo⟩=some (.ret (.bool (qw m t)) ⟨H,lo⟩):=by
 refine aF MV λN e=>?_
 have d: (t:Int)>=0:=by omega
 unfold qw;by_cases c:t<8
 ·have a: (t:Int)<8:=by omega
  have b: (cF m.az q qv)[936+t]?=some (.bool (m.az.S.alive t)):=by
   have:Den.part false 1 (cF m.az q qv) (936+t)=some (.bool (m.az.S.alive t)):=by
    unfold cF;rw[rK (by rw[fe];omega) (by omega)];exact aks c
   exact this
  rw[abj c,aoC];simp(disch:=omega) only[F1,go_sem,simprocAttr,MV,d,a,h.box,h.co.box,qJ,b]
 ·have a: ¬(t:Int)<8:=by omega
  rw[abi c,ajT];simp(disch:=omega) only[F1,go_sem,simprocAttr,MV,d,a]
def ao6:jT nJ:=⟨by decide,by decide,by decide,by decide,by decide,by decide⟩
def DH:fP gB:=⟨by decide,ao6,(λh a=>by cases a),⟨by decide,by decide⟩,by decide⟩
def bH.H8{n:Nat}{H:List ae}(h:bH n M p q m qv ev aB aK H)(i:Nat)(r:Runner)(cv rv:AV)(b:Rv cv 5 (r.t.code.map da))(a:Rv rv 1 (r.c.aU.map hC)):
  bH n M p q {m with aA:=aq m.aA i r} qv ev (aq aB i cv) (aq aK i rv) (H.set M (.box (cG {m with aA:=aq m.aA i r} p (aq aB i cv) (aq aK i rv) ev) none)):=
 h.set rfl rfl (λj=>by
  show Rv (aq aB i cv j) 5 ((aq m.aA i r j).t.code.map da);by_cases e:j=i
  ·subst e;rw[cZ,cZ];exact b
  ·rw[ds e,ds e];exact h.cv j) λj=>by
  show Rv (aq aK i rv j) 1 ((aq m.aA i r j).c.aU.map hC);by_cases e:j=i
  ·subst e;rw[cZ,cZ];exact a
  ·rw[ds e,ds e];exact h.rv j
def jW.queue{x:Core}(b:jW x){r:aE}(c:r.1<=64/\r.2<=64)(d:x.Q.length+r.2<8589934592):jW (c7 x r):=by
 have f: (c7 x r).Q.length=x.Q.length+r.2:=by simp[c7,iX]
 refine⟨b.S,b.P,b.M,λk a=>?_,by omega⟩;rcases aha.1 a with a|a
 ·exact b.Q k a
 ·obtain⟨i,e,rfl⟩:=ais.1 a
  grind
def jW.cut{x:Core}(a:jW x){c:Call}(b:c.run.1<=64/\c.run.2<=64)(d:x.Q.length+c.run.2<8589934592):jW (vY x c):=by
 have:=a.queue b d;exact⟨this.S,this.P,YW this.M _,this.Q,this.Ql⟩
def ao7(x:Core)(c:Call): (vY x c).Q.length=x.Q.length+c.run.2:=by simp[vY,c7,iX]
def dH.aB3(h:dH m)(i:Nat)(a:m.az.Q.length<4294967296):dH (nK m i)/\ (nK m i).az.Q.length<=m.az.Q.length+64:=by
 unfold nK;split
 ·have hr:=h.run i;refine⟨⟨h.az.cut hr (by omega),λj=>?_,λj=>?_,λj=>?_,h.now,h.ev,λj=>?_⟩,?_⟩
  ·show lK (aq m.aA i _ j).t;unfold aq;split
   ·exact h.t i
   ·exact h.t j
  ·show fP (aq m.aA i _ j).c;unfold aq;split
   ·exact DH
   ·exact h.c j
  ·show(aq m.aA i _ j).fr<_;unfold aq;split
   ·exact h.fr i
   ·exact h.fr j
  ·show(aq m.aA i _ j).c.run.1<=64/\ (aq m.aA i _ j).c.run.2<=64;unfold aq;split
   ·exact⟨by show 0<=64;omega,by show 0<=64;omega⟩
   ·exact h.run j
  ·show(vY _ _).Q.length<=_;rw[ao7];omega
 grind
def jg(m:aZ)(k:Nat):aZ:=(List.range k).foldl nK m
def Zs(m:aZ)(k:Nat):jg m (k+1)=nK (jg m k) k:=by unfold jg;rw[arI,apm];rfl
theorem Zt{m:aZ}(h:dH m)(a:m.az.Q.length<1073741824): ∀k,k<=8->dH (jg m k)/\ (jg m k).az.Q.length<=m.az.Q.length+64*k
 |0,_=>⟨h,by show m.az.Q.length<=_;omega⟩
 |k+1,c=>by
  obtain⟨b,f⟩:=Zt h a k (by omega);obtain⟨e,d⟩:=b.aB3 k (by omega);rw[Zs]
  grind
def aB4{n:Nat}{H:List ae}(u:bH n M p q m qv ev aB aK H)(X:dH m)(Z:m.az.Q.length<1073741824)(lo:oN):
  ∃O,D XC (.fn (.func JS) [] []) [.ptr M 0] ⟨H,lo⟩=some O/\gI n M p q H lo (m0 m) qv ev (.au []) O:=by
 have ho:Old M H (.box (cG m p aB aK ev) none):=⟨u.box⟩;refine cE Ua λN L=>?_
 have H9:M<N:=by rw[<-L];exact u.lt
 have U:p<N:=by rw[<-L];exact u.co.lt
 have V:=u.nM;have hMq:=u.Mq;have S:=u.co.qp;simp only[go_sem,simprocAttr,Ua];refine gX 8 (λk e W ak=> ∃i h d g,e 0= .ptr M 0/\e 4= .int .i64 k/\bH n M p q (jg m k) i h d g W/\fE (i=qv/\h=ev) p ak/\Fm n [M,p,q] H W) 0 (by omega) ?_ ?_
 ·refine⟨qv,ev,aB,aK,?_⟩;simp only[go_sem,simprocAttr];exact⟨u,fE.no trivial,Fm.refl⟩
 rintro k hk e W ak ⟨i,h,d,g,C,B,l,r,A⟩ nn hn;simp only[bO,go_sem,simprocAttr,aiR,C,B];refine⟨λY=>?_,λY=>?_⟩
 ·have f:k<8:=by omega
  have w: (0:Int)<=k/\ (k:Int)<8:=by omega
  obtain⟨x,T⟩:=Zt X Z k (by omega);have s:=λlo=>Pb l k lo
  have hs:=Zs m k;cases y: ((jg m k).aA k).busy with
  |false=>
   have e1:nK (jg m k) k=jg m k:=aaH (by rw[y];simp);simp(disch:=omega) only[go_sem,simprocAttr,C,B,w,l.box,yh f,y];exact⟨f,i,h,d,g,by rw[hs,e1];exact l,r,A⟩
  |true=>
   cases z:qw (jg m k) k with
   |true=>
    rw[z]at s;have e1:nK (jg m k) k=jg m k:=aaH (by rw[z];simp);simp(disch:=omega) only[go_sem,simprocAttr,C,B,w,l.box,yh f,y,s];exact⟨f,i,h,d,g,by rw[hs,e1];exact l,r,A⟩
   |false=>
    rw[z]at s;have e1:nK (jg m k) k={jg m k with az:=vY (jg m k).az ((jg m k).aA k).c,aA:=aq (jg m k).aA k {(jg m k).aA k with busy:=false,c:=gB}}:=aaR ⟨y,z⟩;obtain⟨O,g1,E,W3,Q,rfl,g2,P,g4⟩:=an5 l.co x.az _ (x.c k) _ (cJ (l.rv k) (bz (λ_=>rfl) _)) ak;have j:=l.az g2 P;have R: [AV.int .i64 0,.int .u8 0,.int .u32 0,.int .u32 0,.int .u32 0,.int .u32 0,.int .u64 0,.bool false,.ai,.int .i64 0,.int .i64 0,.int .i64 0]=bN gB .ai:=rfl;have J:aG (bN gB .ai)=0:=rfl;have K: (bN gB .ai).length=12:=rfl;have I:1+k*24+22+1<=195:=by omega
    have G:1+k*24+10+12<=195:=by omega
    have F:=λo=>cx (o:=o) j.box
    simp(disch:=omega) only[go_sem,simprocAttr,C,B,w,l.box,yh f,qJ,↓DG f,y,s,g1,j.box,po,Zr f,AH f,R,J,K,I,G,F,amC,ua,cZ];have t:=j.H8 k {(jg m k).aA k with busy:=false,c:=gB} (d k) .ai (j.cv k) .ai;rw[mS]at t;refine⟨f,E,h,d,aq g k .ai,?_,r.step g4 (λa b=>⟨b.trans a.1,a.2⟩),(A.trans (bH.fc P)).trans (j.fM _)⟩;rw[hs,e1];exact t
 ·obtain rfl:k=8:=by omega
  exact gI.fin (v:=.au []) u L l A r (abX _)
def Zu(a:aE)(b n:Nat)(i:a.2<4294967296)(l:b<17179869184/\n<17179869184)(H:List ae)(lo:oN):
  D XC (.fn (.func E3) [] []) [.agg (ay a),.int .i64 b,.int .i64 n] ⟨H,lo⟩=some (.ret (.agg (ay (handed a b n))) ⟨H,lo⟩):=by
 refine aF CH λN f=>?_
 have m: (ay a)[1]?=some (.int .i64 a.2):=rfl;have j: ∀r,List.take 2 (ay r)=ay r:=λ_=>rfl
 have k: ∀r,List.drop 2 (ay r)=[]:=λ_=>rfl
 have g: ∀r:aE,(ay r).length=2:=λ_=>rfl
 have hr: ∀r,aG (ay r)=0:=λ_=>rfl
 unfold handed;by_cases h:0<a.2
 ·have d:decide (0< ((a.2:Nat):Int))=true:=abj (by omega);by_cases e:a.2<=n-b
  ·have c:decide (((a.2:Nat):Int)<=(n:Int)-b)=true:=abj (by omega);rw[aaR ⟨e,h⟩];simp(disch:=omega) only[F1,go_sem,simprocAttr,CH,f,d,c,Br];rfl
  ·have c:decide (((a.2:Nat):Int)<=(n:Int)-b)=false:=abi (by omega);rw[aaH (λq=>e q.1)];simp(disch:=omega) only[F1,go_sem,simprocAttr,CH,f,c,g,hr,Br]
 ·have d:decide (0< ((a.2:Nat):Int))=false:=abi (by omega);rw[aaH (λq=>h q.2)];by_cases e: ((a.2:Nat):Int)<=(n:Int)-b
  ·have c:decide (((a.2:Nat):Int)<=(n:Int)-b)=true:=abj e;simp(disch:=omega) only[F1,go_sem,simprocAttr,CH,f,d,c,g,hr,Br]
  ·have c:decide (((a.2:Nat):Int)<=(n:Int)-b)=false:=abi e;simp(disch:=omega) only[F1,go_sem,simprocAttr,CH,f,c,g,hr,Br]
def bH.ao9{n:Nat}{H W:List ae}(h:bH n M p q m qv ev aB aK H){e:Event}(g:c9 (M+1) W v 14 pT ((m.cP++[e]).map jY))(b: ∀ (i:Nat) (o:ae),(∀a d,o≠ae.row a 14 pT d)->H[i]?=some o->W[i]?=some o):
  bH n M p q {m with cP:=m.cP++[e]} qv v aB aK (W.set M (.box (cG {m with cP:=m.cP++[e]} p aB aK v) none)):=by
 have c: ∀cs tg,∀a d,ae.box cs tg≠ .row a 14 pT d:=λ_ _ _ _ e=>by cases e
 have f:=b M _ (c _ _) h.box;have k:=h.Mq;have j:=h.co.qp;refine⟨h.nM,h.Mq,⟨h.co.mp,h.co.mq,h.co.qp,(aaD (by omega)).trans (b p _ (c _ _) h.co.box),(aaD (by omega)).trans (b q _ (c _ _) h.co.ij),?_⟩,cx f,g.set f _,h.cv,h.rv⟩;exact(h.co.iG.oo λid aj all hr=>b id _ (λa d e=>by cases e) hr).set f _
def apa{n:Nat}{H W:List ae}(h:bH n M p q m qv ev aB aK H)(j:H.length<=W.length)(k: ∀i,i<M+1->W[i]?=H[i]?)(f: ∀ (i:Nat) (o:ae),(∀a d,o≠ae.row a 14 pT d)->H[i]?=some o->W[i]?=some o)(o:ae):Fm n [M,p,q] H (W.set M o):=by
 have g:=h.nM;refine⟨by grind,λi b=>by grind,λi o' b ho c=>?_⟩;rw[aaD (by grind)];exact f i o' (λa d e=>ho (.inr ⟨a,d,e⟩)) c
def aB5(t:Task)(r:bF): (uu t r).code=t.code:=by
 unfold uu;grind
def Zv{n:Nat}{H:List ae}(f:bH n M p q m qv ev aB aK H)(Y:dH m)(t:Nat)(i:t<8)(c:Call)(rv:AV)(hrv:rv.refs=0)(run:aE)(r:bF)(hr:r.w<4294967296/\r.e<4294967296)(lo:oN):
  ∃Z,D XC (.fn (.func Sm) [] []) [.ptr M 0,.int .i64 t,.agg (bN c rv),.agg (ay run),.agg (bG r)] ⟨H,lo⟩=some Z/\gI n M p q H lo (N8 m t c run r) qv ev (.au []) Z:=by
 refine cE Uw λN l=>?_
 have H9:M<N:=by rw[<-l];exact f.lt
 have o7:p<N:=by rw[<-l];exact f.co.lt
 have hb:=λL=>bf (L:=L) f.box
 have I: (0:Int)<=t/\ (t:Int)<8:=by omega
 have K:Den.part true 6 (bN c rv) 1=some (.agg (bg c.c)):=rfl;have hlr: ∀r:aE,List.take 2 (ay r)=ay r:=λ_=>rfl
 have Xy: ∀r:aE,(ay r).length=2:=λ_=>rfl
 have hls: ∀r:bF,List.take 3 (bG r)=bG r:=λ_=>rfl
 have T: ∀c:cz,bg c=[.int .u8 c.op,.int .u32 c.r,.int .u32 c.s,.int .u32 c.a,.int .u32 c.b,.int .u64 c.v]:=λ_=>rfl
 have j: ∀r:aE,ay r=[.int .i64 r.1,.int .i64 r.2]:=λ_=>rfl
 have h: ∀r:bF,bG r=[.int .i64 r.e,.int .u64 r.v,.int .u32 r.w]:=λ_=>rfl
 have R: ∀a b:Nat,[AV.int .i64 (t:Int),.int .u8 c.c.op,.int .u32 c.c.r,.int .u32 c.c.s,.int .u32 c.c.a,.int .u32 c.c.b,.int .u64 c.c.v,.int .i64 run.1,.int .i64 run.2,.int .i64 r.e,.int .u64 r.v,.int .u32 r.w,.int .i64 a,.int .i64 b]=jY ⟨t,c.c,run,r,a,b⟩:=λ_ _=>rfl
 obtain⟨B,hB⟩: ∃B:List ae,B=[.box (bN c rv) none,.box (ay run) none,.box (bG r) none]:=⟨_,rfl⟩;have w:=f.app B;obtain⟨v',W,g1,g2,g3,g4,x,g6,g7,g8⟩:=c9.append (bytes:=96) (lo:=none) (y:=jY ⟨t,c.c,run,r,(m.aA t).fr,m.now⟩) w.uL (by have:=w.lt;omega) (by omega) rfl rfl (by rw[ahX];have:=Y.ev;unfold room;omega);have eE:m.cP.map jY++[jY ⟨t,c.c,run,r,(m.aA t).fr,m.now⟩]=(m.cP++[(⟨t,c.c,run,r,(m.aA t).fr,m.now⟩:Event)]).map jY:=by rw[aiw];rfl
 rw[eE]at g2;have u:=w.ao9 g2 x;have U:=apa w g3 g4 x (.box (cG {m with cP:=m.cP++[⟨t,c.c,run,r,(m.aA t).fr,m.now⟩]} p aB aK v') none);rw[hB]at g1;rw[j,h]at g1;have S: ∀e,(jY e).length=14:=λ_=>rfl
 have het: ∀e,List.take 14 (jY e)=jY e:=λ_=>rfl
 have X: ∀cs tg,∀a d,ae.box cs tg≠ .row a 14 pT d:=λ_ _ _ _ e=>by cases e
 have V:=x M _ (X _ _) w.box;have wr:=x (N+2) _ (X _ _) (show(H++B)[N+2]?=some (.box (bG r) none) by rw[hB,bw l];rfl);rw[h]at wr;have J:=λo=>cx (o:=o) V
 have z: ∀o,(W.set M o)[N+2]?=_:=λo=>(aaD (by omega)).trans wr
 have E: ¬v'.refs<=M+1:=by omega
 have G: ∀H lo,D XC (.fn (.func J7) [] []) [.agg (db (m.aA t).t (aB t)),.agg [.int .i64 r.e,.int .u64 r.v,.int .u32 r.w]] ⟨H,lo⟩=some (.ret (.agg (db (uu (m.aA t).t r) (aB t))) ⟨H,lo⟩):=λH lo=>c0 (aBC (f.cv t) (Y.t t) r hr H lo)
 have k:=cJ (f.cv t) (bz (λ_=>rfl) _);have F:=λt'=>HX (t:=t') k
 have hz: [AV.int .i64 0,.int .u8 0,.int .u32 0,.int .u32 0,.int .u32 0,.int .u32 0,.int .u64 0,.bool false,.ai,.int .i64 0,.int .i64 0,.int .i64 0]=bN gB .ai:=rfl;have A:aG (bN gB .ai)=0:=rfl;have C: (bN gB .ai).length=12:=rfl;have Q:1+t*24+10<=195:=by omega
 have P:1+t*24+22+1<=195:=by omega
 have O:1+t*24+10+12<=195:=by omega
 simp only[go_sem,simprocAttr,Uw,l,I,hb,DF,ao2,aB0 i,↓K,T,j,h,R,S,het,g1,g6,g7,E,V,z,J,ao4,po,↓O9 i,G,F,ao5 i,Zr i,AH i,hz,A,C,Q,P,O,amC,ua,cZ,yf];have g:=u.H8 t {m.aA t with t:=uu (m.aA t).t r,busy:=false,c:=gB} (aB t) .ai (by rw[aB5];exact f.cv t) .ai;rw[mS,amC]at g;have s:=(Fm.app B (by have:=f.nM;omega)).trans (U.trans (u.fM (.box (cG {m with cP:=m.cP++[⟨t,c.c,run,r,(m.aA t).fr,m.now⟩],aA:=aq m.aA t {m.aA t with t:=uu (m.aA t).t r,busy:=false,c:=gB}} p aB (aq aK t .ai) v') none)));rw[amC]at s;exact gI.fin (v:=.au []) f l g s (.inr ⟨M,by have:=f.Mq;have:=f.co.qp;omega,rfl⟩) (abX _)
def yi(m:aZ)(t:Nat):aZ:={m with az:=(gA m.az (m.aA t).c).x,aA:=aq m.aA t {m.aA t with c:=(gA m.az (m.aA t).c).c}}
def Zw(m:aZ)(t:Nat):aE:=if(gA m.az (m.aA t).c).r.e≠0\/ (gA m.az (m.aA t).c).c.c.op≠2 then(0,0)else(m.aA t).c.run
theorem apb(m:aZ)(t:Nat):xQ m t=if(gA m.az (m.aA t).c).ended then N8 (yi m t) t (gA m.az (m.aA t).c).c (handed (Zw m t) m.az.Q.length (gA m.az (m.aA t).c).x.Q.length) (gA m.az (m.aA t).c).r else yi m t:=rfl
def apc{n:Nat}{H:List ae}(hD: ∀op,mo op)(g:bH n M p q m qv ev aB aK H)(hm:dH m)(t:Nat)(j:t<8)(hQ:m.az.Q.length<2147483648)
  (hd:sj (dR (eL ⟨m.az,(m.aA t).c,b8,false⟩).x.S (eL ⟨m.az,(m.aA t).c,b8,false⟩).c.aa (eL ⟨m.az,(m.aA t).c,b8,false⟩).c.c (eL ⟨m.az,(m.aA t).c,b8,false⟩).c.run) (m.aA t).c.c)
  (B:dH (yi m t)) (hr: (gA m.az (m.aA t).c).r.w<4294967296/\ (gA m.az (m.aA t).c).r.e<4294967296) (pM: (gA m.az (m.aA t).c).c.c.op<256) (lo:oN):
  ∃cr,D XC (.fn (.func JZ) [] []) [.ptr M 0,.int .i64 t] ⟨H,lo⟩=some cr/\gI n M p q H lo (xQ m t) qv ev (.au []) cr:=by
 refine cE CG λN z=>?_
 have H9:M<N:=by rw[<-z];exact g.lt
 have o7:p<N:=by rw[<-z];exact g.co.lt
 have hMq:=g.Mq;have Zi:=g.co.qp;have Zx:=g.nM;have P: (0:Int)<=t/\ (t:Int)<8:=by omega
 have hb:=λL=>bf (L:=L) g.box
 have hcb:=λL=>bf (L:=L) g.co.box
 have Qu:=λL lo=>((g.app L).co.iG.rd (lo:=lo)).bD
 have hrz:=cJ (g.rv t) (bz (λ_=>rfl) _);obtain⟨cr,g1,Zy,h,W,G,rfl,g2,g3,g4,g5⟩:=aBA hD (g.co.app [.box (ay (m.aA t).c.run) none,.box wy none,.box nW none]) hm.az (hm.c t) (g.rv t) hd hQ none;rw[apb];have R: ∀r:aE,(ay r).length=2:=λ_=>rfl
 have DI: ∀r:aE,List.take 2 (ay r)=ay r:=λ_=>rfl
 have pL: ∀r:aE,List.drop 2 (ay r)=[]:=λ_=>rfl
 have Q: ∀r:aE,aG (ay r)=0:=λ_=>rfl
 have O: [AV.int .i64 0,.int .u8 0,.int .u32 0,.int .u32 0,.int .u32 0,.int .u32 0,.int .u64 0,.bool false,.ai,.int .i64 0,.int .i64 0,.int .i64 0]=wy:=rfl;have I: [AV.int .i64 0,.int .u64 0,.int .u32 0]=nW:=rfl;generalize hs:gA m.az (m.aA t).c=s at*;have e:=λlo=>(g.co.iG.rd (lo:=lo)).bD
 have nM1:N∉[p,q]:=by simp;omega
 have nM2:N+1∉[p,q]:=by simp;omega
 have nM3:N+2∉[p,q]:=by simp;omega
 have v0:=g4.own nM1 (by rw[dn z];rfl);have v1:=g4.own nM2 (by rw[bw z];rfl);have v2:=g4.own nM3 (by rw[bw z];rfl);have hA:=(g.app [.box (ay (m.aA t).c.run) none,.box wy none,.box nW none]).az g2 g4;have J:wy.length=12:=rfl;have l:nW.length=3:=rfl;have K:List.drop 12 wy=[]:=rfl;have u:List.drop 3 nW=[]:=rfl;have Z: ∀c rv,(bN c rv).length=12:=λ_ _=>rfl
 have X: ∀c rv,List.take 12 (bN c rv)=bN c rv:=λ_ _=>rfl
 have w:=cJ g3 (bz (λ_=>rfl) _);have Y:=Y8 s.c w;have s1:=λo=>cx (o:=o) v1
 have y: ∀o,(W.set (N+1) o)[N+2]?=_:=λo=>(aaD (by omega)).trans v2
 have vM: ∀o o',((W.set (N+1) o).set (N+2) o')[M]?=_:=λo o'=>(aaD (by omega)).trans ((aaD (by omega)).trans hA.box)
 have A: ∀o o':ae,((W.set (N+1) o).set (N+2) o')[N+1]?=some o:=λo o'=>(aaD (by omega)).trans (s1 o)
 have T:1+t*24+10+12<=195:=by omega
 have DJ:=((hA.other v1 (by omega) (by omega) (by omega) (.box (bN s.c h) none)).other (y _) (by omega) (by omega) (by omega) (.box (bG s.r) none));have k:=DJ.H8 t {m.aA t with c:=s.c} (aB t) h (g.cv t) g3;rw[mS]at k;have F:Fm n [M,p,q] H (((W.set (N+1) (.box (bN s.c h) none)).set (N+2) (.box (bG s.r) none)).set M (.box (cG {m with az:=s.x,aA:=aq m.aA t {m.aA t with c:=s.c}} p aB (aq aK t h) ev) none)):=by
  have h1:=((bH.fc (M:=M) g4).pre (by omega)).out (i:=N+1) (by omega) (by omega) (.box (bN s.c h) none);exact(h1.out (i:=N+2) (by omega) (by omega) (.box (bG s.r) none)).trans (DJ.fM _)
 have S:fE (Zy=qv/\ev=ev) p G:=(fZ.n g5).imp (λq=>⟨q.1,q.2,rfl⟩) id;obtain⟨W3,C⟩: ∃W3,W3=((W.set (N+1) (.box (bN s.c h) none)).set (N+2) (.box (bG s.r) none)).set M (.box (cG {m with az:=s.x,aA:=aq m.aA t {m.aA t with c:=s.c}} p aB (aq aK t h) ev) none):=⟨_,rfl⟩;have x:=C.symm;have DK:N+1+1=N+2:=rfl;have w0:W3[N]?=some (.box (ay (m.aA t).c.run) none):=by rw[C,aaD (by omega),aaD (by omega),aaD (by omega)];exact v0
 have w1:W3[N+1]?=some (.box (bN s.c h) none):=by rw[C,aaD (by omega)];exact A _ _
 have w2:W3[N+2]?=some (.box (bG s.r) none):=by rw[C,aaD (by omega)];exact cx (y _)
 rw[<-C]at k F;have DL: (bG s.r)[0]?=some (.int .i64 s.r.e):=rfl;have hc1: (bN s.c h)[1]?=some (.int .u8 s.c.c.op):=rfl;have eM:yi m t={m with az:=s.x,aA:=aq m.aA t {m.aA t with c:=s.c}}:=by unfold yi;rw[hs]
 have eR:Zw m t=if s.r.e≠0\/s.c.c.op≠2 then(0,0)else(m.aA t).c.run:=by unfold Zw;rw[hs]
 rw[eM]at B⊢;rw[eR];have hqb:s.x.Q.length<8589934592:=B.az.Ql;have A6:=hm.run t;cases U:s.ended with
 |false=>
  simp only[go_sem,simprocAttr,CG,z,P,g.box,g.co.box,hb,qJ,KL,↓KL,e,↓Pa j,R,Q,↓DG j,O,I,g1,v1,y,vM,A,J,l,K,u,Z,X,Y,uG,sh,po,AH j,T,U,DK,x];exact gI.fin (v:=.au []) g z k F S (abX _)
 |true=>
  by_cases he:s.r.e=0
  ·have V:decide (((s.r.e:Nat):Int)=0)=true:=abj (by omega);by_cases ho:s.c.c.op=2
   ·have ZA:decide (((s.c.c.op:Nat):Int)=2)=true:=abj (by omega);rw[aaR rfl,aaH (by omega)];have f:=k;have E:=F;have d:=λlo=>(f.co.iG.rd (lo:=lo)).bD
    have hh:=λH lo=>Zu (m.aA t).c.run m.az.Q.length s.x.Q.length (by skip;omega) (by omega) H lo
    obtain⟨cr,g6,qv6,ev6,aph,api,W6,lo6,rfl,g7,g8,g9⟩:=Zv f B t j s.c h w (handed (m.aA t).c.run m.az.Q.length s.x.Q.length) s.r hr G;simp only[go_sem,simprocAttr,CG,z,P,g.box,g.co.box,hb,qJ,KL,↓KL,e,↓Pa j,R,Q,↓DG j,O,I,g1,v1,y,vM,A,J,l,K,u,Z,X,Y,uG,yb,sh,po,AH j,T,U,DK,x,w0,w1,w2,DL,hc1,V,ZA,k.box,f.co.box,d,hh,g6];exact gI.fin (v:=.au []) g z g7 (E.trans g8) (S.step g9 λa b=>⟨b.1.trans a.1,b.2.trans a.2⟩) (abX _)
   ·have ZA:decide (((s.c.c.op:Nat):Int)=2)=false:=abi (by omega);rw[aaR rfl,aaR (.inr ho)];have f:=k.other w0 (by omega) (by omega) (by omega) (.box [.int .i64 0,.int .i64 0] none);have E:=F.out (i:=N) (by omega) (by omega) (.box [.int .i64 0,.int .i64 0] none);have u0:=λo=>cx (o:=o) w0
    have u1: ∀o,(W3.set N o)[N+1]?=_:=λo=>(aaD (by omega)).trans w1
    have u2: ∀o,(W3.set N o)[N+2]?=_:=λo=>(aaD (by omega)).trans w2
    have d:=λlo=>(f.co.iG.rd (lo:=lo)).bD
    have hh: ∀H lo,D XC (.fn (.func E3) [] []) [.agg [.int .i64 0,.int .i64 0],.int .i64 m.az.Q.length,.int .i64 s.x.Q.length] ⟨H,lo⟩=some (.ret (.agg (ay (handed (0,0) m.az.Q.length s.x.Q.length))) ⟨H,lo⟩):=λH lo=>Zu (0,0) m.az.Q.length s.x.Q.length (by show 0<4294967296;omega) (by omega) H lo
    obtain⟨cr,g6,qv6,ev6,aph,api,W6,lo6,rfl,g7,g8,g9⟩:=Zv f B t j s.c h w (handed (0,0) m.az.Q.length s.x.Q.length) s.r hr G;simp only[go_sem,simprocAttr,CG,z,P,g.box,g.co.box,hb,qJ,KL,↓KL,e,↓Pa j,R,pL,Q,↓DG j,O,I,g1,v1,y,vM,A,J,l,K,u,Z,X,Y,uG,yb,sh,po,AH j,T,U,DK,x,w0,w1,w2,DL,hc1,V,ZA,u0,u1,u2,f.box,f.co.box,d,hh,g6];exact gI.fin (v:=.au []) g z g7 (E.trans g8) (S.step g9 λa b=>⟨b.1.trans a.1,b.2.trans a.2⟩) (abX _)
  ·have V:decide (((s.r.e:Nat):Int)=0)=false:=abi (by omega);rw[aaR rfl,aaR (.inl he)];have f:=k.other w0 (by omega) (by omega) (by omega) (.box [.int .i64 0,.int .i64 0] none);have E:=F.out (i:=N) (by omega) (by omega) (.box [.int .i64 0,.int .i64 0] none);have u0:=λo=>cx (o:=o) w0
   have u1: ∀o,(W3.set N o)[N+1]?=_:=λo=>(aaD (by omega)).trans w1
   have u2: ∀o,(W3.set N o)[N+2]?=_:=λo=>(aaD (by omega)).trans w2
   have d:=λlo=>(f.co.iG.rd (lo:=lo)).bD
   have hh: ∀H lo,D XC (.fn (.func E3) [] []) [.agg [.int .i64 0,.int .i64 0],.int .i64 m.az.Q.length,.int .i64 s.x.Q.length] ⟨H,lo⟩=some (.ret (.agg (ay (handed (0,0) m.az.Q.length s.x.Q.length))) ⟨H,lo⟩):=λH lo=>Zu (0,0) m.az.Q.length s.x.Q.length (by show 0<4294967296;omega) (by omega) H lo
   obtain⟨cr,g6,qv6,ev6,aph,api,W6,lo6,rfl,g7,g8,g9⟩:=Zv f B t j s.c h w (handed (0,0) m.az.Q.length s.x.Q.length) s.r hr G;simp only[go_sem,simprocAttr,CG,z,P,g.box,g.co.box,hb,qJ,KL,↓KL,e,↓Pa j,R,pL,Q,↓DG j,O,I,g1,v1,y,vM,A,J,l,K,u,Z,X,Y,uG,yb,sh,po,AH j,T,U,DK,x,w0,w2,DL,V,u0,u1,u2,f.box,f.co.box,d,hh,g6];exact gI.fin (v:=.au []) g z g7 (E.trans g8) (S.step g9 λa b=>⟨b.1.trans a.1,b.2.trans a.2⟩) (abX _)
structure apk(m:aZ)(t:Nat):Prop where
 d:sj (dR (eL ⟨m.az,(m.aA t).c,b8,false⟩).x.S (eL ⟨m.az,(m.aA t).c,b8,false⟩).c.aa (eL ⟨m.az,(m.aA t).c,b8,false⟩).c.c (eL ⟨m.az,(m.aA t).c,b8,false⟩).c.run) (m.aA t).c.c
 m':dH (yi m t)
 r: (gA m.az (m.aA t).c).r.w<4294967296/\ (gA m.az (m.aA t).c).r.e<4294967296
 op: (gA m.az (m.aA t).c).c.c.op<256
def aB9{t:Task}(h:lK t):jT (iB t).1:=by
 unfold iB;split
 ·exact⟨by decide,by decide,by decide,by decide,by decide,by decide⟩
 ·rename_i x a;have ho:=H4 h a;split
  ·exact⟨by decide,by decide,by decide,by decide,by decide,by decide⟩
  ·split
   ·exact ao6
   ·have c:=ho.op;have b:=ho.n;exact⟨by grind,als _ (by omega),als _ (by omega),als _ (by omega),by grind,h.aU 5⟩
def aCa(t:Task): (r8 t).code=t.code:=by
 unfold r8
 grind
def Pc(m:aZ)(t:Nat):aZ:={m with aA:=aq m.aA t {m.aA t with c:={gB with aa:=t,c:=(iB (m.aA t).t).1},busy:=true,fr:=m.now}}
def dH.wanted(h:dH m)(a:t<8):dH (Pc m t):=by
 refine⟨h.az,λj=>?_,λj=>?_,λj=>?_,h.now,h.ev,λj=>?_⟩
 ·show lK (aq m.aA t _ j).t;unfold aq;split
  ·exact h.t t
  ·exact h.t j
 ·show fP (aq m.aA t _ j).c;unfold aq;split
  ·exact⟨by grind,aB9 (h.t t),DH.aU,DH.run,DH.fh⟩
  ·exact h.c j
 ·show(aq m.aA t _ j).fr<_;unfold aq;split
  ·exact h.now
  ·exact h.fr j
 ·show(aq m.aA t _ j).c.run.1<=64/\ (aq m.aA t _ j).c.run.2<=64;unfold aq;split
  ·exact⟨by show 0<=64;omega,by show 0<=64;omega⟩
  ·exact h.run j
def aCb{n:Nat}{H:List ae}(hD: ∀op,mo op)(b:bH n M p q m qv ev aB aK H)(y:dH m)(t:Nat)(d:t<8)(F:m.az.Q.length<2147483648)
  (A: ∀m,dH m->m.az.Q.length<2147483648->apk m t) (lo:oN):
  ∃s,D XC (.fn (.func R0) [] []) [.ptr M 0,.int .i64 t] ⟨H,lo⟩=some s/\gI n M p q H lo (Ag m t) qv ev (.au []) s:=by
 refine cE GA λN i=>?_
 have H9:M<N:=by rw[<-i];exact b.lt
 have o7:p<N:=by rw[<-i];exact b.co.lt
 have Zx:=b.nM;have k: (0:Int)<=t/\ (t:Int)<8:=by omega
 have E:=λL=>bf (L:=L) b.box
 have hw:=λH lo=>c0 (Zo (b.cv t) (y.t t) H lo)
 have j: [AV.int .u8 0,.int .u32 0,.int .u32 0,.int .u32 0,.int .u32 0,.int .u64 0]=bg nJ:=rfl;have Y: ∀c,(bg c).length=6:=λ_=>rfl
 have Z: ∀c,List.drop 6 (bg c)=[]:=λ_=>rfl
 have ct: ∀c,List.take 6 (bg c)=bg c:=λ_=>rfl
 have s: ∀c,aG (bg c)=0:=λ_=>rfl
 have z:=cJ (b.cv t) (bz (λ_=>rfl) _);have B:=b.app [.box (bg (iB (m.aA t).t).1) none];unfold Ag;dsimp only;cases h: (m.aA t).busy with
 |true=>
  have g:=A m y F;obtain⟨X,g1,G,W,C,u,W6,I,rfl,V,U,T⟩:=apc hD B y t d F g.d g.m' g.r g.op none;simp only[go_sem,simprocAttr,GA,i,k,b.box,E,↓O9 d,yh d,h,hw,j,Y,Z,s,g1];exact gI.fin (v:=.au []) b i V (U.pre (by omega)) (fZ.n T) (abX _)
 |false=>
  cases w: (iB (m.aA t).t).2 with
  |true=>
   rw[w]at hw;have x:=y.wanted d;have g:=A (Pc m t) x F;have a:=B.H8 t {m.aA t with c:={gB with aa:=t,c:=(iB (m.aA t).t).1},busy:=true,fr:=m.now} (aB t) .ai (b.cv t) .ai;rw[mS]at a;obtain⟨X,g1,G,W,C,u,W6,I,rfl,V,U,T⟩:=apc hD a x t d F g.d g.m' g.r g.op none;have P:1+t*24+10+12<=195:=by omega
   have Q:1+t*24+22+1<=195:=by omega
   have l:1+t*24+23+1<=195:=by omega
   have O:=λL o=>cx (o:=o) (E L)
   have r:AV.int .i64 (t:Int):: (bg (iB (m.aA t).t).1++[.bool false,.ai,.int .i64 0,.int .i64 0,.int .i64 0])=bN {gB with aa:=t,c:=(iB (m.aA t).t).1} .ai:=rfl;have R: ∀c,aG (bN c .ai)=0:=λ_=>rfl
   have S: ∀c,(bN c .ai).length=12:=λ_=>rfl
   have f:AV.bool (m.aA t).busy= .bool false:=by rw[h]
   simp only[go_sem,simprocAttr,GA,i,k,b.box,E,DF,↓O9 d,yh d,f,hw,j,Y,Z,ct,s,O,amC,r,R,S,AH d,Zr d,aB1 d,ua,cZ,po,l,Q,P,g1];have hf:Fm n [M,p,q] H ((H++[ae.box (bg (iB (m.aA t).t).1) none]).set M (ae.box (cG (Pc m t) p aB (aq aK t .ai) ev) none)):=(Fm.app _ (by omega)).trans (B.fM _);exact gI.fin (v:=.au []) b i V (hf.trans U) (fZ.n T) (abX _)
  |false=>
   rw[w]at hw;have K:=λH lo=>c0 (aBL (b.cv t) (y.t t) H lo)
   have a:=B.H8 t {m.aA t with t:=r8 (m.aA t).t} (aB t) (aK t) (by rw[aCa];exact b.cv t) (b.rv t);rw[mS,mS]at a;have J:=λt'=>HX (t:=t') z
   have l:1+t*24+10<=195:=by omega
   have f:AV.bool (m.aA t).busy= .bool false:=by rw[h]
   simp only[go_sem,simprocAttr,GA,i,k,b.box,E,↓O9 d,yh d,f,hw,j,Y,Z,s,K,J,ao5 d,po,l,yf];have e: (⟨r8 (m.aA t).t,(m.aA t).c,false,(m.aA t).fr⟩:Runner)={m.aA t with t:=r8 (m.aA t).t}:=by rw[<-h]
   rw[e];exact gI.fin (v:=.au []) b i a ((Fm.app _ (by omega)).trans (B.fM _)) (fE.no ⟨rfl,rfl⟩) (abX _)
def dG.aCc{n:Nat}{x:Core}{H W:List ae}(h:dG n p q x qv H)(r:c9 (p+1) W v 1 nh ((x.Q++[k]).map je))(s:H.length<=W.length)(t: ∀i,i<p+1->W[i]?=H[i]?)(b: ∀ (i:Nat) (o:ae),(∀a d,o≠ae.row a 1 nh d)->H[i]?=some o->W[i]?=some o):
  dG n p q {x with Q:=x.Q++[k]} v (W.set p (.box (cF x q v) none))/\Fq n [p,q] H (W.set p (.box (cF x q v) none)):=by
 have c: ∀cs tg,∀a d,ae.box cs tg≠ .row a 1 nh d:=λ_ _ _ _ e=>by cases e
 have f:=b p _ (c _ _) h.box;have g:=h.qp;have j:=h.mp;refine⟨⟨h.mp,h.mq,h.qp,cx f,(aaD (by omega)).trans (b q _ (c _ _) h.ij),r.set f _⟩,⟨by grind,λi l=>?_,λi o l ho m=>?_⟩⟩
 ·grind
 ·rw[aaD (by grind)];exact b i o (λa d e=>ho ⟨a,d,e⟩) m
theorem apl: ∀ (l:List aE) (x:Core) (s:bI),l.foldl c7 {x with S:=s}={l.foldl c7 x with S:=s}
 | [],_,_=>rfl
 |r::l,x,s=>apl l (c7 x r) s
def fF:cz:={nJ with op:=20}
def jZ(m:aZ)(d:bI×bF×List aE)(k:Nat):Core:=(d.2.2.take k).foldl c7 {m.az with S:=d.1}
def aCd{n:Nat}{H:List ae}(hD: ∀op,mo op)(x:bH n M p q m qv ev aB aK H)(hm:dH m)(t:Nat)(ht:t<8)(hQ:m.az.Q.length<2147483648)
  (hd:sj (dR m.az.S t fF (0,0)) fF) (lo:oN):
  ∃cr,D XC (.fn (.func RZ) [] []) [.ptr M 0,.int .i64 t] ⟨H,lo⟩=some cr/\gI n M p q H lo (C6 m t) qv ev (.au []) cr:=by
 refine cE T9 λN hN=>?_
 have H9:M<N:=by rw[<-hN];exact x.lt
 have o7:p<N:=by rw[<-hN];exact x.co.lt
 have Zx:=x.nM;have hMq:=x.Mq;have Zi:=x.co.qp;have hb:=λL=>bf (L:=L) x.box
 have hcb:=λL=>bf (L:=L) x.co.box
 have hcx:jT fF:=⟨by decide,by decide,by decide,by decide,by decide,by decide⟩;obtain⟨bv,d1,d2⟩:=YS m.az.S hm.az.S t (by omega) fF hcx (0,0) ⟨show 0<4294967296 by omega,show 0<4294967296 by omega⟩ (hD _) (H++[.box (bg fF) none,.box pV none,.box nW none]) none;have d1:=cB d1;have eS:C6 m t={m with az:=jZ m (dR m.az.S t fF (0,0)) (dR m.az.S t fF (0,0)).2.2.length,cP:=m.cP++[⟨t,fF,(0,0),(dR m.az.S t fF (0,0)).2.1,m.now,m.now⟩]}:=by
  unfold jZ;rw[aiv,apl];rfl
 rw[eS];generalize dR m.az.S t fF (0,0)=d at*;have hz: [AV.int .u8 20,.int .u32 0,.int .u32 0,.int .u32 0,.int .u32 0,.int .u64 0]=bg fF:=rfl;have DL:ay (0,0)=[.int .i64 0,.int .i64 0]:=rfl;rw[DL]at d1;have hzr: [AV.int .i64 0,.int .u64 0,.int .u32 0]=nW:=rfl;have cl: ∀c,(bg c).length=6:=λ_=>rfl
 have cd: ∀c,List.drop 6 (bg c)=[]:=λ_=>rfl
 have ct: ∀c,List.take 6 (bg c)=bg c:=λ_=>rfl
 have cr: ∀c,aG (bg c)=0:=λ_=>rfl
 have U:nW.length=3:=rfl;have V:List.drop 3 nW=[]:=rfl;have hA:=(x.app [.box (bg fF) none,.box (bB d.1) none,.box (bG d.2.1) none]);have I:=hA.az (hA.co.an2 d.1) (hA.co.fp _);have G:=bH.fc (M:=M) (hA.co.fp (.box (cF {m.az with S:=d.1} q qv) none));have DK:N+1+1=N+2:=rfl;simp only[go_sem,simprocAttr,T9,hN,DK,hb,hcb,qJ,KL,↓KL,KS,hz,hzr,cl,ct,cr,d1,DZ,oK,sh,U,V,d2.bD];refine gX d.2.2.length (λk e W ak=> ∃o,e 0= .ptr M 0/\e 1= .int .i64 t/\e 4= .ptr N 0/\e 6= .ptr (N+2) 0/\e 34=bv/\e 35= .int .i64 d.2.2.length/\e 36= .int .i64 k/\bH n M p q {m with az:=jZ m d k} o ev aB aK W/\fE (o=qv/\ev=ev) p ak/\W[N]?=some (.box (bg fF) none)/\W[N+2]?=some (.box (bG d.2.1) none)/\Fm n [M,p,q] H W) 0 (by omega) ?_ ?_
 ·refine⟨qv,?_⟩;simp(disch:=omega) only[go_sem,simprocAttr];exact⟨I,fE.no trivial,(Fm.app _ (by omega)).trans G⟩
 rintro k hk e W ak ⟨o,B,e1,R,e6,l,i,h,s,g,J,K,P⟩ nn hn;simp only[bO,go_sem,simprocAttr,aiQ,B,l,i,h];refine⟨λhh=>?_,λhh=>?_⟩
 ·have w:k<d.2.2.length:=by omega
  generalize F:d.2.2.getD k default=f at*;have A6:=hd.runs f (by rw[<-F];exact eV w);have rj: ∀r:aE,(ay r).length=2:=λ_=>rfl
  have ra: ∀r,aG (ay r)=0:=λ_=>rfl
  have DI: ∀r,List.take 2 (ay r)=ay r:=λ_=>rfl
  have pL: ∀r,List.drop 2 (ay r)=[]:=λ_=>rfl
  have EM: (ay f)[1]?=some (.int .i64 f.2):=rfl;have aG5: (ay f)[0]?=some (.int .i64 f.1):=rfl;simp(disch:=omega) only[go_sem,simprocAttr,d2.bX,d2.cp,F,hn,rj,ra];have X:=DB (d.2.2.take k) {m.az with S:=d.1} (λz hz=>(hd.runs z (ajY hz)).2);have X: (jZ m d k).Q.length<=m.az.Q.length+64*(d.2.2.take k).length:=X;have YO: (d.2.2.take k).length<=k:=by simp;omega
  have hdl:=hd.len;refine⟨by omega,?_⟩;refine gX f.2 (λj e T E=> ∃u,e 0= .ptr M 0/\e 1= .int .i64 t/\e 4= .ptr N 0/\e 6= .ptr (N+2) 0/\e 34=bv/\e 35= .int .i64 d.2.2.length/\e 36= .int .i64 k/\e 9= .ptr nn 0/\e 41= .int .i64 f.2/\e 42= .int .i64 j/\bH n M p q {m with az:=jf (jZ m d k) f j} u ev aB aK T/\fE (u=qv/\ev=ev) p E/\T[nn]?=some (.box (ay f) none)/\T[N]?=some (.box (bg fF) none)/\T[N+2]?=some (.box (bG d.2.1) none)/\Fm n [M,p,q] H T) 0 (by omega) ?_ ?_
  ·refine⟨o,?_⟩;simp(disch:=omega) only[go_sem,simprocAttr,B,e1,R,e6,l,i,h];refine⟨?_,by simpa using g,bf J,bf K,P.trans (Fm.app _ (by have:=s.lt;omega))⟩;have e1:jf (jZ m d k) f 0=jZ m d k:=by unfold jf;simp
   rw[e1];exact s.app _
  have hK0:=s.co.box;have aG8:p<nn:=by rw[<-hn];exact s.co.lt
  clear g J K B e1 R e6 l i h s P hn;rintro j hj e T E ⟨u,B,e1,R,e6,l,i,h,e9,e41,e42,C,g,wn,J,K,P⟩ n2 hn2;simp(disch:=omega) only[bO,go_sem,simprocAttr,aiP,B,e1,R,e6,l,i,h,e41,e42];refine⟨λhh=>?_,λhh=>?_⟩
  ·have Y:j<f.2:=by omega
   have hwl:=C.co.lt;have Qu: (jf (jZ m d k) f j).Q.length<=m.az.Q.length+64*k+f.2:=by
    have: (jf (jZ m d k) f j).Q.length=(jZ m d k).Q.length+((iX f).take j).length:=by simp[jf]
    have h2: ((iX f).take j).length<=f.2:=by simp[iX];omega
    omega
   obtain⟨v',W3,g1,g2,g3,g4,A,g6,g7,g8⟩:=c9.append (bytes:=8) (lo:=E) (y:=[.int .i64 ((f.1:Int)+j)]) C.co.iG (by omega) (by omega) rfl rfl (by rw[ahX];unfold room;show((jf (jZ m d k) f j).Q.length+1)*8<=_;omega);have eQ: (jf (jZ m d k) f j).Q.map je++[[.int .i64 ((f.1:Int)+j)]]=((jf (jZ m d k) f j).Q++[f.1+j]).map je:=by rw[aiw];rfl
   rw[eQ]at g2;obtain⟨c1,c2⟩:=C.co.aCc g2 g3 g4 A;have Z:=C.az c1 c2;have eT: {jf (jZ m d k) f j with Q:=(jf (jZ m d k) f j).Q++[f.1+j]}=jf (jZ m d k) f (j+1):=by
    unfold jf;rw[an4 Y,<-aaS]
   rw[eT]at Z;have O: ∀cs tg,∀a d,ae.box cs tg≠ .row a 1 nh d:=λ_ _ _ _ e=>by cases e
   have wp':=A p _ (O _ _) C.co.box;have g8': ¬v'.refs<=p+1:=by omega
   simp(disch:=omega) only[go_sem,simprocAttr,B,e1,R,e6,l,i,h,e9,e41,e42,C.box,C.co.box,qJ,KL,↓KL,wn,g1,wp',KS,g6,g7,g8'];refine⟨Y,v',Z,?_,A nn _ (O _ _) wn,A N _ (O _ _) J,A (N+2) _ (O _ _) K,P.trans (bH.fc c2)⟩;rcases g with⟨rfl,_⟩| ⟨j2,hj2,rfl⟩
   ·exact .inr ⟨p,ahT _,rfl⟩
   ·exact .inr ⟨min p j2,by omega,rfl⟩
  ·obtain rfl:j=f.2:=by omega
   have B:jZ m d (k+1)=jf (jZ m d k) f f.2:=by
    rw[an3];unfold jZ;rw[<-F,ajN,abe w,apm,aiu,abe w];rfl
   exact⟨w,u,by rw[B];exact C,g.imp (λq=>⟨q.1,q.2.1⟩) id,J,K,P⟩
 ·obtain rfl:k=d.2.2.length:=by omega
  have g:fE (o=qv/\ev=ev) p ak:=g;obtain⟨v',W3,g1,g2,g3,g4,A,g6,g7,g8⟩:=c9.append (bytes:=96) (lo:=ak) (y:=jY ⟨t,fF,(0,0),d.2.1,m.now,m.now⟩) s.uL (by have:=s.lt;omega) (by omega) rfl rfl (by rw[ahX];unfold room;have:=hm.ev;show(m.cP.length+1)*96<=_;omega);have eE:m.cP.map jY++[jY ⟨t,fF,(0,0),d.2.1,m.now,m.now⟩]=(m.cP++[(⟨t,fF,(0,0),d.2.1,m.now,m.now⟩:Event)]).map jY:=by rw[aiw];rfl
  have g2:c9 (M+1) W3 v' 14 pT ((m.cP++[(⟨t,fF,(0,0),d.2.1,m.now,m.now⟩:Event)]).map jY):=eE ▸ g2;have I:=s.ao9 g2 A;have G:=apa s g3 g4 A (.box (cG {m with cP:=m.cP++[⟨t,fF,(0,0),d.2.1,m.now,m.now⟩]} p aB aK v') none);have O: ∀cs tg,∀a d,ae.box cs tg≠ .row a 14 pT d:=λ_ _ _ _ e=>by cases e
  have wM:=A M _ (O _ _) s.box;have hv': ¬v'.refs<=M+1:=by omega
  have Yd: ∀c:cz,bg c=[.int .u8 c.op,.int .u32 c.r,.int .u32 c.s,.int .u32 c.a,.int .u32 c.b,.int .u64 c.v]:=λ_=>rfl
  have hse: ∀r:bF,bG r=[.int .i64 r.e,.int .u64 r.v,.int .u32 r.w]:=λ_=>rfl
  have hev: ∀a b:Nat,[AV.int .i64 (t:Int),.int .u8 fF.op,.int .u32 fF.r,.int .u32 fF.s,.int .u32 fF.a,.int .u32 fF.b,.int .u64 fF.v,.int .i64 0,.int .i64 0,.int .i64 d.2.1.e,.int .u64 d.2.1.v,.int .u32 d.2.1.w,.int .i64 a,.int .i64 b]=jY ⟨t,fF,(0,0),d.2.1,a,b⟩:=λ_ _=>rfl
  have sa: ∀e,(jY e).length=14:=λ_=>rfl
  have het: ∀e,List.take 14 (jY e)=jY e:=λ_=>rfl
  simp only[go_sem,simprocAttr,s.box,B,e1,R,e6,DF,ao2,J,K,Yd,hse,hev,sa,het,g1,g6,g7,hv',wM,ao4,po];refine gI.fin (v:=.au []) x hN I (P.trans G) ?_ (abX _);rcases g with⟨rfl,_⟩| ⟨j2,hj2,rfl⟩
  ·exact .inr ⟨M,by omega,rfl⟩
  ·exact .inr ⟨min M j2,by omega,rfl⟩
def SE{α:Type}(m:R α):Prop:= ∀e,m= .error e->e<13
theorem SE.ok{a:α}:SE (.ok a:R α):=by intro e h;cases h
theorem SE.pure{a:α}:SE (Pure.pure a:R α):=by intro e h;cases h
def SE.err(a:e<13):SE (.error e:R α):=by intro e h;grind
def SE.bind{β:Type}{m:R α}{f:α->R β}(b:SE m)(c: ∀a,SE (f a)):SE (m>>=f):=by
 cases m with
 |error e=>intro e h;cases h;exact b _ rfl
 |ok a=>exact c a
def SE.ask{b:Bool}(a:e<13):SE (ask b e):=by
 unfold Go.Proofs.YteplichagkpciaaGreatDoor.ask;split
 ·exact SE.ok
 ·exact SE.err a
def SE.bc(a:e<13):SE (bc e):=by
 unfold Go.Proofs.YteplichagkpciaaGreatDoor.bc;split
 ·exact SE.ok
 ·exact SE.err a
theorem SE.foldlM{α β:Type}{f:α->β->R α}(h: ∀a b,SE (f a b)): ∀ (l:List β) (a:α),SE (l.foldlM f a)
 | [],_=>SE.pure
 |b::l,a=>SE.bind (h a b) λa=>SE.foldlM h l a
def aCm{n:Nat}(h: (n+1).ble 13=true):n<13:=ass h
def kH{t:aw}{h:Nat}: (aJ t h).2<13:=by unfold aJ;grind
def kI{k:bh}{h:Nat}: (ck k h).2<13:=by unfold ck;grind
def aCn{T:aw}{O:bQ}{K:bh}{c:Nat}:xL T O K a b c<13:=by unfold xL;grind
def jA{o:bQ}{t:aw}{r:Nat}{x:Ow}: (fU o t r a x).2<13:=by unfold fU;grind
def jB{o:bQ}{t:aw}{r:Nat}{b:Bool}: (dD o t r a b).2.2<13:=by unfold dD;repeat' (first|simp|exact jA|split)
def apq{t:aw}{h:Nat}{r:dk}: (fK t h r).2<13:=by unfold fK;grind
def apr{t:aw}{h u:Nat}: (mf t h u).2<13:=by unfold mf;grind
def aCo{t:aw}{h:Nat}: (jr t h).2<13:=by unfold jr;split;exact aCm rfl;exact apr
def kJ{t:aw}{h u:Nat}: (vN t h u).2<13:=by unfold vN;repeat' (first|simp|exact apr|split)
def kK{t:aw}{h u:Nat}: (ib t h u).2.2<13:=by unfold ib me;grind
def kM{k:bh}{x:Tok}: (lC k x).2.2<13:=by unfold lC qo;grind
def kN{b:cS}{x:kp}: (oO b x).2<13:=by unfold oO;grind
def kO{b:cS}: (mX b).2.2<13:=by unfold mX;grind
def kQ{b:cS}: (vO b).2<13:=by unfold vO;grind
def kR{t:aw}{c:Nat}{f:Bool}: (nF t a b c f).2<13:=by unfold nF;repeat' (first|simp|exact apq|split)
def kS{t:aw}: (uj t a b).2<13:=by unfold uj;grind
def lL{h w:Nat}:SE (fL x h w):=SE.bc aCn
def lM:SE (mi x t):=SE.ask (by decide)
def mv{h:Nat}:SE (mZ x h t):=by exact SE.bind (SE.bc jA) λ_=>SE.pure
def lO{h:Nat}{r:dk}:SE (nG x h r):=by exact SE.bind (SE.bc apq) λ_=>SE.pure
def lP{h:Nat}:SE (vP x h):=by exact SE.bind (SE.bc aCo) λ_=>SE.pure
def lQ{h:Nat}:SE (xM x h):=by
 exact SE.bind (SE.ask (by decide)) λ_=>SE.bind (SE.ask (by decide)) λ_=>SE.ask (by decide)
def kT{h:Nat}:SE (jP x h t):=by exact SE.bind (SE.bc jB) λ_=>SE.pure
def aps:SE (nI x t):=by unfold nI;(repeat (first|exact SE.ok|exact SE.pure|exact SE.ask (by decide)|exact SE.err (by decide)|exact lL|exact lM|exact mv|exact lO|exact lP|exact lQ|exact kT|assumption| (refine SE.bc ?_;first|exact kH|exact kK|exact kJ|exact jA|exact jB|exact kI|exact kM|exact kN|exact kO|exact kQ|exact kR|exact kS)| (refine SE.bind ?_ λ_=>?_)| (refine SE.foldlM (λ_ _=>?_) _ _)|split|dsimp only))
def aCp:SE (rS x t):=by unfold rS;(repeat (first|exact SE.ok|exact SE.pure|exact SE.ask (by decide)|exact SE.err (by decide)|exact lL|exact lM|exact mv|exact lO|exact lP|exact lQ|exact kT|assumption| (refine SE.bc ?_;first|exact kH|exact kK|exact kJ|exact jA|exact jB|exact kI|exact kM|exact kN|exact kO|exact kQ|exact kR|exact kS)| (refine SE.bind ?_ λ_=>?_)| (refine SE.foldlM (λ_ _=>?_) _ _)|split|dsimp only))
def aCq(x:ar):SE (qq x):=by unfold qq;(repeat (first|exact SE.ok|exact SE.pure|exact SE.ask (by decide)|exact SE.err (by decide)|exact lL|exact lM|exact mv|exact lO|exact lP|exact lQ|exact kT|assumption| (refine SE.bc ?_;first|exact kH|exact kK|exact kJ|exact jA|exact jB|exact kI|exact kM|exact kN|exact kO|exact kQ|exact kR|exact kS)| (refine SE.bind ?_ λ_=>?_)| (refine SE.foldlM (λ_ _=>?_) _ _)|split|dsimp only))
def aCr(x:ar):SE (jO x):=by unfold jO;(repeat (first|exact SE.ok|exact SE.pure|exact SE.ask (by decide)|exact SE.err (by decide)|exact lL|exact lM|exact mv|exact lO|exact lP|exact lQ|exact kT|assumption| (refine SE.bc ?_;first|exact kH|exact kK|exact kJ|exact jA|exact jB|exact kI|exact kM|exact kN|exact kO|exact kQ|exact kR|exact kS)| (refine SE.bind ?_ λ_=>?_)| (refine SE.foldlM (λ_ _=>?_) _ _)|split|dsimp only))
def aCs(x:ar):SE (uk x):=by unfold uk;(repeat (first|exact SE.ok|exact SE.pure|exact SE.ask (by decide)|exact SE.err (by decide)|exact lL|exact lM|exact mv|exact lO|exact lP|exact lQ|exact kT|assumption| (refine SE.bc ?_;first|exact kH|exact kK|exact kJ|exact jA|exact jB|exact kI|exact kM|exact kN|exact kO|exact kQ|exact kR|exact kS)| (refine SE.bind ?_ λ_=>?_)| (refine SE.foldlM (λ_ _=>?_) _ _)|split|dsimp only))
def aCt(x:ar):SE (um x):=by unfold um;(repeat (first|rfl|exact SE.pure|rfl|rfl|exact lL|rfl|rfl|rfl|rfl|rfl|exact kT|assumption| (refine SE.bc ?_;first|exact kH|exact kK|exact kJ|exact jA|exact jB|exact kI|exact kM|exact kN|exact kO|exact kQ|exact kR|exact kS)| (refine SE.bind ?_ λ_=>?_)| (refine SE.foldlM (λ_ _=>?_) _ _)|split|dsimp only))
def aCu(x:ar):SE (vQ x):=by unfold vQ;(repeat (first|exact SE.ok|exact SE.pure|exact SE.ask (by decide)|exact SE.err (by decide)|exact lL|exact lM|exact mv|exact lO|exact lP|exact lQ|exact kT|assumption| (refine SE.bc ?_;first|exact kH|exact kK|exact kJ|exact jA|exact jB|exact kI|exact kM|exact kN|exact kO|exact kQ|exact kR|exact kS)| (refine SE.bind ?_ λ_=>?_)| (refine SE.foldlM (λ_ _=>?_) _ _)|split|dsimp only))
def aCv(x:ar):SE (vR x):=by unfold vR;(repeat (first|exact SE.ok|exact SE.pure|exact SE.ask (by decide)|exact SE.err (by decide)|exact lL|exact lM|exact mv|exact lO|exact lP|exact lQ|exact kT|assumption| (refine SE.bc ?_;first|exact kH|exact kK|exact kJ|exact jA|exact jB|exact kI|exact kM|exact kN|exact kO|exact kQ|exact kR|exact kS)| (refine SE.bind ?_ λ_=>?_)| (refine SE.foldlM (λ_ _=>?_) _ _)|split|dsimp only))
def aCw(x:ar):SE (vS x):=by unfold vS;(repeat (first|exact SE.ok|exact SE.pure|exact SE.ask (by decide)|exact SE.err (by decide)|exact lL|exact lM|exact mv|exact lO|exact lP|exact lQ|exact kT|assumption| (refine SE.bc ?_;first|exact kH|exact kK|exact kJ|exact jA|exact jB|exact kI|exact kM|exact kN|exact kO|exact kQ|exact kR|exact kS)| (refine SE.bind ?_ λ_=>?_)| (refine SE.foldlM (λ_ _=>?_) _ _)|split|dsimp only))
def aCx(x:ar):SE (uo x):=by unfold uo;(repeat (first|exact SE.ok|exact SE.pure|exact SE.ask (by decide)|exact SE.err (by decide)|exact lL|exact lM|exact mv|exact lO|exact lP|exact lQ|exact kT|assumption| (refine SE.bc ?_;first|exact kH|exact kK|exact kJ|exact jA|exact jB|exact kI|exact kM|exact kN|exact kO|exact kQ|exact kR|exact kS)| (refine SE.bind ?_ λ_=>?_)| (refine SE.foldlM (λ_ _=>?_) _ _)|split|dsimp only));all_goals exact SE.bc jB
def aCy(x:ar):SE (qt x):=by unfold qt;(repeat (first|exact SE.ok|exact SE.pure|exact SE.ask (by decide)|exact SE.err (by decide)|exact lL|exact lM|exact mv|exact lO|exact lP|exact lQ|exact kT|assumption| (refine SE.bc ?_;first|exact kH|exact kK|exact kJ|exact jA|exact jB|exact kI|exact kM|exact kN|exact kO|exact kQ|exact kR|exact kS)| (refine SE.bind ?_ λ_=>?_)| (refine SE.foldlM (λ_ _=>?_) _ _)|split|dsimp only))
def aCz(x:ar):SE (vU x):=by unfold vU;(repeat (first|exact SE.ok|exact SE.pure|exact SE.ask (by decide)|exact SE.err (by decide)|exact lL|exact lM|exact mv|exact lO|exact lP|exact lQ|exact kT|assumption| (refine SE.bc ?_;first|exact kH|exact kK|exact kJ|exact jA|exact jB|exact kI|exact kM|exact kN|exact kO|exact kQ|exact kR|exact kS)| (refine SE.bind ?_ λ_=>?_)| (refine SE.foldlM (λ_ _=>?_) _ _)|split|dsimp only))
def aCA(x:ar):SE (nH x):=by unfold nH;(repeat (first|exact SE.ok|exact SE.pure|exact SE.ask (by decide)|exact SE.err (by decide)|exact lL|exact lM|exact mv|exact lO|exact lP|exact lQ|exact kT|assumption| (refine SE.bc ?_;first|exact kH|exact kK|exact kJ|exact jA|exact jB|exact kI|exact kM|exact kN|exact kO|exact kQ|exact kR|exact kS)| (refine SE.bind ?_ λ_=>?_)| (refine SE.foldlM (λ_ _=>?_) _ _)|split|dsimp only))
def aCB(x:ar):SE (oP x):=by unfold oP;(repeat (first|exact SE.ok|exact SE.pure|exact SE.ask (by decide)|exact SE.err (by decide)|exact lL|exact lM|exact mv|exact lO|exact lP|exact lQ|exact kT|assumption| (refine SE.bc ?_;first|exact kH|exact kK|exact kJ|exact jA|exact jB|exact kI|exact kM|exact kN|exact kO|exact kQ|exact kR|exact kS)| (refine SE.bind ?_ λ_=>?_)| (refine SE.foldlM (λ_ _=>?_) _ _)|split|dsimp only))
def aCC(x:ar):SE (vV x):=by unfold vV;(repeat (first|rfl|exact SE.pure|rfl|rfl|rfl|rfl|rfl|exact lO|exact lP|exact lQ|exact kT|assumption| (refine SE.bc ?_;first|exact kH|exact kK|exact kJ|exact jA|exact jB|exact kI|exact kM|exact kN|exact kO|exact kQ|exact kR|exact kS)| (refine SE.bind ?_ λ_=>?_)| (refine SE.foldlM (λ_ _=>?_) _ _)|split|dsimp only))
def aCD(x:ar):SE (oQ x):=by unfold oQ;(repeat (first|exact SE.ok|exact SE.pure|exact SE.ask (by decide)|exact SE.err (by decide)|exact lL|exact lM|exact mv|exact lO|exact lP|exact lQ|exact kT|assumption| (refine SE.bc ?_;first|exact kH|exact kK|exact kJ|exact jA|exact jB|exact kI|exact kM|exact kN|exact kO|exact kQ|exact kR|exact kS)| (refine SE.bind ?_ λ_=>?_)| (refine SE.foldlM (λ_ _=>?_) _ _)|split|dsimp only))
def aCE(x:ar):SE (vW x):=by unfold vW;(repeat (first|exact SE.ok|exact SE.pure|exact SE.ask (by decide)|exact SE.err (by decide)|exact lL|exact lM|exact mv|exact lO|exact lP|exact lQ|exact kT|assumption| (refine SE.bc ?_;first|exact kH|exact kK|exact kJ|exact jA|exact jB|exact kI|exact kM|exact kN|exact kO|exact kQ|exact kR|exact kS)| (refine SE.bind ?_ λ_=>?_)| (refine SE.foldlM (λ_ _=>?_) _ _)|split|dsimp only))
def aCF(x:ar):SE (rT x):=by(repeat (first|rfl|exact SE.pure|exact SE.ask (by decide)|rfl|rfl|rfl|rfl|rfl|rfl|rfl|rfl|rfl|rfl| (refine SE.bind ?_ λ_=>?_)|rfl|split|rfl))
def aCG(x:ar):SE (vT x):=by unfold vT;(repeat (first|exact SE.ok|exact SE.pure|exact SE.ask (by decide)|exact SE.err (by decide)|exact lL|exact lM|exact mv|exact lO|exact lP|exact lQ|exact kT|assumption| (refine SE.bc ?_;first|exact kH|exact kK|exact kJ|exact jA|exact jB|exact kI|exact kM|exact kN|exact kO|exact kQ|exact kR|exact kS)| (refine SE.bind ?_ λ_=>?_)| (refine SE.foldlM (λ_ _=>?_) _ _)|split|dsimp only))
def aCH(x:ar):SE (xN x):=by
 exact SE.bind lM λ_=>SE.bind aps λ_=>SE.pure
def aCI(x:ar):SE (kx x):=by
 unfold kx;split<;>first|exact aCq x|exact aCr x|exact aCp|exact aCs x|exact aCt x|exact aCu x|exact aCv x|exact aCw x|exact aCx x|exact aCG x|exact aCy x|exact aCz x|exact aCA x|exact aCB x|exact aCC x|exact aCD x|exact aCE x|exact aCH x|exact aCF x|exact SE.err (by decide)|exact SE.bind aps λ_=>SE.pure
def aCJ(h:ju x= .error e):e<13:=SE.bind (SE.ask (by decide)) (λ_=>aCI x) _ h
structure RO(x:ar)(a:ar×bF):Prop where
 s:bm a.1.s
 back:a.1.back=x.back
 w:a.2.w<4294967296
 v:a.2.v<18446744073709551616
def aCK{r:dk}(h:fV r){l:List aE}{n:Nat}(d:n<=2048)(b: ∀x∈l,1<=x.2/\x.1+x.2<=64)(c:aM l<=64):fV {r with runs:=l,len:=n}:=⟨h.up,h.dC,d,h.cells,b,c⟩
def ZB{b:Bool}{u:Unit}(h:ask b e= .ok u):b=true:=by
 unfold ask at h;grind
def aCL{l:List aE}{r:aE}{n:Nat}(h:qn (l++[r]) n=true):1<=r.2/\r.1+r.2<=64:=by
 unfold qn at h;rw[Oq]at h;simp only[ajI]at h;cases hm:mU [] l with
 |none=>grind
 |some m=>
  rw[hm]at h;unfold mU at h;cases b:iA m r with
  |none=>grind
  |some a=>
   unfold iA at b;split at b
   ·rename_i hr;unfold lu at hr
    grind
   grind
def Pd{h:Nat}(b:bm x.s)(c:h<4294967296)(e:mZ x h t= .ok y):bm y.s/\y.back=x.back:=by
 obtain⟨_,_,e⟩:=bp e;cases e;exact⟨b.wk (b.O.iA c),rfl⟩
def ZC{h:Nat}{r:dk}(b:bm x.s)(c:fV r)(e:nG x h r= .ok y):bm y.s/\y.back=x.back:=by
 obtain⟨_,_,e⟩:=bp e;cases e;exact⟨b.wj (b.ez.set c),rfl⟩
def ZD{h:Nat}(b:bm x.s)(e:vP x h= .ok y):bm y.s/\y.back=x.back:=by
 obtain⟨_,_,e⟩:=bp e;cases e;exact⟨b.wj (b.ez.cut h),rfl⟩
section
variable{x:ar}(hx:m4 x){a:ar×bF}
include hx
theorem aCM(h:qq x= .ok a):RO x a:=by
 unfold qq at h;have b: (ib x.s.T x.c.r (min x.c.a 65)).2.1<4294967296:=amW hx.s.T.b;have c:bm (x.t (ib x.s.T x.c.r (min x.c.a 65)).1).s:=hx.s.wj (hx.s.ez.new _ _ hx.c.r);by_cases d:x.c.r=0
 ·simp only[d,ne_eq,not_true,ak8,ajQ]at h;obtain⟨_,_,h⟩:=bp h;obtain⟨y,e,h⟩:=bp h;cases h;rw[d]at b c;obtain⟨g,f⟩:=Pd c b e;exact⟨g,f,b,by show 0<18446744073709551616;omega⟩
 ·simp only[d,ne_eq,not_false_eq_true,ak8,ajQ]at h;obtain⟨_,_,h⟩:=bp h;obtain⟨_,_,h⟩:=bp h;obtain⟨y,e,h⟩:=bp h;cases e;cases h;exact⟨c,rfl,b,by show 0<18446744073709551616;omega⟩
theorem apt{w:Nat}(h:rS x w= .ok a):RO x a/\a.2=b8:=by
 obtain⟨_,_,h⟩:=bp h;obtain⟨_,_,h⟩:=bp h;obtain⟨_,_,h⟩:=bp h;obtain⟨_,_,h⟩:=bp h;cases h;exact⟨⟨hx.s,rfl,by show 0<4294967296;omega,by show 0<18446744073709551616;omega⟩,rfl⟩
theorem aCN(h:vQ x= .ok a):RO x a:=by
 obtain⟨_,_,h⟩:=bp h;obtain⟨_,_,h⟩:=bp h;obtain⟨y,e,h⟩:=bp h;obtain⟨z,g,h⟩:=bp h;cases h;obtain⟨f,d⟩:=ZD hx.s e;obtain⟨c,b⟩:=Pd f hx.c.r g;exact⟨c,b.trans d,by show 0<4294967296;omega,by show 0<18446744073709551616;omega⟩
theorem aCO(h:vR x= .ok a):RO x a:=by
 obtain⟨_,_,h⟩:=bp h;obtain⟨_,_,h⟩:=bp h;obtain⟨_,_,h⟩:=bp h;cases h;exact⟨hx.s.wj (hx.s.ez.ayP _ _ hx.c.s),rfl,by show 0<4294967296;omega,by show 0<18446744073709551616;omega⟩
theorem aCP(h:vS x= .ok a):RO x a:=by
 obtain⟨_,_,h⟩:=bp h;obtain⟨y,e,h⟩:=bp h;obtain⟨_,_,h⟩:=bp h;cases h;obtain⟨b,c⟩:=ZD hx.s e;exact⟨b.wk (b.O.freeze hx.c.r),c,by show 0<4294967296;omega,by show 0<18446744073709551616;omega⟩
theorem aCQ(h:uo x= .ok a):RO x a:=by
 obtain⟨_,_,h⟩:=bp h;obtain⟨_,_,h⟩:=bp h;obtain⟨_,_,h⟩:=bp h;cases h;exact⟨hx.s.wk (hx.s.O.held hx.c.r),rfl,by show 0<4294967296;omega,by show 0<18446744073709551616;omega⟩
theorem aCR(b: ∀t,(lC x.s.K t).2.1<4294967296)(h:qt x= .ok a):RO x a:=by
 unfold qt at h;obtain⟨_,_,h⟩:=bp h;obtain⟨_,_,h⟩:=bp h;obtain⟨_,_,h⟩:=bp h
 try rfl
 have d:=hx.t;have c:uD ⟨x.c.r,x.aa % 256,x.c.a % 256,decide (x.c.b=1),x.c.s⟩:=⟨hx.c.r,als _ (by omega),als _ (by omega),hx.c.s⟩;split at h
 ·obtain⟨_,_,h⟩:=bp h;obtain⟨_,_,h⟩:=bp h;cases h;exact⟨hx.s.Dt (hx.s.tok.amR c),rfl,b _,by show 0<18446744073709551616;omega⟩
 ·obtain⟨_,_,h⟩:=bp h;obtain⟨_,_,h⟩:=bp h;obtain⟨_,_,h⟩:=bp h;cases h;exact⟨hx.s.Dt (hx.s.tok.amR c),rfl,b _,by show 0<18446744073709551616;omega⟩
theorem aCS(h:vU x= .ok a):RO x a:=by
 obtain⟨_,_,h⟩:=bp h;obtain⟨_,_,h⟩:=bp h;cases h;exact⟨hx.s.Dt (hx.s.tok.ret _),rfl,by show 0<4294967296;omega,by show 0<18446744073709551616;omega⟩
theorem aCT(h:vV x= .ok a):RO x a:=by
 obtain⟨_,_,h⟩:=bp h;cases h;exact⟨hx.s.Du (hx.s.bx _).close,rfl,by show 0<4294967296;omega,by show 0<18446744073709551616;omega⟩
theorem aCU(h:rT x= .ok a):RO x a:=by
 obtain⟨_,_,h⟩:=bp h;cases h;exact⟨hx.s.Yx,rfl,by show 0<4294967296;omega,by show 0<18446744073709551616;omega⟩
theorem aCV(h:oP x= .ok a):RO x a:=by
 unfold oP at h;obtain⟨c,hm⟩:=(hx.s.bx x.aa).take;have b:bm (x.bx x.aa (mX (x.s.dh x.aa)).1).s:=hx.s.Du c
 try dsimp only at h
 obtain⟨_,_,h⟩:=bp h;split at h
 ·obtain⟨y,e,h⟩:=bp h;cases h;obtain⟨f,d⟩:=Pd b hm.aL e;exact⟨f,d,hm.aL,hm.word⟩
 ·obtain⟨y,e,h⟩:=bp h;cases e;cases h;exact⟨b,rfl,hm.aL,hm.word⟩
theorem aCW(e:x.run.1<=64/\x.run.2<=64)(h:jO x= .ok a):RO x a:=by
 unfold jO at h
 try dsimp only at h
 have d:=hx.s.T.get x.c.r;cases m:qs (min x.c.a 129) (min x.c.b 9)with
 |none=>rw[m]at h;cases h
 |some n=>
  rw[m]at h;obtain⟨_,e1,h⟩:=bp h;cases e1;obtain⟨_,_,h⟩:=bp h;obtain⟨_,_,h⟩:=bp h;split at h
  ·rename_i k u;obtain⟨z,l,h⟩:=bp h;cases h;have b:k+min x.c.a 129<=2048:=by
    have:=Dv u;have:=d.aM;omega
   obtain⟨j,i⟩:=ZC (r:={(aJ x.s.T x.c.r).1 with len:=k+min x.c.a 129}) hx.s ⟨d.up,d.dC,b,d.cells,d.runs,d.aM⟩ l;exact⟨j,i,by show 0<4294967296;omega,by show k<18446744073709551616;omega⟩
  ·obtain⟨_,g,h⟩:=bp h;have g:=ZB g
   try dsimp only at h
   split at h
   ·cases h;exact⟨hx.s,rfl,by show 0<4294967296;omega,by show 0<18446744073709551616;omega⟩
   ·obtain⟨_,hm,h⟩:=bp h;have hm:=ZB hm;obtain⟨z,l,h⟩:=bp h;cases h;simp only[alb]at g;simp only[ajI,alb]at hm;have t:=amX (aJ x.s.T x.c.r).1.runs x.run;have o:=d.dC;have p:=d.aM;have f:1<=x.run.2/\x.run.1+x.run.2<=64:=aCL hm.2;have b: (match gT ((aJ x.s.T x.c.r).1.runs++[x.run]) (aM (aJ x.s.T x.c.r).1.runs*32) (min x.c.a 129) (min x.c.b 9)with|some a=>a+min x.c.a 129|none=>aM (aJ x.s.T x.c.r).1.runs*32)<=2048:=by
     split
     ·rename_i q;exact ajU (Dv q) (by omega)
     ·exact ajU (anI 32 (show _<=64 by omega)) (by decide)
    obtain⟨j,i⟩:=ZC (x:={s:=x.s,aa:=x.aa,c:=x.c,run:=x.run,mY:=n,asks:=x.asks,back:=x.back}) hx.s (aCK d b (λr e=>by
     rcases aha.1 e with e|e
     ·exact d.runs r e
     ·rw[ahc.1 e];exact f) (by omega)) l
    refine⟨j,i,by show 0<4294967296;omega,?_⟩;show(gT ((aJ x.s.T x.c.r).1.runs++[x.run]) (aM (aJ x.s.T x.c.r).1.runs*32) (min x.c.a 129) (min x.c.b 9)).getD 0<_;cases q:gT ((aJ x.s.T x.c.r).1.runs++[x.run]) (aM (aJ x.s.T x.c.r).1.runs*32) (min x.c.a 129) (min x.c.b 9)with
    |none=>show 0<_;omega
    |some k=>have:=Dv q;show k<_;omega
theorem aCX(h:oQ x= .ok a):RO x a:=by
 unfold oQ at h;obtain⟨_,_,h⟩:=bp h;have key:eG (nF x.s.T x.c.r (min x.c.a 8) x.c.s (decide ((ch x.s.O x.s.T x.c.s).kind=3))).1:=by
  rw[amI];split
  ·exact hx.s.ez.set ((hx.s.T.get x.c.r).setCells λi=>by
    unfold aq;split
    ·exact hx.c.s
    ·exact(hx.s.T.get x.c.r).cells i)
  ·exact hx.s.ez
 try rfl
 split at h
 ·obtain⟨_,_,h⟩:=bp h
  try rfl
  obtain⟨_,_,h⟩:=bp h;cases h;exact⟨hx.s.wj key,rfl,by show 0<4294967296;omega,by show 0<18446744073709551616;omega⟩
 ·try dsimp only at h
  obtain⟨_,_,h⟩:=bp h;cases h;exact⟨hx.s.wj key,rfl,by show 0<4294967296;omega,by show 0<18446744073709551616;omega⟩
theorem aCY(h:vW x= .ok a):RO x a:=by
 obtain⟨_,_,h⟩:=bp h;obtain⟨_,_,h⟩:=bp h;cases h;refine⟨hx.s,rfl,?_,by show 0<18446744073709551616;omega⟩;unfold uj;split
 ·simp
 ·split
  ·simp
  ·dsimp only;split
   ·simp
   ·split
    ·simp
    ·exact(hx.s.T.get x.c.r).cells _
theorem aCZ(h:nH x= .ok a):RO x a:=by
 unfold nH at h;obtain⟨_,_,h⟩:=bp h;obtain⟨_,_,h⟩:=bp h
 try dsimp only at h
 have j:=hx.t;have hm: ∀b,we ⟨x.aa % 256,x.c.v,x.c.r,b⟩:=λb=>⟨by grind,hx.c.v,hx.c.r⟩
 have fin: ∀ (y:ar) (b:Bool),bm y.s->y.back=x.back->(bc (oO (y.s.dh x.c.a) ⟨x.aa % 256,x.c.v,x.c.r,b⟩).2>>=λ_=>(Pure.pure (y.bx x.c.a (oO (y.s.dh x.c.a) ⟨x.aa % 256,x.c.v,x.c.r,b⟩).1,b8):R (ar×bF)))= .ok a->RO x a:=by
  intro y b d g h;obtain⟨_,_,h⟩:=bp h;cases h;exact⟨d.Du ((d.bx _).put (hm b)),g,by show 0<4294967296;omega,by show 0<18446744073709551616;omega⟩
 split at h
 ·obtain⟨_,_,h⟩:=bp h
  try dsimp only at h
  obtain⟨y,e,h⟩:=bp h;cases e;refine fin _ _ ?_ ?_ h
  ·split
   ·exact hx.s.wk (hx.s.O.held hx.c.r)
   ·exact hx.s
  ·split<;>rfl
 ·split at h
  ·obtain⟨_,_,h⟩:=bp h;obtain⟨y,e,h⟩:=bp h;obtain⟨f,i⟩:=ZD hx.s e
   try dsimp only at h
   obtain⟨_,_,h⟩:=bp h;obtain⟨z,c,h⟩:=bp h;cases c;exact fin (y.o (Aa y.s.O y.s.T x.c.r).1) _ (f.wk (f.O.fly hx.c.r)) i h
  ·obtain⟨z,c,h⟩:=bp h;cases c;exact fin _ _ hx.s rfl h
end
structure GI(y:ar):Prop where
 s:bm y.s
 eW:Go.Proofs.YteplichagkpciaaGreatDoor.eW y<=2048
 runs: ∀r∈y.back,r.1<=64/\r.2<=64
def GI.len(h:GI y):y.back.length<=4096:=by have:=h.eW;unfold Go.Proofs.YteplichagkpciaaGreatDoor.eW at this;omega
def GI.set{z:ar}(h:GI y)(b:bm z.s)(c:z.back=y.back)(d:z.s.T=y.s.T):GI z:=
 ⟨b,by have:=h.eW;unfold Go.Proofs.YteplichagkpciaaGreatDoor.eW at*;grind,by rw[c];exact h.runs⟩
theorem apu: ∀ (l:lN) (y:ar),bm y.s->(∀r∈y.back,r.1<=64/\r.2<=64)-> ∀r∈(l.foldl iT y).back,r.1<=64/\r.2<=64
 | [],_,_,h=>h
 |a::l,y,hs,h=>apu l (iT y a) (YC [a] y hs) λr hr=>by
  rcases aha.1 (show r∈y.back++(aJ y.s.T a).1.runs from hr)with hr|hr
  ·grind
  ·have:=(hs.T.get a).runs r hr;omega
def GI.gone(h:GI y)(a:Nat):GI (gz y a):=⟨YJ h.s a,ajU (YH h.s a) h.eW,apu _ y h.s h.runs⟩
def GI.kz{z:ar}(h:GI y)(c:a<4294967296)(b:jP y a aa= .ok z):GI z:=by
 obtain⟨_,_,b⟩:=bp b;have d:GI (y.o (dD y.s.O y.s.T a aa false).1):=h.set (h.s.wk (h.s.O.held c)) rfl rfl;cases b;split
 ·exact d.gone a
 omega
theorem GI.foldlM{β:Type}{P:β->Prop}{f:ar->β->R ar}(d: ∀y b z,GI y->P b->f y b= .ok z->GI z): ∀ (l:List β) (y z:ar),(∀b∈l,P b)->GI y->l.foldlM f y= .ok z->GI z
 | [],y,z,_,h,e=>by cases e;exact h
 |b::l,y,z,g,h,e=>by
  obtain⟨w,e1,j⟩:=bp (show(f y b>>=λw=>l.foldlM f w)= .ok z from by grind);exact GI.foldlM d l w z (λc i=>g c (ajH _ i)) (d y b w h (g b (ald ..)) e1) j
theorem GI.foldl{β:Type}{f:ar->β->ar}(c: ∀y b,GI y->GI (f y b)): ∀ (l:List β) (y:ar),GI y->GI (l.foldl f y)
 | [],_,h=>h
 |b::l,y,h=>GI.foldl c l (f y b) (c y b h)
def GI.dies(h:GI x)(e:nI x aa= .ok y):GI y:=by
 rw[am7]at e;obtain⟨w,e1,g⟩:=bp e;have q:GI (wu x aa):=h.set ((h.s.Du jb.gone).Yx) rfl rfl;have p:GI w:=GI.foldlM (P:=we) (λy m z b hm e=>by
  unfold Dx at e;split at e
  ·cases e;exact b
  ·split at e
   ·obtain⟨k,j⟩:=Pd b.s hm.aL e;obtain⟨_,_,e⟩:=bp e;cases e;exact b.set k j rfl
   ·cases e;exact b.gone _) _ _ _ (λm hm=>by
    obtain⟨i,_,rfl⟩:=ais.1 hm;exact(h.s.bx aa).ring _) q e1
 unfold YL at g;have o:=GI.foldl (f:=λy h=>y.k (mW y.s.K h).1) (λy a b=>b.set (b.s.Dt (b.s.tok.ret a)) rfl rfl) (xJ w.s.K aa) w p;have d:=λl=>GI.foldl (f:=gz) (λy a b=>b.gone a) l _ o
 refine GI.foldlM (P:=λa=>a<4294967296) (λy a z b c e=>b.kz c e) _ _ _ (λa c=>?_) (d _) g;have n:=(ajL.1 c).1;exact gn ((jt (d _).s.T.b).1 n)
def GI.start{s:bI}(d:bm s)(aa:Nat)(c:cz)(run:aE)(n:Nat)(b:Bool):GI ⟨s,aa,c,run,n,b,[]⟩:=by
 refine⟨d,?_,λr hr=>by grind⟩;have:=nA s.T.b;show([]:List aE).length+64*(bo s.T.b).length<=2048
 grind
structure RD(c:cz)(a:ar×bF):Prop where
 s:bm a.1.s
 len:a.1.back.length<=4096
 runs: ∀r∈a.1.back,r.1<=64/\r.2<=64
 v:c.op=3->a.2.v=0
 w:a.2.w<4294967296
 v2:a.2.v<18446744073709551616
def RO.d{a:ar×bF}(h:RO x a)(b:GI x)(d:c.op=3->a.2.v=0):RD c a:=
 ⟨h.s,by rw[h.back];exact b.len,by rw[h.back];exact b.runs,d,h.w,h.v⟩
def GI.d(h:GI y):RD c (y,b8):=⟨h.s,h.len,h.runs,λ_=>rfl,by show 0<4294967296;omega,by show 0<18446744073709551616;omega⟩
def aC0(hx:m4 x)(c:GI x){a:ar×bF}(h:uk x= .ok a):RD x.c a:=by
 unfold uk at h;obtain⟨_,_,h⟩:=bp h;obtain⟨_,_,h⟩:=bp h
 try rfl
 obtain⟨y,e,h⟩:=bp h;cases h;have hr:=hx.s.T.get x.c.r;have b:fV {dM with dC:=(aJ x.s.T x.c.r).1.dC}:=⟨by simp[dM],hr.dC,by simp[dM],by simp[dM],by simp[dM],by simp[dM,aM]⟩;obtain⟨f,d⟩:=ZC (x:={x with back:=x.back++(aJ x.s.T x.c.r).1.runs}) hx.s b e;have g: (aJ x.s.T x.c.r).1.runs.length<=64:=ajU (X7 λr h=>(hr.runs r h).1) hr.aM;refine⟨f,?_,?_,λ_=>rfl,by show 0<4294967296;omega,by show 0<18446744073709551616;omega⟩
 ·rw[d];have:=c.eW;unfold eW at this
  grind
 ·rw[d];intro r hm;rcases aha.1 (show r∈x.back++(aJ x.s.T x.c.r).1.runs from hm)with hm|hm
  ·exact c.runs r hm
  ·have:=hr.runs r hm;omega
def aC1(b:GI x){a:ar×bF}(h:um x= .ok a):RD x.c a:=by
 obtain⟨_,_,h⟩:=bp h;cases h;exact(b.gone _).d
def aC2(hx:m4 x)(b:GI x){a:ar×bF}(h:vT x= .ok a):RD x.c a:=by
 obtain⟨_,_,h⟩:=bp h;obtain⟨y,e,h⟩:=bp h;cases h;exact(b.kz hx.c.r e).d
def apv(b:GI x){a:ar×bF}(h: (nI x t>>=λy=>.ok (y,b8))= .ok a):RD x.c a:=by
 obtain⟨y,e,h⟩:=bp h;cases h;exact(b.dies e).d
def aC3{k:bh}(c:gS k.b){x:Tok}: (lC k x).2.1<4294967296:=by
 unfold lC;split
 ·simp
 ·split
  ·rename_i i b;split
   ·exact Hm (uh b).1 (c i).1
   grind
  grind
def aC4(hx:m4 x)(b:GI x)(c:x.run.1<=64/\x.run.2<=64){a:ar×bF}(h:kx x= .ok a):RD x.c a:=by
 unfold kx at h;split at h
 all_goals try(rename_i ho;first
  |exact(aCM hx h).d b (λq=>absurd (ho ▸ q) (by decide))
  |exact(aCW hx c h).d b (λq=>absurd (ho ▸ q) (by decide))
  |exact(apt hx h).1.d b (λq=>ajV bF.v (apt hx h).2)
  |exact aC0 hx b h
  |exact aC1 b h
  |exact aC2 hx b h
  |exact apv b h
  |exact(aCN hx h).d b (λq=>absurd (ho ▸ q) (by decide))
  |exact(aCO hx h).d b (λq=>absurd (ho ▸ q) (by decide))
  |exact(aCP hx h).d b (λq=>absurd (ho ▸ q) (by decide))
  |exact(aCQ hx h).d b (λq=>absurd (ho ▸ q) (by decide))
  |exact(aCR hx (λt=>aC3 hx.s.K.b) h).d b (λq=>absurd (ho ▸ q) (by decide))
  |exact(aCS hx h).d b (λq=>absurd (ho ▸ q) (by decide))
  |exact(aCZ hx h).d b (λq=>absurd (ho ▸ q) (by decide))
  |exact(aCV hx h).d b (λq=>absurd (ho ▸ q) (by decide))
  |exact(aCT hx h).d b (λq=>absurd (ho ▸ q) (by decide))
  |exact(aCX hx h).d b (λq=>absurd (ho ▸ q) (by decide))
  |exact(aCY hx h).d b (λq=>absurd (ho ▸ q) (by decide))
  |exact(aCU hx h).d b (λq=>absurd (ho ▸ q) (by decide)))
 ·unfold xN at h;obtain⟨_,_,h⟩:=bp h;exact apv b h
 ·cases h
def apw{s:bI}(d:bm s)(j:jT c){run:aE}(f:run.1<=64/\run.2<=64):sj (dR s aa c run) c/\ (dR s aa c run).2.1.v<18446744073709551616:=by
 rw[aAi];cases h:ju ⟨s,aa,c,run,0,false,[]⟩with
 |error e=>
  have:=aCJ h;exact⟨⟨d,by simp,λr f=>(by grind),λ_=>by show 0<18446744073709551616;omega,by show 0<4294967296;omega,by grind⟩,by show 0<18446744073709551616;omega⟩
 |ok a=>
  obtain⟨y,r⟩:=a;have he:=YP h;obtain⟨_,g,h⟩:=bp (show(ask _ _>>=λ_=>kx _)=_ from h);have g:=ZB g;have i:aa<8:=by grind
  have b:=aC4 (x:=⟨s,aa,c,run,0,false,[]⟩) ⟨d,i,j,by grind,by grind⟩ (GI.start d ..) f h;exact⟨⟨b.s,b.len,b.runs,λq=>by rw[show r.v=0 from b.v q];decide,b.w,by grind⟩,b.v2⟩
def ZE{s:bI}(b:bm s)(e:jT c){run:aE}(d:run.1<=64/\run.2<=64):sj (dR s aa c run) c:=(apw b e d).1
structure SK(s:bY)(c0:cz)(n:Nat):Prop where
 S:bm s.x.S
 P:fR s.x.P
 M: ∀i,ig (s.x.M i)
 Q: ∀k∈s.x.Q,k<2147483648
 len:s.x.Q.length<=n
 c:fP s.c
 run:s.c.run.1<=64/\s.c.run.2<=64
 cc:s.c.c=c0
 w:s.r.w<4294967296
 e:s.r.e<4294967296
 v:s.r.v<18446744073709551616
theorem apx: ∀ (l:lN) (f g:Nat->Nat) (P:cV),fR P->(∀i,g i<256)->fR (l.foldl (λP i=>vX P (f i) (g i)) P)
 | [],_,_,_,a,_=>a
 |i::l,f,g,P,a,b=>apx l f g _ (a.write _ _ (b i)) b
section
variable{s:bY}{c0:cz}{n:Nat}(h:SK s c0 n)
include h
theorem SK.iH:jT c0:=h.cc ▸ h.c.iH
theorem SK.ends(b:r.w<4294967296)(e:r.e<4294967296)(c:r.v<18446744073709551616):SK (rZ s r) c0 (n+64):=by
 refine⟨h.S,h.P,YW h.M _,λk a=>?_,?_,h.c,h.run,h.cc,b,e,c⟩
 ·rcases aha.1 (show k∈s.x.Q++iX s.c.run from a)with a|a
  ·exact h.Q k a
  ·obtain⟨i,d,rfl⟩:=ais.1 a;have:=arH.1 d;have:=h.run;omega
 ·show(vY _ _).Q.length<=_;rw[ao7];have:=h.len;have:=h.run;omega
theorem SK.check(b: ∀a∈uq s.x.S c0,a<4294967296):SK (oT s).1 c0 (n+64):=by
 have c:=h.len;unfold oT;rw[h.cc];split
 ·exact⟨h.S,h.P,h.M,h.Q,by grind,h.c,h.run,h.cc,h.w,h.e,h.v⟩
 split
 ·exact⟨h.S,h.P,h.M,h.Q,by grind,h.c,h.run,h.cc,h.w,h.e,h.v⟩
 split
 ·refine h.ends (by show 0<_;omega) ?_ (by show 0<_;omega);show oR s.x.S s.c.aa c0<_;unfold oR;split
  ·omega
  ·exact(ZE h.S h.iH (run:=(0,0)) ⟨by simp,by simp⟩).e
 ·exact⟨h.S,h.P,h.M,h.Q,by grind,⟨h.c.aa,h.c.iH,b,h.c.run,h.c.fh⟩,h.run,h.cc,h.w,h.e,h.v⟩
theorem SK.marks:SK (oU s).1 c0 n:=by
 unfold oU;split
 ·exact h
 ·rename_i a l hr;refine⟨h.S,h.P,aAA h.M _,h.Q,h.len,?_,?_,?_,h.w,h.e,h.v⟩
  ·show fP (if(iW s.x.M (aO a) s.c.aa).2 then{s.c with aU:=l}else s.c);split
   ·exact⟨h.c.aa,h.c.iH,λb c=>h.c.aU b (by grind),h.c.run,h.c.fh⟩
   ·exact h.c
  ·show(if(iW s.x.M (aO a) s.c.aa).2 then{s.c with aU:=l}else s.c).run.1<=64/\ (if(iW s.x.M (aO a) s.c.aa).2 then{s.c with aU:=l}else s.c).run.2<=64;split
   ·exact h.run
   ·exact h.run
  ·show(if(iW s.x.M (aO a) s.c.aa).2 then{s.c with aU:=l}else s.c).c=c0;split
   ·exact h.cc
   ·exact h.cc
theorem SK.aC5:SK (oV s).1 c0 (n+64):=by
 have d:=h.len;have c:=aop s.x.S s.c.aa s.c.c;unfold oV;dsimp only;split
 ·exact⟨h.S,h.P,h.M,h.Q,by grind,h.c,h.run,h.cc,h.w,h.e,h.v⟩
 have a:=h.P.aon (fg s.x.S s.c.aa s.c.c);split
 ·have b:SK {s with x:={s.x with P:=(jv s.x.P (fg s.x.S s.c.aa s.c.c)).1}} c0 n:=⟨h.S,a,h.M,h.Q,h.len,h.c,h.run,h.cc,h.w,h.e,h.v⟩;refine b.ends (by show 0<_;omega) ?_ (by show 0<_;omega);unfold jv
  grind
 ·rename_i he;have:=aBb h.P _ (by omega) (Decidable.not_not.1 he);exact⟨h.S,a,h.M,h.Q,by grind,⟨h.c.aa,h.c.iH,h.c.aU,⟨by grind,by show fg _ _ _<_;omega⟩,h.c.fh⟩,⟨by show(jv _ _).2.1<=_;omega,by show fg _ _ _<=_;omega⟩,h.cc,h.w,h.e,h.v⟩
theorem SK.aC6:SK (oW s).1 c0 n:=by
 unfold oW;split
 ·exact h
 ·have:=h.run;exact⟨h.S,h.P.clear _,h.M,h.Q,h.len,⟨h.c.aa,h.c.iH,h.c.aU,h.c.run,by grind⟩,h.run,h.cc,h.w,h.e,h.v⟩
theorem SK.eL:SK (Go.Proofs.YteplichagkpciaaGreatDoor.eL s) c0 (n+64):=by
 have b:=h.len;unfold Go.Proofs.YteplichagkpciaaGreatDoor.eL;split
 ·have hr:=h.run;refine⟨h.S,h.P,h.M,λk a=>?_,?_,⟨h.c.aa,h.c.iH,h.c.aU,⟨by simp,by simp⟩,h.c.fh⟩,⟨by simp,by simp⟩,h.cc,h.w,h.e,h.v⟩
  ·rcases aha.1 (show k∈s.x.Q++iX s.c.run from a)with a|a
   ·exact h.Q k a
   ·obtain⟨i,c,rfl⟩:=ais.1 a
    grind
  ·show(s.x.Q++iX s.c.run).length<=_;rw[ahU];have: (iX s.c.run).length=s.c.run.2:=by simp[iX]
   omega
 ·exact⟨h.S,h.P,h.M,h.Q,by omega,h.c,h.run,h.cc,h.w,h.e,h.v⟩
theorem SK.aC7:SK (Af s) c0 (n+262400):=by
 rw[aoD];have a:=h.eL;generalize Go.Proofs.YteplichagkpciaaGreatDoor.eL s=st at a;obtain⟨b,d⟩:=apw a.S a.iH (aa:=st.c.aa) (run:=st.c.run) a.run;unfold O4;rw[a.cc];dsimp only;split
 ·have:=a.ends b.w b.e d;exact⟨this.S,this.P,this.M,this.Q,by have:=this.len;omega,this.c,this.run,this.cc,this.w,this.e,this.v⟩
 ·have u:=a.len;have p:=b.len;have v:fR (AE st.x.P c0 (iU st.x.S c0).1):=by
   unfold AE;split
   ·exact apx _ _ _ _ a.P λi=>als _ (by omega)
   ·exact a.P
  generalize q: ({st.x with S:=(dR st.x.S st.c.aa c0 st.c.run).1,P:=AE st.x.P c0 (iU st.x.S c0).1}:Core)=X;have e:X.Q=st.x.Q:=by grind
  have j:X.M=st.x.M:=by grind
  have g:fR X.P:=by grind
  have f:bm X.S:=by rw[<-q];exact b.S
  obtain⟨o,m,l⟩:=Zf (dR st.x.S st.c.aa c0 st.c.run).2.2 X;have k:=DB (dR st.x.S st.c.aa c0 st.c.run).2.2 X λr hr=>(b.runs r hr).2
  have t:SK {st with x:=(dR st.x.S st.c.aa c0 st.c.run).2.2.foldl c7 X,c:={st.c with run:=(0,0)}} c0 (n+262336):=
   ⟨o ▸ f,m ▸ g,by rw[show((dR st.x.S st.c.aa c0 st.c.run).2.2.foldl c7 X).M=X.M from l,j];exact a.M,Zg _ X b.runs (by rw[e];exact a.Q),by
     rw[e]at k;exact ajU k (by omega),⟨a.c.aa,a.c.iH,a.c.aU,⟨by show 0<_;omega,by show 0<_;omega⟩,a.c.fh⟩,⟨by show 0<=_;omega,by show 0<=_;omega⟩,a.cc,a.w,a.e,a.v⟩
  refine t.ends b.w b.e ?_;show AF _ _ _ _<_;unfold AF;split
  ·exact Zb a.P _ _ d _ (aos a.S c0).1
  omega
theorem SK.mono{m:Nat}(a:n<=m):SK s c0 m:=⟨h.S,h.P,h.M,h.Q,by have:=h.len;omega,h.c,h.run,h.cc,h.w,h.e,h.v⟩
end
def aC8{t:aw}(c:eG t){h:Nat}(b:a∈under t h):t.ax a=true:=by
 unfold under at b;split at b
 ·rename_i d;exact Hp c.ok.b d b
 grind
def aC9{s:bI}(g:bm s): ∀a∈uq s c,a<4294967296:=by
 have j: ∀h,∀a∈oS s h,a<4294967296:=λh a d=>by
  unfold oS at d;split at d
  ·rename_i i;rw[ahc.1 d];exact gn i
  ·cases d
 have e: ∀h,∀a∈under s.T h,a<4294967296:=λh a d=>gn (aC8 g.ez d)
 intro a d;unfold uq at d;split at d
 ·exact j _ a d
 split at d
 ·exact e _ a d
 split at d
 ·split at d
  ·cases d
  ·rename_i f;split at d
   ·exact e _ a d
   ·rcases aha.1 d with d|d
    ·exact e _ a d
    ·rw[ahc.1 d];refine gn (b:=s.T.b) ?_;simp only[not_or,Bool.not_eq_false]at f;exact f.2
 grind
def apy{x:Core}{c:Call}(a:jW x)(i:fP c)(g:c.run.1<=64/\c.run.2<=64):SK (gA x c) c.c (x.Q.length+262528):=by
 have j:SK ⟨x,c,b8,false⟩ c.c x.Q.length:=⟨a.S,a.P,a.M,a.Q,ahT _,i,g,rfl,by show 0<_;omega,by show 0<_;omega,by show 0<_;omega⟩;have f:=j.check (aC9 a.S);have e:=f.marks;have d:=e.aC5;have b:=d.aC6;unfold gA;dsimp only;split
 ·exact f.mono (by omega)
 split
 ·exact e.mono (by omega)
 split
 ·exact d.mono (by omega)
 split
 ·exact b.mono (by omega)
 ·exact b.aC7.mono (by omega)
def aDa(h:dH m)(t:Nat): (gA m.az (m.aA t).c).r.v<18446744073709551616:=(apy h.az (h.c t) (h.run t)).v
def apz(h:dH m)(d:m.az.Q.length<2147483648)(t:Nat):apk m t/\ (yi m t).az.Q.length<=m.az.Q.length+262528:=by
 have hs:=apy h.az (h.c t) (h.run t);have c:SK ⟨m.az,(m.aA t).c,b8,false⟩ (m.aA t).c.c m.az.Q.length:=⟨h.az.S,h.az.P,h.az.M,h.az.Q,ahT _,h.c t,h.run t,rfl,by show 0<_;omega,by show 0<_;omega,by show 0<_;omega⟩;have a:=c.eL;have b:=hs.len;refine⟨⟨?_,⟨⟨hs.S,hs.P,hs.M,hs.Q,by show(gA _ _).x.Q.length<_;omega⟩,λj=>?_,λj=>?_,λj=>?_,h.now,h.ev,λj=>?_⟩,⟨hs.w,hs.e⟩,?_⟩,b⟩
 ·rw[a.cc];exact ZE a.S (h.c t).iH a.run
 ·show lK (aq m.aA t _ j).t;unfold aq;split
  ·exact h.t t
  ·exact h.t j
 ·show fP (aq m.aA t _ j).c;unfold aq;split
  ·exact hs.c
  ·exact h.c j
 ·show(aq m.aA t _ j).fr<_;unfold aq;split
  ·exact h.fr t
  ·exact h.fr j
 ·show(aq m.aA t _ j).c.run.1<=64/\ (aq m.aA t _ j).c.run.2<=64;unfold aq;split
  ·exact hs.run
  ·exact h.run j
 ·rw[hs.cc];exact(h.c t).iH.op
def aDb{t:Task}(h:lK t){v:Nat}(a:v<18446744073709551616): ∀j,aq t.aU i v j<18446744073709551616:=λj=>by
 unfold aq;split
 ·omega
 ·exact h.aU j
def aDc{t:Task}(h:lK t):lK (r8 t):=by
 unfold r8;split
 ·exact h
 split
 ·exact h
 ·rename_i x c;have e:t.next<t.code.length:=(aaG.1 c).1;have f:=h.len;have b:=H4 h c;have a: ∀v,v<18446744073709551616->lK {t with aU:=aq t.aU (x.a % 8) v,next:=t.next+1}:=λv d=>
   ⟨h.len,h.ins,by show t.next+1<=64;omega,aDb h d⟩
  dsimp only;split
  ·exact a _ (by have:=b.n;omega)
  split
  ·exact a _ (als _ (by decide))
  split
  ·exact a _ (als _ (by decide))
  split
  ·exact a _ (als _ (by decide))
  split
  ·rename_i i;refine⟨h.len,h.ins,?_,h.aU⟩;show x.n<=64;exact b.j (.inl i)
  split
  ·rename_i g;refine⟨h.len,h.ins,?_,h.aU⟩;have:=b.j (.inr g);show(if _ then x.n else t.next+1)<=64;split
   ·omega
   ·exact ajU e f
  ·exact⟨h.len,h.ins,by show t.next+1<=64;omega,h.aU⟩
def aDd{t:Task}(h:lK t)(c:r.v<18446744073709551616)(b:r.w<4294967296)(f:r.e<4294967296):lK (uu t r):=by
 unfold uu;split
 ·exact h
 ·rename_i x a;have d:t.next<t.code.length:=(aaG.1 a).1;have e:=h.len;split
  ·refine⟨h.len,h.ins,by grind,λj=>?_⟩;show aq (aq (aq t.aU (x.a % 8) r.v) 4 r.w) 7 r.e j<_;unfold aq;split
   ·omega
   ·split
    ·omega
    ·split
     ·omega
     ·exact h.aU j
  omega
structure sk(m:aZ):Prop where
 ok:dH m
 q:m.az.Q.length<=263200*m.now
 e:m.cP.length<=m.now
def dH.Ia(h:dH m){n:Nat}(a:n<2147483648):dH {m with now:=n}:=⟨h.az,h.t,h.c,h.fr,a,h.ev,h.run⟩
def dH.ended(h:dH m){c:Call}{run:aE}(b:r.v<18446744073709551616)(a:r.w<4294967296)(d:r.e<4294967296)(e:m.cP.length<2147483647):dH (N8 m t c run r):=by
 refine⟨h.az,λj=>?_,λj=>?_,λj=>?_,h.now,?_,λj=>?_⟩
 ·show lK (aq m.aA t _ j).t;unfold aq;split
  ·exact aDd (h.t t) b a d
  ·exact h.t j
 ·show fP (aq m.aA t _ j).c;unfold aq;split
  ·exact DH
  ·exact h.c j
 ·show(aq m.aA t _ j).fr<_;unfold aq;split
  ·exact h.fr t
  ·exact h.fr j
 ·show(m.cP++[_]).length<_
  grind
 ·show(aq m.aA t _ j).c.run.1<=64/\ (aq m.aA t _ j).c.run.2<=64;unfold aq;split
  ·exact⟨by show 0<=64;omega,by show 0<=64;omega⟩
  ·exact h.run j
structure Ib(a b:aZ):Prop where
 q:b.az.Q.length<=a.az.Q.length+262600
 e:b.cP.length<=a.cP.length+1
 n:b.now=a.now
def apA(h:dH m)(c:m.az.Q.length<2147483648)(b:m.cP.length<2147483647)(t:Nat):dH (xQ m t)/\Ib m (xQ m t):=by
 obtain⟨a,d⟩:=apz h c t;rw[apb];split
 ·refine⟨a.m'.ended (aDa h t) a.r.1 a.r.2 b,by show(yi m t).az.Q.length<=_;omega,?_,rfl⟩;show(m.cP++[_]).length<=_
  grind
 ·exact⟨a.m',by omega,by show m.cP.length<=_;omega,rfl⟩
def apB(h:dH m)(c:m.az.Q.length<2147483648)(b:m.cP.length<2147483647)(d:t<8):dH (Ag m t)/\Ib m (Ag m t):=by
 unfold Ag;dsimp only;split
 ·exact apA h c b t
 split
 ·obtain⟨e,a⟩:=apA (m:=Pc m t) (h.wanted d) c b t;exact⟨e,a.q,a.e,a.n⟩
 ·refine⟨⟨h.az,λj=>?_,λj=>?_,λj=>?_,h.now,h.ev,λj=>?_⟩,by simp,by simp,rfl⟩
  ·show lK (aq m.aA t _ j).t;unfold aq;split
   ·exact aDc (h.t t)
   ·exact h.t j
  ·show fP (aq m.aA t _ j).c;unfold aq;split
   ·exact h.c t
   ·exact h.c j
  ·show(aq m.aA t _ j).fr<_;unfold aq;split
   ·exact h.fr t
   ·exact h.fr j
  ·show(aq m.aA t _ j).c.run.1<=64/\ (aq m.aA t _ j).c.run.2<=64;unfold aq;split
   ·exact h.run t
   ·exact h.run j
def aDe:jT fF:=⟨by decide,by decide,by decide,by decide,by decide,by decide⟩
def apC(h:dH m)(t:Nat):sj (dR m.az.S t fF (0,0)) fF:=ZE h.az.S aDe ⟨by simp,by simp⟩
def apD(h:dH m)(f:m.az.Q.length<2147483648)(e:m.cP.length<2147483647)(t:Nat):dH (C6 m t)/\Ib m (C6 m t):=by
 have b:=apC h t;have c:=DB (dR m.az.S t fF (0,0)).2.2 m.az λr hr=>(b.runs r hr).2
 have d:=b.len;have a:=jW.aoB (x:=m.az) h.az b.runs (by omega);refine⟨⟨⟨b.S,a.P,a.M,a.Q,a.Ql⟩,h.t,h.c,h.fr,h.now,?_,h.run⟩,?_,?_,rfl⟩
 ·show(m.cP++[_]).length<_
  grind
 ·exact ajU c (by omega)
 ·show(m.cP++[_]).length<=_
  grind
def aDf(h:dH m)(a:m.az.Q.length<1073741824):dH (m0 m)/\ (m0 m).az.Q.length<=m.az.Q.length+512:=by
 obtain⟨c,b⟩:=Zt h a 8 (by omega);exact⟨c,b⟩
def apE(m:aZ)(i:Nat): (nK m i).cP=m.cP/\ (nK m i).now=m.now:=by unfold nK;grind
theorem Pe(m:aZ): ∀k,(jg m k).cP=m.cP/\ (jg m k).now=m.now
 |0=>⟨rfl,rfl⟩
 |k+1=>by rw[Zs];exact⟨(apE _ _).1.trans (Pe m k).1,(apE _ _).2.trans (Pe m k).2⟩
def apF{x:Core}(h:jW x):jW (iY x).1/\ (iY x).1.Q.length<=x.Q.length:=by
 unfold iY;split
 ·grind
 ·rename_i a l c;exact⟨⟨h.S,h.P.back _,h.M,λk b=>h.Q k (by grind),by have:=h.Ql;grind⟩,by grind⟩
def sk.clear{a:aZ}(h:sk a)(e:dH m)(b:Ib a {m with now:=a.now})(g:m.now=a.now+1)(i:a.now<=4000):sk (m0 m):=by
 have o:m.az.Q.length<=a.az.Q.length+262600:=b.q;have n:m.cP.length<=a.cP.length+1:=b.e;have l:=h.q;have k:=h.e;obtain⟨f,j⟩:=aDf e (by omega);obtain⟨d,c⟩:=Pe m 8;have d: (m0 m).cP=m.cP:=d;have c: (m0 m).now=m.now:=c;exact⟨f,by omega,by grind⟩
def ZF(h:sk m)(e:m.now<=4000)(b:Nat):sk (gC m b).1/\ (gC m b).1.now<=m.now+1:=by
 have g:=h.q;have he:=h.e;have c:=(h.ok.Ia (n:=m.now+1) (by omega));have key: ∀m':aZ,dH m'->Ib m {m' with now:=m.now}->m'.now=m.now+1->sk (m0 m')/\ (m0 m').now<=m.now+1:=λm' d a f=>
  ⟨h.clear d a f e,by have: (m0 m').now=m'.now:=(Pe m' 8).2;omega⟩
 unfold gC;dsimp only;split
 ·grind
 split
 ·split
  ·obtain⟨d,a⟩:=apF h.ok.az;exact key _ ⟨d,h.ok.t,h.ok.c,h.ok.fr,by show m.now+1<_;omega,h.ok.ev,h.ok.run⟩ ⟨by show(iY m.az).1.Q.length<=_;omega,by show m.cP.length<=_;omega,rfl⟩ rfl
  grind
 split
 ·exact⟨h,Nat.le_succ m.now⟩
 split
 ·obtain⟨d,a⟩:=apD c (by show m.az.Q.length<_;omega) (by show m.cP.length<_;omega) (b % 8);exact key _ d ⟨a.q,a.e,rfl⟩ a.n
 ·obtain⟨d,a⟩:=apB c (by show m.az.Q.length<_;omega) (by show m.cP.length<_;omega) (als b (by decide));exact key _ d ⟨a.q,a.e,rfl⟩ a.n
def bH.Ia{n:Nat}{H:List ae}(h:bH n M p q m qv ev aB aK H)(k:Nat):
 bH n M p q {m with now:=k} qv ev aB aK (H.set M (.box (cG {m with now:=k} p aB aK ev) none)):=h.set rfl rfl h.cv h.rv
def ZG{n:Nat}{H:List ae}(hD: ∀op,mo op)(d:bH n M p q m qv ev aB aK H)(l:sk m)(hn:m.now<=4000)(b:Nat)(hb:b<256)(lo:oN):
  ∃J,D XC (.fn (.func zg) [] []) [.ptr M 0,.int .u8 b] ⟨H,lo⟩=some J/\gI n M p q H lo (gC m b).1 qv ev (.int .i64 (gC m b).2) J:=by
 refine cE s8 λN t=>?_
 have H9:M<N:=by rw[<-t];exact d.lt
 have o7:p<N:=by rw[<-t];exact d.co.lt
 have Zx:=d.nM;have hq:=l.q;have he:=l.e;have X:b % 8<8:=als _ (by decide);have e: (b:Int).tmod 8=((b % 8:Nat):Int):=by rw[aqx (by omega)];omega
 have i:IntKind.i64.wrap ((b % 8:Nat):Int)=((b % 8:Nat):Int):=wrap_i64 (by omega) (by omega);have A:IntKind.i64.wrap ((m.now:Int)+1)=((m.now+1:Nat):Int):=wrap_i64 (by omega) (by omega);have g:=l.ok.Ia (n:=m.now+1) (by omega);have hA:=d.Ia (m.now+1);have hF:=d.fM (.box (cG {m with now:=m.now+1} p aB aK ev) none);have f:ep EK.ptr (AV.ptr M 0) AV.en=some false:=rfl;have o:aH (cG m p aB aK ev) 193 [.int .i64 ((m.now:Int)+1)]=cG {m with now:=m.now+1} p aB aK ev:=ao3 (n:=m.now+1);unfold gC;dsimp only;by_cases k1:8<b/\b<16\/24<=b
 ·rw[aaR k1];have g1: (8:Int)<b:=by omega
  by_cases k2:b<16
  ·have g2: (b:Int)<16:=by omega
   simp only[go_sem,simprocAttr,s8,e,i,f,g1,g2];exact gI.fin d t d Fm.refl (fE.no ⟨rfl,rfl⟩) (abX _)
  ·have g2: ¬(b:Int)<16:=by omega
   have I: (24:Int)<=b:=by omega
   simp only[go_sem,simprocAttr,s8,e,i,f,g1,g2,I];exact gI.fin d t d Fm.refl (fE.no ⟨rfl,rfl⟩) (abX _)
 rw[aaH k1];have I: ¬(24:Int)<=b:=by omega
 have E: ∀ (m':aZ) (y C:AV) (nX s:Nat->AV) (W:List ae) (ak:oN),dH m'->m'.az.Q.length<1073741824->bH n M p q m' y C nX s W->Fm n [M,p,q] H W->fE (y=qv/\C=ev) p ak->
   ∃v w c,D XC (.fn (.func JS) [] []) [.ptr M 0] ⟨W,ak⟩=some (.ret v ⟨w,c⟩)/\gI n M p q H lo (m0 m') qv ev (.int .i64 0) (.ret (finish N lo (.int .i64 0) ⟨w,c⟩).1 (finish N lo (.int .i64 0) ⟨w,c⟩).2):=by
  intro m' y C nX s W ak h1 h2 h3 h4 h5;obtain⟨J,G,x,O,u,r,w,c,rfl,F,c3,c4⟩:=aB4 h3 h1 h2 ak;exact⟨_,w,c,G,gI.fin d t F (h4.trans c3) (h5.step c4 λa b=>⟨b.1.trans a.1,b.2.trans a.2⟩) (abX _)⟩
 by_cases k8:b=8
 ·rw[aaR k8];have g1: ¬(8:Int)<b:=by omega
  have B: (b:Int)=8:=by omega
  obtain⟨J,P,x,W,c,rfl,r2,T,r4⟩:=aBa d.co l.ok.az none;have k:=d.az r2 T;obtain⟨S,ro2⟩:=apF l.ok.az;cases hr: (iY m.az).2 with
  |false=>
   rw[hr]at P;rw[aaH (by decide)];have e1: ({m with az:=(iY m.az).1}:aZ)=m:=by
    have: (iY m.az).1=m.az:=by
     unfold iY at hr⊢;split
     ·rfl
     ·rename_i h;rw[h]at hr;cases hr
    rw[this]
   rw[e1]at k;simp only[go_sem,simprocAttr,s8,f,B,d.box,qJ,P];exact gI.fin d t k (bH.fc T) ((fZ.n r4).imp (λq=>⟨q.1,q.2,rfl⟩) id) (abX _)
  |true=>
   rw[hr]at P;rw[aaR rfl];have DJ:=k.Ia (m.now+1);have hF3:=(bH.fc (M:=M) T).trans (k.fM (.box (cG {{m with az:=(iY m.az).1}with now:=m.now+1} p aB aK ev) none));obtain⟨v,w,K,G,F⟩:=E {m with az:=(iY m.az).1,now:=m.now+1} _ _ _ _ _ c ⟨S,l.ok.t,l.ok.c,l.ok.fr,by show m.now+1<_;omega,l.ok.ev,l.ok.run⟩ (by show(iY m.az).1.Q.length<_;omega) DJ hF3 ((fZ.n r4).imp (λq=>⟨q.1,q.2,rfl⟩) id);have Z:=k.box;have o:aH (cG {m with az:=(iY m.az).1} p aB aK ev) 193 [.int .i64 ((m.now:Int)+1)]=cG {m with az:=(iY m.az).1,now:=m.now+1} p aB aK ev:=ao3 (m:={m with az:=(iY m.az).1}) (n:=m.now+1);have Y:=DF (m:={m with az:=(iY m.az).1}) (p:=p) (aB:=aB) (aK:=aK) (ev:=ev);simp only[go_sem,simprocAttr,s8,f,B,d.box,qJ,P,Z,Y,A,o,po,G];exact F
 rw[aaH k8];have B: ¬(b:Int)=8:=by omega
 have j:=λlo=>Pb d (b % 8) lo
 cases L:qw m (b % 8)with
 |false=>
  rw[L]at j;rw[aaR rfl];by_cases z:16<=b
  ·have g1: (8:Int)<b:=by omega
   have g2: ¬(b:Int)<16:=by omega
   simp only[go_sem,simprocAttr,s8,e,i,f,g1,g2,I,B,j];exact gI.fin d t d Fm.refl (fE.no ⟨rfl,rfl⟩) (abX _)
  ·have g1: ¬(8:Int)<b:=by omega
   simp only[go_sem,simprocAttr,s8,e,i,f,g1,I,B,j];exact gI.fin d t d Fm.refl (fE.no ⟨rfl,rfl⟩) (abX _)
 |true=>
  rw[L]at j;rw[aaH (by decide)];by_cases z:16<=b
  ·rw[aaR z];have g1: (8:Int)<b:=by omega
   have g2: ¬(b:Int)<16:=by omega
   have g5: (16:Int)<=b:=by omega
   obtain⟨J,s1,x,O,u,r,W,c,rfl,s2,R,Q⟩:=aCd hD hA g (b % 8) X (by show m.az.Q.length<_;omega) (apC g _) none;obtain⟨V,U⟩:=apD g (by show m.az.Q.length<_;omega) (by show m.cP.length<_;omega) (b % 8);have o3:_<=m.az.Q.length+262600:=U.q;obtain⟨v,w,K,G,F⟩:=E _ _ _ _ _ _ c V (by omega) s2 (hF.trans R) (fZ.n Q);simp only[go_sem,simprocAttr,s8,e,i,f,g1,g2,I,B,g5,j,d.box,DF,A,o,po,s1,G];exact F
  ·rw[aaH z];have g1: ¬(8:Int)<b:=by omega
   have g5: ¬(16:Int)<=b:=by omega
   obtain⟨J,s1,x,O,u,r,W,c,rfl,s2,R,Q⟩:=aCb hD hA g (b % 8) X (by show m.az.Q.length<_;omega) (λm h1 h2=>(apz h1 h2 _).1) none;obtain⟨V,U⟩:=apB g (by show m.az.Q.length<_;omega) (by show m.cP.length<_;omega) X;have o3:_<=m.az.Q.length+262600:=U.q;obtain⟨v,w,K,G,F⟩:=E _ _ _ _ _ _ c V (by omega) s2 (hF.trans R) (fZ.n Q);simp only[go_sem,simprocAttr,s8,e,i,f,g1,I,B,g5,j,d.box,DF,A,o,po,s1,G];exact F
def yj:bI:={oX with alive:=λ_=>false,born:=λ_=>false}
theorem aDh:pV=bB yj:=rfl
def aDi(H:List ae)(lo:oN):D X0 (.fn (.func RU) [] []) [] ⟨H,lo⟩=some (.ret (.agg (bB oX)) ⟨H,lo⟩):=by
 refine aF T6 λN a=>?_
 have d:=aku (s:=yj) (i:=0) (v:=true) (by omega);have c:=akv (s:={yj with alive:=aq yj.alive 0 true}) (i:=0) (v:=true) (by omega);have b: ({yj with alive:=aq yj.alive 0 true,born:=aq yj.born 0 true}:bI)=oX:=by rfl
 simp only[F1,go_sem,simprocAttr,T6,a,aDh,d,c,b,fe,oK,OS,YR]
def aDj(n:Nat)(h:1<=n/\n<=64)(H:List ae)(lo:oN):D X0 (.fn (.func Sq) [] []) [.int .i64 n] ⟨H,lo⟩=some (.ret (.agg [.sl [[.int .i64 0,.int .i64 n]] true]) ⟨H,lo⟩):=by
 refine aF UG λN a=>?_
 have e: ¬(n:Int)<1:=by omega
 have d:min (n:Int) 64=n:=by omega
 have c:b9 [[AV.int IntKind.i64 0,AV.int IntKind.i64 n]]<=N+1:=abX _;have b:b9 [[AV.int IntKind.i64 0,AV.int IntKind.i64 n]]<=N:=abX _;simp only[F1,go_sem,simprocAttr,UG,a,e,d,c,b]
def Ic:cV:=⟨0,[],λ_ _=>0,true⟩
def uM(n:Nat):cV:=⟨n,[(0,n)],λ_ _=>0,true⟩
theorem apG{v:AV}: ∀n,bu n [v]=List.replicate n v
 |0=>rfl
 |n+1=>by show[v]++bu n [v]=_;rw[apG n];rfl
theorem apH{v:AV}{m:Nat}: ∀n,arr n (λ_=>List.replicate m v)=List.replicate (n*m) v
 |0=>by rw[Nat.zero_mul];rfl
 |n+1=>by rw[zY,apH n,aCg,asr]
theorem aDk:qE (λ_=>0)=List.replicate 32 (AV.int .u8 0):=rfl
def aDl:air=cm Ic:=by
 show[AV.int .i64 0,.ai]++bu 2048 [AV.int .u8 0]=[AV.int .i64 0,.ai]++arr 64 λ_=>qE λ_=>0
 rw[apG,aDk,apH]
theorem aHb:cm Ic=AV.int .i64 0:: .ai::arr 64 λ_=>qE λ_=>0:=rfl
theorem aHc{n:Nat}:cm (uM n)=AV.int .i64 n:: .sl [[.int .i64 0,.int .i64 n]] true::arr 64 λ_=>qE λ_=>0:=rfl
def apI{N id o:Nat}{k:IntKind}{a:Int}{H:List ae}(h:N<=id):finish N lo (.au [.ptr id o,.int k a]) ⟨H,none⟩=(.au [.ptr id o,.int k a],⟨H,lo⟩):=by
 have b: ¬(AV.au [.ptr id o,.int k a]).refs<=N:=by simp only[AV.refs,aG];omega
 refine ahi b ?_;rw[JC,aaH b,il,Rs h]
def aDm{N id o:Nat}{k:IntKind}{a:Int}{H:List ae}(h:N<=id):finish N lo (.au [.ptr id o,.int k a]) ⟨H,some j⟩=(.au [.ptr id o,.int k a],⟨H,cI lo j⟩):=by
 have b: ¬(AV.au [.ptr id o,.int k a]).refs<=N:=by simp only[AV.refs,aG];omega
 rw[EG];split
 ·rw[JC,aaH b,il,Rs h];rfl
 ·rfl
def aDn(n:Nat)(h:1<=n/\n<=64)(N:Nat)(H:List ae)(c:H.length=N)(lo:oN):D X0 (.fn (.func Sj) [] []) [.int .i64 n] ⟨H,lo⟩=some (.ret (.au [.ptr N 0,.int .i64 0]) ⟨H++[.box (cm (uM n)) none],lo⟩):=by
 refine aF Uo λM f=>?_
 have e: ¬(n:Int)<1:=by omega
 have d: ¬(64:Int)<n:=by omega
 have hr:=λH lo=>aDj n h H lo
 have b:1<=(cm Ic).length:=by rw[ye];omega
 have a:1<=(List.drop 1 (cm Ic)).length:=by rw[apj,ye];omega
 have he:AV.int .i64 n::AV.sl [[.int .i64 0,.int .i64 n]] true::List.drop 1 (List.drop 1 (cm Ic))=cm (uM n):=by rfl
 simp only[go_sem,simprocAttr,Uo,c,e,d,hr,aDl,b,a,he];rw[apI (by omega)]
theorem ZH:mJ=bB yj++([.en]++(cQ (λ_=>xO)++[.ai])):=rfl
def aDo(n:Nat)(h:1<=n/\n<=64)(N:Nat)(H:List ae)(e:H.length=N)(lo:oN):D X0 (.fn (.func R6) [] []) [.int .i64 n] ⟨H,lo⟩=some (.ret (.au [.ptr (N+1) 0,.int .i64 0]) ⟨H++[.box (cm (uM n)) none,.box (cF ⟨oX,uM n,λ_=>xO,[]⟩ N .ai) none],lo⟩):=by
 refine aF Uc λM i=>?_
 obtain rfl:M=N:=by omega
 have hr:=λlo=>aDn n h M H e lo
 have g:=λH lo=>aDi H lo
 have d:List.drop 952 mJ=[.en]++(cQ (λ_=>xO)++[.ai]):=by rw[ZH];exact List.drop_left' (fe _)
 have f:mJ.length=1274:=by rw[ZH,ahU,fe,ahU,ahU,ef];rfl
 have a:aH (bB oX++List.drop 952 mJ) 952 [.ptr M 0]=cF ⟨oX,uM n,λ_=>xO,[]⟩ M .ai:=by
  rw[d,gy (by rw[fe];omega),fe];rfl
 have c:953<=952+(List.drop 952 mJ).length:=by rw[d];simp[ef]
 have b:952<=mJ.length:=by rw[f];omega
 simp only[go_sem,simprocAttr,Uc,e,hr,g,fe,b,c,a];rw[apI (by omega)]
theorem apJ:Lb=[.en]++(arr 8 (λ_=>yg C5 .ai .ai)++[.int .i64 0,.ai]):=rfl
def fG(n:Nat)(aC:List lB)(k:Nat):aZ:=⟨⟨oX,uM n,λ_=>xO,[]⟩,λi=>{C5 with t:={uv with code:=if i<k then((aC[i]?).bind decode).getD []else[]}},0,[]⟩
def aDp(n:Nat)(aC:List lB)(a:lN):fG n aC aC.length=Xn ⟨n,aC,a⟩:=by
 unfold fG Xn
 congr 1
 grind
def m8(m:aZ)(n N:Nat)(pv kv:AV)(aB:Nat->AV)(H:List ae):List ae:=
 H++[.box [.int .i64 n,pv,kv] none,.box (cG m (N+3) aB (λ_=>.ai) .ai) none,.box (cm (uM n)) none,.box (cF ⟨oX,uM n,λ_=>xO,[]⟩ (N+2) .ai) none]
def apK{n N:Nat}{H:List ae}(a:H.length=N): (m8 m n N pv kv aB H)[N+1]?=some (.box (cG m (N+3) aB (λ_=>.ai) .ai) none):=by
 unfold m8;grind
def aDq{m':aZ}{n N:Nat}{nX:Nat->AV}{H:List ae}(a:H.length=N): (m8 m n N pv kv aB H).set (N+1) (.box (cG m' (N+3) nX (λ_=>.ai) .ai) none)=m8 m' n N pv kv nX H:=by
 unfold m8;simp_all
def aDr{n:Nat}{cv:AV}(c:k<aC.length)(b:k<8):
  aH (cG (fG n aC k) p aB (λ_=>.ai) .ai) (1+k*24) (db {uv with code:=(decode (aC.getD k default)).getD []} cv)=cG (fG n aC (k+1)) p (aq aB k cv) (λ_=>.ai) .ai:=by
 have g:=H7 (m:=fG n aC k) (p:=p) (aB:=aB) (aK:=λ_=>.ai) (ev:=.ai) (o:=0) (vs:=db {uv with code:=(decode (aC.getD k default)).getD []} cv) (r:={C5 with t:={uv with code:=(decode (aC.getD k default)).getD []}}) (cv:=cv) (rv:=.ai) b (by rw[yf];omega) rfl;have e:aq (λ_=>AV.ai) k AV.ai=λ_=>AV.ai:=mS (f:=λ_=>AV.ai)
 have d: ({fG n aC k with aA:=aq (fG n aC k).aA k {C5 with t:={uv with code:=(decode (aC.getD k default)).getD []}}}:aZ)=fG n aC (k+1):=by
  have a:aq (fG n aC k).aA k {C5 with t:={uv with code:=(decode (aC.getD k default)).getD []}}=(fG n aC (k+1)).aA:=by
   unfold aq fG
   grind
  rw[a];rfl
 grind
def apL{n:Nat}{a:lB}(h:H5 n aC a pv kv)(x:nL ⟨n,aC,a.map UInt8.toNat⟩=true)(N:Nat)(H:List ae)(r:H.length=N)(lo:oN):
  ∃P,D XC (.fn (.func ET) [] []) [.agg [.int .i64 n,pv,kv]] ⟨H,lo⟩=some P/\ ∃aB ak,P= .ret (.au [.ptr (N+1) 0,.int .i64 0]) ⟨m8 (fG n aC aC.length) n N pv kv aB H,ak⟩/\
   (∀i,Rv (aB i) 5 (((fG n aC aC.length).aA i).t.code.map da))/\ (ak=lo\/ ∃j,N<=j/\ak=cI lo j):=by
 obtain⟨w,f,Q⟩:1<=n/\n<=64/\aC.length<=8:=by unfold nL at x;simp at x;omega
 have b:=λH lo=>c0 (aBY h (by omega) H lo)
 rw[x]at b;refine cE T2 λM Y=>?_
 obtain rfl:M=N:=by omega
 have G:=λB lo=>c0 (aDo n ⟨w,f⟩ (M+2) (H++[.box [.int .i64 n,pv,kv] none,.box B none]) (by simp[r]) lo)
 have c:=h.pr;have s:aH Lb 0 [.ptr (M+3) 0]=cG (fG n aC 0) (M+3) (λ_=>.ai) (λ_=>.ai) .ai:=by rw[apJ];rfl
 have y:1<=Lb.length:=by rw[apJ];simp
 have z: ¬M+2<=M:=by omega
 have I:M+2+1=M+3:=rfl;have A:=λE=>c.bD (E:=E)
 simp only[go_sem,simprocAttr,T2,r,b,G,s,y,z,A,I];refine gX aC.length (λk e W ak=> ∃aB,e 4= .ptr (M+1) 0/\e 22=pv/\e 23= .int .i64 aC.length/\e 24= .int .i64 k/\W=m8 (fG n aC k) n M pv kv aB H/\ (∀i,Rv (aB i) 5 (((fG n aC k).aA i).t.code.map da))/\ak=some (M+1)) 0 (by omega) ?_ ?_
 ·refine⟨λ_=>.ai,?_⟩;simp only[go_sem,simprocAttr];exact⟨rfl,λi=>.ai,rfl⟩
 rintro k X e W ak ⟨aB,O,q,o,l,rfl,g,rfl⟩ U V;simp only[bO,go_sem,simprocAttr,aiG,O,q,o,l];refine⟨λR=>?_,λR=>?_⟩
 ·have d:k<aC.length:=by omega
  have T:k<8:=by omega
  obtain⟨cv,t1,t2⟩:=aBZ (aC.getD k default) (m8 (fG n aC k) n M pv kv aB H) (some (M+1));have t1:=c0 t1;have F: (0:Int)<=k/\ (k:Int)<8:=by omega
  have S:=apK (m:=fG n aC k) (n:=n) (pv:=pv) (kv:=kv) (aB:=aB) r;have hs:=λm' nX=>aDq (m:=fG n aC k) (m':=m') (n:=n) (pv:=pv) (kv:=kv) (aB:=aB) (nX:=nX) r
  have u:=aDr (n:=n) (p:=M+3) (cv:=cv) (aB:=aB) d T;have v:=HX (t:={uv with code:=(decode (aC.getD k default)).getD []}) (cJ t2 (bz (λ_=>rfl) _));have C:1+k*24+10<=195:=by omega
  simp(disch:=omega) only[go_sem,simprocAttr,O,q,o,l,c.bX,c.cp,sC,t1,F,S,hs,u,v,C,po,yf];refine⟨by omega,by omega,aq aB k cv,rfl,λi=>?_⟩;by_cases L:i=k
  ·subst L;have e:aC.getD i default=aC[i]:=by simp[List.getD,d]
   rw[cZ];have J: ((fG n aC (i+1)).aA i).t.code=(decode (aC.getD i default)).getD []:=by
    show(if i<i+1 then((aC[i]?).bind decode).getD []else[])=_;rw[aaR (by omega),abe d,e];rfl
   rw[J];exact t2
  ·rw[ds L];have J: ((fG n aC (k+1)).aA i).t.code=((fG n aC k).aA i).t.code:=by
    show(if i<k+1 then((aC[i]?).bind decode).getD []else[])=(if i<k then((aC[i]?).bind decode).getD []else[]);by_cases K:i<k
    ·rw[aaR K,aaR (by omega)]
    ·rw[aaH K,aaH (by omega)]
   rw[J];exact g i
 ·obtain rfl:k=aC.length:=by omega
  rw[aDm (by omega)];exact⟨aB,_,rfl,g,.inr ⟨M+1,by omega,rfl⟩⟩
theorem apM: ∀ (s:lB),∀x∈r6 s,x.n<65536
 |a::b::c::d::e::f::r,x,h=>by
  rcases ajR.1 h with rfl|h
  ·have:=e.toNat_lt;have:=f.toNat_lt
   grind
  ·exact apM r x h
 | [],x,h=>by cases h
 | [_],x,h=>by cases h
 | [_,_],x,h=>by cases h
 | [_,_,_],x,h=>by cases h
 | [_,_,_,_],x,h=>by cases h
 | [_,_,_,_,_],x,h=>by cases h
def aDs{s:lB}{l:List dO}(h:decode s=some l):l.length<=64/\ ∀x∈l,HW x:=by
 unfold decode at h;split at h
 ·cases h
 split at h
 ·rename_i hm;cases h;unfold qu at hm;simp only[ajI,alb,ajD]at hm;refine⟨hm.1,λx a=>?_⟩;have b:=hm.2 x a;unfold r0 at b;simp at b;have c:=apM s x a;exact⟨by omega,by omega,by omega,by omega,c,λd=>by omega⟩
 grind
def apN(h:Nat):ax (λ_=>⟨0,false,false⟩) h=false:=by
 unfold ax;grind
def aDt:bm oX:=by
 have a:gS (λ_=>⟨0,false,false⟩):=λi=>⟨abX _,λh=>by rfl⟩
 refine⟨⟨⟨a,λi=>Df⟩,λh=>?_,λi=>?_⟩,⟨λi=>by show 0<4294967296;omega,λi=>Ye⟩,⟨⟨a,λi h=>(by cases h),λi=>alR⟩,λi=>Dr _,[],.nil,λh q=>(by cases q),λh q=>?_,.nil,λh q=>(by cases q)⟩,λi=>⟨by show 0<4;omega,by show 0<=4;omega,λj=>Yl⟩⟩
 ·have e:aR oX.T h=[]:=by
    unfold aR eD bK;have:oX.T.ax h=false:=apN h
    grind
  grind
 ·exact Dr _
 ·rw[show ax oX.K.b h=false from apN h]at q;cases q
def aDu:ig xO:=⟨by trivial,by trivial,λi=>by show 0<8;omega,λi j h=>by cases h⟩
def aDv{n:Nat}(h:1<=n/\n<=64):fR (uM n):=⟨h.2,⟨List.pairwise_singleton _ _,λx a=>by rw[ahc.1 a];omega⟩,λi j=>by show 0<256;omega⟩
def apO{n:Nat}(h:1<=n/\n<=64)(aC:List lB)(k:Nat):sk (fG n aC k):=by
 refine⟨⟨⟨aDt,aDv h,λi=>aDu,λk c=>(by cases c),by show 0<_;omega⟩,λi=>?_,λi=>DH,λi=>by show 0<_;omega,by show 0<_;omega,by show 0<_;omega,λi=>⟨by show 0<=64;omega,by show 0<=64;omega⟩⟩,by show 0<=_;omega,by show 0<=_;omega⟩;have a: (if i<k then((aC[i]?).bind decode).getD []else[]).length<=64/\ ∀x∈(if i<k then((aC[i]?).bind decode).getD []else[]),HW x:=by
  split
  ·cases b: (aC[i]?).bind decode with
   |none=>simp
   |some l=>
    obtain⟨s,_,hs⟩:=aqj.1 b;exact aDs hs
  grind
 exact⟨a.1,a.2,by show 0<=64;omega,λj=>by show 0<_;omega⟩
def apP{n N:Nat}{H:List ae}(b:H.length=N)
  (a: ∀i,Rv (aB i) 5 (((fG n aC aC.length).aA i).t.code.map da)):
  bH N (N+1) (N+3) (N+2) (fG n aC aC.length) .ai .ai aB (λ_=>.ai) (m8 (fG n aC aC.length) n N pv kv aB H):=
 ⟨by omega,by omega,⟨by omega,by omega,by omega,by unfold m8;rw[bw b];rfl,by unfold m8;rw[bw b];rfl,c9.ai⟩,apK b,c9.ai,a,λi=>.ai⟩
def aDw{N id o:Nat}{vs:lA}{ak:oN}{H:List ae}(h:N<=id):finish N lo (.au (.ptr id o::vs)) ⟨H,ak⟩=(.au (.ptr id o::vs),⟨H,ga lo ak⟩):=by
 have a: ¬(AV.au (.ptr id o::vs)).refs<=N:=by simp only[AV.refs,aG];omega
 have b: ∀E,Den.freeze E N 12 (.au (.ptr id o::vs))=none:=λE=>by rw[JC,aaH a,il,Rs h]
 cases ak with
 |none=>rw[Bk,aaH a,b]
 |some j=>
  rw[EG,b,aaH a]
  grind
def bH.mono{n:Nat}{H:List ae}(h:bH n M p q m qv ev aB aK H)(b:a<=n):bH a M p q m qv ev aB aK H:=
 ⟨by have:=h.nM;omega,h.Mq,⟨by have:=h.co.mp;omega,by have:=h.co.mq;omega,h.co.qp,h.co.box,h.co.ij,h.co.iG⟩,h.box,h.uL,h.cv,h.rv⟩
def Ie(e:Nat):lA:=[.int .i64 e]
def bH.aDx{n:Nat}{H W:List ae}{ty:TypeId}(h:bH n M p q m qv ev aB aK H)(g:ty≠nh\/sz≠1)(f:ty≠pT\/sz≠14)
  (b: ∀ (i:Nat) (o:ae),(∀a d,o≠ae.row a sz ty d)->H[i]?=some o->W[i]?=some o):bH n M p q m qv ev aB aK W:=by
 have c: ∀cs tg,∀a d,ae.box cs tg≠ .row a sz ty d:=λ_ _ _ _ e=>by cases e
 refine⟨h.nM,h.Mq,⟨h.co.mp,h.co.mq,h.co.qp,b _ _ (c _ _) h.co.box,b _ _ (c _ _) h.co.ij,h.co.iG.oo λid aj all hr=>b _ _ (λa d e=>?_) hr⟩,b _ _ (c _ _) h.box,h.uL.oo λid aj all hr=>b _ _ (λa d e=>?_) hr,h.cv,h.rv⟩
 ·grind
 grind
def runK(n:Nat)(aC:List lB)(a:lB)(k:Nat):aZ×lN:=
 ((a.take k).map UInt8.toNat).foldl (λp b=>((gC p.1 b).1,p.2++[(gC p.1 b).2])) (fG n aC aC.length,[])
def Pf{n:Nat}{a:lB}(h:k<a.length):
  runK n aC a (k+1)=((gC (runK n aC a k).1 (a.getD k default).toNat).1,(runK n aC a k).2++[(gC (runK n aC a k).1 (a.getD k default).toNat).2]):=by
 have e:a.getD k default=a[k]:=by grind
 unfold runK;rw[ajN,abe h,aiw,apm,e];rfl
def apQ(n:Nat)(aC:List lB)(a:lB):runK n aC a a.length=N9 ⟨n,aC,a.map UInt8.toNat⟩:=by
 unfold runK N9;rw[aiv,aDp n aC (a.map UInt8.toNat)]
theorem Pg{n:Nat}(h:1<=n/\n<=64)(aC:List lB){a:lB}(b:a.length<=4000): ∀k,k<=a.length->sk (runK n aC a k).1/\ (runK n aC a k).1.now<=k
 |0,_=>⟨apO h aC _,ahT 0⟩
 |k+1,d=>by
  obtain⟨c,g⟩:=Pg h aC b k (by omega);obtain⟨f,e⟩:=ZF c (by omega) (a.getD k default).toNat;rw[Pf (by omega)]
  grind
theorem apR{n:Nat}{aC:List lB}{a:lB}: ∀k,k<=a.length->(runK n aC a k).2.length=k
 |0,_=>rfl
 |k+1,b=>by rw[Pf (by omega)];rw[ahU,apR k (by omega)];rfl
def aDy{n:Nat}{b:lB}(hD: ∀op,mo op)(h:H5 n aC b pv kv)(j:nL ⟨n,aC,b.map UInt8.toNat⟩=true)(N:Nat)(H:List ae)(r:H.length=N)(lo:oN):
  ∃x,D XC (.fn (.func RL) [] []) [.agg [.int .i64 n,pv,kv]] ⟨H,lo⟩=some x/\ ∃M p q qv ev aB aK c H' ak,x= .ret (.au [.ptr M 0,c,.int .i64 0]) ⟨H',ak⟩/\
   bH N M p q (N9 ⟨n,aC,b.map UInt8.toNat⟩).1 qv ev aB aK H'/\c9 N H' c 1 vm ((N9 ⟨n,aC,b.map UInt8.toNat⟩).2.map Ie)/\H.length<=H'.length/\ ∀i,i<N->H'[i]?=H[i]?:=by
 obtain⟨C,m,F⟩:1<=n/\n<=64/\b.length<=4000:=by unfold nL at j;simp at j;omega
 refine cE TU λM hM=>?_
 obtain rfl:M=N:=by omega
 have DL:=cJ h.pr (bz (λ_=>rfl) _);have EM:=cJ h.pk (bz (λ_=>rfl) _);obtain⟨x,R,aB,HJ,rfl,Q,n3⟩:=apL h j (M+1) (H++[.box [.int .i64 n,pv,kv] none]) (by simp[r]) none;have L:M+1+1=M+2:=rfl;have G:=λE=>h.pk.bD (E:=E)
 have g:=apP (N:=M+1) (n:=n) (aC:=aC) (pv:=pv) (kv:=kv) (H:=H++[.box [.int .i64 n,pv,kv] none]) (by simp[r]) Q;have S: (m8 (fG n aC aC.length) n (M+1) pv kv aB (H++[.box [.int .i64 n,pv,kv] none]))[M]?=some (.box [.int .i64 n,pv,kv] none):=by
  unfold m8;rw[aaF (by simp[r]),dn r];rfl
 simp only[go_sem,simprocAttr,TU,r,L,R,S,G];refine gX b.length (λk e W ak=> ∃qv ev aB aK c,e 5= .ptr (M+2) 0/\e 7=c/\e 19=kv/\e 20= .int .i64 b.length/\e 21= .int .i64 k/\bH (M+1) (M+2) (M+4) (M+3) (runK n aC b k).1 qv ev aB aK W/\c9 M W c 1 vm ((runK n aC b k).2.map Ie)/\H.length<=W.length/\ ∀i,i<M->W[i]?=H[i]?) 0 (by omega) ?_ ?_
 ·refine⟨.ai,.ai,aB,λ_=>.ai,.ai,?_⟩;simp only[go_sem,simprocAttr];refine⟨g,c9.ai,by unfold m8;simp,λi I=>?_⟩;unfold m8;rw[aaF (by simp;omega),aaF (by omega)]
 clear g S R Q n3 aB;rintro k hk e W ak ⟨qv,ev,aB,aK,c,U,e7,u,t,s,g,T,hl,f⟩ nn hn;simp only[bO,go_sem,simprocAttr,aiA,U,e7,u,t,s];refine⟨λhh=>?_,λhh=>?_⟩
 ·have o:k<b.length:=by omega
  obtain⟨Z,o2⟩:=Pg ⟨C,m⟩ aC F k (by omega);have hb:=(b.getD k default).toNat_lt;obtain⟨x,Y,z,P,v,l,V,B,rfl,X,w,p4⟩:=ZG hD g Z (by omega) (b.getD k default).toNat hb ak;have J:M<=V.length:=by have:=w.len;omega
  have K:c9 M V c 1 vm ((runK n aC b k).2.map Ie):=T.oo λid aj all hr=>w.box id _ (by
   have h1:=g.box;have h2:=g.co.box;have h3:=g.co.ij;intro j;simp at j;rcases j with rfl|rfl|rfl
   ·rw[h1]at hr;cases hr
   ·rw[h2]at hr;cases hr
   ·rw[h3]at hr;cases hr) (λq=>by
   rcases q with⟨a,d,q⟩| ⟨a,d,q⟩
   ·injection q with _ _ q;cases q
   ·injection q with _ q;cases q) hr
  obtain⟨A,W3,g1,g2,g3,g4,g5,g6,g7,g8⟩:=c9.append (bytes:=8) (lo:=B) (y:=Ie (gC (runK n aC b k).1 (b.getD k default).toNat).2) K J (by omega) rfl rfl (by rw[ahX,apR k (by omega)];unfold room;omega);have O:=X.aDx (sz:=1) (ty:=vm) (.inl (by decide)) (.inl (by decide)) g5;unfold Ie at g1;simp(disch:=omega) only[go_sem,simprocAttr,U,e7,u,t,s,h.pk.bX,h.pk.cp,bC,Y,g1];rw[Pf o];refine⟨by omega,o,z,P,v,l,A,rfl,O,?_,by have:=w.len;omega,λi I=>(g4 i I).trans ((w.low i (by omega)).trans (f i I))⟩;rw[aiw];exact g2
 ·obtain rfl:k=b.length:=by omega
  rw[aDw (by omega),<-apQ];exact⟨M+2,M+4,M+3,qv,ev,aB,aK,c,W,_,rfl,g.mono (by omega),T,by omega,f⟩
def apS{E:AS}(h:Rd E v sz af): (v= .ai/\af=[])\/ep .sl v .ai=some false:=by
 have a:=h.kind;cases v<;>first|exact .inr rfl|grind|skip
 ·exact .inl ⟨rfl,by have:=h.eq;simp[Den.elems]at this;omega⟩
def apT{l:List α}{g:α->lA}{ty:TypeId}{bytes N:Nat}{H:List ae}(a:H.length=N)(b:0<sz)(i: ∀x,(g x).length=sz)(c: ∀x,aG (g x)=0)(e:l≠[])(d:l.length*bytes<=room):
  dx ⟨H,none⟩ ty sz bytes (.sl [] true) (l.map g)=some (.ref N 0 sz 0 l.length false,⟨H++[.row 0 sz ty (l.map g)],none⟩)/\finish N lo (.ref N 0 sz 0 l.length false) ⟨H++[.row 0 sz ty (l.map g)],none⟩=(.sl (l.map g) false,⟨H,lo⟩):=by
 have f:0<l.length:=apf.2 e;have ha: (l.map g).all (λel=>el.length==sz)=true:=by grind
 have ho:aN N (H++[.row 0 sz ty (l.map g)]) (.ref N 0 sz 0 l.length false) sz ty (l.map g):=
  ⟨λel h=>by grind,.inr ⟨N,0,ahT _,by simp,dn a⟩⟩
 refine⟨?_,?_⟩
 ·simp only[dx,ha];rw[aaR ⟨b,trivial⟩,aaH (by rw[ahX];omega),aaR ⟨by simpa using d,rfl⟩];simp[AS.push,a]
 ·rw[Hy (.inl rfl) ho (by rw[bz c];omega),mF a];rfl
def aDz{H:List ae}(h:Rd ⟨H,none⟩ v 1 (l.map je))(e:l.length*8<=room)(lo:oN):
  ∃v',D X0 (.fn (.func RW) [] []) [v] ⟨H,lo⟩=some (.ret v' ⟨H,lo⟩)/\Rv v' 1 (l.map je):=by
 have d:=h.eq;have a:ep EK.sl AV.ai AV.ai=some true:=rfl;have e3:b9 ([]:List lA)=0:=rfl;rcases apS h with⟨rfl,he⟩|he
 ·refine⟨.ai,?_,by rw[he];exact .ai⟩;refine aF zP λN b=>?_
  simp(disch:=omega) only[F1,go_sem,simprocAttr,zP,a]
 ·by_cases c:l=[]
  ·subst c;refine⟨.sl [] true,?_,.sl (λel h=>by cases h)⟩;refine aF zP λN b=>?_
   have e1:dx ⟨H,none⟩ nh 1 8 (.sl [] true) []=some (.sl [] true,⟨H,none⟩):=rfl;simp(disch:=omega) only[F1,go_sem,simprocAttr,zP,he,d,e1,e3]
  ·refine⟨.sl (l.map je) false,?_,.sl (λel h=>by obtain⟨x,_,rfl⟩:=ais.1 h;rfl)⟩;refine aF zP λN b=>?_
   obtain⟨e1,f⟩:=apT (sz:=1) (ty:=nh) (bytes:=8) (lo:=lo) (g:=je) b (by omega) (λ_=>rfl) (λ_=>rfl) c e;simp only[go_sem,simprocAttr,zP,he,d,e1,f]
def aDA{H:List ae}(h:Rd ⟨H,none⟩ v 1 (l.map hC))(e:l.length*4<=room)(lo:oN):
  ∃v',D X0 (.fn (.func Sa) [] []) [v] ⟨H,lo⟩=some (.ret v' ⟨H,lo⟩)/\Rv v' 1 (l.map hC):=by
 have d:=h.eq;have a:ep EK.sl AV.ai AV.ai=some true:=rfl;have e3:b9 ([]:List lA)=0:=rfl;rcases apS h with⟨rfl,he⟩|he
 ·refine⟨.ai,?_,by rw[he];exact .ai⟩;refine aF zQ λN b=>?_
  simp(disch:=omega) only[F1,go_sem,simprocAttr,zQ,a]
 ·by_cases c:l=[]
  ·subst c;refine⟨.sl [] true,?_,.sl (λel h=>by cases h)⟩;refine aF zQ λN b=>?_
   have e1:dx ⟨H,none⟩ cg 1 4 (.sl [] true) []=some (.sl [] true,⟨H,none⟩):=rfl;simp(disch:=omega) only[F1,go_sem,simprocAttr,zQ,he,d,e1,e3]
  ·refine⟨.sl (l.map hC) false,?_,.sl (λel h=>by obtain⟨x,_,rfl⟩:=ais.1 h;rfl)⟩;refine aF zQ λN b=>?_
   obtain⟨e1,f⟩:=apT (sz:=1) (ty:=cg) (bytes:=4) (lo:=lo) (g:=hC) b (by omega) (λ_=>rfl) (λ_=>rfl) c e;simp only[go_sem,simprocAttr,zQ,he,d,e1,f]
def c9.refs{N:Nat}{H:List ae}{ty:TypeId}(h:c9 N H v sz ty af):v.refs<=H.length:=by
 rcases h.2 with⟨rfl,_⟩| ⟨id,aj,off,all,_,rfl,hr,_⟩
 ·exact abX _
 ·have:=fi hr;simp only[AV.refs];omega
section
variable{n M p q:Nat}{m:aZ}{qv ev:AV}{aB aK:Nat->AV}{H:List ae}(ha:bH n M p q m qv ev aB aK H)
include ha
theorem apU(A:m.az.Q.length<1073741824)(lo:oN):
  ∃v,D XC (.fn (.func JL) [] []) [.ptr M 0] ⟨H,lo⟩=some (.ret (.agg (cF m.az q v)) ⟨H,lo⟩)/\Rv v 1 (m.az.Q.map je):=by
 obtain⟨N,z⟩: ∃N,H.length=N:=⟨_,rfl⟩;have u:=ha.co.iG.app [.box mJ none,.box (cF m.az q qv) none];obtain⟨v,r,c⟩:=aDz (u.rd (lo:=none)) (by unfold room;omega) none;have r:=c0 r;refine⟨v,?_,c⟩;refine aF TW λK B=>?_
 obtain rfl:K=N:=by omega
 have s:mJ.length=1274:=by rw[ZH,ahU,fe,ahU,ahU,ef];rfl
 have w: ∀l:lA,l.length=1274->aH mJ 0 l=l:=λl h=>rM (by rw[s,h])
 have y:aG (cF m.az q qv)<=K:=by
  rw[anU];have:=ha.co.iG.refs;have:=ha.co.qp;have:=ha.co.lt;omega
 have b:aG (cF m.az q v)<=K:=by
  rw[anU];have:=cJ c (bz (λ_=>rfl) _);have:=ha.co.qp;have:=ha.co.lt;omega
 have a:=o8 (c ⟨H,none⟩);have o:aG (cF m.az q qv)<=K+1+1:=by omega
 have k:v.refs<=K+1+1:=by have:=cJ c (bz (λ_=>rfl) _);omega
 have j:aG (cF m.az q v)<=K+1:=by omega
 have d:ep EK.ptr (AV.ptr M 0) AV.en=some false:=rfl;have f:=bf (L:=[.box mJ none]) ha.box;have e:=bf (L:=[.box mJ none]) ha.co.box;have i:=OZ (x:=m.az) (q:=q) (qv:=qv);have g:=OZ (x:=m.az) (q:=q) (qv:=v);have t: ∀l:lA,l.length=1274->List.take 1274 l=l:=λl h=>by rw[<-h,aiv]
 simp only[F1,go_sem,simprocAttr,TW,z,d,f,e,qJ,r,w,t,i,g,KL,KS,s,o,k,j,b,a.1,a.2]
end
section
variable{n M p q:Nat}{m:aZ}{qv ev:AV}{aB aK:Nat->AV}{H:List ae}
def DM(M t:Nat)(H:List ae)(lo:oN):D XC (.fn (.func JT) [] []) [.ptr M 0,.int .i64 t] ⟨H,lo⟩=some (.ret (.bool (decide (t<8))) ⟨H,lo⟩):=by
 refine aF MW λN d=>?_
 have a:ep EK.ptr (AV.ptr M 0) AV.en=some false:=rfl;have c: (t:Int)>=0:=by omega
 by_cases h:t<8
 ·have b: (t:Int)<8:=by omega
  rw[abj h];simp(disch:=omega) only[F1,go_sem,simprocAttr,MW,a,c,b]
 ·have b: ¬(t:Int)<8:=by omega
  rw[abi h];simp(disch:=omega) only[F1,go_sem,simprocAttr,MW,a,c,b]
theorem apV(c:Call)(v:AV): (bN c v).length=12:=rfl
theorem cl7(c:Call)(v:AV): (bN c v)[7]?=some (.bool c.checked):=rfl
theorem cl1(c:Call)(v:AV):Den.part true 6 (bN c v) 1=some (.agg (bg c.c)):=rfl
def clR(c:Call)(v:AV):aG (bN c v)=v.refs:=by simp[bN,aG,AV.refs,bg,ay]
theorem clT(c:Call)(v:AV):List.take 12 (bN c v)=bN c v:=rfl
def CC:=gG @apV<|gG @cl7<|gG @cl1<|gG @clR<|gG @clT<|gG @apg.{0} @alq.{0}
def sq(m:aZ)(t:Nat)(rv:AV):AV:=match r9 m t with
 |some c=>.au [.agg (bN c rv),.bool true]
 |none=>.au [.agg (bN gB .ai),.bool false]
def aDB(u:bH n M p q m qv ev aB aK H)(C: ∀i,(m.aA i).c.aU.length<1073741824)(t:Nat)(lo:oN):
  ∃rv,D XC (.fn (.func RS) [] []) [.ptr M 0,.int .i64 t] ⟨H,lo⟩=some (.ret (sq m t rv) ⟨H,lo⟩)/\ (∀c,r9 m t=some c->Rv rv 1 (c.aU.map hC)):=by
 by_cases a:t<8
 ·have A: (t:Int)<8:=by omega
  have B: (0:Int)<=t:=by omega
  obtain⟨v,g,x⟩:=aDA (lo:=none) (H:=H++[.box (bN gB .ai) none,.box (bN (m.aA t).c (aK t)) none]) ((u.rv t) _) (by have:=C t;unfold room;omega);have g:=c0 g;have e:=o8 (x ⟨H,none⟩);have j:=cJ x (bz (λ_=>rfl) _);have h:=cJ (u.rv t) (bz (λ_=>rfl) _);have o: ∀v:AV,aG (bN (m.aA t).c v)=v.refs:=λv=>by simp[bN,aG,AV.refs,bg,ay]
  have z: ∀L,(H++L)[M]?=some (.box (cG m p aB aK ev) none):=λL=>bf u.box
  have y: ∀v,bN gB v=[(.int .i64 0),(.int .u8 0),(.int .u32 0),(.int .u32 0),(.int .u32 0),(.int .u32 0),(.int .u64 0),(.bool false),v,(.int .i64 0),(.int .i64 0),(.int .i64 0)]:=λv=>rfl
  have r: ∀v,(bN (m.aA t).c v).length=12:=λv=>rfl
  have s: ∀v,(bN (m.aA t).c v)[8]?=some v:=λv=>rfl
  have l: ∀v w,aH (bN (m.aA t).c v) 8 [w]=bN (m.aA t).c w:=λv w=>rfl
  have k: ∀v,List.take 12 (bN (m.aA t).c v)=bN (m.aA t).c v:=λv=>rfl
  cases d: (m.aA t).busy
  ·refine⟨.ai,?_,λc b=>by unfold r9 at b;simp[d]at b⟩;have hu:sq m t .ai= .au [.agg (bN gB .ai),.bool false]:=by unfold sq r9;simp[d]
   rw[hu];refine aF zO λN f=>?_
   simp only[F1,go_sem,simprocAttr,zO,f,DM,abj a,z,yh a,d,B,A,y]
  ·rw[y]at g;refine⟨v,?_,λc b=>by unfold r9 at b;simp[d,a]at b;subst b;exact x⟩;have hu:sq m t v= .au [.agg (bN (m.aA t).c v),.bool true]:=by unfold sq r9;simp[d,a]
   rw[hu];refine aF zO λN f=>?_
   simp only[F1,go_sem,simprocAttr,zO,f,DM,abj a,z,yh a,DG a,d,B,A,g,o,j,h,r,s,l,k,e.1,e.2,apg,alq]
 ·have hu:sq m t .ai= .au [.agg (bN gB .ai),.bool false]:=by unfold sq r9;simp[a]
  refine⟨.ai,?_,λc b=>by unfold r9 at b;simp[a]at b⟩;rw[hu];refine aF zO λN f=>?_
  simp only[F1,go_sem,simprocAttr,zO,f,DM,abi a];rfl
def aDC(z: ∀op,mo op)(f:bH n M p q m qv ev aB aK H)(r:dH m)(o: ∀i,(m.aA i).c.aU.length<1073741824)(t:Nat)(lo:oN):
  D XC (.fn (.func R3) [] []) [.ptr M 0,.int .i64 t] ⟨H,lo⟩=some (.ret (.bool (C7 m t)) ⟨H,lo⟩):=by
 refine aF CE λN g=>?_
 obtain⟨rv,d,l⟩:=aDB f o t none;have a:=λL lo=>Pb (f.app L) t lo
 have x: ∀L,(H++L)[M]?=some (.box (cG m p aB aK ev) none):=λL=>bf f.box
 have j: ∀L,(H++L)[p]?=some (.box (cF m.az q qv) none):=λL=>bf f.co.box
 cases hu:r9 m t with
 |none=>
  have e1:C7 m t=false:=by unfold C7;rw[hu]
  have k:sq m t rv= .au [.agg (bN gB .ai),.bool false]:=by unfold sq;rw[hu]
  rw[e1];rw[k]at d;have v:AV.refs .ai=0:=rfl;simp only[F1,go_sem,simprocAttr,CE,g,d,CC,↓CC,v]
 |some c=>
  have y:t<8/\c=(m.aA t).c:=by
   unfold r9 at hu;split at hu
   ·rename_i h;injection hu with hu;exact⟨h.1,hu.symm⟩
   ·cases hu
  have e1:C7 m t=(qw m t&& !c.checked&&C3 m.az.S t c.c):=by unfold C7;rw[hu]
  have k:sq m t rv= .au [.agg (bN c rv),.bool true]:=by unfold sq;rw[hu]
  have hw:=λH lo=>anR m.az.S r.az.S t (by omega) c.c (by rw[y.2];exact(r.c t).iH) (z _) H lo
  have e:=l c hu;have w:=o8 (e ⟨H,none⟩);have b:=cJ e (bz (λ_=>rfl) _);rw[e1];rw[k]at d;clear o l;cases u:qw m t
  ·rw[u]at a;simp only[F1,go_sem,simprocAttr,CE,g,d,a,CC,↓CC,b];rfl
  ·rw[u]at a;cases s:c.checked
   ·simp only[F1,go_sem,simprocAttr,CE,g,d,a,x,j,hw,s,CC,↓CC,b,qJ,KL,↓KL]
   ·simp only[F1,go_sem,simprocAttr,CE,g,d,a,s,CC,↓CC,b];rfl
def ap0(g: ∀op,mo op)(c:bH n M p q m qv ev aB aK H)(f:dH m)(e: ∀i,(m.aA i).c.aU.length<1073741824)(t:Nat)(lo:oN):
  D XC (.fn (.func JP) [] []) [.ptr M 0,.int .i64 t] ⟨H,lo⟩=some (.ret (.bool (gE m t)) ⟨H,lo⟩):=by
 refine aF Gw λN j=>?_
 have h:=aDC g c f e t;have a:=Pb c t;unfold gE;cases b:decide (t<8)
 ·simp(disch:=omega) only[F1,go_sem,simprocAttr,Gw,DM,b];rfl
 ·cases d:qw m t
  ·rw[d]at a;simp(disch:=omega) only[F1,go_sem,simprocAttr,Gw,DM,b,a];rfl
  ·rw[d]at a;simp(disch:=omega) only[F1,go_sem,simprocAttr,Gw,DM,b,a,h]
end
def aDD{s:bI}(a:bm s)(c:cz): (uq s c).length<=39135394:=by
 have d:=Hx a.tr c.r;have b: ∀h,(oS s h).length<=1:=λh=>by unfold oS;grind
 unfold uq
 grind
def jD(c:Call):Prop:=c.aU.length<=39135394
def aDE{x:Core}{c:Call}(i:bm x.S)(h:jD c):jD (gA x c).c:=by
 have b:jD (oT ⟨x,c,b8,false⟩).1.c:=by
  unfold oT;repeat' split
  all_goals first|exact h|exact aDD i _
 have d: ∀s:bY,jD s.c->jD (oU s).1.c:=λs a=>by
  unfold oU;split
  ·exact a
  ·rename_i e;dsimp only;split
   ·have:s.c.aU.length<=39135394:=a;rw[e,ajC]at this;exact ajU (Nat.le_succ _) this
   ·exact a
 have f: ∀s:bY,jD s.c->jD (oV s).1.c:=λs a=>by
  unfold oV;dsimp only;repeat' split
  all_goals exact a
 have g: ∀s:bY,jD s.c->jD (oW s).1.c:=λs a=>by
  unfold oW;split<;>exact a
 have j: ∀s:bY,jD s.c->jD (Af s).c:=λs a=>by
  unfold Af;dsimp only;repeat' split
  all_goals exact a
 unfold gA;dsimp only
 repeat' split
 ·exact b
 ·exact d _ b
 ·exact f _ (d _ b)
 ·exact g _ (f _ (d _ b))
 ·exact j _ (g _ (f _ (d _ b)))
def nY(m:aZ):Prop:= ∀i,jD (m.aA i).c
def ZI:jD gB:=abX _
def nY.set(h:nY m){r:Runner}(a:jD r.c)(i:Nat):jD (aq m.aA t r i).c:=by
 unfold aq;split
 ·omega
 ·exact h i
def aDF(h:nY m)(i:Nat):nY (nK m i):=by
 unfold nK;split
 ·exact h.set ZI
 omega
def ZJ(h:nY m):nY (m0 m):=by
 unfold m0;generalize List.range 8=l
 induction l generalizing m with
 |nil=>exact h
 |cons a l b=>exact b (aDF h a)
def ap1(a:bm m.az.S)(h:nY m)(t:Nat):nY (xQ m t):=by
 have b:=aDE (x:=m.az) a (h t);unfold xQ;dsimp only;split
 ·intro i;by_cases q:i=t
  ·subst q;show jD (Runner.c (aq _ _ _ _));rw[cZ];exact ZI
  ·show jD (Runner.c (aq _ _ _ i));rw[ds q];show jD (Runner.c (aq m.aA t _ i));rw[ds q];exact h i
 ·exact h.set b
def ZK(a:bm m.az.S)(h:nY m)(b:Nat):nY (gC m b).1:=by
 unfold gC;dsimp only
 repeat' split
 ·exact h
 ·exact ZJ (m:={m with az:=_,now:=_}) h
 ·exact h
 ·exact h
 ·exact ZJ (m:=C6 _ _) h
 ·refine ZJ ?_;unfold Ag;dsimp only
  repeat' split
  ·refine ap1 ?_ ?_ _;exact a;exact h
  ·refine ap1 ?_ ?_ _;exact a;exactλi=>h.set ZI i
  ·exactλi=>h.set (t:=b % 8) (r:={m.aA (b % 8)with t:=r8 (m.aA (b % 8)).t}) (h (b % 8)) i
def ap2(n:Nat)(aC:List lB)(k:Nat):nY (fG n aC k):=λi=>abX _
theorem ap3{n:Nat}(h:1<=n/\n<=64)(aC:List lB){a:lB}(b:a.length<=4000): ∀k,k<=a.length->nY (runK n aC a k).1
 |0,_=>ap2 _ _ _
 |k+1,c=>by
  rw[Pf (by omega)];exact ZK (Pg h aC b k (by omega)).1.ok.az.S (ap3 h aC b k (by omega)) _
def uC(b:Nat):lA:=[.int .u8 b]
theorem pU(x:Nat):Den.part false 1 (uC x) 0=some (.int .u8 x):=rfl
def aDG(v fv:AV)(l:lN)(H:List ae)(hv:Rd ⟨H,none⟩ v 1 (l.map uC))(hl:l.length<2^40)(p:Nat->Bool)(lo:oN)
  (i: ∀x∈l,D X0 fv [.int .u8 x] ⟨H,none⟩=some (.ret (.bool (p x)) ⟨H,none⟩)):D X0 (.fn (.func E5) [] []) [v,fv] ⟨H,lo⟩=some (.ret (.int .i64 (fX p l)) ⟨H,lo⟩):=by
 refine aF GJ λN r=>?_
 simp only[go_sem,simprocAttr,GJ,hv.bD];refine dB l.length (λk e H'=>H'=H/\e 0=v/\e 1=fv/\e 7= .int .i64 l.length/\e 8= .int .i64 k/\ ∀j,j<k->p (l.getD j default)=false) 0 (by omega) ?_ ?_
 ·simp only[go_sem,simprocAttr];omega
 ·rintro k o e H' ⟨rfl,h0,g,f,d,b⟩ n m;simp(disch:=omega) only[bO,F1,go_sem,simprocAttr,UF,h0,g,f,d];refine⟨λh=>?_,λh=>?_⟩
  ·have a:k<l.length:=by omega
   simp(disch:=omega) only[go_sem,simprocAttr,hv.bX,hv.cp,↓pU,i _ (eV a)];refine⟨by omega,?_⟩;cases c:p (l.getD k default)
   ·simp(disch:=omega) only[go_sem,simprocAttr,h0,g,f,d];exact⟨a,lF b c⟩
   ·simp(disch:=omega) only[F1,go_sem,simprocAttr];rw[v5 a b c]
  ·rw[v7 (λj q=>b j (by omega))]
def aDH(v:AV)(l:lN)(H:List ae)(hv:Rd ⟨H,none⟩ v 1 (l.map uC))(hl:l.length<2^40)(x:Nat)(lo:oN):
  D X0 (.fn (.func Fb) [] []) [v,.int .u8 x] ⟨H,lo⟩=some (.ret (.int .i64 (fX (λy=>decide (x=y)) l)) ⟨H,lo⟩):=by
 refine aF GS λN p=>?_
 simp only[go_sem,simprocAttr,GS,hv.bD];refine dB l.length (λk e H'=>H'=H/\e 0=v/\e 1= .int .u8 x/\e 7= .int .i64 l.length/\e 8= .int .i64 k/\ ∀j,j<k->(λy=>decide (x=y)) (l.getD j default)=false) 0 (by omega) ?_ ?_
 ·simp only[go_sem,simprocAttr];omega
 ·rintro k m e H' ⟨rfl,h0,f,d,c,b⟩ n i;simp(disch:=omega) only[bO,F1,go_sem,simprocAttr,U0,h0,f,d,c];refine⟨λh=>?_,λh=>?_⟩
  ·have a:k<l.length:=by omega
   simp(disch:=omega) only[bO,F1,go_sem,simprocAttr,hv.bX,hv.cp,↓pU,h0,f,d,c];refine⟨by omega,λg=>?_,λg=>?_⟩
   ·rw[v5 a b (abj (by omega))]
   grind
  ·rw[v7 (λj o=>b j (by omega))]
def aDI(v:AV)(l:lN)(H:List ae)(hv:Rd ⟨H,none⟩ v 1 (l.map uC))(hl:l.length<2^40)(x:Nat)(lo:oN):
  D X0 (.fn (.func SQ) [] []) [v,.int .u8 x] ⟨H,lo⟩=some (.ret (.bool (l.any λy=>decide (x=y))) ⟨H,lo⟩):=by
 refine aF Vh λN a=>?_
 simp(disch:=omega) only[F1,go_sem,simprocAttr,Vh,aDH v l H hv hl x none,xR]
structure bn where
 kind:Nat
 order:lN
 cw:Nat
 every:Int
 last:Nat
 bP:Int
def aT(x:bn)(ov:AV):lA:=[.int .u8 x.kind,ov,.int .u64 x.cw,.int .i64 x.every,.int .u8 x.last,.int .i64 x.bP]
structure pq(x:bn):Prop where
 kind:x.kind<256
 order: ∀t∈x.order,t<256
 cw:x.cw<18446744073709551616
 every: -9223372036854775808<=x.every/\x.every<9223372036854775808
 last:x.last<256
 bP: -9223372036854775808<=x.bP/\x.bP<9223372036854775808
def yk(k:Nat):Option FuncId:=if k=0 then some Ff else if k=1 then some Fg else if k=2 then some Fh else none
def ZL:Prop:=(∀E,cb XC E false 1 (.dp vo)=some (.jh vo))/\ ∀ (k:Nat) ok E,gV XC.fo E .int .cR (.jh vo) (.int .u8 k) ok=some (match yk k with|some f=>if ok then .au [.fn (.func f) [] [],.bool true]else .fn (.func f) [] []|none=>if ok then .au [.cR,.bool false]else .cR)
def m9(x:bn):Bool:=decide (x.kind<3)&&decide (x.order.length<=16)&&decide (0<=x.every)&&decide (x.every<=100)
def ZM(o:ZL)(x:bn)(hx:pq x)(ov:AV)(d:Rv ov 1 (x.order.map uC))(H:List ae)(lo:oN):
  D XC (.fn (.func zf) [] []) [.agg (aT x ov)] ⟨H,lo⟩=some (.ret (.bool (m9 x)) ⟨H,lo⟩):=by
 refine aF xv λN e=>?_
 have j:=cJ d (bz (λ_=>rfl) _);have hr:aG (aT x ov)=0:=by simp[aT,aG,AV.refs,j]
 have h: (aT x ov)[0]?=some (.int .u8 x.kind):=rfl;have g1: (aT x ov)[1]?=some ov:=rfl;have s: (aT x ov)[3]?=some (.int .i64 x.every):=rfl;have n: ∀E,ft E .sl ov=some (.int .i64 x.order.length):=λE=>d.bD
 unfold m9;have b:=o.1;have a:=o.2 x.kind true;unfold yk at a;have i: ∀f:FuncId,(∀E,gV XC.fo E .int .cR (.jh vo) (.int .u8 x.kind) true=some (.au [.fn (.func f) [] [],.bool true]))->x.kind<3->
   wp XC zf false xv.body ⟨dc [.agg (aT x ov)],[]⟩ ⟨H,none⟩ (dw XC N lo xv.results λr=>r= .ret (.bool (decide (x.kind<3)&&decide (x.order.length<=16)&&decide (0<=x.every)&&decide (x.every<=100))) ⟨H,lo⟩):=λf k u=>by
  rw[abj u];by_cases p:x.order.length<=16
  ·have c: (x.order.length:Int)<=16:=by omega
   rw[abj p];by_cases g:0<=x.every
   ·rw[abj g];simp only[F1,go_sem,simprocAttr,xv,e,k,b,h,g1,s,n,c,g]
   ·rw[abi g];simp only[F1,go_sem,simprocAttr,xv,e,k,b,h,g1,s,n,c,g];rfl
  ·have c: ¬(x.order.length:Int)<=16:=by omega
   rw[abi p];simp only[F1,go_sem,simprocAttr,xv,e,k,b,h,g1,n,c];rfl
 by_cases h0:x.kind=0
 ·simp only[aaR h0]at a;exact i Ff a (by omega)
 by_cases m:x.kind=1
 ·simp only[aaH h0,aaR m]at a;exact i Fg a (by omega)
 by_cases q:x.kind=2
 ·simp only[aaH h0,aaH m,aaR q]at a;exact i Fh a (by omega)
 simp only[aaH h0,aaH m,aaH q]at a;rw[abi (show¬x.kind<3 by omega)];simp only[F1,go_sem,simprocAttr,xv,e,a,b,h];rfl
def sr(a:Nat)(l:lN):Nat:=l.getD (fX (λt=>decide (a<=t)) l).toNat default
def pt(a l:lN):Nat:=(a.find? λt=>l.any λy=>decide (t=y)).getD (l.getD 0 default)
def ZN(a:Nat)(l:lN):Nat:=l.getD (a/8589934592 % l.length) default
def nZ(a:Nat):Nat:=(6364136223846793005*a+1) % 18446744073709551616
def df(x:bn)(l:lN):bn×Nat:=
 if x.kind=0 then(x,sr x.last l)else if x.kind=1 then(x,pt x.order l)else({x with cw:=nZ x.cw},ZN x.cw l)
def Ph[Inhabited α](p:α->Bool)(l:List α): -1<=fX p l/\fX p l<l.length\/ (l=[]/\fX p l= -1):=by
 unfold fX;cases h:l.findIdx? p with
 |none=>grind
 |some k=>
  have:=(aqv.1 h).1
  grind
section
variable(x:bn)(hx:pq x)(ov v:AV)(l:lN)(hl:l.length<=8)(h0:l≠[])(M:Nat)(H:List ae)(hM:H[M]?=some (.box (aT x ov) none))(hv:Rd ⟨H,none⟩ v 1 (l.map uC))(hl8: ∀t∈l,t<256)
include hx hM
theorem aDK(t:Nat)(b:Nat)(a:H[b]?=some (.box [.ptr M 0] none))(lo:oN):
  D X0 (.fn (.func Ko) [] [.ptr b 0]) [.int .u8 t] ⟨H,lo⟩=some (.ret (.bool (decide (x.last<=t))) ⟨H,lo⟩):=by
 refine fb Vf λN d=>?_
 have c: (aT x ov)[4]?=some (.int .u8 x.last):=rfl;have e:decide ((t:Int)>=x.last)=decide (x.last<=t):=ajF.2 (by omega);simp(disch:=omega) only[F1,go_sem,simprocAttr,Vf,a,hM,c]
 grind
include hl h0 hv hl8
theorem aDL(lo:oN):D X0 (.fn (.func Ff) [] []) [.ptr M 0,v] ⟨H,lo⟩=some (.ret (.int .u8 (sr x.last l)) ⟨H,lo⟩):=by
 refine aF Ve λN e=>?_
 have h:=bf (L:=[.box [.ptr M 0] none]) hM;have g:=aDG v (.fn (.func Ko) [] [.ptr N 0]) l (H++[.box [.ptr M 0] none]) (hv.ext) (by omega) (λt=>decide (x.last<=t)) none (λt _=>aDK x hx ov M (H++[.box [.ptr M 0] none]) h t N (dn e) none);have b:0<l.length:=apf.2 h0;have k:=Ph (λt=>decide (x.last<=t)) l;unfold sr;generalize fX (λt=>decide (x.last<=t)) l=i at*;have d:qZ ⟨H,none⟩ (.ptr M 0) none=some (.ptr N 0,⟨H++[.box [.ptr M 0] none],none⟩):=by subst e;rfl
 obtain⟨n,j⟩: ∃n,i.toNat=n:=⟨_,rfl⟩;have f:n<l.length:=by omega
 have c:max 0 i=(n:Int):=by omega
 have a:=hv.ext (L:=[.box [.ptr M 0] none]) (ak:=none);simp(disch:=omega) only[F1,go_sem,simprocAttr,Ve,d,g,c,a.bX,a.cp,↓pU]
 grind
theorem aDM(q:x.order.length<=16)(a:Rv ov 1 (x.order.map uC))(lo:oN):D X0 (.fn (.func Fg) [] []) [.ptr M 0,v] ⟨H,lo⟩=some (.ret (.int .u8 (pt x.order l)) ⟨H,lo⟩):=by
 refine aF Vg λN A=>?_
 have g1: (aT x ov)[1]?=some ov:=rfl;have g:0<l.length:=apf.2 h0;have u: ∀E,ft E .sl ov=some (.int .i64 x.order.length):=λE=>a.bD
 simp only[go_sem,simprocAttr,Vg,hM,g1,u];refine dB x.order.length (λk e H'=>H'=H/\e 1=v/\e 10=ov/\e 11= .int .i64 x.order.length/\e 12= .int .i64 k/\ ∀j,j<k->(λt=>l.any λy=>decide (t=y)) (x.order.getD j default)=false) 0 (by omega) ?_ ?_
 ·simp only[go_sem,simprocAttr];omega
 ·rintro k z e H' ⟨rfl,m,f,d,c,i⟩ n w;simp only[bO,go_sem,simprocAttr,ajh,m,f,d,c];refine⟨λh=>?_,λh=>?_⟩
  ·have b:k<x.order.length:=by omega
   have s:=aDI v l H' hv (by omega) (x.order.getD k default) none;simp(disch:=omega) only[go_sem,simprocAttr,a.bX,a.cp,↓pU,m,s];refine⟨by omega,?_⟩;cases o:l.any λy=>decide (x.order.getD k default=y)
   ·simp(disch:=omega) only[go_sem,simprocAttr,m,f,d,c];exact⟨b,lF (p:=λj=>(λt=>l.any λy=>decide (t=y)) (x.order.getD j default)=false) i o⟩
   ·have e3:pt x.order l=x.order.getD k default:=by unfold pt;rw[Xr (p:=λt=>l.any λy=>decide (t=y)) b i o];rfl
    simp(disch:=omega) only[F1,go_sem,simprocAttr,e3]
  ·obtain rfl:k=x.order.length:=by omega
   have e3:pt x.order l=l.getD 0 default:=by unfold pt;rw[Xs (p:=λt=>l.any λy=>decide (t=y)) λj r=>i j r];rfl
   simp(disch:=omega) only[F1,go_sem,simprocAttr,hv.bX,hv.cp,↓pU,e3];omega
theorem aDN(lo:oN):D X0 (.fn (.func Fh) [] []) [.ptr M 0,v] ⟨H,lo⟩=some (.ret (.int .u8 (ZN x.cw l)) ⟨H.set M (.box (aT {x with cw:=nZ x.cw} ov) none),lo⟩):=by
 refine aF Vi λN h=>?_
 have d:M<N:=by grind
 have g2: (aT x ov)[2]?=some (.int .u64 x.cw):=rfl;have a:0<l.length:=apf.2 h0;have f:=hv.bD;have c: ¬(l.length:Int)=0:=by omega
 have b: ((x.cw:Int).fdiv (2^min 33 64)).tmod l.length=((x.cw/8589934592 % l.length:Nat):Int):=by
  rw[show min 33 64=33 from rfl,show(2:Int)^33=8589934592 from rfl,Int.fdiv_eq_ediv_of_nonneg _ (by omega),aqx (by omega),Int.natCast_emod,Int.natCast_ediv];rfl
 have g:x.cw/8589934592 % l.length<l.length:=als _ a;simp(disch:=omega) only[F1,go_sem,simprocAttr,Vi,hM,g2,f,c,b,hv.bX,hv.cp,↓pU];have e:IntKind.u64.wrap (IntKind.u64.wrap ((x.cw:Int)*6364136223846793005)+1)=(nZ x.cw:Int):=by
  show(((x.cw:Int)*6364136223846793005) % 18446744073709551616+1) % 18446744073709551616=((nZ x.cw:Nat):Int);unfold nZ;omega
 refine⟨by omega,by show 3<=6;decide,?_⟩;rw[e,show aH (aT x ov) 2 [AV.int IntKind.u64 (nZ x.cw:Int)]=aT {x with cw:=nZ x.cw} ov from rfl,abk (by rw[ajB];omega)];rfl
end
def uN(m:aZ)(k:Nat):lN:=(List.range k).filter (gE m)
def cC(m:aZ):lN:=uN m 8
def aDO(m:aZ)(k:Nat):uN m (k+1)=uN m k++(if gE m k then[k]else[]):=by
 unfold uN;rw[arI,auo,List.filter_cons];rfl
def ap4(m:aZ)(k:Nat): (uN m k).length<=k:=by
 have:=ajZ (gE m) (List.range k);rw[awZ]at this;exact this
def Ig(h:t∈uN m k):t<k/\gE m t=true:=by
 have:=ajL.1 h
 grind
def dP(x:bn)(m:aZ):bn×Nat×Bool:=
 if m.az.Q≠[]/\ ((0<x.every/\x.every<=x.bP)\/cC m=[])then({x with bP:=0},8,true)
 else if cC m=[]then(x,0,false)
 else({(df x (cC m)).1 with last:=(df x (cC m)).2+1,bP:=min (x.bP+1) 100},(df x (cC m)).2,true)
def Pj(k:Nat):AV:=match yk k with|some f=>.fn (.func f) [] []|none=>.cR
def ap5(a:k<l.length)(h: ∀t∈l,t<b):l.getD k default<b:=by simp_all
def Ih{x:bn}(c:l≠[])(h: ∀t∈l,t<b): (df x l).2<b:=by
 have a:0<l.length:=apf.2 c;unfold df;split
 ·have e:=Ph (λt=>decide (x.last<=t)) l;refine ap5 ?_ h;omega
 split
 ·unfold pt;cases d:x.order.find? λt=>l.any λy=>decide (t=y)with
  |none=>grind
  |some t=>grind
 ·exact ap5 (als _ a) h
def aDP(x:bn)(l:lN): (df x l).1.bP=x.bP:=by
 unfold df
 grind
def aDQ(x:bn)(e:pq x)(o:x.kind<3)(h:x.order.length<=16)(a v:AV)(l:lN)(i:l.length<=8)(k:l≠[])(M:Nat)(H:List ae)(j:H[M]?=some (.box (aT x a) none))(f:Rd ⟨H,none⟩ v 1 (l.map uC))(b: ∀t∈l,t<256)(g:Rv a 1 (x.order.map uC))(lo:oN):
  D X0 (Pj x.kind) [.ptr M 0,v] ⟨H,lo⟩=some (.ret (.int .u8 (df x l).2) ⟨H.set M (.box (aT (df x l).1 a) none),lo⟩):=by
 have hs:H.set M (.box (aT x a) none)=H:=by
  apply apn;grind
 unfold df Pj yk;by_cases d:x.kind=0
 ·rw[aaR d,aaR d];rw[hs];exact aDL x e a v l i k M H j f b lo
 rw[aaH d,aaH d];by_cases c:x.kind=1
 ·rw[aaR c,aaR c];rw[hs];exact aDM x e a v l i k M H j f b h g lo
 rw[aaH c,aaH c,aaR (by omega)];exact aDN x e a v l i k M H j f b lo
section
variable{n M p q:Nat}{m:aZ}{qv ev:AV}{aB aK:Nat->AV}{H:List ae}
def Pk(hD: ∀op,mo op)(hK:ZL)(ha:bH n M p q m qv ev aB aK H)(hm:dH m)(hr: ∀i,(m.aA i).c.aU.length<1073741824)(hQ:m.az.Q.length<1073741824)(x:bn)(hx:pq x)(g:m9 x=true)(hsi:0<=x.bP/\x.bP<=100)(a:AV)(F:Rv a 1 (x.order.map uC))(lo:oN):
  D XC (.fn (.func oB) [] []) [.agg (aT x a),.ptr M 0] ⟨H,lo⟩=some (.ret (.au [.agg (aT (dP x m).1 a),.int .u8 (dP x m).2.1,.bool (dP x m).2.2,.int .i64 0]) ⟨H,lo⟩):=by
 refine aF Gv λN hN=>?_
 have Pl:ep EK.ptr (AV.ptr M 0) AV.en=some false:=rfl;have hv0:=cJ F (bz (λ_=>rfl) _);have u: ∀x:bn,aG (aT x a)=0:=λx=>by simp[aT,aG,AV.refs,hv0]
 have hmd: ∀H lo,D XC (.fn (.func zf) [] []) [.agg (aT x a)] ⟨H,lo⟩=some (.ret (.bool true) ⟨H,lo⟩):=λH lo=>by rw[ZM hK x hx a F,g]
 have r: ∀y:bn,(aT y a).length=6:=λ_=>rfl
 have o: ∀y:bn,List.take 6 (aT y a)=aT y a:=λ_=>rfl
 simp only[go_sem,simprocAttr,Gv,hN,Pl,hmd,r,o];obtain⟨B,hB⟩: ∃B:List ae,B=[.box (aT x a) none,.box [.int .u8 0,.ai,.int .u64 0,.int .i64 0,.int .u8 0,.int .i64 0] none]:=⟨_,rfl⟩;have ZO: (H++B).length=N+2:=by rw[hB];simp[hN]
 have pL:=λW (X: (H++B)<+:W) t lo=>ap0 hD (show bH n M p q m qv ev aB aK W by obtain⟨L,rfl⟩:=X;exact(ha.app B).app L) hm hr t lo
 refine dB 8 (λk e W=>(H++B)<+:W/\aN (N+2) W (e 8) 1 aio ((uN m k).map uC)/\e 1= .ptr M 0/\e 2= .ptr N 0/\e 4= .ptr (N+1) 0/\e 22= .int .u8 k) 0 (by omega) ?_ ?_
 ·simp only[go_sem,simprocAttr];exact⟨by rw[hB];exact ar0,aN.ai⟩
 ·rintro k hk e W ⟨V,Z,e1,A,I,J⟩ nn hn;simp(disch:=omega) only[bO,go_sem,simprocAttr,aiD,e1,J];refine⟨λhh=>?_,λhh=>?_⟩
  ·have S:k<8:=by omega
   have z:=pL W V k;simp only[go_sem,simprocAttr,z];have hs:=aDO m k;cases X:gE m k
   ·rw[X,aaH (by decide),ajJ]at hs;simp(disch:=omega) only[go_sem,simprocAttr,e1,A,I,J];rw[hs];exact⟨S,V,Z⟩
   ·rw[X,aaR rfl]at hs;simp only[go_sem,simprocAttr];refine oy (H0:=H++B) (bytes:=1) (ys:=[uC k]) Z V ZO (by omega) (by intro el sa;rw[ahc.1 sa];rfl) rfl (by rw[ahX];have:=ap4 m k;simp[room];omega) λv' W2 o2 p2=>?_
    simp(disch:=omega) only[go_sem,simprocAttr,e1,A,I,J];rw[hs,aiw];exact⟨S,p2,o2⟩
  ·obtain rfl:k=8:=by omega
   obtain⟨L,rfl⟩:=V;have w:=apU ((ha.app B).app L) hQ none;subst hB;rw[aaS]at*;simp only[ajW,ajS]at*;obtain⟨cv,c1,c2⟩:=w;have g8: (cF m.az q cv)[1273]?=some cv:=O0;have O:=Z.rd (lo:=none);have p0: ∀y:bn,(aT y a)[0]?=some (.int .u8 y.kind):=λ_=>rfl
   have p3: ∀y:bn,(aT y a)[3]?=some (.int .i64 y.every):=λ_=>rfl
   have Y: ∀y:bn,(aT y a)[5]?=some (.int .i64 y.bP):=λ_=>rfl
   have s4: ∀ (y:bn) (v:Nat),aH (aT y a) 4 [.int .u8 v]=aT {y with last:=v} a:=λ_ _=>rfl
   have K: ∀ (y:bn) (t:Nat),aH (aT y a) 4 [.int .u8 ((t:Int)+1)]=aT {y with last:=t+1} a:=λ_ _=>rfl
   have ZP: ∀y:bn,List.drop 6 (aT y a)=[]:=λ_=>rfl
   have Q:=aDP x (cC m);have hpt: ∀h:cC m≠[],(df x (cC m)).2<8:=λh=>Ih h λt ht=>(Ig ht).1
   have U: ∀ (y:bn) (v:Int),aH (aT y a) 5 [.int .i64 v]=aT {y with bP:=v} a:=λ_ _=>rfl
   have T:=hK.1;have h3:x.kind<3/\x.order.length<=16:=by unfold m9 at g;simp only[ajI,alb]at g;exact⟨g.1.1.1,g.1.1.2⟩
   have gN: (H++(ae.box (aT x a) none::ae.box [.int .u8 0,.ai,.int .u64 0,.int .i64 0,.int .u8 0,.int .i64 0] none::L))[N]?=some (.box (aT x a) none):=by rw[dn hN];rfl
   have R:=λh0=>c0 (aDQ x hx h3.1 h3.2 a (e 8) (cC m) (ap4 m 8) h0 N _ gN O (λt ht=>by have:=(Ig ht).1;omega) F none)
   have hk: ∀E,gV XC.fo E .int .cR (.jh vo) (.int .u8 x.kind) false=some (Pj x.kind):=λE=>by
    rw[hK.2 x.kind false E];unfold Pj;cases yk x.kind<;>rfl
   have l: (decide (0< (m.az.Q.length:Int))=true↔m.az.Q≠[]):=by rw[ash,<-apf];omega
   have s: (decide (((uN m 8).length:Int)=0)=true↔cC m=[]):=by rw[ash];unfold cC;rw[<-ak9];omega
   obtain⟨due,c⟩: ∃d,d=(decide (0<x.every)&&decide (x.every<=x.bP)):=⟨_,rfl⟩;have G:due=true↔(0<x.every/\x.every<=x.bP):=by rw[c,ajI,ash,ash]
   simp(disch:=omega) only[go_sem,simprocAttr,A,c1,g8,p3,c2.bD];refine vd 11 (.bool due) [2,4,8,10] rfl rfl ?_ λe0=>?_
   ·cases b1:decide (0<x.every)
    ·rw[b1]at c;subst c;simp only[go_sem,simprocAttr];rfl
    ·rw[b1]at c;subst c;simp(disch:=omega) only[go_sem,simprocAttr,A,p3,Y]
   clear c;have j: ∀ (y:bn) (b:Nat) (is:Bool),dP x m=(y,b,is)->aS.ret (.au [.agg (aT y a),.int .u8 b,.bool is,.int .i64 0]) ⟨H,lo⟩= .ret (.au [.agg (aT (dP x m).1 a),.int .u8 (dP x m).2.1,.bool (dP x m).2.2,.int .i64 0]) ⟨H,lo⟩:=λy b is h=>by rw[h]
   have P: ∀h:cC m≠[],IntKind.u8.wrap (((df x (cC m)).2:Int)+1)=((df x (cC m)).2:Int)+1:=λh=>wrap_u8 (by omega) (by have:=hpt h;omega)
   have q2: ∀ (z:m.az.Q≠[]) (C:due=true\/cC m=[]),dP x m=({x with bP:=0},8,true):=λz C=>aaR ⟨z,by rw[<-G];exact C⟩
   have q1: ∀ (z: ¬(m.az.Q≠[]/\ (due=true\/cC m=[]))) (C:cC m=[]),dP x m=(x,0,false):=λz C=>(aaH (by rw[<-G];exact z)).trans (aaR C)
   have q3: ∀ (z: ¬(m.az.Q≠[]/\ (due=true\/cC m=[]))) (C:cC m≠[]),dP x m=({(df x (cC m)).1 with last:=(df x (cC m)).2+1,bP:=min (x.bP+1) 100},(df x (cC m)).2,true):=λz C=>(aaH (by rw[<-G];exact z)).trans (aaH C)
   cases bq:decide (0< (m.az.Q.length:Int))<;>rw[bq]at l
   ·cases be:decide (((uN m 8).length:Int)=0)<;>rw[be]at s
    ·have f:cC m≠[]:=by simpa using s
     simp(disch:=omega) only[F1,go_sem,simprocAttr,be,A,I,O.bD,p0,Y,r,o,u,K,U,T,hk,R f,Q,P f];exact j _ _ _ (q3 (by simp at l;simp[l]) f)
    ·simp(disch:=omega) only[F1,go_sem,simprocAttr,be,A,I,O.bD,r,o,u];exact j _ 0 _ (q1 (by simp at l;simp[l]) (s.1 rfl))
   ·cases due
    ·cases be:decide (((uN m 8).length:Int)=0)<;>rw[be]at s
     ·have f:cC m≠[]:=by simpa using s
      simp(disch:=omega) only[F1,go_sem,simprocAttr,be,A,I,O.bD,p0,Y,r,o,u,K,U,T,hk,R f,Q,P f];exact j _ _ _ (q3 (by simp[f]) f)
     ·simp(disch:=omega) only[F1,go_sem,simprocAttr,be,A,I,O.bD,r,o,u,U];exact j _ 8 _ (q2 (l.1 rfl) (.inr (s.1 rfl)))
    ·simp(disch:=omega) only[F1,go_sem,simprocAttr,A,I,r,o,u,U];exact j _ 8 _ (q2 (l.1 rfl) (.inl rfl))
end
def py(x:dO):lA:=[.int .i64 x.op,.int .i64 x.a,.int .i64 x.b,.int .i64 x.c,.int .i64 x.n]
def aDU(v:AV)(l:List dO)(E:l.length<2147483648)(H:List ae)(h:Rd ⟨H,none⟩ v 5 (l.map py))(lo:oN):
  D X0 (.fn (.func Sb) [] []) [v] ⟨H,lo⟩=some (.ret (.bool (qu l)) ⟨H,lo⟩):=by
 refine aF MZ λN s=>?_
 unfold qu;by_cases c:l.length<=64
 ·have p: ¬((l.length:Nat):Int)>64:=by omega
  rw[abj c,aoC];simp only[go_sem,simprocAttr,MZ,h.bD,p];refine dB l.length (λk e W=>H<+:W/\e 0=v/\e 3= .int .i64 k/\ ∀j,j<k->r0 (l.getD j default) l.length=true) 0 (by omega) ?_ ?_
  ·simp only[go_sem,simprocAttr];exact⟨ar0,λj o=>absurd o (aql j)⟩
  rintro k F e W ⟨d,q,e3,g⟩ n B;have hw:=h.mono (ak:=none) d;simp only[bO,F1,go_sem,simprocAttr,aiS,q,e3,hw.bD];refine⟨λC=>?_,λC=>?_⟩
  ·have b:k<l.length:=by omega
   have a: ∀x,Den.part true 5 (py x) 0=some (.agg (py x)):=λ_=>rfl
   have r: ∀x:dO,(py x)[0]?=some (.int .i64 x.op):=λ_=>rfl
   have z: ∀x:dO,(py x)[1]?=some (.int .i64 x.a):=λ_=>rfl
   have y: ∀x:dO,(py x)[2]?=some (.int .i64 x.b):=λ_=>rfl
   have w: ∀x:dO,(py x)[3]?=some (.int .i64 x.c):=λ_=>rfl
   have u: ∀x:dO,(py x)[4]?=some (.int .i64 x.n):=λ_=>rfl
   have t: ∀x:dO,(py x).length=5:=λ_=>rfl
   have rr: ∀x:dO,aG (py x)=0:=λ_=>rfl
   have A:=hw.ext (L:=[.box (py (l.getD k default)) none]) (ak:=none);have m: ∀L,ft ⟨W++L,none⟩ .sl v=some (.int .i64 l.length):=λL=>(hw.ext (L:=L) (ak:=none)).bD
   simp(disch:=omega) only[go_sem,simprocAttr,hw.bX,hw.cp,↓a,B,t,rr,r];refine⟨by omega,?_⟩;generalize f:l.getD k default=x at*;refine vd 62 (.bool (!r0 x l.length)) [0,3] rfl rfl ?_ λG=>?_
   ·unfold r0;simp(disch:=omega) only[R4,go_sem,simprocAttr,r,z,y,w,u,m,q]
    (repeat' (first|apply And.intro|intro _))
    all_goals(refine ajV AV.bool (ap8.2 ?_);simp[];try(intros;omega))
   cases hm:r0 x l.length
   ·simp only[F1,go_sem,simprocAttr];have a: (l.all λx=>r0 x l.length)=false:=by
     rw[aCi];exact⟨x,by rw[<-f];exact eV b,by rw[hm];decide⟩
    rw[a];exact cU rfl (iZ s λi g=>by obtain⟨L,rfl⟩:=d;rw[aaS,aaF (by omega)])
   ·simp(disch:=omega) only[go_sem,simprocAttr,q,e3];refine⟨b,d.trans (ast _ _),lF g (by rw[f,hm])⟩
  ·have a: (l.all λx=>r0 x l.length)=true:=by
     rw[ajD];intro x f;obtain⟨j,o,rfl⟩:=auk f;have:=g j (by omega);rwa[show l.getD j default=l[j] by simp[List.getD,o]]at this
   rw[a];exact cU rfl (iZ s λi g=>by obtain⟨L,rfl⟩:=d;rw[aaF (by omega)])
 ·have p: ((l.length:Nat):Int)>64:=by omega
  rw[abi c,ajT];simp(disch:=omega) only[F1,go_sem,simprocAttr,MZ,h.bD,p]
def aDV(s:lB)(F:s.length<=1000)(H:List ae)(lo:oN):
  ∃v,D X0 (.fn (.func JQ) [] []) [S s] ⟨H,lo⟩=some (.ret (.au [v,.bool (decode s).isSome]) ⟨H,lo⟩):=by
 suffices A: ∃h,D X0 (.fn (.func JQ) [] []) [S s] ⟨H,lo⟩=some h/\ (λh=> ∃v,h=aS.ret (.au [v,.bool (decode s).isSome]) ⟨H,lo⟩) h by
  obtain⟨h,x,v,rfl⟩:=A;exact⟨v,x⟩
 refine cE T4 λN m=>?_
 simp only[go_sem,simprocAttr,T4];refine dB (s.length/6) (λk e W=>e 0=S (s.drop (6*k))/\H<+:W/\aN N W (e 4) 5 aip ((gu s k).map py)) 0 (by omega) ?_ ?_
 ·simp only[go_sem,simprocAttr];exact⟨ar0,aN.ai⟩
 rintro k G e W ⟨z,a,p⟩ n B;have C: (s.drop (6*k)).length=s.length-6*k:=apj ..;have f: (gu s k).length=k:=by simp[gu]
 simp only[bO,go_sem,simprocAttr,aiJ,z,B];refine⟨λE=>?_,λE=>?_⟩
 ·have c:k<s.length/6:=by omega
  have I:6<=(s.drop (6*k)).length:=by omega
  have q:uQ (S (s.drop (6*k))) (some (.int .i64 6)) none=some (S (s.drop (6*(k+1)))):=by
   rw[Jl,aaR ⟨by omega,by omega⟩,arY];rfl
  have d: ∀j,((s.drop (6*k)).getD j 0).toNat<256:=λj=>UInt8.toNat_lt _
  have Q:=d 0;have P:=d 1;have O:=d 2;have M:=d 3;have K:=d 4;have J:=d 5;simp(disch:=omega) only[go_sem,simprocAttr];refine⟨by omega,by omega,by omega,by omega,by omega,by omega,?_⟩;refine oy (N:=N) (H0:=H) (bytes:=40) (ys:=[py (qI (s.drop (6*k)))]) p a m (by omega) (by intro el t;rw[ahc.1 t];rfl) rfl (by rw[ahX,f];show(k+1)*40<=room;unfold room;omega) λv' R o r=>?_
  simp only[go_sem,simprocAttr,z,q];refine⟨c,r,?_⟩;rw[Zq,aiw];exact o
 ·have c:k=s.length/6:=by omega
  by_cases y:s.length % 6=0
  ·have l: ¬(0:Int)< ((s.drop (6*k)).length:Nat):=by omega
   have b:=λlo=>aDU (e 4) (gu s k) (by omega) W (lG p none) lo
   have g:r6 s=gu s k:=by rw[c];exact ao0 y
   have u:decode s=if qu (gu s k)then some (gu s k)else none:=by
    unfold decode;by_cases x:s.length<=384
    ·rw[aaH (by omega),g]
    ·rw[aaR (by omega)];have:qu (gu s k)=false:=by unfold qu;rw[abi (by rw[f];omega)];rfl
     rw[this];rfl
   rw[u];cases hm:qu (gu s k)with
   |true=>
    rw[hm]at b;simp only[go_sem,simprocAttr,l,b];rw[p.ahf (by rw[bz (λ_=>rfl)];omega) (abX _)];exact⟨_,cU rfl (iZ m λi w=>by obtain⟨L,rfl⟩:=a;rw[aaF (by omega)])⟩
   |false=>
    rw[hm]at b;simp only[go_sem,simprocAttr,l,b];rw[xZ rfl];exact⟨.ai,cU rfl (iZ m λi w=>by obtain⟨L,rfl⟩:=a;rw[aaF (by omega)])⟩
  ·have l: (0:Int)< ((s.drop (6*k)).length:Nat):=by omega
   have u:decode s=none:=by unfold decode;rw[aaR (.inl y)]
   rw[u];simp only[go_sem,simprocAttr,l];rw[xZ rfl];exact⟨.ai,cU rfl (iZ m λi w=>by obtain⟨L,rfl⟩:=a;rw[aaF (by omega)])⟩
def ek(aM:Int)(pv:AV)(aX:lB):lA:=[.int .i64 aM,pv,S aX]
structure Ii(aM:Int)(aC:List lB)(aX:lB)(pv:AV):Prop where
 pg: -9223372036854775808<=aM/\aM<9223372036854775808
 pr:Rv pv 1 (aC.map sC)
def wz(aC:List lB)(aX:lB):Bool:=decide (20<aC.length)|| (decide (6000<aX.length)||aC.any λp=>decide (1000<p.length))
def Ij(aC:List lB)(aX:lB):Bool:=wz aC aX||decide (1500<aX.length)
section
variable{aM:Int}{aC:List lB}{aX:lB}{pv:AV}(h:Ii aM aC aX pv)
include h
theorem aDW:aG (ek aM pv aX)=0:=by
 have:=cJ h.pr (bz (λ_=>rfl) _);simp[ek,aG,AV.refs,S,this]
theorem aDX(H:List ae)(lo:oN):D X0 (.fn (.func RT) [] []) [.agg (ek aM pv aX)] ⟨H,lo⟩=some (.ret (.bool (wz aC aX)) ⟨H,lo⟩):=by
 refine aF Gx λN f=>?_
 have g1: (ek aM pv aX)[1]?=some pv:=rfl;have g2: (ek aM pv aX)[2]?=some (S aX):=rfl;unfold wz;by_cases g:20<aC.length
 ·have a: (aC.length:Int)>20:=by omega
  rw[abj g,at0];simp only[F1,go_sem,simprocAttr,Gx,f,g1,h.pr.bD,a]
 by_cases l:6000<aX.length
 ·have a: ¬(aC.length:Int)>20:=by omega
  have b: (aX.length:Int)>6000:=by omega
  rw[abi g,abj l,at0,at3];simp only[F1,go_sem,simprocAttr,Gx,f,g1,g2,h.pr.bD,a,b]
 have a: ¬(aC.length:Int)>20:=by omega
 have b: ¬(aX.length:Int)>6000:=by omega
 rw[abi g,abi l,at3,at3];simp only[go_sem,simprocAttr,Gx,f,g1,g2,h.pr.bD,a,b];refine dB aC.length (λk e W=>W=H++[.box (ek aM pv aX) none]/\e 1= .ptr N 0/\e 3= .int .i64 k/\ ∀j,j<k->(λp:lB=>decide (1000<p.length)) (aC.getD j default)=false) 0 (by omega) ?_ ?_
 ·simp only[go_sem,simprocAttr];exactλj d=>absurd d (aql j)
 rintro k t e W ⟨rfl,e1,e3,i⟩ n s;simp(disch:=omega) only[bO,F1,go_sem,simprocAttr,aiI,e1,e3,g1,h.pr.bD];refine⟨λr=>?_,λr=>?_⟩
 ·have c:k<aC.length:=by omega
  simp(disch:=omega) only[bO,F1,go_sem,simprocAttr,e1,e3,h.pr.bX,h.pr.cp,↓pS];refine⟨by omega,λo=>?_,λo=>?_⟩
  ·rw[(aEw).2 ⟨_,eV c,abj (by omega)⟩]
  ·exact⟨c,lF (p:=λj=>decide (1000< (aC.getD j default).length)=false) i (abi (by omega))⟩
 ·have: (aC.any λp=>decide (1000<p.length))=false:=by
    rw[List.any_eq_false];intro x m;obtain⟨j,d,rfl⟩:=auk m;have:=i j (by omega);rw[show aC.getD j default=aC[j] by simp[List.getD,d]]at this;exactλq=>by rw[show decide (1000<aC[j].length)=false from this]at q;cases q
  rw[this]
theorem aDY(H:List ae)(lo:oN):D X0 (.fn (.func RJ) [] []) [.agg (ek aM pv aX)] ⟨H,lo⟩=some (.ret (.bool (Ij aC aX)) ⟨H,lo⟩):=by
 refine aF MN λN e=>?_
 have g2: (ek aM pv aX)[2]?=some (S aX):=rfl;have c: (ek aM pv aX).length=3:=rfl;have b:List.take 3 (ek aM pv aX)=ek aM pv aX:=rfl;have e1:decide ((aX.length:Int)>1500)=decide (1500<aX.length):=ajF.2 (by omega);have a:=aDX h;unfold Ij;cases d:wz aC aX
 ·rw[d]at a;simp only[F1,go_sem,simprocAttr,MN,e,g2,a,c,b,e1]
 ·rw[d]at a;simp only[F1,go_sem,simprocAttr,MN,e,a,c,b]
theorem aDZ(i:wz aC aX=false)(H:List ae)(lo:oN): ∃kv,D X0 (.fn (.func RM) [] []) [.agg (ek aM pv aX)] ⟨H,lo⟩=some (.ret (.agg [.int .i64 aM,pv,kv]) ⟨H,lo⟩)/\H5 aM aC aX pv kv:=by
 have g:aC.length<=20/\aX.length<=6000:=by
  unfold wz at i
  grind
 refine⟨.sl (aX.map bC) false,?_,⟨h.pr,.sl λel d=>by obtain⟨x,_,rfl⟩:=ais.1 d;rfl,by omega,by omega⟩⟩;refine aF TV λN j=>?_
 have k: (ek aM pv aX)[0]?=some (.int .i64 aM):=rfl;have g1: (ek aM pv aX)[1]?=some pv:=rfl;have g2: (ek aM pv aX)[2]?=some (S aX):=rfl;have b:=cJ h.pr (bz (λ_=>rfl) _);have c:Ji (S aX)=some (.sl (aX.map bC) false):=by
  have e:Ji (S aX)=if aX.length<=room then some (.sl (aX.map bC) false)else none:=rfl
  rw[e,aaR (by unfold room;omega)]
 have f:b9 (aX.map bC)=0:=bz (λ_=>rfl) _;have a:=o8 (h.pr ⟨[],none⟩);simp only[F1,go_sem,simprocAttr,TV,j,k,g1,g2,c,a.1,a.2,b,f,apg,alq]
theorem aD0(t:wz aC aX=false)(H:List ae)(lo:oN):D X0 (.fn (.func RK) [] []) [.agg (ek aM pv aX)] ⟨H,lo⟩=some (.ret (.bool (nL ⟨aM,aC,aX.map UInt8.toNat⟩)) ⟨H,lo⟩):=by
 refine aF TT λN F=>?_
 have A: (ek aM pv aX)[0]?=some (.int .i64 aM):=rfl;have g1: (ek aM pv aX)[1]?=some pv:=rfl;have g2: (ek aM pv aX)[2]?=some (S aX):=rfl;obtain⟨w,f⟩: ∃b,b=decide (1<=aM/\aM<=64/\1<=aC.length/\aC.length<=8/\aX.length<=4000):=⟨_,rfl⟩;have r:nL ⟨aM,aC,aX.map UInt8.toNat⟩=(w&&aC.all (λp=>(decode p).isSome)&& (aX.map UInt8.toNat).all lE):=by unfold nL;rw[ahX,f]
 rw[r];simp only[go_sem,simprocAttr,TT,F,A];refine vd 33 (.bool (!w)) [1] rfl rfl ?_ λG=>?_
 ·rw[f];simp(disch:=omega) only[R4,go_sem,simprocAttr,A,g1,g2,h.pr.bD];generalize aC.length=np
  (repeat' (first|apply And.intro|intro _))
  all_goals(refine ajV AV.bool (ap8.2 ?_);simp[];try(intros;omega))
 cases w
 ·simp(disch:=omega) only[F1,go_sem,simprocAttr];rfl
 have f:=(asR f.symm);simp only[go_sem,simprocAttr];refine dB aC.length (λk e W=>W=H++[.box (ek aM pv aX) none]/\e 1= .ptr N 0/\e 3= .int .i64 k/\ ∀j,j<k->(λp:lB=>(decode p).isSome) (aC.getD j default)=true) 0 (by omega) ?_ ?_
 ·simp only[go_sem,simprocAttr];exactλj g=>absurd g (aql j)
 rintro k I e W ⟨rfl,e1,e3,l⟩ n C;simp(disch:=omega) only[bO,go_sem,simprocAttr,aiz,e1,e3,g1,h.pr.bD];refine⟨λq=>?_,λq=>?_⟩
 ·have a:k<aC.length:=by omega
  have s: (aC.getD k default).length<=1000:=by
   unfold wz at t;simp only[Bool.or_eq_false_iff,List.any_eq_false,alb]at t;have:=t.2.2 _ (eV a);omega
  obtain⟨v,u⟩:=aDV (aC.getD k default) s (H++[.box (ek aM pv aX) none]) none;simp(disch:=omega) only[go_sem,simprocAttr,h.pr.bX,h.pr.cp,↓pS,u];refine⟨by omega,?_⟩;cases m: (decode (aC.getD k default)).isSome
  ·simp(disch:=omega) only[F1,go_sem,simprocAttr];have: (aC.all λp=>(decode p).isSome)=false:=by
    rw[aCi];exact⟨_,eV a,by rw[m];decide⟩
   rw[this];rfl
  ·simp(disch:=omega) only[go_sem,simprocAttr,e1,e3];exact⟨a,lF (p:=λj=>(decode (aC.getD j default)).isSome=true) l m⟩
 have d: (aC.all λp=>(decode p).isSome)=true:=by
  rw[ajD];intro x o;obtain⟨j,g,rfl⟩:=auk o;have:=l j (by omega);rwa[show aC.getD j default=aC[j] by simp[List.getD,g]]at this
 rw[d,aoC];clear l d;refine dB aX.length (λk e W=>W=H++[.box (ek aM pv aX) none]/\e 1= .ptr N 0/\e 6= .int .i64 k/\ ∀j,j<k->lE (aX.getD j 0).toNat=true) 0 (by omega) ?_ ?_
 ·simp only[go_sem,simprocAttr,e1];exactλj g=>absurd g (aql j)
 clear e1 e3 q;rintro i E e W ⟨rfl,e1,e6,l⟩ n C;simp(disch:=omega) only[bO,F1,go_sem,simprocAttr,aiy,e1,e6,g2];refine⟨λq=>?_,λq=>?_⟩
 ·have a:i<aX.length:=by omega
  have o:=(aX.getD i 0).toNat_lt;refine⟨by omega,?_⟩;generalize z: (aX.getD i 0).toNat=c at*;refine vd 72 (.bool (!lE c)) [1,6] rfl rfl ?_ λG=>?_
  ·unfold lE;simp only[R4,go_sem,simprocAttr]
   (repeat' (first|apply And.intro|intro _))
   all_goals(refine ajV AV.bool (ap8.2 ?_);simp[];try(intros;omega))
  cases m:lE c
  ·simp(disch:=omega) only[F1,go_sem,simprocAttr];have: (aX.map UInt8.toNat).all lE=false:=by
    rw[aCi];exact⟨c,ais.2 ⟨aX.getD i 0,by rw[show aX.getD i 0=aX[i] by simp[List.getD,a]];exact aui a,z⟩,by rw[m];decide⟩
   rw[this]
  ·simp(disch:=omega) only[go_sem,simprocAttr,e1,e6];exact⟨a,lF (p:=λj=>lE (aX.getD j 0).toNat=true) l (by rw[z,m])⟩
 ·have d: (aX.map UInt8.toNat).all lE=true:=by
    rw[ajD];intro x o;obtain⟨y,B,rfl⟩:=ais.1 o;obtain⟨j,g,rfl⟩:=auk B;have:=l j (by omega);rwa[show aX.getD j 0=aX[j] by simp[List.getD,g]]at this
  rw[d]
end
theorem ap6(k:Nat): ∀t:List (Nat×lB×Nat),ea (.int .u8 k) (rh t)=some ((t.find? λx=>decide (k=x.1)).map λx=>.fn (.func x.2.2) [] [])
 | []=>rfl
 |a::t=>by
  have b:=ap6 k t;show ea (.int .u8 k) ((.int .u8 a.1,.fn (.func a.2.2) [] [])::rh t)=_;rw[OA,List.find?_cons]
  grind
def ap7{X:Ctx}{t:List (Nat×lB×Nat)}{g:Nat}(h:X.fo g=some (rh t))(k:Nat)(E:AS)(a:Bool):
  gV X.fo E .int .cR (.jh g) (.int .u8 k) a=some (match(t.find? λx=>decide (k=x.1)).map λx=>x.2.2 with|some f=>if a then .au [.fn (.func f) [] [],.bool true]else .fn (.func f) [] []|none=>if a then .au [.cR,.bool false]else .cR):=by
 have e:gV X.fo E .int .cR (.jh g) (.int .u8 k) a=match X.fo g with
  |some es=>(match ea (.int .u8 k) es with|some (some v)=>some (if a then .au [v,.bool true]else v)|some none=>some (if a then .au [.cR,.bool false]else .cR)|none=>none)
  |none=>none:=rfl
 rw[e,h];dsimp only;rw[ap6];cases t.find? λx=>decide (k=x.1)<;>rfl
def aD1{t:List (Nat×lB×Nat)}{n:Nat}(h:t.all (λx=>decide (x.1<n))=true)(a:n<=k): (t.find? λx=>decide (k=x.1))=none:=by grind
def aD2(a:Nat): ((xE.find? λx=>decide (a=x.1)).map λx=>x.2.2)=sf a:=by
 by_cases h:a<23
 ·have: ∀i:Fin 23,((xE.find? λx=>decide (i.1=x.1)).map λx=>x.2.2)=sf i.1:=by decide
  exact this ⟨a,h⟩
 ·match a,h with
  |n+23,_=>rfl
def aD3(k:Nat): ((xD.find? λx=>decide (k=x.1)).map λx=>x.2.2)=yk k:=by
 by_cases h:k<3
 ·have: ∀i:Fin 3,((xD.find? λx=>decide (i.1=x.1)).map λx=>x.2.2)=yk i.1:=by decide
  exact this ⟨k,h⟩
 ·rw[aD1 (n:=3) (by rfl) (by omega)];unfold yk
  grind
def yl(a:Nat):mo a:=λE=>by
 rw[ap7 (X:=XA) (t:=xE) rfl,aD2]
 grind
def DN:ZL:=⟨λE=>rfl,λk ok E=>by
 rw[ap7 (X:=XC) (t:=xD) rfl,aD3]
 grind⟩
structure DO(x y:bn):Prop where
 ok:pq y
 may:m9 y=true
 bP:0<=y.bP/\y.bP<=100
 order:y.order=x.order
def aD4{x y:bn}(c:y.kind=x.kind)(b:y.order=x.order)(a:y.every=x.every):m9 y=m9 x:=by
 unfold m9;grind
def aD5(s:Nat):nZ s<18446744073709551616:=als _ (by decide)
def Pm(y:bn)(l:lN): (df y l).1.kind=y.kind/\ (df y l).1.order=y.order/\ (df y l).1.every=y.every/\ ((df y l).1.cw=y.cw\/ (df y l).1.cw=nZ y.cw):=by
 unfold df
 grind
def DO.next{x y:bn}(h:DO x y)(m:aZ):DO x (dP y m).1:=by
 unfold dP;split
 ·exact⟨⟨h.ok.kind,h.ok.order,h.ok.cw,h.ok.every,h.ok.last,by simp⟩,h.may,by simp,h.order⟩
 split
 ·exact h
 ·rename_i b;have hs:=h.bP;have f:=Ih (x:=y) b λt a=>(Ig a).1
  obtain⟨s1,s2,c,d⟩:=Pm y (cC m);generalize df y (cC m)=z at*;refine⟨⟨by rw[s1];exact h.ok.kind,λt a=>h.ok.order t (s2 ▸ a),?_,by rw[c];exact h.ok.every,by grind,by grind⟩,?_,by grind,s2.trans h.order⟩
  ·show z.1.cw<_;rcases d with e|e
   ·rw[e];exact h.ok.cw
   ·rw[e];exact aD5 _
  ·exact(aD4 s1 s2 c).trans h.may
def aD6{x:bn}(h: (dP x m).2.2=true): (dP x m).2.1<256/\ ((dP x m).2.1≠8->gE m (dP x m).2.1=true)/\ (gC m (dP x m).2.1).2=0:=by
 unfold dP at h⊢;by_cases i:m.az.Q≠[]/\ ((0<x.every/\x.every<=x.bP)\/cC m=[])
 ·rw[aaR i];refine⟨by simp,λq=>absurd rfl q,?_⟩;unfold gC iY
  grind
 ·rw[aaH i]at h⊢;by_cases c:cC m=[]
  ·grind
  ·rw[aaH c];have hm: ∀t∈cC m,t<8/\gE m t=true:=λt d=>Ig d
   have a:=Ih (x:=x) c λt d=>(hm t d).1
   have hr:gE m (df x (cC m)).2=true:=by
    suffices hs: (df x (cC m)).2∈cC m from(hm _ hs).2
    have g:0< (cC m).length:=apf.2 c;unfold df;split
    ·have a:=Ph (λt=>decide (x.last<=t)) (cC m);refine eV ?_;rcases a with a|a
     ·omega
     ·exact absurd a.1 c
    split
    ·show pt _ _∈_;unfold pt;cases f:x.order.find? λt=>(cC m).any λy=>decide (t=y)with
     |none=>exact eV g
     |some t=>
      have f:=List.find?_some f;obtain⟨y,j,e⟩:=aEw.1 f;have e:=asR e;subst e;exact j
    ·exact eV (als _ g)
   generalize(df x (cC m)).2=b at*;refine⟨by show b<256;omega,λ_=>hr,?_⟩;show(gC m b).2=0;have k:qw m (b % 8)=true:=by
    rw[ap9 a];unfold gE at hr;simp only[ajI]at hr;exact hr.1.2
   unfold gC
   grind
theorem be0: (false==false)=true:=rfl
theorem be1: (true==true)=true:=rfl
def aqa{n:Nat}{E:AS}(h:v.refs<=n): (finish n lo v E).1=v:=by
 obtain⟨W,l⟩:=E;cases l with
 |none=>rw[Bk,aaR h]
 |some j=>
  rw[EG,aaR h]
  grind
def bH.low{n:Nat}{W:List ae}(a:bH n M p q m qv ev aB aK W){cs:lA}(b:W[i]?=some (.box cs tg))(c:i<n)(o:ae):bH n M p q m qv ev aB aK (W.set i o):=by
 have f:=a.nM;have e:=a.co.mp;have d:=a.co.mq;exact a.other b (by omega) (by omega) (by omega) o
section
variable{aM:Int}{aC:List lB}{aX:lB}{pv:AV}(h:Ii aM aC aX pv)(x:bn)(hx:pq x)(ov:AV)(ss:Rv ov 1 (x.order.map uC))
include h hx ss
theorem aD7: ∀y:bn,aG (aT y ov)=0:=λy=>by
 have:=cJ ss (bz (λ_=>rfl) _);simp[aT,aG,AV.refs,this]
def Pn(aC:List lB)(aX:lB)(x:bn):Bool:=Ij aC aX||decide (100<x.order.length)
theorem aD8(H:List ae)(lo:oN):D X0 (.fn (.func RN) [] []) [.agg (ek aM pv aX),.agg (aT x ov)] ⟨H,lo⟩=some (.ret (.bool (Pn aC aX x)) ⟨H,lo⟩):=by
 refine aF MQ λN e=>?_
 have c: (ek aM pv aX).length=3:=rfl;have b:List.take 3 (ek aM pv aX)=ek aM pv aX:=rfl;have g1: (aT x ov)[1]?=some ov:=rfl;have e1:decide ((x.order.length:Int)>100)=decide (100<x.order.length):=ajF.2 (by omega);have f: ∀E,ft E .sl ov=some (.int .i64 x.order.length):=λE=>ss.bD
 have a:=aDY h;unfold Pn;cases d:Ij aC aX
 ·rw[d]at a;simp only[F1,go_sem,simprocAttr,MQ,e,a,c,b,e1,g1,f]
 ·rw[d]at a;simp only[F1,go_sem,simprocAttr,MQ,e,a,c,b]
omit h in
theorem aD9(H:List ae)(lo:oN):D X0 (.fn (.func JM) [] []) [.agg (aT x ov)] ⟨H,lo⟩=some (.ret (.agg (aT {x with last:=0,bP:=0} ov)) ⟨H,lo⟩):=by
 refine aF TY λN g=>?_
 have a:=cJ ss (bz (λ_=>rfl) _);have c: ∀y:bn,aG (aT y ov)=0:=λy=>by simp[aT,aG,AV.refs,a]
 have f: ∀ (y:bn),aH (aT y ov) 4 [.int .u8 0]=aT {y with last:=0} ov:=λ_=>rfl
 have e: ∀ (y:bn),aH (aT y ov) 5 [.int .i64 0]=aT {y with bP:=0} ov:=λ_=>rfl
 have d: ∀y:bn,(aT y ov).length=6:=λ_=>rfl
 have b: ∀y:bn,List.take 6 (aT y ov)=aT y ov:=λ_=>rfl
 simp(disch:=omega) only[F1,go_sem,simprocAttr,TY,g,c,f,e,d,b,apg,alq]
end
def wA(l:lN)(t:Nat):Nat->Nat
 |0=>0
 |k+1=>if l.getD k default=t then 0 else wA l t k+1
def qK(l:lN)(t:Nat):Nat->Nat
 |0=>0
 |k+1=>max (qK l t k) (wA l t (k+1))
theorem ZQ(l:lN)(t:Nat): ∀k,wA l t k<=k
 |0=>ahT _
 |k+1=>by
  simp only[wA];split
  ·omega
  ·have:=ZQ l t k;omega
theorem aqb(l:lN)(t:Nat): ∀k,qK l t k<=k
 |0=>ahT _
 |k+1=>by
  have:=aqb l t k;have:=ZQ l t (k+1);simp only[qK];omega
def aEa(v:AV)(l:lN)(f:Rv v 1 (l.map uC))(r:l.length<=1000)(t:Nat)(H:List ae)(lo:oN):D X0 (.fn (.func JR) [] []) [v,.int .u8 t] ⟨H,lo⟩=some (.ret (.int .i64 (qK l t l.length)) ⟨H,lo⟩):=by
 refine aF T7 λN u=>?_
 simp only[go_sem,simprocAttr,T7,f.bD];refine dB l.length (λk e H'=>H'=H/\e 1= .int .u8 t/\e 5= .int .i64 (qK l t k)/\e 6= .int .i64 (wA l t k)/\e 9=v/\e 10= .int .i64 l.length/\e 11= .int .i64 k) 0 (by omega) ?_ ?_
 ·trivial
 rintro k s e H' ⟨rfl,i,m,p,g,c,b⟩ n q;have x:=aqb l t k;have w:=ZQ l t k;simp(disch:=omega) only[bO,F1,go_sem,simprocAttr,aiL,m,g,c,b];refine⟨λh=>?_,λh=>?_⟩
 ·have d:k<l.length:=by omega
  simp(disch:=omega) only[bO,go_sem,simprocAttr,f.bX,f.cp,uC,h,i,m,p];refine⟨λo=>?_,λo=>?_⟩
  ·have a:l.getD k default=t:=by omega
   simp(disch:=omega) only[go_sem,simprocAttr,i,g,c,b];have e1:wA l t (k+1)=0:=aaR a;have j:qK l t (k+1)=max (qK l t k) 0:=by rw[qK,e1]
   refine⟨d,ajV (AV.int .i64) ?_,ajV (AV.int .i64) ?_⟩
   ·rw[j];first|omega| (split<;>omega)
   ·rw[e1];rfl
  ·have a: ¬l.getD k default=t:=by omega
   simp(disch:=omega) only[go_sem,simprocAttr,i,g,c,b];have e1:wA l t (k+1)=wA l t k+1:=aaH a;have j:qK l t (k+1)=max (qK l t k) (wA l t k+1):=by rw[qK,e1]
   refine⟨d,ajV (AV.int .i64) ?_,ajV (AV.int .i64) ?_⟩
   ·rw[j];first|omega| (split<;>omega)
   ·rw[e1];omega
 grind
def aqc(x:bn)(i:pq x)(j:m9 x=false)(a:AV)(b:Rv a 1 (x.order.map uC))(M:Nat)(H:List ae)(lo:oN):
  D XC (.fn (.func oB) [] []) [.agg (aT x a),.ptr M 0] ⟨H,lo⟩=some (.ret (.au [.agg (aT x a),.int .u8 0,.bool false,.int .i64 2]) ⟨H,lo⟩):=by
 refine aF Gv λN k=>?_
 have f:ep EK.ptr (AV.ptr M 0) AV.en=some false:=rfl;have c:=cJ b (bz (λ_=>rfl) _);have e: ∀y:bn,aG (aT y a)=0:=λy=>by simp[aT,aG,AV.refs,c]
 have h: ∀H lo,D XC (.fn (.func zf) [] []) [.agg (aT x a)] ⟨H,lo⟩=some (.ret (.bool false) ⟨H,lo⟩):=λH lo=>by rw[ZM DN x i a b,j]
 have g: ∀y:bn,(aT y a).length=6:=λ_=>rfl
 have d: ∀y:bn,List.take 6 (aT y a)=aT y a:=λ_=>rfl
 simp only[F1,go_sem,simprocAttr,Gv,k,f,h,e,g,d,apg,alq]
def DP:lB:=[1,6,0,0,2,0,38,0,0,0,0,0]
def kW:Nat->aZ
 |0=>fG 2 [DP] 1
 |k+1=>(gC (kW k) 0).1
def Ik:bn:=⟨0,[],0,0,0,0⟩
def DQ:bn:=(dP Ik (kW 3)).1
def DR:bn:=(dP DQ (kW 3)).1
def aEb:bn:=(dP DR (kW 3)).1
theorem aEc: (gC (kW 0) 0).2=0:=by rfl
theorem aEd: (gC (kW 1) 0).2=0:=by rfl
theorem aEe: (gC (kW 2) 0).2=0:=by rfl
theorem aEf: (dP Ik (kW 3)).2=(0,true):=by rfl
theorem aEg: (dP DQ (kW 3)).2=(2,true):=by rfl
theorem aEh: (dP DR (kW 3)).2=(0,true):=by rfl
def Po:DO Ik Ik:=⟨⟨by decide,λt h=>(by cases h),by decide,by decide,by decide,by decide⟩,by rfl,by decide,rfl⟩
theorem aqd: ∀k,k<=3->sk (kW k)/\nY (kW k)/\ (kW k).now<=k
 |0,_=>⟨apO ⟨by decide,by decide⟩ _ _,ap2 _ _ _,ahT 0⟩
 |k+1,d=>by
  obtain⟨a,c,f⟩:=aqd k (by omega);obtain⟨b,e⟩:=ZF a (by omega) 0;exact⟨b,ZK a.ok.az.S c 0,by show(gC _ 0).1.now<=_;omega⟩
theorem aEi:nL ⟨2,[DP],List.map UInt8.toNat []⟩=true:=by rfl
def aEj(H:List ae)(lo:oN): ∃E,D XC (.fn (.func ze) [] []) [] ⟨H,lo⟩=some (.ret (.bool true) E):=by
 suffices hs: ∃d,D XC (.fn (.func ze) [] []) [] ⟨H,lo⟩=some d/\ (λd=> ∃E,d= .ret (.bool true) E) d by
  obtain⟨d,h,E,rfl⟩:=hs;exact⟨E,h⟩
 refine cE TX λN C=>?_
 have s:H5 2 [DP] [] (.sl [[S DP]] true) .ai:=⟨.sl (λel h=>by rw[ahc.1 h];rfl),.ai,by decide,by decide⟩;obtain⟨d,p,aB,P,rfl,O,n3⟩:=apL (n:=2) s aEi N H C none;have c:=apP (n:=2) (aC:=[DP]) (pv:=.sl [[S DP]] true) (kv:=.ai) (H:=H) C O;have p:D XC (.fn (.func ET) [] []) [.agg [.int .i64 2,.sl [[S [1,6,0,0,2,0,38,0,0,0,0,0]]] true,.ai]] ⟨H,none⟩=_:=p;have v:ep EK.ptr (AV.ptr (N+1) 0) AV.en=some false:=rfl;simp only[go_sem,simprocAttr,TX,p,v];refine gX 3 (λk e W ak=> ∃qv ev aB aK,e 1= .ptr (N+1) 0/\e 3= .int .i64 k/\bH N (N+1) (N+3) (N+2) (kW k) qv ev aB aK W) 0 (by omega) ?_ ?_
 ·exact⟨.ai,.ai,aB,λ_=>.ai,rfl,rfl,c⟩
 clear c;rintro k U e W ak ⟨qv,ev,aB,aK,e1,e3,c⟩ nn T;obtain⟨g,Q,k3⟩:=aqd k U;simp only[bO,go_sem,simprocAttr,aiB,e1,e3];refine⟨λV=>?_,λV=>?_⟩
 ·have j:k<3:=by omega
  obtain⟨d,m,o,B,l,f,X,q,rfl,M,Z,Y⟩:=ZG yl c g (by omega) 0 (by omega) ak;have R: (gC (kW k) 0).2=0:=by
   match k,j with
   |0,_=>exact aEc
   |1,_=>exact aEd
   |2,_=>exact aEe
  rw[R]at m;have m:D XC (.fn (.func zg) [] []) [.ptr (N+1) 0,.int .u8 0] ⟨W,ak⟩=some (.ret (.int .i64 0) ⟨X,q⟩):=m;simp(disch:=omega) only[go_sem,simprocAttr,e1,e3,m];exact⟨j,o,B,l,f,M⟩
 ·obtain rfl:k=3:=by omega
  have a:Rv .ai 1 (([]:lN).map uC):=.ai;have hQ:=g.q;have b: ∀i,((kW 3).aA i).c.aU.length<1073741824:=λi=>by have:=Q i;unfold jD at this;omega
  have u: ∀y:bn,aG (aT y .ai)=0:=λy=>by simp[aT,aG,AV.refs]
  have w: ∀y:bn,(aT y .ai).length=6:=λ_=>rfl
  have r: ∀y:bn,List.take 6 (aT y .ai)=aT y .ai:=λ_=>rfl
  have i1:=Po.next (kW 3);have i2:=i1.next (kW 3);have K: ∀L lo,D XC (.fn (.func oB) [] []) [.agg [.int .u8 0,.ai,.int .u64 0,.int .i64 0,.int .u8 0,.int .i64 0],.ptr (N+1) 0] ⟨W++L,lo⟩=some (.ret (.au [.agg (aT DQ .ai),.int .u8 0,.bool true,.int .i64 0]) ⟨W++L,lo⟩):=λL lo=>by
   have h:=Pk yl DN (c.app L) g.ok b (by omega) Ik Po.ok Po.may Po.bP .ai a lo;rw[aEf]at h;exact h
  have J: ∀L lo,D XC (.fn (.func oB) [] []) [.agg (aT DQ .ai),.ptr (N+1) 0] ⟨W++L,lo⟩=some (.ret (.au [.agg (aT DR .ai),.int .u8 2,.bool true,.int .i64 0]) ⟨W++L,lo⟩):=λL lo=>by
   have h:=Pk yl DN (c.app L) g.ok b (by omega) DQ i1.ok i1.may i1.bP .ai (by rw[show DQ.order=_ from i1.order];exact a) lo;rw[aEg]at h;exact h
  have I: ∀L lo,D XC (.fn (.func oB) [] []) [.agg (aT DR .ai),.ptr (N+1) 0] ⟨W++L,lo⟩=some (.ret (.au [.agg (aT aEb .ai),.int .u8 0,.bool true,.int .i64 0]) ⟨W++L,lo⟩):=λL lo=>by
   have h:=Pk yl DN (c.app L) g.ok b (by omega) DR i2.ok i2.may i2.bP .ai (by rw[show DR.order=_ from i2.order];exact a) lo;rw[aEh]at h;exact h
  have G: ∀L lo,D XC (.fn (.func oB) [] []) [.agg [.int .u8 3,.ai,.int .u64 0,.int .i64 0,.int .u8 0,.int .i64 0],.ptr (N+1) 0] ⟨W++L,lo⟩=some (.ret (.au [.agg [.int .u8 3,.ai,.int .u64 0,.int .i64 0,.int .u8 0,.int .i64 0],.int .u8 0,.bool false,.int .i64 2]) ⟨W++L,lo⟩):=λL lo=>aqc ⟨3,[],0,0,0,0⟩ ⟨by decide,λt h=>(by cases h),by decide,by decide,by decide,by decide⟩ rfl .ai a (N+1) (W++L) lo
  have A:qK [1,0,1,1,0] 0 [1,0,1,1,0].length=2:=by decide
  have F: ∀H lo,D XC (.fn (.func JR) [] []) [.sl [[.int .u8 1],[.int .u8 0],[.int .u8 1],[.int .u8 1],[.int .u8 0]] true,.int .u8 0] ⟨H,lo⟩=some (.ret (.int .i64 2) ⟨H,lo⟩):=λH lo=>by
   have h:=aEa (.sl ([1,0,1,1,0].map uC) true) [1,0,1,1,0] (.sl λel h=>by obtain⟨x,_,rfl⟩:=ais.1 h;rfl) (by decide) 0 H lo;rw[A]at h;exact c0 h
  have z: ∀y:bn,List.drop 6 (aT y .ai)=[]:=λ_=>rfl
  simp only[go_sem,simprocAttr,e1,T,K,J,I,G,F,u,w,r,apg,alq,z];exact⟨_,by rw[aqa (abX _)]⟩
def ym(a t:Nat):Nat:=if a<=t then t-a else t+8-a
def aEk{c:Nat}(w:l.Pairwise (· < ·))(s: ∀x∈l,x<8)(A:c<=8)(j:t∈l)(d:t≠sr c l):ym (sr c l+1) t+1<=ym c t:=by
 obtain⟨i,p,rfl⟩:=List.mem_iff_getElem.1 j;have f: ∀a b (r:a<l.length) (q:b<l.length),a<b->l[a]<l[b]:=λa b r q h=>List.pairwise_iff_getElem.1 w a b r q h
 have v:=s _ j;unfold sr fX at*;cases g:l.findIdx? λt=>decide (c<=t)with
 |none=>
  rw[g]at d;have m:=List.findIdx?_eq_none_iff.1 g _ j;have m: ¬c<=l[i]:=by simpa using m
  have o:l.getD (-1:Int).toNat default=l[0]:=by show l.getD 0 default=_;rw[aiu,abe (by omega)];rfl
  show ym (l.getD (-1:Int).toNat default+1) _+1<=_;have d:l[i]≠l.getD (-1:Int).toNat default:=d;rw[o]at d⊢
  have:0<i:=by rcases Nat.eq_zero_or_pos i with h|h
               ·subst h;exact absurd rfl d
               ·exact h
  have:=f 0 i (by omega) p this;unfold ym;rw[aaR (by omega),aaH m];omega
 |some k=>
  rw[g]at d;obtain⟨n,u,z⟩:=aqv.1 g;have u:c<=l[k]:=by simpa using u
  have o:l.getD ((k:Nat):Int).toNat default=l[k]:=by rw[aw1,aiu,abe n];rfl
  show ym (l.getD ((k:Nat):Int).toNat default+1) _+1<=_;have d:l[i]≠l.getD ((k:Nat):Int).toNat default:=d;rw[o]at d⊢;have y:=s _ (aui n);unfold ym;by_cases e:c<=l[i]
  ·have:k<i:=by
     rcases awY i k with h|h|h
     ·have:=z i h;simp at this;omega
     ·subst h;exact absurd rfl d
     ·exact h
   have:=f k i n p this;rw[aaR (by omega),aaR e];omega
  ·rw[aaH (by omega),aaH e];omega
def aHe(m:aZ)(b:Nat)(s:Nat->Nat)(t:Nat):Nat:=if gE m t=false\/b=t then 0 else if b=8 then s t else s t+1
def aHf(m:aZ)(b:Nat)(r:Nat->Nat)(t:Nat):Nat:=if gE m t=false\/b=t then 0 else if b=8 then r t+1 else r t
structure aHg(E:Nat)(y:bn)(s r:Nat->Nat):Prop where
 kind:y.kind=0
 every:y.every=E
 last:y.last<=8
 bP:0<=y.bP/\y.bP<=100
 hs: ∀t,t<8->s t+ym y.last t<=7
 hr: ∀t,t<8->r t=0\/ (0<E/\ (((r t-1)*E:Nat):Int)+y.bP<=s t)
def su(f:Nat->Nat):lA:=arr 8 λi=>[.int .i64 (f i)]
def aHh{f:Nat->Nat}(h:j<8): (su f)[j]?=some (.int .i64 (f j)):=by
 have a:Den.part false 1 (su f) (j*1+0)=_:=jM (k:=1) (f:=λi=>[AV.int .i64 (f i)]) (λ_=>rfl) h (ahT 1) Nat.one_pos;rw[show j*1+0=j by omega]at a;exact a
def aqe{f:Nat->Nat}{v:Nat}(h:j<8):aH (su f) j [.int .i64 v]=su (aq f j v):=by
 have a:aH (su f) (j*1+0) [.int .i64 v]=_:=mT (k:=1) (f:=λi=>[AV.int .i64 (f i)]) (λ_=>rfl) h (ahT 1);rw[show j*1+0=j by omega]at a;rw[a];unfold su;congr 1
 funext t;unfold aq;split<;>rfl
def aHi{f:Nat->Nat}{v:Nat}(h:j<8):aH (su f) j [.int .i64 ((v:Int)+1)]=su (aq f j (v+1)):=aqe h
def aHj{f:Nat->Nat}(h:j<8):aH (su f) j [.int .i64 0]=su (aq f j 0):=aqe h
theorem aHk(f:Nat->Nat): (su f).length=8:=zZ (k:=1) (λ_=>rfl) 8
section
variable{aM:Int}{aC:List lB}{aX:lB}{pv:AV}(h:Ii aM aC aX pv)
include h
end
def jC(b:Nat):lA:=[.int .i64 b]
def aEl{N:Nat}{H:List ae}{ty:TypeId}(h:aN N H v sz ty af):v.cn=false/\v.cells=[v]:=by
 obtain⟨_,⟨rfl,_⟩| ⟨_,_,_,rfl,_⟩⟩:=h<;>exact⟨rfl,rfl⟩
def bL(x:bn)(a:AV):lA:=[.int .i64 x.kind,a,.int .u64 x.cw,.int .i64 x.every,.int .i64 x.last,.int .i64 x.bP]
theorem pJ(x:Nat):Den.part false 1 (jC x) 0=some (.int .i64 x):=rfl
section
variable(x:bn)(hx:pq x)
include hx
theorem aEm(hl:x.order.length<=100)(f:AV)(g:Rv f 1 (x.order.map uC))(H:List ae)(lo:oN):
  ∃w,Rv w 1 (x.order.map jC)/\D X0 (.fn (.func JN) [] []) [.agg (aT x f)] ⟨H,lo⟩=some (.ret (.agg (bL {x with last:=0,bP:=0} w)) ⟨H,lo⟩):=by
 suffices hs: ∃C,D X0 (.fn (.func JN) [] []) [.agg (aT x f)] ⟨H,lo⟩=some C/\ (λC=> ∃w,Rv w 1 (x.order.map jC)/\C= .ret (.agg (bL {x with last:=0,bP:=0} w)) ⟨H,lo⟩) C by
  obtain⟨C,h,w,hw,rfl⟩:=hs;exact⟨w,hw,h⟩
 refine cE TZ λN t=>?_
 have g0: (aT x f)[0]?=some (.int .u8 x.kind):=rfl;have g1: (aT x f)[1]?=some f:=rfl;have g2: (aT x f)[2]?=some (.int .u64 x.cw):=rfl;have g3: (aT x f)[3]?=some (.int .i64 x.every):=rfl;obtain⟨b,z⟩: ∃b:bn,b={x with last:=0,bP:=0}:=⟨_,rfl⟩;have S: [AV.int .i64 x.kind,.ai,.int .u64 x.cw,.int .i64 x.every,.int .i64 0,.int .i64 0]=bL b .ai:=by rw[z];rfl
 have hk:=hx.kind;have g4: ∀v,(bL b v)[1]?=some v:=λ_=>rfl
 have I: ∀v v',aH (bL b v) 1 [v']=bL b v':=λ_ _=>rfl
 have s: ∀v,(bL b v).length=6:=λ_=>rfl
 have G: ∀v,List.take 6 (bL b v)=bL b v:=λ_=>rfl
 have K:aG (bL b .ai)=0:=rfl;rw[<-z];simp(disch:=omega) only[go_sem,simprocAttr,TZ,t,g0,g2,g3,S,s,K,apg,alq];refine gX x.order.length (λk e W ak=> ∃v,dQ N ak/\e 1= .ptr N 0/\e 2= .ptr (N+1) 0/\e 3= .ptr (N+2) 0/\e 4= .int .i64 k/\H<+:W/\aN N W v 1 nh ((x.order.take k).map jC)/\W[N]?=some (.box (aT x f) none)/\W[N+1]?=some (.box [.int .i64 0,.ai,.int .u64 0,.int .i64 0,.int .i64 0,.int .i64 0] none)/\W[N+2]?=some (.box (bL b v) none)) 0 (by omega) ?_ ?_
 ·refine⟨.ai,.inl rfl,rfl,rfl,rfl,rfl,ast _ _,aN.ai,?_,?_,?_⟩
  ·rw[dn t];rfl
  ·rw[bw t];rfl
  ·rw[bw t];rfl
 rintro k j e W ak ⟨v,B,e1,Z,e3,T,Y,E,X,F,V⟩ n hn;simp only[bO,go_sem,simprocAttr,aiC,e1,e3,T,X,g1,g.bD];refine⟨λhh=>?_,λhh=>?_⟩
 ·have c:k<x.order.length:=by omega
  have hu:x.order.getD k default<256:=hx.order _ (eV c);have hw:IntKind.i64.wrap (x.order.getD k default:Int)=x.order.getD k default:=wrap_i64 (by omega) (by omega);have P: ∀n off,lZ n (fa f k off)= .no:=λn off=>g.atM c
  simp(disch:=omega) only[go_sem,simprocAttr,e1,T,X,g1,g.bX,g.cp,↓pU,V,g4,hw,P];refine⟨by omega,?_⟩;refine auq (N:=N) (H0:=H) (bytes:=8) (ys:=[jC (x.order.getD k default)]) E Y t (by omega) (by intro el R;rw[ahc.1 R];rfl) rfl (by rw[ahX,ajM];show(min k x.order.length+1)*8<=room;unfold room;omega) λv' W2 u O hle j=>?_
  have c0:=j N _ (λ_ _ h=>by cases h) X;have c1:=j (N+1) _ (λ_ _ h=>by cases h) F;have U:=j (N+2) _ (λ_ _ h=>by cases h) V;obtain⟨t1,t2⟩:=aEl u;simp(disch:=omega) only[go_sem,simprocAttr,e1,Z,e3,T,U,I,s,t1,t2];have r:=aN.mn u (o:=.box (bL b v') none) U;have e5:x.order.take (k+1)=x.order.take k++[x.order.getD k default]:=by rw[List.take_succ,abe c,aiu,abe c];rfl
  rw[e5,aiw];refine⟨c,v',?_,?_,?_,c0,c1,cx U⟩
  ·exact B.min (p:=N+2) (by omega) (by split<;>simp)
  ·exact ahe O (by omega)
  ·exact r
 ·obtain rfl:k=x.order.length:=by omega
  rw[aiv]at E;have J:b9 (x.order.map jC)=0:=bz (λ_=>rfl) _;have b3:=λo=>cx (o:=o) F
  simp only[go_sem,simprocAttr,Z,F,V,G,s,b3];have r:=aN.mn E (o:=.box (bL b v) none) F;refine⟨bt v (x.order.map jC),E.re,?_⟩;have Q: ∀l,Fz ⟨W.set (N+1) (.box (bL b v) none),l⟩ N 12 (.agg (bL b v)) (.agg (bL b (bt v (x.order.map jC)))):=λl=>by
   have y: ∀ (k:IntKind) (a:Int),Fz ⟨W.set (N+1) (.box (bL b v) none),l⟩ N 1 (.int k a) (.int k a):=λk a=>Fz.low (d:=0) (abX _)
   exact Fz.agg (d:=11) (fC.cons ((y _ _).mono (by omega)) (fC.cons (Fz.mono (Fz.own (d:=0) r (by rw[J];omega)) (by omega)) (fC.cons ((y _ _).mono (by omega)) (fC.cons ((y _ _).mono (by omega)) (fC.cons ((y _ _).mono (by omega)) (fC.cons ((y _ _).mono (by omega)) fC.nil))))))
  have A:dQ N (if aG (bL b v)<=N+1+1 then ak else cI ak (N+1)):=B.min (p:=N+1) (by omega) (by split<;>simp);rw[sS A (Q _)];exact cU rfl (iZ t λi hi=>by obtain⟨L,rfl⟩:=Y;rw[aaD (by omega),aaF (by omega)])
theorem aEn(w:AV)(j:Rv w 1 (x.order.map jC))(H:List ae)(lo:oN):
  D X0 (.fn (.func JO) [] []) [.agg (bL x w)] ⟨H,lo⟩=some (.ret (.bool (m9 x)) ⟨H,lo⟩):=by
 refine aF CD λN c=>?_
 have e: (bL x w)[0]?=some (.int .i64 x.kind):=rfl;have g1: (bL x w)[1]?=some w:=rfl;have i: (bL x w)[3]?=some (.int .i64 x.every):=rfl;have f: ∀E,ft E .sl w=some (.int .i64 x.order.length):=λE=>j.bD
 unfold m9;by_cases h:x.kind<3
 ·have a: (x.kind:Int)<3:=by omega
  rw[abj h];by_cases g:x.order.length<=16
  ·have b: (x.order.length:Int)<17:=by omega
   rw[abj g];by_cases d:0<=x.every
   ·have k:decide (x.every<101)=decide (x.every<=100):=ajF.2 (by omega);rw[abj d];simp only[F1,go_sem,simprocAttr,CD,c,e,g1,i,f,a,b,d,k]
   ·rw[abi d];simp only[F1,go_sem,simprocAttr,CD,c,e,g1,i,f,a,b,d];rfl
  ·have b: ¬(x.order.length:Int)<17:=by omega
   rw[abi g];simp only[F1,go_sem,simprocAttr,CD,c,e,g1,f,a,b];rfl
 ·have a: ¬(x.kind:Int)<3:=by omega
  rw[abi h];simp only[F1,go_sem,simprocAttr,CD,c,e,a];rfl
end
def eX(f:Nat->Bool):lA:=arr 8 λi=>[.bool (f i)]
def Pp(h:j<8): (eX f)[j]?=some (.bool (f j)):=by
 have a:Den.part false 1 (eX f) (j*1+0)=_:=jM (k:=1) (f:=λi=>[AV.bool (f i)]) (λ_=>rfl) h (ahT 1) Nat.one_pos;rw[show j*1+0=j by omega]at a;exact a
def aEo{v:Bool}(h:j<8):aH (eX f) j [.bool v]=eX (aq f j v):=by
 have a:aH (eX f) (j*1+0) [.bool v]=_:=mT (k:=1) (f:=λi=>[AV.bool (f i)]) (λ_=>rfl) h (ahT 1);rw[show j*1+0=j by omega]at a;rw[a];congr 1
 funext t;unfold aq;split<;>rfl
theorem Il(f:Nat->Bool): (eX f).length=8:=by rfl
theorem aEp(f:Nat->Bool):aG (eX f)=0:=by rfl
theorem Pq(f:Nat->Bool): (eX f).take 8=eX f:=by rfl
theorem aEq(f:Nat->Bool): (eX f).drop 8=[]:=by rfl
def aqf{g:Nat->Bool}(h: ∀i,i<8->f i=g i):eX f=eX g:=CU λi a=>by grind
section
variable{n M p q:Nat}{m:aZ}{qv ev:AV}{aB aK:Nat->AV}{H:List ae}
def aEr(u:bH n M p q m qv ev aB aK H)(o:dH m)(l: ∀i,(m.aA i).c.aU.length<1073741824)(lo:oN):
  D XC (.fn (.func RQ) [] []) [.ptr M 0] ⟨H,lo⟩=some (.ret (.agg (eX (gE m))) ⟨H,lo⟩):=by
 refine aF T1 λN w=>?_
 have j: [AV.bool false,.bool false,.bool false,.bool false,.bool false,.bool false,.bool false,.bool false]=eX λ_=>false:=rfl
 simp only[go_sem,simprocAttr,T1,w,j];refine dB 8 (λk e W=>W=H++[.box (eX λ_=>false) none,.box (eX λt=>decide (t<k)&&gE m t) none]/\e 0= .ptr M 0/\e 2= .ptr N 0/\e 3= .ptr (N+1) 0/\e 4= .int .i64 k) 0 (by omega) ?_ ?_
 ·trivial
 ·rintro k A e W ⟨rfl,g,f,e3,d⟩ y z;have c:=λlo=>ap0 yl (u.app [.box (eX λ_=>false) none,.box (eX λt=>decide (t<k)&&gE m t) none]) o l k lo
  simp(disch:=omega) only[bO,go_sem,simprocAttr,aiF,g,f,e3,d];refine⟨λs=>?_,λs=>?_⟩
  ·have b:k<8:=by omega
   have a: ∀v,aH (eX λt=>decide (t<k)&&gE m t) k [.bool v]=eX (aq (λt=>decide (t<k)&&gE m t) k v):=λv=>aEo b
   simp(disch:=omega) only[go_sem,simprocAttr,g,f,e3,d,c,a,Il];have e:eX (aq (λt=>decide (t<k)&&gE m t) k (gE m k))=eX λt=>decide (t<k+1)&&gE m t:=aqf λi _=>by
    unfold aq;split
    ·rename_i h;rw[h,abj (by omega)];rfl
    ·rw[show decide (i<k+1)=decide (i<k)from ajF.2 (by omega)]
   rw[e];exact⟨by omega,by omega,b,rfl⟩
  ·obtain rfl:k=8:=by omega
   have e:eX (λt=>decide (t<8)&&gE m t)=eX (gE m):=aqf λi r=>by rw[abj r];rfl
   simp(disch:=omega) only[F1,go_sem,simprocAttr,e,Pq,aEp,Il,aEq]
end
def cO(f:Nat->Bool)(k:Nat):lN:=(List.range k).filter f
def aqg(f:Nat->Bool)(k:Nat):cO f (k+1)=cO f k++(if f k then[k]else[]):=by
 unfold cO;rw[arI,auo,List.filter_cons];rfl
def aqh(f:Nat->Bool)(k:Nat): (cO f k).length<=k:=by
 have:=ajZ f (List.range k);rw[awZ]at this;exact this
def yn:t∈cO f k↔t<k/\f t=true:=by
 unfold cO;grind
def aEs: ((cO f 8).any λy=>decide (t=y))=(decide (t<8)&&f t):=by
 rw[ap8,aEw,ajI,ash];constructor
 ·rintro⟨y,a,e⟩;have e:=asR e;subst e;exact yn.1 a
 ·intro h;exact⟨t,yn.2 h,abj rfl⟩
def aEt(e:a<=8)(r:i<8)(u: ∀j,j<i->f ((a+j) % 8)=false)(o:f ((a+i) % 8)=true):sr a (cO f 8)=(a+i) % 8:=by
 have hs: (cO f 8).Pairwise (· < ·):=List.Pairwise.filter _ ayQ;have l: ∀x∈cO f 8,x<8:=λx hx=>(yn.1 hx).1
 have hm: (a+i) % 8∈cO f 8:=yn.2 ⟨als _ (by decide),o⟩;by_cases c: (a+i) % 8=sr a (cO f 8)
 ·omega
 ·exfalso;have g:=aEk hs l e hm c;have d:sr a (cO f 8)∈cO f 8:=by
   have d:=Ph (λt=>decide (a<=t)) (cO f 8);unfold sr
   grind
  obtain⟨k,h⟩:=yn.1 d;generalize sr a (cO f 8)=b at*;have s: ∃j,j<i/\ (a+j) % 8=b:=by
   unfold ym at g;refine⟨(b+8-a) % 8,?_,by omega⟩
   grind
  grind
def aqi{N:Nat}{W:List ae}{ty:TypeId}{m n:Nat}(h:aN N W v 1 ty af)(b:0<af.length): (FP.rd a 0 m).ok (lZ 1 (fa v 0 0))=true/\ (lZ 1 (fa v 0 0)).ok (FP.wr p 0 n)=true:=by
 obtain⟨_,⟨_,rfl⟩| ⟨id,aj,_,rfl,_⟩⟩:=h
 ·grind
 ·trivial
section
variable(x:bn)(hx:pq x)(w:AV)(hw:Rv w 1 (x.order.map jC))(hol:x.order.length<=100)(nc:x.last<=8)(hk3:x.kind<3)(f:Nat->Bool)
include hx hw hol nc hk3
theorem aEu(ot:cO f 8≠[])(H:List ae)(lo:oN):D X0 (.fn (.func RX) [] []) [.agg (bL x w),.agg (eX f)] ⟨H,lo⟩=some (.ret (.au [.agg (bL (df x (cO f 8)).1 w),.int .i64 (df x (cO f 8)).2]) ⟨H,lo⟩):=by
 refine aF T8 λN U=>?_
 have y0:=cJ hw (bz (λ_=>rfl) _);have E: ∀y:bn,aG (bL y w)=0:=λy=>by simp[bL,aG,AV.refs,y0]
 have F: ∀y:bn,(bL y w).length=6:=λ_=>rfl
 have C: ∀y:bn,List.take 6 (bL y w)=bL y w:=λ_=>rfl
 have g0: (bL x w)[0]?=some (.int .i64 x.kind):=rfl;have g1: (bL x w)[1]?=some w:=rfl;have g2: (bL x w)[2]?=some (.int .u64 x.cw):=rfl;have g4: (bL x w)[4]?=some (.int .i64 x.last):=rfl;obtain⟨B,hB⟩: ∃B:List ae,B=[.box (bL x w) none,.box (eX f) none,.box [.int .i64 0,.ai,.int .u64 0,.int .i64 0,.int .i64 0,.int .i64 0] none]:=⟨_,rfl⟩;have ZO: (H++B).length=N+3:=by rw[hB];simp[U]
 have ZP: ∀y:bn,List.drop 6 (bL y w)=[]:=λ_=>rfl
 simp(disch:=omega) only[go_sem,simprocAttr,T8,U];refine dB 8 (λk e W=>(H++B)<+:W/\aN (N+3) W (e 6) 1 nh ((cO f k).map jC)/\e 2= .ptr N 0/\e 3= .ptr (N+1) 0/\e 4= .ptr (N+2) 0/\e 7= .int .i64 k) 0 (by omega) ?_ ?_
 ·simp(disch:=omega) only[go_sem,simprocAttr];exact⟨by rw[hB];exact ar0,aN.ai⟩
 rintro k hk e W ⟨X,Y,r,e3,z,e7⟩ nn hn;have P: ∀ (j:Nat) o,j<3->B[j]?=some o->W[N+j]?=some o:=λj o T h=>by
  obtain⟨L,rfl⟩:=X;rw[aaF (by omega),bw U];exact h
 have J:W[N]?=some (.box (bL x w) none):=P 0 _ (by omega) (by rw[hB];rfl);have V:=P 1 (.box (eX f) none) (by omega) (by rw[hB];rfl);have b2:=P 2 (.box [.int .i64 0,.ai,.int .u64 0,.int .i64 0,.int .i64 0,.int .i64 0] none) (by omega) (by rw[hB];rfl);simp(disch:=omega) only[bO,go_sem,simprocAttr,aiO,r,e3,e7];refine⟨λhh=>?_,λhh=>?_⟩
 ·have O:k<8:=by omega
  have b: (eX f)[k]?=some (.bool (f k)):=Pp O;have hs:=aqg f k;cases s:f k
  ·rw[s,aaH (by decide),ajJ]at hs;simp(disch:=omega) only[go_sem,simprocAttr,r,e3,z,e7,V,b,s];rw[hs];exact⟨by omega,O,X,Y⟩
  ·rw[s,aaR rfl]at hs;simp(disch:=omega) only[go_sem,simprocAttr,e7,V,b,s];refine⟨by omega,?_⟩;refine oy (H0:=H++B) (bytes:=8) (ys:=[jC k]) Y X ZO (by omega) (by intro el sa;rw[ahc.1 sa];rfl) rfl (by rw[ahX];have:=aqh f k;show((cO f k).length+1)*8<=room;unfold room;omega) λv' W2 o2 p2=>?_
   simp(disch:=omega) only[go_sem,simprocAttr,r,e3,z,e7];rw[hs,aiw];exact⟨O,p2,o2⟩
 ·obtain rfl:k=8:=by omega
  have S:=lG Y (none:oN);have l:0< (cO f 8).length:=apf.2 ot;have aHl:=aqh f 8;have Ek: ∀t∈cO f 8,t<8:=λt ht=>(yn.1 ht).1
  have aHm: ∀Z:List ae,(H++B)<+:Z->Z.take N=H:=λZ hz=>iZ U λi hi=>by obtain⟨L,rfl⟩:=hz;rw[aaS,aaF (by omega)]
  have b3: ∀o,(W.set (N+2) o)[N+2]?=some o:=λo=>cx b2
  have A: ∀o,(W.set (N+2) o).take N=H:=λo=>iZ U λi hi=>by obtain⟨L,rfl⟩:=X;rw[aaD (by omega),aaS,aaF (by omega)]
  unfold df;by_cases h0:x.kind=0
  ·have h0': (x.kind:Int)=0:=by omega
   rw[aaR h0];simp(disch:=omega) only[go_sem,simprocAttr,J,g0,h0'];refine dB 8 (λi e W'=>W'=W/\e 2= .ptr N 0/\e 3= .ptr (N+1) 0/\e 4= .ptr (N+2) 0/\e 8= .int .i64 i/\ ∀j,j<i->f ((x.last+j) % 8)=false) 0 (by omega) ?_ ?_
   ·simp(disch:=omega) only[go_sem,simprocAttr,r,e3,z];exactλj T=>absurd T (aql j)
   rintro i hi e W ⟨rfl,r,e3,z,e8,g⟩ n2 hn2;simp(disch:=omega) only[bO,go_sem,simprocAttr,aiN,r,e8];refine⟨λhh=>?_,λhh=>?_⟩
   ·have u:i<8:=by omega
    have K: ((x.last:Int)+(i:Int)).tmod 8=(((x.last+i) % 8:Nat):Int):=by rw[aqx (by omega)];omega
    have aEv: (x.last+i) % 8<8:=als _ (by decide);have b: (eX f)[(x.last+i) % 8]?=some (.bool (f ((x.last+i) % 8))):=Pp aEv;have G:=aEt nc u g;cases s:f ((x.last+i) % 8)
    ·clear G;generalize hq: (x.last+i) % 8=q at*;simp(disch:=omega) only[go_sem,simprocAttr,r,e3,z,e8,J,V,g4,K,b,s];exact⟨by omega,u,lF (p:=λj=>f ((x.last+j) % 8)=false) g (by rw[hq];exact s)⟩
    ·have G:=G s;generalize hq: (x.last+i) % 8=q at*;simp(disch:=omega) only[F1,go_sem,simprocAttr,r,e3,z,e8,J,V,b2,g4,K,b,s,C,F,E,b3];exact⟨by omega,cU (by rw[G]) (A _)⟩
   ·exfalso;obtain rfl:i=8:=by omega
    obtain⟨t,ht⟩:=List.exists_mem_of_ne_nil _ ot;obtain⟨t1,t2⟩:=yn.1 ht;have:=g ((t+8-x.last) % 8) (als _ (by decide));rw[show(x.last+(t+8-x.last) % 8) % 8=t by omega,t2]at this;cases this
  rw[aaH h0];have h0': ¬(x.kind:Int)=0:=by omega
  by_cases h1:x.kind=1
  ·have h1': (x.kind:Int)=1:=by omega
   rw[aaR h1];simp(disch:=omega) only[go_sem,simprocAttr,r,J,g0,h1'];obtain⟨v6,M⟩: ∃v,v=e 6:=⟨_,rfl⟩;have hf1: ∀a m,(FP.rd a 0 m).ok (lZ 1 (fa (e 6) 0 0))=true:=λa m=>(aqi (p:=0) (n:=0) Y (by rw[ahX];exact l)).1
   have hf2: ∀p n,(lZ 1 (fa (e 6) 0 0)).ok (FP.wr p 0 n)=true:=λp n=>(aqi (a:=0) (m:=0) Y (by rw[ahX];exact l)).2
   rw[<-M]at S hf1 hf2;refine dB x.order.length (λi e W'=>W'=W/\e 2= .ptr N 0/\e 3= .ptr (N+1) 0/\e 4= .ptr (N+2) 0/\e 6=v6/\e 10= .int .i64 i/\ ∀j,j<i->(λt=>(cO f 8).any λy=>decide (t=y)) (x.order.getD j default)=false) 0 (by omega) ?_ ?_
   ·simp(disch:=omega) only[go_sem,simprocAttr,r,e3,z,M];exactλj T=>absurd T (aql j)
   clear M;rintro i hi e W ⟨rfl,r,e3,z,e6,R,g⟩ n2 hn2;simp(disch:=omega) only[bO,go_sem,simprocAttr,aiM,r,R,J,g1,hw.bD];refine⟨λhh=>?_,λhh=>?_⟩
   ·have u:i<x.order.length:=by omega
    have ha:=aEs (f:=f) (t:=x.order.getD i default);have c: (cO f 8).any (λy=>decide (x.order.getD i default=y))=true->pt x.order (cO f 8)=x.order.getD i default:=λh=>by unfold pt;rw[Xr (p:=λt=>(cO f 8).any λy=>decide (t=y)) u g h];rfl
    have d: (cO f 8).any (λy=>decide (x.order.getD i default=y))=false-> ∀j,j<i+1->(cO f 8).any (λy=>decide (x.order.getD j default=y))=false:=λh=>lF (p:=λj=>(λt=>(cO f 8).any λy=>decide (t=y)) (x.order.getD j default)=false) g h
    rw[ha]at c d;by_cases h8:x.order.getD i default<8
    ·have I: (x.order.getD i default:Int)<8:=by omega
     have b: (eX f)[x.order.getD i default]?=some (.bool (f (x.order.getD i default))):=Pp h8;rw[abj h8,aoC]at c d;cases s:f (x.order.getD i default)
     ·simp(disch:=omega) only[go_sem,simprocAttr,r,e3,z,e6,R,V,hw.bX,hw.cp,↓pJ,I,b,s];exact⟨by omega,u,d s⟩
     ·simp(disch:=omega) only[F1,go_sem,simprocAttr,r,e3,z,J,V,b2,hw.bX,hw.cp,↓pJ,I,b,s,C,F,E,b3];exact⟨by omega,cU (by rw[c s]) (A _)⟩
    ·have I: ¬(x.order.getD i default:Int)<8:=by omega
     rw[abi h8,ajT]at c d;simp(disch:=omega) only[go_sem,simprocAttr,r,e3,z,e6,R,hw.bX,hw.cp,↓pJ,I];exact⟨by omega,u,d rfl⟩
   ·obtain rfl:i=x.order.length:=by omega
    have e3':pt x.order (cO f 8)=(cO f 8).getD 0 default:=by unfold pt;rw[Xs (p:=λt=>(cO f 8).any λy=>decide (t=y)) λj T=>g j T];rfl
    have Q: ¬(x.kind:Int)=2:=by omega
    simp(disch:=omega) only[F1,go_sem,simprocAttr,r,z,e6,J,b2,g0,Q,S.bX,S.cp,↓pJ,C,F,E,b3];exact⟨by omega,hf1 _ _,hf2 _ _,cU (by rw[e3']) (A _)⟩
  rw[aaH h1];have h1': ¬(x.kind:Int)=1:=by omega
  ·have Q: (x.kind:Int)=2:=by omega
   have q2: (x.cw:Int).tdiv 8589934592=((x.cw/8589934592:Nat):Int):=by rw[Int.tdiv_eq_ediv_of_nonneg (by omega)];rfl
   have hsd:=hx.cw;have q3:x.cw/8589934592 % (cO f 8).length< (cO f 8).length:=als _ l;have q4: ((x.cw/8589934592:Nat):Int).tmod (cO f 8).length=((x.cw/8589934592 % (cO f 8).length:Nat):Int):=by rw[aqx (by omega)];rfl
   have q5:x.cw/8589934592<18446744073709551616:=by omega
   have q6: ¬((cO f 8).length:Int)=0:=by omega
   have Yc: ∀v:Nat,aH (bL x w) 2 [.int .u64 v]=bL {x with cw:=v} w:=λ_=>rfl
   have A4:IntKind.u64.wrap (IntKind.u64.wrap ((x.cw:Int)*6364136223846793005)+1)=(nZ x.cw:Int):=by
    show(((x.cw:Int)*6364136223846793005) % 18446744073709551616+1) % 18446744073709551616=((nZ x.cw:Nat):Int);unfold nZ;omega
   have b4: ∀o,(W.set N o)[N]?=some o:=λo=>cx J
   have b5: ∀o,(W.set N o)[N+2]?=some (.box [.int .i64 0,.ai,.int .u64 0,.int .i64 0,.int .i64 0,.int .i64 0] none):=λo=>by rw[aaD (by omega)];exact b2
   have b6: ∀o o',((W.set N o).set (N+2) o')[N+2]?=some o':=λo o'=>cx (b5 o)
   unfold ZN;generalize x.cw/8589934592=sd at*;generalize ZR:sd % (cO f 8).length=q at*;simp(disch:=omega) only[F1,go_sem,simprocAttr,r,z,J,g0,g2,Q,S.bD,S.bX,S.cp,q2,q4,q6,↓pJ,C,F,E,A4,Yc,b4,b5,b6];exact⟨by omega,cU rfl (iZ U λi hi=>by obtain⟨L,rfl⟩:=X;rw[aaD (by omega),aaD (by omega),aaS,aaF (by omega)])⟩
def kX(x:bn)(l:lN)(a:Bool):bn×Int:=
 if a=true/\ (l=[]\/ (0<x.every/\x.every<=x.bP))then({x with bP:=0},8)
 else if l=[]then(x,-1)
 else({(df x l).1 with last:=(df x l).2+1,bP:=x.bP+1},(df x l).2)
theorem aEx(T:0<=x.bP/\x.bP<=100000)(m:Bool)(H:List ae)(lo:oN):D X0 (.fn (.func RP) [] []) [.agg (bL x w),.agg (eX f),.bool m] ⟨H,lo⟩=some (.ret (.au [.agg (bL (kX x (cO f 8) m).1 w),.int .i64 (kX x (cO f 8) m).2]) ⟨H,lo⟩):=by
 refine aF T0 λN J=>?_
 have M:=cJ hw (bz (λ_=>rfl) _);have g: ∀y:bn,aG (bL y w)=0:=λy=>by simp[bL,aG,AV.refs,M]
 have i: ∀y:bn,(bL y w).length=6:=λ_=>rfl
 have c: ∀y:bn,List.take 6 (bL y w)=bL y w:=λ_=>rfl
 have X: ∀y:bn,List.drop 6 (bL y w)=[]:=λ_=>rfl
 have Q: ∀y:bn,(bL y w)[3]?=some (.int .i64 y.every):=λ_=>rfl
 have K: ∀y:bn,(bL y w)[5]?=some (.int .i64 y.bP):=λ_=>rfl
 have L: ∀ (y:bn) (t:Nat),aH (bL y w) 4 [.int .i64 ((t:Int)+1)]=bL {y with last:=t+1} w:=λ_ _=>rfl
 have B: ∀ (y:bn) (v:Int),aH (bL y w) 5 [.int .i64 v]=bL {y with bP:=v} w:=λ_ _=>rfl
 obtain⟨A,G⟩: ∃b:Nat->Bool,∀k,b k=decide (cO f k≠[]):=⟨_,λ_=>rfl⟩;have P:false=A 0:=by rw[G];rfl
 have O: ∀k,A (k+1)=(A k||f k):=λk=>by
  rw[G,G,aqg];cases f k<;>by_cases h:cO f k=[]<;>simp[h]
 simp only[go_sem,simprocAttr,T0,J];refine dB 8 (λk e W=>W=H++[.box (bL x w) none,.box (eX f) none,.box [.int .i64 0,.ai,.int .u64 0,.int .i64 0,.int .i64 0,.int .i64 0] none]/\e 2= .bool m/\e 3= .ptr N 0/\e 4= .ptr (N+1) 0/\e 6= .ptr (N+2) 0/\e 8= .bool (A k)/\e 9= .int .i64 k) 0 (by omega) ?_ ?_
 ·rw[<-P];simp only[go_sem,simprocAttr]
 rintro k hk e W ⟨rfl,S,e3,I,e6,e8,R⟩ Y Z;simp only[bO,go_sem,simprocAttr,aiE,S,e8,R];refine⟨λV=>?_,λV=>?_⟩
 ·have p:k<8:=by omega
  have F: (eX f)[k]?=some (.bool (f k)):=Pp p;have hs:=O k;cases o:A k
  ·rw[o,at3]at hs;rw[o]at e8;simp(disch:=omega) only[go_sem,simprocAttr,S,e3,I,e6,R,F];exact⟨by omega,p,by rw[hs]⟩
  ·rw[o,at0]at hs;rw[o]at e8;simp(disch:=omega) only[go_sem,simprocAttr,S,e3,I,e6,R];exact⟨p,by rw[hs]⟩
 ·obtain rfl:k=8:=by omega
  obtain⟨d1,u⟩: ∃d,d=decide (x.every>0):=⟨_,rfl⟩;obtain⟨d2,s⟩: ∃d,d=decide (x.bP>=x.every):=⟨_,rfl⟩;have r: (0<x.every/\x.every<=x.bP)↔(d1=true/\d2=true):=by rw[u,s,ash,ash]
  have l:=u.symm;have n:=s.symm;by_cases a:cO f 8=[]
  ·have o:A 8=false:=by rw[G,a];rfl
   rw[o]at e8;have j:kX x (cO f 8) false=(x,-1):=by unfold kX;rw[aaH (by simp),aaR a]
   have C:kX x (cO f 8) true=({x with bP:=0},8):=by unfold kX;rw[aaR ⟨rfl,.inl a⟩]
   cases m
   ·simp(disch:=omega) only[F1,go_sem,simprocAttr,e3,e6,e8,c,i,g,j]
   ·simp(disch:=omega) only[F1,go_sem,simprocAttr,e3,e6,e8,c,i,g,B,C]
  ·have o:A 8=true:=by rw[G];exact abj a
   rw[o]at e8;have E:=λH lo=>aEu x hx w hw hol nc hk3 f a H lo
   have U:=Ih (x:=x) a λt E=>(yn.1 E).1
   have C: (m=true/\d1=true/\d2=true)->kX x (cO f 8) m=({x with bP:=0},8):=λh=>by unfold kX;rw[aaR ⟨h.1,.inr (r.2 h.2)⟩]
   have j: ¬(m=true/\d1=true/\d2=true)->kX x (cO f 8) m=({(df x (cO f 8)).1 with last:=(df x (cO f 8)).2+1,bP:=x.bP+1},((df x (cO f 8)).2:Int)):=λh=>by
    unfold kX;rw[aaH (λq=>h ⟨q.1,r.1 (q.2.resolve_left a)⟩),aaH a]
   generalize df x (cO f 8)=z at*;clear u s r;cases m
   ·have j:=j (by simp);simp(disch:=omega) only[F1,go_sem,simprocAttr,J,e3,I,e6,e8,c,i,g,K,L,B,E,Pq,Il,j]
   ·cases d1
    ·have j:=j (by simp);simp(disch:=omega) only[F1,go_sem,simprocAttr,J,e3,I,e6,e8,c,i,g,Q,K,L,B,E,l,Pq,Il,j]
    ·cases d2
     ·have j:=j (by simp);simp(disch:=omega) only[F1,go_sem,simprocAttr,J,e3,I,e6,e8,c,i,g,Q,K,L,B,E,l,n,Pq,Il,j]
     ·have C:=C ⟨rfl,rfl,rfl⟩;simp(disch:=omega) only[F1,go_sem,simprocAttr,e3,e6,e8,c,i,g,Q,K,B,l,n,C]
end
structure Alike(y u:bn):Prop where
 kind:u.kind=y.kind
 order:u.order=y.order
 cw:u.cw=y.cw
 every:u.every=y.every
 last:u.last=y.last
 bP:y.bP=min u.bP 100
 pos:0<=u.bP
def Alike.next{y u:bn}(h:Alike y u)(n:y.every<=100)(m:aZ):
  Alike (dP y m).1 (kX u (cC m) (decide (m.az.Q≠[]))).1/\ (dP y m).2.2=decide (0<=(kX u (cC m) (decide (m.az.Q≠[]))).2)/\ ((dP y m).2.2=true->(kX u (cC m) (decide (m.az.Q≠[]))).2=(dP y m).2.1):=by
 have hs:=h.bP;have l:=h.pos;have k:=h.every;unfold dP kX;by_cases b:m.az.Q≠[]/\ ((0<y.every/\y.every<=y.bP)\/cC m=[])
 ·have a:decide (m.az.Q≠[])=true/\ (cC m=[]\/ (0<u.every/\u.every<=u.bP)):=⟨abj b.1,b.2.symm.imp_right λh=>by omega⟩;rw[aaR b,aaR a];exact⟨⟨h.kind,h.order,h.cw,h.every,h.last,rfl,Int.le_refl 0⟩,rfl,λ_=>rfl⟩
 ·have a: ¬(decide (m.az.Q≠[])=true/\ (cC m=[]\/ (0<u.every/\u.every<=u.bP))):=λc=>b ⟨asR c.1,c.2.symm.imp_left λh=>by omega⟩
  rw[aaH b,aaH a];by_cases d:cC m=[]
  ·grind
  ·rw[aaH d,aaH d];have e1: (df u (cC m)).2=(df y (cC m)).2:=by
    unfold df;rw[h.kind,h.last,h.order,h.cw];split
    ·rfl
    split<;>rfl
   have e: ∀z:bn->Nat,(z=bn.kind\/z=bn.cw)->z (df u (cC m)).1=z (df y (cC m)).1:=λz j=>by
    unfold df;rw[h.kind];rcases j with rfl|rfl
    ·split
     ·exact h.kind
     split
     ·exact h.kind
     ·rfl
    ·split
     ·exact h.cw
     split
     ·exact h.cw
     ·show nZ u.cw=nZ y.cw;rw[h.cw]
   obtain⟨s1,s2,i,_⟩:=Pm y (cC m);obtain⟨v1,v2,g,_⟩:=Pm u (cC m);refine⟨⟨e _ (.inl rfl),v2.trans (h.order.trans s2.symm),e _ (.inr rfl),g.trans (h.every.trans i.symm),?_,?_,?_⟩,?_,λ_=>?_⟩
   ·show(df u _).2+1=(df y _).2+1;rw[e1]
   ·show min (y.bP+1) 100=min (u.bP+1) 100;omega
   ·show 0<=u.bP+1;omega
   ·exact(abj (by show(0:Int)<=((df u (cC m)).2:Nat);omega)).symm
   ·show(((df u (cC m)).2:Nat):Int)=_;rw[e1]
def aEy(y:bn)(m:aZ)(h:y.last<=8): (dP y m).1.last<=8/\ (dP y m).1.kind=y.kind/\ (dP y m).1.every=y.every:=by
 unfold dP;split
 ·grind
 split
 ·grind
 ·rename_i a;have d:=Ih (x:=y) a λt b=>(Ig b).1
  obtain⟨s1,_,c,_⟩:=Pm y (cC m)
  grind
def aEz(u:bn)(l:lN)(a:Bool)(h:0<=u.bP): (kX u l a).1.bP<=u.bP+1:=by
 unfold kX
 grind
section
variable{aM:Int}{aC:List lB}{aX:lB}{pv:AV}(h:Ii aM aC aX pv)(x:bn)(hx:pq x)(ov:AV)(ss:Rv ov 1 (x.order.map uC))
include h hx ss
theorem aEA(hw: ∀H lo,∃E,D XC (.fn (.func ze) [] []) [] ⟨H,lo⟩=some (.ret (.bool true) E))(r:Nat)(YM:r<65536)(H:List ae)(lo:oN):
  ∃cr,D XC (.fn (.func RI) [] []) [.agg (ek aM pv aX),.agg (aT x ov),.int .u16 r] ⟨H,lo⟩=some cr/\ ∃E,cr= .ret (.bool true) E:=by
 refine cE CB λN hN=>?_
 have hr:=aDW h;have HI:=aD7 h x hx ov ss;have hl: (ek aM pv aX).length=3:=rfl;have Z:List.take 3 (ek aM pv aX)=ek aM pv aX:=rfl;have O: ∀y:bn,(aT y ov).length=6:=λ_=>rfl
 have I: ∀y:bn,List.take 6 (aT y ov)=aT y ov:=λ_=>rfl
 have P:=λH lo=>c0 (aD8 h x hx ov ss H lo)
 have v: ∀E:AS,∃E',aS.ret (finish N lo (.bool true) E).1 (finish N lo (.bool true) E).2= .ret (.bool true) E':=λE=>⟨_,by rw[aqa (abX _)]⟩
 obtain⟨ZS,HK⟩:=hw (H++[.box (ek aM pv aX) none,.box (aT x ov) none]) none;obtain⟨g,hg⟩: ∃g,g=Pn aC aX x:=⟨_,rfl⟩;rw[<-hg]at P;obtain⟨mm,D9⟩: ∃g,g=m9 x:=⟨_,rfl⟩;cases g with
 |true=>
  simp(disch:=omega) only[go_sem,simprocAttr,CB,hN,hl,Z,O,I,P,HK];exact v ZS
 |false=>
  have F:wz aC aX=false/\aX.length<=1500/\x.order.length<=100:=by
   unfold Pn Ij at hg;have hg:=hg.symm;simp only[Bool.or_eq_false_iff,decide_eq_false_iff_not]at hg;exact⟨hg.1.1,by omega,by omega⟩
  have U:=λH lo=>c0 (aD0 h F.1 H lo)
  obtain⟨sm,d⟩: ∃g,g=nL ⟨aM,aC,aX.map UInt8.toNat⟩:=⟨_,rfl⟩;rw[<-d]at U;cases sm with
  |false=>
   simp(disch:=omega) only[go_sem,simprocAttr,CB,hN,hl,Z,O,I,P,U,HK];exact v ZS
  |true=>
   clear HK ZS;obtain⟨kv,o1,o2⟩:=aDZ h F.1 (H++[.box (ek aM pv aX) none,.box (aT x ov) none]) none;have o1:=c0 o1;have Zj: ∃n:Nat,aM=n:=⟨aM.toNat,by unfold nL at d;have d:=d.symm;simp at d;omega⟩;obtain⟨n,rfl⟩:=Zj;obtain⟨cr,r1,M,p,q,qv,ev,aB,aK,ov2,H1,HJ,rfl,r2,r3,r4,r5⟩:=aDy yl o2 d.symm (N+2) (H++[.box (ek n pv aX) none,.box (aT x ov) none]) (by simp[hN]) none;have Pl:ep EK.ptr (AV.ptr M 0) AV.en=some false:=rfl;have Q:H1[N+1]?=some (.box (aT x ov) none):=by rw[r5 (N+1) (by omega),bw hN];rfl
   obtain⟨c,l⟩: ∃c,c={x with last:=0,bP:=0}:=⟨_,rfl⟩;have hz: ∀H lo,D XC (.fn (.func JM) [] []) [.agg (aT x ov)] ⟨H,lo⟩=some (.ret (.agg (aT c ov)) ⟨H,lo⟩):=λH lo=>by rw[l];exact c0 (aD9 x hx ov ss H lo)
   have om: ∀y:bn,aH (aT x ov) 0 (aT y ov)=aT y ov:=λ_=>rfl
   have C:Rv ov 1 (c.order.map uC):=by rw[l];exact ss
   have s:pq c:=by subst l;exact⟨hx.kind,hx.order,hx.cw,hx.every,by show 0<256;omega,by show-9223372036854775808<=(0:Int)/\ (0:Int)<9223372036854775808;omega⟩
   obtain⟨w,A3,A4⟩:=aEm c s (by rw[l];exact F.2.2) ov C (H1.set (N+1) (.box (aT c ov) none)) HJ;have ra: ∀y:bn,aG (bL y w)=0:=λy=>by simp[bL,aG,AV.refs,cJ A3 (bz (λ_=>rfl) _)]
   have rj: ∀y:bn,(bL y w).length=6:=λ_=>rfl
   have DI: ∀y:bn,List.take 6 (bL y w)=bL y w:=λ_=>rfl
   have aEB: ∀y:bn,List.drop 6 (bL y w)=[]:=λ_=>rfl
   have aEC: {c with last:=0,bP:=0}=c:=by rw[l]
   rw[aEC]at A4;have ZT:=c0 A4;have Pr:=λH lo=>ZM DN c s ov C H lo
   have Bo:=λH lo=>c0 (aEn c s w A3 H lo)
   have B:m9 c=m9 x:=by rw[l];rfl
   rw[B,<-D9]at Pr Bo;have Ps: (H1.set (N+1) (.box (aT c ov) none))[N+1]?=some (.box (aT c ov) none):=cx Q;obtain⟨a,haa⟩: ∃a,H1.length=a:=⟨_,rfl⟩;have mE: (H1.set (N+1) (ae.box (aT c ov) none)).length=a:=by rw[ajB,haa]
   have G: ∀L,(H1.set (N+1) (.box (aT c ov) none)++L)[N+1]?=some (.box (aT c ov) none):=λL=>bf Ps
   have Pt: ∀o,(H1.set (N+1) (.box (aT c ov) none)++[o])[a]?=some o:=λo=>by rw[dn mE];rfl
   have hc0: [AV.int .i64 0,.ai,.int .u64 0,.int .i64 0,.int .i64 0,.int .i64 0].length=6:=rfl;have ZP: ∀y:bn,List.drop 6 (aT y ov)=[]:=λ_=>rfl
   cases mm with
   |false=>
    have aEE:=λH lo=>aqc c s (B.trans D9.symm) ov C M H lo
    obtain⟨S,V⟩:=hw (H1.set (N+1) (.box (aT c ov) none)++[.box (bL c w) none,.box (aT c ov) none]) HJ;simp(disch:=omega) only[go_sem,simprocAttr,CB,hN,HI,hl,Z,O,I,P,U,o1,r1,Pl,Q,hz,om,Ps,ZT,ra,rj,DI,mE,G,Pt,Pr,Bo,be0,aEE,V];exact v S
   |true=>
    simp(disch:=omega) only[go_sem,simprocAttr,CB,hN,HI,hl,Z,O,I,P,U,o1,r1,Pl,Q,hz,om,Ps,ZT,ra,rj,DI,mE,G,Pt,Pr,Bo,be1];have hab:N+2<=M/\M<a/\p<a/\q<a:=by
     have:=r2.nM;have:=r2.lt;have:=r2.co.lt;have:=fi r2.co.ij;omega
    have J:1<=n/\n<=64/\aX.length<=4000:=by unfold nL at d;have d:=d.symm;simp at d;omega
    obtain⟨k1,k2⟩:=Pg ⟨J.1,J.2.1⟩ aC J.2.2 aX.length (ahT _);have k3:=ap3 ⟨J.1,J.2.1⟩ aC J.2.2 aX.length (ahT _);rw[apQ]at k1 k2 k3;have hpi:DO c c:=⟨s,B.trans D9.symm,by rw[l];show(0:Int)<=0/\ (0:Int)<=100;omega,rfl⟩;have aqq:Alike c c:=⟨rfl,rfl,rfl,rfl,rfl,by rw[l];rfl,by rw[l];show(0:Int)<=0;omega⟩;have X:c.kind<3/\c.every<=100:=by
     have h:=B.trans D9.symm;unfold m9 at h;simp only[ajI,alb]at h;exact⟨h.1.1.1,h.2⟩
    have tm: (r:Int).tmod 400=((r % 400:Nat):Int):=by rw[aqx (by omega)];omega
    refine gX (r % 400) (λk e W ak=> ∃m qv ev aB aK y u,e 2= .int .u16 r/\e 4= .ptr (N+1) 0/\e 7= .ptr M 0/\e 10= .ptr a 0/\e 15= .int .i64 k/\bH (N+2) M p q m qv ev aB aK W/\sk m/\nY m/\m.now<=1500+k/\DO c y/\y.last<=8/\y.kind=c.kind/\y.every=c.every/\Alike y u/\u.bP<=k/\W[N+1]?=some (.box (aT y ov) none)/\W[a]?=some (.box (bL u w) none)) 0 (by omega) ?_ ?_
    ·refine⟨_,qv,ev,aB,aK,c,c,rfl,rfl,rfl,rfl,rfl,(r2.low Q (by omega) _).app _,k1,k3,by omega,hpi,by rw[l];show 0<=8;omega,rfl,rfl,aqq,by rw[l];show(0:Int)<=((0:Nat):Int);omega,G _,Pt _⟩
    clear r1 r2 r3 r4 r5 Q k1 k2 k3 hpi qv ev aB aK o1 o2 P U hz Ps G Pt Pr Bo ZT aqq;rintro k hk e W ak ⟨m,qv,ev,aB,aK,y,u,e2,e4,e7,e10,e15,hA,hI,hR,aHq,R,y3,hyk,hye,j,hus,Q,hb1⟩ nn hn;simp(disch:=omega) only[bO,go_sem,simprocAttr,aix,e2,e4,e15,tm];refine⟨λhh=>?_,λhh=>?_⟩
    ·have hk':k<r % 400:=by omega
     have hQ:=hI.q;have hRr: ∀i,(m.aA i).c.aU.length<1073741824:=λi=>by have:=hR i;unfold jD at this;omega
     have O7:=Pk yl DN hA hI.ok hRr (by omega) y R.ok R.may R.bP ov (by rw[R.order];exact C) ak;have hz1:=R.next m;have hz3:=λh=>aD6 (x:=y) (m:=m) h
     have huk:pq u:=⟨by rw[j.kind];exact R.ok.kind,λt Z=>R.ok.order t (j.order ▸ Z),by rw[j.cw];exact R.ok.cw,by rw[j.every];exact R.ok.every,by rw[j.last];exact R.ok.last,by have:=j.pos;omega⟩;have K:=λf qd H lo=>c0 (aEx u huk w (by rw[j.order,R.order];exact A3) (by rw[j.order,R.order,l];exact F.2.2) (by rw[j.last];exact y3) (by rw[j.kind,hyk];exact X.1) f (by have:=j.pos;omega) qd H lo)
     have aEG:=j.next (by rw[hye];exact X.2) m;obtain⟨cv,c1,c2⟩:=apU (hA.app [.box (aT (dP y m).1 ov) none,.box [.int .i64 0,.ai,.int .u64 0,.int .i64 0,.int .i64 0,.int .i64 0] none]) (by omega) ak;have ZU:=λlo=>aEr (hA.app [.box (aT (dP y m).1 ov) none,.box [.int .i64 0,.ai,.int .u64 0,.int .i64 0,.int .i64 0,.int .i64 0] none]) hI.ok hRr lo
     have g8: (cF m.az q cv)[1273]?=some cv:=O0;have ZR:decide (0< (m.az.Q.length:Int))=decide (m.az.Q≠[]):=ajF.2 (by rw[<-apf];omega);have K:=K (gE m) (decide (m.az.Q≠[]));have hlf:cO (gE m) 8=cC m:=rfl;rw[hlf]at K;obtain⟨n1,n2,n3⟩:=aEG;have A: (dP y m).1.last<=8/\ (dP y m).1.kind=c.kind/\ (dP y m).1.every=c.every:=by
      have h:=aEy y m y3;rw[h.2.1,h.2.2,hyk,hye];exact⟨h.1,rfl,rfl⟩
     have aqz: (kX u (cC m) (decide (m.az.Q≠[]))).1.bP<=((k+1:Nat):Int):=by
      have:=aEz u (cC m) (decide (m.az.Q≠[])) j.pos;omega
     generalize dP y m=z at*;generalize kX u (cC m) (decide (m.az.Q≠[]))=z2 at*;obtain⟨T,b,is⟩:=z;obtain⟨Y,t⟩:=z2;dsimp only at O7 hz1 hz3 K n1 n2 n3 A aqz c1 ZU;have hzz: [AV.int .i64 0,.ai,.int .u64 0,.int .i64 0,.int .i64 0,.int .i64 0]=[AV.int .i64 0,.ai,.int .u64 0,.int .i64 0,.int .i64 0,.int .i64 0]:=rfl;have hA2:=hA.app [.box (aT T ov) none,.box [.int .i64 0,.ai,.int .u64 0,.int .i64 0,.int .i64 0,.int .i64 0] none];have aqA: ∀L,(W++L)[a]?=some (.box (bL u w) none):=λL=>bf hb1
     cases is with
     |false=>
      have Z:decide (t>=0)=false:=n2.symm;obtain⟨S,V⟩:=hw (W++[.box (aT T ov) none,.box (bL Y w) none]) ak;simp(disch:=omega) only[go_sem,simprocAttr,e7,e10,Q,aqA,I,O,HI,O7,hn,ZU,c1,g8,c2.bD,ZR,K,ra,rj,DI,Z,be0,V];exact v S
     |true=>
      obtain rfl:t=(b:Int):=n3 rfl;obtain⟨u1,u2',u3⟩:=hz3 rfl;have hbw:IntKind.i64.wrap (b:Int)=(b:Int):=wrap_i64 (by omega) (by omega);have Z:decide ((b:Int)>=0)=true:=abj (by omega);have DJ:=hA.app [.box (aT T ov) none,.box (bL Y w) none];have hA4:=DJ.low (bf Q) (by omega) (.box (aT T ov) none);have ZV: ((W++[ae.box (aT T ov) none,.box (bL Y w) none]).set (N+1) (.box (aT T ov) none))[a]?=some (.box (bL u w) none):=by
       rw[aaD (by omega)];exact bf hb1
      have hA5:=hA4.other ZV (by omega) (by omega) (by omega) (.box (bL Y w) none);obtain⟨cr,p1,Zy,ev2,aEM,aEN,W3,Dd,rfl,p2,p3,p4⟩:=ZG yl hA5 hI (by omega) b u1 ak;rw[u3]at p1;have p1:D XC (.fn (.func zg) [] []) [.ptr M 0,.int .u8 b] ⟨((W++[ae.box (aT T ov) none,.box (bL Y w) none]).set (N+1) (.box (aT T ov) none)).set a (.box (bL Y w) none),ak⟩=some (.ret (.int .i64 0) ⟨W3,Dd⟩):=p1;have hbA: ∀L,(W++L)[N+1]?=some (.box (aT y ov) none):=λL=>bf Q
      have hbl:=fi Q;have hbB: ∀o,((W++[ae.box (aT T ov) none,.box (bL Y w) none]).set (N+1) o)[nn+1]?=some (.box (bL Y w) none):=λo=>by
       rw[aaD (by omega),bw hn];rfl
      obtain⟨q1,q2⟩:=ZF hI (by omega) b;have q3:=ZK hI.ok.az.S hR b;have v0:W3[N+1]?=some (.box (aT T ov) none):=by
       rw[p3.low (N+1) (by omega),aaD (by omega)];exact cx (bf Q)
      have v1:W3[a]?=some (.box (bL Y w) none):=p3.own (by simp;omega) (cx ZV);simp(disch:=omega) only[go_sem,simprocAttr,e2,e4,e7,e10,e15,Q,aqA,I,O,HI,O7,hn,ZU,c1,g8,c2.bD,ZR,K,ra,rj,DI,aEB,ZP,be1,hbw,hbA,hbB,ZV,p1];exact⟨hk',_,Zy,ev2,aEM,aEN,T,Y,p2,q1,q3,by omega,hz1,A.1,A.2.1,A.2.2,n1,aqz,v0,v1⟩
    ·obtain⟨S,V⟩:=hw W ak;simp(disch:=omega) only[go_sem,simprocAttr,V];exact v S
theorem aEQ(a:Nat)(b:a<65536):
  ∃E,D XC (.fn (.func RI) [] []) [.agg (ek aM pv aX),.agg (aT x ov),.int .u16 a] ⟨[],none⟩=some (.ret (.bool true) E):=by
 obtain⟨d,c,E,rfl⟩:=aEA h x hx ov ss aEj a b [] none
 grind
end
set_option maxHeartbeats 1000000 in
set_option maxRecDepth 100000 in
def aER(n:Nat)(f:0<n)(d:n<=1024)(w:World):
  Calls Tryz.prog rm #[.slice none 0 0,.int .i64 n] w λe w'=> ∃cs:Array Value,e= .returned (.slice (some ⟨w.heap.size,0,none⟩) 0 (grownCap w n 0 fu))/\w'=w.drew.alloc (.cells cs fu)/\cs.size=grownCap w n 0 fu*2:=by
 unfold rm
 go_enter Tryz.func192,Tryz.ntmps192
 have c:Tryz.t100.bytes=16:=by kernel_rfl
 have b:Builtin.nextslicecap n 0=n:=by unfold Builtin.nextslicecap;simp;omega
 go_wp2
 all_goals first
  | (exfalso;simp only[c,b]at*;omega)
  | (go_ret;refine⟨rfl,_,rfl,?_⟩;have a:=aBt w n 0 fu;unfold grownCap fu at a⊢;simp only[aCl,aCj,aCf,ajC,apY];generalize(Question.appendCap n 0 _).cut _=q at*;omega)
set_option maxHeartbeats 1000000 in
set_option maxRecDepth 100000 in
def aES(w:World):
  Calls Tryz.prog rm #[.slice none 0 0,.int .i64 0] w λe w'=>e= .returned (.slice none 0 0)/\w'=w:=by
 unfold rm
 go_enter Tryz.func192,Tryz.ntmps192
 go_wp2
 all_goals(go_ret;exact⟨rfl,rfl⟩)
def aET{f:Nat}{fn:Func}(d:Tryz.prog.funcs[f]?=some fn)(g:fn.body.isSome=true)(a: (fn.name== "runtime.NumGoroutine")=false)(args:Array Value)(w:World):
  (callFunc f args).run Tryz.prog w= .ok (.enter f args) w:=by
 have b: ¬fn.name= "runtime.NumGoroutine" :=by grind
 obtain⟨c,e⟩:=aul.1 g;simp[callFunc,atV,d,b,e]
def aEU(B:Nat)(b:World):gj Tryz.prog B b rm Dz:=by
 intro args E s h G w a hw i;rw[aET (f:=rm) (fn:=Tryz.f192) Tryz.func192 (by rfl) (by rfl)];show CallsIn (W none) 0 Tryz.prog _ a w _;rw[ar2];refine callsIn_wide.2 ?_;unfold Dz at h;split at h
 ·rename_i n;simp only[aD]at i;obtain⟨v0,q,r,rfl,v1,p,rfl,rfl,rfl⟩:=i;obtain rfl:a= #[.slice none 0 0,.int .i64 n]:=by grind
  split at h
  ·rename_i g;subst g;cases h;refine(aES w).mono ?_;rintro e w' ⟨rfl,rfl⟩;exact⟨G,G.le_refl,hw,rfl,.refl _⟩
  ·split at h
   ·rename_i g;obtain⟨k,rfl⟩: ∃k:Nat,n=k:=⟨n.toNat,by omega⟩;cases h;refine(aER k (by omega) (by omega) w).mono ?_;rintro e w' ⟨cs,rfl,rfl,d⟩;obtain⟨m,o,v2,e1,g1,g2,l,j⟩:=IA hw (sz:=2) (af:=[]) (c:=cs) (vs:=[]) (post:=cs.toList) (w':=w.drew) fu rfl (λel h=>by cases h) rfl (λv h=>by cases h) d (abX _) 0 rfl rfl hw.drew;cases e1;exact⟨m,g1,g2,l,j⟩
   ·cases h
 grind
end Go.Proofs.YteplichagkpciaaGreatDoor
