/- A part. -/
import Derived.Test.YteplichagkpciaaGreatDoorM2
import Derived.Test.YteplichagkpciaaGreatDoorD2
import Derived.KernelRfl
import Derived.Test.YteplichagkpciaaGreatDoorProg
import Derived.WalkKit
import Derived.Lib.AppendZerosOnto
set_option linter.all false
set_option maxRecDepth 10000
set_option maxHeartbeats 1000000
namespace Go.Proofs.YteplichagkpciaaGreatDoor
open Go Go.Den Go.RowKit
variable{m:bb}{v qv rv pv kv ev:AV}{sz p a b i k q M t e aa:Nat}{lo:oN}{tg:Option TypeId}{H0:List ae}{Q:Prop}{x y:aq}{r:bE}{α:Type}{c:cp}{aC:List lB}{aB aJ:Nat->AV}{l:lN}
def arM:=@Int.tmod_eq_emod_of_nonneg
def axP:=@decide_eq_true_iff
def azb:=@List.all_eq_not_any_not
def aCB:=@List.all_eq_false
def cw(x:Core)(q:Nat)(qv:AV):lA:=bw x.S++([.ptr q 0]++(cI x.M++[qv]))
section
variable{x:Core}{q:Nat}{qv:AV}
def MW: (cw x q qv).length=1274:=by simp only[cw,agU,eU,dV];rfl
def ak6:aG (cw x q qv)=max (q+1) qv.refs:=by
 simp only[cw,FW,oq,jO];simp[aG,AV.refs]
def ak7:Den.part true 952 (cw x q qv) 0=some (.agg (bw x.S)):=by exact xg (eU _) (by omega)
def Wb{ag:Bool}{m o:Nat}(ho:952<=o):Den.part ag m (cw x q qv) o=Den.part ag m ([.ptr q 0]++(cI x.M++[qv])) (o-952):=by
 unfold cw;rw[kc (by rw[eU];exact ho),eU]
def ak8:Den.part false 1 (cw x q qv) 952=some (.ptr q 0):=by rw[Wb (by omega)];rfl
def ak9:Den.part true 320 (cw x q qv) 953=some (.agg (cI x.M)):=by
 rw[Wb (by omega),kc (by simp)];exact xg (dV _) (by omega)
def Wc:Den.part false 1 (cw x q qv) 1273=some qv:=by
 rw[Wb (by omega),kc (by simp),kc (by rw[dV];simp),dV];rfl
def ala{s:bG}:aH (cw x q qv) 0 (bw s)=cw {x with S:=s} q qv:=by
 unfold cw;rw[ra (by rw[eU,eU];omega),re (by rw[eU,eU])]
def alb{m:Marks}:aH (cw x q qv) 953 (cI m)=cw {x with M:=m} q qv:=by
 unfold cw;rw[gu (by rw[eU];omega),eU,gu (by simp),ra (by rw[dV];simp[dV])];have:953-952- [AV.ptr q 0].length=0:=rfl;rw[this,re (by rw[dV,dV])]
def alc:aH (cw x q qv) 1273 [v]=cw x q v:=by
 unfold cw;rw[gu (by rw[eU];omega),eU,gu (by simp),gu (by rw[dV];simp),dV];rfl
theorem aDM{P:cO}:cw {x with P:=P} q qv=cw x q qv:=rfl
theorem ayb{Q:lN}:cw {x with Q:=Q} q qv=cw x q qv:=rfl
theorem MX: (cw x q qv)[1273]?=some qv:=Wc
def KL:=gG @ak7<|gG @ak8<|gG @ak9<|gG @Wc @MX
def KS:=gG @ala<|gG @alb<|gG @alc @MW
end
def cW(N:Nat)(H:List ae)(v:AV)(sz:Nat)(ty:TypeId)(af:List lA):Prop:=
 (∀el∈af,el.length=sz)/\ ((v= .ai/\af=[])\/ ∃id aj off all,N<=id/\v= .ref id aj sz off af.length false/\H[id]?=some (.row aj sz ty all)/\off+af.length<=all.length/\ (all.drop off).take af.length=af)
theorem cW.ai{N:Nat}{H:List ae}{ty:TypeId}:cW N H .ai sz ty []:=⟨by simp,.inl ⟨rfl,rfl⟩⟩
section
variable{N:Nat}{H H':List ae}{v:AV}{sz:Nat}{ty:TypeId}{af:List lA}
def cW.rd(h:cW N H v sz ty af):Rd ⟨H,lo⟩ v sz af:=by
 obtain⟨c,b⟩:=h;rcases b with⟨rfl,rfl⟩| ⟨id,aj,off,all,e,rfl,a,f,d⟩
 ·exact .ai
 ·refine⟨trivial,?_,c⟩;simp only[elems,a,azq]
  grind
def cW.nQ(h:cW N H v sz ty af)(b: ∀ (id aj:Nat) (all:List lA),H[id]?=some (ae.row aj sz ty all)->H'[id]?=some (ae.row aj sz ty all)):cW N H' v sz ty af:=by
 obtain⟨a,c⟩:=h;refine⟨a,?_⟩
 grind
theorem cW.app(h:cW N H v sz ty af)(L:List ae):cW N (H++L) v sz ty af:=h.nQ λ_ _ _ a=>bh a
theorem cW.set(h:cW N H v sz ty af){cs:lA}(b:H[p]?=some (.box cs tg))(o:ae):cW N (H.set p o) v sz ty af:=h.nQ λid _ _ a=>by grind
theorem cW.take{n:Nat}{a:List lA}(h:cW N H v sz ty af)(e:cW N H0 v sz ty a)(k:H0.length=n):cW N (H.take n) v sz ty af:=by
 obtain⟨d,b⟩:=h;refine⟨d,?_⟩;rcases b with b| ⟨id,aj,off,all,o,g,j,l,i⟩
 ·grind
 ·rcases e.2 with⟨q,_⟩| ⟨c,_,_,_,_,q,f,_⟩
  ·grind
  grind
def cW.tail{a:lA}{bytes:Nat}(h:cW N H v sz ty (a::af)): ∃w,fW sz v (some (.int .i64 1)) none none=some w/\cW N H w sz ty af/\w.cb=false/\w.cells=[w]/\w.refs=v.refs:=by
 obtain⟨i,c⟩:=h;rcases c with⟨_,c⟩| ⟨id,aj,off,all,f,rfl,e,k,j⟩
 ·grind
 ·refine⟨.ref id aj sz (off+1) af.length false,?_,⟨λel d=>i el (ahd _ d),.inr ⟨id,aj,off+1,all,f,rfl,e,by grind,?_⟩⟩,rfl,rfl,rfl⟩
  ·have g:fV (a::af).length (some (.int .i64 1)) none=some (1,af.length+1):=by
     have: (1:Int)<=af.length+1:=by omega
     simp[fV,lF,this]
   simp only[fW,g,lG]
   grind
  ·have: (all.drop off).take (af.length+1)=a::af:=by omega
   have c:all.drop (off+1)=(all.drop off).drop 1:=by simp
   rw[c];generalize all.drop off=l at this;cases l with
   |nil=>grind
   |cons b l=>grind
def cW.append{bytes:Nat}{y:lA}(h:cW N H v sz ty af)(s:N<=H.length)(j:0<sz)(u:y.length=sz)(l:aG y=0)(r: (af.length+1)*bytes<=room):
  ∃v' H',dw ⟨H,lo⟩ ty sz bytes v [y]=some (v',⟨H',lo⟩)/\cW N H' v' sz ty (af++[y])/\H.length<=H'.length/\ (∀i,i<N->H'[i]?=H[i]?)/\ (∀ (i:Nat) (o:ae),(∀a d,o≠ae.row a sz ty d)->H[i]?=some o->H'[i]?=some o)/\v'.cb=false/\v'.cells=[v']/\N<v'.refs:=by
 have f:0<sz/\ [y].all (λel=>el.length==sz)=true:=⟨j,by grind⟩;obtain⟨z,t⟩:=h;have g: ∀el∈af++[y],el.length=sz:=by grind
 rcases t with⟨rfl,rfl⟩| ⟨id,aj,off,all,n,rfl,b,w,k⟩
 ·refine⟨.ref H.length 0 sz 0 1 false,H++[.row 0 sz ty [y]],?_,⟨g,.inr ⟨H.length,0,0,[y],s,rfl,by simp,by simp,by simp⟩⟩,by simp,λi p=>aez (by omega),λi o _ ho=>bh ho,rfl,rfl,by simp only[AV.refs];omega⟩;unfold dw;rw[afl f];simp only[arF];rw[afi (by omega),afl (by omega)];rfl
 ·have c:=fh b;refine⟨.ref id (aj+1) sz 0 (af.length+1) false,H.set id (.row (aj+1) sz ty (af++[y])),?_,⟨g,.inr ⟨id,aj+1,0,af++[y],n,by simp,by simp[c],by simp,agQ (by simp)⟩⟩,by simp,λi p=>aex (by omega),λi o ho e=>?_,rfl,rfl,by simp only[AV.refs];omega⟩
  ·unfold dw;rw[afl f];simp only[b,arF];rw[afl ⟨trivial,trivial,trivial,trivial,by omega,r⟩,afi (by omega)];have:b8 [y]=0:=by simp[b8,l]
   simp[AS.set,this,k]
  ·rw[aex];exact e;rintro rfl;rw[b]at e;cases e;exact ho _ _ rfl
end
def Mu(o:ae):Prop:= ∃a d,o= .row a 1 mw d
structure Fq(m:Nat)(S:lN)(H H':List ae):Prop where
 len:H.length<=H'.length
 low: ∀i,i<m->H'[i]?=H[i]?
 box: ∀i o,i∉S-> ¬Mu o->H[i]?=some o->H'[i]?=some o
section
variable{m:Nat}{S T:lN}{A B C H W:List ae}
theorem Fq.refl:Fq m S A A:=⟨agW _,λ_ _=>rfl,λ_ _ _ _ h=>h⟩
theorem Fq.trans(h:Fq m S A B)(g:Fq m S B C):Fq m S A C:=⟨ajR h.len g.len,λi a=>(g.low i a).trans (h.low i a),λi o a ho b=>g.box i o a ho (h.box i o a ho b)⟩
theorem Fq.mono(h:Fq m S A B)(a: ∀i∈S,i∈T):Fq m T A B:=⟨h.len,h.low,λi o b ho c=>h.box i o (λq=>b (a i q)) ho c⟩
theorem Fq.set(b:p∈S)(c:m<=p)(o:ae):Fq m S A (A.set p o):=⟨by simp,λi a=>aex (by omega),λi w a _ h=>by grind⟩
theorem Fq.app(L:List ae)(a:m<=A.length):Fq m S A (A++L):=⟨by simp,λi b=>aez (by omega),λi o _ _ h=>bh h⟩
theorem Fq.pre{L:List ae}(h:Fq m S (H++L) W)(a:m<=H.length):Fq m S H W:=(Fq.app L a).trans h
theorem Fq.take{N:Nat}(h:Fq m S A B)(d:A.length=N)(c:m<=N):Fq m S A (B.take N):=⟨by rw[aiI];have:=h.len;omega,λi a=>by rw[aiE (by omega)];exact h.low i a,λi o a ho b=>by
 have:=fh b;rw[aiE (by omega)];exact h.box i o a ho b⟩
theorem Fq.own{cs:lA}(h:Fq m S A B)(b:p∉S)(c:A[p]?=some (.box cs tg)):B[p]?=some (.box cs tg):=h.box p _ b (λq=>by obtain⟨a,d,q⟩:=q;cases q) c
end
def eu(Q:Prop)(B:Nat)(H H':List ae)(lo ak:oN):Prop:=(ak=lo/\H'.length=H.length/\Q)\/ ∃j,j<=B/\ak=cC lo j
def ald:cC (cC lo a) b=cC lo (min a b):=by
 cases lo with
 |none=>exact akp some (Nat.min_comm b a)
 |some c=>show some (min b (min a c))=some (min (min a b) c);grind
def eu.trans{e d:Prop}{B:Nat}{H i f:List ae}{b a:oN}(l:e->d->Q)(h:eu e B H i lo b)(g:eu d B i f b a):eu Q B H f lo a:=by
 rcases h with⟨rfl,p,o⟩| ⟨j,n,rfl⟩
 ·rcases g with⟨rfl,g1,g2⟩| ⟨k,c,rfl⟩
  ·exact .inl ⟨rfl,by omega,l o g2⟩
  ·exact .inr ⟨k,c,rfl⟩
 ·rcases g with⟨rfl,_,_⟩| ⟨k,c,rfl⟩
  ·exact .inr ⟨j,n,rfl⟩
  ·exact .inr ⟨min j k,by omega,ald⟩
theorem eu.same{B:Nat}{H:List ae}(h:Q):eu Q B H H lo lo:=.inl ⟨rfl,rfl,h⟩
def eu.imp{R:Prop}{B d:Nat}{H H':List ae}{ak:oN}(h:eu Q B H H' lo ak)(f:Q->R)(i:B<=d):eu R d H H' lo ak:=by
 rcases h with⟨a,b,c⟩| ⟨j,g,e⟩
 ·exact .inl ⟨a,b,f c⟩
 ·exact .inr ⟨j,by omega,e⟩
section
variable{m N B:Nat}{S:lN}{H L W H2:List ae}{lo mr:oN}{Q:Prop}{v:AV}
def MY(h:H.length=N)(k:B<N)(e:m<=N)(i:Fq m S (H++L) W)(f:eu Q B (H++L) W none mr)(d:v.refs<=N):
  ∃H2 a,finish N lo v ⟨W,mr⟩=(v,⟨H2,a⟩)/\Fq m S H H2/\eu Q B H H2 lo a/\ (H2=W\/ (H2=W.take N/\Q)):=by
 have b:=i.pre (by omega);rcases f with⟨rfl,l,c⟩| ⟨j,g,rfl⟩
 ·refine⟨W.take N,lo,iR (.inl rfl) d,b.take h e,.inl ⟨rfl,?_,c⟩,.inr ⟨rfl,c⟩⟩
  grind
 ·refine⟨W,cC lo j,?_,b,.inr ⟨j,g,rfl⟩,.inl rfl⟩;have:cC none j=some j:=rfl;exact vN (by omega)
def MZ{o:ae}(h:H2=W\/ (H2=W.take N/\Q))(b:i<N)(a:W[i]?=some o):H2[i]?=some o:=by grind
def cW.oP{n:Nat}{ty:TypeId}{v v':AV}{af a:List lA}(h:cW n W v' sz ty af)(c:H2=W\/ (H2=W.take N/\Q))(b:Q->v'=v)(e:cW n H v sz ty a)(d:H.length=N):cW n H2 v' sz ty af:=by
 rcases c with rfl| ⟨rfl,q⟩
 ·exact h
 ·have:=b q;subst this;exact h.take e d
end
structure dv(m p q:Nat)(x:Core)(qv:AV)(H:List ae):Prop where
 mp:m<=p
 mq:m<=q
 qp:q<p
 box:H[p]?=some (.box (cw x q qv) none)
 hY:H[q]?=some (.box (ca x.P) none)
 iz:cW (p+1) H qv 1 mw (x.Q.map iV)
section
variable{m p q:Nat}{x:Core}{qv:AV}{H:List ae}
theorem dv.lt(h:dv m p q x qv H):p<H.length:=fh h.box
theorem dv.app(h:dv m p q x qv H)(L:List ae):dv m p q x qv (H++L):=⟨h.mp,h.mq,h.qp,bh h.box,bh h.hY,h.iz.app L⟩
theorem dv.set(h:dv m p q x qv H){cs:lA}(c:H[i]?=some (.box cs tg))(b:i≠p)(a:i≠q)(o:ae):dv m p q x qv (H.set i o):=
 ⟨h.mp,h.mq,h.qp,(aex b).trans h.box,(aex a).trans h.hY,h.iz.set c o⟩
theorem dv.oP{W H2:List ae}{N:Nat}{a:AV}{d:Core}(h:dv m p q x qv W)(b:H2=W\/ (H2=W.take N/\Q))(e:Q->qv=a)(c:dv m p q d a H0)(f:H0.length=N):dv m p q x qv H2:=
 have g:=c.lt
 ⟨h.mp,h.mq,h.qp,MZ b (by omega) h.box,MZ b (by have:=h.qp;omega) h.hY,cW.oP h.iz b e c.iz f⟩
theorem dv.ale(h:dv m p q x qv H)(M:Marks):dv m p q {x with M:=M} qv (H.set p (.box (cw {x with M:=M} q qv) none)):=
 ⟨h.mp,h.mq,h.qp,cN h.box,(aex (by have:=h.qp;omega)).trans h.hY,h.iz.set h.box _⟩
theorem dv.alf(h:dv m p q x qv H)(s:bG):dv m p q {x with S:=s} qv (H.set p (.box (cw {x with S:=s} q qv) none)):=
 ⟨h.mp,h.mq,h.qp,cN h.box,(aex (by have:=h.qp;omega)).trans h.hY,h.iz.set h.box _⟩
theorem dv.GA(h:dv m p q x qv H)(P:cO):dv m p q {x with P:=P} qv (H.set q (.box (ca P) none)):=
 ⟨h.mp,h.mq,h.qp,(aex (by have:=h.qp;omega)).trans h.box,cN h.hY,h.iz.set h.hY _⟩
theorem dv.fp(h:dv m p q x qv H)(o:ae):Fq m [p,q] H (H.set p o):=Fq.set (by simp) h.mp o
theorem dv.fq(h:dv m p q x qv H)(o:ae):Fq m [p,q] H (H.set q o):=Fq.set (by simp) h.mq o
end
def Wd(m p q:Nat)(H:List ae)(lo:oN)(b:Core)(qv:AV)(r:AV)(c:aS):Prop:=
 ∃a H' ak,c= .ret r ⟨H',ak⟩/\dv m p q b a H'/\Fq m [p,q] H H'/\eu (a=qv) p H H' lo ak
def iW(x:Core)(r:aE)(k:Nat):Core:={x with Q:=x.Q++(iP r).take k}
def alg(x:Core)(r:aE):iW x r r.2=cU x r:=by
 unfold iW cU;rw[agQ (by simp[iP])]
def alh{r:aE}(h:k<r.2): (iP r).take (k+1)=(iP r).take k++[r.1+k]:=by
 rw[ait];simp[iP,h]
def We{m:Nat}{x:Core}{H:List ae}(l:dv m p q x qv H)(r:aE)(X:r.1<4294967296/\r.2<4294967296)(hQ:x.Q.length<17179869184)(lo:oN):
  ∃K,D XC (.fn (.func D1) [] []) [.ptr p 0,.agg (ay r)] ⟨H,lo⟩=some K/\Wd m p q H lo (cU x r) qv (.au []) K:=by
 refine cz RW λN s=>?_
 have C:p<N:=by rw[<-s];exact l.lt
 have h1: (ay r)[1]?=some (.int .i64 r.2):=rfl;simp only[go_sem,simprocAttr,RW,s];refine gS r.2 (λk e W ak=> ∃c,e 0= .ptr p 0/\e 3= .ptr N 0/\e 6= .int .i64 r.2/\e 7= .int .i64 k/\dv m p q (iW x r k) c W/\W[N]?=some (.box (ay r) none)/\Fq m [p,q] (H++[.box (ay r) none]) W/\eu (c=qv) p (H++[.box (ay r) none]) W none ak) 0 (by omega) ?_ ?_
 ·refine⟨qv,?_⟩;simp(disch:=omega) only[go_sem,simprocAttr];refine⟨?_,Fq.refl,eu.same trivial⟩;have:=l.app [.box (ay r) none];unfold iW;simpa using this
 rintro k Z e W ak ⟨c,J,e3,e6,e7,b,hw,I,g⟩ n Y;have h0: (ay r)[0]?=some (.int .i64 r.1):=rfl;simp only[bR,go_sem,simprocAttr,agb,J,e6,e7];refine⟨λO=>?_,λO=>?_⟩
 ·have E:k<r.2:=by omega
  have V:=(oM (b.iz.rd (lo:=none)));simp(disch:=omega) only[go_sem,simprocAttr,e3,b.box,hw,↓KL];have h: (x.Q++(iP r).take k).length<=x.Q.length+r.2:=by simp[iP];omega
  have M:=b.lt;obtain⟨v',W',g1,g2,g3,U,t,T,R,g8⟩:=cW.append (bytes:=8) (lo:=ak) (y:=[.int .i64 ((r.1:Int)+k)]) b.iz (by omega) (by omega) rfl rfl (by rw[agZ];show((x.Q++(iP r).take k).length+1)*8<=room;unfold room;omega);have z: ∀cs tg,∀a d,ae.box cs tg≠ .row a 1 mw d:=λ_ _ _ _ e=>by cases e
  have f:=t p _ (z _ _) b.box;have u:=t q _ (z _ _) b.hY;have w:=t N _ (z _ _) hw;have F: ¬v'.refs<=p+1:=by omega
  rw[g1];simp(disch:=omega) only[go_sem,simprocAttr,J,e3,e6,e7,f,KS,T,R,F];refine⟨by omega,v',?_⟩;refine⟨?_,w,?_,?_⟩
  ·refine⟨b.mp,b.mq,b.qp,by rw[ayb];exact cN f,(aex (by have:=b.qp;omega)).trans u,?_⟩;have: (iW x r (k+1)).Q.map iV=(iW x r k).Q.map iV++[[.int .i64 ((r.1:Int)+k)]]:=by
    unfold iW;rw[alh E,<-afq,ag9];rfl
   rw[this];exact g2.set f _
  ·refine I.trans ⟨by simp;omega,λi G=>?_,λi o G ho P=>?_⟩
   ·rw[aex (by have:=b.mp;omega)];exact U i (by have:=b.mp;omega)
   ·rw[aex (by rintro rfl;simp at G)];exact t i o (λa d e=>ho ⟨a,d,e⟩) P
  ·rcases g with⟨rfl,_,_⟩| ⟨j,hj,rfl⟩
   ·exact .inr ⟨p,agW _,rfl⟩
   ·exact .inr ⟨min j p,by omega,ald⟩
 ·obtain rfl:k=r.2:=by omega
  have hm:=l.mp;obtain⟨H2,A,f1,f2,f3,f4⟩:=MY (lo:=lo) s C (by omega) I g (v:=.au []) (agS _);rw[f1];rw[alg]at b;exact⟨c,H2,A,rfl,b.oP f4 id l s,f2,f3⟩
def bL(c:Call)(rv:AV):lA:=[.int .i64 c.aa]++(bf c.c++([.bool c.checked,rv]++(ay c.run++[.int .i64 c.eW])))
theorem ayc(c:Call)(rv:AV):bL c rv=[.int .i64 c.aa,.int .u8 c.c.op,.int .u32 c.c.r,.int .u32 c.c.s,.int .u32 c.c.a,.int .u32 c.c.b,.int .u64 c.c.v,.bool c.checked,rv,.int .i64 c.run.1,.int .i64 c.run.2,.int .i64 c.eW]:=rfl
structure fG(c:Call):Prop where
 aa:c.aa<4294967296
 iA:jM c.c
 aT: ∀h∈c.aT,h<4294967296
 run:c.run.1<65536/\c.run.2<65536
 eW:c.eW<65536
structure jP(x:Core):Prop where
 S:bm x.S
 P:fI x.P
 M: ∀i,hU (x.M i)
 Q: ∀k∈x.Q,k<2147483648
 Ql:x.Q.length<8589934592
def ali{m:Nat}{x:Core}{H:List ae}(b:dv m p q x qv H)(l:jP x)(c:Call)(n:fG c)(rv:AV)(r:rv.refs=0)(lo:oN):
  ∃k,D XC (.fn (.func IE) [] []) [.ptr p 0,.agg (bL c rv)] ⟨H,lo⟩=some k/\Wd m p q H lo (vu x c) qv (.au []) k:=by
 refine cz Rz λN d=>?_
 have f:p<N:=by rw[<-d];exact b.lt
 have z:=n.run;obtain⟨k,g1,a,W,ak,rfl,g2,o,y⟩:=We (b.app [.box (bL c rv) none]) c.run ⟨by omega,by omega⟩ (by have:=l.Ql;omega) none;have h:Den.part true 2 (bL c rv) 9=some (.agg (ay c.run)):=rfl;have i: (bL c rv)[0]?=some (.int .i64 c.aa):=rfl;have j:N∉[p,q]:=by have:=b.qp;simp;omega
 have wn:W[N]?=some (.box (bL c rv) none):=o.own j (by rw[dh d];rfl);have t:=λH lo=>c0 (axF x.M l.M c.aa n.aa H lo)
 have w: (cU x c.run).M=x.M:=rfl;have g:=λm=>dV m
 simp only[go_sem,simprocAttr,Rz,d,↓h,g1,g2.box,wn,i,↓KL,KS,w,t,g,jO];have u:=o.trans (g2.fp (.box (cw {cU x c.run with M:=rp x.M c.aa} q a) none));have s:eu (a=qv) p (H++[.box (bL c rv) none]) (W.set p (.box (cw {cU x c.run with M:=rp x.M c.aa} q a) none)) none ak:=y.elim (λq=>.inl ⟨q.1,by rw[ag7];exact q.2.1,q.2.2⟩) .inr;obtain⟨H2,e,f1,f2,f3,f4⟩:=MY (lo:=lo) d f (by have:=b.mp;omega) u s (v:=.au []) (agS _);rw[f1];exact⟨a,H2,e,rfl,(g2.ale _).oP f4 id b d,f2,f3⟩
def ayd{m:Nat}{x:Core}{H:List ae}(c:dv m p q x qv H)(t:jP x)(lo:oN):
  ∃y,D XC (.fn (.func PQ) [] []) [.ptr p 0] ⟨H,lo⟩=some y/\Wd m p q H lo (iQ x).1 qv (.bool (iQ x).2) y:=by
 have ho:Old p H (.box (cw x q qv) none):=⟨c.box⟩;refine cz KP λN r=>?_
 have h:p<N:=by rw[<-r];exact c.lt
 have b:=(c.iz.rd (lo:=none)).bK;unfold iQ;have E:Fq m [p,q] (H++[]) H:=by rw[aip];exact Fq.refl
 cases n:x.Q with
 |nil=>
  rw[n]at b;simp(disch:=omega) only[F1,go_sem,simprocAttr,KP,c.box,↓KL,b];exact⟨qv,H,lo,rfl,c,Fq.refl,eu.same rfl⟩
 |cons a l=>
  have d:=c.iz;rw[n]at b d;rw[anw]at d;have G: ¬((l.length:Nat):Int)+1=0:=by omega
  have k:jU 1 qv (.int .i64 0)=some (fu qv 0 0):=by
   rw[(d.rd (lo:=none)).addr,afl ⟨by omega,by simp⟩];rfl
  have i:cg XC ⟨H,none⟩ false 1 (fu qv 0 0)=some (.int .i64 a):=(d.rd (lo:=none)).load (by simp);obtain⟨w,s1,s2,B,A,z⟩:=cW.tail (bytes:=8) d;have F:=λlo=>c0 (axY t.P c.hY lo (t.Q a (by rw[n];simp)))
  have j: (FP.rd p 952 1).ok (uF 1 (fu qv 0 0))=true:=by
   rcases d.2 with⟨_,e⟩| ⟨_,_,_,_,_,rfl,_⟩
   ·cases e
   ·rfl
  have s: ∀o,(H.set q o)[p]?=some (.box (cw x q qv) none):=λo=>(aex (by have:=c.qp;omega)).trans c.box
  have C:p+1<w.refs:=by
   rw[z];rcases d.2 with⟨_,e⟩| ⟨id,_,_,_,J,rfl,_⟩
   ·cases e
   ·simp only[AV.refs];omega
  have f: ¬w.refs<=p+1:=by omega
  simp only[go_sem,simprocAttr,KP,r,c.box,↓KL,b,G,k,i,F,j,s,s1,B,A,KS,f];have u:=(c.fq (.box (ca (ru x.P a)) none)).trans ((c.GA (ru x.P a)).fp (.box (cw x q w) none));have hm:=c.mp;obtain⟨I,g,f1,f2,f3,f4⟩:=MY (m:=m) (N:=N) (lo:=lo) (Q:=False) (L:=[]) r h (by omega) (by rw[aip];exact u) (.inr ⟨p,agW _,rfl⟩) (v:=.bool true) (agS _);rw[f1];have f5:I=(H.set q (.box (ca (ru x.P a)) none)).set p (.box (cw x q w) none):=f4.elim id λe=>e.2.elim
  rw[f5];refine⟨w,_,g,rfl,⟨c.mp,c.mq,c.qp,cN (s _),(aex (by have:=c.qp;omega)).trans (cN c.hY),?_⟩,u,?_⟩
  ·exact(s2.set c.hY _).set (s _) _
  ·rw[f5]at f3;exact f3.elim (λe=>e.2.2.elim) .inr
def dC(st:bT)(p:Nat)(rv:AV):lA:=[.ptr p 0]++(bL st.c rv++(bF st.r++[.bool st.ended]))
section
variable{st:bT}{p:Nat}{rv:AV}
theorem Wg: (dC st p rv).length=17:=rfl
theorem alj: (dC st p rv)[0]?=some (.ptr p 0):=rfl
theorem alk: (dC st p rv)[1]?=some (.int .i64 st.c.aa):=rfl
theorem alm: (dC st p rv)[8]?=some (.bool st.c.checked):=rfl
theorem aln: (dC st p rv)[9]?=some rv:=rfl
theorem alo: (dC st p rv)[10]?=some (.int .i64 st.c.run.1):=rfl
theorem alp: (dC st p rv)[11]?=some (.int .i64 st.c.run.2):=rfl
theorem alq: (dC st p rv)[12]?=some (.int .i64 st.c.eW):=rfl
theorem alr: (dC st p rv)[16]?=some (.bool st.ended):=rfl
theorem Wh:Den.part true 12 (dC st p rv) 1=some (.agg (bL st.c rv)):=rfl
theorem als:Den.part true 6 (dC st p rv) 2=some (.agg (bf st.c.c)):=rfl
theorem alu:Den.part true 2 (dC st p rv) 10=some (.agg (ay st.c.run)):=rfl
theorem alv:Den.part true 3 (dC st p rv) 13=some (.agg (bF st.r)):=rfl
theorem alw{b:Bool}:aH (dC st p rv) 8 [.bool b]=dC {st with c:={st.c with checked:=b}} p rv:=rfl
theorem alx:aH (dC st p rv) 9 [v]=dC st p v:=rfl
theorem aly{r:aE}:aH (dC st p rv) 10 (ay r)=dC {st with c:={st.c with run:=r}} p rv:=rfl
theorem alz{n:Nat}:aH (dC st p rv) 12 [.int .i64 n]=dC {st with c:={st.c with eW:=n}} p rv:=rfl
theorem alA:aH (dC st p rv) 13 (bF r)=dC {st with r:=r} p rv:=rfl
theorem alB{b:Bool}:aH (dC st p rv) 16 [.bool b]=dC {st with ended:=b} p rv:=rfl
def Wi(c:Call)(h:rv.refs=0):aG (bL c rv)=0:=by rw[ayc];simp[aG,AV.refs,h]
def PL:=gG @alj<|gG @alk<|gG @alm<|gG @aln<|gG @alo<|gG @alp<|gG @alq<|gG @alr<|gG @Wh<|gG @als<|gG @alu @alv
def PS:=gG @alw<|gG @alx<|gG @aly<|gG @alz<|gG @alA<|gG @alB @Wg
end
structure cR(m p q s:Nat)(st:bT)(qv rv:AV)(H:List ae):Prop where
 co:dv m p q st.x qv H
 ps:p<s
 box:H[s]?=some (.box (dC st p rv) none)
 aT:Rv rv 1 (st.c.aT.map hC)
section
variable{m p q s:Nat}{st:bT}{qv rv:AV}{H:List ae}
theorem cR.lt(h:cR m p q s st qv rv H):s<H.length:=fh h.box
theorem cR.rz(h:cR m p q s st qv rv H):rv.refs=0:=cM h.aT (bA (λ_=>rfl) _)
theorem cR.app(h:cR m p q s st qv rv H)(L:List ae):cR m p q s st qv rv (H++L):=⟨h.co.app L,h.ps,bh h.box,h.aT⟩
theorem cR.set(h:cR m p q s st qv rv H){mS:bT}{nH:AV}(a:mS.x=st.x)(b:Rv nH 1 (mS.c.aT.map hC)):cR m p q s mS qv nH (H.set s (.box (dC mS p nH) none)):=
 ⟨a ▸ h.co.set h.box (by have:=h.ps;omega) (by have:=h.ps;have:=h.co.qp;omega) _,h.ps,cN h.box,b⟩
theorem cR.fs(h:cR m p q s st qv rv H)(o:ae):Fq m [p,q,s] H (H.set s o):=Fq.set (by simp) (by have:=h.ps;have:=h.co.mp;omega) o
def cR.sn(h:cR m p q s st qv rv H):s∉[p,q]:=by have:=h.ps;have:=h.co.qp;grind
theorem cR.az{W:List ae}{b:Core}{a:AV}(h:cR m p q s st qv rv H)(d:dv m p q b a W)(c:Fq m [p,q] H W):cR m p q s {st with x:=b} a rv W:=
 ⟨d,h.ps,c.own h.sn h.box,h.aT⟩
theorem Fq.m3{H W:List ae}(h:Fq m [p,q] H W):Fq m [p,q,s] H W:=h.mono (by simp)
theorem cR.oP{W d:List ae}{N:Nat}{a c:AV}{b:bT}(h:cR m p q s st qv rv W)(e:d=W\/ (d=W.take N/\Q))(i:Q->qv=a)(g:cR m p q s b a c H0)(f:H0.length=N):cR m p q s st qv rv d:=
 ⟨h.co.oP e i g.co f,h.ps,MZ e (by rw[<-f];exact g.lt) h.box,h.aT⟩
end
def dL(m p q s:Nat)(H:List ae)(lo:oN)(mS:bT)(qv:AV)(r:AV)(b:aS):Prop:=
 ∃a nH H' ak,b= .ret r ⟨H',ak⟩/\cR m p q s mS a nH H'/\Fq m [p,q,s] H H'/\eu (a=qv) p H H' lo ak
structure qi(st:bT):Prop where
 x:jP st.x
 c:fG st.c
def dL.fin{m s N:Nat}{d st:bT}{a e:AV}{H L W:List ae}{b:oN}(c:cR m p q s d a e H)(g:H.length=N)(h:cR m p q s st qv rv W)(k:Fq m [p,q,s] (H++L) W)(j:eu (qv=a) p (H++L) W none b)(i:v.refs<=N):
  dL m p q s H lo st a v (.ret (finish N lo v ⟨W,b⟩).1 (finish N lo v ⟨W,b⟩).2):=by
 have r:=c.lt;have o:=c.ps;have n:=c.co.mp;obtain⟨l,f,f1,f2,f3,f4⟩:=MY (m:=m) (N:=N) (lo:=lo) g (by omega) (by omega) k j i;rw[f1];exact⟨qv,rv,l,f,rfl,h.oP f4 id c g,f2,f3⟩
def Wj{m s:Nat}{st:bT}{H:List ae}(a:cR m p q s st qv rv H)(e:qi st)(r:bE)(lo:oN):
  ∃d,D XC (.fn (.func yB) [] []) [.ptr s 0,.agg (bF r)] ⟨H,lo⟩=some d/\dL m p q s H lo (ry st r) qv (.au []) d:=by
 refine cz R8 λN g=>?_
 have h:=(a.app [.box (bF r) none]).set (mS:={st with r:=r,ended:=true}) (nH:=rv) rfl a.aT;have k:=(a.app [.box (bF r) none]).fs (.box (dC {st with r:=r,ended:=true} p rv) none);obtain⟨d,g1,b,W,ak,rfl,g2,i,l⟩:=ali h.co e.x st.c e.c rv a.rz none;have f:=λL=>bh (L:=L) a.box
 have c:=λL o=>cN (o:=o) (f L)
 simp only[go_sem,simprocAttr,R8,g,f,PL,PS,xJ,s9,rK,c,anc,↓Wh,g1];have j:eu (b=qv) p (H++[.box (bF r) none]) W none ak:=l.elim (λq=>.inl ⟨q.1,by grind,q.2.2⟩) .inr;exact dL.fin a g (h.az g2 i) (k.trans i.m3) j (agS _)
def fI.alC{p:cO}(h:fI p)(n:Nat):fI (jk p n).1:=by
 unfold jk;split
 ·exact h
 split
 ·exact h
 ·rename_i x b;cases a:rq p.free (x.1,n)with
  |none=>exact h
  |some l=>exact⟨h.n,h.free.take a,h.bytes⟩
def fI.clear{p:cO}(h:fI p)(i:Nat):fI (rr p i):=by
 unfold rr;split
 ·refine⟨h.n,h.free,λa b=>?_⟩;show ar p.bytes i (λ_=>0) a b<256;unfold ar;split
  ·simp
  ·exact h.bytes a b
 omega
def fI.back{p:cO}(h:fI p)(i:Nat):fI (ru p i):=by
 unfold ru;split
 ·unfold L4;cases a:iq p.free (i,1)with
  |none=>exact h
  |some l=>exact⟨h.n,h.free.iq a,h.bytes⟩
 omega
def fI.write{p:cO}(h:fI p)(i b:Nat)(d:b<256):fI (vt p i b):=by
 unfold vt;split
 ·refine⟨h.n,h.free,λa c=>?_⟩;show ar p.bytes (i/32) (ar (p.bytes (i/32)) (i % 32) b) a c<256;unfold ar;split
  ·show(if c=i % 32 then b else p.bytes (i/32) c)<256;split
   ·omega
   ·exact h.bytes _ _
  ·exact h.bytes a c
 omega
def aye{p:cO}(h:fI p)(n:Nat)(c:n<=64)(b: (jk p n).2.2=0): (jk p n).2.1+n<=64:=by
 unfold jk at b⊢;split
 ·grind
 ·rename_i e;split
  ·grind
  ·rename_i x a;have d:=h.free.bd x (arQ a)
   grind
def alD{h:Nat}{r:dc}(e:nj x h r= .ok y):y.mL=x.mL:=by
 unfold nj at e;cases a:bc (fC x.s.T h r).2 with
 |error _=>rw[a]at e;cases e
 |ok _=>rw[a]at e;cases e;rfl
def bo{β:Type}{m:R α}{f:α->R β}{b:β}(h: (m>>=f)= .ok b): ∃a,m= .ok a/\f a= .ok b:=by
 cases m with
 |error e=>cases h
 |ok a=>exact⟨a,rfl,h⟩
def ayf(e:x.mL=0)(h:jH x= .ok (y,r)):y.mL<=4:=by
 unfold jH at h;dsimp only at h;cases b:pY (min x.c.a 129) (min x.c.b 9)with
 |none=>rw[b]at h;cases h
 |some n=>
  have c:n<=4:=by
   unfold pY at b;split at b
   ·rename_i ho;have:min x.c.a 129<=128:=by unfold isObj at ho;simp at ho;omega
    cases b;omega
   ·cases b
  rw[b]at h;obtain⟨a,e1,h⟩:=bo h;cases e1;obtain⟨_,_,h⟩:=bo h;obtain⟨_,_,h⟩:=bo h;split at h
  ·obtain⟨z,d,h⟩:=bo h;cases h;rw[alD d,e];omega
  ·obtain⟨_,_,h⟩:=bo h;split at h
   ·cases h;exact c
   ·obtain⟨_,_,h⟩:=bo h;obtain⟨z,d,h⟩:=bo h;cases h;rw[alD d];exact c
def alE(s:bG)(aa:Nat)(c:cp):eV s aa c<=4:=by
 unfold eV;split
 ·omega
 ·split
  ·rename_i y r e;obtain⟨_,_,e⟩:=bo (show(ask _ _>>=λ_=>ki _)=_ from e);unfold ki at e;have:c.op=2:=by omega
   simp only[this]at e;exact ayf rfl e
  ·omega
theorem dL.same{m s:Nat}{st:bT}{H:List ae}{r:AV}(h:cR m p q s st qv rv H):dL m p q s H lo st qv r (.ret r ⟨H,lo⟩):=⟨qv,rv,H,lo,rfl,h,Fq.refl,eu.same rfl⟩
theorem dL.one{m s:Nat}{st mS:bT}{nH:AV}{H W:List ae}{r:AV}(h:cR m p q s st qv rv H)(c:cR m p q s mS qv nH W)(b:Fq m [p,q,s] H W)(a:W.length=H.length):dL m p q s H lo mS qv r (.ret r ⟨W,lo⟩):=⟨qv,nH,W,lo,rfl,c,b,.inl ⟨rfl,a,rfl⟩⟩
theorem dL.GB{m s N:Nat}{c st:bT}{a d:AV}{H W:List ae}{b:oN}(g:cR m p q s c a d H)(f:H.length=N)(h:cR m p q s st qv rv W)(j:Fq m [p,q,s] H W)(i:eu (qv=a) p H W none b)(e:v.refs<=N):
 dL m p q s H lo st a v (.ret (finish N lo v ⟨W,b⟩).1 (finish N lo v ⟨W,b⟩).2):=dL.fin (L:=[]) g f h (by grind) (by grind) e
theorem alF{m s:Nat}{st:bT}{H:List ae}(ha:cR m p q s st qv rv H)(hx:qi st)(e:Nat)(lo:oN):
 ∃a,D XC (.fn (.func yB) [] []) [.ptr s 0,.agg [.int .i64 e,.int .u64 0,.int .u32 0]] ⟨H,lo⟩=some a/\dL m p q s H lo (ry st {bX with e:=e}) qv (.au []) a:=Wj ha hx {bX with e:=e} lo
section
variable(hD: ∀op,l8 op){m p q s:Nat}{st:bT}{qv rv:AV}{H:List ae}(ha:cR m p q s st qv rv H)(hx:qi st)(lo:oN)
include hD ha hx
theorem ayg: ∃f,D XC (.fn (.func A6) [] []) [.ptr s 0] ⟨H,lo⟩=some f/\dL m p q s H lo (oB st).1 qv (.bool (oB st).2) f:=by
 refine cz BQ λN b=>?_
 have k:s<N:=by rw[<-b];exact ha.lt
 have hw:=ak3 st.x.S hx.x.S st.c.aa hx.c.aa st.c.c hx.c.iA (hD _);have g:=ak2 st.x.S hx.x.S st.c.aa hx.c.aa st.c.c hx.c.iA (hD _);unfold oB;cases d:st.c.checked with
 |true=>
  simp(disch:=omega) only[F1,go_sem,simprocAttr,BQ,ha.box,PL,d];exact dL.same ha
 |false=>
  cases i:B8 st.x.S st.c.aa st.c.c with
  |true=>
   rw[i]at hw;simp only[F1,go_sem,simprocAttr,BQ,b,ha.box,ha.co.box,PL,↓PL,KL,↓KL,d,hw];exact dL.same ha
  |false=>
   rw[i]at hw;by_cases h:oz st.x.S st.c.aa st.c.c=0
   ·have a: ((oz st.x.S st.c.aa st.c.c:Nat):Int)=0:=by omega
    obtain⟨v,d1,d2⟩:=aya hx.x.S hx.c.iA H none;obtain⟨t1,t2⟩:=oM (d2 ⟨[],none⟩);have t3:=cM d2 (bA (λ_=>rfl) _);have e:=λo=>cN (o:=o) ha.box
    simp only[go_sem,simprocAttr,BQ,b,ha.box,ha.co.box,PL,↓PL,KL,↓KL,PS,d,hw,g,a,d1,t1,t2,t3,e,anc];rw[afi (λq=>q h)];exact dL.GB (v:=.bool true) ha b (ha.set (mS:={st with c:={st.c with checked:=true,aT:=sR st.x.S st.c.c}}) rfl d2) (ha.fs _) (.inl ⟨rfl,by simp,rfl⟩) (agS _)
   ·have a: ¬((oz st.x.S st.c.aa st.c.c:Nat):Int)=0:=by omega
    obtain⟨f,g1,j,nH,W,ak,rfl,g2,n,l⟩:=alF ha hx (oz st.x.S st.c.aa st.c.c) none;simp only[go_sem,simprocAttr,BQ,b,ha.box,ha.co.box,PL,↓PL,KL,↓KL,d,hw,g,a,g1];rw[afl h];exact dL.GB ha b g2 n l (agS _)
omit hD in
theorem ayh: ∃R,D XC (.fn (.func A7) [] []) [.ptr s 0] ⟨H,lo⟩=some R/\dL m p q s H lo (oC st).1 qv (.bool (oC st).2) R:=by
 have ho:Old s H (.box (dC st p rv) none):=⟨ha.box⟩;refine cz Ft λN n=>?_
 have T:s<N:=by rw[<-n];exact ha.lt
 have U:p<N:=by have:=ha.ps;omega
 have a:=ha.aT.bK (E:=⟨H,none⟩);unfold oC;cases G:st.c.aT with
 |nil=>
  rw[G]at a;simp(disch:=omega) only[F1,go_sem,simprocAttr,Ft,n,ha.box,PL,a];exact dL.same ha
 |cons h t=>
  have f:=ha.aT;rw[G]at a f;have Q: ¬((t.length:Nat):Int)+1=0:=by omega
  have A:jU 1 rv (.int .i64 0)=some (fu rv 0 0):=by
   rw[f.ck,afl ⟨by omega,by simp⟩];rfl
  have y: ∀E,cg XC E false 1 (fu rv 0 0)=some (.int .u32 h):=λE=>f.cE (by simp)
  have e:=λH lo=>c0 (jJ h (hx.c.aT h (by rw[G];simp)) H lo)
  have F: ((eB h).getD 0)=aM h:=rfl;unfold iu at e;rw[F]at e;have d:=λH lo=>c0 (axx st.x.M hx.x.M (aM h) st.c.aa hx.c.aa H lo)
  have B:qN.length=320:=by decide
  have r:List.drop 320 qN=[]:=akU (by rw[B];omega);have u: ∀m:Marks,List.take 320 (cI m)=cI m:=λm=>agQ (by rw[dV];omega)
  have K:=λL=>bh (L:=L) ha.box
  have z:=λL=>bh (L:=L) ha.co.box
  have v:=λm=>dV m
  obtain⟨c,C⟩: ∃c,rv= .sl ((h::t).map hC) c:=by
   obtain⟨S,l,V⟩:=f ⟨[],none⟩;cases rv<;>simp only[]at S
   ·simp[Den.elems]at l
   ·rename_i af c;simp only[Den.elems]at l;split at l
    ·cases l;exact⟨c,rfl⟩
    ·cases l
   ·simp[Den.elems]at l
  obtain⟨w,s1,s2⟩:=akS (sz:=1) (af:=(h::t).map hC) (c:=c) (i:=1) (by intro el J;obtain⟨x,_,rfl⟩:=ag2.1 J;rfl) (by simp);rw[<-C]at s1;have s1:fW 1 rv (some (.int .i64 1)) none none=some w:=s1;obtain⟨t1,t2⟩:=oM (s2 ⟨[],none⟩);have t3:=cM s2 (bA (g:=hC) (λ_=>rfl) t);have I: ∀L o,((H++L).set p o)[s]?=some (.box (dC st p rv) none):=λL o=>(aex (by have:=ha.ps;omega)).trans (K L)
  obtain⟨j,k⟩: ∃j,j=(iO st.x.M (aM h) st.c.aa).1:=⟨_,rfl⟩;have O:=(ha.app [.box (cI j) none]).az ((ha.app [.box (cI j) none]).co.ale j) ((ha.app [.box (cI j) none]).co.fp _);have P:=(ha.app [.box (cI j) none]).co.fp (.box (cw {st.x with M:=j} q qv) none);rw[<-k]at d;cases b: (iO st.x.M (aM h) st.c.aa).2 with
  |true=>
   rw[b]at d;simp(disch:=omega) only[go_sem,simprocAttr,Ft,n,ha.box,K,z,I,PL,↓PL,PS,KL,↓KL,KS,a,Q,A,y,e,d,B,r,u,v,jO,s1,t1,t2,t3];rw[afl b,<-k];exact dL.fin ha n (O.set (mS:={st with x:={st.x with M:=j},c:={st.c with aT:=t}}) rfl s2) (P.m3.trans (O.fs _)) (.inl ⟨rfl,by simp,rfl⟩) (agS _)
  |false=>
   rw[b]at d;simp(disch:=omega) only[go_sem,simprocAttr,Ft,n,ha.box,K,z,PL,↓PL,KL,↓KL,KS,a,Q,A,y,e,d,B,r,u,v,jO];rw[afi (by rw[b];simp),<-k];exact dL.fin ha n O P.m3 (.inl ⟨rfl,by simp,rfl⟩) (agS _)
theorem ayi: ∃l,D XC (.fn (.func A8) [] []) [.ptr s 0] ⟨H,lo⟩=some l/\dL m p q s H lo (oD st).1 qv (.bool (oD st).2) l:=by
 have ho:Old s H (.box (dC st p rv) none):=⟨ha.box⟩;refine cz BR λN f=>?_
 have i:=λH lo=>cB (V0 st.x.S hx.x.S st.c.aa hx.c.aa st.c.c hx.c.iA (hD _) H lo)
 have v:=alE st.x.S st.c.aa st.c.c;unfold oD;dsimp only;by_cases y:eV st.x.S st.c.aa st.c.c=0
 ·have a:decide (((eV st.x.S st.c.aa st.c.c:Nat):Int)=0)=true:=agR (by omega);rw[afl (.inl y)];simp only[F1,go_sem,simprocAttr,BR,f,ha.box,ha.co.box,PL,↓PL,KL,↓KL,i,a];exact dL.same ha
 ·have a:decide (((eV st.x.S st.c.aa st.c.c:Nat):Int)=0)=false:=afv (by omega);by_cases w:0<st.c.run.2
  ·have b: ((st.c.run.2:Nat):Int)>0:=by omega
   rw[afl (.inr w)];simp only[F1,go_sem,simprocAttr,BR,f,ha.box,ha.co.box,PL,↓PL,KL,↓KL,i,a,b];exact dL.same ha
  ·have b: ¬((st.c.run.2:Nat):Int)>0:=by omega
   rw[afi (by omega)];have h:=λlo=>ax1 hx.x.P ha.co.hY lo (n:=eV st.x.S st.c.aa st.c.c) (by omega)
   have j:=ha.az (ha.co.GA (jk st.x.P (eV st.x.S st.c.aa st.c.c)).1) (ha.co.fq _);have o:=ha.co.fq (.box (ca (jk st.x.P (eV st.x.S st.c.aa st.c.c)).1) none);have k:qi {st with x:={st.x with P:=(jk st.x.P (eV st.x.S st.c.aa st.c.c)).1}}:=⟨⟨hx.x.S,hx.x.P.alC _,hx.x.M,hx.x.Q,hx.x.Ql⟩,hx.c⟩;generalize u:jk st.x.P (eV st.x.S st.c.aa st.c.c)=d at*;by_cases r:d.2.2=0
   ·have e:decide (((d.2.2:Nat):Int)=0)=true:=agR (by omega);rw[afi (λq=>q r)];have g: [AV.int .i64 (d.2.1:Nat),.int .i64 ((eV st.x.S st.c.aa st.c.c:Nat))]=ay (d.2.1,eV st.x.S st.c.aa st.c.c):=rfl;simp only[go_sem,simprocAttr,BR,f,ha.box,ha.co.box,PL,↓PL,KL,↓KL,i,a,b,h,e,j.box,g,PS];exact dL.GB ha f (j.set (mS:={st with x:={st.x with P:=d.1},c:={st.c with run:=(d.2.1,eV st.x.S st.c.aa st.c.c)}}) rfl ha.aT) (o.m3.trans (j.fs _)) (.inl ⟨rfl,by simp,rfl⟩) (agS _)
   ·have e:decide (((d.2.2:Nat):Int)=0)=false:=afv (by omega);rw[afl r];obtain⟨l,g1,t,nH,W,ak,rfl,g2,A,z⟩:=alF j k d.2.2 none;simp only[go_sem,simprocAttr,BR,f,ha.box,ha.co.box,PL,↓PL,KL,↓KL,i,a,b,h,e,g1];exact dL.GB ha f g2 (o.m3.trans A) (z.elim (λq=>.inl ⟨q.1,by rw[q.2.1,ag7],q.2.2⟩) .inr) (agS _)
omit hD in
theorem ayj: ∃h,D XC (.fn (.func A9) [] []) [.ptr s 0] ⟨H,lo⟩=some h/\dL m p q s H lo (oE st).1 qv (.bool (oE st).2) h:=by
 have ho:Old s H (.box (dC st p rv) none):=⟨ha.box⟩;refine cz K6 λN e=>?_
 have j:=hx.c.run;have k:=hx.c.eW;unfold oE;by_cases g:st.c.run.2<=st.c.eW
 ·have a: ((st.c.eW:Nat):Int)>=st.c.run.2:=by omega
  rw[afl g];simp(disch:=omega) only[F1,go_sem,simprocAttr,K6,e,ha.box,PL,a];exact dL.same ha
 ·have a: ¬((st.c.eW:Nat):Int)>=st.c.run.2:=by omega
  rw[afi g];have d: ∀lo,D XC (.fn (.func IQ) [] []) [.ptr q 0,.int .i64 ((st.c.run.1:Int)+st.c.eW)] ⟨H,lo⟩=_:=λlo=>c0 (axW hx.x.P ha.co.hY lo (i:=st.c.run.1+st.c.eW) (by omega))
  have f:=ha.az (ha.co.GA (rr st.x.P (st.c.run.1+st.c.eW))) (ha.co.fq _);have l:=ha.co.fq (.box (ca (rr st.x.P (st.c.run.1+st.c.eW))) none);have b: ∀x,aH (dC {st with x:=x} p rv) 12 [.int .i64 ((st.c.eW:Int)+1)]=dC {st with x:=x,c:={st.c with eW:=st.c.eW+1}} p rv:=λ_=>rfl
  simp(disch:=omega) only[go_sem,simprocAttr,K6,e,ha.box,ha.co.box,PL,KL,a,d,f.box,b,Wg];exact dL.GB ha e (f.set (mS:={st with x:={st.x with P:=rr st.x.P (st.c.run.1+st.c.eW)},c:={st.c with eW:=st.c.eW+1}}) rfl ha.aT) (l.m3.trans (f.fs _)) (.inl ⟨rfl,by simp,rfl⟩) (agS _)
end
theorem alG: ∀ (l:List aE) (b x k:Nat),(∀r∈l,r.1+r.2<=64)->kh l b x=some k->k<=2048+x
 | [],_,_,_,_,h=>by cases h
 |r::rs,b,x,k,a,h=>by
  rw[aiV]at h;split at h
  ·grind
  ·exact alG rs _ x k (λz c=>a z (by grind)) h
def alH{s:bG}(d:bm s)(c:cp): (iM s c).1.length<=8/\ ∀k∈(iM s c).1,k<65536:=by
 unfold iM;split
 ·simp
 split
 ·simp
 split
 ·simp
 ·rename_i m l j;refine⟨by simp;omega,λk f=>?_⟩;obtain⟨i,h,rfl⟩:=ag2.1 f;have g:=aqP.1 h;have b:=d.T.get c.r;have a:=b.len;cases he:kh (aK s.T c.r).1.runs 0 (c.a+i)with
  |none=>simp
  |some v=>
   have:=alG _ _ _ _ (λr e=>(b.runs r e).2) he;simp;omega
def ayk(v i:Nat)(a:i<8):kW .shr (.int .u64 v) (.int .i64 (8*(i:Int)))=some (.int .u64 ((v/2^(8*i):Nat))):=by
 rw[DF,afl (by omega)];have b:min (8*(i:Int)).toNat IntKind.u64.bits=8*i:=by
  have:IntKind.u64.bits=64:=rfl;omega
 grind
def alI(b i:Nat)(f:b<256)(e:i<8):kW .shl (.int .u64 b) (.int .i64 (8*(i:Int)))=some (.int .u64 ((b*2^(8*i):Nat)))/\b*2^(8*i)<18446744073709551616:=by
 have a:b*2^(8*i)<18446744073709551616:=by
  rcases(show i=0\/i=1\/i=2\/i=3\/i=4\/i=5\/i=6\/i=7 by omega)with q|q|q|q|q|q|q|q<;>subst q<;>simp<;>omega
 refine⟨?_,a⟩;rw[AF,afl (by omega)];have d:min (8*(i:Int)).toNat IntKind.u64.bits=8*i:=by
  have:IntKind.u64.bits=64:=rfl;omega
 rw[d];have c: ((2:Int)^(8*i))=((2^(8*i):Nat):Int):=by rfl
 rw[c,<-Int.natCast_mul,wrap_u64 (by omega) (by omega)]
def alJ(a b:Nat)(d:a<18446744073709551616)(c:b<18446744073709551616):dg .or (.int .u64 a) (.int .u64 b)=some (.int .u64 ((a|||b:Nat)))/\a|||b<18446744073709551616:=by
 have f:a|||b<2^64:=Nat.or_lt_two_pow d c;refine⟨?_,f⟩;rw[HU];have e: ∀n:Nat,n<18446744073709551616->(BitVec.ofInt IntKind.u64.bits (n:Int)).toNat=n:=by
  have:IntKind.u64.bits=64:=rfl
  grind
 rw[BitVec.toNat_or,e a d,e b c,wrap_u64 (by omega) (by omega)]
theorem ayl(v i:Nat):IntKind.wrap .u8 ((v/2^(8*i):Nat):Int)=(byteOf v i:Nat):=akK _
def ub(P:cO)(pl:lN)(v k:Nat):cO:=(List.range k).foldl (λP i=>vt P (pl.getD i 0) (byteOf v i)) P
def alK(P:cO)(pl:lN)(v k:Nat):ub P pl v (k+1)=vt (ub P pl v k) (pl.getD k 0) (byteOf v k):=by
 unfold ub;rw[aqZ,aoH];rfl
def qj(P:cO)(pl:lN)(v k:Nat):Nat:=(List.range k).foldl (λv i=>v|||sS P (pl.getD i 0)*2^(8*i)) v
def alL(P:cO)(pl:lN)(v k:Nat):qj P pl v (k+1)=qj P pl v k|||sS P (pl.getD k 0)*2^(8*k):=by
 unfold qj;rw[aqZ,aoH];rfl
theorem Wk{P:cO}(h:fI P)(pl:lN)(v:Nat): ∀k,fI (ub P pl v k)
 |0=>h
 |k+1=>by rw[alK];exact(Wk h pl v k).write _ _ (aoG _ (by omega))
def alM{P:cO}(h:fI P)(i:Nat):sS P i<256:=by
 unfold sS;split
 ·exact h.bytes _ _
 ·omega
theorem Wl{P:cO}(h:fI P)(pl:lN)(v:Nat)(a:v<18446744073709551616): ∀k,k<=8->qj P pl v k<18446744073709551616
 |0,_=>a
 |k+1,b=>by
  rw[alL];exact(alJ _ _ (Wl h pl v a k (by omega)) (alI _ _ (alM h _) (by omega)).2).2
def alN{pl:lN}(d:Rv pv 1 (pl.map iV))(v:pl.length<=8){f:Fn}{cs:lA}(m:AV)(F:Nat->List ae)(t: ∀k,(F k).length=(F 0).length)
  (p: ∀k,k<pl.length->D XC (.fn f [] cs) [.int .i64 (pl.getD k 0:Nat),.int .i64 k] ⟨F k,none⟩=some (.ret (.au []) ⟨F (k+1),none⟩)) (lo:oN):
  D XC (.fn (.func IT) [] []) [m,pv,.fn f [] cs] ⟨F 0,lo⟩=some (.ret (.au []) ⟨F pl.length,lo⟩):=by
 refine aF Sa λN r=>?_
 simp only[go_sem,simprocAttr,Sa,d.bK];refine dU pl.length (λk e H'=>H'=F k/\e 2= .fn f [] cs/\e 8=pv/\e 9= .int .i64 pl.length/\e 10= .int .i64 k) 0 (by omega) ?_ ?_
 ·simp only[go_sem,simprocAttr]
 rintro k w e H' ⟨rfl,s,l,j,b⟩ n u;simp only[bR,F1,go_sem,simprocAttr,agh,l,j,b];refine⟨λo=>?_,λo=>?_⟩
 ·have a:k<pl.length:=by omega
  have i: ∀y,(iV y)[0]?=some (.int .i64 y):=λ_=>rfl
  have g:pl.getD k default=pl.getD k 0:=rfl;have h:=p k a;simp(disch:=omega) only[go_sem,simprocAttr,s,l,j,b,d.ck,d.cE,i,g,h];exact⟨by omega,a⟩
 ·obtain rfl:k=pl.length:=by omega
  have q: (F pl.length).length=N:=by rw[t,r]
  have c: (F pl.length).take N=F pl.length:=agQ (by omega);simp only[go_sem,simprocAttr,c]
def aym{m s:Nat}{st:bT}{W:List ae}(f:cR m p q s st qv rv W)(k:fI st.x.P){n g:Nat}(t:W[n]?=some (.box [.ptr s 0] none))(r:W[g]?=some (.box (bf c) none))(at' i:Nat)(j:at'<65536)(h:i<8)(lo:oN):
  D XC (.fn (.func IU) [] [.ptr n 0,.ptr g 0]) [.int .i64 at',.int .i64 i] ⟨W,lo⟩=some (.ret (.au []) ⟨W.set q (.box (ca (vt st.x.P at' (byteOf c.v i))) none),lo⟩):=by
 refine eP Sb λN l=>?_
 have hw:=λlo=>c0 (ax0 k f.co.hY lo (at':=at') (b:=byteOf c.v i) (by omega))
 have a: ∀o,(W.set q o).take N=W.set q o:=λo=>agQ (by grind)
 have d:=ayk c.v i h;have e:=ayl c.v i;simp(disch:=omega) only[F1,go_sem,simprocAttr,Sb,l,t,r,f.box,f.co.box,PL,KL,fQ,d,e,hw,a]
def ayn{m s:Nat}{st:bT}{W:List ae}(e:cR m p q s st qv rv W)(f:fI st.x.P){n:Nat}(h:r.v<18446744073709551616)(w:W[n]?=some (.box [.ptr s 0] none))(u:W[a]?=some (.box (bF r) none))(at' i:Nat)(l:at'<65536)(j:i<8)(lo:oN):
  D XC (.fn (.func IV) [] [.ptr n 0,.ptr a 0]) [.int .i64 at',.int .i64 i] ⟨W,lo⟩=some (.ret (.au []) ⟨W.set a (.box (bF {r with v:=r.v|||sS st.x.P at'*2^(8*i)}) none),lo⟩):=by
 refine eP Sc λN t=>?_
 have hw:=λlo=>c0 (axZ f e.co.hY lo (at':=at') (by omega))
 have b: ∀o,(W.set a o).take N=W.set a o:=λo=>agQ (by grind)
 have k:=alM f at';obtain⟨s1,s2⟩:=alI (sS st.x.P at') i k j;obtain⟨g,x⟩:=alJ r.v (sS st.x.P at'*2^(8*i)) h s2;have d: (bF r)[1]?=some (.int .u64 r.v):=rfl;have c: ∀n:Nat,aH (bF r) 1 [.int .u64 n]=bF {r with v:=n}:=λ_=>rfl
 simp(disch:=omega) only[F1,go_sem,simprocAttr,Sc,t,w,u,e.box,e.co.box,PL,KL,hw,s1,g,d,c,b,s9]
def uc:PC->PC|.seq a _=>a|x=>x
def ud:PC->PC|.seq _ b=>b|x=>x
def eI(Q:Prop)(B:Nat)(lo:oN):Prop:=(lo=none/\Q)\/ ∃j,j<=B/\lo=some j
theorem eI.no{B:Nat}(h:Q):eI Q B none:=.inl ⟨rfl,h⟩
def eI.step{e d:Prop}{B:Nat}{m l:List ae}{b a:oN}(h:eI e B b)(g:eu d B m l b a)(f:e->d->Q):eI Q B a:=by
 rcases h with⟨rfl,h⟩| ⟨j,i,rfl⟩
 ·rcases g with⟨rfl,_,g⟩| ⟨k,c,rfl⟩
  ·exact .inl ⟨rfl,f h g⟩
  ·exact .inr ⟨k,c,rfl⟩
 ·rcases g with⟨rfl,_,_⟩| ⟨k,c,rfl⟩
  ·exact .inr ⟨j,i,rfl⟩
  ·exact .inr ⟨min k j,by omega,rfl⟩
theorem eI.low{B:Nat}(h:eI Q B lo):eI True B lo:=h.imp (λq=>⟨q.1,trivial⟩) id
theorem eu.n{B:Nat}{H H':List ae}(h:eu Q B H H' none lo):eI Q B lo:=(eI.no trivial).step h λ_ q=>q
def dL.alO{m s N:Nat}{f st:bT}{a g:AV}{H W:List ae}{c:oN}(e:cR m p q s f a g H)(l:H.length=N)(h:cR m p q s st qv rv W)(i:Fq m [p,q,s] H W)(o:eI (qv=a) p c)(n:v.refs<=N):
  dL m p q s H lo st a v (.ret (finish N lo v ⟨W,c⟩).1 (finish N lo v ⟨W,c⟩).2):=by
 have x:=e.lt;have w:=e.ps;have u:=e.co.mp;have t: ∃d b,finish N lo v ⟨W,c⟩=(v,⟨d,b⟩)/\Fq m [p,q,s] H d/\eu (qv=a) p H d lo b/\ (d=W\/ (d=W.take N/\qv=a)):=by
  rcases o with⟨rfl,k⟩| ⟨j,r,rfl⟩
  ·refine⟨W.take N,lo,iR (.inl rfl) n,i.take l (by omega),.inl ⟨rfl,?_,k⟩,.inr ⟨rfl,k⟩⟩;rw[aiI];have:=i.len;omega
  ·exact⟨W,cC lo j,vN (by omega),i,.inr ⟨j,r,rfl⟩,.inl rfl⟩
 obtain⟨d,b,f1,f2,f3,f4⟩:=t;rw[f1];exact⟨qv,rv,d,b,rfl,h.oP f4 id e l,f2,f3⟩
def mT(n:Nat):PC:=match n with
 |0=>oi.body
 |n+1=>ud (mT n)
def jQ(n:Nat):PC:=uc (mT n)
def Wm:PC:=mT 3
def Wn:PC:=mT 6
def Wo:PC:=mT 7
theorem ayo:oi.body= .seq (jQ 0) (.seq (jQ 1) (.seq (jQ 2) Wm)):=rfl
theorem ayp:Wm= .seq (jQ 3) (.seq (jQ 4) (.seq (jQ 5) Wn)):=rfl
theorem ayq:Wn= .seq (jQ 6) Wo:=rfl
theorem ayr:Wo= .seq (jQ 7) (.seq (jQ 8) (.seq (jQ 9) (mT 10))):=rfl
def eC(st:bT):bT:=if 0<st.c.run.2/\eV st.x.S st.c.aa st.c.c≠st.c.run.2 then{st with x:=cU st.x st.c.run,c:={st.c with run:=(0,0)}}else st
structure CmS(m p q s N M:Nat)(H:List ae)(qv0 rv:AV)(st:bT)(c:cp)(nx:bG)(r:bE)(bv:AV)(e:Env)(W:List ae)(lo:oN):Prop where
 e1:e 1= .ptr N 0
 e3:e 3= .ptr (N+1) 0
 e6:e 6= .ptr M 0
 e7:e 7= .ptr (M+1) 0
 e8:e 8=bv
 st: ∃qv,cR m p q s st qv rv W/\eI (qv=qv0) p lo
 w0:W[N]?=some (.box [.ptr s 0] none)
 w1:W[N+1]?=some (.box (bf c) none)
 w6:W[M]?=some (.box (bw nx) none)
 w7:W[M+1]?=some (.box (bF r) none)
 fr:Fq m [p,q,s] H W
 sN:s<N
 NM:N+2<=M
theorem CG: ∀ (l:List aE) (x:Core),(∀r∈l,r.2<=64)->(l.foldl cU x).Q.length<=x.Q.length+64*l.length
 | [],_,_=>by simp
 |r::l,x,h=>by
  have:=CG l (cU x r) (λz a=>h z (by grind));have b: (cU x r).Q.length=x.Q.length+r.2:=by simp[cU,iP]
  grind
theorem Wp: ∀ (l:List aE) (x:Core),(l.foldl cU x).S=x.S/\ (l.foldl cU x).P=x.P/\ (l.foldl cU x).M=x.M
 | [],_=>⟨rfl,rfl,rfl⟩
 |r::l,x=>Wp l (cU x r)
theorem Wq: ∀ (l:List aE) (x:Core),(∀r∈l,r.1<=64/\r.2<=64)->(∀k∈x.Q,k<2147483648)-> ∀k∈(l.foldl cU x).Q,k<2147483648
 | [],_,_,h=>h
 |r::l,x,h,c=>Wq l (cU x r) (λz b=>h z (by grind)) λk a=>by
  rcases agT.1 a with a|a
  ·grind
  ·obtain⟨i,d,rfl⟩:=ag2.1 a
   grind
def jP.alQ{x:Core}(a:jP x){l:List aE}(b: ∀r∈l,r.1<=64/\r.2<=64)(g:x.Q.length+64*l.length<8589934592):jP (l.foldl cU x):=by
 obtain⟨f,e,d⟩:=Wp l x;exact⟨f ▸ a.S,e ▸ a.P,d ▸ a.M,Wq l x b a.Q,by have:=CG l x (λr c=>(b r c).2);omega⟩
def Wr{m s N:Nat}{H:List ae}{g T:AV}{R st:bT}{nx:bG}{bv:AV}{back:List aE}{e:Env}{W:List ae}(h0:cR m p q s R g T H)(hN:H.length=N)
  (h:CmS m p q s N M H g rv st c nx r bv e W lo) (hb:Rv bv 2 (back.map ay)) (B:back.length<=4096/\ ∀r∈back,r.1<=64/\r.2<=64) (y:qi st) (Y:bm nx) (hQ:st.x.Q.length<4294967296) (F:oN):
  wp XC uL false Wo ⟨e,[]⟩ ⟨W,lo⟩ (dn XC N F [.t 2] (dL m p q s H F (ry {st with x:=back.foldl cU {st.x with S:=nx},c:={st.c with run:=(0,0)}} r) g (.bool true))):=by
 obtain⟨e1,e3,e6,e7,e8,⟨qv,d,f⟩,w0,w1,w6,w7,fr,sN,NM⟩:=h;have Hq:=d.ps;have Ws:=d.co.qp;have hmp:=d.co.mp;have Q:=d.az (d.co.alf nx) (d.co.fp _);have O:=Q.set (mS:={st with x:={st.x with S:=nx},c:={st.c with run:=(0,0)}}) rfl d.aT;have hF:=(d.co.fp (.box (cw {st.x with S:=nx} q qv) none)).m3.trans (Q.fs (.box (dC {st with x:={st.x with S:=nx},c:={st.c with run:=(0,0)}} p rv) none));have hw: ∀i o,i≠p->i≠s->W[i]?=some o->((W.set p (.box (cw {st.x with S:=nx} q qv) none)).set s (.box (dC {st with x:={st.x with S:=nx},c:={st.c with run:=(0,0)}} p rv) none))[i]?=some o:=λi o hi hi2 ho=>by
  rw[aex (Ne.symm hi2),aex (Ne.symm hi)];exact ho
 have G: [AV.int .i64 0,.int .i64 0]=ay (0,0):=rfl;have J: ∀r:aE,(ay r).length=2:=λ_=>rfl
 have I: ∀r:aE,aG (ay r)=0:=λ_=>rfl
 have hNp: (N !=p)=true:=by simp;omega
 rw[ayr];simp only[go_sem,simprocAttr,oi,jQ,mT,uc,ud,e1,e6,e8,w0,w6,d.box,d.co.box,Q.box,PL,G,PS,KS,oq,hb.bK,eU,J,I,MO,hNp];generalize hW1: (W.set p (.box (cw {st.x with S:=nx} q qv) none)).set s (.box (dC {st with x:={st.x with S:=nx},c:={st.c with run:=(0,0)}} p rv) none)=W1 at*;refine gS back.length (λk e P j=> ∃w,e 1= .ptr N 0/\e 7= .ptr (M+1) 0/\e 128=bv/\e 129= .int .i64 back.length/\e 130= .int .i64 k/\cR m p q s {st with x:=(back.take k).foldl cU {st.x with S:=nx},c:={st.c with run:=(0,0)}} w rv P/\eI (w=g) p j/\P[N]?=some (.box [.ptr s 0] none)/\P[M+1]?=some (.box (bF r) none)/\Fq m [p,q,s] H P) 0 (by omega) ?_ ?_
 ·refine⟨qv,?_⟩;simp only[go_sem,simprocAttr,e1,e7];exact⟨O,f,hw _ _ (by omega) (by omega) w0,hw _ _ (by omega) (by omega) w7,fr.trans hF⟩
 clear f Q O hF hw w0 w1 w6 w7 fr e1 e3 e6 e7 e8 d hW1;rintro k hk e P j ⟨w,e1,e7,v,u,t,d,f,w0,w7,fr⟩ n hn;have K:=λL=>bh (L:=L) w0
 have hbx:=λL=>bh (L:=L) d.box
 simp only[bR,go_sem,simprocAttr,age,e1,v,u,t];refine⟨λhh=>?_,λhh=>?_⟩
 ·have l:k<back.length:=by omega
  generalize A:back.getD k default=D at*;have wc:=B.2 D (by rw[<-A];exact eX l);have V:=CG (back.take k) {st.x with S:=nx} (λz hz=>(B.2 z (alP hz)).2);have x9: (back.take k).length<=k:=by simp;omega
  obtain⟨cr,g1,E,W3,U,rfl,g2,C,g4⟩:=We (d.co.app [.box (ay D) none]) D ⟨by omega,by omega⟩ (by
   have: ({st.x with S:=nx}:Core).Q=st.x.Q:=rfl;rw[this]at V;show((back.take k).foldl cU {st.x with S:=nx}).Q.length<_;omega) j
  simp(disch:=omega) only[go_sem,simprocAttr,e1,e7,v,u,t,hb.ck,hb.cE,A,hn,J,I,K,hbx,PL,g1];have hs:=(d.app [.box (ay D) none]).az g2 C;have Wt:N∉[p,q]:=by simp;omega
  have Z:M+1∉[p,q]:=by simp;omega
  have e0: (back.take (k+1)).foldl cU {st.x with S:=nx}=cU ((back.take k).foldl cU {st.x with S:=nx}) D:=by
   rw[<-A,ait,afu l,aoH,aha,afu l];rfl
  rw[e0];refine⟨by omega,l,E,hs,f.step g4 (λa b=>b.trans a),C.own Wt (K _),C.own Z (bh w7),?_⟩;exact fr.trans (C.m3.pre (by have:=d.lt;omega))
 ·obtain rfl:k=back.length:=by omega
  rw[ag4]at d;have X:qi {st with x:=back.foldl cU {st.x with S:=nx},c:={st.c with run:=(0,0)}}:=
   ⟨jP.alQ (x:={st.x with S:=nx}) ⟨Y,y.x.P,y.x.M,y.x.Q,by show st.x.Q.length<_;omega⟩ B.2 (by show st.x.Q.length+_<_;omega),⟨y.c.aa,y.c.iA,y.c.aT,⟨by show 0<65536;omega,by show 0<65536;omega⟩,y.c.eW⟩⟩
  obtain⟨cr,g1,E,rv3,W3,U,rfl,g2,C,g4⟩:=Wj d X r j;simp only[go_sem,simprocAttr,e7,w0,w7,xJ,s9,g1];exact dL.alO h0 hN g2 (fr.trans C) (f.step g4 λa b=>b.trans a) (agS _)
theorem cR.other{m s:Nat}{st:bT}{W:List ae}(h:cR m p q s st qv rv W){cs:lA}(a:W[i]?=some (.box cs tg))(d:i≠p)(c:i≠q)(b:i≠s)(o:ae):cR m p q s st qv rv (W.set i o):=
 ⟨h.co.set a d c o,h.ps,(aex b).trans h.box,h.aT⟩
def zY(P:cO)(c:cp)(pl:lN):cO:=if c.op=4 then ub P pl c.v pl.length else P
def zZ(P:cO)(c:cp)(pl:lN)(v:Nat):Nat:=if c.op=3 then qj P pl v pl.length else v
def ayx{m s N:Nat}{H:List ae}{j F:AV}{E st:bT}{nx:bG}{bv:AV}{back:List aE}{pl:lN}{e:Env}{W:List ae}(T:cR m p q s E j F H)(O:H.length=N)
  (h:CmS m p q s N M H j rv st c nx r bv e W lo) (Y:e 4=pv) (z:Rv pv 1 (pl.map iV)) (A:pl.length<=8/\ ∀k∈pl,k<65536) (G:c.op=3->r.v<18446744073709551616) (K:Rv bv 2 (back.map ay)) (t:back.length<=4096/\ ∀r∈back,r.1<=64/\r.2<=64) (d:qi st) (l:bm nx) (L:st.x.Q.length<4294967296) (b:oN):
  wp XC uL false Wn ⟨e,[]⟩ ⟨W,lo⟩ (dn XC N b [.t 2] (dL m p q s H b (ry {st with x:=back.foldl cU {st.x with S:=nx,P:=zY st.x.P c pl},c:={st.c with run:=(0,0)}} {r with v:=zZ st.x.P c pl r.v}) j (.bool true))):=by
 have h':=h;obtain⟨e1,e3,e6,e7,e8,⟨qv,a,n⟩,w0,w1,w6,w7,fr,sN,NM⟩:=h;have Hq:=a.ps;have Z:=a.co.qp;have hmp:=a.co.mp;have B: ∀k,k<pl.length->pl.getD k 0<65536:=λk D=>by simp_all
 rw[ayq];by_cases X:c.op=4
 ·have w: (c.op:Int)=4:=by omega
  have u:W.set q (.box (ca (ub st.x.P pl c.v 0)) none)=W:=qc a.co.hY;have g:=λlo=>alN z A.1 (f:=.func IU) (cs:=[.ptr N 0,.ptr (N+1) 0]) (.ptr s 0) (λk=>W.set q (.box (ca (ub st.x.P pl c.v k)) none)) (λk=>by simp) (λk D=>by
   have Q:=a.az (a.co.GA (ub st.x.P pl c.v k)) (a.co.fq _);rw[aym Q (Wk d.x.P pl c.v k) ((aex (by omega)).trans w0) ((aex (by omega)).trans w1) _ k (B k D) (by omega)];show some (aS.ret _ ⟨_,_⟩)=_;rw[anc,alK]) lo
  simp only[u]at g;simp only[go_sem,simprocAttr,oi,jQ,mT,uc,ud,e1,e3,Y,w0,w1,fQ,w,g];have U:zY st.x.P c pl=ub st.x.P pl c.v pl.length:=afl X;have C:zZ st.x.P c pl r.v=r.v:=afi (by omega);rw[U,C];refine Wr (rv:=rv) (M:=M) (c:=c) (nx:=nx) (r:=r) (bv:=bv) (back:=back) (st:={st with x:={st.x with P:=ub st.x.P pl c.v pl.length}}) T O ?_ K t ⟨⟨d.x.S,Wk d.x.P pl c.v _,d.x.M,d.x.Q,d.x.Ql⟩,d.c⟩ l L b;exact⟨e1,e3,e6,e7,e8,⟨qv,a.az (a.co.GA _) (a.co.fq _),n⟩,(aex (by omega)).trans w0,(aex (by omega)).trans w1,(aex (by omega)).trans w6,(aex (by omega)).trans w7,fr.trans (a.co.fq _).m3,sN,NM⟩
 ·have w: ¬(c.op:Int)=4:=by omega
  have U:zY st.x.P c pl=st.x.P:=afi X;rw[U];by_cases R:c.op=3
  ·have y: (c.op:Int)=3:=by omega
   have u:W.set (M+1) (.box (bF {r with v:=qj st.x.P pl r.v 0}) none)=W:=qc w7;have g:=λlo=>alN z A.1 (f:=.func IV) (cs:=[.ptr N 0,.ptr (M+1) 0]) (.ptr s 0) (λk=>W.set (M+1) (.box (bF {r with v:=qj st.x.P pl r.v k}) none)) (λk=>by simp) (λk D=>by
    have Q:=a.other w7 (by omega) (by omega) (by omega) (.box (bF {r with v:=qj st.x.P pl r.v k}) none);rw[ayn Q d.x.P (r:={r with v:=qj st.x.P pl r.v k}) (Wl d.x.P pl r.v (G R) k (by omega)) ((aex (by omega)).trans w0) (cN w7) _ k (B k D) (by omega)];show some (aS.ret _ ⟨_,_⟩)=_;rw[anc,alL]) lo
   simp only[u]at g;simp only[go_sem,simprocAttr,oi,jQ,mT,uc,ud,e1,e3,Y,e7,w0,w1,fQ,y,g];have C:zZ st.x.P c pl r.v=qj st.x.P pl r.v pl.length:=afl R;rw[C];have J:Fq m [p,q,s] H (W.set (M+1) (.box (bF {r with v:=qj st.x.P pl r.v pl.length}) none)):=⟨by rw[ag7];exact fr.len,λi I=>by rw[aex (by omega)];exact fr.low i I,λi o I ho V=>by
    have:=fh V;rw[aex (by omega)];exact fr.box i o I ho V⟩
   refine Wr (rv:=rv) (M:=M) (c:=c) (nx:=nx) (bv:=bv) (back:=back) (r:={r with v:=qj st.x.P pl r.v pl.length}) T O ?_ K t d l L b;exact⟨e1,e3,e6,e7,e8,⟨qv,a.other w7 (by omega) (by omega) (by omega) _,n⟩,(aex (by omega)).trans w0,(aex (by omega)).trans w1,(aex (by omega)).trans w6,cN w7,J,sN,NM⟩
  ·have y: ¬(c.op:Int)=3:=by omega
   have C:zZ st.x.P c pl r.v=r.v:=afi R;rw[C];simp only[go_sem,simprocAttr,oi,jQ,mT,uc,ud,e3,w1,fQ,w,y];refine Wr (rv:=rv) (M:=M) (c:=c) (nx:=nx) (bv:=bv) (back:=back) (r:=r) T O ?_ K t d l L b;exact⟨e1,e3,e6,e7,e8,⟨qv,a,n⟩,w0,w1,w6,w7,fr,sN,NM⟩
structure rL(d:bG×bE×List aE)(c:cp):Prop where
 S:bm d.1
 len:d.2.2.length<=4096
 runs: ∀r∈d.2.2,r.1<=64/\r.2<=64
 v:c.op=3->d.2.1.v<18446744073709551616
 w:d.2.1.w<4294967296
 e:d.2.1.e<4294967296
def M3(st:bT):bT:=
 let d:=dH st.x.S st.c.aa st.c.c st.c.run
 if d.2.1.e≠0 then ry st d.2.1
 else ry {st with x:=d.2.2.foldl cU {st.x with S:=d.1,P:=zY st.x.P st.c.c (iM st.x.S st.c.c).1},c:={st.c with run:=(0,0)}} {d.2.1 with v:=zZ st.x.P st.c.c (iM st.x.S st.c.c).1 d.2.1.v}
theorem alS(s:bT):zy s=M3 (eC s):=by rfl
def Wu{m s N:Nat}{H:List ae}{h z:AV}{y st:bT}{e:Env}{W:List ae}(Y: ∀op,l8 op)(F:cR m p q s y h z H)(E:H.length=N)
  (I:e 1= .ptr N 0) (G:e 3= .ptr (N+1) 0) (f:cR m p q s st qv rv W) (k:eI (qv=h) p lo) (x:W[N]?=some (.box [.ptr s 0] none)) (t:W[N+1]?=some (.box (bf st.c.c) none)) (J:Fq m [p,q,s] H W)
  (g:qi st) (v:rL (dH st.x.S st.c.aa st.c.c st.c.run) st.c.c) (X:st.x.Q.length<4294967296) (i:oN):
  wp XC uL false Wm ⟨e,[]⟩ ⟨W,lo⟩ (dn XC N i [.t 2] (dL m p q s H i (M3 st) h (.bool true))):=by
 have T:=f.ps;have S:=f.co.qp;have U:=f.co.mp;have sN:s<N:=by rw[<-E];exact F.lt
 have R:=g.c.run;obtain⟨pv,u,P⟩:=axp st.x.S g.x.S st.c.c g.c.iA W lo;have u:=cB u;obtain⟨bv,d1,d2⟩:=VZ st.x.S g.x.S st.c.aa g.c.aa st.c.c g.c.iA st.c.run ⟨by omega,by omega⟩ (Y _) (W++[.box py none,.box [.int .i64 0,.int .u64 0,.int .u32 0] none]) lo;have d1:=cB d1;have C:=alH g.x.S st.c.c;unfold M3;dsimp only;generalize V:dH st.x.S st.c.aa st.c.c st.c.run=d at*;obtain⟨M,w⟩: ∃M,W.length=M:=⟨_,rfl⟩;have D:N+2<=M:=by have:=fh t;omega
 have B:=λL=>bh (L:=L) x
 have o:=λL=>bh (L:=L) f.box
 have A:=λL=>bh (L:=L) t
 have n:=λL=>bh (L:=L) f.co.box
 have l: (bF d.2.1)[0]?=some (.int .i64 d.2.1.e):=rfl;rw[ayp];by_cases he:d.2.1.e=0
 ·have j: ((d.2.1.e:Nat):Int)=0:=by omega
  rw[afi (λq=>q he)];simp only[go_sem,simprocAttr,oi,jQ,mT,uc,ud,I,G,x,t,w,f.box,f.co.box,B,A,o,n,PL,↓PL,KL,↓KL,DZ,u,d1,l,j,oq,rK];refine ayx (rv:=rv) (M:=M) (c:=st.c.c) (nx:=d.1) (r:=d.2.1) (bv:=bv) (pv:=pv) (pl:=(iM st.x.S st.c.c).1) (back:=d.2.2) F E ?_ rfl P C v.v d2 ⟨v.len,v.runs⟩ g v.S X i;exact⟨I,G,rfl,rfl,rfl,⟨qv,f.app _,k⟩,B _,A _,by rw[dh w];rfl,by rw[bz w];rfl,J.trans (Fq.app _ (by omega)),sN,D⟩
 ·have j: ¬((d.2.1.e:Nat):Int)=0:=by omega
  rw[afl he];obtain⟨cr,g1,O,K,W2,Q,rfl,g2,g3,Z⟩:=Wj (f.app [.box (bw d.1) none,.box (bF d.2.1) none]) g d.2.1 lo;simp only[go_sem,simprocAttr,oi,jQ,mT,uc,ud,I,G,x,t,w,f.box,f.co.box,B,A,o,n,PL,↓PL,KL,↓KL,DZ,u,d1,l,j,oq,rK,g1];exact dL.alO F E g2 (J.trans (g3.pre (by omega))) (k.step Z λa b=>b.trans a) (agS _)
theorem Wv:aG (bf c)=0:=rfl
def ayy{m s:Nat}{H:List ae}{st:bT}(t: ∀op,l8 op)(a:cR m p q s st qv rv H)(b:qi st)(h:rL (dH (eC st).x.S (eC st).c.aa (eC st).c.c (eC st).c.run) st.c.c)(V:st.x.Q.length<2147483648)(lo:oN):
  ∃C,D XC (.fn (.func uL) [] []) [.ptr s 0] ⟨H,lo⟩=some C/\dL m p q s H lo (zy st) qv (.bool true) C:=by
 have ho:Old s H (.box (dC st p rv) none):=⟨a.box⟩;refine cz oi λN d=>?_
 have sN:s<N:=by rw[<-d];exact a.lt
 have R:=a.ps;have P:=a.co.qp;have S:=a.co.mp;rw[alS,ayo];have O:=b.c.run;have G:=λH lo=>cB (V0 st.x.S b.x.S st.c.aa b.c.aa st.c.c b.c.iA (t _) H lo)
 have F: (H++[.box [.ptr s 0] none,.box (bf st.c.c) none])[N]?=some (.box [.ptr s 0] none):=by rw[dh d];rfl
 have E: (H++[.box [.ptr s 0] none,.box (bf st.c.c) none])[N+1]?=some (.box (bf st.c.c) none):=by rw[bz d];rfl
 have f:=λL=>bh (L:=L) a.box
 have n:=λL=>bh (L:=L) a.co.box
 by_cases J:0<st.c.run.2
 ·have e: ((st.c.run.2:Nat):Int)>0:=by omega
  by_cases I:eV st.x.S st.c.aa st.c.c=st.c.run.2
  ·have g:decide (((eV st.x.S st.c.aa st.c.c:Nat):Int)=st.c.run.2)=true:=agR (by omega);have o:eC st=st:=afi (λq=>q.2 I);rw[o]at h⊢;simp only[go_sem,simprocAttr,oi,jQ,mT,uc,ud,d,f,n,PL,↓PL,KL,↓KL,Gt,MQ,Wv,Gx,e,G,g];exact Wu t a d rfl rfl (a.app _) (eI.no rfl) F E (Fq.app _ (by omega)) b h (by omega) lo
  ·have g:decide (((eV st.x.S st.c.aa st.c.c:Nat):Int)=st.c.run.2)=false:=afv (by omega);have o:eC st={st with x:=cU st.x st.c.run,c:={st.c with run:=(0,0)}}:=afl ⟨J,I⟩;rw[o]at h⊢;obtain⟨C,g1,K,W,M,rfl,g2,u,U⟩:=We (a.co.app [.box [.ptr s 0] none,.box (bf st.c.c) none]) st.c.run ⟨by omega,by omega⟩ (by omega) none;have v:=(a.app [.box [.ptr s 0] none,.box (bf st.c.c) none]).az g2 u;have B:N∉[p,q]:=by simp;omega
   have A:N+1∉[p,q]:=by simp;omega
   have v0:=u.own B F;have v1:=u.own A E;have j: [AV.int .i64 0,.int .i64 0]=ay (0,0):=rfl;have y: ∀r:aE,(ay r).length=2:=λ_=>rfl
   have w: ∀r:aE,aG (ay r)=0:=λ_=>rfl
   simp only[go_sem,simprocAttr,oi,jQ,mT,uc,ud,d,f,n,PL,↓PL,KL,↓KL,Gt,MQ,Wv,Gx,e,G,g,g1,v0,v.box,j,y,w,PS];have Q: (cU st.x st.c.run).Q.length=st.x.Q.length+st.c.run.2:=by simp[cU,iP]
   have z:qi {st with x:=cU st.x st.c.run,c:={st.c with run:=(0,0)}}:=⟨⟨b.x.S,b.x.P,b.x.M,λk l=>by
    rcases agT.1 l with l|l
    ·exact b.x.Q k l
    ·obtain⟨i,T,rfl⟩:=ag2.1 l;have:=aqP.1 T;show st.c.run.1+i<_;omega,by show(cU st.x st.c.run).Q.length<_;omega⟩,⟨b.c.aa,b.c.iA,b.c.aT,⟨by show 0<65536;omega,by show 0<65536;omega⟩,b.c.eW⟩⟩
   refine Wu (st:={st with x:=cU st.x st.c.run,c:={st.c with run:=(0,0)}}) t a d ?_ ?_ (v.set rfl a.aT) U.n ?_ ?_ ?_ z h (by show(cU st.x st.c.run).Q.length<_;omega) lo
   ·exact rfl
   ·exact rfl
   ·exact(aex (by omega)).trans v0
   ·exact(aex (by omega)).trans v1
   ·exact((Fq.app _ (by omega)).trans u.m3).trans (v.fs _)
 ·have e: ¬((st.c.run.2:Nat):Int)>0:=by omega
  have o:eC st=st:=afi (λq=>J q.1);rw[o]at h⊢;simp only[go_sem,simprocAttr,oi,jQ,mT,uc,ud,d,f,PL,↓PL,Gt,Wv,Gx,e];exact Wu t a d rfl rfl (a.app _) (eI.no rfl) F E (Fq.app _ (by omega)) b h (by omega) lo
def dW:Nat->bT->bT×Bool
 |0=>oB|1=>oC|2=>oD|3=>oE|_=>λs=>(zy s,true)
def alT:Nat->FuncId
 |0=>A6|1=>A7|2=>A8|3=>A9|_=>uL
def alU{s:bT}(h: (oB s).2=false): (oB s).1=s:=by
 unfold oB at*;grind
def alV{s:bT}(h: (oC s).2=false): (oC s).1=s:=by
 unfold oC at*;grind
def alW{s:bT}(h: (oD s).2=false): (oD s).1=s:=by
 unfold oD at*;grind
def alX{s:bT}(h: (oE s).2=false): (oE s).1=s:=by
 unfold oE at*;grind
def ayz{s:bT}(h: (dW k s).2=false): (dW k s).1=s:=by
 rcases(show k=0\/k=1\/k=2\/k=3\/4<=k by omega)with q|q|q|q|q
 ·subst q;exact alU h
 ·subst q;exact alV h
 ·subst q;exact alW h
 ·subst q;exact alX h
 ·obtain⟨j,rfl⟩: ∃j,k=j+4:=⟨k-4,by omega⟩;cases h
def mU(s:bT)(k:Nat):bT:=if(dW k s).2 then(dW k s).1 else match k with
 |0=>if(dW 1 s).2 then(dW 1 s).1 else if(dW 2 s).2 then(dW 2 s).1 else if(dW 3 s).2 then(dW 3 s).1 else(dW 4 s).1
 |1=>if(dW 2 s).2 then(dW 2 s).1 else if(dW 3 s).2 then(dW 3 s).1 else(dW 4 s).1
 |2=>if(dW 3 s).2 then(dW 3 s).1 else(dW 4 s).1
 |_=>(dW 4 s).1
def CH{s:bT}(h: (dW k s).2=true):mU s k=(dW k s).1:=by unfold mU;grind
def GC{s:bT}(b:k<4)(h: (dW k s).2=false):mU s k=mU s (k+1):=by
 have a: ¬(dW k s).2=true:=by grind
 rcases(show k=0\/k=1\/k=2\/k=3 by omega)with q|q|q|q<;>subst q
 ·exact(afi a: (if(dW 0 s).2=true then(dW 0 s).1 else mU s 1)=mU s 1)
 ·exact(afi a: (if(dW 1 s).2=true then(dW 1 s).1 else mU s 2)=mU s 2)
 ·exact(afi a: (if(dW 2 s).2=true then(dW 2 s).1 else mU s 3)=mU s 3)
 ·exact(afi a: (if(dW 3 s).2=true then(dW 3 s).1 else mU s 4)=mU s 4)
def ayA(x:Core)(c:Call):gw x c=mU ⟨x,c,bX,false⟩ 0:=by
 unfold gw;dsimp only;generalize(⟨x,c,bX,false⟩:bT)=s;cases e: (oB s).2 with
 |true=>rw[afl rfl,CH (k:=0) e];rfl
 |false=>
  rw[afi (by simp),alU e,GC (k:=0) (by omega) e];cases d: (oC s).2 with
  |true=>rw[afl rfl,CH (k:=1) d];rfl
  |false=>
   rw[afi (by simp),alV d,GC (k:=1) (by omega) d];cases b: (oD s).2 with
   |true=>rw[afl rfl,CH (k:=2) b];rfl
   |false=>
    rw[afi (by simp),alW b,GC (k:=2) (by omega) b];cases a: (oE s).2 with
    |true=>rw[afl rfl,CH (k:=3) a];rfl
    |false=>rw[afi (by simp),alX a,GC (k:=3) (by omega) a,CH (k:=4) rfl];rfl
def ayB{m s:Nat}{H:List ae}{st:bT}(c: ∀op,l8 op)(b:cR m p q s st qv rv H)(a:qi st)(e:rL (dH (eC st).x.S (eC st).c.aa (eC st).c.c (eC st).c.run) st.c.c)(f:st.x.Q.length<2147483648)(k:Nat)(lo:oN):
  ∃d,D XC (.fn (.func (alT k)) [] []) [.ptr s 0] ⟨H,lo⟩=some d/\dL m p q s H lo (dW k st).1 qv (.bool (dW k st).2) d:=by
 rcases(show k=0\/k=1\/k=2\/k=3\/4<=k by omega)with h|h|h|h|h
 ·subst h;exact ayg c b a lo
 ·subst h;exact ayh b a lo
 ·subst h;exact ayi c b a lo
 ·subst h;exact ayj b a lo
 ·obtain⟨j,rfl⟩: ∃j,k=j+4:=⟨k-4,by omega⟩;exact ayy c b a e f lo
def ayC{X:Ctx}{f:FuncId}{fs args:lA}{E:AS}{r:aS}(h:D X (.fn (.func f) [] []) (fs++args) E=some r):D X (.fn (.func f) fs []) args E=some r:=by
 obtain⟨n,a⟩:=yr h;cases n with
 |zero=>cases a
 |succ n=>exact OA (n:=n+1) _ _ _ _ a
def M4(m p q:Nat)(H:List ae)(lo:oN)(st:bT)(qv:AV)(b:aS):Prop:=
 ∃a nH H' ak,b= .ret (.au [.agg (bL st.c nH),.agg (bF st.r),.bool st.ended]) ⟨H',ak⟩/\dv m p q st.x a H'/\Rv nH 1 (st.c.aT.map hC)/\Fq m [p,q] H H'/\eu (a=qv) p H H' lo ak
def vR:lA:=[.int .i64 0,.int .u8 0,.int .u32 0,.int .u32 0,.int .u32 0,.int .u32 0,.int .u64 0,.bool false,.ai,.int .i64 0,.int .i64 0,.int .i64 0]
def nI:lA:=[.int .i64 0,.int .u64 0,.int .u32 0]
theorem Fq.cut{m:Nat}{S T:lN}{H B W:List ae}(h:Fq m S (H++B) W)(d: ∀i∈S,i∈T\/H.length<=i)(c:m<=H.length):Fq m T H W:=⟨by have:=h.len;grind,λi a=>by rw[h.low i a,List.getElem?_append_left (by omega)],λi o a ho b=>by
 exact h.box i o (λq=>by grind) ho (bh b)⟩
theorem Fq.out{m:Nat}{T:lN}{H W:List ae}(h:Fq m T H W)(e:H.length<=i)(c:m<=H.length)(o:ae):Fq m T H (W.set i o):=⟨by rw[ag7];exact h.len,λj a=>by rw[aex (by omega)];exact h.low j a,λj o a ho b=>by
 have d:=fh b;rw[aex (by omega)];exact h.box j o a ho b⟩
def M4.fin{m N:Nat}{H W:List ae}{b:oN}{a:AV}{i:Core}{st:bT}(e:dv m p q i a H)(g:H.length=N)(h:dv m p q st.x qv W)(c:Rv rv 1 (st.c.aT.map hC))(d:Fq m [p,q] H W)(l:eI (qv=a) p b):
  M4 m p q H lo st a (.ret (finish N lo (.au [.agg (bL st.c rv),.agg (bF st.r),.bool st.ended]) ⟨W,b⟩).1 (finish N lo (.au [.agg (bL st.c rv),.agg (bF st.r),.bool st.ended]) ⟨W,b⟩).2):=by
 have s:=e.lt;have r:=e.mp;have k: (AV.au [.agg (bL st.c rv),.agg (bF st.r),.bool st.ended]).refs<=N:=by
  have:=Wi st.c (cM c (bA (λ_=>rfl) _));have o:= @rK st.r;simp[AV.refs,aG,this,o]
 rcases l with⟨rfl,f⟩| ⟨j,n,rfl⟩
 ·rw[iR (.inl rfl) k];refine⟨qv,rv,_,lo,rfl,h.oP (Q:=qv=a) (.inr ⟨rfl,f⟩) id e g,c,d.take g (by omega),.inl ⟨rfl,?_,f⟩⟩;rw[aiI];have:=d.len;omega
 ·rw[vN (by omega)];exact⟨qv,rv,W,cC lo j,rfl,h,c,d,.inr ⟨j,n,rfl⟩⟩
def ayD{m:Nat}{H:List ae}{x:Core}{c:Call}(hD: ∀op,l8 op)(J:dv m p q x qv H)(hx:jP x)(hc:fG c)(hr:Rv rv 1 (c.aT.map hC))
  (F:rL (dH (eC ⟨x,c,bX,false⟩).x.S (eC ⟨x,c,bX,false⟩).c.aa (eC ⟨x,c,bX,false⟩).c.c (eC ⟨x,c,bX,false⟩).c.run) c.c) (hQ:x.Q.length<2147483648) (lo:oN):
  ∃Y,D XC (.fn (.func Qa) [] []) [.ptr p 0,.agg (bL c rv)] ⟨H,lo⟩=some Y/\M4 m p q H lo (gw x c) qv Y:=by
 refine cz RN λN l=>?_
 have oL:p<N:=by rw[<-l];exact J.lt
 have Ws:=J.qp;have hmp:=J.mp;obtain⟨st,d⟩: ∃st:bT,st=⟨x,c,bX,false⟩:=⟨_,rfl⟩;have G: ∀ (c:Call) rv,List.take 12 (bL c rv)=bL c rv:=λ_ _=>rfl
 have v: ∀rv,AV.ptr p 0:: (bL c rv++[.int .i64 0,.int .u64 0,.int .u32 0,.bool false])=dC st p rv:=λrv=>by rw[d];rfl
 have hrz:=cM hr (bA (λ_=>rfl) _);obtain⟨B,hB⟩: ∃B:List ae,B=[.box (bL c rv) none,.box vR none,.box nI none,.box (dC st p rv) none]:=⟨_,rfl⟩;have hB4: (H++B).length=N+4:=by rw[hB];simp[l]
 have w:cR m p q (N+3) st qv rv (H++B):=by
  rw[d];exact⟨J.app B,by omega,by rw[hB,bz l,d];rfl,hr⟩
 have U:qi st:=by rw[d];exact⟨hx,hc⟩
 rw[ayA,<-d];rw[<-d]at F;have F:rL (dH (eC st).x.S (eC st).c.aa (eC st).c.c (eC st).c.run) st.c.c:=by rw[d]at F⊢;exact F
 have I: ∀ (c:Call) rv,(bL c rv).length=12:=λ_ _=>rfl
 have ais:min 12 12=12:=rfl;have C: ∀k,k<5->qu false 5 1 (.agg [.fn (.func A6) [.ptr (N+3) 0] [],.fn (.func A7) [.ptr (N+3) 0] [],.fn (.func A8) [.ptr (N+3) 0] [],.fn (.func A9) [.ptr (N+3) 0] [],.fn (.func uL) [.ptr (N+3) 0] []]) (.int .i64 (k:Nat))=some (.fn (.func (alT k)) [.ptr (N+3) 0] []):=by
  intro k hk;rcases(show k=0\/k=1\/k=2\/k=3\/k=4 by omega)with h|h|h|h|h<;>subst h<;>rfl
 generalize X:AV.agg [.fn (.func A6) [.ptr (N+3) 0] [],.fn (.func A7) [.ptr (N+3) 0] [],.fn (.func A8) [.ptr (N+3) 0] [],.fn (.func A9) [.ptr (N+3) 0] [],.fn (.func uL) [.ptr (N+3) 0] []]=Z at C;simp only[go_sem,simprocAttr,RN,l,I,G,v,X];refine gS 5 (λk e W j=> ∃g s,e 4= .ptr (N+1) 0/\e 5= .ptr (N+2) 0/\e 7= .ptr (N+3) 0/\e 24=Z/\e 25= .int .i64 k/\k<=4/\cR m p q (N+3) st g s W/\eI (g=qv) p j/\Fq m [p,q,N+3] (H++B) W/\mU st 0=mU st k) 0 (by omega) ?_ ?_
 ·refine⟨qv,rv,?_⟩;simp only[go_sem,simprocAttr];rw[hB]at w⊢;exact⟨w,eI.no trivial,Fq.refl⟩
 rintro k hk e W j ⟨g,s,e4,e5,e7,L,K,hk4,hs,y,hf,A⟩ n hn;have E:=C k (by omega);obtain⟨Y,g1,Q,P,M,Ci,rfl,g2,g3,g4⟩:=ayB hD hs U F (by rw[d];exact hQ) k j;have g1:=ayC (fs:=[.ptr (N+3) 0]) (args:=[]) g1;simp only[bR,go_sem,simprocAttr,aga,e7,L,K];refine⟨λ_=>?_,λhh=>absurd (show((k:Nat):Int)<5 by omega) hh⟩;have f:=hf.trans g3;cases r: (dW k st).2 with
 |true=>
  rw[r]at g1;have v1:M[N+1]?=some (.box vR none):=f.own (by simp;omega) (by rw[hB,bz l];rfl);have v2:M[N+2]?=some (.box nI none):=f.own (by simp;omega) (by rw[hB,bz l];rfl);have O: ∀o,(M.set (N+1) o)[N+2]?=some (.box nI none):=λo=>(aex (by omega)).trans v2
  have s1:=λo=>cN (o:=o) v1
  have s2:=λo o'=>cN (o:=o') (O o)
  have s3: ∀o o':ae,((M.set (N+1) o).set (N+2) o')[N+1]?=some o:=λo o'=>(aex (by omega)).trans (s1 o)
  have S:vR.length=12:=rfl;have R:nI.length=3:=rfl;have u:List.drop 12 vR=[]:=rfl;have t:List.drop 3 nI=[]:=rfl;have V:=Wi (dW k st).1.c g2.rz;simp only[go_sem,simprocAttr,E,e4,e5,e7,g1,g2.box,v1,O,s2,s3,PL,↓PL,S,R,u,t,I,G,xJ,s9,rK,V,zO];refine⟨by simp,by simp,?_⟩;rw[A,CH r];have hq3:q<N:=by omega
  refine M4.fin J l ((g2.co.set v1 (by omega) (by omega) _).set (O _) (by omega) (by omega) _) g2.aT ?_ (y.step g4 λa b=>b.trans a);exact((f.cut (T:=[p,q]) (by intro i hi;simp at hi⊢;omega) (by omega)).out (by omega) (by omega) _).out (by omega) (by omega) _
 |false=>
  rw[r]at g1;have he:=ayz r;rw[he]at g2;have z:k<4:=by
   rcases(show k<4\/k=4 by omega)with q|q
   ·exact q
   ·subst q;cases r
  simp(disch:=omega) only[go_sem,simprocAttr,E,e4,e5,e7,L,K,g1];exact⟨Q,P,by omega,g2,y.step g4 (λa b=>b.trans a),f,by rw[A,GC z r]⟩
def cX(x:dE):lA:=[.int .u8 x.op,.int .u8 x.a,.int .u8 x.b,.int .u8 x.c,.int .u16 x.n]
def cY(t:Task)(cv:AV):lA:=[cv,.int .i64 t.next]++arr 8 λi=>[.int .u64 (t.aT i)]
structure GD(x:dE):Prop where
 op:x.op<39
 a:x.a<8
 b:x.b<8
 c:x.c<8
 n:x.n<65536
 j:x.op=5\/x.op=6->x.n<=64
structure lr(t:Task):Prop where
 len:t.code.length<=64
 ins: ∀x∈t.code,GD x
 next:t.next<=64
 aT: ∀i,t.aT i<18446744073709551616
section
variable{t:Task}{cv:AV}
theorem xN: (cY t cv).length=10:=rfl
def GF(h:cv.refs=0):aG (cY t cv)=0:=by
 unfold cY;rw[FW,LU (λ_=>rfl)];simp[aG,AV.refs,h]
theorem alY: (cY t cv)[0]?=some cv:=rfl
theorem alZ: (cY t cv)[1]?=some (.int .i64 t.next):=rfl
theorem al0: (cY t cv)[7]?=some (.int .u64 (t.aT 5)):=rfl
theorem al1: (cY t cv)[8]?=some (.int .u64 (t.aT 6)):=rfl
theorem al2:List.take 10 (cY t cv)=cY t cv:=rfl
def Ww(h:i<8): (cY t cv)[2+i]?=some (.int .u64 (t.aT i)):=by
 rcases(show i=0\/i=1\/i=2\/i=3\/i=4\/i=5\/i=6\/i=7 by omega)with q|q|q|q|q|q|q|q<;>subst q<;>rfl
theorem al3{n:Nat}:aH (cY t cv) 1 [.int .i64 n]=cY {t with next:=n} cv:=rfl
def GG{v:Nat}(h:i<8):aH (cY t cv) (2+i) [.int .u64 v]=cY {t with aT:=ar t.aT i v} cv:=by
 rcases(show i=0\/i=1\/i=2\/i=3\/i=4\/i=5\/i=6\/i=7 by omega)with q|q|q|q|q|q|q|q<;>subst q<;>rfl
def TK:=gG @alY<|gG @alZ<|gG @al0<|gG @al1<|gG @al2<|gG @al3 @xN
end
theorem al4(x:dE): (cX x).length=5:=rfl
theorem al5(x:dE):aG (cX x)=0:=rfl
theorem al6(x:dE): (cX x)[0]?=some (.int .u8 x.op):=rfl
theorem al7(x:dE): (cX x)[1]?=some (.int .u8 x.a):=rfl
theorem al8(x:dE): (cX x)[2]?=some (.int .u8 x.b):=rfl
theorem al9(x:dE): (cX x)[3]?=some (.int .u8 x.c):=rfl
theorem ama(x:dE): (cX x)[4]?=some (.int .u16 x.n):=rfl
theorem amb(x:dE):List.take 5 (cX x)=cX x:=rfl
theorem amc(x:dE):List.drop 5 (cX x)=[]:=rfl
theorem IL:type_of% @al4/\type_of% @al5/\type_of% @al6/\type_of% @al7/\type_of% @al8/\type_of% @al9/\type_of% @ama/\type_of% @amb/\type_of% @amc:=⟨al4,al5,al6,al7,al8,al9,ama,amb,amc⟩
def CI:dE:=⟨0,0,0,0,0⟩
def GH(t:Task):AV:=.au [.agg (cX ((rC t).getD CI)),.bool (rC t).isSome]
section
variable{t:Task}{cv:AV}(hv:Rv cv 5 (t.code.map cX))(jm:lr t)(H:List ae)(lo:oN)
include hv jm
theorem Wx:D X0 (.fn (.func DY) [] []) [.agg (cY t cv)] ⟨H,lo⟩=some (.ret (GH t) ⟨H,lo⟩):=by
 refine aF K2 λN d=>?_
 have h:=jm.next;have i:=jm.len;have f: ¬((t.next:Nat):Int)<0:=by omega
 have a:=λE=>hv.bK (E:=E)
 have c: [AV.int .u8 0,.int .u8 0,.int .u8 0,.int .u8 0,.int .u16 0]=cX CI:=rfl;unfold GH rC;by_cases j:t.next<t.code.length
 ·have b: ¬((t.next:Nat):Int)>=t.code.length:=by omega
  have e:t.code[t.next]?=some (t.code.getD t.next default):=by grind
  rw[e];have g: (0:Int)<=t.next/\ (t.next:Int)<t.code.length:=by omega
  simp(disch:=omega) only[F1,go_sem,simprocAttr,K2,d,TK,f,a,b,hv.ck,hv.cE,g,IL,pa]
 ·have b: ((t.next:Nat):Int)>=t.code.length:=by omega
  have e:t.code[t.next]?=none:=ane (by omega);rw[e];simp only[F1,go_sem,simprocAttr,K2,d,TK,f,a,b,c,IL,pa]
omit hv jm in
theorem z0(i:Nat)(a:i<8):D X0 (.fn (.func uK) [] []) [.agg (cY t cv),.int .u8 i] ⟨H,lo⟩=some (.ret (.int .u64 (t.aT i)) ⟨H,lo⟩):=by
 refine aF RM λN c=>?_
 have hm: ((i:Nat):Int).tmod 8=i:=by rw[arM (by omega)];omega
 have b: (0:Int)<=i/\ (i:Int)<8:=by omega
 simp(disch:=omega) only[F1,go_sem,simprocAttr,RM,c,hm,b,Ww a]
omit hv in
theorem GJ{x:dE}(a:rC t=some x):GD x:=by
 unfold rC at a;exact jm.ins x (am9 a)
theorem Wy:D X0 (.fn (.func DU) [] []) [.agg (cY t cv)] ⟨H,lo⟩=some (.ret (.au [.agg (bf (ir t).1),.bool (ir t).2]) ⟨H,lo⟩):=by
 refine aF BN λN f=>?_
 have b:=λH lo=>Wx hv jm H lo
 have m: [AV.int .u8 0,.int .u32 0,.int .u32 0,.int .u32 0,.int .u32 0,.int .u64 0]=bf nr:=rfl;have l: [AV.int .u8 20,.int .u32 0,.int .u32 0,.int .u32 0,.int .u32 0,.int .u64 0]=bf {nr with op:=20}:=rfl;have a: [AV.int .u8 0,.int .u8 0,.int .u8 0,.int .u8 0,.int .u16 0]=cX CI:=rfl;have v: ∀c,List.take 6 (bf c)=bf c:=λ_=>rfl
 have w: ∀c,List.drop 6 (bf c)=[]:=λ_=>rfl
 unfold GH at b;unfold ir;cases h:rC t with
 |none=>
  rw[h]at b;simp only[azi,ayt]at b;simp only[F1,go_sem,simprocAttr,BN,f,TK,b,IL,a,pa];rfl
 |some x=>
  rw[h]at b;simp only[amC,ays]at b;have ho:=GJ jm h;have p:=ho.op;have s:=jm.aT;by_cases j:x.op=0
  ·have d: (x.op:Int)=0:=by omega
   simp only[afl j];simp only[F1,go_sem,simprocAttr,BN,f,TK,b,IL,a,d,pa];rfl
  ·have d:decide ((x.op:Int)=0)=false:=afv (by omega);by_cases k:x.op<=16
   ·have e: (x.op:Int)<=16:=by omega
    simp only[afi j,afl k];simp only[F1,go_sem,simprocAttr,BN,f,TK,b,IL,a,d,e,pa];rfl
   ·have e: ¬(x.op:Int)<=16:=by omega
    have r:x.b % 8=x.b:=ao0 ho.b;have q:x.c % 8=x.c:=ao0 ho.c;have o: (x.op:Int)-16=((x.op-16:Nat):Int):=by omega
    have g: ∀n:Nat,IntKind.wrap .u32 (n:Int)=((n % 4294967296:Nat):Int):=λn=>by
     unfold IntKind.wrap IntKind.bits IntKind.signed;simp
    have u:=ho.n;have i:x.n % 4294967296=x.n:=ao0 (by omega);have rb:=λH lo=>z0 (t:=t) (cv:=cv) H lo x.b ho.b
    have rc:=λH lo=>z0 (t:=t) (cv:=cv) H lo x.c ho.c
    simp only[afi j,afi k,r,q];simp(disch:=omega) only[F1,go_sem,simprocAttr,BN,f,TK,b,IL,a,d,e,pa,rb,rc,o,g,i];rfl
end
theorem wrap64(n:Nat):IntKind.wrap .u64 (n:Int)=((n % l5:Nat):Int):=by rfl
theorem amd(n:Nat): ((n:Nat):Int).tmod 8=((n % 8:Nat):Int):=by rfl
section
variable{t:Task}{cv:AV}(hv:Rv cv 5 (t.code.map cX))(jm:lr t)
include hv jm
theorem ayF(r:bE)(z:r.w<4294967296/\r.e<4294967296)(H:List ae)(lo:oN):
  D X0 (.fn (.func IM) [] []) [.agg (cY t cv),.agg (bF r)] ⟨H,lo⟩=some (.ret (.agg (cY (sT t r) cv)) ⟨H,lo⟩):=by
 refine aF Fu λN i=>?_
 have b:=λH lo=>Wx hv jm H lo
 have hw:=λH lo=>Wy hv jm H lo
 have e: [AV.int .u8 0,.int .u8 0,.int .u8 0,.int .u8 0,.int .u16 0]=cX CI:=rfl;have d: [AV.int .u8 0,.int .u32 0,.int .u32 0,.int .u32 0,.int .u32 0,.int .u64 0]=bf nr:=rfl;have k: ∀c,(bf c).length=6:=λ_=>rfl
 have l: ∀c,List.drop 6 (bf c)=[]:=λ_=>rfl
 have j: ∀c,aG (bf c)=0:=λ_=>rfl
 have f:=λt:Task=>GF (t:=t) (cM hv (bA (λ_=>rfl) _))
 have w:=jm.next;have u: (bF r)[0]?=some (.int .i64 r.e):=rfl;have s: (bF r)[1]?=some (.int .u64 r.v):=rfl;have q: (bF r)[2]?=some (.int .u32 r.w):=rfl;unfold GH at b;unfold sT;cases hx:rC t with
 |none=>
  rw[hx]at b;simp only[azi,ayt]at b;simp only[F1,go_sem,simprocAttr,Fu,i,TK,b,hw,IL,e,d,k,l,j,f]
 |some x=>
  rw[hx]at b;simp only[amC,ays]at b;have ho:=GJ jm hx;cases g: (ir t).2 with
  |false=>
   rw[g]at hw;simp only[F1,go_sem,simprocAttr,Fu,i,TK,b,hw,IL,e,d,k,l,j,f]
  |true=>
   rw[g]at hw;have h:x.a % 8<8:=by omega
   have y: (0:Int)<=(x.a % 8:Nat)/\ ((x.a % 8:Nat):Int)<8:=by omega
   have m:=λ (t:Task) (v:Nat)=>GG (t:=t) (cv:=cv) (v:=v) h
   have p: ∀ (t:Task) (v:Nat),aH (cY t cv) 6 [.int .u64 v]=cY {t with aT:=ar t.aT 4 v} cv:=λ_ _=>rfl
   have o: ∀ (t:Task) (v:Nat),aH (cY t cv) 9 [.int .u64 v]=cY {t with aT:=ar t.aT 7 v} cv:=λ_ _=>rfl
   have s1: ∀ (t:Task) (n:Nat),aH (cY t cv) 1 [.int .i64 ((n:Int)+1)]=cY {t with next:=n+1} cv:=λ_ _=>rfl
   simp only[aiH];simp(disch:=omega) only[F1,go_sem,simprocAttr,Fu,i,TK,b,hw,IL,e,d,k,l,j,f,amd,y,m,p,o,s1,u,s,q];omega
end
section
variable{t:Task}{cv:AV}{x:dE}{n u5 u7 u8 a:Nat}{H:List ae}(hv:Rv cv 5 (t.code.map cX))(jm:lr t)(hx:GD x)(ha:a<8)(hn:H[n]?=some (.box (cY t cv) none))(h5:H[u5]?=some (.box (cX x) none))(h7:H[u7]?=some (.box [.ptr n (2+a)] none))(h8:H[u8]?=some (.box [.int .i64 ((t.next:Int)+1)] none))(lo:oN)
abbrev M5(t:Task)(a v:Nat):Task:={t with aT:=ar t.aT a v}
include ha hn h5 h7 hx in
theorem ayG:D X0 (.fn (.func A0) [] [.ptr u5 0,.ptr u7 0]) [] ⟨H,lo⟩=some (.ret (.au []) ⟨H.set n (.box (cY (M5 t a x.n) cv) none),lo⟩):=by
 refine eP RQ λN c=>?_
 have b: ∀o,(H.set n o).take N=H.set n o:=λo=>agQ (by simp[c])
 have e:=hx.n;have f:2+a<=9:=by omega
 have d:=λ (v:Nat)=>GG (t:=t) (cv:=cv) (v:=v) ha
 simp(disch:=omega) only[F1,go_sem,simprocAttr,RQ,c,hn,h5,h7,IL,d,b,xN,f]
include ha hn h5 h7 hx in
theorem ayH:D X0 (.fn (.func A1) [] [.ptr n 0,.ptr u5 0,.ptr u7 0]) [] ⟨H,lo⟩=some (.ret (.au []) ⟨H.set n (.box (cY (M5 t a ((t.aT x.b+t.aT x.c) % l5)) cv) none),lo⟩):=by
 refine eP RR λN c=>?_
 have b: ∀o,(H.set n o).take N=H.set n o:=λo=>agQ (by simp[c])
 have e:2+a<=9:=by omega
 have d:=λ (v:Nat)=>GG (t:=t) (cv:=cv) (v:=v) ha
 have rb:=λH lo=>z0 (t:=t) (cv:=cv) H lo x.b hx.b
 have rc:=λH lo=>z0 (t:=t) (cv:=cv) H lo x.c hx.c
 have hw:IntKind.wrap .u64 ((t.aT x.b:Int)+t.aT x.c)=(((t.aT x.b+t.aT x.c) % l5:Nat):Int):=wrap64 (t.aT x.b+t.aT x.c);simp(disch:=omega) only[F1,go_sem,simprocAttr,RR,c,hn,h5,h7,IL,TK,rb,rc,hw,d,b,e]
include jm ha hn h5 h7 hx in
theorem ayI:D X0 (.fn (.func A2) [] [.ptr n 0,.ptr u5 0,.ptr u7 0]) [] ⟨H,lo⟩=some (.ret (.au []) ⟨H.set n (.box (cY (M5 t a ((t.aT x.b+l5-t.aT x.c) % l5)) cv) none),lo⟩):=by
 refine eP RS λN c=>?_
 have b: ∀o,(H.set n o).take N=H.set n o:=λo=>agQ (by simp[c])
 have e:2+a<=9:=by omega
 have d:=λ (v:Nat)=>GG (t:=t) (cv:=cv) (v:=v) ha
 have rb:=λH lo=>z0 (t:=t) (cv:=cv) H lo x.b hx.b
 have rc:=λH lo=>z0 (t:=t) (cv:=cv) H lo x.c hx.c
 have g:=jm.aT x.b;have f:=jm.aT x.c;have hw:IntKind.wrap .u64 ((t.aT x.b:Int)-t.aT x.c)=(((t.aT x.b+l5-t.aT x.c) % l5:Nat):Int):=by
  unfold IntKind.wrap IntKind.bits IntKind.signed l5;simp;omega
 simp(disch:=omega) only[F1,go_sem,simprocAttr,RS,c,hn,h5,h7,IL,TK,rb,rc,hw,d,b,e]
include ha hn h5 h7 hx in
theorem ayJ:D X0 (.fn (.func A3) [] [.ptr n 0,.ptr u5 0,.ptr u7 0]) [] ⟨H,lo⟩=some (.ret (.au []) ⟨H.set n (.box (cY (M5 t a (t.aT x.b*2^x.n % l5)) cv) none),lo⟩):=by
 refine eP RT λN d=>?_
 have b: ∀o,(H.set n o).take N=H.set n o:=λo=>agQ (by simp[d])
 have f:2+a<=9:=by omega
 have e:=λ (v:Nat)=>GG (t:=t) (cv:=cv) (v:=v) ha
 have rb:=λH lo=>z0 (t:=t) (cv:=cv) H lo x.b hx.b
 have c:kW .shl (.int .u64 (t.aT x.b)) (.int .u16 x.n)=some (.int .u64 ((t.aT x.b*2^x.n % l5:Nat))):=by
  rw[AF,afl (by omega)];have i: ∀k:Nat,((2:Int)^k)=((2^k:Nat):Int):=λk=>by rw[Int.natCast_pow];rfl
  rw[i,<-Int.natCast_mul,wrap64];have l:IntKind.u64.bits=64:=rfl;by_cases h:x.n<=64
  ·rw[show min ((x.n:Nat):Int).toNat IntKind.u64.bits=x.n by omega]
  ·rw[show min ((x.n:Nat):Int).toNat IntKind.u64.bits=64 by omega];have e1:t.aT x.b*2^64 % l5=0:=Nat.mul_mod_left _ _;have j:t.aT x.b*2^x.n % l5=0:=by
    obtain⟨k,g⟩:=Nat.exists_eq_add_of_le (show 64<=x.n by omega);rw[g,Nat.pow_add,<-Nat.mul_assoc,Nat.mul_right_comm];exact Nat.mul_mod_left _ _
   rw[e1,j]
 simp(disch:=omega) only[F1,go_sem,simprocAttr,RT,d,hn,h5,h7,IL,TK,rb,c,e,b,f]
include h5 h8 hx in
theorem ayK:D X0 (.fn (.func A4) [] [.ptr u5 0,.ptr u8 0]) [] ⟨H,lo⟩=some (.ret (.au []) ⟨H.set u8 (.box [.int .i64 x.n] none),lo⟩):=by
 refine eP RU λN c=>?_
 have b: ∀o,(H.set u8 o).take N=H.set u8 o:=λo=>agQ (by simp[c])
 have d:=hx.n;simp(disch:=omega) only[F1,go_sem,simprocAttr,RU,c,h5,h8,IL,b]
include ha hn h5 h7 h8 hx in
theorem ayL:D X0 (.fn (.func A5) [] [.ptr u7 0,.ptr u5 0,.ptr u8 0]) [] ⟨H,lo⟩=some (.ret (.au []) ⟨H.set u8 (.box [.int .i64 ((if t.aT a≠0 then x.n else t.next+1:Nat))] none),lo⟩):=by
 refine eP K3 λN c=>?_
 have b: ∀o,(H.set u8 o).take N=H.set u8 o:=λo=>agQ (by simp[c])
 have f:=hx.n;have g:2+a<=9:=by omega
 by_cases h:t.aT a=0
 ·have d: ((t.aT a:Nat):Int)=0:=by omega
  rw[afi (by omega)];have e:H.set u8 (.box [.int .i64 ((t.next+1:Nat):Int)] none)=H:=qc h8;rw[e];simp(disch:=omega) only[F1,go_sem,simprocAttr,K3,c,hn,h5,h7,h8,IL,Ww ha,d,b]
 ·have d: ¬((t.aT a:Nat):Int)=0:=by omega
  rw[afl (by omega)];simp(disch:=omega) only[F1,go_sem,simprocAttr,K3,c,hn,h5,h7,h8,IL,Ww ha,d,b]
end
def Wz(N:Nat):List (AV×AV):=[(.int .u8 1,.fn (.func A0) [] [.ptr (N+3) 0,.ptr (N+4) 0]),(.int .u8 2,.fn (.func A1) [] [.ptr N 0,.ptr (N+3) 0,.ptr (N+4) 0]),(.int .u8 3,.fn (.func A2) [] [.ptr N 0,.ptr (N+3) 0,.ptr (N+4) 0]),(.int .u8 4,.fn (.func A3) [] [.ptr N 0,.ptr (N+3) 0,.ptr (N+4) 0]),(.int .u8 5,.fn (.func A4) [] [.ptr (N+3) 0,.ptr (N+5) 0]),(.int .u8 6,.fn (.func A5) [] [.ptr (N+4) 0,.ptr (N+3) 0,.ptr (N+5) 0])]
def oQ(N k:Nat):List (AV×AV):=(Wz N).take k
theorem ayM(N:Nat):ae.map []= .map (oQ N 0):=rfl
def CJ{N:Nat}{H:List ae}(a:H.length=N)(B:List ae)(b:B.length=6){key:Int}(d:v.refs<=N+7)(h:lH (.int .u8 key) v (oQ N k)=some (oQ N (k+1)))(lo:oN):
  mf ⟨H++(B++[.map (oQ N k)]),lo⟩ .int (.mp (N+6)) (.int .u8 key) v=some ⟨H++(B++[.map (oQ N (k+1))]),lo⟩:=by
 simp only[mf,kM,aiH];have e: (H++(B++[ae.map (oQ N k)]))[N+6]?=some (.map (oQ N k)):=by grind
 simp only[e,h];have c: (H++(B++[ae.map (oQ N k)])).set (N+6) (.map (oQ N (k+1)))=H++(B++[.map (oQ N (k+1))]):=by
  rw[apu _ _ (by omega),apu _ _ (by omega)];simp[a,b]
 simp only[AS.set,c]
 grind
def oR(N a:Nat):Option AV:=match a with
 |1=>some (.fn (.func A0) [] [.ptr (N+3) 0,.ptr (N+4) 0])
 |2=>some (.fn (.func A1) [] [.ptr N 0,.ptr (N+3) 0,.ptr (N+4) 0])
 |3=>some (.fn (.func A2) [] [.ptr N 0,.ptr (N+3) 0,.ptr (N+4) 0])
 |4=>some (.fn (.func A3) [] [.ptr N 0,.ptr (N+3) 0,.ptr (N+4) 0])
 |5=>some (.fn (.func A4) [] [.ptr (N+3) 0,.ptr (N+5) 0])
 |6=>some (.fn (.func A5) [] [.ptr (N+4) 0,.ptr (N+3) 0,.ptr (N+5) 0])
 |_=>none
def ayN(N a:Nat):dR (.int .u8 a) (oQ N 6)=some (oR N a):=by
 by_cases h:a<=6
 ·rcases(show a=0\/a=1\/a=2\/a=3\/a=4\/a=5\/a=6 by omega)with q|q|q|q|q|q|q<;>subst q<;>rfl
 ·have e:oR N a=none:=by unfold oR;grind
  rw[e];have b: ∀k:Int,k<=6->(((a:Nat):Int)==k)=false:=λk c=>by grind
  show dR (.int .u8 a) (Wz N)=some none;unfold Wz;simp only[dR,oW,aiH,b 1 (by omega),b 2 (by omega),b 3 (by omega),b 4 (by omega),b 5 (by omega),b 6 (by omega)]
def ayO{t:Task}{cv:AV}(X:Rv cv 5 (t.code.map cX))(g:lr t)(H:List ae)(lo:oN):
  D X0 (.fn (.func P4) [] []) [.agg (cY t cv)] ⟨H,lo⟩=some (.ret (.agg (cY (rD t) cv)) ⟨H,lo⟩):=by
 refine aF KX λN d=>?_
 have L:=λH lo=>Wx X g H lo
 have hw:=λH lo=>Wy X g H lo
 have U: [AV.int .u8 0,.int .u8 0,.int .u8 0,.int .u8 0,.int .u16 0]=cX CI:=rfl;have G: [AV.int .u8 0,.int .u32 0,.int .u32 0,.int .u32 0,.int .u32 0,.int .u64 0]=bf nr:=rfl;have cl: ∀c,(bf c).length=6:=λ_=>rfl
 have cd: ∀c,List.drop 6 (bf c)=[]:=λ_=>rfl
 have cr: ∀c,aG (bf c)=0:=λ_=>rfl
 have a:=λt:Task=>GF (t:=t) (cM X (bA (λ_=>rfl) _))
 have hnx:=g.next;unfold rD;cases s: (ir t).2 with
 |true=>
  rw[s]at hw;rw[afl rfl];simp only[F1,go_sem,simprocAttr,KX,d,TK,hw,G,cl,cd,cr,a]
 |false=>
  rw[s]at hw;rw[afi (by simp)];cases V:rC t with
  |none=>
   have: (ir t).2=true:=by unfold ir;rw[V]
   rw[s]at this;cases this
  |some x=>
   unfold GH at L;rw[V]at L;simp only[amC,ays]at L;have ho:=GJ g V;have i:x.a % 8<8:=by omega
   have hb: (0:Int)<=(x.a % 8:Nat)/\ ((x.a % 8:Nat):Int)<8:=by omega
   obtain⟨B,hB⟩: ∃B:List ae,B=[.box (cY t cv) none,.box [.ai,.int .i64 0,.int .u64 0,.int .u64 0,.int .u64 0,.int .u64 0,.int .u64 0,.int .u64 0,.int .u64 0,.int .u64 0] none,.box (bf (ir t).1) none,.box (cX x) none,.box [.ptr N (2+x.a % 8)] none,.box [.int .i64 ((t.next:Int)+1)] none]:=⟨_,rfl⟩;have hm:=ayM N;have l4:N<=N+4:=by omega
   have S:=CJ (k:=0) (key:=1) (v:=.fn (.func A0) [] [.ptr (N+3) 0,.ptr (N+4) 0]) d B (by rw[hB];rfl) (by simp[AV.refs,aG]) rfl;have R:=CJ (k:=1) (key:=2) (v:=.fn (.func A1) [] [.ptr N 0,.ptr (N+3) 0,.ptr (N+4) 0]) d B (by rw[hB];rfl) (by simp[AV.refs,aG]) rfl;have Q:=CJ (k:=2) (key:=3) (v:=.fn (.func A2) [] [.ptr N 0,.ptr (N+3) 0,.ptr (N+4) 0]) d B (by rw[hB];rfl) (by simp[AV.refs,aG]) rfl;have P:=CJ (k:=3) (key:=4) (v:=.fn (.func A3) [] [.ptr N 0,.ptr (N+3) 0,.ptr (N+4) 0]) d B (by rw[hB];rfl) (by simp[AV.refs,aG]) rfl;have O:=CJ (k:=4) (key:=5) (v:=.fn (.func A4) [] [.ptr (N+3) 0,.ptr (N+5) 0]) d B (by rw[hB];rfl) (by simp[AV.refs,aG]) rfl;have M:=CJ (k:=5) (key:=6) (v:=.fn (.func A5) [] [.ptr (N+4) 0,.ptr (N+3) 0,.ptr (N+5) 0]) d B (by rw[hB];rfl) (by simp[AV.refs,aG]) rfl;rw[hB]at S R Q P O M;simp only[akr,aiL]at S R Q P O M;simp(disch:=omega) only[go_sem,simprocAttr,KX,d,TK,hw,L,IL,U,G,cl,cd,cr,amd,hb,hm,l4,S,R,Q,P,O,M];have Y: ∀E:AS,E.heap[N+6]?=some (.map (oQ N 6))->gQ X0.fa E .int .cJ (.mp (N+6)) (.int .u8 x.op) true=some (match oR N x.op with|some v=>.au [v,.bool true]|none=>.au [.cJ,.bool false]):=by
    intro E h;simp only[gQ,kM,aiH,mapOf,h,ayN];cases oR N x.op<;>rfl
   rw[Y _ (by rw[bz d];rfl)];obtain⟨W,u⟩: ∃W,W=H++[.box (cY t cv) none,.box [.ai,.int .i64 0,.int .u64 0,.int .u64 0,.int .u64 0,.int .u64 0,.int .u64 0,.int .u64 0,.int .u64 0,.int .u64 0] none,.box (bf (ir t).1) none,.box (cX x) none,.box [.ptr N (2+x.a % 8)] none,.box [.int .i64 ((t.next:Int)+1)] none,.map (oQ N 6)]:=⟨_,rfl⟩;have w0:W[N]?=some (.box (cY t cv) none):=by rw[u,dh d];rfl
   have w1:W[N+1]?=some (.box [.ai,.int .i64 0,.int .u64 0,.int .u64 0,.int .u64 0,.int .u64 0,.int .u64 0,.int .u64 0,.int .u64 0,.int .u64 0] none):=by rw[u,bz d];rfl
   have y:W[N+3]?=some (.box (cX x) none):=by rw[u,bz d];rfl
   have C:W[N+4]?=some (.box [.ptr N (2+x.a % 8)] none):=by rw[u,bz d];rfl
   have A:W[N+5]?=some (.box [.int .i64 ((t.next:Int)+1)] none):=by rw[u,bz d];rfl
   have wt:W.take N=H:=by rw[u,mn d]
   rw[<-u];have I:=λo=>cN (o:=o) w0
   have f: ∀o,(W.set N o)[N+1]?=_:=λo=>(aex (by omega)).trans w1
   have m: ∀o,(W.set N o)[N+5]?=_:=λo=>(aex (by omega)).trans A
   have g5:=λo=>cN (o:=o) A
   have w: ∀o,(W.set (N+5) o)[N]?=_:=λo=>(aex (by omega)).trans w0
   have Z: ∀o,(W.set (N+5) o)[N+1]?=_:=λo=>(aex (by omega)).trans w1
   have q:=λo o'=>cN (o:=o') (w o)
   have l: ∀o o',((W.set (N+5) o).set N o')[N+1]?=_:=λo o'=>(aex (by omega)).trans (Z o)
   have b:=λo o'=>cN (o:=o') (f o)
   have j:=λo o' J=>cN (o:=J) (l o o')
   have t0: ∀o o',((W.set N o).set (N+1) o').take N=H:=λo o'=>by rw[arl (by omega),arl (by omega),wt]
   have t5: ∀o o' J,(((W.set (N+5) o).set N o').set (N+1) J).take N=H:=λo o' J=>by rw[arl (by omega),arl (by omega),arl (by omega),wt]
   have s1: ∀ (t:Task) (n:Nat),aH (cY t cv) 1 [.int .i64 ((n:Int)+1)]=cY {t with next:=n+1} cv:=λ_ _=>rfl
   have t10: ∀t:Task,List.take 10 (cY t cv)=cY t cv:=λ_=>rfl
   have c1:=λlo=>ayG ho i w0 y C lo
   have c2:=λlo=>ayH ho i w0 y C lo
   have c3:=λlo=>ayI g ho i w0 y C lo
   have c4:=λlo=>ayJ ho i w0 y C lo
   have c5:=λlo=>ayK ho y A lo
   have c6:=λlo=>ayL ho i w0 y C A lo
   have eb:x.b % 8=x.b:=ao0 ho.b;have ec:x.c % 8=x.c:=ao0 ho.c;rw[eb,ec];by_cases p:x.op=1
   ·rw[afl p,p];simp only[oR];simp only[F1,go_sem,simprocAttr,c1,I,f,m,b,t0,anc,TK,s1,t10,a]
   ·by_cases r:x.op=2
    ·rw[afi p,afl r,r];simp only[oR];simp only[F1,go_sem,simprocAttr,c2,I,f,m,b,t0,anc,TK,s1,t10,a]
    ·by_cases z:x.op=3
     ·rw[afi p,afi r,afl z,z];simp only[oR];simp only[F1,go_sem,simprocAttr,c3,I,f,m,b,t0,anc,TK,s1,t10,a]
     ·by_cases F:x.op=4
      ·rw[afi p,afi r,afi z,afl F,F];simp only[oR];simp only[F1,go_sem,simprocAttr,c4,I,f,m,b,t0,anc,TK,s1,t10,a]
      ·by_cases K:x.op=5
       ·rw[afi p,afi r,afi z,afi F,afl K,K];simp only[oR];simp only[F1,go_sem,simprocAttr,c5,g5,w,q,l,j,t5,TK,t10,a]
       ·by_cases T:x.op=6
        ·rw[afi p,afi r,afi z,afi F,afi K,afl T,T];simp only[oR];simp only[F1,go_sem,simprocAttr,c6,g5,w,q,l,j,t5,TK,t10,a]
        ·rw[afi p,afi r,afi z,afi F,afi K,afi T];have e:oR N x.op=none:=by unfold oR;split<;>first|omega|rfl
         rw[e];simp only[F1,go_sem,simprocAttr,w0,A,I,f,b,t0,TK,s1,t10,a]
instance:Inhabited dE:=⟨CI⟩
def ayP(v fv:AV)(l:List dE)(H:List ae)(c:Rd ⟨H,none⟩ v 5 (l.map cX))(s:l.length<2147483648)(p:dE->Bool)(lo:oN)
  (q: ∀x∈l,D X0 fv [.agg (cX x)] ⟨H,none⟩=some (.ret (.bool (p x)) ⟨H,none⟩)):D X0 (.fn (.func Qp) [] []) [v,fv] ⟨H,lo⟩=some (.ret (.int .i64 (gi p l)) ⟨H,lo⟩):=by
 refine aF Sf λN w=>?_
 simp only[go_sem,simprocAttr,Sf,c.bK];refine dU l.length (λk e H'=>H'=H/\e 0=v/\e 1=fv/\e 7= .int .i64 l.length/\e 8= .int .i64 k/\ ∀j,j<k->p (l.getD j default)=false) 0 (by omega) ?_ ?_
 ·simp only[go_sem,simprocAttr];omega
 ·rintro k t e H' ⟨rfl,o,m,i,g,d⟩ n r;simp(disch:=omega) only[bR,F1,go_sem,simprocAttr,agi,o,m,i,g];refine⟨λh=>?_,λh=>?_⟩
  ·have a:k<l.length:=by omega
   have b: ∀x,Den.part true 5 (cX x) 0=some (.agg (cX x)):=λ_=>rfl
   simp(disch:=omega) only[go_sem,simprocAttr,c.ck,c.cE,↓b,q _ (eX a)];refine⟨by omega,?_⟩;cases f:p (l.getD k default)
   ·simp(disch:=omega) only[go_sem,simprocAttr,o,m,i,g];exact⟨a,mO d f⟩
   ·simp(disch:=omega) only[F1,go_sem,simprocAttr];rw[vy a d f]
  ·rw[vz (λj u=>d j (by omega))]
def ayQ(v fv:AV)(l:List dE)(H:List ae)(a:Rd ⟨H,none⟩ v 5 (l.map cX))(b:l.length<2147483648)(p:dE->Bool)(lo:oN)
  (c: ∀x∈l,D X0 fv [.agg (cX x)] ⟨H,none⟩=some (.ret (.bool (p x)) ⟨H,none⟩)):D X0 (.fn (.func Qh) [] []) [v,fv] ⟨H,lo⟩=some (.ret (.bool (l.any p)) ⟨H,lo⟩):=by
 refine aF R5 λN d=>?_
 simp(disch:=omega) only[F1,go_sem,simprocAttr,R5,ayP v fv l H a b p none c,xq]
def ayR(x:dE)(n:Nat)(f:x.op<256/\x.a<256/\x.b<256/\x.c<256/\x.n<65536)(k:n<2147483648)(H:List ae)(lo:oN):
  D X0 (.fn (.func Qj) [] []) [.agg (cX x),.int .i64 n] ⟨H,lo⟩=some (.ret (.bool (rA x n)) ⟨H,lo⟩):=by
 refine aF R7 λN g=>?_
 obtain⟨q,p,o,m,l⟩:=f;simp only[go_sem,simprocAttr,R7,g,IL];refine uE 5 (.bool (decide (16<x.op)&&decide (x.op<=38))) [1,2] rfl rfl ?_ λr=>?_
 ·simp(disch:=omega) only[R4,go_sem,simprocAttr,IL]
  (repeat' (first|apply And.intro|intro _))
  all_goals(refine akp AV.bool (apk.2 ?_);simp[];try(intros;omega))
 simp(disch:=omega) only[go_sem,simprocAttr,IL];refine uE 6 (.bool (decide (x.op=5)||decide (x.op=6))) [1,2,5] rfl rfl ?_ λe1=>?_
 ·simp(disch:=omega) only[R4,go_sem,simprocAttr,IL]
  (repeat' (first|apply And.intro|intro _))
  all_goals(refine akp AV.bool (apk.2 ?_);simp[];try(intros;omega))
 have a:fX qt [.int .u8 (x.a:Nat),.int .u8 (x.b:Nat),.int .u8 (x.c:Nat)]=some (.int .u8 ((max (max x.a x.b) x.c:Nat))):=by
  have e:fX qt [.int .u8 (x.a:Nat),.int .u8 (x.b:Nat),.int .u8 (x.c:Nat)]=some (.int .u8 (if(x.c:Int)>(if(x.b:Int)>x.a then(x.b:Int)else x.a)then(x.c:Int)else(if(x.b:Int)>x.a then(x.b:Int)else x.a))):=by simp[fX,qt]
  rw[e];congr 2;split<;>split<;>omega
 have b:decide (((max (max x.a x.b) x.c:Nat):Int)<8)=decide (x.a<8/\x.b<8/\x.c<8):=ahb.2 (by omega);have d:decide ((x.op:Int)<=6)=decide (x.op<=6):=ahb.2 (by omega);have c:decide ((x.n:Int)<n)=decide (x.n<n):=ahb.2 (by omega);unfold rA;generalize decide (x.op<=6)=j at*;generalize decide (x.a<8/\x.b<8/\x.c<8)=i at*;generalize decide (x.n<n)=h at*;generalize(decide (16<x.op)&&decide (x.op<=38))=A at*;generalize(decide (x.op=5)||decide (x.op=6))=J at*;cases j<;>cases A<;>cases i<;>cases J<;>cases h<;>simp(disch:=omega) only[F1,go_sem,simprocAttr,IL,d,a,b,c,Bool.or_false,azc,asR,Bool.or_true,awz,aAX]
def ayS(v:AV)(l:List dE)(p:l.length<2147483648)(q: ∀x∈l,x.op<256/\x.a<256/\x.b<256/\x.c<256/\x.n<65536)(N:Nat)(H:List ae)(f:Rd ⟨H,none⟩ v 5 (l.map cX))(lo:oN)(r:v.refs<=H.length)(t:v.cb=false/\v.cells=[v]):
  D X0 (.fn (.func Qd) [] []) [v] ⟨H,lo⟩=some (.ret (.bool (p7 l)) ⟨H,lo⟩):=by
 refine aF K4 λN m=>?_
 have b: ∀lo,qF ⟨H,lo⟩ v none=some (.ptr N 0,⟨H++[.box [v] none],lo⟩):=λlo=>by
  have s:=f.kind;subst m;cases v<;>simp only[]at s<;>rfl
 have g:=f.bK;have a:Rd ⟨H++[.box [v] none],none⟩ v 5 (l.map cX):=f.ext;have j:=ayQ v (.fn (.func Qi) [] [.ptr N 0]) l (H++[.box [v] none]) a p (λx=>!rA x l.length) none (λx h=>by
  refine eP R6 λM n=>?_
  have k: ∀L,(H++(.box [v] none::L))[N]?=some (.box [v] none):=λL=>by rw[dh m];rfl
  have i: ∀L,fj ⟨H++(.box [v] none::L),none⟩ .sl v=some (.int .i64 l.length):=λL=>Rd.bK (f.ext (L:=.box [v] none::L))
  have hm:=λH lo=>ayR x l.length (q x h) p H lo
  have c: ∀x,Den.part true 5 (cX x) 0=some (.agg (cX x)):=λ_=>rfl
  obtain rfl:M=N+1:=by rw[<-n];simp[m]
  simp(disch:=omega) only[F1,go_sem,simprocAttr,R6,n,↓c,k,i,hm];refine da rfl ?_;have e:H++[ae.box [v] none,.box (cX x) none]=(H++[.box [v] none])++[.box (cX x) none]:=by simp
  rw[e,ape n])
 unfold p7;by_cases d:l.length<=64
 ·have o: ((l.length:Nat):Int)<=64:=by omega
  rw[agR d,anz];simp(disch:=omega) only[F1,go_sem,simprocAttr,K4,b,a.bK,o,j];rw[azb]
 ·have o: ¬((l.length:Nat):Int)<=64:=by omega
  rw[afv d,akq];simp(disch:=omega) only[F1,go_sem,simprocAttr,K4,b,a.bK,o]
def qk(l:lB):dE:=⟨(l.getD 0 0).toNat,(l.getD 1 0).toNat,(l.getD 2 0).toNat,(l.getD 3 0).toNat,(l.getD 4 0).toNat+256*(l.getD 5 0).toNat⟩
def ayT{s:lB}(h:k+6<=s.length):rB (s.drop k)=qk (s.drop k)::rB (s.drop (k+6)):=by
 have e:s.drop (k+6)=(s.drop k).drop 6:=by simp
 rw[e];have g:6<=(s.drop k).length:=by grind
 generalize s.drop k=l at*
 match l,g with
 |a::b::c::d::e::f::r,_=>rfl
def ayU(e f:Nat)(a:e<256)(d:f<256):dg .or (.int .u16 e) (.int .u16 ((f*256:Nat)))=some (.int .u16 ((e+256*f:Nat))):=by
 rw[HU];have e1: ∀n:Nat,n<65536->(BitVec.ofInt IntKind.u16.bits (n:Int)).toNat=n:=by
  have:IntKind.u16.bits=16:=rfl
  grind
 have c:e|||f*256=e+256*f:=by
  have:=Nat.shiftLeft_add_eq_or_of_lt (b:=e) (i:=8) a f;rw[Nat.shiftLeft_eq]at this
  grind
 rw[BitVec.toNat_or,e1 e (by omega),e1 (f*256) (by omega),c];have:IntKind.wrap .u16 ((e+256*f:Nat):Int)=((e+256*f:Nat):Int):=by
  unfold IntKind.wrap IntKind.bits IntKind.signed;grind
 rw[this]
def ayV(f:Nat)(a:f<256):kW .shl (.int .u16 f) (.int .u64 8)=some (.int .u16 ((f*256:Nat))):=by
 rw[AF,afl (by omega)];have:IntKind.wrap .u16 ((f:Int)*2^(min (8:Int).toNat IntKind.u16.bits))=((f*256:Nat):Int):=by
  have h:min (8:Int).toNat IntKind.u16.bits=8:=rfl;rw[h];unfold IntKind.wrap IntKind.bits IntKind.signed;grind
 rw[this]
def ayW{H:List ae}{n:Nat}{s:lB}(k:H[n]?=some (.box [.int .u8 0,.int .u8 0,.int .u8 0,.int .u8 0,.int .u8 0,.int .u8 0] none))(j:6<=s.length):
  rQ ⟨H,lo⟩ 1 (.eZ n 1 0 6) (S s)=some (.int .i64 6,⟨H.set n (.box [.int .u8 (s.getD 0 0).toNat,.int .u8 (s.getD 1 0).toNat,.int .u8 (s.getD 2 0).toNat,.int .u8 (s.getD 3 0).toNat,.int .u8 (s.getD 4 0).toNat,.int .u8 (s.getD 5 0).toNat] none),lo⟩):=by
 match s,j with
 |a::b::c::d::e::f::r,_=>
  have l:CY ⟨H,lo⟩ 1 (S (a::b::c::d::e::f::r))=some ((a::b::c::d::e::f::r).map λx=>[.int .u8 x.toNat]):=by
   simp only[CY,S,aiH];rfl
  have i:b8 ((a::b::c::d::e::f::r).map λx:UInt8=>[AV.int .u8 x.toNat])=0:=bA (g:=λx:UInt8=>[AV.int .u8 x.toNat]) (λ_=>rfl) _;have h: ((a::b::c::d::e::f::r).map λx:UInt8=>[AV.int .u8 x.toNat]).all (λel=>el.length==1)=true:=by simp
  have m: ((a::b::c::d::e::f::r).map λx:UInt8=>[AV.int .u8 x.toNat]).length.min 6=6:=by
   show min _ 6=6;simp
  simp only[rQ,l,k,m,i,AS.set,h];rw[afl ⟨trivial,by decide,trivial⟩,afl (agS _)];rfl
def ayX(l:lB): (qk l).op<256/\ (qk l).a<256/\ (qk l).b<256/\ (qk l).c<256/\ (qk l).n<65536:=by
 have h: ∀u:UInt8,u.toNat<256:=λu=>u.toNat_lt
 refine⟨h _,h _,h _,h _,?_⟩;have b:=h (l.getD 4 0);have a:=h (l.getD 5 0);show(l.getD 4 0).toNat+256*(l.getD 5 0).toNat<65536;omega
def gl(s:lB)(k:Nat):List dE:=(List.range k).map λi=>qk (s.drop (6*i))
def WA(s:lB)(k:Nat):gl s (k+1)=gl s k++[qk (s.drop (6*k))]:=by unfold gl;rw[aqZ,ag9];rfl
theorem ame{s:lB}: ∀m k,6*(k+m)=s.length->gl s k++rB (s.drop (6*k))=gl s (k+m)
 |0,k,h=>by
  have:s.drop (6*k)=[]:=akU (by omega);rw[this];simp[rB]
 |m+1,k,h=>by
  have hle:6*k+6<=s.length:=by omega
  rw[ayT hle];have:=ame (s:=s) m (k+1) (by omega);rw[WA]at this
  grind
def amf{s:lB}(h:s.length % 6=0):rB s=gl s (s.length/6):=by
 have:=ame (s:=s) (s.length/6) 0 (by omega);simpa[gl]using this
def amg(s:lB)(H:List ae)(lo:oN):
  ∃v,D X0 (.fn (.func DV) [] []) [S s] ⟨H,lo⟩=some (.ret (.au [v,.int .i64 (if(decode s).isSome then 0 else 3:Nat)]) ⟨H,lo⟩)/\Rv v 5 (((decode s).getD []).map cX):=by
 suffices B: ∃o,D X0 (.fn (.func DV) [] []) [S s] ⟨H,lo⟩=some o/\ (λo=> ∃v,o=aS.ret (.au [v,.int .i64 (if(decode s).isSome then 0 else 3:Nat)]) ⟨H,lo⟩/\Rv v 5 (((decode s).getD []).map cX)) o by grind
 refine cz Fk λN A=>?_
 have tm: ((s.length:Nat):Int).tmod 6=((s.length % 6:Nat):Int):=by rfl
 by_cases G:s.length % 6=0
 ·have c:decide (((s.length % 6:Nat):Int)=0)=true:=agR (by omega);by_cases T:s.length<=384
  ·have g: ¬((s.length:Nat):Int)>384:=by omega
   simp only[go_sem,simprocAttr,Fk,tm,c,g];refine dU (s.length/6) (λk e W=>e 0=S (s.drop (6*k))/\H<+:W/\aQ N W (e 4) 5 afO ((gl s k).map cX)) 0 (by omega) ?_ ?_
   ·simp only[go_sem,simprocAttr];exact⟨arj,aQ.ai⟩
   rintro k R e W ⟨d,a,h⟩ n C;have K: (s.drop (6*k)).length=s.length-6*k:=anA ..;simp only[bR,go_sem,simprocAttr,af7,d,C];refine⟨λO=>?_,λO=>?_⟩
   ·have f:k<s.length/6:=by omega
    have P:6<=(s.drop (6*k)).length:=by omega
    have z:=λlo=>ayW (lo:=lo) (H:=W++[.box [.int .u8 0,.int .u8 0,.int .u8 0,.int .u8 0,.int .u8 0,.int .u8 0] none]) (n:=n) (s:=s.drop (6*k)) (by rw[dh C];rfl) P
    have r:uj (S (s.drop (6*k))) (some (.int .i64 6)) none=some (S (s.drop (6*(k+1)))):=by
     rw[HV,afl ⟨by omega,by omega⟩,aqX];rfl
    have E:qk (s.drop (6*k))=qk (s.drop (6*k)):=rfl;have F: ∀j,((s.drop (6*k)).getD j 0).toNat<256:=λj=>UInt8.toNat_lt _
    have Q:=F 4;have I:=F 5;have w:=ayU _ _ Q I;have t:=ayV _ I;simp(disch:=omega) only[go_sem,simprocAttr,d,akY,z,w,t];have l: (gl s k).length=k:=by simp[gl]
    refine o9 (N:=N) (H0:=H) (bytes:=6) (ys:=[cX (qk (s.drop (6*k)))]) h.ext (a.trans (arD _ _)) A (by omega) (by intro el y;rw[agV.1 y];rfl) rfl (by rw[agZ,l];show(k+1)*6<=room;unfold room;omega) λv' U p u=>?_
    simp only[go_sem,simprocAttr,d,r];refine⟨f,u,?_⟩;rw[WA,ag9];exact p
   ·have f:k=s.length/6:=by omega
    have m:rB s=gl s k:=by rw[f];exact amf G
    have l: (gl s k).length=k:=by simp[gl]
    have b:=λlo=>ayS (e 4) (gl s k) (by omega) (λx B=>by
     obtain⟨i,_,rfl⟩:=ag2.1 B;exact ayX _) 0 W (l7 h none) lo (by
     rcases h.2 with⟨q,_⟩| ⟨id,aj,_,q,J⟩
     ·rw[q];exact agS _
     ·rw[q];have:=fh J;simp only[AV.refs];omega) (oM (l7 h none))
    have d:decode s=if p7 (gl s k)then some (gl s k)else none:=by unfold decode;rw[afi (by omega),m]
    rw[d];cases hm:p7 (gl s k)with
    |true=>
     rw[hm]at b;simp only[go_sem,simprocAttr,b];rw[h.aeD (by rw[bA (λ_=>rfl)];omega) (agS _)];exact⟨_,da rfl (ll A λi M=>by obtain⟨L,rfl⟩:=a;rw[aez (by omega)]),aQ.sc h⟩
    |false=>
     rw[hm]at b;simp only[go_sem,simprocAttr,b];rw[xA rfl];exact⟨.ai,da rfl (ll A λi M=>by obtain⟨L,rfl⟩:=a;rw[aez (by omega)]),.ai⟩
  ·have g: ((s.length:Nat):Int)>384:=by omega
   have d:decode s=none:=by unfold decode;rw[afl (.inr (by omega))]
   rw[d];simp(disch:=omega) only[F1,go_sem,simprocAttr,Fk,tm,c,g];exact⟨.ai,rfl,.ai⟩
 ·have c:decide (((s.length % 6:Nat):Int)=0)=false:=afv (by omega);have d:decode s=none:=by unfold decode;rw[afl (.inl G)]
  rw[d];simp(disch:=omega) only[F1,go_sem,simprocAttr,Fk,tm,c];exact⟨.ai,rfl,.ai⟩
def ayY(b:UInt8)(H:List ae)(lo:oN):D X0 (.fn (.func P7) [] []) [.int .u8 b.toNat] ⟨H,lo⟩=some (.ret (.bool (lk b.toNat)) ⟨H,lo⟩):=by
 refine aF RF λN h=>?_
 generalize b.toNat=n at*;have e1:decide ((n:Int)<8)=decide (n<8):=ahb.2 (by omega);have c:decide ((n:Int)=8)=decide (n=8):=ahb.2 (by omega);have e3:decide (16<=(n:Int))=decide (16<=n):=ahb.2 (by omega);have a:decide ((n:Int)<24)=decide (n<24):=ahb.2 (by omega);unfold lk;generalize decide (n<8)=g at*;generalize decide (n=8)=f at*;generalize decide (16<=n)=e at*;generalize decide (n<24)=d at*;cases g<;>cases f<;>cases e<;>cases d<;>simp(disch:=omega) only[F1,go_sem,simprocAttr,RF,e1,c,e3,a,Bool.or_false,azc,asR,Bool.or_true]
def ayZ(p:lB)(H:List ae)(lo:oN):D X0 (.fn (.func IF) [] []) [S p] ⟨H,lo⟩=some (.ret (.bool (!(decode p).isSome)) ⟨H,lo⟩):=by
 refine aF KY λN b=>?_
 obtain⟨v,d1,_⟩:=amg p H none;cases a: (decode p).isSome with
 |true=>
  rw[a]at d1;simp(disch:=omega) only[F1,go_sem,simprocAttr,KY,d1]
 |false=>
  rw[a]at d1;simp(disch:=omega) only[F1,go_sem,simprocAttr,KY,d1]
def ay0(b:UInt8)(H:List ae)(lo:oN):D X0 (.fn (.func IG) [] []) [.int .u8 b.toNat] ⟨H,lo⟩=some (.ret (.bool (!lk b.toNat)) ⟨H,lo⟩):=by
 refine aF RE λN a=>?_
 simp(disch:=omega) only[F1,go_sem,simprocAttr,RE,ayY]
structure GK(aN:Int)(aC:List lB)(aW:lB)(pv kv:AV):Prop where
 pr:Rv pv 1 (aC.map sC)
 pk:Rv kv 1 (aW.map bC)
 np:aC.length<1099511627776
 nk:aW.length<1099511627776
def ay1{a:Int}{c:lB}(h:GK a aC c pv kv)(o: -9223372036854775808<=a/\a<9223372036854775808)(H:List ae)(lo:oN):
  D X0 (.fn (.func PV) [] []) [.agg [.int .i64 a,pv,kv]] ⟨H,lo⟩=some (.ret (.bool (nu ⟨a,aC,c.map UInt8.toNat⟩)) ⟨H,lo⟩):=by
 refine aF Rq λN s=>?_
 have q:=cM h.pr (bA (λ_=>rfl) _);have r:=cM h.pk (bA (λ_=>rfl) _);have d:=λH lo=>atf pv (.fn (.func IF) [] []) aC h.pr h.np (λp=>!(decode p).isSome) H lo (λx _=>ayZ x H none)
 have e:=λH lo=>atd kv (.fn (.func IG) [] []) c h.pk h.nk (λb=>!lk b.toNat) H lo (λx _=>ay0 x H none)
 have n: (!aC.any λp=>!(decode p).isSome)=aC.all λp=>(decode p).isSome:=azb.symm
 have m: (!c.any λb=>!lk b.toNat)=c.all λb=>lk b.toNat:=azb.symm
 have l:nu ⟨a,aC,c.map UInt8.toNat⟩=(decide (1<=a/\a<=64/\1<=aC.length/\aC.length<=8/\c.length<=4000)&&aC.all (λp=>(decode p).isSome)&&c.all λb=>lk b.toNat):=by
  unfold nu;simp only[agZ,List.all_map];rfl
 have e1:decide (1<=a/\a<=64/\1<=aC.length/\aC.length<=8/\c.length<=4000)=(!decide (a<1)&& !decide (64<a)&& !decide ((aC.length:Int)<1)&& !decide (8< (aC.length:Int))&& !decide (4000< (c.length:Int))):=by
  rw[apk];simp;omega
 rw[l,e1,<-n,<-m];generalize k:decide (a<1)=A;generalize j:decide (64<a)=z;generalize i:decide ((aC.length:Int)<1)=y;generalize g:decide (8< (aC.length:Int))=w;generalize f:decide (4000< (c.length:Int))=v;generalize(aC.any λp=>!(decode p).isSome)=u at*;generalize(c.any λb=>!lk b.toNat)=t at*;clear n m l e1;cases A<;>cases z<;>cases y<;>cases w<;>cases v<;>simp only[F1,go_sem,simprocAttr,Rq,s,h.pr.bK,h.pk.bK,k,j,i,g,f,akq,asR,awz,aAX,azc,anz];cases u<;>cases t<;>simp(disch:=omega) only[F1,go_sem,simprocAttr,d,e,asR,awz,aAX,azc]
def ay2(p:lB)(H:List ae)(lo:oN):
  ∃cv,D X0 (.fn (.func PX) [] []) [S p] ⟨H,lo⟩=some (.ret (.au [.agg (cY {sU with code:=(decode p).getD []} cv),.int .i64 (if(decode p).isSome then 0 else 3:Nat)]) ⟨H,lo⟩)/\Rv cv 5 (((decode p).getD []).map cX):=by
 obtain⟨N,c⟩: ∃N,H.length=N:=⟨_,rfl⟩;obtain⟨v,d1,d2⟩:=amg p (H++[.box [.ai,.int .i64 0,.int .u64 0,.int .u64 0,.int .u64 0,.int .u64 0,.int .u64 0,.int .u64 0,.int .u64 0,.int .u64 0] none]) none;have a:=cM d2 (bA (λ_=>rfl) _);obtain⟨t1,t2⟩:=oM (d2 ⟨[],none⟩);cases b:decode p with
 |some l=>
  rw[b]at d1 d2;refine⟨v,?_,d2⟩;refine aF Fh λM d=>?_
  obtain rfl:M=N:=by omega
  simp only[F1,go_sem,simprocAttr,Fh,c,d1,t1,t2,a,pa];rfl
 |none=>
  rw[b]at d1 d2;simp only[ayt,agX,amn]at d1;refine⟨.ai,?_,.ai⟩;refine aF Fh λM d=>?_
  obtain rfl:M=N:=by omega
  simp only[F1,go_sem,simprocAttr,Fh,c,d1,pa];rfl
def xO(r:Runner)(cv rv:AV):lA:=cY r.t cv++(bL r.c rv++[.bool r.busy,.int .i64 r.fr])
def jR(e:Event):lA:=[.int .i64 e.aa]++(bf e.c++(ay e.run++(bF e.r++[.int .i64 e.fr,.int .i64 e.to])))
def cx(m:bb)(p:Nat)(aB aJ:Nat->AV)(ev:AV):lA:=[.ptr p 0]++(arr 8 (λi=>xO (m.aA i) (aB i) (aJ i))++[.int .i64 m.now,ev])
section
variable{m:bb}{p:Nat}{aB aJ:Nat->AV}{ev:AV}{i:Nat}
theorem M6: (arr 8 (λi=>xO (m.aA i) (aB i) (aJ i))).length=192:=by rfl
theorem oS: (cx m p aB aJ ev).length=195:=by rfl
def GL{ag:Bool}{o:Nat}(h:i<8)(ho:o+k<=24)(a:0<k):Den.part ag k (cx m p aB aJ ev) (1+i*24+o)=Den.part ag k (xO (m.aA i) (aB i) (aJ i)) o:=by
 unfold cx;rw[kc (by grind),show 1+i*24+o- [AV.ptr p 0].length=i*24+o by grind,q0 (by rw[M6];omega) a];exact la (k:=24) (f:=λi=>xO (m.aA i) (aB i) (aJ i)) (λ_=>rfl) h ho a
theorem ql: (cx m p aB aJ ev)[0]?=some (.ptr p 0):=rfl
theorem CK: (cx m p aB aJ ev)[193]?=some (.int .i64 m.now):=by rfl
theorem amh: (cx m p aB aJ ev)[194]?=some ev:=by rfl
theorem xP(h:i<8): (cx m p aB aJ ev)[1+i*24+22]?=some (.bool (m.aA i).busy):=GL (ag:=false) (k:=1) h (by omega) (by omega)
theorem ay3(h:i<8): (cx m p aB aJ ev)[1+i*24+23]?=some (.int .i64 (m.aA i).fr):=GL (ag:=false) (k:=1) h (by omega) (by omega)
theorem M7(h:i<8):Den.part true 10 (cx m p aB aJ ev) (1+i*24)=some (.agg (cY (m.aA i).t (aB i))):=GL (o:=0) h (by omega) (by omega)
theorem CM(h:i<8):Den.part true 12 (cx m p aB aJ ev) (1+i*24+10)=some (.agg (bL (m.aA i).c (aJ i))):=GL h (by omega) (by omega)
theorem M8(h:i<8):Den.part true 2 (cx m p aB aJ ev) (1+i*24+19)=some (.agg (ay (m.aA i).c.run)):=GL h (by omega) (by omega)
theorem ami{n:Nat}:aH (cx m p aB aJ ev) 193 [.int .i64 n]=cx {m with now:=n} p aB aJ ev:=by rfl
def amj:aH (cx m p aB aJ ev) 194 [v]=cx m p aB aJ v:=by
 unfold cx;rw[gu (by simp),gu (by rw[M6];simp),M6];rfl
def GM{o:Nat}{vs:lA}{r:Runner}{cv:AV}(h:i<8)(ho:o+vs.length<=24)(a:aH (xO (m.aA i) (aB i) (aJ i)) o vs=xO r cv rv):
  aH (cx m p aB aJ ev) (1+i*24+o) vs=cx {m with aA:=ar m.aA i r} p (ar aB i cv) (ar aJ i rv) ev:=by
 unfold cx;rw[gu (by grind),show 1+i*24+o- [AV.ptr p 0].length=i*24+o by grind,ra (by rw[M6];omega),om (k:=24) (f:=λi=>xO (m.aA i) (aB i) (aJ i)) (λ_=>rfl) h ho,a]
 congr 2
 refine FV λj _=>?_
 by_cases e:j=i
 ·subst e;simp only[cT]
 ·simp only[di e]
def WB{b:Bool}(h:i<8):aH (cx m p aB aJ ev) (1+i*24+22) [.bool b]=cx {m with aA:=ar m.aA i {m.aA i with busy:=b}} p aB aJ ev:=by
 have:=GM (m:=m) (p:=p) (aB:=aB) (aJ:=aJ) (ev:=ev) (o:=22) (vs:=[.bool b]) (r:={m.aA i with busy:=b}) (cv:=aB i) (rv:=aJ i) h (by simp) rfl;rwa[mH,mH]at this
def ay4{n:Nat}(h:i<8):aH (cx m p aB aJ ev) (1+i*24+23) [.int .i64 n]=cx {m with aA:=ar m.aA i {m.aA i with fr:=n}} p aB aJ ev:=by
 have:=GM (m:=m) (p:=p) (aB:=aB) (aJ:=aJ) (ev:=ev) (o:=23) (vs:=[.int .i64 n]) (r:={m.aA i with fr:=n}) (cv:=aB i) (rv:=aJ i) h (by simp) rfl;rwa[mH,mH]at this
def amk{t:Task}(h:i<8):aH (cx m p aB aJ ev) (1+i*24) (cY t (aB i))=cx {m with aA:=ar m.aA i {m.aA i with t:=t}} p aB aJ ev:=by
 have:=GM (m:=m) (p:=p) (aB:=aB) (aJ:=aJ) (ev:=ev) (o:=0) (vs:=cY t (aB i)) (r:={m.aA i with t:=t}) (cv:=aB i) (rv:=aJ i) h (by rw[xN];omega) rfl;rwa[mH,mH]at this
def z5{c:Call}(h:i<8):aH (cx m p aB aJ ev) (1+i*24+10) (bL c rv)=cx {m with aA:=ar m.aA i {m.aA i with c:=c}} p aB (ar aJ i rv) ev:=by
 have:=GM (m:=m) (p:=p) (aB:=aB) (aJ:=aJ) (ev:=ev) (o:=10) (vs:=bL c rv) (r:={m.aA i with c:=c}) (cv:=aB i) (rv:=rv) h (by rw[show(bL c rv).length=12 from rfl];omega) rfl;rwa[mH]at this
theorem aDS{x:Core}:cx {m with az:=x} p aB aJ ev=cx m p aB aJ ev:=rfl
end
def Mu2(o:ae):Prop:=Mu o\/ ∃a d,o= .row a 14 pt d
structure Fm(n:Nat)(S:lN)(H H':List ae):Prop where
 len:H.length<=H'.length
 low: ∀i,i<n->H'[i]?=H[i]?
 box: ∀i o,i∉S-> ¬Mu2 o->H[i]?=some o->H'[i]?=some o
section
variable{n:Nat}{S T:lN}{A B C H W:List ae}
theorem Fm.refl:Fm n S A A:=⟨agW _,λ_ _=>rfl,λ_ _ _ _ h=>h⟩
theorem Fm.trans(h:Fm n S A B)(g:Fm n S B C):Fm n S A C:=⟨ajR h.len g.len,λi a=>(g.low i a).trans (h.low i a),λi o a ho b=>g.box i o a ho (h.box i o a ho b)⟩
theorem Fq.fm(h:Fq n S A B)(a: ∀i∈S,i∈T):Fm n T A B:=⟨h.len,h.low,λi o b ho c=>h.box i o (λq=>b (a i q)) (λq=>ho (.inl q)) c⟩
theorem Fm.set(a:p∈S)(b:n<=p)(o:ae):Fm n S A (A.set p o):=(Fq.set a b o).fm λ_ h=>h
theorem Fm.app(L:List ae)(a:n<=A.length):Fm n S A (A++L):=(Fq.app L a).fm λ_ h=>h
theorem Fm.take{N:Nat}(h:Fm n S A B)(d:A.length=N)(c:n<=N):Fm n S A (B.take N):=⟨by rw[aiI];have:=h.len;omega,λi a=>by rw[aiE (by omega)];exact h.low i a,λi o a ho b=>by
 have:=fh b;rw[aiE (by omega)];exact h.box i o a ho b⟩
theorem Fm.own{cs:lA}(h:Fm n S A B)(b:p∉S)(c:A[p]?=some (.box cs tg)):B[p]?=some (.box cs tg):=h.box p _ b (λq=>by rcases q with⟨a,d,q⟩| ⟨a,d,q⟩<;>cases q) c
theorem Fm.out(h:Fm n T H W)(e:H.length<=i)(c:n<=H.length)(o:ae):Fm n T H (W.set i o):=⟨by rw[ag7];exact h.len,λj a=>by rw[aex (by omega)];exact h.low j a,λj o a ho b=>by
 have d:=fh b;rw[aex (by omega)];exact h.box j o a ho b⟩
theorem Fm.pre{L:List ae}(h:Fm n S (H++L) W)(a:n<=H.length):Fm n S H W:=(Fm.app L a).trans h
end
structure bB(n M p q:Nat)(m:bb)(qv ev:AV)(aB aJ:Nat->AV)(H:List ae):Prop where
 nM:n<=M
 Mq:M<q
 co:dv n p q m.az qv H
 box:H[M]?=some (.box (cx m p aB aJ ev) none)
 ue:cW (M+1) H ev 14 pt (m.cH.map jR)
 cv: ∀i,Rv (aB i) 5 ((m.aA i).t.code.map cX)
 rv: ∀i,Rv (aJ i) 1 ((m.aA i).c.aT.map hC)
section
variable{n M p q:Nat}{m:bb}{qv ev:AV}{aB aJ:Nat->AV}{H:List ae}
theorem bB.lt(h:bB n M p q m qv ev aB aJ H):M<H.length:=fh h.box
theorem bB.app(h:bB n M p q m qv ev aB aJ H)(L:List ae):bB n M p q m qv ev aB aJ (H++L):=⟨h.nM,h.Mq,h.co.app L,bh h.box,h.ue.app L,h.cv,h.rv⟩
def bB.Mn(h:bB n M p q m qv ev aB aJ H):M∉[p,q]:=by have:=h.Mq;have:=h.co.qp;grind
theorem bB.az{W:List ae}{c:Core}{b:AV}(h:bB n M p q m qv ev aB aJ H)(g:dv n p q c b W)(e:Fq n [p,q] H W):bB n M p q {m with az:=c} b ev aB aJ W:=
 ⟨h.nM,h.Mq,g,e.own h.Mn h.box,h.ue.nQ λid aj all f=>e.box id _ (by
   have k:=h.co.box;have j:=h.co.hY
   grind) (λq=>by obtain⟨a,d,q⟩:=q;cases q) f,h.cv,h.rv⟩
theorem bB.set(h:bB n M p q m qv ev aB aJ H){m':bb}{ma a:Nat->AV}(d:m'.az=m.az)(e:m'.cH=m.cH)(c: ∀i,Rv (ma i) 5 ((m'.aA i).t.code.map cX))(b: ∀i,Rv (a i) 1 ((m'.aA i).c.aT.map hC)):
  bB n M p q m' qv ev ma a (H.set M (.box (cx m' p ma a ev) none)):=
 ⟨h.nM,h.Mq,d ▸ h.co.set h.box (by have:=h.Mq;have:=h.co.qp;omega) (by have:=h.Mq;omega) _,cN h.box,e ▸ h.ue.set h.box _,c,b⟩
theorem bB.fM(h:bB n M p q m qv ev aB aJ H)(o:ae):Fm n [M,p,q] H (H.set M o):=Fm.set (by simp) h.nM o
theorem bB.fc{W:List ae}(h:Fq n [p,q] H W):Fm n [M,p,q] H W:=h.fm λi a=>by grind
theorem bB.other(h:bB n M p q m qv ev aB aJ H){cs:lA}(a:H[i]?=some (.box cs tg))(d:i≠p)(c:i≠q)(b:i≠M)(o:ae):bB n M p q m qv ev aB aJ (H.set i o):=
 ⟨h.nM,h.Mq,h.co.set a d c o,(aex b).trans h.box,h.ue.set a _,h.cv,h.rv⟩
theorem bB.oP{W j:List ae}{N:Nat}{b c:AV}{d a:Nat->AV}{l:bb}(h:bB n M p q m qv ev aB aJ W)(e:j=W\/ (j=W.take N/\Q))(k:Q->qv=b/\ev=c)(g:bB n M p q l b c d a H0)(f:H0.length=N):bB n M p q m qv ev aB aJ j:=
 ⟨h.nM,h.Mq,h.co.oP e (λq=>(k q).1) g.co f,MZ e (by rw[<-f];exact g.lt) h.box,cW.oP h.ue e (λq=>(k q).2) g.ue f,h.cv,h.rv⟩
end
def fR(n M p q:Nat)(H:List ae)(lo:oN)(m':bb)(qv ev:AV)(r:AV)(d:aS):Prop:=
 ∃b c ma a H' ak,d= .ret r ⟨H',ak⟩/\bB n M p q m' b c ma a H'/\Fm n [M,p,q] H H'/\eu (b=qv/\c=ev) p H H' lo ak
def fR.fin{n N:Nat}{o:bb}{a c:AV}{e d:Nat->AV}{H W:List ae}{b:oN}(f:bB n M p q o a c e d H)(l:H.length=N)(h:bB n M p q m qv ev aB aJ W)(g:Fm n [M,p,q] H W)(s:eI (qv=a/\ev=c) p b)(r:v.refs<=N):
  fR n M p q H lo m a c v (.ret (finish N lo v ⟨W,b⟩).1 (finish N lo v ⟨W,b⟩).2):=by
 have x:=f.lt;have w:=f.nM;have u:=f.co.lt;rcases s with⟨rfl,k⟩| ⟨j,t,rfl⟩
 ·rw[iR (.inl rfl) r];refine⟨qv,ev,aB,aJ,_,lo,rfl,h.oP (.inr ⟨rfl,k⟩) id f l,g.take l (by omega),.inl ⟨rfl,?_,k⟩⟩;rw[aiI];have:=g.len;omega
 ·rw[vN (by omega)];exact⟨qv,ev,aB,aJ,W,cC lo j,rfl,h,g,.inr ⟨j,t,rfl⟩⟩
theorem fR.same{n:Nat}{H:List ae}{r:AV}(h:bB n M p q m qv ev aB aJ H):fR n M p q H lo m qv ev r (.ret r ⟨H,lo⟩):=⟨qv,ev,aB,aJ,H,lo,rfl,h,Fm.refl,eu.same ⟨rfl,rfl⟩⟩
structure dD(m:bb):Prop where
 az:jP m.az
 t: ∀i,lr (m.aA i).t
 c: ∀i,fG (m.aA i).c
 fr: ∀i,(m.aA i).fr<2147483648
 now:m.now<2147483648
 ev:m.cH.length<2147483648
 run: ∀i,(m.aA i).c.run.1<=64/\ (m.aA i).c.run.2<=64
def M9{n:Nat}{H:List ae}(h:bB n M p q m qv ev aB aJ H)(t:Nat)(lo:oN):D XC (.fn (.func AX) [] []) [.ptr M 0,.int .i64 t] ⟨H,lo⟩=some (.ret (.bool (p9 m t)) ⟨H,lo⟩):=by
 refine aF KQ λN e=>?_
 have d: (t:Int)>=0:=by omega
 unfold p9;by_cases c:t<8
 ·have a: (t:Int)<8:=by omega
  have b: (cw m.az q qv)[936+t]?=some (.bool (m.az.S.alive t)):=by
   have:Den.part false 1 (cw m.az q qv) (936+t)=some (.bool (m.az.S.alive t)):=by
    unfold cw;rw[q0 (by rw[eU];omega) (by omega)];exact ahH c
   exact this
  rw[agR c,anz];simp(disch:=omega) only[F1,go_sem,simprocAttr,KQ,d,a,h.box,h.co.box,ql,b]
 ·have a: ¬(t:Int)<8:=by omega
  rw[afv c,akq];simp(disch:=omega) only[F1,go_sem,simprocAttr,KQ,d,a]
theorem aml:jM nr:=⟨by decide,by decide,by decide,by decide,by decide,by decide⟩
theorem CN:fG gx:=⟨by decide,aml,(λh a=>by cases a),⟨by decide,by decide⟩,by decide⟩
theorem bB.GN{n:Nat}{H:List ae}(h:bB n M p q m qv ev aB aJ H)(i:Nat)(r:Runner)(cv rv:AV)(b:Rv cv 5 (r.t.code.map cX))(a:Rv rv 1 (r.c.aT.map hC)):
  bB n M p q {m with aA:=ar m.aA i r} qv ev (ar aB i cv) (ar aJ i rv) (H.set M (.box (cx {m with aA:=ar m.aA i r} p (ar aB i cv) (ar aJ i rv) ev) none)):=
 h.set rfl rfl (λj=>by
  show Rv (ar aB i cv j) 5 ((ar m.aA i r j).t.code.map cX);by_cases e:j=i
  ·subst e;rw[cT,cT];exact b
  ·rw[di e,di e];exact h.cv j) λj=>by
  show Rv (ar aJ i rv j) 1 ((ar m.aA i r j).c.aT.map hC);by_cases e:j=i
  ·subst e;rw[cT,cT];exact a
  ·rw[di e,di e];exact h.rv j
def jP.queue{x:Core}(b:jP x){r:aE}(c:r.1<=64/\r.2<=64)(d:x.Q.length+r.2<8589934592):jP (cU x r):=by
 have f: (cU x r).Q.length=x.Q.length+r.2:=by simp[cU,iP]
 refine⟨b.S,b.P,b.M,λk a=>?_,by omega⟩;rcases agT.1 a with a|a
 ·exact b.Q k a
 ·obtain⟨i,e,rfl⟩:=ag2.1 a
  grind
def jP.cut{x:Core}(a:jP x){c:Call}(b:c.run.1<=64/\c.run.2<=64)(d:x.Q.length+c.run.2<8589934592):jP (vu x c):=by
 have:=a.queue b d;exact⟨this.S,this.P,V5 this.M _,this.Q,this.Ql⟩
def amm(x:Core)(c:Call): (vu x c).Q.length=x.Q.length+c.run.2:=by simp[vu,cU,iP]
def dD.ay6(h:dD m)(i:Nat)(b:m.az.Q.length<4294967296):dD (ns m i)/\ (ns m i).az.Q.length<=m.az.Q.length+64:=by
 unfold ns;split
 ·have a:=h.run i;refine⟨⟨h.az.cut a (by omega),λj=>?_,λj=>?_,λj=>?_,h.now,h.ev,λj=>?_⟩,?_⟩
  ·show lr (ar m.aA i _ j).t;unfold ar;split
   ·exact h.t i
   ·exact h.t j
  ·show fG (ar m.aA i _ j).c;unfold ar;split
   ·exact CN
   ·exact h.c j
  ·show(ar m.aA i _ j).fr<_;unfold ar;split
   ·exact h.fr i
   ·exact h.fr j
  ·show(ar m.aA i _ j).c.run.1<=64/\ (ar m.aA i _ j).c.run.2<=64;unfold ar;split
   ·exact⟨by show 0<=64;omega,by show 0<=64;omega⟩
   ·exact h.run j
  ·show(vu _ _).Q.length<=_;rw[amm];omega
 grind
def iX(m:bb)(k:Nat):bb:=(List.range k).foldl ns m
def WC(m:bb)(k:Nat):iX m (k+1)=ns (iX m k) k:=by unfold iX;rw[aqZ,aoH];rfl
theorem WD{m:bb}(h:dD m)(a:m.az.Q.length<1073741824): ∀k,k<=8->dD (iX m k)/\ (iX m k).az.Q.length<=m.az.Q.length+64*k
 |0,_=>⟨h,by show m.az.Q.length<=_;omega⟩
 |k+1,c=>by
  obtain⟨b,f⟩:=WD h a k (by omega);obtain⟨e,d⟩:=b.ay6 k (by omega);rw[WC]
  grind
def ay7{n:Nat}{H:List ae}(u:bB n M p q m qv ev aB aJ H)(Y:dD m)(hQ:m.az.Q.length<1073741824)(lo:oN):
  ∃P,D XC (.fn (.func Iv) [] []) [.ptr M 0] ⟨H,lo⟩=some P/\fR n M p q H lo (mN m) qv ev (.au []) P:=by
 have ho:Old M H (.box (cx m p aB aJ ev) none):=⟨u.box⟩;refine cz Rp λN O=>?_
 have GO:M<N:=by rw[<-O];exact u.lt
 have V:p<N:=by rw[<-O];exact u.co.lt
 have X:=u.nM;have hMq:=u.Mq;have T:=u.co.qp;simp only[go_sem,simprocAttr,Rp];refine gS 8 (λk e W ak=> ∃i h d g,e 0= .ptr M 0/\e 4= .int .i64 k/\bB n M p q (iX m k) i h d g W/\eI (i=qv/\h=ev) p ak/\Fm n [M,p,q] H W) 0 (by omega) ?_ ?_
 ·refine⟨qv,ev,aB,aJ,?_⟩;simp only[go_sem,simprocAttr];exact⟨u,eI.no trivial,Fm.refl⟩
 rintro k hk e W ak ⟨i,h,d,g,C,B,l,r,A⟩ nn hn;simp only[bR,go_sem,simprocAttr,af5,C,B];refine⟨λZ=>?_,λZ=>?_⟩
 ·have f:k<8:=by omega
  have w: (0:Int)<=k/\ (k:Int)<8:=by omega
  obtain⟨x,U⟩:=WD Y hQ k (by omega);have s:=λlo=>M9 l k lo
  have G:=WC m k;cases y: ((iX m k).aA k).busy with
  |false=>
   have e1:ns (iX m k) k=iX m k:=afi (by rw[y];simp);simp(disch:=omega) only[go_sem,simprocAttr,C,B,w,l.box,xP f,y];exact⟨f,i,h,d,g,by rw[G,e1];exact l,r,A⟩
  |true=>
   cases z:p9 (iX m k) k with
   |true=>
    rw[z]at s;have e1:ns (iX m k) k=iX m k:=afi (by rw[z];simp);simp(disch:=omega) only[go_sem,simprocAttr,C,B,w,l.box,xP f,y,s];exact⟨f,i,h,d,g,by rw[G,e1];exact l,r,A⟩
   |false=>
    rw[z]at s;have e1:ns (iX m k) k={iX m k with az:=vu (iX m k).az ((iX m k).aA k).c,aA:=ar (iX m k).aA k {(iX m k).aA k with busy:=false,c:=gx}}:=afl ⟨y,z⟩;obtain⟨P,g1,E,W3,R,rfl,g2,Q,g4⟩:=ali l.co x.az _ (x.c k) _ (cM (l.rv k) (bA (λ_=>rfl) _)) ak;have j:=l.az g2 Q;have S: [AV.int .i64 0,.int .u8 0,.int .u32 0,.int .u32 0,.int .u32 0,.int .u32 0,.int .u64 0,.bool false,.ai,.int .i64 0,.int .i64 0,.int .i64 0]=bL gx .ai:=rfl;have K:aG (bL gx .ai)=0:=rfl;have L: (bL gx .ai).length=12:=rfl;have J:1+k*24+22+1<=195:=by omega
    have I:1+k*24+10+12<=195:=by omega
    have F:=λo=>cN (o:=o) j.box
    simp(disch:=omega) only[go_sem,simprocAttr,C,B,w,l.box,xP f,ql,↓CM f,y,s,g1,j.box,oS,WB f,z5 f,S,K,L,J,I,F,anc,sD,cT];have t:=j.GN k {(iX m k).aA k with busy:=false,c:=gx} (d k) .ai (j.cv k) .ai;rw[mH]at t;refine⟨f,E,h,d,ar g k .ai,?_,r.step g4 (λa b=>⟨b.trans a.1,a.2⟩),(A.trans (bB.fc Q)).trans (j.fM _)⟩;rw[G,e1];exact t
 ·obtain rfl:k=8:=by omega
  exact fR.fin (v:=.au []) u O l A r (agS _)
def WE(a:aE)(b n:Nat)(j:a.2<4294967296)(m:b<17179869184/\n<17179869184)(H:List ae)(lo:oN):
  D XC (.fn (.func D0) [] []) [.agg (ay a),.int .i64 b,.int .i64 n] ⟨H,lo⟩=some (.ret (.agg (ay (handed a b n))) ⟨H,lo⟩):=by
 refine aF BP λN f=>?_
 have o: (ay a)[1]?=some (.int .i64 a.2):=rfl;have k: ∀r,List.take 2 (ay r)=ay r:=λ_=>rfl
 have l: ∀r,List.drop 2 (ay r)=[]:=λ_=>rfl
 have h: ∀r:aE,(ay r).length=2:=λ_=>rfl
 have g: ∀r,aG (ay r)=0:=λ_=>rfl
 unfold handed;by_cases i:0<a.2
 ·have d:decide (0< ((a.2:Nat):Int))=true:=agR (by omega);by_cases e:a.2<=n-b
  ·have c:decide (((a.2:Nat):Int)<=(n:Int)-b)=true:=agR (by omega);rw[afl ⟨e,i⟩];simp(disch:=omega) only[F1,go_sem,simprocAttr,BP,f,d,c,AN];rfl
  ·have c:decide (((a.2:Nat):Int)<=(n:Int)-b)=false:=afv (by omega);rw[afi (λq=>e q.1)];simp(disch:=omega) only[F1,go_sem,simprocAttr,BP,f,c,h,g,AN]
 ·have d:decide (0< ((a.2:Nat):Int))=false:=afv (by omega);rw[afi (λq=>i q.2)];by_cases e: ((a.2:Nat):Int)<=(n:Int)-b
  ·have c:decide (((a.2:Nat):Int)<=(n:Int)-b)=true:=agR e;simp(disch:=omega) only[F1,go_sem,simprocAttr,BP,f,d,c,h,g,AN]
  ·have c:decide (((a.2:Nat):Int)<=(n:Int)-b)=false:=afv e;simp(disch:=omega) only[F1,go_sem,simprocAttr,BP,f,c,h,g,AN]
def bB.amo{n:Nat}{H W:List ae}(h:bB n M p q m qv ev aB aJ H){e:Event}(j:cW (M+1) W v 14 pt ((m.cH++[e]).map jR))(b: ∀ (i:Nat) (o:ae),(∀a d,o≠ae.row a 14 pt d)->H[i]?=some o->W[i]?=some o):
  bB n M p q {m with cH:=m.cH++[e]} qv v aB aJ (W.set M (.box (cx {m with cH:=m.cH++[e]} p aB aJ v) none)):=by
 have c: ∀cs tg,∀a d,ae.box cs tg≠ .row a 14 pt d:=λ_ _ _ _ e=>by cases e
 have f:=b M _ (c _ _) h.box;have l:=h.Mq;have k:=h.co.qp;refine⟨h.nM,h.Mq,⟨h.co.mp,h.co.mq,h.co.qp,(aex (by omega)).trans (b p _ (c _ _) h.co.box),(aex (by omega)).trans (b q _ (c _ _) h.co.hY),?_⟩,cN f,j.set f _,h.cv,h.rv⟩;exact(h.co.iz.nQ λid aj all g=>b id _ (λa d e=>by cases e) g).set f _
def amp{n:Nat}{H W:List ae}(h:bB n M p q m qv ev aB aJ H)(j:H.length<=W.length)(k: ∀i,i<M+1->W[i]?=H[i]?)(f: ∀ (i:Nat) (o:ae),(∀a d,o≠ae.row a 14 pt d)->H[i]?=some o->W[i]?=some o)(o:ae):Fm n [M,p,q] H (W.set M o):=by
 have g:=h.nM;refine⟨by grind,λi b=>by grind,λi o' b ho c=>?_⟩;rw[aex (by grind)];exact f i o' (λa d e=>ho (.inr ⟨a,d,e⟩)) c
def ay8(t:Task)(r:bE): (sT t r).code=t.code:=by
 unfold sT;grind
def WG{n:Nat}{H:List ae}(f:bB n M p q m qv ev aB aJ H)(Y:dD m)(t:Nat)(i:t<8)(c:Call)(rv:AV)(hrv:rv.refs=0)(run:aE)(r:bE)(hr:r.w<4294967296/\r.e<4294967296)(lo:oN):
  ∃Z,D XC (.fn (.func Qb) [] []) [.ptr M 0,.int .i64 t,.agg (bL c rv),.agg (ay run),.agg (bF r)] ⟨H,lo⟩=some Z/\fR n M p q H lo (L5 m t c run r) qv ev (.au []) Z:=by
 refine cz RP λN l=>?_
 have GO:M<N:=by rw[<-l];exact f.lt
 have oL:p<N:=by rw[<-l];exact f.co.lt
 have hb:=λL=>bh (L:=L) f.box
 have I: (0:Int)<=t/\ (t:Int)<8:=by omega
 have K:Den.part true 6 (bL c rv) 1=some (.agg (bf c.c)):=rfl;have hlr: ∀r:aE,List.take 2 (ay r)=ay r:=λ_=>rfl
 have UM: ∀r:aE,(ay r).length=2:=λ_=>rfl
 have hls: ∀r:bE,List.take 3 (bF r)=bF r:=λ_=>rfl
 have T: ∀c:cp,bf c=[.int .u8 c.op,.int .u32 c.r,.int .u32 c.s,.int .u32 c.a,.int .u32 c.b,.int .u64 c.v]:=λ_=>rfl
 have j: ∀r:aE,ay r=[.int .i64 r.1,.int .i64 r.2]:=λ_=>rfl
 have h: ∀r:bE,bF r=[.int .i64 r.e,.int .u64 r.v,.int .u32 r.w]:=λ_=>rfl
 have R: ∀a b:Nat,[AV.int .i64 (t:Int),.int .u8 c.c.op,.int .u32 c.c.r,.int .u32 c.c.s,.int .u32 c.c.a,.int .u32 c.c.b,.int .u64 c.c.v,.int .i64 run.1,.int .i64 run.2,.int .i64 r.e,.int .u64 r.v,.int .u32 r.w,.int .i64 a,.int .i64 b]=jR ⟨t,c.c,run,r,a,b⟩:=λ_ _=>rfl
 obtain⟨B,hB⟩: ∃B:List ae,B=[.box (bL c rv) none,.box (ay run) none,.box (bF r) none]:=⟨_,rfl⟩;have w:=f.app B;obtain⟨v',W,g1,g2,g3,g4,x,g6,g7,g8⟩:=cW.append (bytes:=96) (lo:=none) (y:=jR ⟨t,c.c,run,r,(m.aA t).fr,m.now⟩) w.ue (by have:=w.lt;omega) (by omega) rfl rfl (by rw[agZ];have:=Y.ev;unfold room;omega);have eE:m.cH.map jR++[jR ⟨t,c.c,run,r,(m.aA t).fr,m.now⟩]=(m.cH++[(⟨t,c.c,run,r,(m.aA t).fr,m.now⟩:Event)]).map jR:=by rw[ag9];rfl
 rw[eE]at g2;have u:=w.amo g2 x;have U:=amp w g3 g4 x (.box (cx {m with cH:=m.cH++[⟨t,c.c,run,r,(m.aA t).fr,m.now⟩]} p aB aJ v') none);rw[hB]at g1;rw[j,h]at g1;have S: ∀e,(jR e).length=14:=λ_=>rfl
 have het: ∀e,List.take 14 (jR e)=jR e:=λ_=>rfl
 have X: ∀cs tg,∀a d,ae.box cs tg≠ .row a 14 pt d:=λ_ _ _ _ e=>by cases e
 have V:=x M _ (X _ _) w.box;have wr:=x (N+2) _ (X _ _) (show(H++B)[N+2]?=some (.box (bF r) none) by rw[hB,bz l];rfl);rw[h]at wr;have J:=λo=>cN (o:=o) V
 have z: ∀o,(W.set M o)[N+2]?=_:=λo=>(aex (by omega)).trans wr
 have E: ¬v'.refs<=M+1:=by omega
 have G: ∀H lo,D XC (.fn (.func IM) [] []) [.agg (cY (m.aA t).t (aB t)),.agg [.int .i64 r.e,.int .u64 r.v,.int .u32 r.w]] ⟨H,lo⟩=some (.ret (.agg (cY (sT (m.aA t).t r) (aB t))) ⟨H,lo⟩):=λH lo=>c0 (ayF (f.cv t) (Y.t t) r hr H lo)
 have k:=cM (f.cv t) (bA (λ_=>rfl) _);have F:=λt'=>GF (t:=t') k
 have hz: [AV.int .i64 0,.int .u8 0,.int .u32 0,.int .u32 0,.int .u32 0,.int .u32 0,.int .u64 0,.bool false,.ai,.int .i64 0,.int .i64 0,.int .i64 0]=bL gx .ai:=rfl;have A:aG (bL gx .ai)=0:=rfl;have C: (bL gx .ai).length=12:=rfl;have Q:1+t*24+10<=195:=by omega
 have P:1+t*24+22+1<=195:=by omega
 have O:1+t*24+10+12<=195:=by omega
 simp only[go_sem,simprocAttr,RP,l,I,hb,CK,amh,ay3 i,↓K,T,j,h,R,S,het,g1,g6,g7,E,V,z,J,amj,oS,↓M7 i,G,F,amk i,WB i,z5 i,hz,A,C,Q,P,O,anc,sD,cT,xN];have g:=u.GN t {m.aA t with t:=sT (m.aA t).t r,busy:=false,c:=gx} (aB t) .ai (by rw[ay8];exact f.cv t) .ai;rw[mH,anc]at g;have s:=(Fm.app B (by have:=f.nM;omega)).trans (U.trans (u.fM (.box (cx {m with cH:=m.cH++[⟨t,c.c,run,r,(m.aA t).fr,m.now⟩],aA:=ar m.aA t {m.aA t with t:=sT (m.aA t).t r,busy:=false,c:=gx}} p aB (ar aJ t .ai) v') none)));rw[anc]at s;exact fR.fin (v:=.au []) f l g s (.inr ⟨M,by have:=f.Mq;have:=f.co.qp;omega,rfl⟩) (agS _)
def xQ(m:bb)(t:Nat):bb:={m with az:=(gw m.az (m.aA t).c).x,aA:=ar m.aA t {m.aA t with c:=(gw m.az (m.aA t).c).c}}
def WH(m:bb)(t:Nat):aE:=if(gw m.az (m.aA t).c).r.e≠0\/ (gw m.az (m.aA t).c).c.c.op≠2 then(0,0)else(m.aA t).c.run
theorem amq(m:bb)(t:Nat):xp m t=if(gw m.az (m.aA t).c).ended then L5 (xQ m t) t (gw m.az (m.aA t).c).c (handed (WH m t) m.az.Q.length (gw m.az (m.aA t).c).x.Q.length) (gw m.az (m.aA t).c).r else xQ m t:=rfl
def amr{n:Nat}{H:List ae}(hD: ∀op,l8 op)(g:bB n M p q m qv ev aB aJ H)(hm:dD m)(t:Nat)(j:t<8)(hQ:m.az.Q.length<2147483648)
  (hd:rL (dH (eC ⟨m.az,(m.aA t).c,bX,false⟩).x.S (eC ⟨m.az,(m.aA t).c,bX,false⟩).c.aa (eC ⟨m.az,(m.aA t).c,bX,false⟩).c.c (eC ⟨m.az,(m.aA t).c,bX,false⟩).c.run) (m.aA t).c.c)
  (B:dD (xQ m t)) (hr: (gw m.az (m.aA t).c).r.w<4294967296/\ (gw m.az (m.aA t).c).r.e<4294967296) (o7: (gw m.az (m.aA t).c).c.c.op<256) (lo:oN):
  ∃cr,D XC (.fn (.func ID) [] []) [.ptr M 0,.int .i64 t] ⟨H,lo⟩=some cr/\fR n M p q H lo (xp m t) qv ev (.au []) cr:=by
 refine cz BO λN z=>?_
 have GO:M<N:=by rw[<-z];exact g.lt
 have oL:p<N:=by rw[<-z];exact g.co.lt
 have hMq:=g.Mq;have Ws:=g.co.qp;have WI:=g.nM;have P: (0:Int)<=t/\ (t:Int)<8:=by omega
 have hb:=λL=>bh (L:=L) g.box
 have hcb:=λL=>bh (L:=L) g.co.box
 have Ol:=λL lo=>((g.app L).co.iz.rd (lo:=lo)).bK
 have hrz:=cM (g.rv t) (bA (λ_=>rfl) _);obtain⟨cr,g1,WJ,h,W,G,rfl,g2,g3,g4,g5⟩:=ayD hD (g.co.app [.box (ay (m.aA t).c.run) none,.box vR none,.box nI none]) hm.az (hm.c t) (g.rv t) hd hQ none;rw[amq];have R: ∀r:aE,(ay r).length=2:=λ_=>rfl
 have hrt: ∀r:aE,List.take 2 (ay r)=ay r:=λ_=>rfl
 have ml: ∀r:aE,List.drop 2 (ay r)=[]:=λ_=>rfl
 have Q: ∀r:aE,aG (ay r)=0:=λ_=>rfl
 have O: [AV.int .i64 0,.int .u8 0,.int .u32 0,.int .u32 0,.int .u32 0,.int .u32 0,.int .u64 0,.bool false,.ai,.int .i64 0,.int .i64 0,.int .i64 0]=vR:=rfl;have I: [AV.int .i64 0,.int .u64 0,.int .u32 0]=nI:=rfl;generalize hs:gw m.az (m.aA t).c=s at*;have e:=λlo=>(g.co.iz.rd (lo:=lo)).bK
 have nM1:N∉[p,q]:=by simp;omega
 have nM2:N+1∉[p,q]:=by simp;omega
 have nM3:N+2∉[p,q]:=by simp;omega
 have v0:=g4.own nM1 (by rw[dh z];rfl);have v1:=g4.own nM2 (by rw[bz z];rfl);have v2:=g4.own nM3 (by rw[bz z];rfl);have hA:=(g.app [.box (ay (m.aA t).c.run) none,.box vR none,.box nI none]).az g2 g4;have J:vR.length=12:=rfl;have l:nI.length=3:=rfl;have K:List.drop 12 vR=[]:=rfl;have u:List.drop 3 nI=[]:=rfl;have Z: ∀c rv,(bL c rv).length=12:=λ_ _=>rfl
 have X: ∀c rv,List.take 12 (bL c rv)=bL c rv:=λ_ _=>rfl
 have w:=cM g3 (bA (λ_=>rfl) _);have Y:=Wi s.c w;have s1:=λo=>cN (o:=o) v1
 have y: ∀o,(W.set (N+1) o)[N+2]?=_:=λo=>(aex (by omega)).trans v2
 have vM: ∀o o',((W.set (N+1) o).set (N+2) o')[M]?=_:=λo o'=>(aex (by omega)).trans ((aex (by omega)).trans hA.box)
 have A: ∀o o':ae,((W.set (N+1) o).set (N+2) o')[N+1]?=some o:=λo o'=>(aex (by omega)).trans (s1 o)
 have T:1+t*24+10+12<=195:=by omega
 have Na:=((hA.other v1 (by omega) (by omega) (by omega) (.box (bL s.c h) none)).other (y _) (by omega) (by omega) (by omega) (.box (bF s.r) none));have k:=Na.GN t {m.aA t with c:=s.c} (aB t) h (g.cv t) g3;rw[mH]at k;have F:Fm n [M,p,q] H (((W.set (N+1) (.box (bL s.c h) none)).set (N+2) (.box (bF s.r) none)).set M (.box (cx {m with az:=s.x,aA:=ar m.aA t {m.aA t with c:=s.c}} p aB (ar aJ t h) ev) none)):=by
  have h1:=((bB.fc (M:=M) g4).pre (by omega)).out (i:=N+1) (by omega) (by omega) (.box (bL s.c h) none);exact(h1.out (i:=N+2) (by omega) (by omega) (.box (bF s.r) none)).trans (Na.fM _)
 have S:eI (WJ=qv/\ev=ev) p G:=(eu.n g5).imp (λq=>⟨q.1,q.2,rfl⟩) id;obtain⟨W3,C⟩: ∃W3,W3=((W.set (N+1) (.box (bL s.c h) none)).set (N+2) (.box (bF s.r) none)).set M (.box (cx {m with az:=s.x,aA:=ar m.aA t {m.aA t with c:=s.c}} p aB (ar aJ t h) ev) none):=⟨_,rfl⟩;have x:=C.symm;have CO:N+1+1=N+2:=rfl;have w0:W3[N]?=some (.box (ay (m.aA t).c.run) none):=by rw[C,aex (by omega),aex (by omega),aex (by omega)];exact v0
 have w1:W3[N+1]?=some (.box (bL s.c h) none):=by rw[C,aex (by omega)];exact A _ _
 have w2:W3[N+2]?=some (.box (bF s.r) none):=by rw[C,aex (by omega)];exact cN (y _)
 rw[<-C]at k F;have CP: (bF s.r)[0]?=some (.int .i64 s.r.e):=rfl;have hc1: (bL s.c h)[1]?=some (.int .u8 s.c.c.op):=rfl;have eM:xQ m t={m with az:=s.x,aA:=ar m.aA t {m.aA t with c:=s.c}}:=by unfold xQ;rw[hs]
 have eR:WH m t=if s.r.e≠0\/s.c.c.op≠2 then(0,0)else(m.aA t).c.run:=by unfold WH;rw[hs]
 rw[eM]at B⊢;rw[eR];have hqb:s.x.Q.length<8589934592:=B.az.Ql;have wc:=hm.run t;cases U:s.ended with
 |false=>
  simp only[go_sem,simprocAttr,BO,z,P,g.box,g.co.box,hb,ql,KL,↓KL,e,↓M8 j,R,Q,↓CM j,O,I,g1,v1,y,vM,A,J,l,K,u,Z,X,Y,s9,rK,oS,z5 j,T,U,CO,x];exact fR.fin (v:=.au []) g z k F S (agS _)
 |true=>
  by_cases he:s.r.e=0
  ·have V:decide (((s.r.e:Nat):Int)=0)=true:=agR (by omega);by_cases ho:s.c.c.op=2
   ·have WK:decide (((s.c.c.op:Nat):Int)=2)=true:=agR (by omega);rw[afl rfl,afi (by omega)];have f:=k;have E:=F;have d:=λlo=>(f.co.iz.rd (lo:=lo)).bK
    have hh:=λH lo=>WE (m.aA t).c.run m.az.Q.length s.x.Q.length (by skip;omega) (by omega) H lo
    obtain⟨cr,g6,qv6,ev6,amw,amx,W6,lo6,rfl,g7,g8,g9⟩:=WG f B t j s.c h w (handed (m.aA t).c.run m.az.Q.length s.x.Q.length) s.r hr G;simp only[go_sem,simprocAttr,BO,z,P,g.box,g.co.box,hb,ql,KL,↓KL,e,↓M8 j,R,Q,↓CM j,O,I,g1,v1,y,vM,A,J,l,K,u,Z,X,Y,s9,xJ,rK,oS,z5 j,T,U,CO,x,w0,w1,w2,CP,hc1,V,WK,k.box,f.co.box,d,hh,g6];exact fR.fin (v:=.au []) g z g7 (E.trans g8) (S.step g9 λa b=>⟨b.1.trans a.1,b.2.trans a.2⟩) (agS _)
   ·have WK:decide (((s.c.c.op:Nat):Int)=2)=false:=afv (by omega);rw[afl rfl,afl (.inr ho)];have f:=k.other w0 (by omega) (by omega) (by omega) (.box [.int .i64 0,.int .i64 0] none);have E:=F.out (i:=N) (by omega) (by omega) (.box [.int .i64 0,.int .i64 0] none);have u0:=λo=>cN (o:=o) w0
    have u1: ∀o,(W3.set N o)[N+1]?=_:=λo=>(aex (by omega)).trans w1
    have u2: ∀o,(W3.set N o)[N+2]?=_:=λo=>(aex (by omega)).trans w2
    have d:=λlo=>(f.co.iz.rd (lo:=lo)).bK
    have hh: ∀H lo,D XC (.fn (.func D0) [] []) [.agg [.int .i64 0,.int .i64 0],.int .i64 m.az.Q.length,.int .i64 s.x.Q.length] ⟨H,lo⟩=some (.ret (.agg (ay (handed (0,0) m.az.Q.length s.x.Q.length))) ⟨H,lo⟩):=λH lo=>WE (0,0) m.az.Q.length s.x.Q.length (by show 0<4294967296;omega) (by omega) H lo
    obtain⟨cr,g6,qv6,ev6,amw,amx,W6,lo6,rfl,g7,g8,g9⟩:=WG f B t j s.c h w (handed (0,0) m.az.Q.length s.x.Q.length) s.r hr G;simp only[go_sem,simprocAttr,BO,z,P,g.box,g.co.box,hb,ql,KL,↓KL,e,↓M8 j,R,ml,Q,↓CM j,O,I,g1,v1,y,vM,A,J,l,K,u,Z,X,Y,s9,xJ,rK,oS,z5 j,T,U,CO,x,w0,w1,w2,CP,hc1,V,WK,u0,u1,u2,f.box,f.co.box,d,hh,g6];exact fR.fin (v:=.au []) g z g7 (E.trans g8) (S.step g9 λa b=>⟨b.1.trans a.1,b.2.trans a.2⟩) (agS _)
  ·have V:decide (((s.r.e:Nat):Int)=0)=false:=afv (by omega);rw[afl rfl,afl (.inl he)];have f:=k.other w0 (by omega) (by omega) (by omega) (.box [.int .i64 0,.int .i64 0] none);have E:=F.out (i:=N) (by omega) (by omega) (.box [.int .i64 0,.int .i64 0] none);have u0:=λo=>cN (o:=o) w0
   have u1: ∀o,(W3.set N o)[N+1]?=_:=λo=>(aex (by omega)).trans w1
   have u2: ∀o,(W3.set N o)[N+2]?=_:=λo=>(aex (by omega)).trans w2
   have d:=λlo=>(f.co.iz.rd (lo:=lo)).bK
   have hh: ∀H lo,D XC (.fn (.func D0) [] []) [.agg [.int .i64 0,.int .i64 0],.int .i64 m.az.Q.length,.int .i64 s.x.Q.length] ⟨H,lo⟩=some (.ret (.agg (ay (handed (0,0) m.az.Q.length s.x.Q.length))) ⟨H,lo⟩):=λH lo=>WE (0,0) m.az.Q.length s.x.Q.length (by show 0<4294967296;omega) (by omega) H lo
   obtain⟨cr,g6,qv6,ev6,amw,amx,W6,lo6,rfl,g7,g8,g9⟩:=WG f B t j s.c h w (handed (0,0) m.az.Q.length s.x.Q.length) s.r hr G;simp only[go_sem,simprocAttr,BO,z,P,g.box,g.co.box,hb,ql,KL,↓KL,e,↓M8 j,R,ml,Q,↓CM j,O,I,g1,v1,y,vM,A,J,l,K,u,Z,X,Y,s9,xJ,rK,oS,z5 j,T,U,CO,x,w0,w2,CP,V,u0,u1,u2,f.box,f.co.box,d,hh,g6];exact fR.fin (v:=.au []) g z g7 (E.trans g8) (S.step g9 λa b=>⟨b.1.trans a.1,b.2.trans a.2⟩) (agS _)
structure amz(m:bb)(t:Nat):Prop where
 d:rL (dH (eC ⟨m.az,(m.aA t).c,bX,false⟩).x.S (eC ⟨m.az,(m.aA t).c,bX,false⟩).c.aa (eC ⟨m.az,(m.aA t).c,bX,false⟩).c.c (eC ⟨m.az,(m.aA t).c,bX,false⟩).c.run) (m.aA t).c.c
 m':dD (xQ m t)
 r: (gw m.az (m.aA t).c).r.w<4294967296/\ (gw m.az (m.aA t).c).r.e<4294967296
 op: (gw m.az (m.aA t).c).c.c.op<256
def azd{t:Task}(h:lr t):jM (ir t).1:=by
 unfold ir;split
 ·exact⟨by decide,by decide,by decide,by decide,by decide,by decide⟩
 ·rename_i x a;have ho:=GJ h a;split
  ·exact⟨by decide,by decide,by decide,by decide,by decide,by decide⟩
  ·split
   ·exact aml
   ·have c:=ho.op;have b:=ho.n;exact⟨by grind,aoG _ (by omega),aoG _ (by omega),aoG _ (by omega),by grind,h.aT 5⟩
def aze(t:Task): (rD t).code=t.code:=by
 unfold rD
 grind
def Nb(m:bb)(t:Nat):bb:={m with aA:=ar m.aA t {m.aA t with c:={gx with aa:=t,c:=(ir (m.aA t).t).1},busy:=true,fr:=m.now}}
def dD.wanted(h:dD m)(a:t<8):dD (Nb m t):=by
 refine⟨h.az,λj=>?_,λj=>?_,λj=>?_,h.now,h.ev,λj=>?_⟩
 ·show lr (ar m.aA t _ j).t;unfold ar;split
  ·exact h.t t
  ·exact h.t j
 ·show fG (ar m.aA t _ j).c;unfold ar;split
  ·exact⟨by grind,azd (h.t t),CN.aT,CN.run,CN.eW⟩
  ·exact h.c j
 ·show(ar m.aA t _ j).fr<_;unfold ar;split
  ·exact h.now
  ·exact h.fr j
 ·show(ar m.aA t _ j).c.run.1<=64/\ (ar m.aA t _ j).c.run.2<=64;unfold ar;split
  ·exact⟨by show 0<=64;omega,by show 0<=64;omega⟩
  ·exact h.run j
def azf{n:Nat}{H:List ae}(hD: ∀op,l8 op)(b:bB n M p q m qv ev aB aJ H)(y:dD m)(t:Nat)(d:t<8)(F:m.az.Q.length<2147483648)
  (A: ∀m,dD m->m.az.Q.length<2147483648->amz m t) (lo:oN):
  ∃s,D XC (.fn (.func PT) [] []) [.ptr M 0,.int .i64 t] ⟨H,lo⟩=some s/\fR n M p q H lo (zA m t) qv ev (.au []) s:=by
 refine cz Fg λN i=>?_
 have GO:M<N:=by rw[<-i];exact b.lt
 have oL:p<N:=by rw[<-i];exact b.co.lt
 have WI:=b.nM;have k: (0:Int)<=t/\ (t:Int)<8:=by omega
 have E:=λL=>bh (L:=L) b.box
 have hw:=λH lo=>c0 (Wy (b.cv t) (y.t t) H lo)
 have j: [AV.int .u8 0,.int .u32 0,.int .u32 0,.int .u32 0,.int .u32 0,.int .u64 0]=bf nr:=rfl;have Y: ∀c,(bf c).length=6:=λ_=>rfl
 have Z: ∀c,List.drop 6 (bf c)=[]:=λ_=>rfl
 have ct: ∀c,List.take 6 (bf c)=bf c:=λ_=>rfl
 have s: ∀c,aG (bf c)=0:=λ_=>rfl
 have z:=cM (b.cv t) (bA (λ_=>rfl) _);have B:=b.app [.box (bf (ir (m.aA t).t).1) none];unfold zA;dsimp only;cases h: (m.aA t).busy with
 |true=>
  have g:=A m y F;obtain⟨X,g1,G,W,C,u,W6,I,rfl,V,U,T⟩:=amr hD B y t d F g.d g.m' g.r g.op none;simp only[go_sem,simprocAttr,Fg,i,k,b.box,E,↓M7 d,xP d,h,hw,j,Y,Z,s,g1];exact fR.fin (v:=.au []) b i V (U.pre (by omega)) (eu.n T) (agS _)
 |false=>
  cases w: (ir (m.aA t).t).2 with
  |true=>
   rw[w]at hw;have x:=y.wanted d;have g:=A (Nb m t) x F;have a:=B.GN t {m.aA t with c:={gx with aa:=t,c:=(ir (m.aA t).t).1},busy:=true,fr:=m.now} (aB t) .ai (b.cv t) .ai;rw[mH]at a;obtain⟨X,g1,G,W,C,u,W6,I,rfl,V,U,T⟩:=amr hD a x t d F g.d g.m' g.r g.op none;have P:1+t*24+10+12<=195:=by omega
   have Q:1+t*24+22+1<=195:=by omega
   have l:1+t*24+23+1<=195:=by omega
   have O:=λL o=>cN (o:=o) (E L)
   have r:AV.int .i64 (t:Int):: (bf (ir (m.aA t).t).1++[.bool false,.ai,.int .i64 0,.int .i64 0,.int .i64 0])=bL {gx with aa:=t,c:=(ir (m.aA t).t).1} .ai:=rfl;have R: ∀c,aG (bL c .ai)=0:=λ_=>rfl
   have S: ∀c,(bL c .ai).length=12:=λ_=>rfl
   have f:AV.bool (m.aA t).busy= .bool false:=by rw[h]
   simp only[go_sem,simprocAttr,Fg,i,k,b.box,E,CK,↓M7 d,xP d,f,hw,j,Y,Z,ct,s,O,anc,r,R,S,z5 d,WB d,ay4 d,sD,cT,oS,l,Q,P,g1];have hf:Fm n [M,p,q] H ((H++[ae.box (bf (ir (m.aA t).t).1) none]).set M (ae.box (cx (Nb m t) p aB (ar aJ t .ai) ev) none)):=(Fm.app _ (by omega)).trans (B.fM _);exact fR.fin (v:=.au []) b i V (hf.trans U) (eu.n T) (agS _)
  |false=>
   rw[w]at hw;have K:=λH lo=>c0 (ayO (b.cv t) (y.t t) H lo)
   have a:=B.GN t {m.aA t with t:=rD (m.aA t).t} (aB t) (aJ t) (by rw[aze];exact b.cv t) (b.rv t);rw[mH,mH]at a;have J:=λt'=>GF (t:=t') z
   have l:1+t*24+10<=195:=by omega
   have f:AV.bool (m.aA t).busy= .bool false:=by rw[h]
   simp only[go_sem,simprocAttr,Fg,i,k,b.box,E,↓M7 d,xP d,f,hw,j,Y,Z,s,K,J,amk d,oS,l,xN];have e: (⟨rD (m.aA t).t,(m.aA t).c,false,(m.aA t).fr⟩:Runner)={m.aA t with t:=rD (m.aA t).t}:=by rw[<-h]
   rw[e];exact fR.fin (v:=.au []) b i a ((Fm.app _ (by omega)).trans (B.fM _)) (eI.no ⟨rfl,rfl⟩) (agS _)
def dv.azg{n:Nat}{x:Core}{H W:List ae}(h:dv n p q x qv H)(r:cW (p+1) W v 1 mw ((x.Q++[k]).map iV))(s:H.length<=W.length)(t: ∀i,i<p+1->W[i]?=H[i]?)(b: ∀ (i:Nat) (o:ae),(∀a d,o≠ae.row a 1 mw d)->H[i]?=some o->W[i]?=some o):
  dv n p q {x with Q:=x.Q++[k]} v (W.set p (.box (cw x q v) none))/\Fq n [p,q] H (W.set p (.box (cw x q v) none)):=by
 have c: ∀cs tg,∀a d,ae.box cs tg≠ .row a 1 mw d:=λ_ _ _ _ e=>by cases e
 have f:=b p _ (c _ _) h.box;have g:=h.qp;have j:=h.mp;refine⟨⟨h.mp,h.mq,h.qp,cN f,(aex (by omega)).trans (b q _ (c _ _) h.hY),r.set f _⟩,⟨by grind,λi l=>?_,λi o l ho m=>?_⟩⟩
 ·grind
 ·rw[aex (by grind)];exact b i o (λa d e=>ho ⟨a,d,e⟩) m
theorem amA: ∀ (l:List aE) (x:Core) (s:bG),l.foldl cU {x with S:=s}={l.foldl cU x with S:=s}
 | [],_,_=>rfl
 |r::l,x,s=>amA l (cU x r) s
def fy:cp:={nr with op:=20}
def jS(m:bb)(d:bG×bE×List aE)(k:Nat):Core:=(d.2.2.take k).foldl cU {m.az with S:=d.1}
def azh{n:Nat}{H:List ae}(hD: ∀op,l8 op)(x:bB n M p q m qv ev aB aJ H)(hm:dD m)(t:Nat)(ht:t<8)(hQ:m.az.Q.length<2147483648)
  (hd:rL (dH m.az.S t fy (0,0)) fy) (lo:oN):
  ∃cr,D XC (.fn (.func PR) [] []) [.ptr M 0,.int .i64 t] ⟨H,lo⟩=some cr/\fR n M p q H lo (Cb m t) qv ev (.au []) cr:=by
 refine cz Ro λN hN=>?_
 have GO:M<N:=by rw[<-hN];exact x.lt
 have oL:p<N:=by rw[<-hN];exact x.co.lt
 have WI:=x.nM;have hMq:=x.Mq;have Ws:=x.co.qp;have hb:=λL=>bh (L:=L) x.box
 have hcb:=λL=>bh (L:=L) x.co.box
 have hcx:jM fy:=⟨by decide,by decide,by decide,by decide,by decide,by decide⟩;obtain⟨bv,d1,d2⟩:=VZ m.az.S hm.az.S t (by omega) fy hcx (0,0) ⟨show 0<4294967296 by omega,show 0<4294967296 by omega⟩ (hD _) (H++[.box (bf fy) none,.box py none,.box nI none]) none;have d1:=cB d1;have eS:Cb m t={m with az:=jS m (dH m.az.S t fy (0,0)) (dH m.az.S t fy (0,0)).2.2.length,cH:=m.cH++[⟨t,fy,(0,0),(dH m.az.S t fy (0,0)).2.1,m.now,m.now⟩]}:=by
  unfold jS;rw[ag4,amA];rfl
 rw[eS];generalize dH m.az.S t fy (0,0)=d at*;have hz: [AV.int .u8 20,.int .u32 0,.int .u32 0,.int .u32 0,.int .u32 0,.int .u64 0]=bf fy:=rfl;have CP:ay (0,0)=[.int .i64 0,.int .i64 0]:=rfl;rw[CP]at d1;have hzr: [AV.int .i64 0,.int .u64 0,.int .u32 0]=nI:=rfl;have cl: ∀c,(bf c).length=6:=λ_=>rfl
 have cd: ∀c,List.drop 6 (bf c)=[]:=λ_=>rfl
 have ct: ∀c,List.take 6 (bf c)=bf c:=λ_=>rfl
 have cr: ∀c,aG (bf c)=0:=λ_=>rfl
 have U:nI.length=3:=rfl;have V:List.drop 3 nI=[]:=rfl;have hA:=(x.app [.box (bf fy) none,.box (bw d.1) none,.box (bF d.2.1) none]);have I:=hA.az (hA.co.alf d.1) (hA.co.fp _);have G:=bB.fc (M:=M) (hA.co.fp (.box (cw {m.az with S:=d.1} q qv) none));have CO:N+1+1=N+2:=rfl;simp only[go_sem,simprocAttr,Ro,hN,CO,hb,hcb,ql,KL,↓KL,KS,hz,hzr,cl,ct,cr,d1,DZ,oq,rK,U,V,d2.bK];refine gS d.2.2.length (λk e W ak=> ∃o,e 0= .ptr M 0/\e 1= .int .i64 t/\e 4= .ptr N 0/\e 6= .ptr (N+2) 0/\e 34=bv/\e 35= .int .i64 d.2.2.length/\e 36= .int .i64 k/\bB n M p q {m with az:=jS m d k} o ev aB aJ W/\eI (o=qv/\ev=ev) p ak/\W[N]?=some (.box (bf fy) none)/\W[N+2]?=some (.box (bF d.2.1) none)/\Fm n [M,p,q] H W) 0 (by omega) ?_ ?_
 ·refine⟨qv,?_⟩;simp(disch:=omega) only[go_sem,simprocAttr];exact⟨I,eI.no trivial,(Fm.app _ (by omega)).trans G⟩
 rintro k hk e W ak ⟨o,B,e1,R,e6,l,i,h,s,g,J,K,P⟩ nn hn;simp only[bR,go_sem,simprocAttr,af4,B,l,i,h];refine⟨λhh=>?_,λhh=>?_⟩
 ·have w:k<d.2.2.length:=by omega
  generalize F:d.2.2.getD k default=f at*;have wc:=hd.runs f (by rw[<-F];exact eX w);have yx: ∀r:aE,(ay r).length=2:=λ_=>rfl
  have AM: ∀r,aG (ay r)=0:=λ_=>rfl
  have hrt: ∀r,List.take 2 (ay r)=ay r:=λ_=>rfl
  have ml: ∀r,List.drop 2 (ay r)=[]:=λ_=>rfl
  have DL: (ay f)[1]?=some (.int .i64 f.2):=rfl;have aDW: (ay f)[0]?=some (.int .i64 f.1):=rfl;simp(disch:=omega) only[go_sem,simprocAttr,d2.ck,d2.cE,F,hn,yx,AM];have X:=CG (d.2.2.take k) {m.az with S:=d.1} (λz hz=>(hd.runs z (alP hz)).2);have X: (jS m d k).Q.length<=m.az.Q.length+64*(d.2.2.take k).length:=X;have VV: (d.2.2.take k).length<=k:=by simp;omega
  have hdl:=hd.len;refine⟨by omega,?_⟩;refine gS f.2 (λj e T E=> ∃u,e 0= .ptr M 0/\e 1= .int .i64 t/\e 4= .ptr N 0/\e 6= .ptr (N+2) 0/\e 34=bv/\e 35= .int .i64 d.2.2.length/\e 36= .int .i64 k/\e 9= .ptr nn 0/\e 41= .int .i64 f.2/\e 42= .int .i64 j/\bB n M p q {m with az:=iW (jS m d k) f j} u ev aB aJ T/\eI (u=qv/\ev=ev) p E/\T[nn]?=some (.box (ay f) none)/\T[N]?=some (.box (bf fy) none)/\T[N+2]?=some (.box (bF d.2.1) none)/\Fm n [M,p,q] H T) 0 (by omega) ?_ ?_
  ·refine⟨o,?_⟩;simp(disch:=omega) only[go_sem,simprocAttr,B,e1,R,e6,l,i,h];refine⟨?_,by simpa using g,bh J,bh K,P.trans (Fm.app _ (by have:=s.lt;omega))⟩;have e1:iW (jS m d k) f 0=jS m d k:=by unfold iW;simp
   rw[e1];exact s.app _
  have hK0:=s.co.box;have aDZ:p<nn:=by rw[<-hn];exact s.co.lt
  clear g J K B e1 R e6 l i h s P hn;rintro j hj e T E ⟨u,B,e1,R,e6,l,i,h,e9,e41,e42,C,g,wn,J,K,P⟩ n2 hn2;simp(disch:=omega) only[bR,go_sem,simprocAttr,af3,B,e1,R,e6,l,i,h,e41,e42];refine⟨λhh=>?_,λhh=>?_⟩
  ·have Y:j<f.2:=by omega
   have hwl:=C.co.lt;have Ol: (iW (jS m d k) f j).Q.length<=m.az.Q.length+64*k+f.2:=by
    have: (iW (jS m d k) f j).Q.length=(jS m d k).Q.length+((iP f).take j).length:=by simp[iW]
    have h2: ((iP f).take j).length<=f.2:=by simp[iP];omega
    omega
   obtain⟨v',W3,g1,g2,g3,g4,A,g6,g7,g8⟩:=cW.append (bytes:=8) (lo:=E) (y:=[.int .i64 ((f.1:Int)+j)]) C.co.iz (by omega) (by omega) rfl rfl (by rw[agZ];unfold room;show((iW (jS m d k) f j).Q.length+1)*8<=_;omega);have eQ: (iW (jS m d k) f j).Q.map iV++[[.int .i64 ((f.1:Int)+j)]]=((iW (jS m d k) f j).Q++[f.1+j]).map iV:=by rw[ag9];rfl
   rw[eQ]at g2;obtain⟨c1,c2⟩:=C.co.azg g2 g3 g4 A;have Z:=C.az c1 c2;have eT: {iW (jS m d k) f j with Q:=(iW (jS m d k) f j).Q++[f.1+j]}=iW (jS m d k) f (j+1):=by
    unfold iW;rw[alh Y,<-afq]
   rw[eT]at Z;have O: ∀cs tg,∀a d,ae.box cs tg≠ .row a 1 mw d:=λ_ _ _ _ e=>by cases e
   have wp':=A p _ (O _ _) C.co.box;have g8': ¬v'.refs<=p+1:=by omega
   simp(disch:=omega) only[go_sem,simprocAttr,B,e1,R,e6,l,i,h,e9,e41,e42,C.box,C.co.box,ql,KL,↓KL,wn,g1,wp',KS,g6,g7,g8'];refine⟨Y,v',Z,?_,A nn _ (O _ _) wn,A N _ (O _ _) J,A (N+2) _ (O _ _) K,P.trans (bB.fc c2)⟩;rcases g with⟨rfl,_⟩| ⟨j2,hj2,rfl⟩
   ·exact .inr ⟨p,agW _,rfl⟩
   ·exact .inr ⟨min p j2,by omega,rfl⟩
  ·obtain rfl:j=f.2:=by omega
   have B:jS m d (k+1)=iW (jS m d k) f f.2:=by
    rw[alg];unfold jS;rw[<-F,ait,afu w,aoH,aha,afu w];rfl
   exact⟨w,u,by rw[B];exact C,g.imp (λq=>⟨q.1,q.2.1⟩) id,J,K,P⟩
 ·obtain rfl:k=d.2.2.length:=by omega
  have g:eI (o=qv/\ev=ev) p ak:=g;obtain⟨v',W3,g1,g2,g3,g4,A,g6,g7,g8⟩:=cW.append (bytes:=96) (lo:=ak) (y:=jR ⟨t,fy,(0,0),d.2.1,m.now,m.now⟩) s.ue (by have:=s.lt;omega) (by omega) rfl rfl (by rw[agZ];unfold room;have:=hm.ev;show(m.cH.length+1)*96<=_;omega);have eE:m.cH.map jR++[jR ⟨t,fy,(0,0),d.2.1,m.now,m.now⟩]=(m.cH++[(⟨t,fy,(0,0),d.2.1,m.now,m.now⟩:Event)]).map jR:=by rw[ag9];rfl
  have g2:cW (M+1) W3 v' 14 pt ((m.cH++[(⟨t,fy,(0,0),d.2.1,m.now,m.now⟩:Event)]).map jR):=eE ▸ g2;have I:=s.amo g2 A;have G:=amp s g3 g4 A (.box (cx {m with cH:=m.cH++[⟨t,fy,(0,0),d.2.1,m.now,m.now⟩]} p aB aJ v') none);have O: ∀cs tg,∀a d,ae.box cs tg≠ .row a 14 pt d:=λ_ _ _ _ e=>by cases e
  have wM:=A M _ (O _ _) s.box;have hv': ¬v'.refs<=M+1:=by omega
  have Vi: ∀c:cp,bf c=[.int .u8 c.op,.int .u32 c.r,.int .u32 c.s,.int .u32 c.a,.int .u32 c.b,.int .u64 c.v]:=λ_=>rfl
  have hse: ∀r:bE,bF r=[.int .i64 r.e,.int .u64 r.v,.int .u32 r.w]:=λ_=>rfl
  have hev: ∀a b:Nat,[AV.int .i64 (t:Int),.int .u8 fy.op,.int .u32 fy.r,.int .u32 fy.s,.int .u32 fy.a,.int .u32 fy.b,.int .u64 fy.v,.int .i64 0,.int .i64 0,.int .i64 d.2.1.e,.int .u64 d.2.1.v,.int .u32 d.2.1.w,.int .i64 a,.int .i64 b]=jR ⟨t,fy,(0,0),d.2.1,a,b⟩:=λ_ _=>rfl
  have nP: ∀e,(jR e).length=14:=λ_=>rfl
  have het: ∀e,List.take 14 (jR e)=jR e:=λ_=>rfl
  simp only[go_sem,simprocAttr,s.box,B,e1,R,e6,CK,amh,J,K,Vi,hse,hev,nP,het,g1,g6,g7,hv',wM,amj,oS];refine fR.fin (v:=.au []) x hN I (P.trans G) ?_ (agS _);rcases g with⟨rfl,_⟩| ⟨j2,hj2,rfl⟩
  ·exact .inr ⟨M,by omega,rfl⟩
  ·exact .inr ⟨min M j2,by omega,rfl⟩
def SE{α:Type}(m:R α):Prop:= ∀e,m= .error e->e<13
theorem SE.ok{a:α}:SE (.ok a:R α):=by intro e h;cases h
theorem SE.pure{a:α}:SE (Pure.pure a:R α):=by intro e h;cases h
def SE.err(a:e<13):SE (.error e:R α):=by intro e h;grind
def SE.bind{β:Type}{m:R α}{f:α->R β}(b:SE m)(c: ∀a,SE (f a)):SE (m>>=f):=by
 cases m with
 |error e=>intro e h;cases h;exact b _ rfl
 |ok a=>exact c a
def SE.ask{b:Bool}(a:e<13):SE (ask b e):=by
 unfold Go.Proofs.YteplichagkpciaaGreatDoor.ask;split
 ·exact SE.ok
 ·exact SE.err a
def SE.bc(a:e<13):SE (bc e):=by
 unfold Go.Proofs.YteplichagkpciaaGreatDoor.bc;split
 ·exact SE.ok
 ·exact SE.err a
theorem SE.foldlM{α β:Type}{f:α->β->R α}(h: ∀a b,SE (f a b)): ∀ (l:List β) (a:α),SE (l.foldlM f a)
 | [],_=>SE.pure
 |b::l,a=>SE.bind (h a b) λa=>SE.foldlM h l a
theorem azr{n:Nat}(h: (n+1).ble 13=true):n<13:=ara h
def ku{t:aw}{h:Nat}: (aK t h).2<13:=by unfold aK;grind
def kx{k:bg}{h:Nat}: (b9 k h).2<13:=by unfold b9;grind
def azs{T:aw}{O:bM}{K:bg}{c:Nat}:xk T O K a b c<13:=by unfold xk;grind
def jq{o:bM}{t:aw}{r:Nat}{x:Ow}: (fN o t r a x).2<13:=by unfold fN;grind
def jr{o:bM}{t:aw}{r:Nat}{b:Bool}: (dt o t r a b).2.2<13:=by unfold dt;repeat' (first|simp|exact jq|split)
def amD{t:aw}{h:Nat}{r:dc}: (fC t h r).2<13:=by unfold fC;grind
def amE{t:aw}{h u:Nat}: (lW t h u).2<13:=by unfold lW;grind
def azt{t:aw}{h:Nat}: (jg t h).2<13:=by unfold jg;split;exact azr rfl;exact amE
def ky{t:aw}{h u:Nat}: (vd t h u).2<13:=by unfold vd;repeat' (first|simp|exact amE|split)
def kz{t:aw}{h u:Nat}: (hE t h u).2.2<13:=by unfold hE lV;grind
def kA{k:bg}{x:Tok}: (lh k x).2.2<13:=by unfold lh pW;grind
def kB{b:cK}{x:ke}: (ow b x).2<13:=by unfold ow;grind
def kC{b:cK}: (mK b).2.2<13:=by unfold mK;grind
def kE{b:cK}: (vf b).2<13:=by unfold vf;grind
def kG{t:aw}{c:Nat}{f:Bool}: (ni t a b c f).2<13:=by unfold ni;repeat' (first|simp|exact amD|split)
def kH{t:aw}: (sM t a b).2<13:=by unfold sM;grind
theorem lu{h w:Nat}:SE (fD x h w):=SE.bc azs
theorem lv:SE (l0 x t):=SE.ask (by decide)
def mb{h:Nat}:SE (mM x h t):=by exact SE.bind (SE.bc jq) λ_=>SE.pure
def lC{h:Nat}{r:dc}:SE (nj x h r):=by exact SE.bind (SE.bc amD) λ_=>SE.pure
def lD{h:Nat}:SE (vg x h):=by exact SE.bind (SE.bc azt) λ_=>SE.pure
def lE{h:Nat}:SE (xl x h):=by
 exact SE.bind (SE.ask (by decide)) λ_=>SE.bind (SE.ask (by decide)) λ_=>SE.ask (by decide)
def kI{h:Nat}:SE (jI x h t):=by exact SE.bind (SE.bc jr) λ_=>SE.pure
def amF:SE (nq x t):=by unfold nq;(repeat (first|exact SE.ok|exact SE.pure|exact SE.ask (by decide)|exact SE.err (by decide)|exact lu|exact lv|exact mb|exact lC|exact lD|exact lE|exact kI|assumption| (refine SE.bc ?_;first|exact ku|exact kz|exact ky|exact jq|exact jr|exact kx|exact kA|exact kB|exact kC|exact kE|exact kG|exact kH)| (refine SE.bind ?_ λ_=>?_)| (refine SE.foldlM (λ_ _=>?_) _ _)|split|dsimp only))
def azu:SE (rl x t):=by unfold rl;(repeat (first|exact SE.ok|exact SE.pure|exact SE.ask (by decide)|exact SE.err (by decide)|exact lu|exact lv|exact mb|exact lC|exact lD|exact lE|exact kI|assumption| (refine SE.bc ?_;first|exact ku|exact kz|exact ky|exact jq|exact jr|exact kx|exact kA|exact kB|exact kC|exact kE|exact kG|exact kH)| (refine SE.bind ?_ λ_=>?_)| (refine SE.foldlM (λ_ _=>?_) _ _)|split|dsimp only))
def azv(x:aq):SE (pX x):=by unfold pX;(repeat (first|exact SE.ok|exact SE.pure|exact SE.ask (by decide)|exact SE.err (by decide)|exact lu|exact lv|exact mb|exact lC|exact lD|exact lE|exact kI|assumption| (refine SE.bc ?_;first|exact ku|exact kz|exact ky|exact jq|exact jr|exact kx|exact kA|exact kB|exact kC|exact kE|exact kG|exact kH)| (refine SE.bind ?_ λ_=>?_)| (refine SE.foldlM (λ_ _=>?_) _ _)|split|dsimp only))
def azw(x:aq):SE (jH x):=by unfold jH;(repeat (first|exact SE.ok|exact SE.pure|exact SE.ask (by decide)|exact SE.err (by decide)|exact lu|exact lv|exact mb|exact lC|exact lD|exact lE|exact kI|assumption| (refine SE.bc ?_;first|exact ku|exact kz|exact ky|exact jq|exact jr|exact kx|exact kA|exact kB|exact kC|exact kE|exact kG|exact kH)| (refine SE.bind ?_ λ_=>?_)| (refine SE.foldlM (λ_ _=>?_) _ _)|split|dsimp only))
def azx(x:aq):SE (sO x):=by unfold sO;(repeat (first|exact SE.ok|exact SE.pure|exact SE.ask (by decide)|exact SE.err (by decide)|exact lu|exact lv|exact mb|exact lC|exact lD|exact lE|exact kI|assumption| (refine SE.bc ?_;first|exact ku|exact kz|exact ky|exact jq|exact jr|exact kx|exact kA|exact kB|exact kC|exact kE|exact kG|exact kH)| (refine SE.bind ?_ λ_=>?_)| (refine SE.foldlM (λ_ _=>?_) _ _)|split|dsimp only))
def azy(x:aq):SE (sP x):=by unfold sP;(repeat (first|rfl|exact SE.pure|rfl|rfl|exact lu|rfl|rfl|rfl|rfl|rfl|exact kI|assumption| (refine SE.bc ?_;first|exact ku|exact kz|exact ky|exact jq|exact jr|exact kx|exact kA|exact kB|exact kC|exact kE|exact kG|exact kH)| (refine SE.bind ?_ λ_=>?_)| (refine SE.foldlM (λ_ _=>?_) _ _)|split|dsimp only))
def azz(x:aq):SE (vh x):=by unfold vh;(repeat (first|exact SE.ok|exact SE.pure|exact SE.ask (by decide)|exact SE.err (by decide)|exact lu|exact lv|exact mb|exact lC|exact lD|exact lE|exact kI|assumption| (refine SE.bc ?_;first|exact ku|exact kz|exact ky|exact jq|exact jr|exact kx|exact kA|exact kB|exact kC|exact kE|exact kG|exact kH)| (refine SE.bind ?_ λ_=>?_)| (refine SE.foldlM (λ_ _=>?_) _ _)|split|dsimp only))
def azA(x:aq):SE (vi x):=by unfold vi;(repeat (first|exact SE.ok|exact SE.pure|exact SE.ask (by decide)|exact SE.err (by decide)|exact lu|exact lv|exact mb|exact lC|exact lD|exact lE|exact kI|assumption| (refine SE.bc ?_;first|exact ku|exact kz|exact ky|exact jq|exact jr|exact kx|exact kA|exact kB|exact kC|exact kE|exact kG|exact kH)| (refine SE.bind ?_ λ_=>?_)| (refine SE.foldlM (λ_ _=>?_) _ _)|split|dsimp only))
def azB(x:aq):SE (vk x):=by unfold vk;(repeat (first|exact SE.ok|exact SE.pure|exact SE.ask (by decide)|exact SE.err (by decide)|exact lu|exact lv|exact mb|exact lC|exact lD|exact lE|exact kI|assumption| (refine SE.bc ?_;first|exact ku|exact kz|exact ky|exact jq|exact jr|exact kx|exact kA|exact kB|exact kC|exact kE|exact kG|exact kH)| (refine SE.bind ?_ λ_=>?_)| (refine SE.foldlM (λ_ _=>?_) _ _)|split|dsimp only))
def azC(x:aq):SE (sQ x):=by unfold sQ;(repeat (first|exact SE.ok|exact SE.pure|exact SE.ask (by decide)|exact SE.err (by decide)|exact lu|exact lv|exact mb|exact lC|exact lD|exact lE|exact kI|assumption| (refine SE.bc ?_;first|exact ku|exact kz|exact ky|exact jq|exact jr|exact kx|exact kA|exact kB|exact kC|exact kE|exact kG|exact kH)| (refine SE.bind ?_ λ_=>?_)| (refine SE.foldlM (λ_ _=>?_) _ _)|split|dsimp only));all_goals exact SE.bc jr
def azD(x:aq):SE (pZ x):=by unfold pZ;(repeat (first|exact SE.ok|exact SE.pure|exact SE.ask (by decide)|exact SE.err (by decide)|exact lu|exact lv|exact mb|exact lC|exact lD|exact lE|exact kI|assumption| (refine SE.bc ?_;first|exact ku|exact kz|exact ky|exact jq|exact jr|exact kx|exact kA|exact kB|exact kC|exact kE|exact kG|exact kH)| (refine SE.bind ?_ λ_=>?_)| (refine SE.foldlM (λ_ _=>?_) _ _)|split|dsimp only))
def azE(x:aq):SE (vm x):=by unfold vm;(repeat (first|exact SE.ok|exact SE.pure|exact SE.ask (by decide)|exact SE.err (by decide)|exact lu|exact lv|exact mb|exact lC|exact lD|exact lE|exact kI|assumption| (refine SE.bc ?_;first|exact ku|exact kz|exact ky|exact jq|exact jr|exact kx|exact kA|exact kB|exact kC|exact kE|exact kG|exact kH)| (refine SE.bind ?_ λ_=>?_)| (refine SE.foldlM (λ_ _=>?_) _ _)|split|dsimp only))
def azF(x:aq):SE (nm x):=by unfold nm;(repeat (first|exact SE.ok|exact SE.pure|exact SE.ask (by decide)|exact SE.err (by decide)|exact lu|exact lv|exact mb|exact lC|exact lD|exact lE|exact kI|assumption| (refine SE.bc ?_;first|exact ku|exact kz|exact ky|exact jq|exact jr|exact kx|exact kA|exact kB|exact kC|exact kE|exact kG|exact kH)| (refine SE.bind ?_ λ_=>?_)| (refine SE.foldlM (λ_ _=>?_) _ _)|split|dsimp only))
def azG(x:aq):SE (ox x):=by unfold ox;(repeat (first|exact SE.ok|exact SE.pure|exact SE.ask (by decide)|exact SE.err (by decide)|exact lu|exact lv|exact mb|exact lC|exact lD|exact lE|exact kI|assumption| (refine SE.bc ?_;first|exact ku|exact kz|exact ky|exact jq|exact jr|exact kx|exact kA|exact kB|exact kC|exact kE|exact kG|exact kH)| (refine SE.bind ?_ λ_=>?_)| (refine SE.foldlM (λ_ _=>?_) _ _)|split|dsimp only))
def azH(x:aq):SE (vo x):=by unfold vo;(repeat (first|rfl|exact SE.pure|rfl|rfl|rfl|rfl|rfl|exact lC|exact lD|exact lE|exact kI|assumption| (refine SE.bc ?_;first|exact ku|exact kz|exact ky|exact jq|exact jr|exact kx|exact kA|exact kB|exact kC|exact kE|exact kG|exact kH)| (refine SE.bind ?_ λ_=>?_)| (refine SE.foldlM (λ_ _=>?_) _ _)|split|dsimp only))
def azI(x:aq):SE (oy x):=by unfold oy;(repeat (first|exact SE.ok|exact SE.pure|exact SE.ask (by decide)|exact SE.err (by decide)|exact lu|exact lv|exact mb|exact lC|exact lD|exact lE|exact kI|assumption| (refine SE.bc ?_;first|exact ku|exact kz|exact ky|exact jq|exact jr|exact kx|exact kA|exact kB|exact kC|exact kE|exact kG|exact kH)| (refine SE.bind ?_ λ_=>?_)| (refine SE.foldlM (λ_ _=>?_) _ _)|split|dsimp only))
def azJ(x:aq):SE (vq x):=by unfold vq;(repeat (first|exact SE.ok|exact SE.pure|exact SE.ask (by decide)|exact SE.err (by decide)|exact lu|exact lv|exact mb|exact lC|exact lD|exact lE|exact kI|assumption| (refine SE.bc ?_;first|exact ku|exact kz|exact ky|exact jq|exact jr|exact kx|exact kA|exact kB|exact kC|exact kE|exact kG|exact kH)| (refine SE.bind ?_ λ_=>?_)| (refine SE.foldlM (λ_ _=>?_) _ _)|split|dsimp only))
def azK(x:aq):SE (rm x):=by(repeat (first|rfl|exact SE.pure|exact SE.ask (by decide)|rfl|rfl|rfl|rfl|rfl|rfl|rfl|rfl|rfl|rfl| (refine SE.bind ?_ λ_=>?_)|rfl|split|rfl))
def azL(x:aq):SE (vl x):=by unfold vl;(repeat (first|exact SE.ok|exact SE.pure|exact SE.ask (by decide)|exact SE.err (by decide)|exact lu|exact lv|exact mb|exact lC|exact lD|exact lE|exact kI|assumption| (refine SE.bc ?_;first|exact ku|exact kz|exact ky|exact jq|exact jr|exact kx|exact kA|exact kB|exact kC|exact kE|exact kG|exact kH)| (refine SE.bind ?_ λ_=>?_)| (refine SE.foldlM (λ_ _=>?_) _ _)|split|dsimp only))
def azM(x:aq):SE (xm x):=by
 exact SE.bind lv λ_=>SE.bind amF λ_=>SE.pure
def azN(x:aq):SE (ki x):=by
 unfold ki;split<;>first|exact azv x|exact azw x|exact azu|exact azx x|exact azy x|exact azz x|exact azA x|exact azB x|exact azC x|exact azL x|exact azD x|exact azE x|exact azF x|exact azG x|exact azH x|exact azI x|exact azJ x|exact azM x|exact azK x|exact SE.err (by decide)|exact SE.bind amF λ_=>SE.pure
theorem azO(h:ji x= .error e):e<13:=SE.bind (SE.ask (by decide)) (λ_=>azN x) _ h
structure RO(x:aq)(a:aq×bE):Prop where
 s:bm a.1.s
 back:a.1.back=x.back
 w:a.2.w<4294967296
 v:a.2.v<18446744073709551616
theorem azP{r:dc}(h:fO r){l:List aE}{n:Nat}(d:n<=2048)(b: ∀x∈l,1<=x.2/\x.1+x.2<=64)(c:aN l<=64):fO {r with runs:=l,len:=n}:=⟨h.up,h.ds,d,h.cells,b,c⟩
def WL{b:Bool}{u:Unit}(h:ask b e= .ok u):b=true:=by
 unfold ask at h;grind
def azQ{l:List aE}{r:aE}{n:Nat}(h:pV (l++[r]) n=true):1<=r.2/\r.1+r.2<=64:=by
 unfold pV at h;rw[Ml]at h;simp only[aiq]at h;cases hm:mI [] l with
 |none=>grind
 |some m=>
  rw[hm]at h;unfold mI at h;cases b:iq m r with
  |none=>grind
  |some a=>
   unfold iq at b;split at b
   ·rename_i c;unfold ld at c
    grind
   grind
def Nc{h:Nat}(b:bm x.s)(c:h<4294967296)(e:mM x h t= .ok y):bm y.s/\y.back=x.back:=by
 obtain⟨_,_,e⟩:=bo e;cases e;exact⟨b.vJ (b.O.iq c),rfl⟩
def WM{h:Nat}{r:dc}(b:bm x.s)(c:fO r)(e:nj x h r= .ok y):bm y.s/\y.back=x.back:=by
 obtain⟨_,_,e⟩:=bo e;cases e;exact⟨b.vI (b.eA.set c),rfl⟩
def WN{h:Nat}(b:bm x.s)(e:vg x h= .ok y):bm y.s/\y.back=x.back:=by
 obtain⟨_,_,e⟩:=bo e;cases e;exact⟨b.vI (b.eA.cut h),rfl⟩
section
variable{x:aq}(hx:mQ x){a:aq×bE}
include hx
theorem azR(h:pX x= .ok a):RO x a:=by
 unfold pX at h;have b: (hE x.s.T x.c.r (min x.c.a 65)).2.1<4294967296:=akb hx.s.T.b;have c:bm (x.t (hE x.s.T x.c.r (min x.c.a 65)).1).s:=hx.s.vI (hx.s.eA.new _ _ hx.c.r);by_cases d:x.c.r=0
 ·simp only[d,ne_eq,not_true,amn,aiH]at h;obtain⟨_,_,h⟩:=bo h;obtain⟨y,e,h⟩:=bo h;cases h;rw[d]at b c;obtain⟨g,f⟩:=Nc c b e;exact⟨g,f,b,by show 0<18446744073709551616;omega⟩
 ·simp only[d,ne_eq,not_false_eq_true,amn,aiH]at h;obtain⟨_,_,h⟩:=bo h;obtain⟨_,_,h⟩:=bo h;obtain⟨y,e,h⟩:=bo h;cases e;cases h;exact⟨c,rfl,b,by show 0<18446744073709551616;omega⟩
theorem amG{w:Nat}(h:rl x w= .ok a):RO x a/\a.2=bX:=by
 obtain⟨_,_,h⟩:=bo h;obtain⟨_,_,h⟩:=bo h;obtain⟨_,_,h⟩:=bo h;obtain⟨_,_,h⟩:=bo h;cases h;exact⟨⟨hx.s,rfl,by show 0<4294967296;omega,by show 0<18446744073709551616;omega⟩,rfl⟩
theorem azS(h:vh x= .ok a):RO x a:=by
 obtain⟨_,_,h⟩:=bo h;obtain⟨_,_,h⟩:=bo h;obtain⟨y,e,h⟩:=bo h;obtain⟨z,g,h⟩:=bo h;cases h;obtain⟨f,d⟩:=WN hx.s e;obtain⟨c,b⟩:=Nc f hx.c.r g;exact⟨c,b.trans d,by show 0<4294967296;omega,by show 0<18446744073709551616;omega⟩
theorem azT(h:vi x= .ok a):RO x a:=by
 obtain⟨_,_,h⟩:=bo h;obtain⟨_,_,h⟩:=bo h;obtain⟨_,_,h⟩:=bo h;cases h;exact⟨hx.s.vI (hx.s.eA.avT _ _ hx.c.s),rfl,by show 0<4294967296;omega,by show 0<18446744073709551616;omega⟩
theorem azU(h:vk x= .ok a):RO x a:=by
 obtain⟨_,_,h⟩:=bo h;obtain⟨y,e,h⟩:=bo h;obtain⟨_,_,h⟩:=bo h;cases h;obtain⟨b,c⟩:=WN hx.s e;exact⟨b.vJ (b.O.freeze hx.c.r),c,by show 0<4294967296;omega,by show 0<18446744073709551616;omega⟩
theorem azV(h:sQ x= .ok a):RO x a:=by
 obtain⟨_,_,h⟩:=bo h;obtain⟨_,_,h⟩:=bo h;obtain⟨_,_,h⟩:=bo h;cases h;exact⟨hx.s.vJ (hx.s.O.held hx.c.r),rfl,by show 0<4294967296;omega,by show 0<18446744073709551616;omega⟩
theorem azW(b: ∀t,(lh x.s.K t).2.1<4294967296)(h:pZ x= .ok a):RO x a:=by
 unfold pZ at h;obtain⟨_,_,h⟩:=bo h;obtain⟨_,_,h⟩:=bo h;obtain⟨_,_,h⟩:=bo h
 try rfl
 have d:=hx.t;have c:s6 ⟨x.c.r,x.aa % 256,x.c.a % 256,decide (x.c.b=1),x.c.s⟩:=⟨hx.c.r,aoG _ (by omega),aoG _ (by omega),hx.c.s⟩;split at h
 ·obtain⟨_,_,h⟩:=bo h;obtain⟨_,_,h⟩:=bo h;cases h;exact⟨hx.s.Cx (hx.s.tok.aj6 c),rfl,b _,by show 0<18446744073709551616;omega⟩
 ·obtain⟨_,_,h⟩:=bo h;obtain⟨_,_,h⟩:=bo h;obtain⟨_,_,h⟩:=bo h;cases h;exact⟨hx.s.Cx (hx.s.tok.aj6 c),rfl,b _,by show 0<18446744073709551616;omega⟩
theorem azX(h:vm x= .ok a):RO x a:=by
 obtain⟨_,_,h⟩:=bo h;obtain⟨_,_,h⟩:=bo h;cases h;exact⟨hx.s.Cx (hx.s.tok.ret _),rfl,by show 0<4294967296;omega,by show 0<18446744073709551616;omega⟩
theorem azY(h:vo x= .ok a):RO x a:=by
 obtain⟨_,_,h⟩:=bo h;cases h;exact⟨hx.s.Cy (hx.s.bx _).close,rfl,by show 0<4294967296;omega,by show 0<18446744073709551616;omega⟩
theorem azZ(h:rm x= .ok a):RO x a:=by
 obtain⟨_,_,h⟩:=bo h;cases h;exact⟨hx.s.VC,rfl,by show 0<4294967296;omega,by show 0<18446744073709551616;omega⟩
theorem az0(h:ox x= .ok a):RO x a:=by
 unfold ox at h;obtain⟨c,hm⟩:=(hx.s.bx x.aa).take;have b:bm (x.bx x.aa (mK (x.s.c8 x.aa)).1).s:=hx.s.Cy c
 try dsimp only at h
 obtain⟨_,_,h⟩:=bo h;split at h
 ·obtain⟨y,e,h⟩:=bo h;cases h;obtain⟨f,d⟩:=Nc b hm.aL e;exact⟨f,d,hm.aL,hm.word⟩
 ·obtain⟨y,e,h⟩:=bo h;cases e;cases h;exact⟨b,rfl,hm.aL,hm.word⟩
theorem az1(e:x.run.1<=64/\x.run.2<=64)(h:jH x= .ok a):RO x a:=by
 unfold jH at h
 try dsimp only at h
 have d:=hx.s.T.get x.c.r;cases m:pY (min x.c.a 129) (min x.c.b 9)with
 |none=>rw[m]at h;cases h
 |some n=>
  rw[m]at h;obtain⟨_,e1,h⟩:=bo h;cases e1;obtain⟨_,_,h⟩:=bo h;obtain⟨_,_,h⟩:=bo h;split at h
  ·rename_i k u;obtain⟨z,l,h⟩:=bo h;cases h;have b:k+min x.c.a 129<=2048:=by
    have:=Cz u;have:=d.aN;omega
   obtain⟨j,i⟩:=WM (r:={(aK x.s.T x.c.r).1 with len:=k+min x.c.a 129}) hx.s ⟨d.up,d.ds,b,d.cells,d.runs,d.aN⟩ l;exact⟨j,i,by show 0<4294967296;omega,by show k<18446744073709551616;omega⟩
  ·obtain⟨_,g,h⟩:=bo h;have g:=WL g
   try dsimp only at h
   split at h
   ·cases h;exact⟨hx.s,rfl,by show 0<4294967296;omega,by show 0<18446744073709551616;omega⟩
   ·obtain⟨_,hm,h⟩:=bo h;have hm:=WL hm;obtain⟨z,l,h⟩:=bo h;cases h;simp only[amB]at g;simp only[aiq,amB]at hm;have t:=akc (aK x.s.T x.c.r).1.runs x.run;have o:=d.ds;have p:=d.aN;have f:1<=x.run.2/\x.run.1+x.run.2<=64:=azQ hm.2;have b: (match gO ((aK x.s.T x.c.r).1.runs++[x.run]) (aN (aK x.s.T x.c.r).1.runs*32) (min x.c.a 129) (min x.c.b 9)with|some a=>a+min x.c.a 129|none=>aN (aK x.s.T x.c.r).1.runs*32)<=2048:=by
     split
     ·rename_i q;exact ajR (Cz q) (by omega)
     ·exact ajR (ant 32 (show _<=64 by omega)) (by decide)
    obtain⟨j,i⟩:=WM (x:={s:=x.s,aa:=x.aa,c:=x.c,run:=x.run,mL:=n,asks:=x.asks,back:=x.back}) hx.s (azP d b (λr e=>by
     rcases agT.1 e with e|e
     ·exact d.runs r e
     ·rw[agV.1 e];exact f) (by omega)) l
    refine⟨j,i,by show 0<4294967296;omega,?_⟩;show(gO ((aK x.s.T x.c.r).1.runs++[x.run]) (aN (aK x.s.T x.c.r).1.runs*32) (min x.c.a 129) (min x.c.b 9)).getD 0<_;cases q:gO ((aK x.s.T x.c.r).1.runs++[x.run]) (aN (aK x.s.T x.c.r).1.runs*32) (min x.c.a 129) (min x.c.b 9)with
    |none=>show 0<_;omega
    |some k=>have:=Cz q;show k<_;omega
theorem az2(h:oy x= .ok a):RO x a:=by
 unfold oy at h;obtain⟨_,_,h⟩:=bo h;have key:eo (ni x.s.T x.c.r (min x.c.a 8) x.c.s (decide ((b0 x.s.O x.s.T x.c.s).kind=3))).1:=by
  rw[ajX];split
  ·exact hx.s.eA.set ((hx.s.T.get x.c.r).setCells λi=>by
    unfold ar;split
    ·exact hx.c.s
    ·exact(hx.s.T.get x.c.r).cells i)
  ·exact hx.s.eA
 try rfl
 split at h
 ·obtain⟨_,_,h⟩:=bo h
  try rfl
  obtain⟨_,_,h⟩:=bo h;cases h;exact⟨hx.s.vI key,rfl,by show 0<4294967296;omega,by show 0<18446744073709551616;omega⟩
 ·try dsimp only at h
  obtain⟨_,_,h⟩:=bo h;cases h;exact⟨hx.s.vI key,rfl,by show 0<4294967296;omega,by show 0<18446744073709551616;omega⟩
theorem az3(h:vq x= .ok a):RO x a:=by
 obtain⟨_,_,h⟩:=bo h;obtain⟨_,_,h⟩:=bo h;cases h;refine⟨hx.s,rfl,?_,by show 0<18446744073709551616;omega⟩;unfold sM;split
 ·simp
 ·split
  ·simp
  ·dsimp only;split
   ·simp
   ·split
    ·simp
    ·exact(hx.s.T.get x.c.r).cells _
theorem az4(h:nm x= .ok a):RO x a:=by
 unfold nm at h;obtain⟨_,_,h⟩:=bo h;obtain⟨_,_,h⟩:=bo h
 try dsimp only at h
 have j:=hx.t;have hm: ∀b,vF ⟨x.aa % 256,x.c.v,x.c.r,b⟩:=λb=>⟨by grind,hx.c.v,hx.c.r⟩
 have fin: ∀ (y:aq) (b:Bool),bm y.s->y.back=x.back->(bc (ow (y.s.c8 x.c.a) ⟨x.aa % 256,x.c.v,x.c.r,b⟩).2>>=λ_=>(Pure.pure (y.bx x.c.a (ow (y.s.c8 x.c.a) ⟨x.aa % 256,x.c.v,x.c.r,b⟩).1,bX):R (aq×bE)))= .ok a->RO x a:=by
  intro y b d g h;obtain⟨_,_,h⟩:=bo h;cases h;exact⟨d.Cy ((d.bx _).put (hm b)),g,by show 0<4294967296;omega,by show 0<18446744073709551616;omega⟩
 split at h
 ·obtain⟨_,_,h⟩:=bo h
  try dsimp only at h
  obtain⟨y,e,h⟩:=bo h;cases e;refine fin _ _ ?_ ?_ h
  ·split
   ·exact hx.s.vJ (hx.s.O.held hx.c.r)
   ·exact hx.s
  ·split<;>rfl
 ·split at h
  ·obtain⟨_,_,h⟩:=bo h;obtain⟨y,e,h⟩:=bo h;obtain⟨f,i⟩:=WN hx.s e
   try dsimp only at h
   obtain⟨_,_,h⟩:=bo h;obtain⟨z,c,h⟩:=bo h;cases c;exact fin (y.o (zt y.s.O y.s.T x.c.r).1) _ (f.vJ (f.O.fly hx.c.r)) i h
  ·obtain⟨z,c,h⟩:=bo h;cases c;exact fin _ _ hx.s rfl h
end
structure GI(y:aq):Prop where
 s:bm y.s
 eH:Go.Proofs.YteplichagkpciaaGreatDoor.eH y<=2048
 runs: ∀r∈y.back,r.1<=64/\r.2<=64
def GI.len(h:GI y):y.back.length<=4096:=by have:=h.eH;unfold Go.Proofs.YteplichagkpciaaGreatDoor.eH at this;omega
theorem GI.set{z:aq}(h:GI y)(b:bm z.s)(c:z.back=y.back)(d:z.s.T=y.s.T):GI z:=
 ⟨b,by have:=h.eH;unfold Go.Proofs.YteplichagkpciaaGreatDoor.eH at*;grind,by rw[c];exact h.runs⟩
theorem amH: ∀ (l:lN) (y:aq),bm y.s->(∀r∈y.back,r.1<=64/\r.2<=64)-> ∀r∈(l.foldl iL y).back,r.1<=64/\r.2<=64
 | [],_,_,h=>h
 |a::l,y,c,h=>amH l (iL y a) (VH [a] y c) λr b=>by
  rcases agT.1 (show r∈y.back++(aK y.s.T a).1.runs from b)with b|b
  ·grind
  ·have:=(c.T.get a).runs r b;omega
theorem GI.gone(h:GI y)(a:Nat):GI (gv y a):=⟨VP h.s a,ajR (VN h.s a) h.eH,amH _ y h.s h.runs⟩
def GI.km{z:aq}(h:GI y)(c:a<4294967296)(b:jI y a aa= .ok z):GI z:=by
 obtain⟨_,_,b⟩:=bo b;have d:GI (y.o (dt y.s.O y.s.T a aa false).1):=h.set (h.s.vJ (h.s.O.held c)) rfl rfl;cases b;split
 ·exact d.gone a
 omega
theorem GI.foldlM{β:Type}{P:β->Prop}{f:aq->β->R aq}(d: ∀y b z,GI y->P b->f y b= .ok z->GI z): ∀ (l:List β) (y z:aq),(∀b∈l,P b)->GI y->l.foldlM f y= .ok z->GI z
 | [],y,z,_,h,e=>by cases e;exact h
 |b::l,y,z,g,h,e=>by
  obtain⟨w,e1,j⟩:=bo (show(f y b>>=λw=>l.foldlM f w)= .ok z from by grind);exact GI.foldlM d l w z (λc i=>g c (ahd _ i)) (d y b w h (g b (amu ..)) e1) j
theorem GI.foldl{β:Type}{f:aq->β->aq}(c: ∀y b,GI y->GI (f y b)): ∀ (l:List β) (y:aq),GI y->GI (l.foldl f y)
 | [],_,h=>h
 |b::l,y,h=>GI.foldl c l (f y b) (c y b h)
def GI.dies(h:GI x)(e:nq x aa= .ok y):GI y:=by
 rw[akm]at e;obtain⟨w,e1,g⟩:=bo e;have q:GI (vO x aa):=h.set ((h.s.Cy iS.gone).VC) rfl rfl;have p:GI w:=GI.foldlM (P:=vF) (λy m z b hm e=>by
  unfold CB at e;split at e
  ·cases e;exact b
  ·split at e
   ·obtain⟨k,j⟩:=Nc b.s hm.aL e;obtain⟨_,_,e⟩:=bo e;cases e;exact b.set k j rfl
   ·cases e;exact b.gone _) _ _ _ (λm hm=>by
    obtain⟨i,_,rfl⟩:=ag2.1 hm;exact(h.s.bx aa).ring _) q e1
 unfold VS at g;have o:=GI.foldl (f:=λy h=>y.k (mJ y.s.K h).1) (λy a b=>b.set (b.s.Cx (b.s.tok.ret a)) rfl rfl) (xi w.s.K aa) w p;have d:=λl=>GI.foldl (f:=gv) (λy a b=>b.gone a) l _ o
 refine GI.foldlM (P:=λa=>a<4294967296) (λy a z b c e=>b.km c e) _ _ _ (λa c=>?_) (d _) g;have n:=(air.1 c).1;exact gg ((jh (d _).s.T.b).1 n)
def GI.start{s:bG}(d:bm s)(aa:Nat)(c:cp)(run:aE)(n:Nat)(b:Bool):GI ⟨s,aa,c,run,n,b,[]⟩:=by
 refine⟨d,?_,λr e=>by grind⟩;have:=nd s.T.b;show([]:List aE).length+64*(bn s.T.b).length<=2048
 grind
structure RD(c:cp)(a:aq×bE):Prop where
 s:bm a.1.s
 len:a.1.back.length<=4096
 runs: ∀r∈a.1.back,r.1<=64/\r.2<=64
 v:c.op=3->a.2.v=0
 w:a.2.w<4294967296
 v2:a.2.v<18446744073709551616
theorem RO.d{a:aq×bE}(h:RO x a)(b:GI x)(d:c.op=3->a.2.v=0):RD c a:=
 ⟨h.s,by rw[h.back];exact b.len,by rw[h.back];exact b.runs,d,h.w,h.v⟩
theorem GI.d(h:GI y):RD c (y,bX):=⟨h.s,h.len,h.runs,λ_=>rfl,by show 0<4294967296;omega,by show 0<18446744073709551616;omega⟩
def az5(hx:mQ x)(d:GI x){a:aq×bE}(h:sO x= .ok a):RD x.c a:=by
 unfold sO at h;obtain⟨_,_,h⟩:=bo h;obtain⟨_,_,h⟩:=bo h
 try rfl
 obtain⟨y,e,h⟩:=bo h;cases h;have b:=hx.s.T.get x.c.r;have c:fO {dB with ds:=(aK x.s.T x.c.r).1.ds}:=⟨by simp[dB],b.ds,by simp[dB],by simp[dB],by simp[dB],by simp[dB,aN]⟩;obtain⟨g,f⟩:=WM (x:={x with back:=x.back++(aK x.s.T x.c.r).1.runs}) hx.s c e;have i: (aK x.s.T x.c.r).1.runs.length<=64:=ajR (Vd λr h=>(b.runs r h).1) b.aN;refine⟨g,?_,?_,λ_=>rfl,by show 0<4294967296;omega,by show 0<18446744073709551616;omega⟩
 ·rw[f];have:=d.eH;unfold eH at this
  grind
 ·rw[f];intro r hm;rcases agT.1 (show r∈x.back++(aK x.s.T x.c.r).1.runs from hm)with hm|hm
  ·exact d.runs r hm
  ·have:=b.runs r hm;omega
def az6(b:GI x){a:aq×bE}(h:sP x= .ok a):RD x.c a:=by
 obtain⟨_,_,h⟩:=bo h;cases h;exact(b.gone _).d
def az7(hx:mQ x)(b:GI x){a:aq×bE}(h:vl x= .ok a):RD x.c a:=by
 obtain⟨_,_,h⟩:=bo h;obtain⟨y,e,h⟩:=bo h;cases h;exact(b.km hx.c.r e).d
def amI(b:GI x){a:aq×bE}(h: (nq x t>>=λy=>.ok (y,bX))= .ok a):RD x.c a:=by
 obtain⟨y,e,h⟩:=bo h;cases h;exact(b.dies e).d
def az8{k:bg}(c:gM k.b){x:Tok}: (lh k x).2.1<4294967296:=by
 unfold lh;split
 ·simp
 ·split
  ·rename_i i b;split
   ·exact F4 (sK b).1 (c i).1
   grind
  grind
def az9(hx:mQ x)(b:GI x)(c:x.run.1<=64/\x.run.2<=64){a:aq×bE}(h:ki x= .ok a):RD x.c a:=by
 unfold ki at h;split at h
 all_goals try(rename_i ho;first
  |exact(azR hx h).d b (λq=>absurd (ho ▸ q) (by decide))
  |exact(az1 hx c h).d b (λq=>absurd (ho ▸ q) (by decide))
  |exact(amG hx h).1.d b (λq=>akp bE.v (amG hx h).2)
  |exact az5 hx b h
  |exact az6 b h
  |exact az7 hx b h
  |exact amI b h
  |exact(azS hx h).d b (λq=>absurd (ho ▸ q) (by decide))
  |exact(azT hx h).d b (λq=>absurd (ho ▸ q) (by decide))
  |exact(azU hx h).d b (λq=>absurd (ho ▸ q) (by decide))
  |exact(azV hx h).d b (λq=>absurd (ho ▸ q) (by decide))
  |exact(azW hx (λt=>az8 hx.s.K.b) h).d b (λq=>absurd (ho ▸ q) (by decide))
  |exact(azX hx h).d b (λq=>absurd (ho ▸ q) (by decide))
  |exact(az4 hx h).d b (λq=>absurd (ho ▸ q) (by decide))
  |exact(az0 hx h).d b (λq=>absurd (ho ▸ q) (by decide))
  |exact(azY hx h).d b (λq=>absurd (ho ▸ q) (by decide))
  |exact(az2 hx h).d b (λq=>absurd (ho ▸ q) (by decide))
  |exact(az3 hx h).d b (λq=>absurd (ho ▸ q) (by decide))
  |exact(azZ hx h).d b (λq=>absurd (ho ▸ q) (by decide)))
 ·unfold xm at h;obtain⟨_,_,h⟩:=bo h;exact amI b h
 ·cases h
def amJ{s:bG}(d:bm s)(j:jM c){run:aE}(f:run.1<=64/\run.2<=64):rL (dH s aa c run) c/\ (dH s aa c run).2.1.v<18446744073709551616:=by
 rw[axm];cases h:ji ⟨s,aa,c,run,0,false,[]⟩with
 |error e=>
  have:=azO h;exact⟨⟨d,by simp,λr f=>(by grind),λ_=>by show 0<18446744073709551616;omega,by show 0<4294967296;omega,by grind⟩,by show 0<18446744073709551616;omega⟩
 |ok a=>
  obtain⟨y,r⟩:=a;have he:=VW h;obtain⟨_,g,h⟩:=bo (show(ask _ _>>=λ_=>ki _)=_ from h);have g:=WL g;have i:aa<8:=by grind
  have b:=az9 (x:=⟨s,aa,c,run,0,false,[]⟩) ⟨d,i,j,by grind,by grind⟩ (GI.start d ..) f h;exact⟨⟨b.s,b.len,b.runs,λq=>by rw[show r.v=0 from b.v q];decide,b.w,by grind⟩,b.v2⟩
theorem WO{s:bG}(b:bm s)(e:jM c){run:aE}(d:run.1<=64/\run.2<=64):rL (dH s aa c run) c:=(amJ b e d).1
structure SK(s:bT)(c0:cp)(n:Nat):Prop where
 S:bm s.x.S
 P:fI s.x.P
 M: ∀i,hU (s.x.M i)
 Q: ∀k∈s.x.Q,k<2147483648
 len:s.x.Q.length<=n
 c:fG s.c
 run:s.c.run.1<=64/\s.c.run.2<=64
 cc:s.c.c=c0
 w:s.r.w<4294967296
 e:s.r.e<4294967296
 v:s.r.v<18446744073709551616
theorem amK: ∀ (l:lN) (f g:Nat->Nat) (P:cO),fI P->(∀i,g i<256)->fI (l.foldl (λP i=>vt P (f i) (g i)) P)
 | [],_,_,_,a,_=>a
 |i::l,f,g,P,a,b=>amK l f g _ (a.write _ _ (b i)) b
section
variable{s:bT}{c0:cp}{n:Nat}(h:SK s c0 n)
include h
theorem SK.iA:jM c0:=h.cc ▸ h.c.iA
theorem SK.ends(b:r.w<4294967296)(e:r.e<4294967296)(c:r.v<18446744073709551616):SK (ry s r) c0 (n+64):=by
 refine⟨h.S,h.P,V5 h.M _,λk a=>?_,?_,h.c,h.run,h.cc,b,e,c⟩
 ·rcases agT.1 (show k∈s.x.Q++iP s.c.run from a)with a|a
  ·exact h.Q k a
  ·obtain⟨i,d,rfl⟩:=ag2.1 a;have:=aqP.1 d;have:=h.run;omega
 ·show(vu _ _).Q.length<=_;rw[amm];have:=h.len;have:=h.run;omega
theorem SK.check(b: ∀a∈sR s.x.S c0,a<4294967296):SK (oB s).1 c0 (n+64):=by
 have c:=h.len;unfold oB;rw[h.cc];split
 ·exact⟨h.S,h.P,h.M,h.Q,by grind,h.c,h.run,h.cc,h.w,h.e,h.v⟩
 split
 ·exact⟨h.S,h.P,h.M,h.Q,by grind,h.c,h.run,h.cc,h.w,h.e,h.v⟩
 split
 ·refine h.ends (by show 0<_;omega) ?_ (by show 0<_;omega);show oz s.x.S s.c.aa c0<_;unfold oz;split
  ·omega
  ·exact(WO h.S h.iA (run:=(0,0)) ⟨by simp,by simp⟩).e
 ·exact⟨h.S,h.P,h.M,h.Q,by grind,⟨h.c.aa,h.c.iA,b,h.c.run,h.c.eW⟩,h.run,h.cc,h.w,h.e,h.v⟩
theorem SK.marks:SK (oC s).1 c0 n:=by
 unfold oC;split
 ·exact h
 ·rename_i a l c;refine⟨h.S,h.P,axE h.M _,h.Q,h.len,?_,?_,?_,h.w,h.e,h.v⟩
  ·show fG (if(iO s.x.M (aM a) s.c.aa).2 then{s.c with aT:=l}else s.c);split
   ·exact⟨h.c.aa,h.c.iA,λb d=>h.c.aT b (by grind),h.c.run,h.c.eW⟩
   ·exact h.c
  ·show(if(iO s.x.M (aM a) s.c.aa).2 then{s.c with aT:=l}else s.c).run.1<=64/\ (if(iO s.x.M (aM a) s.c.aa).2 then{s.c with aT:=l}else s.c).run.2<=64;split
   ·exact h.run
   ·exact h.run
  ·show(if(iO s.x.M (aM a) s.c.aa).2 then{s.c with aT:=l}else s.c).c=c0;split
   ·exact h.cc
   ·exact h.cc
theorem SK.aAa:SK (oD s).1 c0 (n+64):=by
 have d:=h.len;have c:=alE s.x.S s.c.aa s.c.c;unfold oD;dsimp only;split
 ·exact⟨h.S,h.P,h.M,h.Q,by grind,h.c,h.run,h.cc,h.w,h.e,h.v⟩
 have a:=h.P.alC (eV s.x.S s.c.aa s.c.c);split
 ·have b:SK {s with x:={s.x with P:=(jk s.x.P (eV s.x.S s.c.aa s.c.c)).1}} c0 n:=⟨h.S,a,h.M,h.Q,h.len,h.c,h.run,h.cc,h.w,h.e,h.v⟩;refine b.ends (by show 0<_;omega) ?_ (by show 0<_;omega);unfold jk
  grind
 ·rename_i he;have:=aye h.P _ (by omega) (Decidable.not_not.1 he);exact⟨h.S,a,h.M,h.Q,by grind,⟨h.c.aa,h.c.iA,h.c.aT,⟨by grind,by show eV _ _ _<_;omega⟩,h.c.eW⟩,⟨by show(jk _ _).2.1<=_;omega,by show eV _ _ _<=_;omega⟩,h.cc,h.w,h.e,h.v⟩
theorem SK.aAb:SK (oE s).1 c0 n:=by
 unfold oE;split
 ·exact h
 ·have:=h.run;exact⟨h.S,h.P.clear _,h.M,h.Q,h.len,⟨h.c.aa,h.c.iA,h.c.aT,h.c.run,by grind⟩,h.run,h.cc,h.w,h.e,h.v⟩
theorem SK.eC:SK (Go.Proofs.YteplichagkpciaaGreatDoor.eC s) c0 (n+64):=by
 have c:=h.len;unfold Go.Proofs.YteplichagkpciaaGreatDoor.eC;split
 ·have b:=h.run;refine⟨h.S,h.P,h.M,λk a=>?_,?_,⟨h.c.aa,h.c.iA,h.c.aT,⟨by simp,by simp⟩,h.c.eW⟩,⟨by simp,by simp⟩,h.cc,h.w,h.e,h.v⟩
  ·rcases agT.1 (show k∈s.x.Q++iP s.c.run from a)with a|a
   ·exact h.Q k a
   ·obtain⟨i,d,rfl⟩:=ag2.1 a
    grind
  ·show(s.x.Q++iP s.c.run).length<=_;rw[agU];have: (iP s.c.run).length=s.c.run.2:=by simp[iP]
   omega
 ·exact⟨h.S,h.P,h.M,h.Q,by omega,h.c,h.run,h.cc,h.w,h.e,h.v⟩
theorem SK.aAc:SK (zy s) c0 (n+262400):=by
 rw[alS];have a:=h.eC;generalize Go.Proofs.YteplichagkpciaaGreatDoor.eC s=st at a;obtain⟨b,d⟩:=amJ a.S a.iA (aa:=st.c.aa) (run:=st.c.run) a.run;unfold M3;rw[a.cc];dsimp only;split
 ·have:=a.ends b.w b.e d;exact⟨this.S,this.P,this.M,this.Q,by have:=this.len;omega,this.c,this.run,this.cc,this.w,this.e,this.v⟩
 ·have v:=a.len;have q:=b.len;have w:fI (zY st.x.P c0 (iM st.x.S c0).1):=by
   unfold zY;split
   ·exact amK _ _ _ _ a.P λi=>aoG _ (by omega)
   ·exact a.P
  generalize t: ({st.x with S:=(dH st.x.S st.c.aa c0 st.c.run).1,P:=zY st.x.P c0 (iM st.x.S c0).1}:Core)=X;have e:X.Q=st.x.Q:=by grind
  have j:X.M=st.x.M:=by grind
  have g:fI X.P:=by grind
  have f:bm X.S:=by rw[<-t];exact b.S
  obtain⟨o,m,l⟩:=Wp (dH st.x.S st.c.aa c0 st.c.run).2.2 X;have k:=CG (dH st.x.S st.c.aa c0 st.c.run).2.2 X λr p=>(b.runs r p).2
  have u:SK {st with x:=(dH st.x.S st.c.aa c0 st.c.run).2.2.foldl cU X,c:={st.c with run:=(0,0)}} c0 (n+262336):=
   ⟨o ▸ f,m ▸ g,by rw[show((dH st.x.S st.c.aa c0 st.c.run).2.2.foldl cU X).M=X.M from l,j];exact a.M,Wq _ X b.runs (by rw[e];exact a.Q),by
     rw[e]at k;exact ajR k (by omega),⟨a.c.aa,a.c.iA,a.c.aT,⟨by show 0<_;omega,by show 0<_;omega⟩,a.c.eW⟩,⟨by show 0<=_;omega,by show 0<=_;omega⟩,a.cc,a.w,a.e,a.v⟩
  refine u.ends b.w b.e ?_;show zZ _ _ _ _<_;unfold zZ;split
  ·exact Wl a.P _ _ d _ (alH a.S c0).1
  omega
theorem SK.mono{m:Nat}(a:n<=m):SK s c0 m:=⟨h.S,h.P,h.M,h.Q,by have:=h.len;omega,h.c,h.run,h.cc,h.w,h.e,h.v⟩
end
def aAd{t:aw}(c:eo t){h:Nat}(b:a∈under t h):t.ax a=true:=by
 unfold under at b;split at b
 ·rename_i d;exact F7 c.ok.b d b
 grind
def aAe{s:bG}(g:bm s): ∀a∈sR s c,a<4294967296:=by
 have j: ∀h,∀a∈oA s h,a<4294967296:=λh a d=>by
  unfold oA at d;split at d
  ·rename_i i;rw[agV.1 d];exact gg i
  ·cases d
 have e: ∀h,∀a∈under s.T h,a<4294967296:=λh a d=>gg (aAd g.eA d)
 intro a d;unfold sR at d;split at d
 ·exact j _ a d
 split at d
 ·exact e _ a d
 split at d
 ·split at d
  ·cases d
  ·rename_i f;split at d
   ·exact e _ a d
   ·rcases agT.1 d with d|d
    ·exact e _ a d
    ·rw[agV.1 d];refine gg (b:=s.T.b) ?_;simp only[not_or,Bool.not_eq_false]at f;exact f.2
 grind
def amL{x:Core}{c:Call}(a:jP x)(i:fG c)(g:c.run.1<=64/\c.run.2<=64):SK (gw x c) c.c (x.Q.length+262528):=by
 have j:SK ⟨x,c,bX,false⟩ c.c x.Q.length:=⟨a.S,a.P,a.M,a.Q,agW _,i,g,rfl,by show 0<_;omega,by show 0<_;omega,by show 0<_;omega⟩;have f:=j.check (aAe a.S);have e:=f.marks;have d:=e.aAa;have b:=d.aAb;unfold gw;dsimp only;split
 ·exact f.mono (by omega)
 split
 ·exact e.mono (by omega)
 split
 ·exact d.mono (by omega)
 split
 ·exact b.mono (by omega)
 ·exact b.aAc.mono (by omega)
theorem aAf(h:dD m)(t:Nat): (gw m.az (m.aA t).c).r.v<18446744073709551616:=(amL h.az (h.c t) (h.run t)).v
def amM(h:dD m)(e:m.az.Q.length<2147483648)(t:Nat):amz m t/\ (xQ m t).az.Q.length<=m.az.Q.length+262528:=by
 have a:=amL h.az (h.c t) (h.run t);have d:SK ⟨m.az,(m.aA t).c,bX,false⟩ (m.aA t).c.c m.az.Q.length:=⟨h.az.S,h.az.P,h.az.M,h.az.Q,agW _,h.c t,h.run t,rfl,by show 0<_;omega,by show 0<_;omega,by show 0<_;omega⟩;have b:=d.eC;have c:=a.len;refine⟨⟨?_,⟨⟨a.S,a.P,a.M,a.Q,by show(gw _ _).x.Q.length<_;omega⟩,λj=>?_,λj=>?_,λj=>?_,h.now,h.ev,λj=>?_⟩,⟨a.w,a.e⟩,?_⟩,c⟩
 ·rw[b.cc];exact WO b.S (h.c t).iA b.run
 ·show lr (ar m.aA t _ j).t;unfold ar;split
  ·exact h.t t
  ·exact h.t j
 ·show fG (ar m.aA t _ j).c;unfold ar;split
  ·exact a.c
  ·exact h.c j
 ·show(ar m.aA t _ j).fr<_;unfold ar;split
  ·exact h.fr t
  ·exact h.fr j
 ·show(ar m.aA t _ j).c.run.1<=64/\ (ar m.aA t _ j).c.run.2<=64;unfold ar;split
  ·exact a.run
  ·exact h.run j
 ·rw[a.cc];exact(h.c t).iA.op
theorem aAg{t:Task}(h:lr t){v:Nat}(a:v<18446744073709551616): ∀j,ar t.aT i v j<18446744073709551616:=λj=>by
 unfold ar;split
 ·omega
 ·exact h.aT j
def aAh{t:Task}(h:lr t):lr (rD t):=by
 unfold rD;split
 ·exact h
 split
 ·exact h
 ·rename_i x c;have e:t.next<t.code.length:=(aeA.1 c).1;have f:=h.len;have b:=GJ h c;have a: ∀v,v<18446744073709551616->lr {t with aT:=ar t.aT (x.a % 8) v,next:=t.next+1}:=λv d=>
   ⟨h.len,h.ins,by show t.next+1<=64;omega,aAg h d⟩
  dsimp only;split
  ·exact a _ (by have:=b.n;omega)
  split
  ·exact a _ (aoG _ (by decide))
  split
  ·exact a _ (aoG _ (by decide))
  split
  ·exact a _ (aoG _ (by decide))
  split
  ·rename_i i;refine⟨h.len,h.ins,?_,h.aT⟩;show x.n<=64;exact b.j (.inl i)
  split
  ·rename_i g;refine⟨h.len,h.ins,?_,h.aT⟩;have:=b.j (.inr g);show(if _ then x.n else t.next+1)<=64;split
   ·omega
   ·exact ajR e f
  ·exact⟨h.len,h.ins,by show t.next+1<=64;omega,h.aT⟩
def aAi{t:Task}(h:lr t)(c:r.v<18446744073709551616)(b:r.w<4294967296)(f:r.e<4294967296):lr (sT t r):=by
 unfold sT;split
 ·exact h
 ·rename_i x a;have d:t.next<t.code.length:=(aeA.1 a).1;have e:=h.len;split
  ·refine⟨h.len,h.ins,by grind,λj=>?_⟩;show ar (ar (ar t.aT (x.a % 8) r.v) 4 r.w) 7 r.e j<_;unfold ar;split
   ·omega
   ·split
    ·omega
    ·split
     ·omega
     ·exact h.aT j
  omega
structure qm(m:bb):Prop where
 ok:dD m
 q:m.az.Q.length<=263200*m.now
 e:m.cH.length<=m.now
theorem dD.GP(h:dD m){n:Nat}(a:n<2147483648):dD {m with now:=n}:=⟨h.az,h.t,h.c,h.fr,a,h.ev,h.run⟩
def dD.ended(h:dD m){c:Call}{run:aE}(b:r.v<18446744073709551616)(a:r.w<4294967296)(d:r.e<4294967296)(e:m.cH.length<2147483647):dD (L5 m t c run r):=by
 refine⟨h.az,λj=>?_,λj=>?_,λj=>?_,h.now,?_,λj=>?_⟩
 ·show lr (ar m.aA t _ j).t;unfold ar;split
  ·exact aAi (h.t t) b a d
  ·exact h.t j
 ·show fG (ar m.aA t _ j).c;unfold ar;split
  ·exact CN
  ·exact h.c j
 ·show(ar m.aA t _ j).fr<_;unfold ar;split
  ·exact h.fr t
  ·exact h.fr j
 ·show(m.cH++[_]).length<_
  grind
 ·show(ar m.aA t _ j).c.run.1<=64/\ (ar m.aA t _ j).c.run.2<=64;unfold ar;split
  ·exact⟨by show 0<=64;omega,by show 0<=64;omega⟩
  ·exact h.run j
structure GQ(a b:bb):Prop where
 q:b.az.Q.length<=a.az.Q.length+262600
 e:b.cH.length<=a.cH.length+1
 n:b.now=a.now
def amN(h:dD m)(c:m.az.Q.length<2147483648)(b:m.cH.length<2147483647)(t:Nat):dD (xp m t)/\GQ m (xp m t):=by
 obtain⟨a,d⟩:=amM h c t;rw[amq];split
 ·refine⟨a.m'.ended (aAf h t) a.r.1 a.r.2 b,by show(xQ m t).az.Q.length<=_;omega,?_,rfl⟩;show(m.cH++[_]).length<=_
  grind
 ·exact⟨a.m',by omega,by show m.cH.length<=_;omega,rfl⟩
def amO(h:dD m)(c:m.az.Q.length<2147483648)(b:m.cH.length<2147483647)(d:t<8):dD (zA m t)/\GQ m (zA m t):=by
 unfold zA;dsimp only;split
 ·exact amN h c b t
 split
 ·obtain⟨e,a⟩:=amN (m:=Nb m t) (h.wanted d) c b t;exact⟨e,a.q,a.e,a.n⟩
 ·refine⟨⟨h.az,λj=>?_,λj=>?_,λj=>?_,h.now,h.ev,λj=>?_⟩,by simp,by simp,rfl⟩
  ·show lr (ar m.aA t _ j).t;unfold ar;split
   ·exact aAh (h.t t)
   ·exact h.t j
  ·show fG (ar m.aA t _ j).c;unfold ar;split
   ·exact h.c t
   ·exact h.c j
  ·show(ar m.aA t _ j).fr<_;unfold ar;split
   ·exact h.fr t
   ·exact h.fr j
  ·show(ar m.aA t _ j).c.run.1<=64/\ (ar m.aA t _ j).c.run.2<=64;unfold ar;split
   ·exact h.run t
   ·exact h.run j
theorem aAj:jM fy:=⟨by decide,by decide,by decide,by decide,by decide,by decide⟩
theorem amP(h:dD m)(t:Nat):rL (dH m.az.S t fy (0,0)) fy:=WO h.az.S aAj ⟨by simp,by simp⟩
def amQ(h:dD m)(g:m.az.Q.length<2147483648)(f:m.cH.length<2147483647)(t:Nat):dD (Cb m t)/\GQ m (Cb m t):=by
 have b:=amP h t;have d:=CG (dH m.az.S t fy (0,0)).2.2 m.az λr c=>(b.runs r c).2
 have e:=b.len;have a:=jP.alQ (x:=m.az) h.az b.runs (by omega);refine⟨⟨⟨b.S,a.P,a.M,a.Q,a.Ql⟩,h.t,h.c,h.fr,h.now,?_,h.run⟩,?_,?_,rfl⟩
 ·show(m.cH++[_]).length<_
  grind
 ·exact ajR d (by omega)
 ·show(m.cH++[_]).length<=_
  grind
def aAk(h:dD m)(a:m.az.Q.length<1073741824):dD (mN m)/\ (mN m).az.Q.length<=m.az.Q.length+512:=by
 obtain⟨c,b⟩:=WD h a 8 (by omega);exact⟨c,b⟩
def amR(m:bb)(i:Nat): (ns m i).cH=m.cH/\ (ns m i).now=m.now:=by unfold ns;grind
theorem Nd(m:bb): ∀k,(iX m k).cH=m.cH/\ (iX m k).now=m.now
 |0=>⟨rfl,rfl⟩
 |k+1=>by rw[WC];exact⟨(amR _ _).1.trans (Nd m k).1,(amR _ _).2.trans (Nd m k).2⟩
def amS{x:Core}(h:jP x):jP (iQ x).1/\ (iQ x).1.Q.length<=x.Q.length:=by
 unfold iQ;split
 ·grind
 ·rename_i a l c;exact⟨⟨h.S,h.P.back _,h.M,λk b=>h.Q k (by grind),by have:=h.Ql;grind⟩,by grind⟩
def qm.clear{a:bb}(h:qm a)(e:dD m)(b:GQ a {m with now:=a.now})(g:m.now=a.now+1)(i:a.now<=4000):qm (mN m):=by
 have o:m.az.Q.length<=a.az.Q.length+262600:=b.q;have n:m.cH.length<=a.cH.length+1:=b.e;have l:=h.q;have k:=h.e;obtain⟨f,j⟩:=aAk e (by omega);obtain⟨d,c⟩:=Nd m 8;have d: (mN m).cH=m.cH:=d;have c: (mN m).now=m.now:=c;exact⟨f,by omega,by grind⟩
def WQ(h:qm m)(e:m.now<=4000)(b:Nat):qm (gy m b).1/\ (gy m b).1.now<=m.now+1:=by
 have g:=h.q;have he:=h.e;have c:=(h.ok.GP (n:=m.now+1) (by omega));have key: ∀m':bb,dD m'->GQ m {m' with now:=m.now}->m'.now=m.now+1->qm (mN m')/\ (mN m').now<=m.now+1:=λm' d a f=>
  ⟨h.clear d a f e,by have: (mN m').now=m'.now:=(Nd m' 8).2;omega⟩
 unfold gy;dsimp only;split
 ·grind
 split
 ·split
  ·obtain⟨d,a⟩:=amS h.ok.az;exact key _ ⟨d,h.ok.t,h.ok.c,h.ok.fr,by show m.now+1<_;omega,h.ok.ev,h.ok.run⟩ ⟨by show(iQ m.az).1.Q.length<=_;omega,by show m.cH.length<=_;omega,rfl⟩ rfl
  grind
 split
 ·exact⟨h,Nat.le_succ m.now⟩
 split
 ·obtain⟨d,a⟩:=amQ c (by show m.az.Q.length<_;omega) (by show m.cH.length<_;omega) (b % 8);exact key _ d ⟨a.q,a.e,rfl⟩ a.n
 ·obtain⟨d,a⟩:=amO c (by show m.az.Q.length<_;omega) (by show m.cH.length<_;omega) (aoG b (by decide));exact key _ d ⟨a.q,a.e,rfl⟩ a.n
theorem bB.GP{n:Nat}{H:List ae}(h:bB n M p q m qv ev aB aJ H)(k:Nat):
 bB n M p q {m with now:=k} qv ev aB aJ (H.set M (.box (cx {m with now:=k} p aB aJ ev) none)):=h.set rfl rfl h.cv h.rv
def WR{n:Nat}{H:List ae}(hD: ∀op,l8 op)(d:bB n M p q m qv ev aB aJ H)(l:qm m)(hn:m.now<=4000)(b:Nat)(hb:b<256)(lo:oN):
  ∃J,D XC (.fn (.func yA) [] []) [.ptr M 0,.int .u8 b] ⟨H,lo⟩=some J/\fR n M p q H lo (gy m b).1 qv ev (.int .i64 (gy m b).2) J:=by
 refine cz sA λN t=>?_
 have GO:M<N:=by rw[<-t];exact d.lt
 have oL:p<N:=by rw[<-t];exact d.co.lt
 have WI:=d.nM;have hq:=l.q;have he:=l.e;have Y:b % 8<8:=aoG _ (by decide);have e: (b:Int).tmod 8=((b % 8:Nat):Int):=by rw[arM (by omega)];omega
 have i:IntKind.i64.wrap ((b % 8:Nat):Int)=((b % 8:Nat):Int):=wrap_i64 (by omega) (by omega);have A:IntKind.i64.wrap ((m.now:Int)+1)=((m.now+1:Nat):Int):=wrap_i64 (by omega) (by omega);have g:=l.ok.GP (n:=m.now+1) (by omega);have hA:=d.GP (m.now+1);have hF:=d.fM (.box (cx {m with now:=m.now+1} p aB aJ ev) none);have f:ea EK.ptr (AV.ptr M 0) AV.dY=some false:=rfl;have o:aH (cx m p aB aJ ev) 193 [.int .i64 ((m.now:Int)+1)]=cx {m with now:=m.now+1} p aB aJ ev:=ami (n:=m.now+1);unfold gy;dsimp only;by_cases k1:8<b/\b<16\/24<=b
 ·rw[afl k1];have g1: (8:Int)<b:=by omega
  by_cases k2:b<16
  ·have g2: (b:Int)<16:=by omega
   simp only[go_sem,simprocAttr,sA,e,i,f,g1,g2];exact fR.fin d t d Fm.refl (eI.no ⟨rfl,rfl⟩) (agS _)
  ·have g2: ¬(b:Int)<16:=by omega
   have I: (24:Int)<=b:=by omega
   simp only[go_sem,simprocAttr,sA,e,i,f,g1,g2,I];exact fR.fin d t d Fm.refl (eI.no ⟨rfl,rfl⟩) (agS _)
 rw[afi k1];have I: ¬(24:Int)<=b:=by omega
 have E: ∀ (m':bb) (y C:AV) (ma s:Nat->AV) (W:List ae) (ak:oN),dD m'->m'.az.Q.length<1073741824->bB n M p q m' y C ma s W->Fm n [M,p,q] H W->eI (y=qv/\C=ev) p ak->
   ∃v w c,D XC (.fn (.func Iv) [] []) [.ptr M 0] ⟨W,ak⟩=some (.ret v ⟨w,c⟩)/\fR n M p q H lo (mN m') qv ev (.int .i64 0) (.ret (finish N lo (.int .i64 0) ⟨w,c⟩).1 (finish N lo (.int .i64 0) ⟨w,c⟩).2):=by
  intro m' y C ma s W ak h1 h2 h3 h4 h5;obtain⟨J,G,x,P,u,r,w,c,rfl,F,c3,c4⟩:=ay7 h3 h1 h2 ak;exact⟨_,w,c,G,fR.fin d t F (h4.trans c3) (h5.step c4 λa b=>⟨b.1.trans a.1,b.2.trans a.2⟩) (agS _)⟩
 by_cases k8:b=8
 ·rw[afl k8];have g1: ¬(8:Int)<b:=by omega
  have B: (b:Int)=8:=by omega
  obtain⟨J,Q,x,W,c,rfl,r2,U,r4⟩:=ayd d.co l.ok.az none;have k:=d.az r2 U;obtain⟨T,ro2⟩:=amS l.ok.az;cases L: (iQ m.az).2 with
  |false=>
   rw[L]at Q;rw[afi (by decide)];have e1: ({m with az:=(iQ m.az).1}:bb)=m:=by
    have: (iQ m.az).1=m.az:=by
     unfold iQ at L⊢;split
     ·rfl
     ·rename_i h;rw[h]at L;cases L
    rw[this]
   rw[e1]at k;simp only[go_sem,simprocAttr,sA,f,B,d.box,ql,Q];exact fR.fin d t k (bB.fc U) ((eu.n r4).imp (λq=>⟨q.1,q.2,rfl⟩) id) (agS _)
  |true=>
   rw[L]at Q;rw[afl rfl];have Na:=k.GP (m.now+1);have hF3:=(bB.fc (M:=M) U).trans (k.fM (.box (cx {{m with az:=(iQ m.az).1}with now:=m.now+1} p aB aJ ev) none));obtain⟨v,w,K,G,F⟩:=E {m with az:=(iQ m.az).1,now:=m.now+1} _ _ _ _ _ c ⟨T,l.ok.t,l.ok.c,l.ok.fr,by show m.now+1<_;omega,l.ok.ev,l.ok.run⟩ (by show(iQ m.az).1.Q.length<_;omega) Na hF3 ((eu.n r4).imp (λq=>⟨q.1,q.2,rfl⟩) id);have WS:=k.box;have o:aH (cx {m with az:=(iQ m.az).1} p aB aJ ev) 193 [.int .i64 ((m.now:Int)+1)]=cx {m with az:=(iQ m.az).1,now:=m.now+1} p aB aJ ev:=ami (m:={m with az:=(iQ m.az).1}) (n:=m.now+1);have Z:=CK (m:={m with az:=(iQ m.az).1}) (p:=p) (aB:=aB) (aJ:=aJ) (ev:=ev);simp only[go_sem,simprocAttr,sA,f,B,d.box,ql,Q,WS,Z,A,o,oS,G];exact F
 rw[afi k8];have B: ¬(b:Int)=8:=by omega
 have j:=λlo=>M9 d (b % 8) lo
 cases O:p9 m (b % 8)with
 |false=>
  rw[O]at j;rw[afl rfl];by_cases z:16<=b
  ·have g1: (8:Int)<b:=by omega
   have g2: ¬(b:Int)<16:=by omega
   simp only[go_sem,simprocAttr,sA,e,i,f,g1,g2,I,B,j];exact fR.fin d t d Fm.refl (eI.no ⟨rfl,rfl⟩) (agS _)
  ·have g1: ¬(8:Int)<b:=by omega
   simp only[go_sem,simprocAttr,sA,e,i,f,g1,I,B,j];exact fR.fin d t d Fm.refl (eI.no ⟨rfl,rfl⟩) (agS _)
 |true=>
  rw[O]at j;rw[afi (by decide)];by_cases z:16<=b
  ·rw[afl z];have g1: (8:Int)<b:=by omega
   have g2: ¬(b:Int)<16:=by omega
   have g5: (16:Int)<=b:=by omega
   obtain⟨J,s1,x,P,u,r,W,c,rfl,s2,S,R⟩:=azh hD hA g (b % 8) Y (by show m.az.Q.length<_;omega) (amP g _) none;obtain⟨X,V⟩:=amQ g (by show m.az.Q.length<_;omega) (by show m.cH.length<_;omega) (b % 8);have o3:_<=m.az.Q.length+262600:=V.q;obtain⟨v,w,K,G,F⟩:=E _ _ _ _ _ _ c X (by omega) s2 (hF.trans S) (eu.n R);simp only[go_sem,simprocAttr,sA,e,i,f,g1,g2,I,B,g5,j,d.box,CK,A,o,oS,s1,G];exact F
  ·rw[afi z];have g1: ¬(8:Int)<b:=by omega
   have g5: ¬(16:Int)<=b:=by omega
   obtain⟨J,s1,x,P,u,r,W,c,rfl,s2,S,R⟩:=azf hD hA g (b % 8) Y (by show m.az.Q.length<_;omega) (λm h1 h2=>(amM h1 h2 _).1) none;obtain⟨X,V⟩:=amO g (by show m.az.Q.length<_;omega) (by show m.cH.length<_;omega) Y;have o3:_<=m.az.Q.length+262600:=V.q;obtain⟨v,w,K,G,F⟩:=E _ _ _ _ _ _ c X (by omega) s2 (hF.trans S) (eu.n R);simp only[go_sem,simprocAttr,sA,e,i,f,g1,I,B,g5,j,d.box,CK,A,o,oS,s1,G];exact F
def xR:bG:={oG with alive:=λ_=>false,born:=λ_=>false}
theorem aAm:py=bw xR:=rfl
def aAn(H:List ae)(lo:oN):D X0 (.fn (.func PN) [] []) [] ⟨H,lo⟩=some (.ret (.agg (bw oG)) ⟨H,lo⟩):=by
 refine aF Rm λN a=>?_
 have d:=ahJ (s:=xR) (i:=0) (v:=true) (by omega);have c:=ahK (s:={xR with alive:=ar xR.alive 0 true}) (i:=0) (v:=true) (by omega);have b: ({xR with alive:=ar xR.alive 0 true,born:=ar xR.born 0 true}:bG)=oG:=by rfl
 simp only[F1,go_sem,simprocAttr,Rm,a,aAm,d,c,b,eU,oq,MO,VY]
def aAo(n:Nat)(h:1<=n/\n<=64)(H:List ae)(lo:oN):D X0 (.fn (.func Qf) [] []) [.int .i64 n] ⟨H,lo⟩=some (.ret (.agg [.sl [[.int .i64 0,.int .i64 n]] true]) ⟨H,lo⟩):=by
 refine aF R0 λN a=>?_
 have e: ¬(n:Int)<1:=by omega
 have d:min (n:Int) 64=n:=by omega
 have c:b8 [[AV.int IntKind.i64 0,AV.int IntKind.i64 n]]<=N+1:=agS _;have b:b8 [[AV.int IntKind.i64 0,AV.int IntKind.i64 n]]<=N:=agS _;simp only[F1,go_sem,simprocAttr,R0,a,e,d,c,b]
def GR:cO:=⟨0,[],λ_ _=>0,true⟩
def uf(n:Nat):cO:=⟨n,[(0,n)],λ_ _=>0,true⟩
theorem amT{v:AV}: ∀n,br n [v]=List.replicate n v
 |0=>rfl
 |n+1=>by show[v]++br n [v]=_;rw[amT n];rfl
theorem amU{v:AV}{m:Nat}: ∀n,arr n (λ_=>List.replicate m v)=List.replicate (n*m) v
 |0=>by rw[Nat.zero_mul];rfl
 |n+1=>by rw[zm,amU n,aBp,aq9]
theorem aAp:qh (λ_=>0)=List.replicate 32 (AV.int .u8 0):=rfl
def aAq:afP=ca GR:=by
 show[AV.int .i64 0,.ai]++br 2048 [AV.int .u8 0]=[AV.int .i64 0,.ai]++arr 64 λ_=>qh λ_=>0
 rw[amT,aAp,amU]
theorem aD2:ca GR=AV.int .i64 0:: .ai::arr 64 λ_=>qh λ_=>0:=rfl
theorem aD3{n:Nat}:ca (uf n)=AV.int .i64 n:: .sl [[.int .i64 0,.int .i64 n]] true::arr 64 λ_=>qh λ_=>0:=rfl
def amV{N id o:Nat}{k:IntKind}{a:Int}{H:List ae}(h:N<=id):finish N lo (.au [.ptr id o,.int k a]) ⟨H,none⟩=(.au [.ptr id o,.int k a],⟨H,lo⟩):=by
 have b: ¬(AV.au [.ptr id o,.int k a]).refs<=N:=by simp only[AV.refs,aG];omega
 refine aeG b ?_;rw[Ii,afi b,ia,Pn h]
def aAr{N id o j:Nat}{k:IntKind}{a:Int}{H:List ae}(h:N<=id):finish N lo (.au [.ptr id o,.int k a]) ⟨H,some j⟩=(.au [.ptr id o,.int k a],⟨H,cC lo j⟩):=by
 have b: ¬(AV.au [.ptr id o,.int k a]).refs<=N:=by simp only[AV.refs,aG];omega
 rw[DG];split
 ·rw[Ii,afi b,ia,Pn h];rfl
 ·rfl
def aAs(n:Nat)(h:1<=n/\n<=64)(N:Nat)(H:List ae)(d:H.length=N)(lo:oN):D X0 (.fn (.func P8) [] []) [.int .i64 n] ⟨H,lo⟩=some (.ret (.au [.ptr N 0,.int .i64 0]) ⟨H++[.box (ca (uf n)) none],lo⟩):=by
 refine aF RG λM g=>?_
 have f: ¬(n:Int)<1:=by omega
 have e: ¬(64:Int)<n:=by omega
 have b:=λH lo=>aAo n h H lo
 have c:1<=(ca GR).length:=by rw[xM];omega
 have a:1<=(List.drop 1 (ca GR)).length:=by rw[anA,xM];omega
 have he:AV.int .i64 n::AV.sl [[.int .i64 0,.int .i64 n]] true::List.drop 1 (List.drop 1 (ca GR))=ca (uf n):=by rfl
 simp only[go_sem,simprocAttr,RG,d,f,e,b,aAq,c,a,he];rw[amV (by omega)]
theorem WT:my=bw xR++([.dY]++(cI (λ_=>xn)++[.ai])):=rfl
def aAt(n:Nat)(h:1<=n/\n<=64)(N:Nat)(H:List ae)(e:H.length=N)(lo:oN):D X0 (.fn (.func PW) [] []) [.int .i64 n] ⟨H,lo⟩=some (.ret (.au [.ptr (N+1) 0,.int .i64 0]) ⟨H++[.box (ca (uf n)) none,.box (cw ⟨oG,uf n,λ_=>xn,[]⟩ N .ai) none],lo⟩):=by
 refine aF Rr λM j=>?_
 obtain rfl:M=N:=by omega
 have f:=λlo=>aAs n h M H e lo
 have i:=λH lo=>aAn H lo
 have d:List.drop 952 my=[.dY]++(cI (λ_=>xn)++[.ai]):=by rw[WT];exact List.drop_left' (eU _)
 have g:my.length=1274:=by rw[WT,agU,eU,agU,agU,dV];rfl
 have a:aH (bw oG++List.drop 952 my) 952 [.ptr M 0]=cw ⟨oG,uf n,λ_=>xn,[]⟩ M .ai:=by
  rw[d,gu (by rw[eU];omega),eU];rfl
 have c:953<=952+(List.drop 952 my).length:=by rw[d];simp[dV]
 have b:952<=my.length:=by rw[g];omega
 simp only[go_sem,simprocAttr,Rr,e,f,i,eU,b,c,a];rw[amV (by omega)]
theorem amW:JP=[.dY]++(arr 8 (λ_=>xO Ca .ai .ai)++[.int .i64 0,.ai]):=rfl
def fz(n:Nat)(aC:List lB)(k:Nat):bb:=⟨⟨oG,uf n,λ_=>xn,[]⟩,λi=>{Ca with t:={sU with code:=if i<k then((aC[i]?).bind decode).getD []else[]}},0,[]⟩
def aAu(n:Nat)(aC:List lB)(a:lN):fz n aC aC.length=UD ⟨n,aC,a⟩:=by
 unfold fz UD
 congr 1
 grind
def mW(m:bb)(n N:Nat)(pv kv:AV)(aB:Nat->AV)(H:List ae):List ae:=
 H++[.box [.int .i64 n,pv,kv] none,.box (cx m (N+3) aB (λ_=>.ai) .ai) none,.box (ca (uf n)) none,.box (cw ⟨oG,uf n,λ_=>xn,[]⟩ (N+2) .ai) none]
def amX{n N:Nat}{H:List ae}(a:H.length=N): (mW m n N pv kv aB H)[N+1]?=some (.box (cx m (N+3) aB (λ_=>.ai) .ai) none):=by
 unfold mW;grind
def aAv{m':bb}{n N:Nat}{ma:Nat->AV}{H:List ae}(a:H.length=N): (mW m n N pv kv aB H).set (N+1) (.box (cx m' (N+3) ma (λ_=>.ai) .ai) none)=mW m' n N pv kv ma H:=by
 unfold mW;simp_all
def aAw{n:Nat}{cv:AV}(c:k<aC.length)(b:k<8):
  aH (cx (fz n aC k) p aB (λ_=>.ai) .ai) (1+k*24) (cY {sU with code:=(decode (aC.getD k default)).getD []} cv)=cx (fz n aC (k+1)) p (ar aB k cv) (λ_=>.ai) .ai:=by
 have g:=GM (m:=fz n aC k) (p:=p) (aB:=aB) (aJ:=λ_=>.ai) (ev:=.ai) (o:=0) (vs:=cY {sU with code:=(decode (aC.getD k default)).getD []} cv) (r:={Ca with t:={sU with code:=(decode (aC.getD k default)).getD []}}) (cv:=cv) (rv:=.ai) b (by rw[xN];omega) rfl;have e:ar (λ_=>AV.ai) k AV.ai=λ_=>AV.ai:=mH (f:=λ_=>AV.ai)
 have d: ({fz n aC k with aA:=ar (fz n aC k).aA k {Ca with t:={sU with code:=(decode (aC.getD k default)).getD []}}}:bb)=fz n aC (k+1):=by
  have a:ar (fz n aC k).aA k {Ca with t:={sU with code:=(decode (aC.getD k default)).getD []}}=(fz n aC (k+1)).aA:=by
   unfold ar fz
   grind
  rw[a];rfl
 grind
def amY{n:Nat}{a:lB}(h:GK n aC a pv kv)(x:nu ⟨n,aC,a.map UInt8.toNat⟩=true)(N:Nat)(H:List ae)(r:H.length=N)(lo:oN):
  ∃P,D XC (.fn (.func DR) [] []) [.agg [.int .i64 n,pv,kv]] ⟨H,lo⟩=some P/\ ∃aB ak,P= .ret (.au [.ptr (N+1) 0,.int .i64 0]) ⟨mW (fz n aC aC.length) n N pv kv aB H,ak⟩/\
   (∀i,Rv (aB i) 5 (((fz n aC aC.length).aA i).t.code.map cX))/\ (ak=lo\/ ∃j,N<=j/\ak=cC lo j):=by
 obtain⟨w,f,R⟩:1<=n/\n<=64/\aC.length<=8:=by unfold nu at x;simp at x;omega
 have b:=λH lo=>c0 (ay1 h (by omega) H lo)
 rw[x]at b;refine cz Ri λM Z=>?_
 obtain rfl:M=N:=by omega
 have G:=λB lo=>c0 (aAt n ⟨w,f⟩ (M+2) (H++[.box [.int .i64 n,pv,kv] none,.box B none]) (by simp[r]) lo)
 have c:=h.pr;have s:aH JP 0 [.ptr (M+3) 0]=cx (fz n aC 0) (M+3) (λ_=>.ai) (λ_=>.ai) .ai:=by rw[amW];rfl
 have y:1<=JP.length:=by rw[amW];simp
 have z: ¬M+2<=M:=by omega
 have I:M+2+1=M+3:=rfl;have A:=λE=>c.bK (E:=E)
 simp only[go_sem,simprocAttr,Ri,r,b,G,s,y,z,A,I];refine gS aC.length (λk e W ak=> ∃aB,e 4= .ptr (M+1) 0/\e 22=pv/\e 23= .int .i64 aC.length/\e 24= .int .i64 k/\W=mW (fz n aC k) n M pv kv aB H/\ (∀i,Rv (aB i) 5 (((fz n aC k).aA i).t.code.map cX))/\ak=some (M+1)) 0 (by omega) ?_ ?_
 ·refine⟨λ_=>.ai,?_⟩;simp only[go_sem,simprocAttr];exact⟨rfl,λi=>.ai,rfl⟩
 rintro k Y e W ak ⟨aB,O,q,o,l,rfl,g,rfl⟩ V X;simp only[bR,go_sem,simprocAttr,afX,O,q,o,l];refine⟨λS=>?_,λS=>?_⟩
 ·have d:k<aC.length:=by omega
  have U:k<8:=by omega
  obtain⟨cv,t1,t2⟩:=ay2 (aC.getD k default) (mW (fz n aC k) n M pv kv aB H) (some (M+1));have t1:=c0 t1;have F: (0:Int)<=k/\ (k:Int)<8:=by omega
  have T:=amX (m:=fz n aC k) (n:=n) (pv:=pv) (kv:=kv) (aB:=aB) r;have Q:=λm' ma=>aAv (m:=fz n aC k) (m':=m') (n:=n) (pv:=pv) (kv:=kv) (aB:=aB) (ma:=ma) r
  have u:=aAw (n:=n) (p:=M+3) (cv:=cv) (aB:=aB) d U;have v:=GF (t:={sU with code:=(decode (aC.getD k default)).getD []}) (cM t2 (bA (λ_=>rfl) _));have C:1+k*24+10<=195:=by omega
  simp(disch:=omega) only[go_sem,simprocAttr,O,q,o,l,c.ck,c.cE,sC,t1,F,T,Q,u,v,C,oS,xN];refine⟨by omega,by omega,ar aB k cv,rfl,λi=>?_⟩;by_cases L:i=k
  ·subst L;have e:aC.getD i default=aC[i]:=by simp[List.getD,d]
   rw[cT];have J: ((fz n aC (i+1)).aA i).t.code=(decode (aC.getD i default)).getD []:=by
    show(if i<i+1 then((aC[i]?).bind decode).getD []else[])=_;rw[afl (by omega),afu d,e];rfl
   rw[J];exact t2
  ·rw[di L];have J: ((fz n aC (k+1)).aA i).t.code=((fz n aC k).aA i).t.code:=by
    show(if i<k+1 then((aC[i]?).bind decode).getD []else[])=(if i<k then((aC[i]?).bind decode).getD []else[]);by_cases K:i<k
    ·rw[afl K,afl (by omega)]
    ·rw[afi K,afi (by omega)]
   rw[J];exact g i
 ·obtain rfl:k=aC.length:=by omega
  rw[aAr (by omega)];exact⟨aB,_,rfl,g,.inr ⟨M+1,by omega,rfl⟩⟩
theorem amZ: ∀ (s:lB),∀x∈rB s,x.n<65536
 |a::b::c::d::e::f::r,x,h=>by
  rcases aiK.1 h with rfl|h
  ·have:=e.toNat_lt;have:=f.toNat_lt
   grind
  ·exact amZ r x h
 | [],x,h=>by cases h
 | [_],x,h=>by cases h
 | [_,_],x,h=>by cases h
 | [_,_,_],x,h=>by cases h
 | [_,_,_,_],x,h=>by cases h
 | [_,_,_,_,_],x,h=>by cases h
def aAx{s:lB}{l:List dE}(h:decode s=some l):l.length<=64/\ ∀x∈l,GD x:=by
 unfold decode at h;split at h
 ·cases h
 split at h
 ·rename_i hm;cases h;unfold p7 at hm;simp only[aiq,amB,ag6]at hm;refine⟨hm.1,λx a=>?_⟩;have b:=hm.2 x a;unfold rA at b;simp at b;have c:=amZ s x a;exact⟨by omega,by omega,by omega,by omega,c,λd=>by omega⟩
 grind
def am0(h:Nat):ax (λ_=>⟨0,false,false⟩) h=false:=by
 unfold ax;grind
def aAy:bm oG:=by
 have a:gM (λ_=>⟨0,false,false⟩):=λi=>⟨agS _,λh=>by rfl⟩
 refine⟨⟨⟨a,λi=>Ck⟩,λh=>?_,λi=>?_⟩,⟨λi=>by show 0<4294967296;omega,λi=>Vj⟩,⟨⟨a,λi h=>(by cases h),λi=>ai6⟩,λi=>Cv _,[],.nil,λh q=>(by cases q),λh q=>?_,.nil,λh q=>(by cases q)⟩,λi=>⟨by show 0<4;omega,by show 0<=4;omega,λj=>Vq⟩⟩
 ·have e:aR oG.T h=[]:=by
    unfold aR ek bI;have:oG.T.ax h=false:=am0 h
    grind
  grind
 ·exact Cv _
 ·rw[show ax oG.K.b h=false from am0 h]at q;cases q
theorem aAz:hU xn:=⟨by trivial,by trivial,λi=>by show 0<8;omega,λi j h=>by cases h⟩
theorem aAA{n:Nat}(h:1<=n/\n<=64):fI (uf n):=⟨h.2,⟨List.pairwise_singleton _ _,λx a=>by rw[agV.1 a];omega⟩,λi j=>by show 0<256;omega⟩
def am1{n:Nat}(h:1<=n/\n<=64)(aC:List lB)(k:Nat):qm (fz n aC k):=by
 refine⟨⟨⟨aAy,aAA h,λi=>aAz,λk d=>(by cases d),by show 0<_;omega⟩,λi=>?_,λi=>CN,λi=>by show 0<_;omega,by show 0<_;omega,by show 0<_;omega,λi=>⟨by show 0<=64;omega,by show 0<=64;omega⟩⟩,by show 0<=_;omega,by show 0<=_;omega⟩;have a: (if i<k then((aC[i]?).bind decode).getD []else[]).length<=64/\ ∀x∈(if i<k then((aC[i]?).bind decode).getD []else[]),GD x:=by
  split
  ·cases c: (aC[i]?).bind decode with
   |none=>simp
   |some l=>
    obtain⟨s,_,b⟩:=ao9.1 c;exact aAx b
  grind
 exact⟨a.1,a.2,by show 0<=64;omega,λj=>by show 0<_;omega⟩
theorem am2{n N:Nat}{H:List ae}(b:H.length=N)
  (a: ∀i,Rv (aB i) 5 (((fz n aC aC.length).aA i).t.code.map cX)):
  bB N (N+1) (N+3) (N+2) (fz n aC aC.length) .ai .ai aB (λ_=>.ai) (mW (fz n aC aC.length) n N pv kv aB H):=
 ⟨by omega,by omega,⟨by omega,by omega,by omega,by unfold mW;rw[bz b];rfl,by unfold mW;rw[bz b];rfl,cW.ai⟩,amX b,cW.ai,a,λi=>.ai⟩
def aAB{N id o:Nat}{vs:lA}{ak:oN}{H:List ae}(h:N<=id):finish N lo (.au (.ptr id o::vs)) ⟨H,ak⟩=(.au (.ptr id o::vs),⟨H,fU lo ak⟩):=by
 have a: ¬(AV.au (.ptr id o::vs)).refs<=N:=by simp only[AV.refs,aG];omega
 have b: ∀E,Den.freeze E N 12 (.au (.ptr id o::vs))=none:=λE=>by rw[Ii,afi a,ia,Pn h]
 cases ak with
 |none=>rw[AG,afi a,b]
 |some j=>
  rw[DG,b,afi a]
  grind
theorem bB.mono{n:Nat}{H:List ae}(h:bB n M p q m qv ev aB aJ H)(b:a<=n):bB a M p q m qv ev aB aJ H:=
 ⟨by have:=h.nM;omega,h.Mq,⟨by have:=h.co.mp;omega,by have:=h.co.mq;omega,h.co.qp,h.co.box,h.co.hY,h.co.iz⟩,h.box,h.ue,h.cv,h.rv⟩
def GS(e:Nat):lA:=[.int .i64 e]
def bB.aAC{n:Nat}{H W:List ae}{ty:TypeId}(h:bB n M p q m qv ev aB aJ H)(j:ty≠mw\/sz≠1)(g:ty≠pt\/sz≠14)
  (b: ∀ (i:Nat) (o:ae),(∀a d,o≠ae.row a sz ty d)->H[i]?=some o->W[i]?=some o):bB n M p q m qv ev aB aJ W:=by
 have c: ∀cs tg,∀a d,ae.box cs tg≠ .row a sz ty d:=λ_ _ _ _ e=>by cases e
 refine⟨h.nM,h.Mq,⟨h.co.mp,h.co.mq,h.co.qp,b _ _ (c _ _) h.co.box,b _ _ (c _ _) h.co.hY,h.co.iz.nQ λid aj all f=>b _ _ (λa d e=>?_) f⟩,b _ _ (c _ _) h.box,h.ue.nQ λid aj all f=>b _ _ (λa d e=>?_) f,h.cv,h.rv⟩
 ·grind
 grind
def runK(n:Nat)(aC:List lB)(a:lB)(k:Nat):bb×lN:=
 ((a.take k).map UInt8.toNat).foldl (λp b=>((gy p.1 b).1,p.2++[(gy p.1 b).2])) (fz n aC aC.length,[])
def Nf{n:Nat}{a:lB}(h:k<a.length):
  runK n aC a (k+1)=((gy (runK n aC a k).1 (a.getD k default).toNat).1,(runK n aC a k).2++[(gy (runK n aC a k).1 (a.getD k default).toNat).2]):=by
 have e:a.getD k default=a[k]:=by grind
 unfold runK;rw[ait,afu h,ag9,aoH,e];rfl
def am3(n:Nat)(aC:List lB)(a:lB):runK n aC a a.length=L6 ⟨n,aC,a.map UInt8.toNat⟩:=by
 unfold runK L6;rw[ag4,aAu n aC (a.map UInt8.toNat)]
theorem Ng{n:Nat}(h:1<=n/\n<=64)(aC:List lB){a:lB}(b:a.length<=4000): ∀k,k<=a.length->qm (runK n aC a k).1/\ (runK n aC a k).1.now<=k
 |0,_=>⟨am1 h aC _,agW 0⟩
 |k+1,d=>by
  obtain⟨c,g⟩:=Ng h aC b k (by omega);obtain⟨f,e⟩:=WQ c (by omega) (a.getD k default).toNat;rw[Nf (by omega)]
  grind
theorem am4{n:Nat}{aC:List lB}{a:lB}: ∀k,k<=a.length->(runK n aC a k).2.length=k
 |0,_=>rfl
 |k+1,b=>by rw[Nf (by omega)];rw[agU,am4 k (by omega)];rfl
def aAD{n:Nat}{b:lB}(hD: ∀op,l8 op)(h:GK n aC b pv kv)(l:nu ⟨n,aC,b.map UInt8.toNat⟩=true)(N:Nat)(H:List ae)(s:H.length=N)(lo:oN):
  ∃z,D XC (.fn (.func PE) [] []) [.agg [.int .i64 n,pv,kv]] ⟨H,lo⟩=some z/\ ∃M p q qv ev aB aJ c H' ak,z= .ret (.au [.ptr M 0,c,.int .i64 0]) ⟨H',ak⟩/\
   bB N M p q (L6 ⟨n,aC,b.map UInt8.toNat⟩).1 qv ev aB aJ H'/\cW N H' c 1 si ((L6 ⟨n,aC,b.map UInt8.toNat⟩).2.map GS)/\H.length<=H'.length/\ ∀i,i<N->H'[i]?=H[i]?:=by
 obtain⟨F,o,G⟩:1<=n/\n<=64/\b.length<=4000:=by unfold nu at l;simp at l;omega
 refine cz Rc λM hM=>?_
 obtain rfl:M=N:=by omega
 have CP:=cM h.pr (bA (λ_=>rfl) _);have DL:=cM h.pk (bA (λ_=>rfl) _);obtain⟨z,S,aB,VJ,rfl,R,n3⟩:=amY h l (M+1) (H++[.box [.int .i64 n,pv,kv] none]) (by simp[s]) none;have O:M+1+1=M+2:=rfl;have I:=λE=>h.pk.bK (E:=E)
 have g:=am2 (N:=M+1) (n:=n) (aC:=aC) (pv:=pv) (kv:=kv) (H:=H++[.box [.int .i64 n,pv,kv] none]) (by simp[s]) R;have T: (mW (fz n aC aC.length) n (M+1) pv kv aB (H++[.box [.int .i64 n,pv,kv] none]))[M]?=some (.box [.int .i64 n,pv,kv] none):=by
  unfold mW;rw[aez (by simp[s]),dh s];rfl
 simp only[go_sem,simprocAttr,Rc,s,O,S,T,I];refine gS b.length (λk e W ak=> ∃qv ev aB aJ c,e 5= .ptr (M+2) 0/\e 7=c/\e 19=kv/\e 20= .int .i64 b.length/\e 21= .int .i64 k/\bB (M+1) (M+2) (M+4) (M+3) (runK n aC b k).1 qv ev aB aJ W/\cW M W c 1 si ((runK n aC b k).2.map GS)/\H.length<=W.length/\ ∀i,i<M->W[i]?=H[i]?) 0 (by omega) ?_ ?_
 ·refine⟨.ai,.ai,aB,λ_=>.ai,.ai,?_⟩;simp only[go_sem,simprocAttr];refine⟨g,cW.ai,by unfold mW;simp,λi J=>?_⟩;unfold mW;rw[aez (by simp;omega),aez (by omega)]
 clear g T S R n3 aB;rintro k hk e W ak ⟨qv,ev,aB,aJ,c,V,e7,v,u,t,g,U,hl,f⟩ nn hn;simp only[bR,go_sem,simprocAttr,afU,V,e7,v,u,t];refine⟨λhh=>?_,λhh=>?_⟩
 ·have r:k<b.length:=by omega
  obtain⟨o1,o2⟩:=Ng ⟨F,o⟩ aC G k (by omega);have hb:=(b.getD k default).toNat_lt;obtain⟨z,Z,A,Q,w,m,X,C,rfl,Y,x,p4⟩:=WR hD g o1 (by omega) (b.getD k default).toNat hb ak;have K:M<=X.length:=by have:=x.len;omega
  have L:cW M X c 1 si ((runK n aC b k).2.map GS):=U.nQ λid aj all j=>x.box id _ (by
   have h1:=g.box;have h2:=g.co.box;have h3:=g.co.hY;intro l;simp at l;rcases l with rfl|rfl|rfl
   ·rw[h1]at j;cases j
   ·rw[h2]at j;cases j
   ·rw[h3]at j;cases j) (λq=>by
   rcases q with⟨a,d,q⟩| ⟨a,d,q⟩
   ·injection q with _ _ q;cases q
   ·injection q with _ q;cases q) j
  obtain⟨B,W3,g1,g2,g3,g4,g5,g6,g7,g8⟩:=cW.append (bytes:=8) (lo:=C) (y:=GS (gy (runK n aC b k).1 (b.getD k default).toNat).2) L K (by omega) rfl rfl (by rw[agZ,am4 k (by omega)];unfold room;omega);have P:=Y.aAC (sz:=1) (ty:=si) (.inl (by decide)) (.inl (by decide)) g5;unfold GS at g1;simp(disch:=omega) only[go_sem,simprocAttr,V,e7,v,u,t,h.pk.ck,h.pk.cE,bC,Z,g1];rw[Nf r];refine⟨by omega,r,A,Q,w,m,B,rfl,P,?_,by have:=x.len;omega,λi J=>(g4 i J).trans ((x.low i (by omega)).trans (f i J))⟩;rw[ag9];exact g2
 ·obtain rfl:k=b.length:=by omega
  rw[aAB (by omega),<-am3];exact⟨M+2,M+4,M+3,qv,ev,aB,aJ,c,W,_,rfl,g.mono (by omega),U,by omega,f⟩
def am5{E:AS}{af:List lA}(h:Rd E v sz af): (v= .ai/\af=[])\/ea .sl v .ai=some false:=by
 have a:=h.kind;cases v<;>first|exact .inr rfl|grind|skip
 ·exact .inl ⟨rfl,by have:=h.eq;simp[Den.elems]at this;omega⟩
def am6{l:List α}{g:α->lA}{ty:TypeId}{bytes N:Nat}{H:List ae}(a:H.length=N)(b:0<sz)(i: ∀x,(g x).length=sz)(c: ∀x,aG (g x)=0)(e:l≠[])(d:l.length*bytes<=room):
  dw ⟨H,none⟩ ty sz bytes (.sl [] true) (l.map g)=some (.ref N 0 sz 0 l.length false,⟨H++[.row 0 sz ty (l.map g)],none⟩)/\finish N lo (.ref N 0 sz 0 l.length false) ⟨H++[.row 0 sz ty (l.map g)],none⟩=(.sl (l.map g) false,⟨H,lo⟩):=by
 have f:0<l.length:=aoX.2 e;have ha: (l.map g).all (λel=>el.length==sz)=true:=by grind
 have ho:aQ N (H++[.row 0 sz ty (l.map g)]) (.ref N 0 sz 0 l.length false) sz ty (l.map g):=
  ⟨λel h=>by grind,.inr ⟨N,0,agW _,by simp,dh a⟩⟩
 refine⟨?_,?_⟩
 ·simp only[dw,ha];rw[afl ⟨b,trivial⟩,afi (by rw[agZ];omega),afl ⟨by simpa using d,rfl⟩];simp[AS.push,a]
 ·rw[Gg (.inl rfl) ho (by rw[bA c];omega),mn a];rfl
def aAE{H:List ae}(h:Rd ⟨H,none⟩ v 1 (l.map iV))(e:l.length*8<=room)(lo:oN):
  ∃v',D X0 (.fn (.func PO) [] []) [v] ⟨H,lo⟩=some (.ret v' ⟨H,lo⟩)/\Rv v' 1 (l.map iV):=by
 have d:=h.eq;have a:ea EK.sl AV.ai AV.ai=some true:=rfl;have e3:b8 ([]:List lA)=0:=rfl;rcases am5 h with⟨rfl,he⟩|he
 ·refine⟨.ai,?_,by rw[he];exact .ai⟩;refine aF zd λN b=>?_
  simp(disch:=omega) only[F1,go_sem,simprocAttr,zd,a]
 ·by_cases c:l=[]
  ·subst c;refine⟨.sl [] true,?_,.sl (λel h=>by cases h)⟩;refine aF zd λN b=>?_
   have e1:dw ⟨H,none⟩ mw 1 8 (.sl [] true) []=some (.sl [] true,⟨H,none⟩):=rfl;simp(disch:=omega) only[F1,go_sem,simprocAttr,zd,he,d,e1,e3]
  ·refine⟨.sl (l.map iV) false,?_,.sl (λel h=>by obtain⟨x,_,rfl⟩:=ag2.1 h;rfl)⟩;refine aF zd λN b=>?_
   obtain⟨e1,f⟩:=am6 (sz:=1) (ty:=mw) (bytes:=8) (lo:=lo) (g:=iV) b (by omega) (λ_=>rfl) (λ_=>rfl) c e;simp only[go_sem,simprocAttr,zd,he,d,e1,f]
def aAF{H:List ae}(h:Rd ⟨H,none⟩ v 1 (l.map hC))(e:l.length*4<=room)(lo:oN):
  ∃v',D X0 (.fn (.func PZ) [] []) [v] ⟨H,lo⟩=some (.ret v' ⟨H,lo⟩)/\Rv v' 1 (l.map hC):=by
 have d:=h.eq;have a:ea EK.sl AV.ai AV.ai=some true:=rfl;have e3:b8 ([]:List lA)=0:=rfl;rcases am5 h with⟨rfl,he⟩|he
 ·refine⟨.ai,?_,by rw[he];exact .ai⟩;refine aF ze λN b=>?_
  simp(disch:=omega) only[F1,go_sem,simprocAttr,ze,a]
 ·by_cases c:l=[]
  ·subst c;refine⟨.sl [] true,?_,.sl (λel h=>by cases h)⟩;refine aF ze λN b=>?_
   have e1:dw ⟨H,none⟩ bZ 1 4 (.sl [] true) []=some (.sl [] true,⟨H,none⟩):=rfl;simp(disch:=omega) only[F1,go_sem,simprocAttr,ze,he,d,e1,e3]
  ·refine⟨.sl (l.map hC) false,?_,.sl (λel h=>by obtain⟨x,_,rfl⟩:=ag2.1 h;rfl)⟩;refine aF ze λN b=>?_
   obtain⟨e1,f⟩:=am6 (sz:=1) (ty:=bZ) (bytes:=4) (lo:=lo) (g:=hC) b (by omega) (λ_=>rfl) (λ_=>rfl) c e;simp only[go_sem,simprocAttr,ze,he,d,e1,f]
def cW.refs{N:Nat}{H:List ae}{ty:TypeId}{af:List lA}(h:cW N H v sz ty af):v.refs<=H.length:=by
 rcases h.2 with⟨rfl,_⟩| ⟨id,aj,off,all,_,rfl,a,_⟩
 ·exact agS _
 ·have:=fh a;simp only[AV.refs];omega
section
variable{n M p q:Nat}{m:bb}{qv ev:AV}{aB aJ:Nat->AV}{H:List ae}(ha:bB n M p q m qv ev aB aJ H)
include ha
theorem am7(A:m.az.Q.length<1073741824)(lo:oN):
  ∃v,D XC (.fn (.func Is) [] []) [.ptr M 0] ⟨H,lo⟩=some (.ret (.agg (cw m.az q v)) ⟨H,lo⟩)/\Rv v 1 (m.az.Q.map iV):=by
 obtain⟨N,z⟩: ∃N,H.length=N:=⟨_,rfl⟩;have u:=ha.co.iz.app [.box my none,.box (cw m.az q qv) none];obtain⟨v,r,c⟩:=aAE (u.rd (lo:=none)) (by unfold room;omega) none;have r:=c0 r;refine⟨v,?_,c⟩;refine aF Rf λK B=>?_
 obtain rfl:K=N:=by omega
 have s:my.length=1274:=by rw[WT,agU,eU,agU,agU,dV];rfl
 have w: ∀l:lA,l.length=1274->aH my 0 l=l:=λl h=>re (by rw[s,h])
 have y:aG (cw m.az q qv)<=K:=by
  rw[ak6];have:=ha.co.iz.refs;have:=ha.co.qp;have:=ha.co.lt;omega
 have b:aG (cw m.az q v)<=K:=by
  rw[ak6];have:=cM c (bA (λ_=>rfl) _);have:=ha.co.qp;have:=ha.co.lt;omega
 have a:=oM (c ⟨H,none⟩);have o:aG (cw m.az q qv)<=K+1+1:=by omega
 have k:v.refs<=K+1+1:=by have:=cM c (bA (λ_=>rfl) _);omega
 have j:aG (cw m.az q v)<=K+1:=by omega
 have d:ea EK.ptr (AV.ptr M 0) AV.dY=some false:=rfl;have f:=bh (L:=[.box my none]) ha.box;have e:=bh (L:=[.box my none]) ha.co.box;have i:=MW (x:=m.az) (q:=q) (qv:=qv);have g:=MW (x:=m.az) (q:=q) (qv:=v);have t: ∀l:lA,l.length=1274->List.take 1274 l=l:=λl h=>by rw[<-h,ag4]
 simp only[F1,go_sem,simprocAttr,Rf,z,d,f,e,ql,r,w,t,i,g,KL,KS,s,o,k,j,b,a.1,a.2]
end
section
variable{n M p q:Nat}{m:bb}{qv ev:AV}{aB aJ:Nat->AV}{H:List ae}
def CQ(M t:Nat)(H:List ae)(lo:oN):D XC (.fn (.func Iw) [] []) [.ptr M 0,.int .i64 t] ⟨H,lo⟩=some (.ret (.bool (decide (t<8))) ⟨H,lo⟩):=by
 refine aF KR λN d=>?_
 have a:ea EK.ptr (AV.ptr M 0) AV.dY=some false:=rfl;have c: (t:Int)>=0:=by omega
 by_cases h:t<8
 ·have b: (t:Int)<8:=by omega
  rw[agR h];simp(disch:=omega) only[F1,go_sem,simprocAttr,KR,a,c,b]
 ·have b: ¬(t:Int)<8:=by omega
  rw[afv h];simp(disch:=omega) only[F1,go_sem,simprocAttr,KR,a,c,b]
theorem am8(c:Call)(v:AV): (bL c v).length=12:=rfl
theorem cl7(c:Call)(v:AV): (bL c v)[7]?=some (.bool c.checked):=rfl
theorem cl1(c:Call)(v:AV):Den.part true 6 (bL c v) 1=some (.agg (bf c.c)):=rfl
def clR(c:Call)(v:AV):aG (bL c v)=v.refs:=by simp[bL,aG,AV.refs,bf,ay]
theorem clT(c:Call)(v:AV):List.take 12 (bL c v)=bL c v:=rfl
def CC:=gG @am8<|gG @cl7<|gG @cl1<|gG @clR<|gG @clT<|gG @anx.{0} @amy.{0}
def rM(m:bb)(t:Nat)(rv:AV):AV:=match rE m t with
 |some c=>.au [.agg (bL c rv),.bool true]
 |none=>.au [.agg (bL gx .ai),.bool false]
def aAG(u:bB n M p q m qv ev aB aJ H)(C: ∀i,(m.aA i).c.aT.length<1073741824)(t:Nat)(lo:oN):
  ∃rv,D XC (.fn (.func PK) [] []) [.ptr M 0,.int .i64 t] ⟨H,lo⟩=some (.ret (rM m t rv) ⟨H,lo⟩)/\ (∀c,rE m t=some c->Rv rv 1 (c.aT.map hC)):=by
 by_cases a:t<8
 ·have A: (t:Int)<8:=by omega
  have B: (0:Int)<=t:=by omega
  obtain⟨v,g,x⟩:=aAF (lo:=none) (H:=H++[.box (bL gx .ai) none,.box (bL (m.aA t).c (aJ t)) none]) ((u.rv t) _) (by have:=C t;unfold room;omega);have g:=c0 g;have e:=oM (x ⟨H,none⟩);have j:=cM x (bA (λ_=>rfl) _);have h:=cM (u.rv t) (bA (λ_=>rfl) _);have o: ∀v:AV,aG (bL (m.aA t).c v)=v.refs:=λv=>by simp[bL,aG,AV.refs,bf,ay]
  have z: ∀L,(H++L)[M]?=some (.box (cx m p aB aJ ev) none):=λL=>bh u.box
  have y: ∀v,bL gx v=[(.int .i64 0),(.int .u8 0),(.int .u32 0),(.int .u32 0),(.int .u32 0),(.int .u32 0),(.int .u64 0),(.bool false),v,(.int .i64 0),(.int .i64 0),(.int .i64 0)]:=λv=>rfl
  have r: ∀v,(bL (m.aA t).c v).length=12:=λv=>rfl
  have s: ∀v,(bL (m.aA t).c v)[8]?=some v:=λv=>rfl
  have l: ∀v w,aH (bL (m.aA t).c v) 8 [w]=bL (m.aA t).c w:=λv w=>rfl
  have k: ∀v,List.take 12 (bL (m.aA t).c v)=bL (m.aA t).c v:=λv=>rfl
  cases d: (m.aA t).busy
  ·refine⟨.ai,?_,λc b=>by unfold rE at b;simp[d]at b⟩;have hu:rM m t .ai= .au [.agg (bL gx .ai),.bool false]:=by unfold rM rE;simp[d]
   rw[hu];refine aF zb λN f=>?_
   simp only[F1,go_sem,simprocAttr,zb,f,CQ,agR a,z,xP a,d,B,A,y]
  ·rw[y]at g;refine⟨v,?_,λc b=>by unfold rE at b;simp[d,a]at b;subst b;exact x⟩;have hu:rM m t v= .au [.agg (bL (m.aA t).c v),.bool true]:=by unfold rM rE;simp[d,a]
   rw[hu];refine aF zb λN f=>?_
   simp only[F1,go_sem,simprocAttr,zb,f,CQ,agR a,z,xP a,CM a,d,B,A,g,o,j,h,r,s,l,k,e.1,e.2,anx,amy]
 ·have hu:rM m t .ai= .au [.agg (bL gx .ai),.bool false]:=by unfold rM rE;simp[a]
  refine⟨.ai,?_,λc b=>by unfold rE at b;simp[a]at b⟩;rw[hu];refine aF zb λN f=>?_
  simp only[F1,go_sem,simprocAttr,zb,f,CQ,afv a];rfl
def aAH(z: ∀op,l8 op)(f:bB n M p q m qv ev aB aJ H)(r:dD m)(o: ∀i,(m.aA i).c.aT.length<1073741824)(t:Nat)(lo:oN):
  D XC (.fn (.func PU) [] []) [.ptr M 0,.int .i64 t] ⟨H,lo⟩=some (.ret (.bool (Cc m t)) ⟨H,lo⟩):=by
 refine aF BM λN g=>?_
 obtain⟨rv,d,l⟩:=aAG f o t none;have a:=λL lo=>M9 (f.app L) t lo
 have x: ∀L,(H++L)[M]?=some (.box (cx m p aB aJ ev) none):=λL=>bh f.box
 have j: ∀L,(H++L)[p]?=some (.box (cw m.az q qv) none):=λL=>bh f.co.box
 cases hu:rE m t with
 |none=>
  have e1:Cc m t=false:=by unfold Cc;rw[hu]
  have k:rM m t rv= .au [.agg (bL gx .ai),.bool false]:=by unfold rM;rw[hu]
  rw[e1];rw[k]at d;have v:AV.refs .ai=0:=rfl;simp only[F1,go_sem,simprocAttr,BM,g,d,CC,↓CC,v]
 |some c=>
  have y:t<8/\c=(m.aA t).c:=by
   unfold rE at hu;split at hu
   ·rename_i h;injection hu with hu;exact⟨h.1,hu.symm⟩
   ·cases hu
  have e1:Cc m t=(p9 m t&& !c.checked&&B8 m.az.S t c.c):=by unfold Cc;rw[hu]
  have k:rM m t rv= .au [.agg (bL c rv),.bool true]:=by unfold rM;rw[hu]
  have hw:=λH lo=>ak3 m.az.S r.az.S t (by omega) c.c (by rw[y.2];exact(r.c t).iA) (z _) H lo
  have e:=l c hu;have w:=oM (e ⟨H,none⟩);have b:=cM e (bA (λ_=>rfl) _);rw[e1];rw[k]at d;clear o l;cases u:p9 m t
  ·rw[u]at a;simp only[F1,go_sem,simprocAttr,BM,g,d,a,CC,↓CC,b];rfl
  ·rw[u]at a;cases s:c.checked
   ·simp only[F1,go_sem,simprocAttr,BM,g,d,a,x,j,hw,s,CC,↓CC,b,ql,KL,↓KL]
   ·simp only[F1,go_sem,simprocAttr,BM,g,d,a,s,CC,↓CC,b];rfl
def anf(g: ∀op,l8 op)(c:bB n M p q m qv ev aB aJ H)(f:dD m)(e: ∀i,(m.aA i).c.aT.length<1073741824)(t:Nat)(lo:oN):
  D XC (.fn (.func DQ) [] []) [.ptr M 0,.int .i64 t] ⟨H,lo⟩=some (.ret (.bool (oF m t)) ⟨H,lo⟩):=by
 refine aF Fb λN j=>?_
 have h:=aAH g c f e t;have a:=M9 c t;unfold oF;cases b:decide (t<8)
 ·simp(disch:=omega) only[F1,go_sem,simprocAttr,Fb,CQ,b];rfl
 ·cases d:p9 m t
  ·rw[d]at a;simp(disch:=omega) only[F1,go_sem,simprocAttr,Fb,CQ,b,a];rfl
  ·rw[d]at a;simp(disch:=omega) only[F1,go_sem,simprocAttr,Fb,CQ,b,a,h]
end
def aAI{s:bG}(a:bm s)(c:cp): (sR s c).length<=39135394:=by
 have d:=Gf a.tr c.r;have b: ∀h,(oA s h).length<=1:=λh=>by unfold oA;grind
 unfold sR
 grind
def jt(c:Call):Prop:=c.aT.length<=39135394
def aAJ{x:Core}{c:Call}(i:bm x.S)(h:jt c):jt (gw x c).c:=by
 have b:jt (oB ⟨x,c,bX,false⟩).1.c:=by
  unfold oB;repeat' split
  all_goals first|exact h|exact aAI i _
 have d: ∀s:bT,jt s.c->jt (oC s).1.c:=λs a=>by
  unfold oC;split
  ·exact a
  ·rename_i e;dsimp only;split
   ·have:s.c.aT.length<=39135394:=a;rw[e,ag5]at this;exact ajR (Nat.le_succ _) this
   ·exact a
 have f: ∀s:bT,jt s.c->jt (oD s).1.c:=λs a=>by
  unfold oD;dsimp only;repeat' split
  all_goals exact a
 have g: ∀s:bT,jt s.c->jt (oE s).1.c:=λs a=>by
  unfold oE;split<;>exact a
 have j: ∀s:bT,jt s.c->jt (zy s).c:=λs a=>by
  unfold zy;dsimp only;repeat' split
  all_goals exact a
 unfold gw;dsimp only
 repeat' split
 ·exact b
 ·exact d _ b
 ·exact f _ (d _ b)
 ·exact g _ (f _ (d _ b))
 ·exact j _ (g _ (f _ (d _ b)))
def mX(m:bb):Prop:= ∀i,jt (m.aA i).c
theorem WU:jt gx:=agS _
def mX.set(h:mX m){r:Runner}(a:jt r.c)(i:Nat):jt (ar m.aA t r i).c:=by
 unfold ar;split
 ·omega
 ·exact h i
def aAK(h:mX m)(i:Nat):mX (ns m i):=by
 unfold ns;split
 ·exact h.set WU
 omega
def WV(h:mX m):mX (mN m):=by
 unfold mN;generalize List.range 8=l
 induction l generalizing m with
 |nil=>exact h
 |cons a l b=>exact b (aAK h a)
def ang(a:bm m.az.S)(h:mX m)(t:Nat):mX (xp m t):=by
 have b:=aAJ (x:=m.az) a (h t);unfold xp;dsimp only;split
 ·intro i;by_cases q:i=t
  ·subst q;show jt (Runner.c (ar _ _ _ _));rw[cT];exact WU
  ·show jt (Runner.c (ar _ _ _ i));rw[di q];show jt (Runner.c (ar m.aA t _ i));rw[di q];exact h i
 ·exact h.set b
def WW(a:bm m.az.S)(h:mX m)(b:Nat):mX (gy m b).1:=by
 unfold gy;dsimp only
 repeat' split
 ·exact h
 ·exact WV (m:={m with az:=_,now:=_}) h
 ·exact h
 ·exact h
 ·exact WV (m:=Cb _ _) h
 ·refine WV ?_;unfold zA;dsimp only
  repeat' split
  ·refine ang ?_ ?_ _;exact a;exact h
  ·refine ang ?_ ?_ _;exact a;exactλi=>h.set WU i
  ·exactλi=>h.set (t:=b % 8) (r:={m.aA (b % 8)with t:=rD (m.aA (b % 8)).t}) (h (b % 8)) i
theorem anh(n:Nat)(aC:List lB)(k:Nat):mX (fz n aC k):=λi=>agS _
theorem ani{n:Nat}(h:1<=n/\n<=64)(aC:List lB){a:lB}(b:a.length<=4000): ∀k,k<=a.length->mX (runK n aC a k).1
 |0,_=>anh _ _ _
 |k+1,c=>by
  rw[Nf (by omega)];exact WW (Ng h aC b k (by omega)).1.ok.az.S (ani h aC b k (by omega)) _
def uC(b:Nat):lA:=[.int .u8 b]
theorem pU(x:Nat):Den.part false 1 (uC x) 0=some (.int .u8 x):=rfl
def aAL(v fv:AV)(l:lN)(H:List ae)(hv:Rd ⟨H,none⟩ v 1 (l.map uC))(hl:l.length<2^40)(p:Nat->Bool)(lo:oN)
  (i: ∀x∈l,D X0 fv [.int .u8 x] ⟨H,none⟩=some (.ret (.bool (p x)) ⟨H,none⟩)):D X0 (.fn (.func D2) [] []) [v,fv] ⟨H,lo⟩=some (.ret (.int .i64 (gi p l)) ⟨H,lo⟩):=by
 refine aF Fp λN r=>?_
 simp only[go_sem,simprocAttr,Fp,hv.bK];refine dU l.length (λk e H'=>H'=H/\e 0=v/\e 1=fv/\e 7= .int .i64 l.length/\e 8= .int .i64 k/\ ∀j,j<k->p (l.getD j default)=false) 0 (by omega) ?_ ?_
 ·simp only[go_sem,simprocAttr];omega
 ·rintro k o e H' ⟨rfl,h0,g,f,d,b⟩ n m;simp(disch:=omega) only[bR,F1,go_sem,simprocAttr,RZ,h0,g,f,d];refine⟨λh=>?_,λh=>?_⟩
  ·have a:k<l.length:=by omega
   simp(disch:=omega) only[go_sem,simprocAttr,hv.ck,hv.cE,↓pU,i _ (eX a)];refine⟨by omega,?_⟩;cases c:p (l.getD k default)
   ·simp(disch:=omega) only[go_sem,simprocAttr,h0,g,f,d];exact⟨a,mO b c⟩
   ·simp(disch:=omega) only[F1,go_sem,simprocAttr];rw[vy a b c]
  ·rw[vz (λj q=>b j (by omega))]
def aAM(v:AV)(l:lN)(H:List ae)(hv:Rd ⟨H,none⟩ v 1 (l.map uC))(hl:l.length<2^40)(x:Nat)(lo:oN):
  D X0 (.fn (.func D8) [] []) [v,.int .u8 x] ⟨H,lo⟩=some (.ret (.int .i64 (gi (λy=>decide (x=y)) l)) ⟨H,lo⟩):=by
 refine aF FB λN p=>?_
 simp only[go_sem,simprocAttr,FB,hv.bK];refine dU l.length (λk e H'=>H'=H/\e 0=v/\e 1= .int .u8 x/\e 7= .int .i64 l.length/\e 8= .int .i64 k/\ ∀j,j<k->(λy=>decide (x=y)) (l.getD j default)=false) 0 (by omega) ?_ ?_
 ·simp only[go_sem,simprocAttr];omega
 ·rintro k m e H' ⟨rfl,h0,f,d,c,b⟩ n i;simp(disch:=omega) only[bR,F1,go_sem,simprocAttr,Sn,h0,f,d,c];refine⟨λh=>?_,λh=>?_⟩
  ·have a:k<l.length:=by omega
   simp(disch:=omega) only[bR,F1,go_sem,simprocAttr,hv.ck,hv.cE,↓pU,h0,f,d,c];refine⟨by omega,λg=>?_,λg=>?_⟩
   ·rw[vy a b (agR (by omega))]
   grind
  ·rw[vz (λj o=>b j (by omega))]
def aAN(v:AV)(l:lN)(H:List ae)(hv:Rd ⟨H,none⟩ v 1 (l.map uC))(hl:l.length<2^40)(x:Nat)(lo:oN):
  D X0 (.fn (.func QD) [] []) [v,.int .u8 x] ⟨H,lo⟩=some (.ret (.bool (l.any λy=>decide (x=y))) ⟨H,lo⟩):=by
 refine aF SF λN a=>?_
 simp(disch:=omega) only[F1,go_sem,simprocAttr,SF,aAM v l H hv hl x none,xq]
structure cA where
 kind:Nat
 order:lN
 fJ:Nat
 every:Int
 last:Nat
 eJ:Int
def a0(x:cA)(ov:AV):lA:=[.int .u8 x.kind,ov,.int .u64 x.fJ,.int .i64 x.every,.int .u8 x.last,.int .i64 x.eJ]
structure vS(x:cA):Prop where
 kind:x.kind<256
 order: ∀t∈x.order,t<256
 fJ:x.fJ<18446744073709551616
 every: -9223372036854775808<=x.every/\x.every<9223372036854775808
 last:x.last<256
 eJ: -9223372036854775808<=x.eJ/\x.eJ<9223372036854775808
def xS(k:Nat):Option FuncId:=if k=0 then some Eb else if k=1 then some Ec else if k=2 then some Ed else none
def WX:Prop:=(∀E,cg XC E false 1 (.df uN)=some (.iY uN))/\ ∀ (k:Nat) ok E,gQ XC.fa E .int .cJ (.iY uN) (.int .u8 k) ok=some (match xS k with|some f=>if ok then .au [.fn (.func f) [] [],.bool true]else .fn (.func f) [] []|none=>if ok then .au [.cJ,.bool false]else .cJ)
def ug(x:cA):Bool:=decide (x.kind<3)&&decide (x.order.length<=16)&&decide (0<=x.every)&&decide (x.every<=100)
def WY(o:WX)(x:cA)(hx:vS x)(ov:AV)(d:Rv ov 1 (x.order.map uC))(H:List ae)(lo:oN):
  D XC (.fn (.func yz) [] []) [.agg (a0 x ov)] ⟨H,lo⟩=some (.ret (.bool (ug x)) ⟨H,lo⟩):=by
 refine aF wY λN e=>?_
 have j:=cM d (bA (λ_=>rfl) _);have w:aG (a0 x ov)=0:=by simp[a0,aG,AV.refs,j]
 have h: (a0 x ov)[0]?=some (.int .u8 x.kind):=rfl;have g1: (a0 x ov)[1]?=some ov:=rfl;have s: (a0 x ov)[3]?=some (.int .i64 x.every):=rfl;have n: ∀E,fj E .sl ov=some (.int .i64 x.order.length):=λE=>d.bK
 unfold ug;have b:=o.1;have a:=o.2 x.kind true;unfold xS at a;have i: ∀f:FuncId,(∀E,gQ XC.fa E .int .cJ (.iY uN) (.int .u8 x.kind) true=some (.au [.fn (.func f) [] [],.bool true]))->x.kind<3->
   wp XC yz false wY.body ⟨cZ [.agg (a0 x ov)],[]⟩ ⟨H,none⟩ (dn XC N lo wY.results λr=>r= .ret (.bool (decide (x.kind<3)&&decide (x.order.length<=16)&&decide (0<=x.every)&&decide (x.every<=100))) ⟨H,lo⟩):=λf k u=>by
  rw[agR u];by_cases p:x.order.length<=16
  ·have c: (x.order.length:Int)<=16:=by omega
   rw[agR p];by_cases g:0<=x.every
   ·rw[agR g];simp only[F1,go_sem,simprocAttr,wY,e,k,b,h,g1,s,n,c,g]
   ·rw[afv g];simp only[F1,go_sem,simprocAttr,wY,e,k,b,h,g1,s,n,c,g];rfl
  ·have c: ¬(x.order.length:Int)<=16:=by omega
   rw[afv p];simp only[F1,go_sem,simprocAttr,wY,e,k,b,h,g1,n,c];rfl
 by_cases h0:x.kind=0
 ·simp only[afl h0]at a;exact i Eb a (by omega)
 by_cases m:x.kind=1
 ·simp only[afi h0,afl m]at a;exact i Ec a (by omega)
 by_cases q:x.kind=2
 ·simp only[afi h0,afi m,afl q]at a;exact i Ed a (by omega)
 simp only[afi h0,afi m,afi q]at a;rw[afv (show¬x.kind<3 by omega)];simp only[F1,go_sem,simprocAttr,wY,e,a,b,h];rfl
def WZ(a:Nat)(l:lN):Nat:=l.getD (gi (λt=>decide (a<=t)) l).toNat default
def vT(a l:lN):Nat:=(a.find? λt=>l.any λy=>decide (t=y)).getD (l.getD 0 default)
def anj(a:Nat)(l:lN):Nat:=l.getD (a/8589934592 % l.length) default
def vU(a:Nat):Nat:=(6364136223846793005*a+1) % 18446744073709551616
def fS(x:cA)(l:lN):cA×Nat:=
 if x.kind=0 then(x,WZ x.last l)else if x.kind=1 then(x,vT x.order l)else({x with fJ:=vU x.fJ},anj x.fJ l)
def W4[Inhabited α](p:α->Bool)(l:List α): -1<=gi p l/\gi p l<l.length\/ (l=[]/\gi p l= -1):=by
 unfold gi;cases h:l.findIdx? p with
 |none=>grind
 |some k=>
  have:=(arc.1 h).1
  grind
section
variable(x:cA)(hx:vS x)(ov v:AV)(l:lN)(hl:l.length<=8)(h0:l≠[])(M:Nat)(H:List ae)(hM:H[M]?=some (.box (a0 x ov) none))(hv:Rd ⟨H,none⟩ v 1 (l.map uC))(hl8: ∀t∈l,t<256)
include hx hM
theorem aAP(t:Nat)(b:Nat)(a:H[b]?=some (.box [.ptr M 0] none))(lo:oN):
  D X0 (.fn (.func I5) [] [.ptr b 0]) [.int .u8 t] ⟨H,lo⟩=some (.ret (.bool (decide (x.last<=t))) ⟨H,lo⟩):=by
 refine eP SC λN d=>?_
 have c: (a0 x ov)[4]?=some (.int .u8 x.last):=rfl;have e:decide ((t:Int)>=x.last)=decide (x.last<=t):=ahb.2 (by omega);simp(disch:=omega) only[F1,go_sem,simprocAttr,SC,a,hM,c]
 grind
include hl h0 hv hl8
theorem aAQ(lo:oN):D X0 (.fn (.func Eb) [] []) [.ptr M 0,v] ⟨H,lo⟩=some (.ret (.int .u8 (WZ x.last l)) ⟨H,lo⟩):=by
 refine aF SB λN e=>?_
 have h:=bh (L:=[.box [.ptr M 0] none]) hM;have g:=aAL v (.fn (.func I5) [] [.ptr N 0]) l (H++[.box [.ptr M 0] none]) (hv.ext) (by omega) (λt=>decide (x.last<=t)) none (λt _=>aAP x hx ov M (H++[.box [.ptr M 0] none]) h t N (dh e) none);have b:0<l.length:=aoX.2 h0;have k:=W4 (λt=>decide (x.last<=t)) l;unfold WZ;generalize gi (λt=>decide (x.last<=t)) l=i at*;have d:qF ⟨H,none⟩ (.ptr M 0) none=some (.ptr N 0,⟨H++[.box [.ptr M 0] none],none⟩):=by subst e;rfl
 obtain⟨n,j⟩: ∃n,i.toNat=n:=⟨_,rfl⟩;have f:n<l.length:=by omega
 have c:max 0 i=(n:Int):=by omega
 have a:=hv.ext (L:=[.box [.ptr M 0] none]) (ak:=none);simp(disch:=omega) only[F1,go_sem,simprocAttr,SB,d,g,c,a.ck,a.cE,↓pU]
 grind
theorem aAR(q:x.order.length<=16)(a:Rv ov 1 (x.order.map uC))(lo:oN):D X0 (.fn (.func Ec) [] []) [.ptr M 0,v] ⟨H,lo⟩=some (.ret (.int .u8 (vT x.order l)) ⟨H,lo⟩):=by
 refine aF SD λN A=>?_
 have g1: (a0 x ov)[1]?=some ov:=rfl;have g:0<l.length:=aoX.2 h0;have u: ∀E,fj E .sl ov=some (.int .i64 x.order.length):=λE=>a.bK
 simp only[go_sem,simprocAttr,SD,hM,g1,u];refine dU x.order.length (λk e H'=>H'=H/\e 1=v/\e 10=ov/\e 11= .int .i64 x.order.length/\e 12= .int .i64 k/\ ∀j,j<k->(λt=>l.any λy=>decide (t=y)) (x.order.getD j default)=false) 0 (by omega) ?_ ?_
 ·simp only[go_sem,simprocAttr];omega
 ·rintro k z e H' ⟨rfl,m,f,d,c,i⟩ n w;simp only[bR,go_sem,simprocAttr,agw,m,f,d,c];refine⟨λh=>?_,λh=>?_⟩
  ·have b:k<x.order.length:=by omega
   have s:=aAN v l H' hv (by omega) (x.order.getD k default) none;simp(disch:=omega) only[go_sem,simprocAttr,a.ck,a.cE,↓pU,m,s];refine⟨by omega,?_⟩;cases o:l.any λy=>decide (x.order.getD k default=y)
   ·simp(disch:=omega) only[go_sem,simprocAttr,m,f,d,c];exact⟨b,mO (p:=λj=>(λt=>l.any λy=>decide (t=y)) (x.order.getD j default)=false) i o⟩
   ·have e3:vT x.order l=x.order.getD k default:=by unfold vT;rw[aik (p:=λt=>l.any λy=>decide (t=y)) b i o];rfl
    simp(disch:=omega) only[F1,go_sem,simprocAttr,e3]
  ·obtain rfl:k=x.order.length:=by omega
   have e3:vT x.order l=l.getD 0 default:=by unfold vT;rw[ail (p:=λt=>l.any λy=>decide (t=y)) λj r=>i j r];rfl
   simp(disch:=omega) only[F1,go_sem,simprocAttr,hv.ck,hv.cE,↓pU,e3];omega
theorem aAS(lo:oN):D X0 (.fn (.func Ed) [] []) [.ptr M 0,v] ⟨H,lo⟩=some (.ret (.int .u8 (anj x.fJ l)) ⟨H.set M (.box (a0 {x with fJ:=vU x.fJ} ov) none),lo⟩):=by
 refine aF SG λN h=>?_
 have d:M<N:=by grind
 have g2: (a0 x ov)[2]?=some (.int .u64 x.fJ):=rfl;have a:0<l.length:=aoX.2 h0;have f:=hv.bK;have c: ¬(l.length:Int)=0:=by omega
 have b: ((x.fJ:Int).fdiv (2^min 33 64)).tmod l.length=((x.fJ/8589934592 % l.length:Nat):Int):=by
  rw[show min 33 64=33 from rfl,show(2:Int)^33=8589934592 from rfl,Int.fdiv_eq_ediv_of_nonneg _ (by omega),arM (by omega),Int.natCast_emod,Int.natCast_ediv];rfl
 have g:x.fJ/8589934592 % l.length<l.length:=aoG _ a;simp(disch:=omega) only[F1,go_sem,simprocAttr,SG,hM,g2,f,c,b,hv.ck,hv.cE,↓pU];have e:IntKind.u64.wrap (IntKind.u64.wrap ((x.fJ:Int)*6364136223846793005)+1)=(vU x.fJ:Int):=by
  show(((x.fJ:Int)*6364136223846793005) % 18446744073709551616+1) % 18446744073709551616=((vU x.fJ:Nat):Int);unfold vU;omega
 refine⟨by omega,by show 3<=6;decide,?_⟩;rw[e,show aH (a0 x ov) 2 [AV.int IntKind.u64 (vU x.fJ:Int)]=a0 {x with fJ:=vU x.fJ} ov from rfl,agQ (by rw[ag7];omega)];rfl
end
def oT(m:bb)(k:Nat):lN:=(List.range k).filter (oF m)
def dQ(m:bb):lN:=oT m 8
def ank(m:bb)(k:Nat):oT m (k+1)=oT m k++(if oF m k then[k]else[]):=by
 unfold oT;rw[aqZ,ayv,List.filter_cons];rfl
def anl(m:bb)(k:Nat): (oT m k).length<=k:=by
 have:=amt (oF m) (List.range k);rw[aCv]at this;exact this
def Nh(h:t∈oT m k):t<k/\oF m t=true:=by
 have:=air.1 h
 grind
def fT(x:cA)(m:bb):cA×Nat×Bool:=
 if m.az.Q≠[]/\ ((0<x.every/\x.every<=x.eJ)\/dQ m=[])then({x with eJ:=0},8,true)
 else if dQ m=[]then(x,0,false)
 else({(fS x (dQ m)).1 with last:=(fS x (dQ m)).2+1,eJ:=min (x.eJ+1) 100},(fS x (dQ m)).2,true)
def Ni(k:Nat):AV:=match xS k with|some f=>.fn (.func f) [] []|none=>.cJ
def anm(a:k<l.length)(h: ∀t∈l,t<b):l.getD k default<b:=by simp_all
def W5{x:cA}(c:l≠[])(h: ∀t∈l,t<b): (fS x l).2<b:=by
 have a:0<l.length:=aoX.2 c;unfold fS;split
 ·have e:=W4 (λt=>decide (x.last<=t)) l;refine anm ?_ h;omega
 split
 ·unfold vT;cases d:x.order.find? λt=>l.any λy=>decide (t=y)with
  |none=>grind
  |some t=>grind
 ·exact anm (aoG _ a) h
def aAT(x:cA)(l:lN): (fS x l).1.eJ=x.eJ:=by
 unfold fS
 grind
def aAU(x:cA)(e:vS x)(r:x.kind<3)(h:x.order.length<=16)(a v:AV)(l:lN)(i:l.length<=8)(k:l≠[])(M:Nat)(H:List ae)(j:H[M]?=some (.box (a0 x a) none))(f:Rd ⟨H,none⟩ v 1 (l.map uC))(b: ∀t∈l,t<256)(g:Rv a 1 (x.order.map uC))(lo:oN):
  D X0 (Ni x.kind) [.ptr M 0,v] ⟨H,lo⟩=some (.ret (.int .u8 (fS x l).2) ⟨H.set M (.box (a0 (fS x l).1 a) none),lo⟩):=by
 have o:H.set M (.box (a0 x a) none)=H:=by
  apply aoI;grind
 unfold fS Ni xS;by_cases d:x.kind=0
 ·rw[afl d,afl d];rw[o];exact aAQ x e a v l i k M H j f b lo
 rw[afi d,afi d];by_cases c:x.kind=1
 ·rw[afl c,afl c];rw[o];exact aAR x e a v l i k M H j f b h g lo
 rw[afi c,afi c,afl (by omega)];exact aAS x e a v l i k M H j f b lo
section
variable{n M p q:Nat}{m:bb}{qv ev:AV}{aB aJ:Nat->AV}{H:List ae}
def Nj(hD: ∀op,l8 op)(hK:WX)(ha:bB n M p q m qv ev aB aJ H)(hm:dD m)(hr: ∀i,(m.aA i).c.aT.length<1073741824)(hQ:m.az.Q.length<1073741824)(x:cA)(hx:vS x)(g:ug x=true)(hsi:0<=x.eJ/\x.eJ<=100)(a:AV)(F:Rv a 1 (x.order.map uC))(lo:oN):
  D XC (.fn (.func pn) [] []) [.agg (a0 x a),.ptr M 0] ⟨H,lo⟩=some (.ret (.au [.agg (a0 (fT x m).1 a),.int .u8 (fT x m).2.1,.bool (fT x m).2.2,.int .i64 0]) ⟨H,lo⟩):=by
 refine aF Fa λN hN=>?_
 have W7:ea EK.ptr (AV.ptr M 0) AV.dY=some false:=rfl;have hv0:=cM F (bA (λ_=>rfl) _);have u: ∀x:cA,aG (a0 x a)=0:=λx=>by simp[a0,aG,AV.refs,hv0]
 have hmd: ∀H lo,D XC (.fn (.func yz) [] []) [.agg (a0 x a)] ⟨H,lo⟩=some (.ret (.bool true) ⟨H,lo⟩):=λH lo=>by rw[WY hK x hx a F,g]
 have r: ∀y:cA,(a0 y a).length=6:=λ_=>rfl
 have o: ∀y:cA,List.take 6 (a0 y a)=a0 y a:=λ_=>rfl
 simp only[go_sem,simprocAttr,Fa,hN,W7,hmd,r,o];obtain⟨B,hB⟩: ∃B:List ae,B=[.box (a0 x a) none,.box [.int .u8 0,.ai,.int .u64 0,.int .i64 0,.int .u8 0,.int .i64 0] none]:=⟨_,rfl⟩;have hBl: (H++B).length=N+2:=by rw[hB];simp[hN]
 have ml:=λW (Y: (H++B)<+:W) t lo=>anf hD (show bB n M p q m qv ev aB aJ W by obtain⟨L,rfl⟩:=Y;exact(ha.app B).app L) hm hr t lo
 refine dU 8 (λk e W=>(H++B)<+:W/\aQ (N+2) W (e 8) 1 afM ((oT m k).map uC)/\e 1= .ptr M 0/\e 2= .ptr N 0/\e 4= .ptr (N+1) 0/\e 22= .int .u8 k) 0 (by omega) ?_ ?_
 ·simp only[go_sem,simprocAttr];exact⟨by rw[hB];exact arj,aQ.ai⟩
 ·rintro k hk e W ⟨V,o1,e1,A,I,J⟩ nn hn;simp(disch:=omega) only[bR,go_sem,simprocAttr,afW,e1,J];refine⟨λhh=>?_,λhh=>?_⟩
  ·have S:k<8:=by omega
   have z:=ml W V k;simp only[go_sem,simprocAttr,z];have X:=ank m k;cases Y:oF m k
   ·rw[Y,afi (by decide),aip]at X;simp(disch:=omega) only[go_sem,simprocAttr,e1,A,I,J];rw[X];exact⟨S,V,o1⟩
   ·rw[Y,afl rfl]at X;simp only[go_sem,simprocAttr];refine o9 (H0:=H++B) (bytes:=1) (ys:=[uC k]) o1 V hBl (by omega) (by intro el nP;rw[agV.1 nP];rfl) rfl (by rw[agZ];have:=anl m k;simp[room];omega) λv' W2 o2 p2=>?_
    simp(disch:=omega) only[go_sem,simprocAttr,e1,A,I,J];rw[X,ag9];exact⟨S,p2,o2⟩
  ·obtain rfl:k=8:=by omega
   obtain⟨L,rfl⟩:=V;have w:=am7 ((ha.app B).app L) hQ none;subst hB;rw[afq]at*;simp only[akr,aiL]at*;obtain⟨cv,c1,c2⟩:=w;have g8: (cw m.az q cv)[1273]?=some cv:=MX;have O:=o1.rd (lo:=none);have p0: ∀y:cA,(a0 y a)[0]?=some (.int .u8 y.kind):=λ_=>rfl
   have p3: ∀y:cA,(a0 y a)[3]?=some (.int .i64 y.every):=λ_=>rfl
   have Z: ∀y:cA,(a0 y a)[5]?=some (.int .i64 y.eJ):=λ_=>rfl
   have s4: ∀ (y:cA) (v:Nat),aH (a0 y a) 4 [.int .u8 v]=a0 {y with last:=v} a:=λ_ _=>rfl
   have K: ∀ (y:cA) (t:Nat),aH (a0 y a) 4 [.int .u8 ((t:Int)+1)]=a0 {y with last:=t+1} a:=λ_ _=>rfl
   have hd6: ∀y:cA,List.drop 6 (a0 y a)=[]:=λ_=>rfl
   have Q:=aAT x (dQ m);have hpt: ∀h:dQ m≠[],(fS x (dQ m)).2<8:=λh=>W5 h λt ht=>(Nh ht).1
   have U: ∀ (y:cA) (v:Int),aH (a0 y a) 5 [.int .i64 v]=a0 {y with eJ:=v} a:=λ_ _=>rfl
   have T:=hK.1;have h3:x.kind<3/\x.order.length<=16:=by unfold ug at g;simp only[aiq,amB]at g;exact⟨g.1.1.1,g.1.1.2⟩
   have gN: (H++(ae.box (a0 x a) none::ae.box [.int .u8 0,.ai,.int .u64 0,.int .i64 0,.int .u8 0,.int .i64 0] none::L))[N]?=some (.box (a0 x a) none):=by rw[dh hN];rfl
   have R:=λh0=>c0 (aAU x hx h3.1 h3.2 a (e 8) (dQ m) (anl m 8) h0 N _ gN O (λt ht=>by have:=(Nh ht).1;omega) F none)
   have hk: ∀E,gQ XC.fa E .int .cJ (.iY uN) (.int .u8 x.kind) false=some (Ni x.kind):=λE=>by
    rw[hK.2 x.kind false E];unfold Ni;cases xS x.kind<;>rfl
   have l: (decide (0< (m.az.Q.length:Int))=true↔m.az.Q≠[]):=by rw[axP,<-aoX];omega
   have s: (decide (((oT m 8).length:Int)=0)=true↔dQ m=[]):=by rw[axP];unfold dQ;rw[<-ams];omega
   obtain⟨due,c⟩: ∃d,d=(decide (0<x.every)&&decide (x.every<=x.eJ)):=⟨_,rfl⟩;have G:due=true↔(0<x.every/\x.every<=x.eJ):=by rw[c,aiq,axP,axP]
   simp(disch:=omega) only[go_sem,simprocAttr,A,c1,g8,p3,c2.bK];refine uE 11 (.bool due) [2,4,8,10] rfl rfl ?_ λe0=>?_
   ·cases b1:decide (0<x.every)
    ·rw[b1]at c;subst c;simp only[go_sem,simprocAttr];rfl
    ·rw[b1]at c;subst c;simp(disch:=omega) only[go_sem,simprocAttr,A,p3,Z]
   clear c;have j: ∀ (y:cA) (b:Nat) (is:Bool),fT x m=(y,b,is)->aS.ret (.au [.agg (a0 y a),.int .u8 b,.bool is,.int .i64 0]) ⟨H,lo⟩= .ret (.au [.agg (a0 (fT x m).1 a),.int .u8 (fT x m).2.1,.bool (fT x m).2.2,.int .i64 0]) ⟨H,lo⟩:=λy b is h=>by rw[h]
   have P: ∀h:dQ m≠[],IntKind.u8.wrap (((fS x (dQ m)).2:Int)+1)=((fS x (dQ m)).2:Int)+1:=λh=>wrap_u8 (by omega) (by have:=hpt h;omega)
   have q2: ∀ (z:m.az.Q≠[]) (C:due=true\/dQ m=[]),fT x m=({x with eJ:=0},8,true):=λz C=>afl ⟨z,by rw[<-G];exact C⟩
   have q1: ∀ (z: ¬(m.az.Q≠[]/\ (due=true\/dQ m=[]))) (C:dQ m=[]),fT x m=(x,0,false):=λz C=>(afi (by rw[<-G];exact z)).trans (afl C)
   have q3: ∀ (z: ¬(m.az.Q≠[]/\ (due=true\/dQ m=[]))) (C:dQ m≠[]),fT x m=({(fS x (dQ m)).1 with last:=(fS x (dQ m)).2+1,eJ:=min (x.eJ+1) 100},(fS x (dQ m)).2,true):=λz C=>(afi (by rw[<-G];exact z)).trans (afi C)
   cases bq:decide (0< (m.az.Q.length:Int))<;>rw[bq]at l
   ·cases be:decide (((oT m 8).length:Int)=0)<;>rw[be]at s
    ·have f:dQ m≠[]:=by simpa using s
     simp(disch:=omega) only[F1,go_sem,simprocAttr,be,A,I,O.bK,p0,Z,r,o,u,K,U,T,hk,R f,Q,P f];exact j _ _ _ (q3 (by simp at l;simp[l]) f)
    ·simp(disch:=omega) only[F1,go_sem,simprocAttr,be,A,I,O.bK,r,o,u];exact j _ 0 _ (q1 (by simp at l;simp[l]) (s.1 rfl))
   ·cases due
    ·cases be:decide (((oT m 8).length:Int)=0)<;>rw[be]at s
     ·have f:dQ m≠[]:=by simpa using s
      simp(disch:=omega) only[F1,go_sem,simprocAttr,be,A,I,O.bK,p0,Z,r,o,u,K,U,T,hk,R f,Q,P f];exact j _ _ _ (q3 (by simp[f]) f)
     ·simp(disch:=omega) only[F1,go_sem,simprocAttr,be,A,I,O.bK,r,o,u,U];exact j _ 8 _ (q2 (l.1 rfl) (.inr (s.1 rfl)))
    ·simp(disch:=omega) only[F1,go_sem,simprocAttr,A,I,r,o,u,U];exact j _ 8 _ (q2 (l.1 rfl) (.inl rfl))
end
def oU(x:dE):lA:=[.int .i64 x.op,.int .i64 x.a,.int .i64 x.b,.int .i64 x.c,.int .i64 x.n]
def aAZ(v:AV)(l:List dE)(F:l.length<2147483648)(H:List ae)(h:Rd ⟨H,none⟩ v 5 (l.map oU))(lo:oN):
  D X0 (.fn (.func P0) [] []) [v] ⟨H,lo⟩=some (.ret (.bool (p7 l)) ⟨H,lo⟩):=by
 refine aF KV λN s=>?_
 unfold p7;by_cases c:l.length<=64
 ·have p: ¬((l.length:Nat):Int)>64:=by omega
  rw[agR c,anz];simp only[go_sem,simprocAttr,KV,h.bK,p];refine dU l.length (λk e W=>H<+:W/\e 0=v/\e 3= .int .i64 k/\ ∀j,j<k->rA (l.getD j default) l.length=true) 0 (by omega) ?_ ?_
  ·simp only[go_sem,simprocAttr];exact⟨arj,λj o=>absurd o (aqQ j)⟩
  rintro k G e W ⟨d,q,e3,g⟩ n C;have hw:=h.mono (ak:=none) d;simp only[bR,F1,go_sem,simprocAttr,af6,q,e3,hw.bK];refine⟨λE=>?_,λE=>?_⟩
  ·have b:k<l.length:=by omega
   have a: ∀x,Den.part true 5 (oU x) 0=some (.agg (oU x)):=λ_=>rfl
   have r: ∀x:dE,(oU x)[0]?=some (.int .i64 x.op):=λ_=>rfl
   have A: ∀x:dE,(oU x)[1]?=some (.int .i64 x.a):=λ_=>rfl
   have z: ∀x:dE,(oU x)[2]?=some (.int .i64 x.b):=λ_=>rfl
   have y: ∀x:dE,(oU x)[3]?=some (.int .i64 x.c):=λ_=>rfl
   have w: ∀x:dE,(oU x)[4]?=some (.int .i64 x.n):=λ_=>rfl
   have u: ∀x:dE,(oU x).length=5:=λ_=>rfl
   have t: ∀x:dE,aG (oU x)=0:=λ_=>rfl
   have B:=hw.ext (L:=[.box (oU (l.getD k default)) none]) (ak:=none);have m: ∀L,fj ⟨W++L,none⟩ .sl v=some (.int .i64 l.length):=λL=>(hw.ext (L:=L) (ak:=none)).bK
   simp(disch:=omega) only[go_sem,simprocAttr,hw.ck,hw.cE,↓a,C,u,t,r];refine⟨by omega,?_⟩;generalize f:l.getD k default=x at*;refine uE 62 (.bool (!rA x l.length)) [0,3] rfl rfl ?_ λI=>?_
   ·unfold rA;simp(disch:=omega) only[R4,go_sem,simprocAttr,r,A,z,y,w,m,q]
    (repeat' (first|apply And.intro|intro _))
    all_goals(refine akp AV.bool (apk.2 ?_);simp[];try(intros;omega))
   cases hm:rA x l.length
   ·simp only[F1,go_sem,simprocAttr];have a: (l.all λx=>rA x l.length)=false:=by
     rw[aCB];exact⟨x,by rw[<-f];exact eX b,by rw[hm];decide⟩
    rw[a];exact da rfl (ll s λi g=>by obtain⟨L,rfl⟩:=d;rw[afq,aez (by omega)])
   ·simp(disch:=omega) only[go_sem,simprocAttr,q,e3];refine⟨b,d.trans (arD _ _),mO g (by rw[f,hm])⟩
  ·have a: (l.all λx=>rA x l.length)=true:=by
     rw[ag6];intro x f;obtain⟨j,o,rfl⟩:=atv f;have:=g j (by omega);rwa[show l.getD j default=l[j] by simp[List.getD,o]]at this
   rw[a];exact da rfl (ll s λi g=>by obtain⟨L,rfl⟩:=d;rw[aez (by omega)])
 ·have p: ((l.length:Nat):Int)>64:=by omega
  rw[afv c,akq];simp(disch:=omega) only[F1,go_sem,simprocAttr,KV,h.bK,p]
def aA0(s:lB)(F:s.length<=1000)(H:List ae)(lo:oN):
  ∃v,D X0 (.fn (.func It) [] []) [S s] ⟨H,lo⟩=some (.ret (.au [v,.bool (decode s).isSome]) ⟨H,lo⟩):=by
 suffices A: ∃h,D X0 (.fn (.func It) [] []) [S s] ⟨H,lo⟩=some h/\ (λh=> ∃v,h=aS.ret (.au [v,.bool (decode s).isSome]) ⟨H,lo⟩) h by
  obtain⟨h,x,v,rfl⟩:=A;exact⟨v,x⟩
 refine cz Rk λN m=>?_
 simp only[go_sem,simprocAttr,Rk];refine dU (s.length/6) (λk e W=>e 0=S (s.drop (6*k))/\H<+:W/\aQ N W (e 4) 5 afN ((gl s k).map oU)) 0 (by omega) ?_ ?_
 ·simp only[go_sem,simprocAttr];exact⟨arj,aQ.ai⟩
 rintro k G e W ⟨z,a,p⟩ n B;have C: (s.drop (6*k)).length=s.length-6*k:=anA ..;have f: (gl s k).length=k:=by simp[gl]
 simp only[bR,go_sem,simprocAttr,af0,z,B];refine⟨λE=>?_,λE=>?_⟩
 ·have c:k<s.length/6:=by omega
  have I:6<=(s.drop (6*k)).length:=by omega
  have q:uj (S (s.drop (6*k))) (some (.int .i64 6)) none=some (S (s.drop (6*(k+1)))):=by
   rw[HV,afl ⟨by omega,by omega⟩,aqX];rfl
  have d: ∀j,((s.drop (6*k)).getD j 0).toNat<256:=λj=>UInt8.toNat_lt _
  have Q:=d 0;have P:=d 1;have O:=d 2;have M:=d 3;have K:=d 4;have J:=d 5;simp(disch:=omega) only[go_sem,simprocAttr];refine⟨by omega,by omega,by omega,by omega,by omega,by omega,?_⟩;refine o9 (N:=N) (H0:=H) (bytes:=40) (ys:=[oU (qk (s.drop (6*k)))]) p a m (by omega) (by intro el t;rw[agV.1 t];rfl) rfl (by rw[agZ,f];show(k+1)*40<=room;unfold room;omega) λv' R o r=>?_
  simp only[go_sem,simprocAttr,z,q];refine⟨c,r,?_⟩;rw[WA,ag9];exact o
 ·have c:k=s.length/6:=by omega
  by_cases y:s.length % 6=0
  ·have l: ¬(0:Int)< ((s.drop (6*k)).length:Nat):=by omega
   have b:=λlo=>aAZ (e 4) (gl s k) (by omega) W (l7 p none) lo
   have g:rB s=gl s k:=by rw[c];exact amf y
   have u:decode s=if p7 (gl s k)then some (gl s k)else none:=by
    unfold decode;by_cases x:s.length<=384
    ·rw[afi (by omega),g]
    ·rw[afl (by omega)];have:p7 (gl s k)=false:=by unfold p7;rw[afv (by rw[f];omega)];rfl
     rw[this];rfl
   rw[u];cases hm:p7 (gl s k)with
   |true=>
    rw[hm]at b;simp only[go_sem,simprocAttr,l,b];rw[p.aeD (by rw[bA (λ_=>rfl)];omega) (agS _)];exact⟨_,da rfl (ll m λi w=>by obtain⟨L,rfl⟩:=a;rw[aez (by omega)])⟩
   |false=>
    rw[hm]at b;simp only[go_sem,simprocAttr,l,b];rw[xA rfl];exact⟨.ai,da rfl (ll m λi w=>by obtain⟨L,rfl⟩:=a;rw[aez (by omega)])⟩
  ·have l: (0:Int)< ((s.drop (6*k)).length:Nat):=by omega
   have u:decode s=none:=by unfold decode;rw[afl (.inl y)]
   rw[u];simp only[go_sem,simprocAttr,l];rw[xA rfl];exact⟨.ai,da rfl (ll m λi w=>by obtain⟨L,rfl⟩:=a;rw[aez (by omega)])⟩
def dX(aN:Int)(pv:AV)(aW:lB):lA:=[.int .i64 aN,pv,S aW]
structure Nk(aN:Int)(aC:List lB)(aW:lB)(pv:AV):Prop where
 pg: -9223372036854775808<=aN/\aN<9223372036854775808
 pr:Rv pv 1 (aC.map sC)
def vV(aC:List lB)(aW:lB):Bool:=decide (20<aC.length)|| (decide (6000<aW.length)||aC.any λp=>decide (1000<p.length))
def GU(aC:List lB)(aW:lB):Bool:=vV aC aW||decide (1500<aW.length)
section
variable{aN:Int}{aC:List lB}{aW:lB}{pv:AV}(h:Nk aN aC aW pv)
include h
theorem aA1:aG (dX aN pv aW)=0:=by
 have:=cM h.pr (bA (λ_=>rfl) _);simp[dX,aG,AV.refs,S,this]
theorem aA2(H:List ae)(lo:oN):D X0 (.fn (.func PM) [] []) [.agg (dX aN pv aW)] ⟨H,lo⟩=some (.ret (.bool (vV aC aW)) ⟨H,lo⟩):=by
 refine aF Fc λN f=>?_
 have g1: (dX aN pv aW)[1]?=some pv:=rfl;have g2: (dX aN pv aW)[2]?=some (S aW):=rfl;unfold vV;by_cases g:20<aC.length
 ·have a: (aC.length:Int)>20:=by omega
  rw[agR g,arG];simp only[F1,go_sem,simprocAttr,Fc,f,g1,h.pr.bK,a]
 by_cases l:6000<aW.length
 ·have a: ¬(aC.length:Int)>20:=by omega
  have b: (aW.length:Int)>6000:=by omega
  rw[afv g,agR l,arG,arK];simp only[F1,go_sem,simprocAttr,Fc,f,g1,g2,h.pr.bK,a,b]
 have a: ¬(aC.length:Int)>20:=by omega
 have b: ¬(aW.length:Int)>6000:=by omega
 rw[afv g,afv l,arK,arK];simp only[go_sem,simprocAttr,Fc,f,g1,g2,h.pr.bK,a,b];refine dU aC.length (λk e W=>W=H++[.box (dX aN pv aW) none]/\e 1= .ptr N 0/\e 3= .int .i64 k/\ ∀j,j<k->(λp:lB=>decide (1000<p.length)) (aC.getD j default)=false) 0 (by omega) ?_ ?_
 ·simp only[go_sem,simprocAttr];exactλj d=>absurd d (aqQ j)
 rintro k t e W ⟨rfl,e1,e3,i⟩ n s;simp(disch:=omega) only[bR,F1,go_sem,simprocAttr,afZ,e1,e3,g1,h.pr.bK];refine⟨λr=>?_,λr=>?_⟩
 ·have c:k<aC.length:=by omega
  simp(disch:=omega) only[bR,F1,go_sem,simprocAttr,e1,e3,h.pr.ck,h.pr.cE,↓pS];refine⟨by omega,λo=>?_,λo=>?_⟩
  ·rw[(List.any_eq_true).2 ⟨_,eX c,agR (by omega)⟩]
  ·exact⟨c,mO (p:=λj=>decide (1000< (aC.getD j default).length)=false) i (afv (by omega))⟩
 ·have: (aC.any λp=>decide (1000<p.length))=false:=by
    rw[List.any_eq_false];intro x m;obtain⟨j,d,rfl⟩:=atv m;have:=i j (by omega);rw[show aC.getD j default=aC[j] by simp[List.getD,d]]at this;exactλq=>by rw[show decide (1000<aC[j].length)=false from this]at q;cases q
  rw[this]
theorem aA3(H:List ae)(lo:oN):D X0 (.fn (.func PB) [] []) [.agg (dX aN pv aW)] ⟨H,lo⟩=some (.ret (.bool (GU aC aW)) ⟨H,lo⟩):=by
 refine aF KI λN e=>?_
 have g2: (dX aN pv aW)[2]?=some (S aW):=rfl;have c: (dX aN pv aW).length=3:=rfl;have b:List.take 3 (dX aN pv aW)=dX aN pv aW:=rfl;have e1:decide ((aW.length:Int)>1500)=decide (1500<aW.length):=ahb.2 (by omega);have a:=aA2 h;unfold GU;cases d:vV aC aW
 ·rw[d]at a;simp only[F1,go_sem,simprocAttr,KI,e,g2,a,c,b,e1]
 ·rw[d]at a;simp only[F1,go_sem,simprocAttr,KI,e,a,c,b]
theorem aA4(i:vV aC aW=false)(H:List ae)(lo:oN): ∃kv,D X0 (.fn (.func PG) [] []) [.agg (dX aN pv aW)] ⟨H,lo⟩=some (.ret (.agg [.int .i64 aN,pv,kv]) ⟨H,lo⟩)/\GK aN aC aW pv kv:=by
 have g:aC.length<=20/\aW.length<=6000:=by
  unfold vV at i
  grind
 refine⟨.sl (aW.map bC) false,?_,⟨h.pr,.sl λel d=>by obtain⟨x,_,rfl⟩:=ag2.1 d;rfl,by omega,by omega⟩⟩;refine aF Re λN j=>?_
 have k: (dX aN pv aW)[0]?=some (.int .i64 aN):=rfl;have g1: (dX aN pv aW)[1]?=some pv:=rfl;have g2: (dX aN pv aW)[2]?=some (S aW):=rfl;have b:=cM h.pr (bA (λ_=>rfl) _);have c:HT (S aW)=some (.sl (aW.map bC) false):=by
  have e:HT (S aW)=if aW.length<=room then some (.sl (aW.map bC) false)else none:=rfl
  rw[e,afl (by unfold room;omega)]
 have f:b8 (aW.map bC)=0:=bA (λ_=>rfl) _;have a:=oM (h.pr ⟨[],none⟩);simp only[F1,go_sem,simprocAttr,Re,j,k,g1,g2,c,a.1,a.2,b,f,anx,amy]
theorem aA5(t:vV aC aW=false)(H:List ae)(lo:oN):D X0 (.fn (.func PD) [] []) [.agg (dX aN pv aW)] ⟨H,lo⟩=some (.ret (.bool (nu ⟨aN,aC,aW.map UInt8.toNat⟩)) ⟨H,lo⟩):=by
 refine aF Rb λN F=>?_
 have A: (dX aN pv aW)[0]?=some (.int .i64 aN):=rfl;have g1: (dX aN pv aW)[1]?=some pv:=rfl;have g2: (dX aN pv aW)[2]?=some (S aW):=rfl;obtain⟨w,f⟩: ∃b,b=decide (1<=aN/\aN<=64/\1<=aC.length/\aC.length<=8/\aW.length<=4000):=⟨_,rfl⟩;have r:nu ⟨aN,aC,aW.map UInt8.toNat⟩=(w&&aC.all (λp=>(decode p).isSome)&& (aW.map UInt8.toNat).all lk):=by unfold nu;rw[agZ,f]
 rw[r];simp only[go_sem,simprocAttr,Rb,F,A];refine uE 33 (.bool (!w)) [1] rfl rfl ?_ λG=>?_
 ·rw[f];simp(disch:=omega) only[R4,go_sem,simprocAttr,A,g1,g2,h.pr.bK];generalize aC.length=np
  (repeat' (first|apply And.intro|intro _))
  all_goals(refine akp AV.bool (apk.2 ?_);simp[];try(intros;omega))
 cases w
 ·simp(disch:=omega) only[F1,go_sem,simprocAttr];rfl
 have f:=(at1 f.symm);simp only[go_sem,simprocAttr];refine dU aC.length (λk e W=>W=H++[.box (dX aN pv aW) none]/\e 1= .ptr N 0/\e 3= .int .i64 k/\ ∀j,j<k->(λp:lB=>(decode p).isSome) (aC.getD j default)=true) 0 (by omega) ?_ ?_
 ·simp only[go_sem,simprocAttr];exactλj g=>absurd g (aqQ j)
 rintro k I e W ⟨rfl,e1,e3,l⟩ n C;simp(disch:=omega) only[bR,go_sem,simprocAttr,afT,e1,e3,g1,h.pr.bK];refine⟨λq=>?_,λq=>?_⟩
 ·have a:k<aC.length:=by omega
  have s: (aC.getD k default).length<=1000:=by
   unfold vV at t;simp only[Bool.or_eq_false_iff,List.any_eq_false,amB]at t;have:=t.2.2 _ (eX a);omega
  obtain⟨v,u⟩:=aA0 (aC.getD k default) s (H++[.box (dX aN pv aW) none]) none;simp(disch:=omega) only[go_sem,simprocAttr,h.pr.ck,h.pr.cE,↓pS,u];refine⟨by omega,?_⟩;cases m: (decode (aC.getD k default)).isSome
  ·simp(disch:=omega) only[F1,go_sem,simprocAttr];have: (aC.all λp=>(decode p).isSome)=false:=by
    rw[aCB];exact⟨_,eX a,by rw[m];decide⟩
   rw[this];rfl
  ·simp(disch:=omega) only[go_sem,simprocAttr,e1,e3];exact⟨a,mO (p:=λj=>(decode (aC.getD j default)).isSome=true) l m⟩
 have d: (aC.all λp=>(decode p).isSome)=true:=by
  rw[ag6];intro x o;obtain⟨j,g,rfl⟩:=atv o;have:=l j (by omega);rwa[show aC.getD j default=aC[j] by simp[List.getD,g]]at this
 rw[d,anz];clear l d;refine dU aW.length (λk e W=>W=H++[.box (dX aN pv aW) none]/\e 1= .ptr N 0/\e 6= .int .i64 k/\ ∀j,j<k->lk (aW.getD j 0).toNat=true) 0 (by omega) ?_ ?_
 ·simp only[go_sem,simprocAttr,e1];exactλj g=>absurd g (aqQ j)
 clear e1 e3 q;rintro i E e W ⟨rfl,e1,e6,l⟩ n C;simp(disch:=omega) only[bR,F1,go_sem,simprocAttr,afS,e1,e6,g2];refine⟨λq=>?_,λq=>?_⟩
 ·have a:i<aW.length:=by omega
  have o:=(aW.getD i 0).toNat_lt;refine⟨by omega,?_⟩;generalize z: (aW.getD i 0).toNat=c at*;refine uE 72 (.bool (!lk c)) [1,6] rfl rfl ?_ λG=>?_
  ·unfold lk;simp only[R4,go_sem,simprocAttr]
   (repeat' (first|apply And.intro|intro _))
   all_goals(refine akp AV.bool (apk.2 ?_);simp[];try(intros;omega))
  cases m:lk c
  ·simp(disch:=omega) only[F1,go_sem,simprocAttr];have: (aW.map UInt8.toNat).all lk=false:=by
    rw[aCB];exact⟨c,ag2.2 ⟨aW.getD i 0,by rw[show aW.getD i 0=aW[i] by simp[List.getD,a]];exact auL a,z⟩,by rw[m];decide⟩
   rw[this]
  ·simp(disch:=omega) only[go_sem,simprocAttr,e1,e6];exact⟨a,mO (p:=λj=>lk (aW.getD j 0).toNat=true) l (by rw[z,m])⟩
 ·have d: (aW.map UInt8.toNat).all lk=true:=by
    rw[ag6];intro x o;obtain⟨y,B,rfl⟩:=ag2.1 o;obtain⟨j,g,rfl⟩:=atv B;have:=l j (by omega);rwa[show aW.getD j 0=aW[j] by simp[List.getD,g]]at this
  rw[d]
end
theorem ann(k:Nat): ∀t:List (Nat×lB×Nat),dR (.int .u8 k) (qI t)=some ((t.find? λx=>decide (k=x.1)).map λx=>.fn (.func x.2.2) [] [])
 | []=>rfl
 |a::t=>by
  have b:=ann k t;show dR (.int .u8 k) ((.int .u8 a.1,.fn (.func a.2.2) [] [])::qI t)=_;rw[Mv,List.find?_cons]
  grind
def ano{X:Ctx}{t:List (Nat×lB×Nat)}{g:Nat}(h:X.fa g=some (qI t))(k:Nat)(E:AS)(a:Bool):
  gQ X.fa E .int .cJ (.iY g) (.int .u8 k) a=some (match(t.find? λx=>decide (k=x.1)).map λx=>x.2.2 with|some f=>if a then .au [.fn (.func f) [] [],.bool true]else .fn (.func f) [] []|none=>if a then .au [.cJ,.bool false]else .cJ):=by
 have e:gQ X.fa E .int .cJ (.iY g) (.int .u8 k) a=match X.fa g with
  |some es=>(match dR (.int .u8 k) es with|some (some v)=>some (if a then .au [v,.bool true]else v)|some none=>some (if a then .au [.cJ,.bool false]else .cJ)|none=>none)
  |none=>none:=rfl
 rw[e,h];dsimp only;rw[ann];cases t.find? λx=>decide (k=x.1)<;>rfl
def aA6{t:List (Nat×lB×Nat)}{n:Nat}(h:t.all (λx=>decide (x.1<n))=true)(a:n<=k): (t.find? λx=>decide (k=x.1))=none:=by grind
def aA7(a:Nat): ((xd.find? λx=>decide (a=x.1)).map λx=>x.2.2)=rI a:=by
 by_cases h:a<23
 ·have: ∀i:Fin 23,((xd.find? λx=>decide (i.1=x.1)).map λx=>x.2.2)=rI i.1:=by decide
  exact this ⟨a,h⟩
 ·match a,h with
  |n+23,_=>rfl
def aA8(k:Nat): ((xc.find? λx=>decide (k=x.1)).map λx=>x.2.2)=xS k:=by
 by_cases h:k<3
 ·have: ∀i:Fin 3,((xc.find? λx=>decide (i.1=x.1)).map λx=>x.2.2)=xS i.1:=by decide
  exact this ⟨k,h⟩
 ·rw[aA6 (n:=3) (by rfl) (by omega)];unfold xS
  grind
theorem xT(a:Nat):l8 a:=λE=>by
 rw[ano (X:=XA) (t:=xd) rfl,aA7]
 grind
theorem CR:WX:=⟨λE=>rfl,λk ok E=>by
 rw[ano (X:=XC) (t:=xc) rfl,aA8]
 grind⟩
structure z6(x y:cA):Prop where
 ok:vS y
 may:ug y=true
 eJ:0<=y.eJ/\y.eJ<=100
 order:y.order=x.order
def aA9{x y:cA}(c:y.kind=x.kind)(b:y.order=x.order)(a:y.every=x.every):ug y=ug x:=by
 unfold ug;grind
theorem aBa(s:Nat):vU s<18446744073709551616:=aoG _ (by decide)
def aBb(y:cA)(l:lN): (fS y l).1.kind=y.kind/\ (fS y l).1.order=y.order/\ (fS y l).1.every=y.every/\ ((fS y l).1.fJ=y.fJ\/ (fS y l).1.fJ=vU y.fJ):=by
 unfold fS
 grind
def z6.next{x y:cA}(h:z6 x y)(m:bb):z6 x (fT y m).1:=by
 unfold fT;split
 ·exact⟨⟨h.ok.kind,h.ok.order,h.ok.fJ,h.ok.every,h.ok.last,by simp⟩,h.may,by simp,h.order⟩
 split
 ·exact h
 ·rename_i b;have f:=h.eJ;have g:=W5 (x:=y) b λt a=>(Nh a).1
  obtain⟨s1,s2,c,d⟩:=aBb y (dQ m);generalize fS y (dQ m)=z at*;refine⟨⟨by rw[s1];exact h.ok.kind,λt a=>h.ok.order t (s2 ▸ a),?_,by rw[c];exact h.ok.every,by grind,by grind⟩,?_,by grind,s2.trans h.order⟩
  ·show z.1.fJ<_;rcases d with e|e
   ·rw[e];exact h.ok.fJ
   ·rw[e];exact aBa _
  ·exact(aA9 s1 s2 c).trans h.may
def aBc(x:cA)(m:bb): (fT x m).2.2=(decide (m.az.Q≠[])||decide (dQ m≠[])):=by
 unfold fT
 grind
def aBd{x:cA}(h: (fT x m).2.2=true): (fT x m).2.1<256/\ ((fT x m).2.1≠8->oF m (fT x m).2.1=true)/\ (gy m (fT x m).2.1).2=0:=by
 unfold fT at h⊢;by_cases j:m.az.Q≠[]/\ ((0<x.every/\x.every<=x.eJ)\/dQ m=[])
 ·rw[afl j];refine⟨by simp,λq=>absurd rfl q,?_⟩;unfold gy iQ
  grind
 ·rw[afi j]at h⊢;by_cases d:dQ m=[]
  ·grind
  ·rw[afi d];have hm: ∀t∈dQ m,t<8/\oF m t=true:=λt f=>Nh f
   have a:=W5 (x:=x) d λt f=>(hm t f).1
   have c:oF m (fS x (dQ m)).2=true:=by
    suffices l: (fS x (dQ m)).2∈dQ m from(hm _ l).2
    have i:0< (dQ m).length:=aoX.2 d;unfold fS;split
    ·have a:=W4 (λt=>decide (x.last<=t)) (dQ m);refine eX ?_;rcases a with a|a
     ·omega
     ·exact absurd a.1 d
    split
    ·show vT _ _∈_;unfold vT;cases g:x.order.find? λt=>(dQ m).any λy=>decide (t=y)with
     |none=>exact eX i
     |some t=>
      have g:=List.find?_some g;obtain⟨y,k,e⟩:=List.any_eq_true.1 g;have e:=at1 e;subst e;exact k
    ·exact eX (aoG _ i)
   generalize(fS x (dQ m)).2=b at*;refine⟨by show b<256;omega,λ_=>c,?_⟩;show(gy m b).2=0;have n:p9 m (b % 8)=true:=by
    rw[ao0 a];unfold oF at c;simp only[aiq]at c;exact c.1.2
   unfold gy
   grind
theorem be0: (false==false)=true:=rfl
theorem be1: (true==true)=true:=rfl
def anq{n:Nat}{E:AS}(h:v.refs<=n): (finish n lo v E).1=v:=by
 obtain⟨W,l⟩:=E;cases l with
 |none=>rw[AG,afl h]
 |some j=>
  rw[DG,afl h]
  grind
def bB.low{n:Nat}{W:List ae}(a:bB n M p q m qv ev aB aJ W){cs:lA}(b:W[i]?=some (.box cs tg))(c:i<n)(o:ae):bB n M p q m qv ev aB aJ (W.set i o):=by
 have f:=a.nM;have e:=a.co.mp;have d:=a.co.mq;exact a.other b (by omega) (by omega) (by omega) o
section
variable{aN:Int}{aC:List lB}{aW:lB}{pv:AV}(h:Nk aN aC aW pv)(x:cA)(hx:vS x)(ov:AV)(vW:Rv ov 1 (x.order.map uC))
include h hx vW
theorem aBf: ∀y:cA,aG (a0 y ov)=0:=λy=>by
 have:=cM vW (bA (λ_=>rfl) _);simp[a0,aG,AV.refs,this]
def Nl(aC:List lB)(aW:lB)(x:cA):Bool:=GU aC aW||decide (100<x.order.length)
theorem aBg(H:List ae)(lo:oN):D X0 (.fn (.func PH) [] []) [.agg (dX aN pv aW),.agg (a0 x ov)] ⟨H,lo⟩=some (.ret (.bool (Nl aC aW x)) ⟨H,lo⟩):=by
 refine aF KK λN e=>?_
 have c: (dX aN pv aW).length=3:=rfl;have b:List.take 3 (dX aN pv aW)=dX aN pv aW:=rfl;have g1: (a0 x ov)[1]?=some ov:=rfl;have e1:decide ((x.order.length:Int)>100)=decide (100<x.order.length):=ahb.2 (by omega);have f: ∀E,fj E .sl ov=some (.int .i64 x.order.length):=λE=>vW.bK
 have a:=aA3 h;unfold Nl;cases d:GU aC aW
 ·rw[d]at a;simp only[F1,go_sem,simprocAttr,KK,e,a,c,b,e1,g1,f]
 ·rw[d]at a;simp only[F1,go_sem,simprocAttr,KK,e,a,c,b]
omit h in
theorem aBh(H:List ae)(lo:oN):D X0 (.fn (.func PI) [] []) [.agg (a0 x ov)] ⟨H,lo⟩=some (.ret (.agg (a0 {x with last:=0,eJ:=0} ov)) ⟨H,lo⟩):=by
 refine aF Rh λN g=>?_
 have a:=cM vW (bA (λ_=>rfl) _);have c: ∀y:cA,aG (a0 y ov)=0:=λy=>by simp[a0,aG,AV.refs,a]
 have f: ∀ (y:cA),aH (a0 y ov) 4 [.int .u8 0]=a0 {y with last:=0} ov:=λ_=>rfl
 have e: ∀ (y:cA),aH (a0 y ov) 5 [.int .i64 0]=a0 {y with eJ:=0} ov:=λ_=>rfl
 have d: ∀y:cA,(a0 y ov).length=6:=λ_=>rfl
 have b: ∀y:cA,List.take 6 (a0 y ov)=a0 y ov:=λ_=>rfl
 simp(disch:=omega) only[F1,go_sem,simprocAttr,Rh,g,c,f,e,d,b,anx,amy]
theorem aBi(hw: ∀H lo,∃E,D XC (.fn (.func AT) [] []) [] ⟨H,lo⟩=some (.ret (.bool true) E))(c:Nat)(VT:c<65536)(H:List ae)(lo:oN):
  ∃cr,D XC (.fn (.func PA) [] []) [.agg (dX aN pv aW),.agg (a0 x ov),.int .u16 c] ⟨H,lo⟩=some cr/\ ∃E,cr= .ret (.bool true) E:=by
 refine cz BL λN V=>?_
 have hr:=aA1 h;have G:=aBf h x hx ov vW;have hl: (dX aN pv aW).length=3:=rfl;have ht:List.take 3 (dX aN pv aW)=dX aN pv aW:=rfl;have o: ∀y:cA,(a0 y ov).length=6:=λ_=>rfl
 have l: ∀y:cA,List.take 6 (a0 y ov)=a0 y ov:=λ_=>rfl
 have s:=λH lo=>c0 (aBg h x hx ov vW H lo)
 have I:=λH lo=>WY CR x hx ov vW H lo
 have d: ∀E:AS,∃E',aS.ret (finish N lo (.bool true) E).1 (finish N lo (.bool true) E).2= .ret (.bool true) E':=λE=>⟨_,by rw[anq (agS _)]⟩
 obtain⟨B,F⟩:=hw (H++[.box (dX aN pv aW) none,.box (a0 x ov) none]) none;obtain⟨g,U⟩: ∃g,g=Nl aC aW x:=⟨_,rfl⟩;rw[<-U]at s;obtain⟨mm,NT⟩: ∃g,g=ug x:=⟨_,rfl⟩;rw[<-NT]at I;cases g with
 |true=>
  simp(disch:=omega) only[go_sem,simprocAttr,BL,V,hl,ht,o,l,s,F];exact d B
 |false=>
  have K:vV aC aW=false/\aW.length<=1500/\x.order.length<=100:=by
   unfold Nl GU at U;have U:=U.symm;simp only[Bool.or_eq_false_iff,decide_eq_false_iff_not]at U;exact⟨U.1.1,by omega,by omega⟩
  have w:=λH lo=>c0 (aA5 h K.1 H lo)
  obtain⟨sm,a⟩: ∃g,g=nu ⟨aN,aC,aW.map UInt8.toNat⟩:=⟨_,rfl⟩;rw[<-a]at w;cases sm with
  |false=>
   simp(disch:=omega) only[go_sem,simprocAttr,BL,V,hl,ht,o,l,s,w,F];exact d B
  |true=>
   cases mm with
   |false=>
    simp(disch:=omega) only[go_sem,simprocAttr,BL,V,hl,ht,o,l,s,w,I,F];exact d B
   |true=>
    clear F B;obtain⟨kv,o1,o2⟩:=aA4 h K.1 (H++[.box (dX aN pv aW) none,.box (a0 x ov) none]) none;have o1:=c0 o1;have Wt: ∃n:Nat,aN=n:=⟨aN.toNat,by unfold nu at a;have a:=a.symm;simp at a;omega⟩;obtain⟨n,rfl⟩:=Wt;obtain⟨cr,r1,M,p,q,qv,ev,aB,aJ,ov2,H1,VJ,rfl,r2,r3,r4,r5⟩:=aAD xT o2 a.symm (N+2) (H++[.box (dX n pv aW) none,.box (a0 x ov) none]) (by simp[V]) none;have W7:ea EK.ptr (AV.ptr M 0) AV.dY=some false:=rfl;have R:H1[N+1]?=some (.box (a0 x ov) none):=by rw[r5 (N+1) (by omega),bz V];rfl
    have hz:=λH lo=>c0 (aBh x hx ov vW H lo)
    have C:aH (a0 x ov) 0 (a0 {x with last:=0,eJ:=0} ov)=a0 {x with last:=0,eJ:=0} ov:=rfl;simp(disch:=omega) only[go_sem,simprocAttr,BL,V,G,hl,ht,o,l,s,w,I,o1,r1,W7,R,hz,C];have r:1<=n/\n<=64/\aW.length<=4000:=by unfold nu at a;have a:=a.symm;simp at a;omega
    obtain⟨k1,k2⟩:=Ng ⟨r.1,r.2.1⟩ aC r.2.2 aW.length (agW _);have k3:=ani ⟨r.1,r.2.1⟩ aC r.2.2 aW.length (agW _);rw[am3]at k1 k2 k3;have hpi:z6 x {x with last:=0,eJ:=0}:=⟨⟨hx.kind,hx.order,hx.fJ,hx.every,by show 0<256;omega,by show-9223372036854775808<=(0:Int)/\ (0:Int)<9223372036854775808;omega⟩,NT.symm,by show(0:Int)<=0/\ (0:Int)<=100;omega,rfl⟩;have tm: (c:Int).tmod 400=((c % 400:Nat):Int):=by rw[arM (by omega)];omega
    refine gS (c % 400) (λk e W ak=> ∃m qv ev aB aJ y,e 2= .int .u16 c/\e 4= .ptr (N+1) 0/\e 7= .ptr M 0/\e 10= .int .i64 k/\bB (N+2) M p q m qv ev aB aJ W/\qm m/\mX m/\m.now<=1500+k/\z6 x y/\W[N+1]?=some (.box (a0 y ov) none)) 0 (by omega) ?_ ?_
    ·refine⟨_,qv,ev,aB,aJ,_,rfl,rfl,rfl,rfl,r2.low R (by omega) _,k1,k3,by omega,hpi,cN R⟩
    clear r1 r2 r3 r4 r5 R k1 k2 k3 hpi qv ev aB aJ o1 o2 s w I hz;rintro k hk e W ak ⟨m,qv,ev,aB,aJ,y,e2,e4,e7,e10,hA,X,hR,aD7,hP,R⟩ nn hn;simp(disch:=omega) only[bR,go_sem,simprocAttr,afR,e2,e4,e10,tm];refine⟨λhh=>?_,λhh=>?_⟩
    ·have UY:k<c % 400:=by omega
     have hQ:=X.q;have hRr: ∀i,(m.aA i).c.aT.length<1073741824:=λi=>by have:=hR i;unfold jt at this;omega
     have Q:=Nj xT CR hA X.ok hRr (by omega) y hP.ok hP.may hP.eJ ov (by rw[hP.order];exact vW) ak;have hz1:=hP.next m;have hz2:=aBc y m;have hz3:=λh=>aBd (x:=y) (m:=m) h
     generalize fT y m=z at*;obtain⟨u,b,is⟩:=z;dsimp only at Q hz1 hz2 hz3;have T:=hA.app [.box (a0 u ov) none];obtain⟨cv,c1,c2⟩:=am7 T (by omega) ak;have g8: (cw m.az q cv)[1273]?=some cv:=MX;simp(disch:=omega) only[go_sem,simprocAttr,e7,R,l,o,G,Q,hn,c1,g8,c2.bK,anx,amy];have ml:=λt lo=>anf xT T X.ok hRr t lo
     have hqq:decide (0< (m.az.Q.length:Int))=decide (m.az.Q≠[]):=ahb.2 (by rw[<-aoX];omega);obtain⟨Y,hS⟩: ∃f:Nat->Bool,∀j,f j=(decide (m.az.Q≠[])||decide (oT m j≠[])):=⟨_,λ_=>rfl⟩;have hS0:decide (0< (m.az.Q.length:Int))=Y 0:=by rw[hqq,hS,show oT m 0=[]from rfl];simp
     have hSs: ∀j,Y (j+1)=(Y j||oF m j):=λj=>by
      rw[hS,hS,ank,Bool.or_assoc];congr 1;cases oF m j<;>cases oT m j<;>simp
     have S:Y 8=is:=by rw[hS];exact hz2.symm
     rw[hS0];refine gS 8 (λj e W2 v=>W2=W++[.box (a0 u ov) none]/\v=ak/\e 2= .int .u16 c/\e 4= .ptr (N+1) 0/\e 7= .ptr M 0/\e 10= .int .i64 k/\e 11= .ptr nn 0/\e 12= .int .u8 b/\e 13= .bool is/\e 14= .int .i64 0/\e 15= .bool (Y j)/\e 16= .int .i64 j) 0 (by omega) ?_ ?_
     ·refine⟨rfl,rfl,?_⟩;simp(disch:=omega) only[go_sem,simprocAttr,e2,e4,e7,e10]
     clear Q c1 c2 g8 cv;rintro j hj e3 W2 v ⟨rfl,rfl,f2,f4,f7,f10,f11,f12,f13,f14,f15,f16⟩ n2 hn2;simp(disch:=omega) only[bR,go_sem,simprocAttr,afQ,f13,f14,f15,f16];refine⟨λhh2=>?_,λhh2=>?_⟩
     ·have hj':j<8:=by omega
      have hs:=hSs j;cases hv:Y j
      ·rw[hv,arK]at hs;rw[hv]at f15;simp(disch:=omega) only[go_sem,simprocAttr,f2,f4,f7,f10,f11,f12,f13,f14,f16,ml,hs];exact hj'
      ·rw[hv,arG]at hs;rw[hv]at f15;simp(disch:=omega) only[go_sem,simprocAttr,f2,f4,f7,f10,f11,f12,f13,f14,f16,hs];exact hj'
     ·obtain rfl:j=8:=by omega
      cases is with
      |false=>
       obtain⟨O,P⟩:=hw (W++[.box (a0 u ov) none]) v;simp(disch:=omega) only[go_sem,simprocAttr,f13,S,be0,P];exact d O
      |true=>
       obtain⟨u1,u2,u3⟩:=hz3 rfl;obtain⟨cr,p1,WJ,ev2,aBo,Z,W3,Ci,rfl,p2,p3,p4⟩:=WR xT T X (by omega) b u1 v;rw[u3]at p1;obtain⟨q1,q2⟩:=WQ X (by omega) b;have q3:=WW X.ok.az.S hR b;have WS: (W++[.box (a0 u ov) none])[N+1]?=some (.box (a0 y ov) none):=bh R;have J:W3[N+1]?=some (.box (a0 y ov) none):=by rw[p3.low (N+1) (by omega)];exact WS
       have hb4:W3[nn]?=some (.box (a0 u ov) none):=p3.own (by
        have:=hA.lt;have:=hA.co.lt;have:=fh hA.co.hY;simp;omega) (dh hn)
       have C:aH (a0 y ov) 0 (a0 u ov)=a0 u ov:=rfl;have A: ∃m' qv' ev' ma aBr y',bB (N+2) M p q m' qv' ev' ma aBr (W3.set (N+1) (.box (a0 u ov) none))/\qm m'/\mX m'/\m'.now<=1500+(k+1)/\z6 x y'/\ (W3.set (N+1) (.box (a0 u ov) none))[N+1]?=some (.box (a0 y' ov) none):=
        ⟨_,WJ,ev2,aBo,Z,u,p2.low J (by omega) _,q1,q3,by omega,hz1,cN J⟩
       by_cases hb8:b=8
       ·subst hb8;have p1:D XC (.fn (.func yA) [] []) [.ptr M 0,.int .u8 8] ⟨W++[.box (a0 u ov) none],v⟩=some (.ret (.int .i64 0) ⟨W3,Ci⟩):=p1;have L: ((8:Nat):Int)=8:=rfl;simp(disch:=omega) only[go_sem,simprocAttr,f2,f4,f7,f10,f11,f12,f13,S,be1,p1,J,hb4,l,o,G,C];exact⟨UY,A⟩
       ·have L: ¬(b:Int)=8:=by omega
        have wc:=λlo=>(ml b lo).trans (by rw[u2 hb8])
        simp(disch:=omega) only[go_sem,simprocAttr,f2,f4,f7,f10,f11,f12,f13,S,be1,L,wc,p1,J,hb4,l,o,G,C];exact⟨UY,A⟩
    ·obtain⟨O,P⟩:=hw W ak;simp(disch:=omega) only[go_sem,simprocAttr,P];exact d O
end
def vX(l:lN)(t:Nat):Nat->Nat
 |0=>0
 |k+1=>if l.getD k default=t then 0 else vX l t k+1
def qn(l:lN)(t:Nat):Nat->Nat
 |0=>0
 |k+1=>max (qn l t k) (vX l t (k+1))
theorem W8(l:lN)(t:Nat): ∀k,vX l t k<=k
 |0=>agW _
 |k+1=>by
  simp only[vX];split
  ·omega
  ·have:=W8 l t k;omega
theorem anB(l:lN)(t:Nat): ∀k,qn l t k<=k
 |0=>agW _
 |k+1=>by
  have:=anB l t k;have:=W8 l t (k+1);simp only[qn];omega
def aBs(v:AV)(l:lN)(f:Rv v 1 (l.map uC))(r:l.length<=1000)(t:Nat)(H:List ae)(lo:oN):D X0 (.fn (.func Iu) [] []) [v,.int .u8 t] ⟨H,lo⟩=some (.ret (.int .i64 (qn l t l.length)) ⟨H,lo⟩):=by
 refine aF Rn λN u=>?_
 simp only[go_sem,simprocAttr,Rn,f.bK];refine dU l.length (λk e H'=>H'=H/\e 1= .int .u8 t/\e 5= .int .i64 (qn l t k)/\e 6= .int .i64 (vX l t k)/\e 9=v/\e 10= .int .i64 l.length/\e 11= .int .i64 k) 0 (by omega) ?_ ?_
 ·trivial
 rintro k s e H' ⟨rfl,i,m,p,g,c,b⟩ n q;have x:=anB l t k;have w:=W8 l t k;simp(disch:=omega) only[bR,F1,go_sem,simprocAttr,af2,m,g,c,b];refine⟨λh=>?_,λh=>?_⟩
 ·have d:k<l.length:=by omega
  simp(disch:=omega) only[bR,go_sem,simprocAttr,f.ck,f.cE,uC,h,i,m,p];refine⟨λo=>?_,λo=>?_⟩
  ·have a:l.getD k default=t:=by omega
   simp(disch:=omega) only[go_sem,simprocAttr,i,g,c,b];have e1:vX l t (k+1)=0:=afl a;have j:qn l t (k+1)=max (qn l t k) 0:=by rw[qn,e1]
   refine⟨d,akp (AV.int .i64) ?_,akp (AV.int .i64) ?_⟩
   ·rw[j];first|omega| (split<;>omega)
   ·rw[e1];rfl
  ·have a: ¬l.getD k default=t:=by omega
   simp(disch:=omega) only[go_sem,simprocAttr,i,g,c,b];have e1:vX l t (k+1)=vX l t k+1:=afi a;have j:qn l t (k+1)=max (qn l t k) (vX l t k+1):=by rw[qn,e1]
   refine⟨d,akp (AV.int .i64) ?_,akp (AV.int .i64) ?_⟩
   ·rw[j];first|omega| (split<;>omega)
   ·rw[e1];omega
 grind
def aBt(x:cA)(i:vS x)(j:ug x=false)(a:AV)(b:Rv a 1 (x.order.map uC))(M:Nat)(H:List ae)(lo:oN):
  D XC (.fn (.func pn) [] []) [.agg (a0 x a),.ptr M 0] ⟨H,lo⟩=some (.ret (.au [.agg (a0 x a),.int .u8 0,.bool false,.int .i64 2]) ⟨H,lo⟩):=by
 refine aF Fa λN k=>?_
 have f:ea EK.ptr (AV.ptr M 0) AV.dY=some false:=rfl;have c:=cM b (bA (λ_=>rfl) _);have e: ∀y:cA,aG (a0 y a)=0:=λy=>by simp[a0,aG,AV.refs,c]
 have h: ∀H lo,D XC (.fn (.func yz) [] []) [.agg (a0 x a)] ⟨H,lo⟩=some (.ret (.bool false) ⟨H,lo⟩):=λH lo=>by rw[WY CR x i a b,j]
 have g: ∀y:cA,(a0 y a).length=6:=λ_=>rfl
 have d: ∀y:cA,List.take 6 (a0 y a)=a0 y a:=λ_=>rfl
 simp only[F1,go_sem,simprocAttr,Fa,k,f,h,e,g,d,anx,amy]
def CT:lB:=[1,6,0,0,2,0,38,0,0,0,0,0]
def kJ:Nat->bb
 |0=>fz 2 [CT] 1
 |k+1=>(gy (kJ k) 0).1
def GV:cA:=⟨0,[],0,0,0,0⟩
def CU:cA:=(fT GV (kJ 3)).1
def CV:cA:=(fT CU (kJ 3)).1
def aBu:cA:=(fT CV (kJ 3)).1
theorem aBv: (gy (kJ 0) 0).2=0:=by rfl
theorem aBw: (gy (kJ 1) 0).2=0:=by rfl
theorem aBx: (gy (kJ 2) 0).2=0:=by rfl
theorem aBy: (fT GV (kJ 3)).2=(0,true):=by rfl
theorem aBz: (fT CU (kJ 3)).2=(2,true):=by rfl
theorem aBA: (fT CV (kJ 3)).2=(0,true):=by rfl
theorem Nm:z6 GV GV:=⟨⟨by decide,λt h=>(by cases h),by decide,by decide,by decide,by decide⟩,by rfl,by decide,rfl⟩
theorem anC: ∀k,k<=3->qm (kJ k)/\mX (kJ k)/\ (kJ k).now<=k
 |0,_=>⟨am1 ⟨by decide,by decide⟩ _ _,anh _ _ _,agW 0⟩
 |k+1,d=>by
  obtain⟨a,c,f⟩:=anC k (by omega);obtain⟨b,e⟩:=WQ a (by omega) 0;exact⟨b,WW a.ok.az.S c 0,by show(gy _ 0).1.now<=_;omega⟩
theorem aBB:nu ⟨2,[CT],List.map UInt8.toNat []⟩=true:=by rfl
def aBC(H:List ae)(lo:oN): ∃E,D XC (.fn (.func AT) [] []) [] ⟨H,lo⟩=some (.ret (.bool true) E):=by
 suffices T: ∃d,D XC (.fn (.func AT) [] []) [] ⟨H,lo⟩=some d/\ (λd=> ∃E,d= .ret (.bool true) E) d by
  obtain⟨d,h,E,rfl⟩:=T;exact⟨E,h⟩
 refine cz Rg λN C=>?_
 have s:GK 2 [CT] [] (.sl [[S CT]] true) .ai:=⟨.sl (λel h=>by rw[agV.1 h];rfl),.ai,by decide,by decide⟩;obtain⟨d,p,aB,P,rfl,O,n3⟩:=amY (n:=2) s aBB N H C none;have c:=am2 (n:=2) (aC:=[CT]) (pv:=.sl [[S CT]] true) (kv:=.ai) (H:=H) C O;have p:D XC (.fn (.func DR) [] []) [.agg [.int .i64 2,.sl [[S [1,6,0,0,2,0,38,0,0,0,0,0]]] true,.ai]] ⟨H,none⟩=_:=p;have v:ea EK.ptr (AV.ptr (N+1) 0) AV.dY=some false:=rfl;simp only[go_sem,simprocAttr,Rg,p,v];refine gS 3 (λk e W ak=> ∃qv ev aB aJ,e 1= .ptr (N+1) 0/\e 3= .int .i64 k/\bB N (N+1) (N+3) (N+2) (kJ k) qv ev aB aJ W) 0 (by omega) ?_ ?_
 ·exact⟨.ai,.ai,aB,λ_=>.ai,rfl,rfl,c⟩
 clear c;rintro k V e W ak ⟨qv,ev,aB,aJ,e1,e3,c⟩ nn U;obtain⟨g,Q,k3⟩:=anC k V;simp only[bR,go_sem,simprocAttr,afV,e1,e3];refine⟨λX=>?_,λX=>?_⟩
 ·have j:k<3:=by omega
  obtain⟨d,m,o,B,l,f,Y,q,rfl,M,p3,Z⟩:=WR xT c g (by omega) 0 (by omega) ak;have R: (gy (kJ k) 0).2=0:=by
   match k,j with
   |0,_=>exact aBv
   |1,_=>exact aBw
   |2,_=>exact aBx
  rw[R]at m;have m:D XC (.fn (.func yA) [] []) [.ptr (N+1) 0,.int .u8 0] ⟨W,ak⟩=some (.ret (.int .i64 0) ⟨Y,q⟩):=m;simp(disch:=omega) only[go_sem,simprocAttr,e1,e3,m];exact⟨j,o,B,l,f,M⟩
 ·obtain rfl:k=3:=by omega
  have a:Rv .ai 1 (([]:lN).map uC):=.ai;have hQ:=g.q;have b: ∀i,((kJ 3).aA i).c.aT.length<1073741824:=λi=>by have:=Q i;unfold jt at this;omega
  have u: ∀y:cA,aG (a0 y .ai)=0:=λy=>by simp[a0,aG,AV.refs]
  have w: ∀y:cA,(a0 y .ai).length=6:=λ_=>rfl
  have r: ∀y:cA,List.take 6 (a0 y .ai)=a0 y .ai:=λ_=>rfl
  have i1:=Nm.next (kJ 3);have i2:=i1.next (kJ 3);have K: ∀L lo,D XC (.fn (.func pn) [] []) [.agg [.int .u8 0,.ai,.int .u64 0,.int .i64 0,.int .u8 0,.int .i64 0],.ptr (N+1) 0] ⟨W++L,lo⟩=some (.ret (.au [.agg (a0 CU .ai),.int .u8 0,.bool true,.int .i64 0]) ⟨W++L,lo⟩):=λL lo=>by
   have h:=Nj xT CR (c.app L) g.ok b (by omega) GV Nm.ok Nm.may Nm.eJ .ai a lo;rw[aBy]at h;exact h
  have J: ∀L lo,D XC (.fn (.func pn) [] []) [.agg (a0 CU .ai),.ptr (N+1) 0] ⟨W++L,lo⟩=some (.ret (.au [.agg (a0 CV .ai),.int .u8 2,.bool true,.int .i64 0]) ⟨W++L,lo⟩):=λL lo=>by
   have h:=Nj xT CR (c.app L) g.ok b (by omega) CU i1.ok i1.may i1.eJ .ai (by rw[show CU.order=_ from i1.order];exact a) lo;rw[aBz]at h;exact h
  have I: ∀L lo,D XC (.fn (.func pn) [] []) [.agg (a0 CV .ai),.ptr (N+1) 0] ⟨W++L,lo⟩=some (.ret (.au [.agg (a0 aBu .ai),.int .u8 0,.bool true,.int .i64 0]) ⟨W++L,lo⟩):=λL lo=>by
   have h:=Nj xT CR (c.app L) g.ok b (by omega) CV i2.ok i2.may i2.eJ .ai (by rw[show CV.order=_ from i2.order];exact a) lo;rw[aBA]at h;exact h
  have G: ∀L lo,D XC (.fn (.func pn) [] []) [.agg [.int .u8 3,.ai,.int .u64 0,.int .i64 0,.int .u8 0,.int .i64 0],.ptr (N+1) 0] ⟨W++L,lo⟩=some (.ret (.au [.agg [.int .u8 3,.ai,.int .u64 0,.int .i64 0,.int .u8 0,.int .i64 0],.int .u8 0,.bool false,.int .i64 2]) ⟨W++L,lo⟩):=λL lo=>aBt ⟨3,[],0,0,0,0⟩ ⟨by decide,λt h=>(by cases h),by decide,by decide,by decide,by decide⟩ rfl .ai a (N+1) (W++L) lo
  have A:qn [1,0,1,1,0] 0 [1,0,1,1,0].length=2:=by decide
  have F: ∀H lo,D XC (.fn (.func Iu) [] []) [.sl [[.int .u8 1],[.int .u8 0],[.int .u8 1],[.int .u8 1],[.int .u8 0]] true,.int .u8 0] ⟨H,lo⟩=some (.ret (.int .i64 2) ⟨H,lo⟩):=λH lo=>by
   have h:=aBs (.sl ([1,0,1,1,0].map uC) true) [1,0,1,1,0] (.sl λel h=>by obtain⟨x,_,rfl⟩:=ag2.1 h;rfl) (by decide) 0 H lo;rw[A]at h;exact c0 h
  have z: ∀y:cA,List.drop 6 (a0 y .ai)=[]:=λ_=>rfl
  simp only[go_sem,simprocAttr,e1,U,K,J,I,G,F,u,w,r,anx,amy,z];exact⟨_,by rw[anq (agS _)]⟩
def aBD{b:Int}{a:lB}(h:Nk b aC a pv)(x:cA)(g:vS x)(d:AV)(e:Rv d 1 (x.order.map uC))(c:Nat)(f:c<65536):
  ∃E,D XC (.fn (.func PA) [] []) [.agg (dX b pv a),.agg (a0 x d),.int .u16 c] ⟨[],none⟩=some (.ret (.bool true) E):=by
 obtain⟨j,i,E,rfl⟩:=aBi h x g d e aBC c f [] none
 grind
set_option maxHeartbeats 1000000 in
set_option maxRecDepth 100000 in
def aBE(n:Nat)(f:0<n)(d:n<=1024)(w:World):
  Calls Tryz.prog qM #[.slice none 0 0,.int .i64 n] w λe w'=> ∃cs:Array Value,e= .returned (.slice (some ⟨w.heap.size,0,none⟩) 0 (grownCap w n 0 fe))/\w'=w.drew.alloc (.cells cs fe)/\cs.size=grownCap w n 0 fe*2:=by
 unfold qM
 go_enter Tryz.func192,Tryz.ntmps192
 have c:Tryz.t100.bytes=16:=by kernel_rfl
 have b:Builtin.nextslicecap n 0=n:=by unfold Builtin.nextslicecap;simp;omega
 go_wp2
 all_goals first
  | (exfalso;simp only[c,b]at*;omega)
  | (go_ret;refine⟨rfl,_,rfl,?_⟩;have a:=aAW w n 0 fe;unfold grownCap fe at a⊢;simp only[aCI,aCG,aBn,ag5,aoY];generalize(Question.appendCap n 0 _).cut _=q at*;omega)
set_option maxHeartbeats 1000000 in
set_option maxRecDepth 100000 in
def aBF(w:World):
  Calls Tryz.prog qM #[.slice none 0 0,.int .i64 0] w λe w'=>e= .returned (.slice none 0 0)/\w'=w:=by
 unfold qM
 go_enter Tryz.func192,Tryz.ntmps192
 go_wp2
 all_goals(go_ret;exact⟨rfl,rfl⟩)
def aBG{f:Nat}{fn:Func}(d:Tryz.prog.funcs[f]?=some fn)(g:fn.body.isSome=true)(a: (fn.name== "runtime.NumGoroutine")=false)(args:Array Value)(w:World):
  (callFunc f args).run Tryz.prog w= .ok (.enter f args) w:=by
 have b: ¬fn.name= "runtime.NumGoroutine" :=by grind
 obtain⟨c,e⟩:=atx.1 g;simp[callFunc,arC,d,b,e]
def aBH(B:Nat)(b:World):ga Tryz.prog B b qM CE:=by
 intro args E s h G w a hw i;rw[aBG (f:=qM) (fn:=Tryz.f192) Tryz.func192 (by rfl) (by rfl)];show CallsIn (W none) 0 Tryz.prog _ a w _;rw[ao2];refine callsIn_wide.2 ?_;unfold CE at h;split at h
 ·rename_i n;simp only[aD]at i;obtain⟨v0,q,r,rfl,v1,p,rfl,rfl,rfl⟩:=i;obtain rfl:a= #[.slice none 0 0,.int .i64 n]:=by grind
  split at h
  ·rename_i g;subst g;cases h;refine(aBF w).mono ?_;rintro e w' ⟨rfl,rfl⟩;exact⟨G,G.le_refl,hw,rfl,.refl _⟩
  ·split at h
   ·rename_i g;obtain⟨k,rfl⟩: ∃k:Nat,n=k:=⟨n.toNat,by omega⟩;cases h;refine(aBE k (by omega) (by omega) w).mono ?_;rintro e w' ⟨cs,rfl,rfl,d⟩;obtain⟨m,o,v2,e1,g1,g2,l,j⟩:=Hd hw (sz:=2) (af:=[]) (c:=cs) (vs:=[]) (post:=cs.toList) (w':=w.drew) fe rfl (λel h=>by cases h) rfl (λv h=>by cases h) d (agS _) 0 rfl rfl hw.drew;cases e1;exact⟨m,g1,g2,l,j⟩
   ·cases h
 grind
end Go.Proofs.YteplichagkpciaaGreatDoor
