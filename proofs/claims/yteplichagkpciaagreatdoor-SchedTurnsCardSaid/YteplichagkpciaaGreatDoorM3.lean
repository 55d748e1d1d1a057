/- What functions do; conditions as stated. -/
import Derived.Test.YteplichagkpciaaGreatDoorM2
import Derived.Test.YteplichagkpciaaGreatDoorD2
import Derived.KernelRfl
import Derived.Test.YteplichagkpciaaGreatDoorProg
import Derived.WalkKit
import Derived.Lib.AppendZerosOnto
set_option linter.all false
set_option maxRecDepth 10000
set_option maxHeartbeats 1000000
namespace Go.Proofs.YteplichagkpciaaGreatDoor
open Go Go.Den Go.RowKit
variable{m:aX}{v qv rv pv kv ev:AV}{sz p a b i k q M t e aa j:Nat}{lo:oN}{tg:Option TypeId}{H0:List ae}{Q:Prop}{x y:ar}{r:bE}{α:Type}{c:cp}{aC:List lB}{aB aI:Nat->AV}{l:lN}{f:Nat->Nat}
def are:=@Int.tmod_eq_emod_of_nonneg
def ayP:=@decide_eq_true_iff
def azG:=@List.all_eq_not_any_not
def aDo:=@List.all_eq_false
def aDt:=@Bool.not_eq_false
def cz(x:Core)(q:Nat)(qv:AV):lA:=bz x.S++([.ptr q 0]++(cI x.M++[qv]))
section
variable{x:Core}{q:Nat}{qv:AV}
def Ng: (cz x q qv).length=1274:=by simp only[cz,ahc,eU,dW];rfl
def alo:aG (cz x q qv)=max (q+1) qv.refs:=by
 simp only[cz,F7,ox,jS];simp[aG,AV.refs]
def alp:Den.part true 952 (cz x q qv) 0=some (.agg (bz x.S)):=by exact xi (eU _) (by omega)
def Wx{ag:Bool}{m o:Nat}(ho:952<=o):Den.part ag m (cz x q qv) o=Den.part ag m ([.ptr q 0]++(cI x.M++[qv])) (o-952):=by
 unfold cz;rw[kh (by rw[eU];exact ho),eU]
def alq:Den.part false 1 (cz x q qv) 952=some (.ptr q 0):=by rw[Wx (by omega)];rfl
def alr:Den.part true 320 (cz x q qv) 953=some (.agg (cI x.M)):=by
 rw[Wx (by omega),kh (by simp)];exact xi (dW _) (by omega)
def Wy:Den.part false 1 (cz x q qv) 1273=some qv:=by
 rw[Wx (by omega),kh (by simp),kh (by rw[dW];simp),dW];rfl
def als{s:bG}:aH (cz x q qv) 0 (bz s)=cz {x with S:=s} q qv:=by
 unfold cz;rw[ri (by rw[eU,eU];omega),rj (by rw[eU,eU])]
def alu{m:Marks}:aH (cz x q qv) 953 (cI m)=cz {x with M:=m} q qv:=by
 unfold cz;rw[gr (by rw[eU];omega),eU,gr (by simp),ri (by rw[dW];simp[dW])];have:953-952- [AV.ptr q 0].length=0:=rfl;rw[this,rj (by rw[dW,dW])]
def alv:aH (cz x q qv) 1273 [v]=cz x q v:=by
 unfold cz;rw[gr (by rw[eU];omega),eU,gr (by simp),gr (by rw[dW];simp),dW];rfl
theorem aD7{P:cN}:cz {x with P:=P} q qv=cz x q qv:=rfl
theorem ayv{Q:lN}:cz {x with Q:=Q} q qv=cz x q qv:=rfl
theorem Wz: (cz x q qv)[1273]?=some qv:=Wy
def KL:=gG @alp<|gG @alq<|gG @alr<|gG @Wy @Wz
def KS:=gG @als<|gG @alu<|gG @alv @Ng
end
def cW(N:Nat)(H:List ae)(v:AV)(sz:Nat)(ty:TypeId)(af:List lA):Prop:=
 (∀el∈af,el.length=sz)/\ ((v= .ai/\af=[])\/ ∃id aj off all,N<=id/\v= .ref id aj sz off af.length false/\H[id]?=some (.row aj sz ty all)/\off+af.length<=all.length/\ (all.drop off).take af.length=af)
theorem cW.ai{N:Nat}{H:List ae}{ty:TypeId}:cW N H .ai sz ty []:=⟨by simp,.inl ⟨rfl,rfl⟩⟩
section
variable{N:Nat}{H H':List ae}{v:AV}{sz:Nat}{ty:TypeId}{af:List lA}
def cW.rd(h:cW N H v sz ty af):Rd ⟨H,lo⟩ v sz af:=by
 obtain⟨b,a⟩:=h;rcases a with⟨rfl,rfl⟩| ⟨id,aj,off,all,d,rfl,hr,e,c⟩
 ·exact .ai
 ·refine⟨trivial,?_,b⟩;simp only[elems,hr,aBV]
  grind
def cW.nX(h:cW N H v sz ty af)(b: ∀ (id aj:Nat) (all:List lA),H[id]?=some (ae.row aj sz ty all)->H'[id]?=some (ae.row aj sz ty all)):cW N H' v sz ty af:=by
 obtain⟨a,c⟩:=h;refine⟨a,?_⟩
 grind
theorem cW.app(h:cW N H v sz ty af)(L:List ae):cW N (H++L) v sz ty af:=h.nX λ_ _ _ hr=>bc hr
theorem cW.set(h:cW N H v sz ty af){cs:lA}(a:H[p]?=some (.box cs tg))(o:ae):cW N (H.set p o) v sz ty af:=h.nX λid _ _ hr=>by grind
theorem cW.take{n:Nat}{a:List lA}(h:cW N H v sz ty af)(e:cW N H0 v sz ty a)(j:H0.length=n):cW N (H.take n) v sz ty af:=by
 obtain⟨d,b⟩:=h;refine⟨d,?_⟩;rcases b with b| ⟨id,aj,off,all,l,g,hr,k,i⟩
 ·grind
 ·rcases e.2 with⟨q,_⟩| ⟨c,_,_,_,_,q,f,_⟩
  ·grind
  grind
def cW.tail{a:lA}{bytes:Nat}(h:cW N H v sz ty (a::af)): ∃w,fX sz v (some (.int .i64 1)) none none=some w/\cW N H w sz ty af/\w.cb=false/\w.cells=[w]/\w.refs=v.refs:=by
 obtain⟨g,c⟩:=h;rcases c with⟨_,c⟩| ⟨id,aj,off,all,e,rfl,hr,j,i⟩
 ·grind
 ·refine⟨.ref id aj sz (off+1) af.length false,?_,⟨λel d=>g el (aiF _ d),.inr ⟨id,aj,off+1,all,e,rfl,hr,by grind,?_⟩⟩,rfl,rfl,rfl⟩
  ·have f:fW (a::af).length (some (.int .i64 1)) none=some (1,af.length+1):=by
     have: (1:Int)<=af.length+1:=by omega
     simp[fW,lK,this]
   simp only[fX,f,lL]
   grind
  ·have: (all.drop off).take (af.length+1)=a::af:=by omega
   have c:all.drop (off+1)=(all.drop off).drop 1:=by simp
   rw[c];generalize all.drop off=l at this;cases l with
   |nil=>grind
   |cons b l=>grind
def cW.append{bytes:Nat}{y:lA}(h:cW N H v sz ty af)(s:N<=H.length)(j:0<sz)(u:y.length=sz)(l:aG y=0)(r: (af.length+1)*bytes<=room):
  ∃v' H',dx ⟨H,lo⟩ ty sz bytes v [y]=some (v',⟨H',lo⟩)/\cW N H' v' sz ty (af++[y])/\H.length<=H'.length/\ (∀i,i<N->H'[i]?=H[i]?)/\ (∀ (i:Nat) (o:ae),(∀a d,o≠ae.row a sz ty d)->H[i]?=some o->H'[i]?=some o)/\v'.cb=false/\v'.cells=[v']/\N<v'.refs:=by
 have f:0<sz/\ [y].all (λel=>el.length==sz)=true:=⟨j,by grind⟩;obtain⟨z,t⟩:=h;have g: ∀el∈af++[y],el.length=sz:=by grind
 rcases t with⟨rfl,rfl⟩| ⟨id,aj,off,all,n,rfl,b,w,k⟩
 ·refine⟨.ref H.length 0 sz 0 1 false,H++[.row 0 sz ty [y]],?_,⟨g,.inr ⟨H.length,0,0,[y],s,rfl,by simp,by simp,by simp⟩⟩,by simp,λi p=>aeT (by omega),λi o _ ho=>bc ho,rfl,rfl,by simp only[AV.refs];omega⟩;unfold dx;rw[afJ f];simp only[ar6];rw[afB (by omega),afJ (by omega)];rfl
 ·have c:=eY b;refine⟨.ref id (aj+1) sz 0 (af.length+1) false,H.set id (.row (aj+1) sz ty (af++[y])),?_,⟨g,.inr ⟨id,aj+1,0,af++[y],n,by simp,by simp[c],by simp,ag8 (by simp)⟩⟩,by simp,λi p=>aeR (by omega),λi o ho e=>?_,rfl,rfl,by simp only[AV.refs];omega⟩
  ·unfold dx;rw[afJ f];simp only[b,ar6];rw[afJ ⟨trivial,trivial,trivial,trivial,by omega,r⟩,afB (by omega)];have:b8 [y]=0:=by simp[b8,l]
   simp[AS.set,this,k]
  ·rw[aeR];exact e;rintro rfl;rw[b]at e;cases e;exact ho _ _ rfl
end
def Mu(o:ae):Prop:= ∃a d,o= .row a 1 my d
structure Fq(m:Nat)(S:lN)(H H':List ae):Prop where
 len:H.length<=H'.length
 low: ∀i,i<m->H'[i]?=H[i]?
 box: ∀i o,i∉S-> ¬Mu o->H[i]?=some o->H'[i]?=some o
section
variable{m:Nat}{S T:lN}{A B C H W:List ae}
theorem Fq.refl:Fq m S A A:=⟨ahd _,λ_ _=>rfl,λ_ _ _ _ h=>h⟩
theorem Fq.trans(h:Fq m S A B)(g:Fq m S B C):Fq m S A C:=⟨akH h.len g.len,λi a=>(g.low i a).trans (h.low i a),λi o a ho b=>g.box i o a ho (h.box i o a ho b)⟩
theorem Fq.mono(h:Fq m S A B)(a: ∀i∈S,i∈T):Fq m T A B:=⟨h.len,h.low,λi o b ho c=>h.box i o (λq=>b (a i q)) ho c⟩
theorem Fq.set(b:p∈S)(c:m<=p)(o:ae):Fq m S A (A.set p o):=⟨by simp,λi a=>aeR (by omega),λi w a _ h=>by grind⟩
theorem Fq.app(L:List ae)(a:m<=A.length):Fq m S A (A++L):=⟨by simp,λi b=>aeT (by omega),λi o _ _ h=>bc h⟩
theorem Fq.pre{L:List ae}(h:Fq m S (H++L) W)(a:m<=H.length):Fq m S H W:=(Fq.app L a).trans h
theorem Fq.take{N:Nat}(h:Fq m S A B)(d:A.length=N)(c:m<=N):Fq m S A (B.take N):=⟨by rw[ai1];have:=h.len;omega,λi a=>by rw[aiX (by omega)];exact h.low i a,λi o a ho b=>by
 have:=eY b;rw[aiX (by omega)];exact h.box i o a ho b⟩
theorem Fq.own{cs:lA}(h:Fq m S A B)(b:p∉S)(c:A[p]?=some (.box cs tg)):B[p]?=some (.box cs tg):=h.box p _ b (λq=>by obtain⟨a,d,q⟩:=q;cases q) c
end
def ew(Q:Prop)(B:Nat)(H H':List ae)(lo ak:oN):Prop:=(ak=lo/\H'.length=H.length/\Q)\/ ∃j,j<=B/\ak=cA lo j
def alw:cA (cA lo a) b=cA lo (min a b):=by
 cases lo with
 |none=>exact akG some (Nat.min_comm b a)
 |some c=>show some (min b (min a c))=some (min (min a b) c);grind
def ew.trans{e d:Prop}{B:Nat}{H i f:List ae}{b a:oN}(l:e->d->Q)(h:ew e B H i lo b)(g:ew d B i f b a):ew Q B H f lo a:=by
 rcases h with⟨rfl,p,o⟩| ⟨j,n,rfl⟩
 ·rcases g with⟨rfl,g1,g2⟩| ⟨k,c,rfl⟩
  ·exact .inl ⟨rfl,by omega,l o g2⟩
  ·exact .inr ⟨k,c,rfl⟩
 ·rcases g with⟨rfl,_,_⟩| ⟨k,c,rfl⟩
  ·exact .inr ⟨j,n,rfl⟩
  ·exact .inr ⟨min j k,by omega,alw⟩
theorem ew.same{B:Nat}{H:List ae}(h:Q):ew Q B H H lo lo:=.inl ⟨rfl,rfl,h⟩
def ew.imp{R:Prop}{B d:Nat}{H H':List ae}{ak:oN}(h:ew Q B H H' lo ak)(f:Q->R)(i:B<=d):ew R d H H' lo ak:=by
 rcases h with⟨a,b,c⟩| ⟨j,g,e⟩
 ·exact .inl ⟨a,b,f c⟩
 ·exact .inr ⟨j,by omega,e⟩
section
variable{m N B:Nat}{S:lN}{H L W H2:List ae}{lo jB:oN}{Q:Prop}{v:AV}
def Nh(h:H.length=N)(k:B<N)(e:m<=N)(i:Fq m S (H++L) W)(f:ew Q B (H++L) W none jB)(d:v.refs<=N):
  ∃H2 a,finish N lo v ⟨W,jB⟩=(v,⟨H2,a⟩)/\Fq m S H H2/\ew Q B H H2 lo a/\ (H2=W\/ (H2=W.take N/\Q)):=by
 have b:=i.pre (by omega);rcases f with⟨rfl,l,c⟩| ⟨j,g,rfl⟩
 ·refine⟨W.take N,lo,iU (.inl rfl) d,b.take h e,.inl ⟨rfl,?_,c⟩,.inr ⟨rfl,c⟩⟩
  grind
 ·refine⟨W,cA lo j,?_,b,.inr ⟨j,g,rfl⟩,.inl rfl⟩;have:cA none j=some j:=rfl;exact vS (by omega)
def Ni{o:ae}(h:H2=W\/ (H2=W.take N/\Q))(b:i<N)(a:W[i]?=some o):H2[i]?=some o:=by grind
def cW.oR{n:Nat}{ty:TypeId}{v v':AV}{af a:List lA}(h:cW n W v' sz ty af)(c:H2=W\/ (H2=W.take N/\Q))(b:Q->v'=v)(e:cW n H v sz ty a)(d:H.length=N):cW n H2 v' sz ty af:=by
 rcases c with rfl| ⟨rfl,q⟩
 ·exact h
 ·have:=b q;subst this;exact h.take e d
end
structure dw(m p q:Nat)(x:Core)(qv:AV)(H:List ae):Prop where
 mp:m<=p
 mq:m<=q
 qp:q<p
 box:H[p]?=some (.box (cz x q qv) none)
 hZ:H[q]?=some (.box (ca x.P) none)
 iA:cW (p+1) H qv 1 my (x.Q.map iY)
section
variable{m p q:Nat}{x:Core}{qv:AV}{H:List ae}
theorem dw.lt(h:dw m p q x qv H):p<H.length:=eY h.box
theorem dw.app(h:dw m p q x qv H)(L:List ae):dw m p q x qv (H++L):=⟨h.mp,h.mq,h.qp,bc h.box,bc h.hZ,h.iA.app L⟩
theorem dw.set(h:dw m p q x qv H){cs:lA}(c:H[i]?=some (.box cs tg))(b:i≠p)(a:i≠q)(o:ae):dw m p q x qv (H.set i o):=
 ⟨h.mp,h.mq,h.qp,(aeR b).trans h.box,(aeR a).trans h.hZ,h.iA.set c o⟩
theorem dw.oR{W H2:List ae}{N:Nat}{a:AV}{d:Core}(h:dw m p q x qv W)(b:H2=W\/ (H2=W.take N/\Q))(e:Q->qv=a)(c:dw m p q d a H0)(f:H0.length=N):dw m p q x qv H2:=
 have g:=c.lt
 ⟨h.mp,h.mq,h.qp,Ni b (by omega) h.box,Ni b (by have:=h.qp;omega) h.hZ,cW.oR h.iA b e c.iA f⟩
theorem dw.alx(h:dw m p q x qv H)(M:Marks):dw m p q {x with M:=M} qv (H.set p (.box (cz {x with M:=M} q qv) none)):=
 ⟨h.mp,h.mq,h.qp,cG h.box,(aeR (by have:=h.qp;omega)).trans h.hZ,h.iA.set h.box _⟩
theorem dw.aly(h:dw m p q x qv H)(s:bG):dw m p q {x with S:=s} qv (H.set p (.box (cz {x with S:=s} q qv) none)):=
 ⟨h.mp,h.mq,h.qp,cG h.box,(aeR (by have:=h.qp;omega)).trans h.hZ,h.iA.set h.box _⟩
theorem dw.GN(h:dw m p q x qv H)(P:cN):dw m p q {x with P:=P} qv (H.set q (.box (ca P) none)):=
 ⟨h.mp,h.mq,h.qp,(aeR (by have:=h.qp;omega)).trans h.box,cG h.hZ,h.iA.set h.hZ _⟩
theorem dw.fp(h:dw m p q x qv H)(o:ae):Fq m [p,q] H (H.set p o):=Fq.set (by simp) h.mp o
theorem dw.fq(h:dw m p q x qv H)(o:ae):Fq m [p,q] H (H.set q o):=Fq.set (by simp) h.mq o
end
def WA(m p q:Nat)(H:List ae)(lo:oN)(b:Core)(qv:AV)(r:AV)(c:aS):Prop:=
 ∃a H' ak,c= .ret r ⟨H',ak⟩/\dw m p q b a H'/\Fq m [p,q] H H'/\ew (a=qv) p H H' lo ak
def iZ(x:Core)(r:aE)(k:Nat):Core:={x with Q:=x.Q++(iR r).take k}
def alz(x:Core)(r:aE):iZ x r r.2=cU x r:=by
 unfold iZ cU;rw[ag8 (by simp[iR])]
def alA{r:aE}(h:k<r.2): (iR r).take (k+1)=(iR r).take k++[r.1+k]:=by
 rw[aiV];simp[iR,h]
def WB{m:Nat}{x:Core}{H:List ae}(l:dw m p q x qv H)(r:aE)(X:r.1<4294967296/\r.2<4294967296)(hQ:x.Q.length<17179869184)(lo:oN):
  ∃K,D XC (.fn (.func Ec) [] []) [.ptr p 0,.agg (ay r)] ⟨H,lo⟩=some K/\WA m p q H lo (cU x r) qv (.au []) K:=by
 refine cy Sm λN s=>?_
 have C:p<N:=by rw[<-s];exact l.lt
 have h1: (ay r)[1]?=some (.int .i64 r.2):=rfl;simp only[go_sem,simprocAttr,Sm,s];refine gS r.2 (λk e W ak=> ∃c,e 0= .ptr p 0/\e 3= .ptr N 0/\e 6= .int .i64 r.2/\e 7= .int .i64 k/\dw m p q (iZ x r k) c W/\W[N]?=some (.box (ay r) none)/\Fq m [p,q] (H++[.box (ay r) none]) W/\ew (c=qv) p (H++[.box (ay r) none]) W none ak) 0 (by omega) ?_ ?_
 ·refine⟨qv,?_⟩;simp(disch:=omega) only[go_sem,simprocAttr];refine⟨?_,Fq.refl,ew.same trivial⟩;have:=l.app [.box (ay r) none];unfold iZ;simpa using this
 rintro k Z e W ak ⟨c,J,e3,e6,e7,b,hw,I,g⟩ n Y;have h0: (ay r)[0]?=some (.int .i64 r.1):=rfl;simp only[bR,go_sem,simprocAttr,ags,J,e6,e7];refine⟨λO=>?_,λO=>?_⟩
 ·have E:k<r.2:=by omega
  have V:=(oP (b.iA.rd (lo:=none)));simp(disch:=omega) only[go_sem,simprocAttr,e3,b.box,hw,↓KL];have h: (x.Q++(iR r).take k).length<=x.Q.length+r.2:=by simp[iR];omega
  have M:=b.lt;obtain⟨v',W',g1,g2,g3,U,t,T,R,g8⟩:=cW.append (bytes:=8) (lo:=ak) (y:=[.int .i64 ((r.1:Int)+k)]) b.iA (by omega) (by omega) rfl rfl (by rw[ahh];show((x.Q++(iR r).take k).length+1)*8<=room;unfold room;omega);have z: ∀cs tg,∀a d,ae.box cs tg≠ .row a 1 my d:=λ_ _ _ _ e=>by cases e
  have f:=t p _ (z _ _) b.box;have u:=t q _ (z _ _) b.hZ;have w:=t N _ (z _ _) hw;have F: ¬v'.refs<=p+1:=by omega
  rw[g1];simp(disch:=omega) only[go_sem,simprocAttr,J,e3,e6,e7,f,KS,T,R,F];refine⟨by omega,v',?_⟩;refine⟨?_,w,?_,?_⟩
  ·refine⟨b.mp,b.mq,b.qp,by rw[ayv];exact cG f,(aeR (by have:=b.qp;omega)).trans u,?_⟩;have: (iZ x r (k+1)).Q.map iY=(iZ x r k).Q.map iY++[[.int .i64 ((r.1:Int)+k)]]:=by
    unfold iZ;rw[alA E,<-afL,ahs];rfl
   rw[this];exact g2.set f _
  ·refine I.trans ⟨by simp;omega,λi G=>?_,λi o G ho P=>?_⟩
   ·rw[aeR (by have:=b.mp;omega)];exact U i (by have:=b.mp;omega)
   ·rw[aeR (by rintro rfl;simp at G)];exact t i o (λa d e=>ho ⟨a,d,e⟩) P
  ·rcases g with⟨rfl,_,_⟩| ⟨j,hj,rfl⟩
   ·exact .inr ⟨p,ahd _,rfl⟩
   ·exact .inr ⟨min j p,by omega,alw⟩
 ·obtain rfl:k=r.2:=by omega
  have hm:=l.mp;obtain⟨H2,A,f1,f2,f3,f4⟩:=Nh (lo:=lo) s C (by omega) I g (v:=.au []) (aha _);rw[f1];rw[alz]at b;exact⟨c,H2,A,rfl,b.oR f4 id l s,f2,f3⟩
def bK(c:Call)(rv:AV):lA:=[.int .i64 c.aa]++(bf c.c++([.bool c.checked,rv]++(ay c.run++[.int .i64 c.eW])))
theorem ayw(c:Call)(rv:AV):bK c rv=[.int .i64 c.aa,.int .u8 c.c.op,.int .u32 c.c.r,.int .u32 c.c.s,.int .u32 c.c.a,.int .u32 c.c.b,.int .u64 c.c.v,.bool c.checked,rv,.int .i64 c.run.1,.int .i64 c.run.2,.int .i64 c.eW]:=rfl
structure fI(c:Call):Prop where
 aa:c.aa<4294967296
 iB:jQ c.c
 aT: ∀h∈c.aT,h<4294967296
 run:c.run.1<65536/\c.run.2<65536
 eW:c.eW<65536
structure jT(x:Core):Prop where
 S:bh x.S
 P:fK x.P
 M: ∀i,hY (x.M i)
 Q: ∀k∈x.Q,k<2147483648
 Ql:x.Q.length<8589934592
def alB{m:Nat}{x:Core}{H:List ae}(b:dw m p q x qv H)(l:jT x)(c:Call)(n:fI c)(rv:AV)(r:rv.refs=0)(lo:oN):
  ∃k,D XC (.fn (.func IW) [] []) [.ptr p 0,.agg (bK c rv)] ⟨H,lo⟩=some k/\WA m p q H lo (vA x c) qv (.au []) k:=by
 refine cy RZ λN d=>?_
 have f:p<N:=by rw[<-d];exact b.lt
 have hr:=n.run;obtain⟨k,g1,a,W,ak,rfl,g2,o,y⟩:=WB (b.app [.box (bK c rv) none]) c.run ⟨by omega,by omega⟩ (by have:=l.Ql;omega) none;have h:Den.part true 2 (bK c rv) 9=some (.agg (ay c.run)):=rfl;have i: (bK c rv)[0]?=some (.int .i64 c.aa):=rfl;have j:N∉[p,q]:=by have:=b.qp;simp;omega
 have wn:W[N]?=some (.box (bK c rv) none):=o.own j (by rw[di d];rfl);have t:=λH lo=>c0 (axZ x.M l.M c.aa n.aa H lo)
 have w: (cU x c.run).M=x.M:=rfl;have g:=λm=>dW m
 simp only[go_sem,simprocAttr,RZ,d,↓h,g1,g2.box,wn,i,↓KL,KS,w,t,g,jS];have u:=o.trans (g2.fp (.box (cz {cU x c.run with M:=ry x.M c.aa} q a) none));have s:ew (a=qv) p (H++[.box (bK c rv) none]) (W.set p (.box (cz {cU x c.run with M:=ry x.M c.aa} q a) none)) none ak:=y.elim (λq=>.inl ⟨q.1,by rw[ahq];exact q.2.1,q.2.2⟩) .inr;obtain⟨H2,e,f1,f2,f3,f4⟩:=Nh (lo:=lo) d f (by have:=b.mp;omega) u s (v:=.au []) (aha _);rw[f1];exact⟨a,H2,e,rfl,(g2.alx _).oR f4 id b d,f2,f3⟩
def ayx{m:Nat}{x:Core}{H:List ae}(c:dw m p q x qv H)(t:jT x)(lo:oN):
  ∃y,D XC (.fn (.func Qf) [] []) [.ptr p 0] ⟨H,lo⟩=some y/\WA m p q H lo (iS x).1 qv (.bool (iS x).2) y:=by
 have ho:Old p H (.box (cz x q qv) none):=⟨c.box⟩;refine cy K6 λN r=>?_
 have h:p<N:=by rw[<-r];exact c.lt
 have b:=(c.iA.rd (lo:=none)).bL;unfold iS;have E:Fq m [p,q] (H++[]) H:=by rw[aiH];exact Fq.refl
 cases n:x.Q with
 |nil=>
  rw[n]at b;simp(disch:=omega) only[F1,go_sem,simprocAttr,K6,c.box,↓KL,b];exact⟨qv,H,lo,rfl,c,Fq.refl,ew.same rfl⟩
 |cons a l=>
  have d:=c.iA;rw[n]at b d;rw[aoZ]at d;have G: ¬((l.length:Nat):Int)+1=0:=by omega
  have k:jY 1 qv (.int .i64 0)=some (fu qv 0 0):=by
   rw[(d.rd (lo:=none)).addr,afJ ⟨by omega,by simp⟩];rfl
  have i:cg XC ⟨H,none⟩ false 1 (fu qv 0 0)=some (.int .i64 a):=(d.rd (lo:=none)).load (by simp);obtain⟨w,s1,s2,B,A,z⟩:=cW.tail (bytes:=8) d;have F:=λlo=>c0 (ayi t.P c.hZ lo (t.Q a (by rw[n];simp)))
  have j: (FP.rd p 952 1).ok (uJ 1 (fu qv 0 0))=true:=by
   rcases d.2 with⟨_,e⟩| ⟨_,_,_,_,_,rfl,_⟩
   ·cases e
   ·rfl
  have s: ∀o,(H.set q o)[p]?=some (.box (cz x q qv) none):=λo=>(aeR (by have:=c.qp;omega)).trans c.box
  have C:p+1<w.refs:=by
   rw[z];rcases d.2 with⟨_,e⟩| ⟨id,_,_,_,J,rfl,_⟩
   ·cases e
   ·simp only[AV.refs];omega
  have f: ¬w.refs<=p+1:=by omega
  simp only[go_sem,simprocAttr,K6,r,c.box,↓KL,b,G,k,i,F,j,s,s1,B,A,KS,f];have u:=(c.fq (.box (ca (rC x.P a)) none)).trans ((c.GN (rC x.P a)).fp (.box (cz x q w) none));have hm:=c.mp;obtain⟨I,g,f1,f2,f3,f4⟩:=Nh (m:=m) (N:=N) (lo:=lo) (Q:=False) (L:=[]) r h (by omega) (by rw[aiH];exact u) (.inr ⟨p,ahd _,rfl⟩) (v:=.bool true) (aha _);rw[f1];have f5:I=(H.set q (.box (ca (rC x.P a)) none)).set p (.box (cz x q w) none):=f4.elim id λe=>e.2.elim
  rw[f5];refine⟨w,_,g,rfl,⟨c.mp,c.mq,c.qp,cG (s _),(aeR (by have:=c.qp;omega)).trans (cG c.hZ),?_⟩,u,?_⟩
  ·exact(s2.set c.hZ _).set (s _) _
  ·rw[f5]at f3;exact f3.elim (λe=>e.2.2.elim) .inr
def dD(st:bT)(p:Nat)(rv:AV):lA:=[.ptr p 0]++(bK st.c rv++(bF st.r++[.bool st.ended]))
section
variable{st:bT}{p:Nat}{rv:AV}
theorem WC: (dD st p rv).length=17:=rfl
theorem alC: (dD st p rv)[0]?=some (.ptr p 0):=rfl
theorem alD: (dD st p rv)[1]?=some (.int .i64 st.c.aa):=rfl
theorem alE: (dD st p rv)[8]?=some (.bool st.c.checked):=rfl
theorem alF: (dD st p rv)[9]?=some rv:=rfl
theorem alG: (dD st p rv)[10]?=some (.int .i64 st.c.run.1):=rfl
theorem alH: (dD st p rv)[11]?=some (.int .i64 st.c.run.2):=rfl
theorem alI: (dD st p rv)[12]?=some (.int .i64 st.c.eW):=rfl
theorem alJ: (dD st p rv)[16]?=some (.bool st.ended):=rfl
theorem WD:Den.part true 12 (dD st p rv) 1=some (.agg (bK st.c rv)):=rfl
theorem alK:Den.part true 6 (dD st p rv) 2=some (.agg (bf st.c.c)):=rfl
theorem alL:Den.part true 2 (dD st p rv) 10=some (.agg (ay st.c.run)):=rfl
theorem alM:Den.part true 3 (dD st p rv) 13=some (.agg (bF st.r)):=rfl
theorem alN{b:Bool}:aH (dD st p rv) 8 [.bool b]=dD {st with c:={st.c with checked:=b}} p rv:=rfl
theorem alO:aH (dD st p rv) 9 [v]=dD st p v:=rfl
theorem alP{r:aE}:aH (dD st p rv) 10 (ay r)=dD {st with c:={st.c with run:=r}} p rv:=rfl
theorem alQ{n:Nat}:aH (dD st p rv) 12 [.int .i64 n]=dD {st with c:={st.c with eW:=n}} p rv:=rfl
theorem alR:aH (dD st p rv) 13 (bF r)=dD {st with r:=r} p rv:=rfl
theorem alS{b:Bool}:aH (dD st p rv) 16 [.bool b]=dD {st with ended:=b} p rv:=rfl
def WE(c:Call)(h:rv.refs=0):aG (bK c rv)=0:=by rw[ayw];simp[aG,AV.refs,h]
def PL:=gG @alC<|gG @alD<|gG @alE<|gG @alF<|gG @alG<|gG @alH<|gG @alI<|gG @alJ<|gG @WD<|gG @alK<|gG @alL @alM
def PS:=gG @alN<|gG @alO<|gG @alP<|gG @alQ<|gG @alR<|gG @alS @WC
end
structure cR(m p q s:Nat)(st:bT)(qv rv:AV)(H:List ae):Prop where
 co:dw m p q st.x qv H
 ps:p<s
 box:H[s]?=some (.box (dD st p rv) none)
 aT:Rv rv 1 (st.c.aT.map hC)
section
variable{m p q s:Nat}{st:bT}{qv rv:AV}{H:List ae}
theorem cR.lt(h:cR m p q s st qv rv H):s<H.length:=eY h.box
theorem cR.rz(h:cR m p q s st qv rv H):rv.refs=0:=cO h.aT (bD (λ_=>rfl) _)
theorem cR.app(h:cR m p q s st qv rv H)(L:List ae):cR m p q s st qv rv (H++L):=⟨h.co.app L,h.ps,bc h.box,h.aT⟩
theorem cR.set(h:cR m p q s st qv rv H){mS:bT}{nO:AV}(a:mS.x=st.x)(b:Rv nO 1 (mS.c.aT.map hC)):cR m p q s mS qv nO (H.set s (.box (dD mS p nO) none)):=
 ⟨a ▸ h.co.set h.box (by have:=h.ps;omega) (by have:=h.ps;have:=h.co.qp;omega) _,h.ps,cG h.box,b⟩
theorem cR.fs(h:cR m p q s st qv rv H)(o:ae):Fq m [p,q,s] H (H.set s o):=Fq.set (by simp) (by have:=h.ps;have:=h.co.mp;omega) o
def cR.sn(h:cR m p q s st qv rv H):s∉[p,q]:=by have:=h.ps;have:=h.co.qp;grind
theorem cR.az{W:List ae}{b:Core}{a:AV}(h:cR m p q s st qv rv H)(d:dw m p q b a W)(c:Fq m [p,q] H W):cR m p q s {st with x:=b} a rv W:=
 ⟨d,h.ps,c.own h.sn h.box,h.aT⟩
theorem Fq.m3{H W:List ae}(h:Fq m [p,q] H W):Fq m [p,q,s] H W:=h.mono (by simp)
theorem cR.oR{W d:List ae}{N:Nat}{a c:AV}{b:bT}(h:cR m p q s st qv rv W)(e:d=W\/ (d=W.take N/\Q))(i:Q->qv=a)(g:cR m p q s b a c H0)(f:H0.length=N):cR m p q s st qv rv d:=
 ⟨h.co.oR e i g.co f,h.ps,Ni e (by rw[<-f];exact g.lt) h.box,h.aT⟩
end
def dN(m p q s:Nat)(H:List ae)(lo:oN)(mS:bT)(qv:AV)(r:AV)(b:aS):Prop:=
 ∃a nO H' ak,b= .ret r ⟨H',ak⟩/\cR m p q s mS a nO H'/\Fq m [p,q,s] H H'/\ew (a=qv) p H H' lo ak
structure qm(st:bT):Prop where
 x:jT st.x
 c:fI st.c
def dN.fin{m s N:Nat}{d st:bT}{a e:AV}{H L W:List ae}{b:oN}(c:cR m p q s d a e H)(g:H.length=N)(h:cR m p q s st qv rv W)(k:Fq m [p,q,s] (H++L) W)(j:ew (qv=a) p (H++L) W none b)(i:v.refs<=N):
  dN m p q s H lo st a v (.ret (finish N lo v ⟨W,b⟩).1 (finish N lo v ⟨W,b⟩).2):=by
 have r:=c.lt;have o:=c.ps;have n:=c.co.mp;obtain⟨l,f,f1,f2,f3,f4⟩:=Nh (m:=m) (N:=N) (lo:=lo) g (by omega) (by omega) k j i;rw[f1];exact⟨qv,rv,l,f,rfl,h.oR f4 id c g,f2,f3⟩
def WG{m s:Nat}{st:bT}{H:List ae}(a:cR m p q s st qv rv H)(e:qm st)(r:bE)(lo:oN):
  ∃d,D XC (.fn (.func yE) [] []) [.ptr s 0,.agg (bF r)] ⟨H,lo⟩=some d/\dN m p q s H lo (rD st r) qv (.au []) d:=by
 refine cy Sv λN g=>?_
 have h:=(a.app [.box (bF r) none]).set (mS:={st with r:=r,ended:=true}) (nO:=rv) rfl a.aT;have k:=(a.app [.box (bF r) none]).fs (.box (dD {st with r:=r,ended:=true} p rv) none);obtain⟨d,g1,b,W,ak,rfl,g2,i,l⟩:=alB h.co e.x st.c e.c rv a.rz none;have f:=λL=>bc (L:=L) a.box
 have c:=λL o=>cG (o:=o) (f L)
 simp only[go_sem,simprocAttr,Sv,g,f,PL,PS,xL,ue,rO,c,anu,↓WD,g1];have j:ew (b=qv) p (H++[.box (bF r) none]) W none ak:=l.elim (λq=>.inl ⟨q.1,by grind,q.2.2⟩) .inr;exact dN.fin a g (h.az g2 i) (k.trans i.m3) j (aha _)
def fK.alT{p:cN}(h:fK p)(n:Nat):fK (jo p n).1:=by
 unfold jo;split
 ·exact h
 split
 ·exact h
 ·rename_i x b;cases a:rA p.free (x.1,n)with
  |none=>exact h
  |some l=>exact⟨h.n,h.free.take a,h.bytes⟩
def fK.clear{p:cN}(h:fK p)(i:Nat):fK (rB p i):=by
 unfold rB;split
 ·refine⟨h.n,h.free,λa b=>?_⟩;show aq p.bytes i (λ_=>0) a b<256;unfold aq;split
  ·simp
  ·exact h.bytes a b
 omega
def fK.back{p:cN}(h:fK p)(i:Nat):fK (rC p i):=by
 unfold rC;split
 ·unfold Mk;cases a:ir p.free (i,1)with
  |none=>exact h
  |some l=>exact⟨h.n,h.free.ir a,h.bytes⟩
 omega
def fK.write{p:cN}(h:fK p)(i b:Nat)(d:b<256):fK (vz p i b):=by
 unfold vz;split
 ·refine⟨h.n,h.free,λa c=>?_⟩;show aq p.bytes (i/32) (aq (p.bytes (i/32)) (i % 32) b) a c<256;unfold aq;split
  ·show(if c=i % 32 then b else p.bytes (i/32) c)<256;split
   ·omega
   ·exact h.bytes _ _
  ·exact h.bytes a c
 omega
def ayy{p:cN}(h:fK p)(n:Nat)(c:n<=64)(b: (jo p n).2.2=0): (jo p n).2.1+n<=64:=by
 unfold jo at b⊢;split
 ·grind
 ·rename_i e;split
  ·grind
  ·rename_i x a;have d:=h.free.bd x (ase a)
   grind
def alU{h:Nat}{r:dc}(e:nv x h r= .ok y):y.mL=x.mL:=by
 unfold nv at e;cases a:bb (fD x.s.T h r).2 with
 |error _=>rw[a]at e;cases e
 |ok _=>rw[a]at e;cases e;rfl
def bn{β:Type}{m:R α}{f:α->R β}{b:β}(h: (m>>=f)= .ok b): ∃a,m= .ok a/\f a= .ok b:=by
 cases m with
 |error e=>cases h
 |ok a=>exact⟨a,rfl,h⟩
def ayz(e:x.mL=0)(h:jL x= .ok (y,r)):y.mL<=4:=by
 unfold jL at h;dsimp only at h;cases b:qa (min x.c.a 129) (min x.c.b 9)with
 |none=>rw[b]at h;cases h
 |some n=>
  have c:n<=4:=by
   unfold qa at b;split at b
   ·rename_i ho;have:min x.c.a 129<=128:=by unfold isObj at ho;simp at ho;omega
    cases b;omega
   ·cases b
  rw[b]at h;obtain⟨a,e1,h⟩:=bn h;cases e1;obtain⟨_,_,h⟩:=bn h;obtain⟨_,_,h⟩:=bn h;split at h
  ·obtain⟨z,d,h⟩:=bn h;cases h;rw[alU d,e];omega
  ·obtain⟨_,_,h⟩:=bn h;split at h
   ·cases h;exact c
   ·obtain⟨_,_,h⟩:=bn h;obtain⟨z,d,h⟩:=bn h;cases h;rw[alU d];exact c
def alV(s:bG)(aa:Nat)(c:cp):eV s aa c<=4:=by
 unfold eV;split
 ·omega
 ·split
  ·rename_i y r e;obtain⟨_,_,e⟩:=bn (show(ask _ _>>=λ_=>kp _)=_ from e);unfold kp at e;have:c.op=2:=by omega
   simp only[this]at e;exact ayz rfl e
  ·omega
theorem dN.same{m s:Nat}{st:bT}{H:List ae}{r:AV}(h:cR m p q s st qv rv H):dN m p q s H lo st qv r (.ret r ⟨H,lo⟩):=⟨qv,rv,H,lo,rfl,h,Fq.refl,ew.same rfl⟩
theorem dN.one{m s:Nat}{st mS:bT}{nO:AV}{H W:List ae}{r:AV}(h:cR m p q s st qv rv H)(c:cR m p q s mS qv nO W)(b:Fq m [p,q,s] H W)(a:W.length=H.length):dN m p q s H lo mS qv r (.ret r ⟨W,lo⟩):=⟨qv,nO,W,lo,rfl,c,b,.inl ⟨rfl,a,rfl⟩⟩
theorem dN.GO{m s N:Nat}{c st:bT}{a d:AV}{H W:List ae}{b:oN}(g:cR m p q s c a d H)(f:H.length=N)(h:cR m p q s st qv rv W)(j:Fq m [p,q,s] H W)(i:ew (qv=a) p H W none b)(e:v.refs<=N):
 dN m p q s H lo st a v (.ret (finish N lo v ⟨W,b⟩).1 (finish N lo v ⟨W,b⟩).2):=dN.fin (L:=[]) g f h (by grind) (by grind) e
theorem alW{m s:Nat}{st:bT}{H:List ae}(ha:cR m p q s st qv rv H)(hx:qm st)(e:Nat)(lo:oN):
 ∃a,D XC (.fn (.func yE) [] []) [.ptr s 0,.agg [.int .i64 e,.int .u64 0,.int .u32 0]] ⟨H,lo⟩=some a/\dN m p q s H lo (rD st {bX with e:=e}) qv (.au []) a:=WG ha hx {bX with e:=e} lo
section
variable(hD: ∀op,me op){m p q s:Nat}{st:bT}{qv rv:AV}{H:List ae}(ha:cR m p q s st qv rv H)(hx:qm st)(lo:oN)
include hD ha hx
theorem ayA: ∃f,D XC (.fn (.func Bf) [] []) [.ptr s 0] ⟨H,lo⟩=some f/\dN m p q s H lo (oF st).1 qv (.bool (oF st).2) f:=by
 refine cy BZ λN b=>?_
 have k:s<N:=by rw[<-b];exact ha.lt
 have hw:=alk st.x.S hx.x.S st.c.aa hx.c.aa st.c.c hx.c.iB (hD _);have g:=alj st.x.S hx.x.S st.c.aa hx.c.aa st.c.c hx.c.iB (hD _);unfold oF;cases d:st.c.checked with
 |true=>
  simp(disch:=omega) only[F1,go_sem,simprocAttr,BZ,ha.box,PL,d];exact dN.same ha
 |false=>
  cases i:Cg st.x.S st.c.aa st.c.c with
  |true=>
   rw[i]at hw;simp only[F1,go_sem,simprocAttr,BZ,b,ha.box,ha.co.box,PL,↓PL,KL,↓KL,d,hw];exact dN.same ha
  |false=>
   rw[i]at hw;by_cases h:oD st.x.S st.c.aa st.c.c=0
   ·have a: ((oD st.x.S st.c.aa st.c.c:Nat):Int)=0:=by omega
    obtain⟨v,d1,d2⟩:=ayu hx.x.S hx.c.iB H none;obtain⟨t1,t2⟩:=oP (d2 ⟨[],none⟩);have t3:=cO d2 (bD (λ_=>rfl) _);have e:=λo=>cG (o:=o) ha.box
    simp only[go_sem,simprocAttr,BZ,b,ha.box,ha.co.box,PL,↓PL,KL,↓KL,PS,d,hw,g,a,d1,t1,t2,t3,e,anu];rw[afB (λq=>q h)];exact dN.GO (v:=.bool true) ha b (ha.set (mS:={st with c:={st.c with checked:=true,aT:=sW st.x.S st.c.c}}) rfl d2) (ha.fs _) (.inl ⟨rfl,by simp,rfl⟩) (aha _)
   ·have a: ¬((oD st.x.S st.c.aa st.c.c:Nat):Int)=0:=by omega
    obtain⟨f,g1,j,nO,W,ak,rfl,g2,n,l⟩:=alW ha hx (oD st.x.S st.c.aa st.c.c) none;simp only[go_sem,simprocAttr,BZ,b,ha.box,ha.co.box,PL,↓PL,KL,↓KL,d,hw,g,a,g1];rw[afJ h];exact dN.GO ha b g2 n l (aha _)
omit hD in
theorem ayB: ∃P,D XC (.fn (.func Bg) [] []) [.ptr s 0] ⟨H,lo⟩=some P/\dN m p q s H lo (oG st).1 qv (.bool (oG st).2) P:=by
 have ho:Old s H (.box (dD st p rv) none):=⟨ha.box⟩;refine cy FF λN n=>?_
 have R:s<N:=by rw[<-n];exact ha.lt
 have S:p<N:=by have:=ha.ps;omega
 have a:=ha.aT.bL (E:=⟨H,none⟩);unfold oG;cases hr:st.c.aT with
 |nil=>
  rw[hr]at a;simp(disch:=omega) only[F1,go_sem,simprocAttr,FF,n,ha.box,PL,a];exact dN.same ha
 |cons h hs=>
  have f:=ha.aT;rw[hr]at a f;have O: ¬((hs.length:Nat):Int)+1=0:=by omega
  have z:jY 1 rv (.int .i64 0)=some (fu rv 0 0):=by
   rw[f.ck,afJ ⟨by omega,by simp⟩];rfl
  have v: ∀E,cg XC E false 1 (fu rv 0 0)=some (.int .u32 h):=λE=>f.cD (by simp)
  have e:=λH lo=>c0 (jN h (hx.c.aT h (by rw[hr];simp)) H lo)
  have C: ((eC h).getD 0)=aN h:=rfl;unfold iv at e;rw[C]at e;have d:=λH lo=>c0 (axR st.x.M hx.x.M (aN h) st.c.aa hx.c.aa H lo)
  have A:qR.length=320:=by decide
  have r:List.drop 320 qR=[]:=al6 (by rw[A];omega);have t: ∀m:Marks,List.take 320 (cI m)=cI m:=λm=>ag8 (by rw[dW];omega)
  have I:=λL=>bc (L:=L) ha.box
  have y:=λL=>bc (L:=L) ha.co.box
  have u:=λm=>dW m
  obtain⟨c,B⟩: ∃c,rv= .sl ((h::hs).map hC) c:=by
   obtain⟨Q,l,T⟩:=f ⟨[],none⟩;cases rv<;>simp only[]at Q
   ·simp[Den.elems]at l
   ·rename_i af c;simp only[Den.elems]at l;split at l
    ·cases l;exact⟨c,rfl⟩
    ·cases l
   ·simp[Den.elems]at l
  obtain⟨w,s1,s2⟩:=ak9 (sz:=1) (af:=(h::hs).map hC) (c:=c) (i:=1) (by intro el G;obtain⟨x,_,rfl⟩:=ahk.1 G;rfl) (by simp);rw[<-B]at s1;have s1:fX 1 rv (some (.int .i64 1)) none none=some w:=s1;obtain⟨t1,t2⟩:=oP (s2 ⟨[],none⟩);have t3:=cO s2 (bD (g:=hC) (λ_=>rfl) hs);have F: ∀L o,((H++L).set p o)[s]?=some (.box (dD st p rv) none):=λL o=>(aeR (by have:=ha.ps;omega)).trans (I L)
  obtain⟨j,k⟩: ∃j,j=(iQ st.x.M (aN h) st.c.aa).1:=⟨_,rfl⟩;have J:=(ha.app [.box (cI j) none]).az ((ha.app [.box (cI j) none]).co.alx j) ((ha.app [.box (cI j) none]).co.fp _);have K:=(ha.app [.box (cI j) none]).co.fp (.box (cz {st.x with M:=j} q qv) none);rw[<-k]at d;cases b: (iQ st.x.M (aN h) st.c.aa).2 with
  |true=>
   rw[b]at d;simp(disch:=omega) only[go_sem,simprocAttr,FF,n,ha.box,I,y,F,PL,↓PL,PS,KL,↓KL,KS,a,O,z,v,e,d,A,r,t,u,jS,s1,t1,t2,t3];rw[afJ b,<-k];exact dN.fin ha n (J.set (mS:={st with x:={st.x with M:=j},c:={st.c with aT:=hs}}) rfl s2) (K.m3.trans (J.fs _)) (.inl ⟨rfl,by simp,rfl⟩) (aha _)
  |false=>
   rw[b]at d;simp(disch:=omega) only[go_sem,simprocAttr,FF,n,ha.box,I,y,PL,↓PL,KL,↓KL,KS,a,O,z,v,e,d,A,r,t,u,jS];rw[afB (by rw[b];simp),<-k];exact dN.fin ha n J K.m3 (.inl ⟨rfl,by simp,rfl⟩) (aha _)
theorem ayC: ∃l,D XC (.fn (.func Bh) [] []) [.ptr s 0] ⟨H,lo⟩=some l/\dN m p q s H lo (oH st).1 qv (.bool (oH st).2) l:=by
 have ho:Old s H (.box (dD st p rv) none):=⟨ha.box⟩;refine cy B0 λN f=>?_
 have i:=λH lo=>cB (Wp st.x.S hx.x.S st.c.aa hx.c.aa st.c.c hx.c.iB (hD _) H lo)
 have v:=alV st.x.S st.c.aa st.c.c;unfold oH;dsimp only;by_cases y:eV st.x.S st.c.aa st.c.c=0
 ·have a:decide (((eV st.x.S st.c.aa st.c.c:Nat):Int)=0)=true:=ag9 (by omega);rw[afJ (.inl y)];simp only[F1,go_sem,simprocAttr,B0,f,ha.box,ha.co.box,PL,↓PL,KL,↓KL,i,a];exact dN.same ha
 ·have a:decide (((eV st.x.S st.c.aa st.c.c:Nat):Int)=0)=false:=ag7 (by omega);by_cases w:0<st.c.run.2
  ·have b: ((st.c.run.2:Nat):Int)>0:=by omega
   rw[afJ (.inr w)];simp only[F1,go_sem,simprocAttr,B0,f,ha.box,ha.co.box,PL,↓PL,KL,↓KL,i,a,b];exact dN.same ha
  ·have b: ¬((st.c.run.2:Nat):Int)>0:=by omega
   rw[afB (by omega)];have h:=λlo=>ayl hx.x.P ha.co.hZ lo (n:=eV st.x.S st.c.aa st.c.c) (by omega)
   have j:=ha.az (ha.co.GN (jo st.x.P (eV st.x.S st.c.aa st.c.c)).1) (ha.co.fq _);have o:=ha.co.fq (.box (ca (jo st.x.P (eV st.x.S st.c.aa st.c.c)).1) none);have k:qm {st with x:={st.x with P:=(jo st.x.P (eV st.x.S st.c.aa st.c.c)).1}}:=⟨⟨hx.x.S,hx.x.P.alT _,hx.x.M,hx.x.Q,hx.x.Ql⟩,hx.c⟩;generalize u:jo st.x.P (eV st.x.S st.c.aa st.c.c)=d at*;by_cases r:d.2.2=0
   ·have e:decide (((d.2.2:Nat):Int)=0)=true:=ag9 (by omega);rw[afB (λq=>q r)];have g: [AV.int .i64 (d.2.1:Nat),.int .i64 ((eV st.x.S st.c.aa st.c.c:Nat))]=ay (d.2.1,eV st.x.S st.c.aa st.c.c):=rfl;simp only[go_sem,simprocAttr,B0,f,ha.box,ha.co.box,PL,↓PL,KL,↓KL,i,a,b,h,e,j.box,g,PS];exact dN.GO ha f (j.set (mS:={st with x:={st.x with P:=d.1},c:={st.c with run:=(d.2.1,eV st.x.S st.c.aa st.c.c)}}) rfl ha.aT) (o.m3.trans (j.fs _)) (.inl ⟨rfl,by simp,rfl⟩) (aha _)
   ·have e:decide (((d.2.2:Nat):Int)=0)=false:=ag7 (by omega);rw[afJ r];obtain⟨l,g1,t,nO,W,ak,rfl,g2,A,z⟩:=alW j k d.2.2 none;simp only[go_sem,simprocAttr,B0,f,ha.box,ha.co.box,PL,↓PL,KL,↓KL,i,a,b,h,e,g1];exact dN.GO ha f g2 (o.m3.trans A) (z.elim (λq=>.inl ⟨q.1,by rw[q.2.1,ahq],q.2.2⟩) .inr) (aha _)
omit hD in
theorem ayD: ∃h,D XC (.fn (.func Bi) [] []) [.ptr s 0] ⟨H,lo⟩=some h/\dN m p q s H lo (oI st).1 qv (.bool (oI st).2) h:=by
 have ho:Old s H (.box (dD st p rv) none):=⟨ha.box⟩;refine cy Lo λN e=>?_
 have j:=hx.c.run;have k:=hx.c.eW;unfold oI;by_cases g:st.c.run.2<=st.c.eW
 ·have a: ((st.c.eW:Nat):Int)>=st.c.run.2:=by omega
  rw[afJ g];simp(disch:=omega) only[F1,go_sem,simprocAttr,Lo,e,ha.box,PL,a];exact dN.same ha
 ·have a: ¬((st.c.eW:Nat):Int)>=st.c.run.2:=by omega
  rw[afB g];have d: ∀lo,D XC (.fn (.func I6) [] []) [.ptr q 0,.int .i64 ((st.c.run.1:Int)+st.c.eW)] ⟨H,lo⟩=_:=λlo=>c0 (ayg hx.x.P ha.co.hZ lo (i:=st.c.run.1+st.c.eW) (by omega))
  have f:=ha.az (ha.co.GN (rB st.x.P (st.c.run.1+st.c.eW))) (ha.co.fq _);have l:=ha.co.fq (.box (ca (rB st.x.P (st.c.run.1+st.c.eW))) none);have b: ∀x,aH (dD {st with x:=x} p rv) 12 [.int .i64 ((st.c.eW:Int)+1)]=dD {st with x:=x,c:={st.c with eW:=st.c.eW+1}} p rv:=λ_=>rfl
  simp(disch:=omega) only[go_sem,simprocAttr,Lo,e,ha.box,ha.co.box,PL,KL,a,d,f.box,b,WC];exact dN.GO ha e (f.set (mS:={st with x:={st.x with P:=rB st.x.P (st.c.run.1+st.c.eW)},c:={st.c with eW:=st.c.eW+1}}) rfl ha.aT) (l.m3.trans (f.fs _)) (.inl ⟨rfl,by simp,rfl⟩) (aha _)
end
theorem alX: ∀ (l:List aE) (b x k:Nat),(∀r∈l,r.1+r.2<=64)->ko l b x=some k->k<=2048+x
 | [],_,_,_,_,h=>by cases h
 |r::rs,b,x,k,a,h=>by
  rw[ajc]at h;split at h
  ·grind
  ·exact alX rs _ x k (λz c=>a z (by grind)) h
def alY{s:bG}(d:bh s)(c:cp): (iO s c).1.length<=8/\ ∀k∈(iO s c).1,k<65536:=by
 unfold iO;split
 ·simp
 split
 ·simp
 split
 ·simp
 ·rename_i l j h;refine⟨by simp;omega,λk e=>?_⟩;obtain⟨i,g,rfl⟩:=ahk.1 e;have f:=aq9.1 g;have b:=d.T.get c.r;have a:=b.len;cases he:ko (aK s.T c.r).1.runs 0 (c.a+i)with
  |none=>simp
  |some v=>
   have:=alX _ _ _ _ (λr hr=>(b.runs r hr).2) he;simp;omega
def ayE(v i:Nat)(a:i<8):k5 .shr (.int .u64 v) (.int .i64 (8*(i:Int)))=some (.int .u64 ((v/2^(8*i):Nat))):=by
 rw[DR,afJ (by omega)];have b:min (8*(i:Int)).toNat IntKind.u64.bits=8*i:=by
  have:IntKind.u64.bits=64:=rfl;omega
 grind
def alZ(b i:Nat)(f:b<256)(e:i<8):k5 .shl (.int .u64 b) (.int .i64 (8*(i:Int)))=some (.int .u64 ((b*2^(8*i):Nat)))/\b*2^(8*i)<18446744073709551616:=by
 have a:b*2^(8*i)<18446744073709551616:=by
  rcases(show i=0\/i=1\/i=2\/i=3\/i=4\/i=5\/i=6\/i=7 by omega)with q|q|q|q|q|q|q|q<;>subst q<;>simp<;>omega
 refine⟨?_,a⟩;rw[AL,afJ (by omega)];have d:min (8*(i:Int)).toNat IntKind.u64.bits=8*i:=by
  have:IntKind.u64.bits=64:=rfl;omega
 rw[d];have c: ((2:Int)^(8*i))=((2^(8*i):Nat):Int):=by rfl
 rw[c,<-Int.natCast_mul,wrap_u64 (by omega) (by omega)]
def al0(a b:Nat)(d:a<18446744073709551616)(c:b<18446744073709551616):dh .or (.int .u64 a) (.int .u64 b)=some (.int .u64 ((a|||b:Nat)))/\a|||b<18446744073709551616:=by
 have f:a|||b<2^64:=Nat.or_lt_two_pow d c;refine⟨?_,f⟩;rw[Ie];have e: ∀n:Nat,n<18446744073709551616->(BitVec.ofInt IntKind.u64.bits (n:Int)).toNat=n:=by
  have:IntKind.u64.bits=64:=rfl
  grind
 rw[BitVec.toNat_or,e a d,e b c,wrap_u64 (by omega) (by omega)]
theorem ayF(v i:Nat):IntKind.wrap .u8 ((v/2^(8*i):Nat):Int)=(byteOf v i:Nat):=ak1 _
def ug(P:cN)(pl:lN)(v k:Nat):cN:=(List.range k).foldl (λP i=>vz P (pl.getD i 0) (byteOf v i)) P
def al1(P:cN)(pl:lN)(v k:Nat):ug P pl v (k+1)=vz (ug P pl v k) (pl.getD k 0) (byteOf v k):=by
 unfold ug;rw[ary,ao4];rfl
def qn(P:cN)(pl:lN)(v k:Nat):Nat:=(List.range k).foldl (λv i=>v|||sX P (pl.getD i 0)*2^(8*i)) v
def al2(P:cN)(pl:lN)(v k:Nat):qn P pl v (k+1)=qn P pl v k|||sX P (pl.getD k 0)*2^(8*k):=by
 unfold qn;rw[ary,ao4];rfl
theorem WH{P:cN}(h:fK P)(pl:lN)(v:Nat): ∀k,fK (ug P pl v k)
 |0=>h
 |k+1=>by rw[al1];exact(WH h pl v k).write _ _ (ao3 _ (by omega))
def al3{P:cN}(h:fK P)(i:Nat):sX P i<256:=by
 unfold sX;split
 ·exact h.bytes _ _
 ·omega
theorem WI{P:cN}(h:fK P)(pl:lN)(v:Nat)(a:v<18446744073709551616): ∀k,k<=8->qn P pl v k<18446744073709551616
 |0,_=>a
 |k+1,b=>by
  rw[al2];exact(al0 _ _ (WI h pl v a k (by omega)) (alZ _ _ (al3 h _) (by omega)).2).2
def al4{pl:lN}(d:Rv pv 1 (pl.map iY))(v:pl.length<=8){f:Fn}{cs:lA}(m:AV)(F:Nat->List ae)(t: ∀k,(F k).length=(F 0).length)
  (p: ∀k,k<pl.length->D XC (.fn f [] cs) [.int .i64 (pl.getD k 0:Nat),.int .i64 k] ⟨F k,none⟩=some (.ret (.au []) ⟨F (k+1),none⟩)) (lo:oN):
  D XC (.fn (.func I8) [] []) [m,pv,.fn f [] cs] ⟨F 0,lo⟩=some (.ret (.au []) ⟨F pl.length,lo⟩):=by
 refine aF Sx λN r=>?_
 simp only[go_sem,simprocAttr,Sx,d.bL];refine dV pl.length (λk e H'=>H'=F k/\e 2= .fn f [] cs/\e 8=pv/\e 9= .int .i64 pl.length/\e 10= .int .i64 k) 0 (by omega) ?_ ?_
 ·simp only[go_sem,simprocAttr]
 rintro k w e H' ⟨rfl,s,l,j,b⟩ n u;simp only[bR,F1,go_sem,simprocAttr,agx,l,j,b];refine⟨λo=>?_,λo=>?_⟩
 ·have a:k<pl.length:=by omega
  have i: ∀y,(iY y)[0]?=some (.int .i64 y):=λ_=>rfl
  have g:pl.getD k default=pl.getD k 0:=rfl;have h:=p k a;simp(disch:=omega) only[go_sem,simprocAttr,s,l,j,b,d.ck,d.cD,i,g,h];exact⟨by omega,a⟩
 ·obtain rfl:k=pl.length:=by omega
  have q: (F pl.length).length=N:=by rw[t,r]
  have c: (F pl.length).take N=F pl.length:=ag8 (by omega);simp only[go_sem,simprocAttr,c]
def ayG{m s:Nat}{st:bT}{W:List ae}(f:cR m p q s st qv rv W)(k:fK st.x.P){n g:Nat}(t:W[n]?=some (.box [.ptr s 0] none))(r:W[g]?=some (.box (bf c) none))(at' i:Nat)(j:at'<65536)(h:i<8)(lo:oN):
  D XC (.fn (.func I9) [] [.ptr n 0,.ptr g 0]) [.int .i64 at',.int .i64 i] ⟨W,lo⟩=some (.ret (.au []) ⟨W.set q (.box (ca (vz st.x.P at' (byteOf c.v i))) none),lo⟩):=by
 refine eP Sy λN l=>?_
 have hw:=λlo=>c0 (ayk k f.co.hZ lo (at':=at') (b:=byteOf c.v i) (by omega))
 have a: ∀o,(W.set q o).take N=W.set q o:=λo=>ag8 (by grind)
 have d:=ayE c.v i h;have e:=ayF c.v i;simp(disch:=omega) only[F1,go_sem,simprocAttr,Sy,l,t,r,f.box,f.co.box,PL,KL,fS,d,e,hw,a]
def ayH{m s:Nat}{st:bT}{W:List ae}(e:cR m p q s st qv rv W)(f:fK st.x.P){n:Nat}(h:r.v<18446744073709551616)(w:W[n]?=some (.box [.ptr s 0] none))(u:W[a]?=some (.box (bF r) none))(at' i:Nat)(l:at'<65536)(j:i<8)(lo:oN):
  D XC (.fn (.func Ja) [] [.ptr n 0,.ptr a 0]) [.int .i64 at',.int .i64 i] ⟨W,lo⟩=some (.ret (.au []) ⟨W.set a (.box (bF {r with v:=r.v|||sX st.x.P at'*2^(8*i)}) none),lo⟩):=by
 refine eP Sz λN t=>?_
 have hw:=λlo=>c0 (ayj f e.co.hZ lo (at':=at') (by omega))
 have b: ∀o,(W.set a o).take N=W.set a o:=λo=>ag8 (by grind)
 have k:=al3 f at';obtain⟨s1,s2⟩:=alZ (sX st.x.P at') i k j;obtain⟨g,x⟩:=al0 r.v (sX st.x.P at'*2^(8*i)) h s2;have d: (bF r)[1]?=some (.int .u64 r.v):=rfl;have c: ∀n:Nat,aH (bF r) 1 [.int .u64 n]=bF {r with v:=n}:=λ_=>rfl
 simp(disch:=omega) only[F1,go_sem,simprocAttr,Sz,t,w,u,e.box,e.co.box,PL,KL,hw,s1,g,d,c,b,ue]
def uh:PC->PC|.seq a _=>a|x=>x
def ui:PC->PC|.seq _ b=>b|x=>x
def eJ(Q:Prop)(B:Nat)(lo:oN):Prop:=(lo=none/\Q)\/ ∃j,j<=B/\lo=some j
theorem eJ.no{B:Nat}(h:Q):eJ Q B none:=.inl ⟨rfl,h⟩
def eJ.step{e d:Prop}{B:Nat}{m l:List ae}{b a:oN}(h:eJ e B b)(g:ew d B m l b a)(f:e->d->Q):eJ Q B a:=by
 rcases h with⟨rfl,h⟩| ⟨j,i,rfl⟩
 ·rcases g with⟨rfl,_,g⟩| ⟨k,c,rfl⟩
  ·exact .inl ⟨rfl,f h g⟩
  ·exact .inr ⟨k,c,rfl⟩
 ·rcases g with⟨rfl,_,_⟩| ⟨k,c,rfl⟩
  ·exact .inr ⟨j,i,rfl⟩
  ·exact .inr ⟨min k j,by omega,rfl⟩
theorem eJ.low{B:Nat}(h:eJ Q B lo):eJ True B lo:=h.imp (λq=>⟨q.1,trivial⟩) id
theorem ew.n{B:Nat}{H H':List ae}(h:ew Q B H H' none lo):eJ Q B lo:=(eJ.no trivial).step h λ_ q=>q
def dN.al5{m s N:Nat}{f st:bT}{a g:AV}{H W:List ae}{c:oN}(e:cR m p q s f a g H)(l:H.length=N)(h:cR m p q s st qv rv W)(i:Fq m [p,q,s] H W)(o:eJ (qv=a) p c)(n:v.refs<=N):
  dN m p q s H lo st a v (.ret (finish N lo v ⟨W,c⟩).1 (finish N lo v ⟨W,c⟩).2):=by
 have x:=e.lt;have w:=e.ps;have u:=e.co.mp;have t: ∃d b,finish N lo v ⟨W,c⟩=(v,⟨d,b⟩)/\Fq m [p,q,s] H d/\ew (qv=a) p H d lo b/\ (d=W\/ (d=W.take N/\qv=a)):=by
  rcases o with⟨rfl,k⟩| ⟨j,r,rfl⟩
  ·refine⟨W.take N,lo,iU (.inl rfl) n,i.take l (by omega),.inl ⟨rfl,?_,k⟩,.inr ⟨rfl,k⟩⟩;rw[ai1];have:=i.len;omega
  ·exact⟨W,cA lo j,vS (by omega),i,.inr ⟨j,r,rfl⟩,.inl rfl⟩
 obtain⟨d,b,f1,f2,f3,f4⟩:=t;rw[f1];exact⟨qv,rv,d,b,rfl,h.oR f4 id e l,f2,f3⟩
def mT(n:Nat):PC:=match n with
 |0=>ou.body
 |n+1=>ui (mT n)
def jU(n:Nat):PC:=uh (mT n)
def WJ:PC:=mT 3
def WK:PC:=mT 6
def WL:PC:=mT 7
theorem ayI:ou.body= .seq (jU 0) (.seq (jU 1) (.seq (jU 2) WJ)):=rfl
theorem ayJ:WJ= .seq (jU 3) (.seq (jU 4) (.seq (jU 5) WK)):=rfl
theorem ayK:WK= .seq (jU 6) WL:=rfl
theorem ayL:WL= .seq (jU 7) (.seq (jU 8) (.seq (jU 9) (mT 10))):=rfl
def eD(st:bT):bT:=if 0<st.c.run.2/\eV st.x.S st.c.aa st.c.c≠st.c.run.2 then{st with x:=cU st.x st.c.run,c:={st.c with run:=(0,0)}}else st
structure CmS(m p q s N M:Nat)(H:List ae)(qv0 rv:AV)(st:bT)(c:cp)(nx:bG)(r:bE)(bv:AV)(e:Env)(W:List ae)(lo:oN):Prop where
 e1:e 1= .ptr N 0
 e3:e 3= .ptr (N+1) 0
 e6:e 6= .ptr M 0
 e7:e 7= .ptr (M+1) 0
 e8:e 8=bv
 st: ∃qv,cR m p q s st qv rv W/\eJ (qv=qv0) p lo
 w0:W[N]?=some (.box [.ptr s 0] none)
 w1:W[N+1]?=some (.box (bf c) none)
 w6:W[M]?=some (.box (bz nx) none)
 w7:W[M+1]?=some (.box (bF r) none)
 fr:Fq m [p,q,s] H W
 sN:s<N
 NM:N+2<=M
theorem CP: ∀ (l:List aE) (x:Core),(∀r∈l,r.2<=64)->(l.foldl cU x).Q.length<=x.Q.length+64*l.length
 | [],_,_=>by simp
 |r::l,x,h=>by
  have:=CP l (cU x r) (λz a=>h z (by grind));have b: (cU x r).Q.length=x.Q.length+r.2:=by simp[cU,iR]
  grind
theorem WM: ∀ (l:List aE) (x:Core),(l.foldl cU x).S=x.S/\ (l.foldl cU x).P=x.P/\ (l.foldl cU x).M=x.M
 | [],_=>⟨rfl,rfl,rfl⟩
 |r::l,x=>WM l (cU x r)
theorem WN: ∀ (l:List aE) (x:Core),(∀r∈l,r.1<=64/\r.2<=64)->(∀k∈x.Q,k<2147483648)-> ∀k∈(l.foldl cU x).Q,k<2147483648
 | [],_,_,h=>h
 |r::l,x,h,c=>WN l (cU x r) (λz b=>h z (by grind)) λk a=>by
  rcases ahb.1 a with a|a
  ·grind
  ·obtain⟨i,d,rfl⟩:=ahk.1 a
   grind
def jT.al7{x:Core}(a:jT x){l:List aE}(b: ∀r∈l,r.1<=64/\r.2<=64)(f:x.Q.length+64*l.length<8589934592):jT (l.foldl cU x):=by
 obtain⟨e,d,c⟩:=WM l x;exact⟨e ▸ a.S,d ▸ a.P,c ▸ a.M,WN l x b a.Q,by have:=CP l x (λr hr=>(b r hr).2);omega⟩
def WO{m s N:Nat}{H:List ae}{g T:AV}{R st:bT}{nx:bG}{bv:AV}{back:List aE}{e:Env}{W:List ae}(h0:cR m p q s R g T H)(hN:H.length=N)
  (h:CmS m p q s N M H g rv st c nx r bv e W lo) (hb:Rv bv 2 (back.map ay)) (B:back.length<=4096/\ ∀r∈back,r.1<=64/\r.2<=64) (y:qm st) (Y:bh nx) (hQ:st.x.Q.length<4294967296) (F:oN):
  wp XC uP false WL ⟨e,[]⟩ ⟨W,lo⟩ (dp XC N F [.t 2] (dN m p q s H F (rD {st with x:=back.foldl cU {st.x with S:=nx},c:={st.c with run:=(0,0)}} r) g (.bool true))):=by
 obtain⟨e1,e3,e6,e7,e8,⟨qv,d,f⟩,w0,w1,w6,w7,fr,sN,NM⟩:=h;have HF:=d.ps;have WQ:=d.co.qp;have hmp:=d.co.mp;have Q:=d.az (d.co.aly nx) (d.co.fp _);have O:=Q.set (mS:={st with x:={st.x with S:=nx},c:={st.c with run:=(0,0)}}) rfl d.aT;have hF:=(d.co.fp (.box (cz {st.x with S:=nx} q qv) none)).m3.trans (Q.fs (.box (dD {st with x:={st.x with S:=nx},c:={st.c with run:=(0,0)}} p rv) none));have hw: ∀i o,i≠p->i≠s->W[i]?=some o->((W.set p (.box (cz {st.x with S:=nx} q qv) none)).set s (.box (dD {st with x:={st.x with S:=nx},c:={st.c with run:=(0,0)}} p rv) none))[i]?=some o:=λi o hi hi2 ho=>by
  rw[aeR (Ne.symm hi2),aeR (Ne.symm hi)];exact ho
 have G: [AV.int .i64 0,.int .i64 0]=ay (0,0):=rfl;have J: ∀r:aE,(ay r).length=2:=λ_=>rfl
 have I: ∀r:aE,aG (ay r)=0:=λ_=>rfl
 have hNp: (N !=p)=true:=by simp;omega
 rw[ayL];simp only[go_sem,simprocAttr,ou,jU,mT,uh,ui,e1,e6,e8,w0,w6,d.box,d.co.box,Q.box,PL,G,PS,KS,ox,hb.bL,eU,J,I,M8,hNp];generalize hW1: (W.set p (.box (cz {st.x with S:=nx} q qv) none)).set s (.box (dD {st with x:={st.x with S:=nx},c:={st.c with run:=(0,0)}} p rv) none)=W1 at*;refine gS back.length (λk e P j=> ∃w,e 1= .ptr N 0/\e 7= .ptr (M+1) 0/\e 128=bv/\e 129= .int .i64 back.length/\e 130= .int .i64 k/\cR m p q s {st with x:=(back.take k).foldl cU {st.x with S:=nx},c:={st.c with run:=(0,0)}} w rv P/\eJ (w=g) p j/\P[N]?=some (.box [.ptr s 0] none)/\P[M+1]?=some (.box (bF r) none)/\Fq m [p,q,s] H P) 0 (by omega) ?_ ?_
 ·refine⟨qv,?_⟩;simp only[go_sem,simprocAttr,e1,e7];exact⟨O,f,hw _ _ (by omega) (by omega) w0,hw _ _ (by omega) (by omega) w7,fr.trans hF⟩
 clear f Q O hF hw w0 w1 w6 w7 fr e1 e3 e6 e7 e8 d hW1;rintro k hk e P j ⟨w,e1,e7,v,u,t,d,f,w0,w7,fr⟩ n hn;have K:=λL=>bc (L:=L) w0
 have hbx:=λL=>bc (L:=L) d.box
 simp only[bR,go_sem,simprocAttr,agv,e1,v,u,t];refine⟨λhh=>?_,λhh=>?_⟩
 ·have l:k<back.length:=by omega
  generalize A:back.getD k default=D at*;have yl:=B.2 D (by rw[<-A];exact eX l);have V:=CP (back.take k) {st.x with S:=nx} (λz hz=>(B.2 z (al8 hz)).2);have Dy: (back.take k).length<=k:=by simp;omega
  obtain⟨cr,g1,E,W3,U,rfl,g2,C,g4⟩:=WB (d.co.app [.box (ay D) none]) D ⟨by omega,by omega⟩ (by
   have: ({st.x with S:=nx}:Core).Q=st.x.Q:=rfl;rw[this]at V;show((back.take k).foldl cU {st.x with S:=nx}).Q.length<_;omega) j
  simp(disch:=omega) only[go_sem,simprocAttr,e1,e7,v,u,t,hb.ck,hb.cD,A,hn,J,I,K,hbx,PL,g1];have hs:=(d.app [.box (ay D) none]).az g2 C;have WR:N∉[p,q]:=by simp;omega
  have Z:M+1∉[p,q]:=by simp;omega
  have e0: (back.take (k+1)).foldl cU {st.x with S:=nx}=cU ((back.take k).foldl cU {st.x with S:=nx}) D:=by
   rw[<-A,aiV,ag6 l,ao4,ahm,ag6 l];rfl
  rw[e0];refine⟨by omega,l,E,hs,f.step g4 (λa b=>b.trans a),C.own WR (K _),C.own Z (bc w7),?_⟩;exact fr.trans (C.m3.pre (by have:=d.lt;omega))
 ·obtain rfl:k=back.length:=by omega
  rw[ahn]at d;have X:qm {st with x:=back.foldl cU {st.x with S:=nx},c:={st.c with run:=(0,0)}}:=
   ⟨jT.al7 (x:={st.x with S:=nx}) ⟨Y,y.x.P,y.x.M,y.x.Q,by show st.x.Q.length<_;omega⟩ B.2 (by show st.x.Q.length+_<_;omega),⟨y.c.aa,y.c.iB,y.c.aT,⟨by show 0<65536;omega,by show 0<65536;omega⟩,y.c.eW⟩⟩
  obtain⟨cr,g1,E,rv3,W3,U,rfl,g2,C,g4⟩:=WG d X r j;simp only[go_sem,simprocAttr,e7,w0,w7,xL,ue,g1];exact dN.al5 h0 hN g2 (fr.trans C) (f.step g4 λa b=>b.trans a) (aha _)
theorem cR.other{m s:Nat}{st:bT}{W:List ae}(h:cR m p q s st qv rv W){cs:lA}(a:W[i]?=some (.box cs tg))(d:i≠p)(c:i≠q)(b:i≠s)(o:ae):cR m p q s st qv rv (W.set i o):=
 ⟨h.co.set a d c o,h.ps,(aeR b).trans h.box,h.aT⟩
def z8(P:cN)(c:cp)(pl:lN):cN:=if c.op=4 then ug P pl c.v pl.length else P
def z9(P:cN)(c:cp)(pl:lN)(v:Nat):Nat:=if c.op=3 then qn P pl v pl.length else v
def ayR{m s N:Nat}{H:List ae}{j F:AV}{E st:bT}{nx:bG}{bv:AV}{back:List aE}{pl:lN}{e:Env}{W:List ae}(T:cR m p q s E j F H)(O:H.length=N)
  (h:CmS m p q s N M H j rv st c nx r bv e W lo) (Y:e 4=pv) (z:Rv pv 1 (pl.map iY)) (A:pl.length<=8/\ ∀k∈pl,k<65536) (G:c.op=3->r.v<18446744073709551616) (K:Rv bv 2 (back.map ay)) (t:back.length<=4096/\ ∀r∈back,r.1<=64/\r.2<=64) (d:qm st) (l:bh nx) (L:st.x.Q.length<4294967296) (b:oN):
  wp XC uP false WK ⟨e,[]⟩ ⟨W,lo⟩ (dp XC N b [.t 2] (dN m p q s H b (rD {st with x:=back.foldl cU {st.x with S:=nx,P:=z8 st.x.P c pl},c:={st.c with run:=(0,0)}} {r with v:=z9 st.x.P c pl r.v}) j (.bool true))):=by
 have h':=h;obtain⟨e1,e3,e6,e7,e8,⟨qv,a,n⟩,w0,w1,w6,w7,fr,sN,NM⟩:=h;have HF:=a.ps;have Z:=a.co.qp;have hmp:=a.co.mp;have B: ∀k,k<pl.length->pl.getD k 0<65536:=λk D=>by simp_all
 rw[ayK];by_cases X:c.op=4
 ·have w: (c.op:Int)=4:=by omega
  have u:W.set q (.box (ca (ug st.x.P pl c.v 0)) none)=W:=qg a.co.hZ;have g:=λlo=>al4 z A.1 (f:=.func I9) (cs:=[.ptr N 0,.ptr (N+1) 0]) (.ptr s 0) (λk=>W.set q (.box (ca (ug st.x.P pl c.v k)) none)) (λk=>by simp) (λk D=>by
   have Q:=a.az (a.co.GN (ug st.x.P pl c.v k)) (a.co.fq _);rw[ayG Q (WH d.x.P pl c.v k) ((aeR (by omega)).trans w0) ((aeR (by omega)).trans w1) _ k (B k D) (by omega)];show some (aS.ret _ ⟨_,_⟩)=_;rw[anu,al1]) lo
  simp only[u]at g;simp only[go_sem,simprocAttr,ou,jU,mT,uh,ui,e1,e3,Y,w0,w1,fS,w,g];have U:z8 st.x.P c pl=ug st.x.P pl c.v pl.length:=afJ X;have C:z9 st.x.P c pl r.v=r.v:=afB (by omega);rw[U,C];refine WO (rv:=rv) (M:=M) (c:=c) (nx:=nx) (r:=r) (bv:=bv) (back:=back) (st:={st with x:={st.x with P:=ug st.x.P pl c.v pl.length}}) T O ?_ K t ⟨⟨d.x.S,WH d.x.P pl c.v _,d.x.M,d.x.Q,d.x.Ql⟩,d.c⟩ l L b;exact⟨e1,e3,e6,e7,e8,⟨qv,a.az (a.co.GN _) (a.co.fq _),n⟩,(aeR (by omega)).trans w0,(aeR (by omega)).trans w1,(aeR (by omega)).trans w6,(aeR (by omega)).trans w7,fr.trans (a.co.fq _).m3,sN,NM⟩
 ·have w: ¬(c.op:Int)=4:=by omega
  have U:z8 st.x.P c pl=st.x.P:=afB X;rw[U];by_cases R:c.op=3
  ·have y: (c.op:Int)=3:=by omega
   have u:W.set (M+1) (.box (bF {r with v:=qn st.x.P pl r.v 0}) none)=W:=qg w7;have g:=λlo=>al4 z A.1 (f:=.func Ja) (cs:=[.ptr N 0,.ptr (M+1) 0]) (.ptr s 0) (λk=>W.set (M+1) (.box (bF {r with v:=qn st.x.P pl r.v k}) none)) (λk=>by simp) (λk D=>by
    have Q:=a.other w7 (by omega) (by omega) (by omega) (.box (bF {r with v:=qn st.x.P pl r.v k}) none);rw[ayH Q d.x.P (r:={r with v:=qn st.x.P pl r.v k}) (WI d.x.P pl r.v (G R) k (by omega)) ((aeR (by omega)).trans w0) (cG w7) _ k (B k D) (by omega)];show some (aS.ret _ ⟨_,_⟩)=_;rw[anu,al2]) lo
   simp only[u]at g;simp only[go_sem,simprocAttr,ou,jU,mT,uh,ui,e1,e3,Y,e7,w0,w1,fS,y,g];have C:z9 st.x.P c pl r.v=qn st.x.P pl r.v pl.length:=afJ R;rw[C];have J:Fq m [p,q,s] H (W.set (M+1) (.box (bF {r with v:=qn st.x.P pl r.v pl.length}) none)):=⟨by rw[ahq];exact fr.len,λi I=>by rw[aeR (by omega)];exact fr.low i I,λi o I ho V=>by
    have:=eY V;rw[aeR (by omega)];exact fr.box i o I ho V⟩
   refine WO (rv:=rv) (M:=M) (c:=c) (nx:=nx) (bv:=bv) (back:=back) (r:={r with v:=qn st.x.P pl r.v pl.length}) T O ?_ K t d l L b;exact⟨e1,e3,e6,e7,e8,⟨qv,a.other w7 (by omega) (by omega) (by omega) _,n⟩,(aeR (by omega)).trans w0,(aeR (by omega)).trans w1,(aeR (by omega)).trans w6,cG w7,J,sN,NM⟩
  ·have y: ¬(c.op:Int)=3:=by omega
   have C:z9 st.x.P c pl r.v=r.v:=afB R;rw[C];simp only[go_sem,simprocAttr,ou,jU,mT,uh,ui,e3,w1,fS,w,y];refine WO (rv:=rv) (M:=M) (c:=c) (nx:=nx) (bv:=bv) (back:=back) (r:=r) T O ?_ K t d l L b;exact⟨e1,e3,e6,e7,e8,⟨qv,a,n⟩,w0,w1,w6,w7,fr,sN,NM⟩
structure rP(d:bG×bE×List aE)(c:cp):Prop where
 S:bh d.1
 len:d.2.2.length<=4096
 runs: ∀r∈d.2.2,r.1<=64/\r.2<=64
 v:c.op=3->d.2.1.v<18446744073709551616
 w:d.2.1.w<4294967296
 e:d.2.1.e<4294967296
def Nj(st:bT):bT:=
 let d:=dJ st.x.S st.c.aa st.c.c st.c.run
 if d.2.1.e≠0 then rD st d.2.1
 else rD {st with x:=d.2.2.foldl cU {st.x with S:=d.1,P:=z8 st.x.P st.c.c (iO st.x.S st.c.c).1},c:={st.c with run:=(0,0)}} {d.2.1 with v:=z9 st.x.P st.c.c (iO st.x.S st.c.c).1 d.2.1.v}
theorem al9(s:bT):zG s=Nj (eD s):=by rfl
def WS{m s N:Nat}{H:List ae}{h z:AV}{y st:bT}{e:Env}{W:List ae}(Y: ∀op,me op)(F:cR m p q s y h z H)(E:H.length=N)
  (I:e 1= .ptr N 0) (G:e 3= .ptr (N+1) 0) (f:cR m p q s st qv rv W) (k:eJ (qv=h) p lo) (x:W[N]?=some (.box [.ptr s 0] none)) (t:W[N+1]?=some (.box (bf st.c.c) none)) (J:Fq m [p,q,s] H W)
  (g:qm st) (v:rP (dJ st.x.S st.c.aa st.c.c st.c.run) st.c.c) (X:st.x.Q.length<4294967296) (i:oN):
  wp XC uP false WJ ⟨e,[]⟩ ⟨W,lo⟩ (dp XC N i [.t 2] (dN m p q s H i (Nj st) h (.bool true))):=by
 have T:=f.ps;have S:=f.co.qp;have U:=f.co.mp;have sN:s<N:=by rw[<-E];exact F.lt
 have R:=g.c.run;obtain⟨pv,u,P⟩:=axJ st.x.S g.x.S st.c.c g.c.iB W lo;have u:=cB u;obtain⟨bv,d1,d2⟩:=Wo st.x.S g.x.S st.c.aa g.c.aa st.c.c g.c.iB st.c.run ⟨by omega,by omega⟩ (Y _) (W++[.box pE none,.box [.int .i64 0,.int .u64 0,.int .u32 0] none]) lo;have d1:=cB d1;have C:=alY g.x.S st.c.c;unfold Nj;dsimp only;generalize V:dJ st.x.S st.c.aa st.c.c st.c.run=d at*;obtain⟨M,w⟩: ∃M,W.length=M:=⟨_,rfl⟩;have D:N+2<=M:=by have:=eY t;omega
 have B:=λL=>bc (L:=L) x
 have o:=λL=>bc (L:=L) f.box
 have A:=λL=>bc (L:=L) t
 have n:=λL=>bc (L:=L) f.co.box
 have l: (bF d.2.1)[0]?=some (.int .i64 d.2.1.e):=rfl;rw[ayJ];by_cases he:d.2.1.e=0
 ·have j: ((d.2.1.e:Nat):Int)=0:=by omega
  rw[afB (λq=>q he)];simp only[go_sem,simprocAttr,ou,jU,mT,uh,ui,I,G,x,t,w,f.box,f.co.box,B,A,o,n,PL,↓PL,KL,↓KL,DZ,u,d1,l,j,ox,rO];refine ayR (rv:=rv) (M:=M) (c:=st.c.c) (nx:=d.1) (r:=d.2.1) (bv:=bv) (pv:=pv) (pl:=(iO st.x.S st.c.c).1) (back:=d.2.2) F E ?_ rfl P C v.v d2 ⟨v.len,v.runs⟩ g v.S X i;exact⟨I,G,rfl,rfl,rfl,⟨qv,f.app _,k⟩,B _,A _,by rw[di w];rfl,by rw[bA w];rfl,J.trans (Fq.app _ (by omega)),sN,D⟩
 ·have j: ¬((d.2.1.e:Nat):Int)=0:=by omega
  rw[afJ he];obtain⟨cr,g1,O,K,W2,Q,rfl,g2,g3,Z⟩:=WG (f.app [.box (bz d.1) none,.box (bF d.2.1) none]) g d.2.1 lo;simp only[go_sem,simprocAttr,ou,jU,mT,uh,ui,I,G,x,t,w,f.box,f.co.box,B,A,o,n,PL,↓PL,KL,↓KL,DZ,u,d1,l,j,ox,rO,g1];exact dN.al5 F E g2 (J.trans (g3.pre (by omega))) (k.step Z λa b=>b.trans a) (aha _)
theorem WT:aG (bf c)=0:=rfl
def ayS{m s:Nat}{H:List ae}{st:bT}(t: ∀op,me op)(a:cR m p q s st qv rv H)(b:qm st)(h:rP (dJ (eD st).x.S (eD st).c.aa (eD st).c.c (eD st).c.run) st.c.c)(U:st.x.Q.length<2147483648)(lo:oN):
  ∃B,D XC (.fn (.func uP) [] []) [.ptr s 0] ⟨H,lo⟩=some B/\dN m p q s H lo (zG st) qv (.bool true) B:=by
 have ho:Old s H (.box (dD st p rv) none):=⟨a.box⟩;refine cy ou λN d=>?_
 have sN:s<N:=by rw[<-d];exact a.lt
 have Q:=a.ps;have O:=a.co.qp;have R:=a.co.mp;rw[al9,ayI];have M:=b.c.run;have F:=λH lo=>cB (Wp st.x.S b.x.S st.c.aa b.c.aa st.c.c b.c.iB (t _) H lo)
 have E: (H++[.box [.ptr s 0] none,.box (bf st.c.c) none])[N]?=some (.box [.ptr s 0] none):=by rw[di d];rfl
 have C: (H++[.box [.ptr s 0] none,.box (bf st.c.c) none])[N+1]?=some (.box (bf st.c.c) none):=by rw[bA d];rfl
 have f:=λL=>bc (L:=L) a.box
 have n:=λL=>bc (L:=L) a.co.box
 by_cases I:0<st.c.run.2
 ·have e: ((st.c.run.2:Nat):Int)>0:=by omega
  by_cases G:eV st.x.S st.c.aa st.c.c=st.c.run.2
  ·have g:decide (((eV st.x.S st.c.aa st.c.c:Nat):Int)=st.c.run.2)=true:=ag9 (by omega);have o:eD st=st:=afB (λq=>q.2 G);rw[o]at h⊢;simp only[go_sem,simprocAttr,ou,jU,mT,uh,ui,d,f,n,PL,↓PL,KL,↓KL,GF,M9,WT,GK,e,F,g];exact WS t a d rfl rfl (a.app _) (eJ.no rfl) E C (Fq.app _ (by omega)) b h (by omega) lo
  ·have g:decide (((eV st.x.S st.c.aa st.c.c:Nat):Int)=st.c.run.2)=false:=ag7 (by omega);have o:eD st={st with x:=cU st.x st.c.run,c:={st.c with run:=(0,0)}}:=afJ ⟨I,G⟩;rw[o]at h⊢;obtain⟨B,g1,J,V,K,rfl,g2,u,T⟩:=WB (a.co.app [.box [.ptr s 0] none,.box (bf st.c.c) none]) st.c.run ⟨by omega,by omega⟩ (by omega) none;have hs:=(a.app [.box [.ptr s 0] none,.box (bf st.c.c) none]).az g2 u;have A:N∉[p,q]:=by simp;omega
   have z:N+1∉[p,q]:=by simp;omega
   have v0:=u.own A E;have v1:=u.own z C;have j: [AV.int .i64 0,.int .i64 0]=ay (0,0):=rfl;have w: ∀r:aE,(ay r).length=2:=λ_=>rfl
   have v: ∀r:aE,aG (ay r)=0:=λ_=>rfl
   simp only[go_sem,simprocAttr,ou,jU,mT,uh,ui,d,f,n,PL,↓PL,KL,↓KL,GF,M9,WT,GK,e,F,g,g1,v0,hs.box,j,w,v,PS];have P: (cU st.x st.c.run).Q.length=st.x.Q.length+st.c.run.2:=by simp[cU,iR]
   have y:qm {st with x:=cU st.x st.c.run,c:={st.c with run:=(0,0)}}:=⟨⟨b.x.S,b.x.P,b.x.M,λk l=>by
    rcases ahb.1 l with l|l
    ·exact b.x.Q k l
    ·obtain⟨i,S,rfl⟩:=ahk.1 l;have:=aq9.1 S;show st.c.run.1+i<_;omega,by show(cU st.x st.c.run).Q.length<_;omega⟩,⟨b.c.aa,b.c.iB,b.c.aT,⟨by show 0<65536;omega,by show 0<65536;omega⟩,b.c.eW⟩⟩
   refine WS (st:={st with x:=cU st.x st.c.run,c:={st.c with run:=(0,0)}}) t a d ?_ ?_ (hs.set rfl a.aT) T.n ?_ ?_ ?_ y h (by show(cU st.x st.c.run).Q.length<_;omega) lo
   ·exact rfl
   ·exact rfl
   ·exact(aeR (by omega)).trans v0
   ·exact(aeR (by omega)).trans v1
   ·exact((Fq.app _ (by omega)).trans u.m3).trans (hs.fs _)
 ·have e: ¬((st.c.run.2:Nat):Int)>0:=by omega
  have o:eD st=st:=afB (λq=>I q.1);rw[o]at h⊢;simp only[go_sem,simprocAttr,ou,jU,mT,uh,ui,d,f,PL,↓PL,GF,WT,GK,e];exact WS t a d rfl rfl (a.app _) (eJ.no rfl) E C (Fq.app _ (by omega)) b h (by omega) lo
def dX:Nat->bT->bT×Bool
 |0=>oF|1=>oG|2=>oH|3=>oI|_=>λs=>(zG s,true)
def ama:Nat->FuncId
 |0=>Bf|1=>Bg|2=>Bh|3=>Bi|_=>uP
def amb{s:bT}(h: (oF s).2=false): (oF s).1=s:=by
 unfold oF at*;grind
def amc{s:bT}(h: (oG s).2=false): (oG s).1=s:=by
 unfold oG at*;grind
def amd{s:bT}(h: (oH s).2=false): (oH s).1=s:=by
 unfold oH at*;grind
def ame{s:bT}(h: (oI s).2=false): (oI s).1=s:=by
 unfold oI at*;grind
def ayT{s:bT}(h: (dX k s).2=false): (dX k s).1=s:=by
 rcases(show k=0\/k=1\/k=2\/k=3\/4<=k by omega)with q|q|q|q|q
 ·subst q;exact amb h
 ·subst q;exact amc h
 ·subst q;exact amd h
 ·subst q;exact ame h
 ·obtain⟨j,rfl⟩: ∃j,k=j+4:=⟨k-4,by omega⟩;cases h
def mU(s:bT)(k:Nat):bT:=if(dX k s).2 then(dX k s).1 else match k with
 |0=>if(dX 1 s).2 then(dX 1 s).1 else if(dX 2 s).2 then(dX 2 s).1 else if(dX 3 s).2 then(dX 3 s).1 else(dX 4 s).1
 |1=>if(dX 2 s).2 then(dX 2 s).1 else if(dX 3 s).2 then(dX 3 s).1 else(dX 4 s).1
 |2=>if(dX 3 s).2 then(dX 3 s).1 else(dX 4 s).1
 |_=>(dX 4 s).1
def CQ{s:bT}(h: (dX k s).2=true):mU s k=(dX k s).1:=by unfold mU;grind
def GP{s:bT}(b:k<4)(h: (dX k s).2=false):mU s k=mU s (k+1):=by
 have a: ¬(dX k s).2=true:=by grind
 rcases(show k=0\/k=1\/k=2\/k=3 by omega)with q|q|q|q<;>subst q
 ·exact(afB a: (if(dX 0 s).2=true then(dX 0 s).1 else mU s 1)=mU s 1)
 ·exact(afB a: (if(dX 1 s).2=true then(dX 1 s).1 else mU s 2)=mU s 2)
 ·exact(afB a: (if(dX 2 s).2=true then(dX 2 s).1 else mU s 3)=mU s 3)
 ·exact(afB a: (if(dX 3 s).2=true then(dX 3 s).1 else mU s 4)=mU s 4)
def ayU(x:Core)(c:Call):gv x c=mU ⟨x,c,bX,false⟩ 0:=by
 unfold gv;dsimp only;generalize(⟨x,c,bX,false⟩:bT)=s;cases e: (oF s).2 with
 |true=>rw[afJ rfl,CQ (k:=0) e];rfl
 |false=>
  rw[afB (by simp),amb e,GP (k:=0) (by omega) e];cases d: (oG s).2 with
  |true=>rw[afJ rfl,CQ (k:=1) d];rfl
  |false=>
   rw[afB (by simp),amc d,GP (k:=1) (by omega) d];cases b: (oH s).2 with
   |true=>rw[afJ rfl,CQ (k:=2) b];rfl
   |false=>
    rw[afB (by simp),amd b,GP (k:=2) (by omega) b];cases a: (oI s).2 with
    |true=>rw[afJ rfl,CQ (k:=3) a];rfl
    |false=>rw[afB (by simp),ame a,GP (k:=3) (by omega) a,CQ (k:=4) rfl];rfl
def ayV{m s:Nat}{H:List ae}{st:bT}(c: ∀op,me op)(b:cR m p q s st qv rv H)(a:qm st)(e:rP (dJ (eD st).x.S (eD st).c.aa (eD st).c.c (eD st).c.run) st.c.c)(f:st.x.Q.length<2147483648)(k:Nat)(lo:oN):
  ∃d,D XC (.fn (.func (ama k)) [] []) [.ptr s 0] ⟨H,lo⟩=some d/\dN m p q s H lo (dX k st).1 qv (.bool (dX k st).2) d:=by
 rcases(show k=0\/k=1\/k=2\/k=3\/4<=k by omega)with h|h|h|h|h
 ·subst h;exact ayA c b a lo
 ·subst h;exact ayB b a lo
 ·subst h;exact ayC c b a lo
 ·subst h;exact ayD b a lo
 ·obtain⟨j,rfl⟩: ∃j,k=j+4:=⟨k-4,by omega⟩;exact ayS c b a e f lo
def ayW{X:Ctx}{f:FuncId}{fs args:lA}{E:AS}{r:aS}(h:D X (.fn (.func f) [] []) (fs++args) E=some r):D X (.fn (.func f) fs []) args E=some r:=by
 obtain⟨n,a⟩:=yx h;cases n with
 |zero=>cases a
 |succ n=>exact OY (n:=n+1) _ _ _ _ a
def Nk(m p q:Nat)(H:List ae)(lo:oN)(st:bT)(qv:AV)(b:aS):Prop:=
 ∃a nO H' ak,b= .ret (.au [.agg (bK st.c nO),.agg (bF st.r),.bool st.ended]) ⟨H',ak⟩/\dw m p q st.x a H'/\Rv nO 1 (st.c.aT.map hC)/\Fq m [p,q] H H'/\ew (a=qv) p H H' lo ak
def vW:lA:=[.int .i64 0,.int .u8 0,.int .u32 0,.int .u32 0,.int .u32 0,.int .u32 0,.int .u64 0,.bool false,.ai,.int .i64 0,.int .i64 0,.int .i64 0]
def nP:lA:=[.int .i64 0,.int .u64 0,.int .u32 0]
theorem Fq.cut{m:Nat}{S T:lN}{H B W:List ae}(h:Fq m S (H++B) W)(d: ∀i∈S,i∈T\/H.length<=i)(c:m<=H.length):Fq m T H W:=⟨by have:=h.len;grind,λi a=>by rw[h.low i a,List.getElem?_append_left (by omega)],λi o a ho b=>by
 exact h.box i o (λq=>by grind) ho (bc b)⟩
theorem Fq.out{m:Nat}{T:lN}{H W:List ae}(h:Fq m T H W)(e:H.length<=i)(c:m<=H.length)(o:ae):Fq m T H (W.set i o):=⟨by rw[ahq];exact h.len,λj a=>by rw[aeR (by omega)];exact h.low j a,λj o a ho b=>by
 have d:=eY b;rw[aeR (by omega)];exact h.box j o a ho b⟩
def Nk.fin{m N:Nat}{H W:List ae}{b:oN}{a:AV}{i:Core}{st:bT}(e:dw m p q i a H)(g:H.length=N)(h:dw m p q st.x qv W)(c:Rv rv 1 (st.c.aT.map hC))(d:Fq m [p,q] H W)(l:eJ (qv=a) p b):
  Nk m p q H lo st a (.ret (finish N lo (.au [.agg (bK st.c rv),.agg (bF st.r),.bool st.ended]) ⟨W,b⟩).1 (finish N lo (.au [.agg (bK st.c rv),.agg (bF st.r),.bool st.ended]) ⟨W,b⟩).2):=by
 have s:=e.lt;have r:=e.mp;have k: (AV.au [.agg (bK st.c rv),.agg (bF st.r),.bool st.ended]).refs<=N:=by
  have:=WE st.c (cO c (bD (λ_=>rfl) _));have o:= @rO st.r;simp[AV.refs,aG,this,o]
 rcases l with⟨rfl,f⟩| ⟨j,n,rfl⟩
 ·rw[iU (.inl rfl) k];refine⟨qv,rv,_,lo,rfl,h.oR (Q:=qv=a) (.inr ⟨rfl,f⟩) id e g,c,d.take g (by omega),.inl ⟨rfl,?_,f⟩⟩;rw[ai1];have:=d.len;omega
 ·rw[vS (by omega)];exact⟨qv,rv,W,cA lo j,rfl,h,c,d,.inr ⟨j,n,rfl⟩⟩
def ayX{m:Nat}{H:List ae}{x:Core}{c:Call}(hD: ∀op,me op)(J:dw m p q x qv H)(hx:jT x)(hc:fI c)(hr:Rv rv 1 (c.aT.map hC))
  (F:rP (dJ (eD ⟨x,c,bX,false⟩).x.S (eD ⟨x,c,bX,false⟩).c.aa (eD ⟨x,c,bX,false⟩).c.c (eD ⟨x,c,bX,false⟩).c.run) c.c) (hQ:x.Q.length<2147483648) (lo:oN):
  ∃Y,D XC (.fn (.func Qy) [] []) [.ptr p 0,.agg (bK c rv)] ⟨H,lo⟩=some Y/\Nk m p q H lo (gv x c) qv Y:=by
 refine cy Sf λN l=>?_
 have oO:p<N:=by rw[<-l];exact J.lt
 have WQ:=J.qp;have hmp:=J.mp;obtain⟨st,d⟩: ∃st:bT,st=⟨x,c,bX,false⟩:=⟨_,rfl⟩;have G: ∀ (c:Call) rv,List.take 12 (bK c rv)=bK c rv:=λ_ _=>rfl
 have v: ∀rv,AV.ptr p 0:: (bK c rv++[.int .i64 0,.int .u64 0,.int .u32 0,.bool false])=dD st p rv:=λrv=>by rw[d];rfl
 have hrz:=cO hr (bD (λ_=>rfl) _);obtain⟨B,hB⟩: ∃B:List ae,B=[.box (bK c rv) none,.box vW none,.box nP none,.box (dD st p rv) none]:=⟨_,rfl⟩;have hB4: (H++B).length=N+4:=by rw[hB];simp[l]
 have w:cR m p q (N+3) st qv rv (H++B):=by
  rw[d];exact⟨J.app B,by omega,by rw[hB,bA l,d];rfl,hr⟩
 have U:qm st:=by rw[d];exact⟨hx,hc⟩
 rw[ayU,<-d];rw[<-d]at F;have F:rP (dJ (eD st).x.S (eD st).c.aa (eD st).c.c (eD st).c.run) st.c.c:=by rw[d]at F⊢;exact F
 have I: ∀ (c:Call) rv,(bK c rv).length=12:=λ_ _=>rfl
 have aiI:min 12 12=12:=rfl;have C: ∀k,k<5->qz false 5 1 (.agg [.fn (.func Bf) [.ptr (N+3) 0] [],.fn (.func Bg) [.ptr (N+3) 0] [],.fn (.func Bh) [.ptr (N+3) 0] [],.fn (.func Bi) [.ptr (N+3) 0] [],.fn (.func uP) [.ptr (N+3) 0] []]) (.int .i64 (k:Nat))=some (.fn (.func (ama k)) [.ptr (N+3) 0] []):=by
  intro k hk;rcases(show k=0\/k=1\/k=2\/k=3\/k=4 by omega)with h|h|h|h|h<;>subst h<;>rfl
 generalize X:AV.agg [.fn (.func Bf) [.ptr (N+3) 0] [],.fn (.func Bg) [.ptr (N+3) 0] [],.fn (.func Bh) [.ptr (N+3) 0] [],.fn (.func Bi) [.ptr (N+3) 0] [],.fn (.func uP) [.ptr (N+3) 0] []]=Z at C;simp only[go_sem,simprocAttr,Sf,l,I,G,v,X];refine gS 5 (λk e W j=> ∃g s,e 4= .ptr (N+1) 0/\e 5= .ptr (N+2) 0/\e 7= .ptr (N+3) 0/\e 24=Z/\e 25= .int .i64 k/\k<=4/\cR m p q (N+3) st g s W/\eJ (g=qv) p j/\Fq m [p,q,N+3] (H++B) W/\mU st 0=mU st k) 0 (by omega) ?_ ?_
 ·refine⟨qv,rv,?_⟩;simp only[go_sem,simprocAttr];rw[hB]at w⊢;exact⟨w,eJ.no trivial,Fq.refl⟩
 rintro k hk e W j ⟨g,s,e4,e5,e7,L,K,hk4,hs,y,hf,A⟩ n hn;have E:=C k (by omega);obtain⟨Y,g1,Q,P,M,Cq,rfl,g2,g3,g4⟩:=ayV hD hs U F (by rw[d];exact hQ) k j;have g1:=ayW (fs:=[.ptr (N+3) 0]) (args:=[]) g1;simp only[bR,go_sem,simprocAttr,agr,e7,L,K];refine⟨λ_=>?_,λhh=>absurd (show((k:Nat):Int)<5 by omega) hh⟩;have f:=hf.trans g3;cases r: (dX k st).2 with
 |true=>
  rw[r]at g1;have v1:M[N+1]?=some (.box vW none):=f.own (by simp;omega) (by rw[hB,bA l];rfl);have v2:M[N+2]?=some (.box nP none):=f.own (by simp;omega) (by rw[hB,bA l];rfl);have O: ∀o,(M.set (N+1) o)[N+2]?=some (.box nP none):=λo=>(aeR (by omega)).trans v2
  have s1:=λo=>cG (o:=o) v1
  have s2:=λo o'=>cG (o:=o') (O o)
  have s3: ∀o o':ae,((M.set (N+1) o).set (N+2) o')[N+1]?=some o:=λo o'=>(aeR (by omega)).trans (s1 o)
  have S:vW.length=12:=rfl;have R:nP.length=3:=rfl;have u:List.drop 12 vW=[]:=rfl;have t:List.drop 3 nP=[]:=rfl;have V:=WE (dX k st).1.c g2.rz;simp only[go_sem,simprocAttr,E,e4,e5,e7,g1,g2.box,v1,O,s2,s3,PL,↓PL,S,R,u,t,I,G,xL,ue,rO,V,zT];refine⟨by simp,by simp,?_⟩;rw[A,CQ r];have hq3:q<N:=by omega
  refine Nk.fin J l ((g2.co.set v1 (by omega) (by omega) _).set (O _) (by omega) (by omega) _) g2.aT ?_ (y.step g4 λa b=>b.trans a);exact((f.cut (T:=[p,q]) (by intro i hi;simp at hi⊢;omega) (by omega)).out (by omega) (by omega) _).out (by omega) (by omega) _
 |false=>
  rw[r]at g1;have he:=ayT r;rw[he]at g2;have z:k<4:=by
   rcases(show k<4\/k=4 by omega)with q|q
   ·exact q
   ·subst q;cases r
  simp(disch:=omega) only[go_sem,simprocAttr,E,e4,e5,e7,L,K,g1];exact⟨Q,P,by omega,g2,y.step g4 (λa b=>b.trans a),f,by rw[A,GP z r]⟩
def cX(x:dG):lA:=[.int .u8 x.op,.int .u8 x.a,.int .u8 x.b,.int .u8 x.c,.int .u16 x.n]
def cY(t:Task)(cv:AV):lA:=[cv,.int .i64 t.next]++arr 8 λi=>[.int .u64 (t.aT i)]
structure GQ(x:dG):Prop where
 op:x.op<39
 a:x.a<8
 b:x.b<8
 c:x.c<8
 n:x.n<65536
 j:x.op=5\/x.op=6->x.n<=64
structure lD(t:Task):Prop where
 len:t.code.length<=64
 ins: ∀x∈t.code,GQ x
 next:t.next<=64
 aT: ∀i,t.aT i<18446744073709551616
section
variable{t:Task}{cv:AV}
theorem xP: (cY t cv).length=10:=rfl
def GR(h:cv.refs=0):aG (cY t cv)=0:=by
 unfold cY;rw[F7,Mb (λ_=>rfl)];simp[aG,AV.refs,h]
theorem amf: (cY t cv)[0]?=some cv:=rfl
theorem amg: (cY t cv)[1]?=some (.int .i64 t.next):=rfl
theorem amh: (cY t cv)[7]?=some (.int .u64 (t.aT 5)):=rfl
theorem ami: (cY t cv)[8]?=some (.int .u64 (t.aT 6)):=rfl
theorem amj:List.take 10 (cY t cv)=cY t cv:=rfl
def WU(h:i<8): (cY t cv)[2+i]?=some (.int .u64 (t.aT i)):=by
 rcases(show i=0\/i=1\/i=2\/i=3\/i=4\/i=5\/i=6\/i=7 by omega)with q|q|q|q|q|q|q|q<;>subst q<;>rfl
theorem amk{n:Nat}:aH (cY t cv) 1 [.int .i64 n]=cY {t with next:=n} cv:=rfl
def GS{v:Nat}(h:i<8):aH (cY t cv) (2+i) [.int .u64 v]=cY {t with aT:=aq t.aT i v} cv:=by
 rcases(show i=0\/i=1\/i=2\/i=3\/i=4\/i=5\/i=6\/i=7 by omega)with q|q|q|q|q|q|q|q<;>subst q<;>rfl
def TK:=gG @amf<|gG @amg<|gG @amh<|gG @ami<|gG @amj<|gG @amk @xP
end
theorem aml(x:dG): (cX x).length=5:=rfl
theorem amm(x:dG):aG (cX x)=0:=rfl
theorem amn(x:dG): (cX x)[0]?=some (.int .u8 x.op):=rfl
theorem amo(x:dG): (cX x)[1]?=some (.int .u8 x.a):=rfl
theorem amp(x:dG): (cX x)[2]?=some (.int .u8 x.b):=rfl
theorem amq(x:dG): (cX x)[3]?=some (.int .u8 x.c):=rfl
theorem amr(x:dG): (cX x)[4]?=some (.int .u16 x.n):=rfl
theorem ams(x:dG):List.take 5 (cX x)=cX x:=rfl
theorem amt(x:dG):List.drop 5 (cX x)=[]:=rfl
theorem IL:type_of% @aml/\type_of% @amm/\type_of% @amn/\type_of% @amo/\type_of% @amp/\type_of% @amq/\type_of% @amr/\type_of% @ams/\type_of% @amt:=⟨aml,amm,amn,amo,amp,amq,amr,ams,amt⟩
def CR:dG:=⟨0,0,0,0,0⟩
def GU(t:Task):AV:=.au [.agg (cX ((rG t).getD CR)),.bool (rG t).isSome]
section
variable{t:Task}{cv:AV}(hv:Rv cv 5 (t.code.map cX))(jt:lD t)(H:List ae)(lo:oN)
include hv jt
theorem WV:D X0 (.fn (.func Ea) [] []) [.agg (cY t cv)] ⟨H,lo⟩=some (.ret (GU t) ⟨H,lo⟩):=by
 refine aF Lk λN d=>?_
 have h:=jt.next;have i:=jt.len;have f: ¬((t.next:Nat):Int)<0:=by omega
 have a:=λE=>hv.bL (E:=E)
 have c: [AV.int .u8 0,.int .u8 0,.int .u8 0,.int .u8 0,.int .u16 0]=cX CR:=rfl;unfold GU rG;by_cases j:t.next<t.code.length
 ·have b: ¬((t.next:Nat):Int)>=t.code.length:=by omega
  have e:t.code[t.next]?=some (t.code.getD t.next default):=by grind
  rw[e];have g: (0:Int)<=t.next/\ (t.next:Int)<t.code.length:=by omega
  simp(disch:=omega) only[F1,go_sem,simprocAttr,Lk,d,TK,f,a,b,hv.ck,hv.cD,g,IL,pq]
 ·have b: ((t.next:Nat):Int)>=t.code.length:=by omega
  have e:t.code[t.next]?=none:=anQ (by omega);rw[e];simp only[F1,go_sem,simprocAttr,Lk,d,TK,f,a,b,c,IL,pq]
omit hv jt in
theorem Aa(i:Nat)(a:i<8):D X0 (.fn (.func uO) [] []) [.agg (cY t cv),.int .u8 i] ⟨H,lo⟩=some (.ret (.int .u64 (t.aT i)) ⟨H,lo⟩):=by
 refine aF Se λN c=>?_
 have hm: ((i:Nat):Int).tmod 8=i:=by rw[are (by omega)];omega
 have b: (0:Int)<=i/\ (i:Int)<8:=by omega
 simp(disch:=omega) only[F1,go_sem,simprocAttr,Se,c,hm,b,WU a]
omit hv in
theorem GV{x:dG}(a:rG t=some x):GQ x:=by
 unfold rG at a;exact jt.ins x (anr a)
theorem WW:D X0 (.fn (.func D6) [] []) [.agg (cY t cv)] ⟨H,lo⟩=some (.ret (.au [.agg (bf (iu t).1),.bool (iu t).2]) ⟨H,lo⟩):=by
 refine aF BW λN f=>?_
 have b:=λH lo=>WV hv jt H lo
 have m: [AV.int .u8 0,.int .u32 0,.int .u32 0,.int .u32 0,.int .u32 0,.int .u64 0]=bf nz:=rfl;have l: [AV.int .u8 20,.int .u32 0,.int .u32 0,.int .u32 0,.int .u32 0,.int .u64 0]=bf {nz with op:=20}:=rfl;have a: [AV.int .u8 0,.int .u8 0,.int .u8 0,.int .u8 0,.int .u16 0]=cX CR:=rfl;have s: ∀c,List.take 6 (bf c)=bf c:=λ_=>rfl
 have u: ∀c,List.drop 6 (bf c)=[]:=λ_=>rfl
 unfold GU at b;unfold iu;cases h:rG t with
 |none=>
  rw[h]at b;simp only[azI,ayY]at b;simp only[F1,go_sem,simprocAttr,BW,f,TK,b,IL,a,pq];rfl
 |some x=>
  rw[h]at b;simp only[anc,ayQ]at b;have ho:=GV jt h;have o:=ho.op;have hr:=jt.aT;by_cases j:x.op=0
  ·have d: (x.op:Int)=0:=by omega
   simp only[afJ j];simp only[F1,go_sem,simprocAttr,BW,f,TK,b,IL,a,d,pq];rfl
  ·have d:decide ((x.op:Int)=0)=false:=ag7 (by omega);by_cases k:x.op<=16
   ·have e: (x.op:Int)<=16:=by omega
    simp only[afB j,afJ k];simp only[F1,go_sem,simprocAttr,BW,f,TK,b,IL,a,d,e,pq];rfl
   ·have e: ¬(x.op:Int)<=16:=by omega
    have q:x.b % 8=x.b:=apy ho.b;have p:x.c % 8=x.c:=apy ho.c;have hs: (x.op:Int)-16=((x.op-16:Nat):Int):=by omega
    have g: ∀n:Nat,IntKind.wrap .u32 (n:Int)=((n % 4294967296:Nat):Int):=λn=>by
     unfold IntKind.wrap IntKind.bits IntKind.signed;simp
    have r:=ho.n;have i:x.n % 4294967296=x.n:=apy (by omega);have rb:=λH lo=>Aa (t:=t) (cv:=cv) H lo x.b ho.b
    have rc:=λH lo=>Aa (t:=t) (cv:=cv) H lo x.c ho.c
    simp only[afB j,afB k,q,p];simp(disch:=omega) only[F1,go_sem,simprocAttr,BW,f,TK,b,IL,a,d,e,pq,rb,rc,hs,g,i];rfl
end
theorem wrap64(n:Nat):IntKind.wrap .u64 (n:Int)=((n % ma:Nat):Int):=by rfl
theorem amu(n:Nat): ((n:Nat):Int).tmod 8=((n % 8:Nat):Int):=by rfl
section
variable{t:Task}{cv:AV}(hv:Rv cv 5 (t.code.map cX))(jt:lD t)
include hv jt
theorem ayZ(r:bE)(z:r.w<4294967296/\r.e<4294967296)(H:List ae)(lo:oN):
  D X0 (.fn (.func I3) [] []) [.agg (cY t cv),.agg (bF r)] ⟨H,lo⟩=some (.ret (.agg (cY (sY t r) cv)) ⟨H,lo⟩):=by
 refine aF FG λN i=>?_
 have b:=λH lo=>WV hv jt H lo
 have hw:=λH lo=>WW hv jt H lo
 have e: [AV.int .u8 0,.int .u8 0,.int .u8 0,.int .u8 0,.int .u16 0]=cX CR:=rfl;have d: [AV.int .u8 0,.int .u32 0,.int .u32 0,.int .u32 0,.int .u32 0,.int .u64 0]=bf nz:=rfl;have k: ∀c,(bf c).length=6:=λ_=>rfl
 have l: ∀c,List.drop 6 (bf c)=[]:=λ_=>rfl
 have j: ∀c,aG (bf c)=0:=λ_=>rfl
 have f:=λt:Task=>GR (t:=t) (cO hv (bD (λ_=>rfl) _))
 have w:=jt.next;have u: (bF r)[0]?=some (.int .i64 r.e):=rfl;have s: (bF r)[1]?=some (.int .u64 r.v):=rfl;have q: (bF r)[2]?=some (.int .u32 r.w):=rfl;unfold GU at b;unfold sY;cases hx:rG t with
 |none=>
  rw[hx]at b;simp only[azI,ayY]at b;simp only[F1,go_sem,simprocAttr,FG,i,TK,b,hw,IL,e,d,k,l,j,f]
 |some x=>
  rw[hx]at b;simp only[anc,ayQ]at b;have ho:=GV jt hx;cases g: (iu t).2 with
  |false=>
   rw[g]at hw;simp only[F1,go_sem,simprocAttr,FG,i,TK,b,hw,IL,e,d,k,l,j,f]
  |true=>
   rw[g]at hw;have h:x.a % 8<8:=by omega
   have y: (0:Int)<=(x.a % 8:Nat)/\ ((x.a % 8:Nat):Int)<8:=by omega
   have m:=λ (t:Task) (v:Nat)=>GS (t:=t) (cv:=cv) (v:=v) h
   have p: ∀ (t:Task) (v:Nat),aH (cY t cv) 6 [.int .u64 v]=cY {t with aT:=aq t.aT 4 v} cv:=λ_ _=>rfl
   have o: ∀ (t:Task) (v:Nat),aH (cY t cv) 9 [.int .u64 v]=cY {t with aT:=aq t.aT 7 v} cv:=λ_ _=>rfl
   have s1: ∀ (t:Task) (n:Nat),aH (cY t cv) 1 [.int .i64 ((n:Int)+1)]=cY {t with next:=n+1} cv:=λ_ _=>rfl
   simp only[aiZ];simp(disch:=omega) only[F1,go_sem,simprocAttr,FG,i,TK,b,hw,IL,e,d,k,l,j,f,amu,y,m,p,o,s1,u,s,q];omega
end
section
variable{t:Task}{cv:AV}{x:dG}{n u5 u7 u8 a:Nat}{H:List ae}(hv:Rv cv 5 (t.code.map cX))(jt:lD t)(hx:GQ x)(ha:a<8)(hn:H[n]?=some (.box (cY t cv) none))(h5:H[u5]?=some (.box (cX x) none))(h7:H[u7]?=some (.box [.ptr n (2+a)] none))(h8:H[u8]?=some (.box [.int .i64 ((t.next:Int)+1)] none))(lo:oN)
abbrev Nl(t:Task)(a v:Nat):Task:={t with aT:=aq t.aT a v}
include ha hn h5 h7 hx in
theorem ay0:D X0 (.fn (.func A9) [] [.ptr u5 0,.ptr u7 0]) [] ⟨H,lo⟩=some (.ret (.au []) ⟨H.set n (.box (cY (Nl t a x.n) cv) none),lo⟩):=by
 refine eP Sh λN c=>?_
 have b: ∀o,(H.set n o).take N=H.set n o:=λo=>ag8 (by simp[c])
 have e:=hx.n;have f:2+a<=9:=by omega
 have d:=λ (v:Nat)=>GS (t:=t) (cv:=cv) (v:=v) ha
 simp(disch:=omega) only[F1,go_sem,simprocAttr,Sh,c,hn,h5,h7,IL,d,b,xP,f]
include ha hn h5 h7 hx in
theorem ay1:D X0 (.fn (.func Ba) [] [.ptr n 0,.ptr u5 0,.ptr u7 0]) [] ⟨H,lo⟩=some (.ret (.au []) ⟨H.set n (.box (cY (Nl t a ((t.aT x.b+t.aT x.c) % ma)) cv) none),lo⟩):=by
 refine eP Si λN c=>?_
 have b: ∀o,(H.set n o).take N=H.set n o:=λo=>ag8 (by simp[c])
 have e:2+a<=9:=by omega
 have d:=λ (v:Nat)=>GS (t:=t) (cv:=cv) (v:=v) ha
 have rb:=λH lo=>Aa (t:=t) (cv:=cv) H lo x.b hx.b
 have rc:=λH lo=>Aa (t:=t) (cv:=cv) H lo x.c hx.c
 have hw:IntKind.wrap .u64 ((t.aT x.b:Int)+t.aT x.c)=(((t.aT x.b+t.aT x.c) % ma:Nat):Int):=wrap64 (t.aT x.b+t.aT x.c);simp(disch:=omega) only[F1,go_sem,simprocAttr,Si,c,hn,h5,h7,IL,TK,rb,rc,hw,d,b,e]
include jt ha hn h5 h7 hx in
theorem ay2:D X0 (.fn (.func Bb) [] [.ptr n 0,.ptr u5 0,.ptr u7 0]) [] ⟨H,lo⟩=some (.ret (.au []) ⟨H.set n (.box (cY (Nl t a ((t.aT x.b+ma-t.aT x.c) % ma)) cv) none),lo⟩):=by
 refine eP Sj λN c=>?_
 have b: ∀o,(H.set n o).take N=H.set n o:=λo=>ag8 (by simp[c])
 have e:2+a<=9:=by omega
 have d:=λ (v:Nat)=>GS (t:=t) (cv:=cv) (v:=v) ha
 have rb:=λH lo=>Aa (t:=t) (cv:=cv) H lo x.b hx.b
 have rc:=λH lo=>Aa (t:=t) (cv:=cv) H lo x.c hx.c
 have g:=jt.aT x.b;have f:=jt.aT x.c;have hw:IntKind.wrap .u64 ((t.aT x.b:Int)-t.aT x.c)=(((t.aT x.b+ma-t.aT x.c) % ma:Nat):Int):=by
  unfold IntKind.wrap IntKind.bits IntKind.signed ma;simp;omega
 simp(disch:=omega) only[F1,go_sem,simprocAttr,Sj,c,hn,h5,h7,IL,TK,rb,rc,hw,d,b,e]
include ha hn h5 h7 hx in
theorem ay3:D X0 (.fn (.func Bc) [] [.ptr n 0,.ptr u5 0,.ptr u7 0]) [] ⟨H,lo⟩=some (.ret (.au []) ⟨H.set n (.box (cY (Nl t a (t.aT x.b*2^x.n % ma)) cv) none),lo⟩):=by
 refine eP Sk λN d=>?_
 have b: ∀o,(H.set n o).take N=H.set n o:=λo=>ag8 (by simp[d])
 have f:2+a<=9:=by omega
 have e:=λ (v:Nat)=>GS (t:=t) (cv:=cv) (v:=v) ha
 have rb:=λH lo=>Aa (t:=t) (cv:=cv) H lo x.b hx.b
 have c:k5 .shl (.int .u64 (t.aT x.b)) (.int .u16 x.n)=some (.int .u64 ((t.aT x.b*2^x.n % ma:Nat))):=by
  rw[AL,afJ (by omega)];have i: ∀k:Nat,((2:Int)^k)=((2^k:Nat):Int):=λk=>by rw[Int.natCast_pow];rfl
  rw[i,<-Int.natCast_mul,wrap64];have l:IntKind.u64.bits=64:=rfl;by_cases h:x.n<=64
  ·rw[show min ((x.n:Nat):Int).toNat IntKind.u64.bits=x.n by omega]
  ·rw[show min ((x.n:Nat):Int).toNat IntKind.u64.bits=64 by omega];have e1:t.aT x.b*2^64 % ma=0:=Nat.mul_mod_left _ _;have j:t.aT x.b*2^x.n % ma=0:=by
    obtain⟨k,g⟩:=Nat.exists_eq_add_of_le (show 64<=x.n by omega);rw[g,Nat.pow_add,<-Nat.mul_assoc,Nat.mul_right_comm];exact Nat.mul_mod_left _ _
   rw[e1,j]
 simp(disch:=omega) only[F1,go_sem,simprocAttr,Sk,d,hn,h5,h7,IL,TK,rb,c,e,b,f]
include h5 h8 hx in
theorem ay4:D X0 (.fn (.func Bd) [] [.ptr u5 0,.ptr u8 0]) [] ⟨H,lo⟩=some (.ret (.au []) ⟨H.set u8 (.box [.int .i64 x.n] none),lo⟩):=by
 refine eP Sl λN c=>?_
 have b: ∀o,(H.set u8 o).take N=H.set u8 o:=λo=>ag8 (by simp[c])
 have d:=hx.n;simp(disch:=omega) only[F1,go_sem,simprocAttr,Sl,c,h5,h8,IL,b]
include ha hn h5 h7 h8 hx in
theorem ay5:D X0 (.fn (.func Be) [] [.ptr u7 0,.ptr u5 0,.ptr u8 0]) [] ⟨H,lo⟩=some (.ret (.au []) ⟨H.set u8 (.box [.int .i64 ((if t.aT a≠0 then x.n else t.next+1:Nat))] none),lo⟩):=by
 refine eP Ll λN c=>?_
 have b: ∀o,(H.set u8 o).take N=H.set u8 o:=λo=>ag8 (by simp[c])
 have f:=hx.n;have g:2+a<=9:=by omega
 by_cases h:t.aT a=0
 ·have d: ((t.aT a:Nat):Int)=0:=by omega
  rw[afB (by omega)];have e:H.set u8 (.box [.int .i64 ((t.next+1:Nat):Int)] none)=H:=qg h8;rw[e];simp(disch:=omega) only[F1,go_sem,simprocAttr,Ll,c,hn,h5,h7,h8,IL,WU ha,d,b]
 ·have d: ¬((t.aT a:Nat):Int)=0:=by omega
  rw[afJ (by omega)];simp(disch:=omega) only[F1,go_sem,simprocAttr,Ll,c,hn,h5,h7,h8,IL,WU ha,d,b]
end
def WX(N:Nat):List (AV×AV):=[(.int .u8 1,.fn (.func A9) [] [.ptr (N+3) 0,.ptr (N+4) 0]),(.int .u8 2,.fn (.func Ba) [] [.ptr N 0,.ptr (N+3) 0,.ptr (N+4) 0]),(.int .u8 3,.fn (.func Bb) [] [.ptr N 0,.ptr (N+3) 0,.ptr (N+4) 0]),(.int .u8 4,.fn (.func Bc) [] [.ptr N 0,.ptr (N+3) 0,.ptr (N+4) 0]),(.int .u8 5,.fn (.func Bd) [] [.ptr (N+3) 0,.ptr (N+5) 0]),(.int .u8 6,.fn (.func Be) [] [.ptr (N+4) 0,.ptr (N+3) 0,.ptr (N+5) 0])]
def oS(N k:Nat):List (AV×AV):=(WX N).take k
theorem ay6(N:Nat):ae.map []= .map (oS N 0):=rfl
def CT{N:Nat}{H:List ae}(a:H.length=N)(B:List ae)(b:B.length=6){key:Int}(d:v.refs<=N+7)(h:lM (.int .u8 key) v (oS N k)=some (oS N (k+1)))(lo:oN):
  mj ⟨H++(B++[.map (oS N k)]),lo⟩ .int (.mp (N+6)) (.int .u8 key) v=some ⟨H++(B++[.map (oS N (k+1))]),lo⟩:=by
 simp only[mj,kS,aiZ];have e: (H++(B++[ae.map (oS N k)]))[N+6]?=some (.map (oS N k)):=by grind
 simp only[e,h];have c: (H++(B++[ae.map (oS N k)])).set (N+6) (.map (oS N (k+1)))=H++(B++[.map (oS N (k+1))]):=by
  rw[aqk _ _ (by omega),aqk _ _ (by omega)];simp[a,b]
 simp only[AS.set,c]
 grind
def oT(N a:Nat):Option AV:=match a with
 |1=>some (.fn (.func A9) [] [.ptr (N+3) 0,.ptr (N+4) 0])
 |2=>some (.fn (.func Ba) [] [.ptr N 0,.ptr (N+3) 0,.ptr (N+4) 0])
 |3=>some (.fn (.func Bb) [] [.ptr N 0,.ptr (N+3) 0,.ptr (N+4) 0])
 |4=>some (.fn (.func Bc) [] [.ptr N 0,.ptr (N+3) 0,.ptr (N+4) 0])
 |5=>some (.fn (.func Bd) [] [.ptr (N+3) 0,.ptr (N+5) 0])
 |6=>some (.fn (.func Be) [] [.ptr (N+4) 0,.ptr (N+3) 0,.ptr (N+5) 0])
 |_=>none
def ay7(N a:Nat):dS (.int .u8 a) (oS N 6)=some (oT N a):=by
 by_cases h:a<=6
 ·rcases(show a=0\/a=1\/a=2\/a=3\/a=4\/a=5\/a=6 by omega)with q|q|q|q|q|q|q<;>subst q<;>rfl
 ·have e:oT N a=none:=by unfold oT;grind
  rw[e];have b: ∀k:Int,k<=6->(((a:Nat):Int)==k)=false:=λk c=>by grind
  show dS (.int .u8 a) (WX N)=some none;unfold WX;simp only[dS,oX,aiZ,b 1 (by omega),b 2 (by omega),b 3 (by omega),b 4 (by omega),b 5 (by omega),b 6 (by omega)]
def ay8{t:Task}{cv:AV}(X:Rv cv 5 (t.code.map cX))(g:lD t)(H:List ae)(lo:oN):
  D X0 (.fn (.func Qs) [] []) [.agg (cY t cv)] ⟨H,lo⟩=some (.ret (.agg (cY (rH t) cv)) ⟨H,lo⟩):=by
 refine aF Ld λN d=>?_
 have L:=λH lo=>WV X g H lo
 have hw:=λH lo=>WW X g H lo
 have U: [AV.int .u8 0,.int .u8 0,.int .u8 0,.int .u8 0,.int .u16 0]=cX CR:=rfl;have G: [AV.int .u8 0,.int .u32 0,.int .u32 0,.int .u32 0,.int .u32 0,.int .u64 0]=bf nz:=rfl;have cl: ∀c,(bf c).length=6:=λ_=>rfl
 have cd: ∀c,List.drop 6 (bf c)=[]:=λ_=>rfl
 have cr: ∀c,aG (bf c)=0:=λ_=>rfl
 have a:=λt:Task=>GR (t:=t) (cO X (bD (λ_=>rfl) _))
 have GW:=g.next;unfold rH;cases s: (iu t).2 with
 |true=>
  rw[s]at hw;rw[afJ rfl];simp only[F1,go_sem,simprocAttr,Ld,d,TK,hw,G,cl,cd,cr,a]
 |false=>
  rw[s]at hw;rw[afB (by simp)];cases V:rG t with
  |none=>
   have: (iu t).2=true:=by unfold iu;rw[V]
   rw[s]at this;cases this
  |some x=>
   unfold GU at L;rw[V]at L;simp only[anc,ayQ]at L;have ho:=GV g V;have i:x.a % 8<8:=by omega
   have hb: (0:Int)<=(x.a % 8:Nat)/\ ((x.a % 8:Nat):Int)<8:=by omega
   obtain⟨B,hB⟩: ∃B:List ae,B=[.box (cY t cv) none,.box [.ai,.int .i64 0,.int .u64 0,.int .u64 0,.int .u64 0,.int .u64 0,.int .u64 0,.int .u64 0,.int .u64 0,.int .u64 0] none,.box (bf (iu t).1) none,.box (cX x) none,.box [.ptr N (2+x.a % 8)] none,.box [.int .i64 ((t.next:Int)+1)] none]:=⟨_,rfl⟩;have hm:=ay6 N;have l4:N<=N+4:=by omega
   have S:=CT (k:=0) (key:=1) (v:=.fn (.func A9) [] [.ptr (N+3) 0,.ptr (N+4) 0]) d B (by rw[hB];rfl) (by simp[AV.refs,aG]) rfl;have R:=CT (k:=1) (key:=2) (v:=.fn (.func Ba) [] [.ptr N 0,.ptr (N+3) 0,.ptr (N+4) 0]) d B (by rw[hB];rfl) (by simp[AV.refs,aG]) rfl;have Q:=CT (k:=2) (key:=3) (v:=.fn (.func Bb) [] [.ptr N 0,.ptr (N+3) 0,.ptr (N+4) 0]) d B (by rw[hB];rfl) (by simp[AV.refs,aG]) rfl;have P:=CT (k:=3) (key:=4) (v:=.fn (.func Bc) [] [.ptr N 0,.ptr (N+3) 0,.ptr (N+4) 0]) d B (by rw[hB];rfl) (by simp[AV.refs,aG]) rfl;have O:=CT (k:=4) (key:=5) (v:=.fn (.func Bd) [] [.ptr (N+3) 0,.ptr (N+5) 0]) d B (by rw[hB];rfl) (by simp[AV.refs,aG]) rfl;have M:=CT (k:=5) (key:=6) (v:=.fn (.func Be) [] [.ptr (N+4) 0,.ptr (N+3) 0,.ptr (N+5) 0]) d B (by rw[hB];rfl) (by simp[AV.refs,aG]) rfl;rw[hB]at S R Q P O M;simp only[alb,aj8]at S R Q P O M;simp(disch:=omega) only[go_sem,simprocAttr,Ld,d,TK,hw,L,IL,U,G,cl,cd,cr,amu,hb,hm,l4,S,R,Q,P,O,M];have Y: ∀E:AS,E.heap[N+6]?=some (.map (oS N 6))->gP X0.fb E .int .cJ (.mp (N+6)) (.int .u8 x.op) true=some (match oT N x.op with|some v=>.au [v,.bool true]|none=>.au [.cJ,.bool false]):=by
    intro E h;simp only[gP,kS,aiZ,mapOf,h,ay7];cases oT N x.op<;>rfl
   rw[Y _ (by rw[bA d];rfl)];obtain⟨W,u⟩: ∃W,W=H++[.box (cY t cv) none,.box [.ai,.int .i64 0,.int .u64 0,.int .u64 0,.int .u64 0,.int .u64 0,.int .u64 0,.int .u64 0,.int .u64 0,.int .u64 0] none,.box (bf (iu t).1) none,.box (cX x) none,.box [.ptr N (2+x.a % 8)] none,.box [.int .i64 ((t.next:Int)+1)] none,.map (oS N 6)]:=⟨_,rfl⟩;have w0:W[N]?=some (.box (cY t cv) none):=by rw[u,di d];rfl
   have w1:W[N+1]?=some (.box [.ai,.int .i64 0,.int .u64 0,.int .u64 0,.int .u64 0,.int .u64 0,.int .u64 0,.int .u64 0,.int .u64 0,.int .u64 0] none):=by rw[u,bA d];rfl
   have y:W[N+3]?=some (.box (cX x) none):=by rw[u,bA d];rfl
   have C:W[N+4]?=some (.box [.ptr N (2+x.a % 8)] none):=by rw[u,bA d];rfl
   have A:W[N+5]?=some (.box [.int .i64 ((t.next:Int)+1)] none):=by rw[u,bA d];rfl
   have wt:W.take N=H:=by rw[u,mr d]
   rw[<-u];have I:=λo=>cG (o:=o) w0
   have f: ∀o,(W.set N o)[N+1]?=_:=λo=>(aeR (by omega)).trans w1
   have m: ∀o,(W.set N o)[N+5]?=_:=λo=>(aeR (by omega)).trans A
   have g5:=λo=>cG (o:=o) A
   have w: ∀o,(W.set (N+5) o)[N]?=_:=λo=>(aeR (by omega)).trans w0
   have Z: ∀o,(W.set (N+5) o)[N+1]?=_:=λo=>(aeR (by omega)).trans w1
   have q:=λo o'=>cG (o:=o') (w o)
   have l: ∀o o',((W.set (N+5) o).set N o')[N+1]?=_:=λo o'=>(aeR (by omega)).trans (Z o)
   have b:=λo o'=>cG (o:=o') (f o)
   have j:=λo o' J=>cG (o:=J) (l o o')
   have t0: ∀o o',((W.set N o).set (N+1) o').take N=H:=λo o'=>by rw[arW (by omega),arW (by omega),wt]
   have t5: ∀o o' J,(((W.set (N+5) o).set N o').set (N+1) J).take N=H:=λo o' J=>by rw[arW (by omega),arW (by omega),arW (by omega),wt]
   have s1: ∀ (t:Task) (n:Nat),aH (cY t cv) 1 [.int .i64 ((n:Int)+1)]=cY {t with next:=n+1} cv:=λ_ _=>rfl
   have t10: ∀t:Task,List.take 10 (cY t cv)=cY t cv:=λ_=>rfl
   have c1:=λlo=>ay0 ho i w0 y C lo
   have c2:=λlo=>ay1 ho i w0 y C lo
   have c3:=λlo=>ay2 g ho i w0 y C lo
   have c4:=λlo=>ay3 ho i w0 y C lo
   have c5:=λlo=>ay4 ho y A lo
   have c6:=λlo=>ay5 ho i w0 y C A lo
   have eb:x.b % 8=x.b:=apy ho.b;have ec:x.c % 8=x.c:=apy ho.c;rw[eb,ec];by_cases p:x.op=1
   ·rw[afJ p,p];simp only[oT];simp only[F1,go_sem,simprocAttr,c1,I,f,m,b,t0,anu,TK,s1,t10,a]
   ·by_cases r:x.op=2
    ·rw[afB p,afJ r,r];simp only[oT];simp only[F1,go_sem,simprocAttr,c2,I,f,m,b,t0,anu,TK,s1,t10,a]
    ·by_cases z:x.op=3
     ·rw[afB p,afB r,afJ z,z];simp only[oT];simp only[F1,go_sem,simprocAttr,c3,I,f,m,b,t0,anu,TK,s1,t10,a]
     ·by_cases F:x.op=4
      ·rw[afB p,afB r,afB z,afJ F,F];simp only[oT];simp only[F1,go_sem,simprocAttr,c4,I,f,m,b,t0,anu,TK,s1,t10,a]
      ·by_cases K:x.op=5
       ·rw[afB p,afB r,afB z,afB F,afJ K,K];simp only[oT];simp only[F1,go_sem,simprocAttr,c5,g5,w,q,l,j,t5,TK,t10,a]
       ·by_cases T:x.op=6
        ·rw[afB p,afB r,afB z,afB F,afB K,afJ T,T];simp only[oT];simp only[F1,go_sem,simprocAttr,c6,g5,w,q,l,j,t5,TK,t10,a]
        ·rw[afB p,afB r,afB z,afB F,afB K,afB T];have e:oT N x.op=none:=by unfold oT;split<;>first|omega|rfl
         rw[e];simp only[F1,go_sem,simprocAttr,w0,A,I,f,b,t0,TK,s1,t10,a]
instance:Inhabited dG:=⟨CR⟩
def ay9(v fv:AV)(l:List dG)(H:List ae)(c:Rd ⟨H,none⟩ v 5 (l.map cX))(s:l.length<2147483648)(p:dG->Bool)(lo:oN)
  (q: ∀x∈l,D X0 fv [.agg (cX x)] ⟨H,none⟩=some (.ret (.bool (p x)) ⟨H,none⟩)):D X0 (.fn (.func QM) [] []) [v,fv] ⟨H,lo⟩=some (.ret (.int .i64 (fR p l)) ⟨H,lo⟩):=by
 refine aF SB λN w=>?_
 simp only[go_sem,simprocAttr,SB,c.bL];refine dV l.length (λk e H'=>H'=H/\e 0=v/\e 1=fv/\e 7= .int .i64 l.length/\e 8= .int .i64 k/\ ∀j,j<k->p (l.getD j default)=false) 0 (by omega) ?_ ?_
 ·simp only[go_sem,simprocAttr];omega
 ·rintro k t e H' ⟨rfl,o,m,i,g,d⟩ n r;simp(disch:=omega) only[bR,F1,go_sem,simprocAttr,agy,o,m,i,g];refine⟨λh=>?_,λh=>?_⟩
  ·have a:k<l.length:=by omega
   have b: ∀x,Den.part true 5 (cX x) 0=some (.agg (cX x)):=λ_=>rfl
   simp(disch:=omega) only[go_sem,simprocAttr,c.ck,c.cD,↓b,q _ (eX a)];refine⟨by omega,?_⟩;cases f:p (l.getD k default)
   ·simp(disch:=omega) only[go_sem,simprocAttr,o,m,i,g];exact⟨a,mO d f⟩
   ·simp(disch:=omega) only[F1,go_sem,simprocAttr];rw[vC a d f]
  ·rw[vD (λj u=>d j (by omega))]
def aza(v fv:AV)(l:List dG)(H:List ae)(a:Rd ⟨H,none⟩ v 5 (l.map cX))(b:l.length<2147483648)(p:dG->Bool)(lo:oN)
  (c: ∀x∈l,D X0 fv [.agg (cX x)] ⟨H,none⟩=some (.ret (.bool (p x)) ⟨H,none⟩)):D X0 (.fn (.func QF) [] []) [v,fv] ⟨H,lo⟩=some (.ret (.bool (l.any p)) ⟨H,lo⟩):=by
 refine aF Ss λN d=>?_
 simp(disch:=omega) only[F1,go_sem,simprocAttr,Ss,ay9 v fv l H a b p none c,xu]
def azb(x:dG)(n:Nat)(f:x.op<256/\x.a<256/\x.b<256/\x.c<256/\x.n<65536)(k:n<2147483648)(H:List ae)(lo:oN):
  D X0 (.fn (.func QH) [] []) [.agg (cX x),.int .i64 n] ⟨H,lo⟩=some (.ret (.bool (rE x n)) ⟨H,lo⟩):=by
 refine aF Su λN g=>?_
 obtain⟨q,p,o,m,l⟩:=f;simp only[go_sem,simprocAttr,Su,g,IL];refine uI 5 (.bool (decide (16<x.op)&&decide (x.op<=38))) [1,2] rfl rfl ?_ λr=>?_
 ·simp(disch:=omega) only[R4,go_sem,simprocAttr,IL]
  (repeat' (first|apply And.intro|intro _))
  all_goals(refine akG AV.bool (apN.2 ?_);simp[];try(intros;omega))
 simp(disch:=omega) only[go_sem,simprocAttr,IL];refine uI 6 (.bool (decide (x.op=5)||decide (x.op=6))) [1,2,5] rfl rfl ?_ λe1=>?_
 ·simp(disch:=omega) only[R4,go_sem,simprocAttr,IL]
  (repeat' (first|apply And.intro|intro _))
  all_goals(refine akG AV.bool (apN.2 ?_);simp[];try(intros;omega))
 have a:fY qy [.int .u8 (x.a:Nat),.int .u8 (x.b:Nat),.int .u8 (x.c:Nat)]=some (.int .u8 ((max (max x.a x.b) x.c:Nat))):=by
  have e:fY qy [.int .u8 (x.a:Nat),.int .u8 (x.b:Nat),.int .u8 (x.c:Nat)]=some (.int .u8 (if(x.c:Int)>(if(x.b:Int)>x.a then(x.b:Int)else x.a)then(x.c:Int)else(if(x.b:Int)>x.a then(x.b:Int)else x.a))):=by simp[fY,qy]
  rw[e];congr 2;split<;>split<;>omega
 have b:decide (((max (max x.a x.b) x.c:Nat):Int)<8)=decide (x.a<8/\x.b<8/\x.c<8):=aht.2 (by omega);have d:decide ((x.op:Int)<=6)=decide (x.op<=6):=aht.2 (by omega);have c:decide ((x.n:Int)<n)=decide (x.n<n):=aht.2 (by omega);unfold rE;generalize decide (x.op<=6)=j at*;generalize decide (x.a<8/\x.b<8/\x.c<8)=i at*;generalize decide (x.n<n)=h at*;generalize(decide (16<x.op)&&decide (x.op<=38))=A at*;generalize(decide (x.op=5)||decide (x.op=6))=J at*;cases j<;>cases A<;>cases i<;>cases J<;>cases h<;>simp(disch:=omega) only[F1,go_sem,simprocAttr,IL,d,a,b,c,Bool.or_false,azH,atO,Bool.or_true,ayM,aCU]
def azc(v:AV)(l:List dG)(p:l.length<2147483648)(q: ∀x∈l,x.op<256/\x.a<256/\x.b<256/\x.c<256/\x.n<65536)(N:Nat)(H:List ae)(f:Rd ⟨H,none⟩ v 5 (l.map cX))(lo:oN)(r:v.refs<=H.length)(t:v.cb=false/\v.cells=[v]):
  D X0 (.fn (.func QB) [] []) [v] ⟨H,lo⟩=some (.ret (.bool (qc l)) ⟨H,lo⟩):=by
 refine aF Lm λN m=>?_
 have b: ∀lo,qJ ⟨H,lo⟩ v none=some (.ptr N 0,⟨H++[.box [v] none],lo⟩):=λlo=>by
  have s:=f.kind;subst m;cases v<;>simp only[]at s<;>rfl
 have g:=f.bL;have a:Rd ⟨H++[.box [v] none],none⟩ v 5 (l.map cX):=f.ext;have j:=aza v (.fn (.func QG) [] [.ptr N 0]) l (H++[.box [v] none]) a p (λx=>!rE x l.length) none (λx h=>by
  refine eP St λM n=>?_
  have k: ∀L,(H++(.box [v] none::L))[N]?=some (.box [v] none):=λL=>by rw[di m];rfl
  have i: ∀L,fj ⟨H++(.box [v] none::L),none⟩ .sl v=some (.int .i64 l.length):=λL=>Rd.bL (f.ext (L:=.box [v] none::L))
  have hm:=λH lo=>azb x l.length (q x h) p H lo
  have c: ∀x,Den.part true 5 (cX x) 0=some (.agg (cX x)):=λ_=>rfl
  obtain rfl:M=N+1:=by rw[<-n];simp[m]
  simp(disch:=omega) only[F1,go_sem,simprocAttr,St,n,↓c,k,i,hm];refine da rfl ?_;have e:H++[ae.box [v] none,.box (cX x) none]=(H++[.box [v] none])++[.box (cX x) none]:=by simp
  rw[e,apE n])
 unfold qc;by_cases d:l.length<=64
 ·have o: ((l.length:Nat):Int)<=64:=by omega
  rw[ag9 d,ao1];simp(disch:=omega) only[F1,go_sem,simprocAttr,Lm,b,a.bL,o,j];rw[azG]
 ·have o: ¬((l.length:Nat):Int)<=64:=by omega
  rw[ag7 d,akI];simp(disch:=omega) only[F1,go_sem,simprocAttr,Lm,b,a.bL,o]
def qo(l:lB):dG:=⟨(l.getD 0 0).toNat,(l.getD 1 0).toNat,(l.getD 2 0).toNat,(l.getD 3 0).toNat,(l.getD 4 0).toNat+256*(l.getD 5 0).toNat⟩
def azd{s:lB}(h:k+6<=s.length):rF (s.drop k)=qo (s.drop k)::rF (s.drop (k+6)):=by
 have e:s.drop (k+6)=(s.drop k).drop 6:=by simp
 rw[e];have g:6<=(s.drop k).length:=by grind
 generalize s.drop k=l at*
 match l,g with
 |a::b::c::d::e::f::r,_=>rfl
def aze(e f:Nat)(a:e<256)(d:f<256):dh .or (.int .u16 e) (.int .u16 ((f*256:Nat)))=some (.int .u16 ((e+256*f:Nat))):=by
 rw[Ie];have e1: ∀n:Nat,n<65536->(BitVec.ofInt IntKind.u16.bits (n:Int)).toNat=n:=by
  have:IntKind.u16.bits=16:=rfl
  grind
 have c:e|||f*256=e+256*f:=by
  have:=Nat.shiftLeft_add_eq_or_of_lt (b:=e) (i:=8) a f;rw[Nat.shiftLeft_eq]at this
  grind
 rw[BitVec.toNat_or,e1 e (by omega),e1 (f*256) (by omega),c];have:IntKind.wrap .u16 ((e+256*f:Nat):Int)=((e+256*f:Nat):Int):=by
  unfold IntKind.wrap IntKind.bits IntKind.signed;grind
 rw[this]
def azf(f:Nat)(a:f<256):k5 .shl (.int .u16 f) (.int .u64 8)=some (.int .u16 ((f*256:Nat))):=by
 rw[AL,afJ (by omega)];have:IntKind.wrap .u16 ((f:Int)*2^(min (8:Int).toNat IntKind.u16.bits))=((f*256:Nat):Int):=by
  have h:min (8:Int).toNat IntKind.u16.bits=8:=rfl;rw[h];unfold IntKind.wrap IntKind.bits IntKind.signed;grind
 rw[this]
def azg{H:List ae}{n:Nat}{s:lB}(k:H[n]?=some (.box [.int .u8 0,.int .u8 0,.int .u8 0,.int .u8 0,.int .u8 0,.int .u8 0] none))(j:6<=s.length):
  rW ⟨H,lo⟩ 1 (.fa n 1 0 6) (S s)=some (.int .i64 6,⟨H.set n (.box [.int .u8 (s.getD 0 0).toNat,.int .u8 (s.getD 1 0).toNat,.int .u8 (s.getD 2 0).toNat,.int .u8 (s.getD 3 0).toNat,.int .u8 (s.getD 4 0).toNat,.int .u8 (s.getD 5 0).toNat] none),lo⟩):=by
 match s,j with
 |a::b::c::d::e::f::r,_=>
  have l:Db ⟨H,lo⟩ 1 (S (a::b::c::d::e::f::r))=some ((a::b::c::d::e::f::r).map λx=>[.int .u8 x.toNat]):=by
   simp only[Db,S,aiZ];rfl
  have i:b8 ((a::b::c::d::e::f::r).map λx:UInt8=>[AV.int .u8 x.toNat])=0:=bD (g:=λx:UInt8=>[AV.int .u8 x.toNat]) (λ_=>rfl) _;have h: ((a::b::c::d::e::f::r).map λx:UInt8=>[AV.int .u8 x.toNat]).all (λel=>el.length==1)=true:=by simp
  have m: ((a::b::c::d::e::f::r).map λx:UInt8=>[AV.int .u8 x.toNat]).length.min 6=6:=by
   show min _ 6=6;simp
  simp only[rW,l,k,m,i,AS.set,h];rw[afJ ⟨trivial,by decide,trivial⟩,afJ (aha _)];rfl
def azh(l:lB): (qo l).op<256/\ (qo l).a<256/\ (qo l).b<256/\ (qo l).c<256/\ (qo l).n<65536:=by
 have h: ∀u:UInt8,u.toNat<256:=λu=>u.toNat_lt
 refine⟨h _,h _,h _,h _,?_⟩;have b:=h (l.getD 4 0);have a:=h (l.getD 5 0);show(l.getD 4 0).toNat+256*(l.getD 5 0).toNat<65536;omega
def gk(s:lB)(k:Nat):List dG:=(List.range k).map λi=>qo (s.drop (6*i))
def WY(s:lB)(k:Nat):gk s (k+1)=gk s k++[qo (s.drop (6*k))]:=by unfold gk;rw[ary,ahs];rfl
theorem amv{s:lB}: ∀m k,6*(k+m)=s.length->gk s k++rF (s.drop (6*k))=gk s (k+m)
 |0,k,h=>by
  have:s.drop (6*k)=[]:=al6 (by omega);rw[this];simp[rF]
 |m+1,k,h=>by
  have hle:6*k+6<=s.length:=by omega
  rw[azd hle];have:=amv (s:=s) m (k+1) (by omega);rw[WY]at this
  grind
def amw{s:lB}(h:s.length % 6=0):rF s=gk s (s.length/6):=by
 have:=amv (s:=s) (s.length/6) 0 (by omega);simpa[gk]using this
def amx(s:lB)(H:List ae)(lo:oN):
  ∃v,D X0 (.fn (.func D7) [] []) [S s] ⟨H,lo⟩=some (.ret (.au [v,.int .i64 (if(decode s).isSome then 0 else 3:Nat)]) ⟨H,lo⟩)/\Rv v 5 (((decode s).getD []).map cX):=by
 suffices B: ∃o,D X0 (.fn (.func D7) [] []) [S s] ⟨H,lo⟩=some o/\ (λo=> ∃v,o=aS.ret (.au [v,.int .i64 (if(decode s).isSome then 0 else 3:Nat)]) ⟨H,lo⟩/\Rv v 5 (((decode s).getD []).map cX)) o by grind
 refine cy FA λN A=>?_
 have tm: ((s.length:Nat):Int).tmod 6=((s.length % 6:Nat):Int):=by rfl
 by_cases G:s.length % 6=0
 ·have c:decide (((s.length % 6:Nat):Int)=0)=true:=ag9 (by omega);by_cases T:s.length<=384
  ·have g: ¬((s.length:Nat):Int)>384:=by omega
   simp only[go_sem,simprocAttr,FA,tm,c,g];refine dV (s.length/6) (λk e W=>e 0=S (s.drop (6*k))/\H<+:W/\aQ N W (e 4) 5 af4 ((gk s k).map cX)) 0 (by omega) ?_ ?_
   ·simp only[go_sem,simprocAttr];exact⟨arT,aQ.ai⟩
   rintro k R e W ⟨d,a,h⟩ n C;have K: (s.drop (6*k)).length=s.length-6*k:=ao2 ..;simp only[bR,go_sem,simprocAttr,ago,d,C];refine⟨λO=>?_,λO=>?_⟩
   ·have f:k<s.length/6:=by omega
    have P:6<=(s.drop (6*k)).length:=by omega
    have z:=λlo=>azg (lo:=lo) (H:=W++[.box [.int .u8 0,.int .u8 0,.int .u8 0,.int .u8 0,.int .u8 0,.int .u8 0] none]) (n:=n) (s:=s.drop (6*k)) (by rw[di C];rfl) P
    have r:ur (S (s.drop (6*k))) (some (.int .i64 6)) none=some (S (s.drop (6*(k+1)))):=by
     rw[Ig,afJ ⟨by omega,by omega⟩,arv];rfl
    have E:qo (s.drop (6*k))=qo (s.drop (6*k)):=rfl;have F: ∀j,((s.drop (6*k)).getD j 0).toNat<256:=λj=>UInt8.toNat_lt _
    have Q:=F 4;have I:=F 5;have w:=aze _ _ Q I;have t:=azf _ I;simp(disch:=omega) only[go_sem,simprocAttr,d,alf,z,w,t];have l: (gk s k).length=k:=by simp[gk]
    refine po (N:=N) (H0:=H) (bytes:=6) (ys:=[cX (qo (s.drop (6*k)))]) h.ext (a.trans (ar2 _ _)) A (by omega) (by intro el y;rw[ahe.1 y];rfl) rfl (by rw[ahh,l];show(k+1)*6<=room;unfold room;omega) λv' U p u=>?_
    simp only[go_sem,simprocAttr,d,r];refine⟨f,u,?_⟩;rw[WY,ahs];exact p
   ·have f:k=s.length/6:=by omega
    have m:rF s=gk s k:=by rw[f];exact amw G
    have l: (gk s k).length=k:=by simp[gk]
    have b:=λlo=>azc (e 4) (gk s k) (by omega) (λx B=>by
     obtain⟨i,_,rfl⟩:=ahk.1 B;exact azh _) 0 W (mc h none) lo (by
     rcases h.2 with⟨q,_⟩| ⟨id,aj,_,q,J⟩
     ·rw[q];exact aha _
     ·rw[q];have:=eY J;simp only[AV.refs];omega) (oP (mc h none))
    have d:decode s=if qc (gk s k)then some (gk s k)else none:=by unfold decode;rw[afB (by omega),m]
    rw[d];cases hm:qc (gk s k)with
    |true=>
     rw[hm]at b;simp only[go_sem,simprocAttr,b];rw[h.aeW (by rw[bD (λ_=>rfl)];omega) (aha _)];exact⟨_,da rfl (lr A λi M=>by obtain⟨L,rfl⟩:=a;rw[aeT (by omega)]),aQ.sh h⟩
    |false=>
     rw[hm]at b;simp only[go_sem,simprocAttr,b];rw[xC rfl];exact⟨.ai,da rfl (lr A λi M=>by obtain⟨L,rfl⟩:=a;rw[aeT (by omega)]),.ai⟩
  ·have g: ((s.length:Nat):Int)>384:=by omega
   have d:decode s=none:=by unfold decode;rw[afJ (.inr (by omega))]
   rw[d];simp(disch:=omega) only[F1,go_sem,simprocAttr,FA,tm,c,g];exact⟨.ai,rfl,.ai⟩
 ·have c:decide (((s.length % 6:Nat):Int)=0)=false:=ag7 (by omega);have d:decode s=none:=by unfold decode;rw[afJ (.inl G)]
  rw[d];simp(disch:=omega) only[F1,go_sem,simprocAttr,FA,tm,c];exact⟨.ai,rfl,.ai⟩
def azi(b:UInt8)(H:List ae)(lo:oN):D X0 (.fn (.func Qv) [] []) [.int .u8 b.toNat] ⟨H,lo⟩=some (.ret (.bool (lq b.toNat)) ⟨H,lo⟩):=by
 refine aF R6 λN h=>?_
 generalize b.toNat=n at*;have e1:decide ((n:Int)<8)=decide (n<8):=aht.2 (by omega);have c:decide ((n:Int)=8)=decide (n=8):=aht.2 (by omega);have e3:decide (16<=(n:Int))=decide (16<=n):=aht.2 (by omega);have a:decide ((n:Int)<24)=decide (n<24):=aht.2 (by omega);unfold lq;generalize decide (n<8)=g at*;generalize decide (n=8)=f at*;generalize decide (16<=n)=e at*;generalize decide (n<24)=d at*;cases g<;>cases f<;>cases e<;>cases d<;>simp(disch:=omega) only[F1,go_sem,simprocAttr,R6,e1,c,e3,a,Bool.or_false,azH,atO,Bool.or_true]
def azj(p:lB)(H:List ae)(lo:oN):D X0 (.fn (.func IX) [] []) [S p] ⟨H,lo⟩=some (.ret (.bool (!(decode p).isSome)) ⟨H,lo⟩):=by
 refine aF Le λN b=>?_
 obtain⟨v,d1,_⟩:=amx p H none;cases a: (decode p).isSome with
 |true=>
  rw[a]at d1;simp(disch:=omega) only[F1,go_sem,simprocAttr,Le,d1]
 |false=>
  rw[a]at d1;simp(disch:=omega) only[F1,go_sem,simprocAttr,Le,d1]
def azk(b:UInt8)(H:List ae)(lo:oN):D X0 (.fn (.func IY) [] []) [.int .u8 b.toNat] ⟨H,lo⟩=some (.ret (.bool (!lq b.toNat)) ⟨H,lo⟩):=by
 refine aF R5 λN a=>?_
 simp(disch:=omega) only[F1,go_sem,simprocAttr,R5,azi]
structure GX(aM:Int)(aC:List lB)(aW:lB)(pv kv:AV):Prop where
 pr:Rv pv 1 (aC.map sC)
 pk:Rv kv 1 (aW.map bC)
 np:aC.length<1099511627776
 nk:aW.length<1099511627776
def azl{a:Int}{c:lB}(h:GX a aC c pv kv)(o: -9223372036854775808<=a/\a<9223372036854775808)(H:List ae)(lo:oN):
  D X0 (.fn (.func Qj) [] []) [.agg [.int .i64 a,pv,kv]] ⟨H,lo⟩=some (.ret (.bool (nC ⟨a,aC,c.map UInt8.toNat⟩)) ⟨H,lo⟩):=by
 refine aF RQ λN s=>?_
 have q:=cO h.pr (bD (λ_=>rfl) _);have r:=cO h.pk (bD (λ_=>rfl) _);have d:=λH lo=>atA pv (.fn (.func IX) [] []) aC h.pr h.np (λp=>!(decode p).isSome) H lo (λx _=>azj x H none)
 have e:=λH lo=>aty kv (.fn (.func IY) [] []) c h.pk h.nk (λb=>!lq b.toNat) H lo (λx _=>azk x H none)
 have n: (!aC.any λp=>!(decode p).isSome)=aC.all λp=>(decode p).isSome:=azG.symm
 have m: (!c.any λb=>!lq b.toNat)=c.all λb=>lq b.toNat:=azG.symm
 have l:nC ⟨a,aC,c.map UInt8.toNat⟩=(decide (1<=a/\a<=64/\1<=aC.length/\aC.length<=8/\c.length<=4000)&&aC.all (λp=>(decode p).isSome)&&c.all λb=>lq b.toNat):=by
  unfold nC;simp only[ahh,List.all_map];rfl
 have e1:decide (1<=a/\a<=64/\1<=aC.length/\aC.length<=8/\c.length<=4000)=(!decide (a<1)&& !decide (64<a)&& !decide ((aC.length:Int)<1)&& !decide (8< (aC.length:Int))&& !decide (4000< (c.length:Int))):=by
  rw[apN];simp;omega
 rw[l,e1,<-n,<-m];generalize k:decide (a<1)=A;generalize j:decide (64<a)=z;generalize i:decide ((aC.length:Int)<1)=y;generalize g:decide (8< (aC.length:Int))=w;generalize f:decide (4000< (c.length:Int))=v;generalize(aC.any λp=>!(decode p).isSome)=u at*;generalize(c.any λb=>!lq b.toNat)=t at*;clear n m l e1;cases A<;>cases z<;>cases y<;>cases w<;>cases v<;>simp only[F1,go_sem,simprocAttr,RQ,s,h.pr.bL,h.pk.bL,k,j,i,g,f,akI,atO,ayM,aCU,azH,ao1];cases u<;>cases t<;>simp(disch:=omega) only[F1,go_sem,simprocAttr,d,e,atO,ayM,aCU,azH]
def azm(p:lB)(H:List ae)(lo:oN):
  ∃cv,D X0 (.fn (.func Qm) [] []) [S p] ⟨H,lo⟩=some (.ret (.au [.agg (cY {sZ with code:=(decode p).getD []} cv),.int .i64 (if(decode p).isSome then 0 else 3:Nat)]) ⟨H,lo⟩)/\Rv cv 5 (((decode p).getD []).map cX):=by
 obtain⟨N,c⟩: ∃N,H.length=N:=⟨_,rfl⟩;obtain⟨v,d1,d2⟩:=amx p (H++[.box [.ai,.int .i64 0,.int .u64 0,.int .u64 0,.int .u64 0,.int .u64 0,.int .u64 0,.int .u64 0,.int .u64 0,.int .u64 0] none]) none;have a:=cO d2 (bD (λ_=>rfl) _);obtain⟨t1,t2⟩:=oP (d2 ⟨[],none⟩);cases b:decode p with
 |some l=>
  rw[b]at d1 d2;refine⟨v,?_,d2⟩;refine aF Fw λM d=>?_
  obtain rfl:M=N:=by omega
  simp only[F1,go_sem,simprocAttr,Fw,c,d1,t1,t2,a,pq];rfl
 |none=>
  rw[b]at d1 d2;simp only[ayY,ahf,amJ]at d1;refine⟨.ai,?_,.ai⟩;refine aF Fw λM d=>?_
  obtain rfl:M=N:=by omega
  simp only[F1,go_sem,simprocAttr,Fw,c,d1,pq];rfl
def xQ(r:Runner)(cv rv:AV):lA:=cY r.t cv++(bK r.c rv++[.bool r.busy,.int .i64 r.fr])
def jV(e:Event):lA:=[.int .i64 e.aa]++(bf e.c++(ay e.run++(bF e.r++[.int .i64 e.fr,.int .i64 e.to])))
def cw(m:aX)(p:Nat)(aB aI:Nat->AV)(ev:AV):lA:=[.ptr p 0]++(arr 8 (λi=>xQ (m.aA i) (aB i) (aI i))++[.int .i64 m.now,ev])
section
variable{m:aX}{p:Nat}{aB aI:Nat->AV}{ev:AV}{i:Nat}
theorem Nm: (arr 8 (λi=>xQ (m.aA i) (aB i) (aI i))).length=192:=by rfl
theorem oU: (cw m p aB aI ev).length=195:=by rfl
def GY{ag:Bool}{o:Nat}(h:i<8)(ho:o+k<=24)(a:0<k):Den.part ag k (cw m p aB aI ev) (1+i*24+o)=Den.part ag k (xQ (m.aA i) (aB i) (aI i)) o:=by
 unfold cw;rw[kh (by grind),show 1+i*24+o- [AV.ptr p 0].length=i*24+o by grind,rh (by rw[Nm];omega) a];exact ki (k:=24) (f:=λi=>xQ (m.aA i) (aB i) (aI i)) (λ_=>rfl) h ho a
theorem qq: (cw m p aB aI ev)[0]?=some (.ptr p 0):=rfl
theorem CU: (cw m p aB aI ev)[193]?=some (.int .i64 m.now):=by rfl
theorem amy: (cw m p aB aI ev)[194]?=some ev:=by rfl
theorem xR(h:i<8): (cw m p aB aI ev)[1+i*24+22]?=some (.bool (m.aA i).busy):=GY (ag:=false) (k:=1) h (by omega) (by omega)
theorem azn(h:i<8): (cw m p aB aI ev)[1+i*24+23]?=some (.int .i64 (m.aA i).fr):=GY (ag:=false) (k:=1) h (by omega) (by omega)
theorem Nn(h:i<8):Den.part true 10 (cw m p aB aI ev) (1+i*24)=some (.agg (cY (m.aA i).t (aB i))):=GY (o:=0) h (by omega) (by omega)
theorem CV(h:i<8):Den.part true 12 (cw m p aB aI ev) (1+i*24+10)=some (.agg (bK (m.aA i).c (aI i))):=GY h (by omega) (by omega)
theorem No(h:i<8):Den.part true 2 (cw m p aB aI ev) (1+i*24+19)=some (.agg (ay (m.aA i).c.run)):=GY h (by omega) (by omega)
theorem amz{n:Nat}:aH (cw m p aB aI ev) 193 [.int .i64 n]=cw {m with now:=n} p aB aI ev:=by rfl
def amA:aH (cw m p aB aI ev) 194 [v]=cw m p aB aI v:=by
 unfold cw;rw[gr (by simp),gr (by rw[Nm];simp),Nm];rfl
def GZ{o:Nat}{vs:lA}{r:Runner}{cv:AV}(h:i<8)(ho:o+vs.length<=24)(a:aH (xQ (m.aA i) (aB i) (aI i)) o vs=xQ r cv rv):
  aH (cw m p aB aI ev) (1+i*24+o) vs=cw {m with aA:=aq m.aA i r} p (aq aB i cv) (aq aI i rv) ev:=by
 unfold cw;rw[gr (by grind),show 1+i*24+o- [AV.ptr p 0].length=i*24+o by grind,ri (by rw[Nm];omega),nf (k:=24) (f:=λi=>xQ (m.aA i) (aB i) (aI i)) (λ_=>rfl) h ho,a]
 congr 2
 refine zr λj _=>?_
 by_cases e:j=i
 ·subst e;simp only[cT]
 ·simp only[dj e]
def WZ{b:Bool}(h:i<8):aH (cw m p aB aI ev) (1+i*24+22) [.bool b]=cw {m with aA:=aq m.aA i {m.aA i with busy:=b}} p aB aI ev:=by
 have:=GZ (m:=m) (p:=p) (aB:=aB) (aI:=aI) (ev:=ev) (o:=22) (vs:=[.bool b]) (r:={m.aA i with busy:=b}) (cv:=aB i) (rv:=aI i) h (by simp) rfl;rwa[mH,mH]at this
def azo{n:Nat}(h:i<8):aH (cw m p aB aI ev) (1+i*24+23) [.int .i64 n]=cw {m with aA:=aq m.aA i {m.aA i with fr:=n}} p aB aI ev:=by
 have:=GZ (m:=m) (p:=p) (aB:=aB) (aI:=aI) (ev:=ev) (o:=23) (vs:=[.int .i64 n]) (r:={m.aA i with fr:=n}) (cv:=aB i) (rv:=aI i) h (by simp) rfl;rwa[mH,mH]at this
def amB{t:Task}(h:i<8):aH (cw m p aB aI ev) (1+i*24) (cY t (aB i))=cw {m with aA:=aq m.aA i {m.aA i with t:=t}} p aB aI ev:=by
 have:=GZ (m:=m) (p:=p) (aB:=aB) (aI:=aI) (ev:=ev) (o:=0) (vs:=cY t (aB i)) (r:={m.aA i with t:=t}) (cv:=aB i) (rv:=aI i) h (by rw[xP];omega) rfl;rwa[mH,mH]at this
def Ab{c:Call}(h:i<8):aH (cw m p aB aI ev) (1+i*24+10) (bK c rv)=cw {m with aA:=aq m.aA i {m.aA i with c:=c}} p aB (aq aI i rv) ev:=by
 have:=GZ (m:=m) (p:=p) (aB:=aB) (aI:=aI) (ev:=ev) (o:=10) (vs:=bK c rv) (r:={m.aA i with c:=c}) (cv:=aB i) (rv:=rv) h (by rw[show(bK c rv).length=12 from rfl];omega) rfl;rwa[mH]at this
theorem aEc{x:Core}:cw {m with az:=x} p aB aI ev=cw m p aB aI ev:=rfl
end
def Mu2(o:ae):Prop:=Mu o\/ ∃a d,o= .row a 14 pD d
structure Fm(n:Nat)(S:lN)(H H':List ae):Prop where
 len:H.length<=H'.length
 low: ∀i,i<n->H'[i]?=H[i]?
 box: ∀i o,i∉S-> ¬Mu2 o->H[i]?=some o->H'[i]?=some o
section
variable{n:Nat}{S T:lN}{A B C H W:List ae}
theorem Fm.refl:Fm n S A A:=⟨ahd _,λ_ _=>rfl,λ_ _ _ _ h=>h⟩
theorem Fm.trans(h:Fm n S A B)(g:Fm n S B C):Fm n S A C:=⟨akH h.len g.len,λi a=>(g.low i a).trans (h.low i a),λi o a ho b=>g.box i o a ho (h.box i o a ho b)⟩
theorem Fq.fm(h:Fq n S A B)(a: ∀i∈S,i∈T):Fm n T A B:=⟨h.len,h.low,λi o b ho c=>h.box i o (λq=>b (a i q)) (λq=>ho (.inl q)) c⟩
theorem Fm.set(a:p∈S)(b:n<=p)(o:ae):Fm n S A (A.set p o):=(Fq.set a b o).fm λ_ h=>h
theorem Fm.app(L:List ae)(a:n<=A.length):Fm n S A (A++L):=(Fq.app L a).fm λ_ h=>h
theorem Fm.take{N:Nat}(h:Fm n S A B)(d:A.length=N)(c:n<=N):Fm n S A (B.take N):=⟨by rw[ai1];have:=h.len;omega,λi a=>by rw[aiX (by omega)];exact h.low i a,λi o a ho b=>by
 have:=eY b;rw[aiX (by omega)];exact h.box i o a ho b⟩
theorem Fm.own{cs:lA}(h:Fm n S A B)(b:p∉S)(c:A[p]?=some (.box cs tg)):B[p]?=some (.box cs tg):=h.box p _ b (λq=>by rcases q with⟨a,d,q⟩| ⟨a,d,q⟩<;>cases q) c
theorem Fm.out(h:Fm n T H W)(e:H.length<=i)(c:n<=H.length)(o:ae):Fm n T H (W.set i o):=⟨by rw[ahq];exact h.len,λj a=>by rw[aeR (by omega)];exact h.low j a,λj o a ho b=>by
 have d:=eY b;rw[aeR (by omega)];exact h.box j o a ho b⟩
theorem Fm.pre{L:List ae}(h:Fm n S (H++L) W)(a:n<=H.length):Fm n S H W:=(Fm.app L a).trans h
end
structure bu(n M p q:Nat)(m:aX)(qv ev:AV)(aB aI:Nat->AV)(H:List ae):Prop where
 nM:n<=M
 Mq:M<q
 co:dw n p q m.az qv H
 box:H[M]?=some (.box (cw m p aB aI ev) none)
 uj:cW (M+1) H ev 14 pD (m.cH.map jV)
 cv: ∀i,Rv (aB i) 5 ((m.aA i).t.code.map cX)
 rv: ∀i,Rv (aI i) 1 ((m.aA i).c.aT.map hC)
section
variable{n M p q:Nat}{m:aX}{qv ev:AV}{aB aI:Nat->AV}{H:List ae}
theorem bu.lt(h:bu n M p q m qv ev aB aI H):M<H.length:=eY h.box
theorem bu.app(h:bu n M p q m qv ev aB aI H)(L:List ae):bu n M p q m qv ev aB aI (H++L):=⟨h.nM,h.Mq,h.co.app L,bc h.box,h.uj.app L,h.cv,h.rv⟩
def bu.Mn(h:bu n M p q m qv ev aB aI H):M∉[p,q]:=by have:=h.Mq;have:=h.co.qp;grind
theorem bu.az{W:List ae}{c:Core}{b:AV}(h:bu n M p q m qv ev aB aI H)(f:dw n p q c b W)(e:Fq n [p,q] H W):bu n M p q {m with az:=c} b ev aB aI W:=
 ⟨h.nM,h.Mq,f,e.own h.Mn h.box,h.uj.nX λid aj all hr=>e.box id _ (by
   have j:=h.co.box;have g:=h.co.hZ
   grind) (λq=>by obtain⟨a,d,q⟩:=q;cases q) hr,h.cv,h.rv⟩
theorem bu.set(h:bu n M p q m qv ev aB aI H){m':aX}{nQ a:Nat->AV}(d:m'.az=m.az)(e:m'.cH=m.cH)(c: ∀i,Rv (nQ i) 5 ((m'.aA i).t.code.map cX))(b: ∀i,Rv (a i) 1 ((m'.aA i).c.aT.map hC)):
  bu n M p q m' qv ev nQ a (H.set M (.box (cw m' p nQ a ev) none)):=
 ⟨h.nM,h.Mq,d ▸ h.co.set h.box (by have:=h.Mq;have:=h.co.qp;omega) (by have:=h.Mq;omega) _,cG h.box,e ▸ h.uj.set h.box _,c,b⟩
theorem bu.fM(h:bu n M p q m qv ev aB aI H)(o:ae):Fm n [M,p,q] H (H.set M o):=Fm.set (by simp) h.nM o
theorem bu.fc{W:List ae}(h:Fq n [p,q] H W):Fm n [M,p,q] H W:=h.fm λi a=>by grind
theorem bu.other(h:bu n M p q m qv ev aB aI H){cs:lA}(a:H[i]?=some (.box cs tg))(d:i≠p)(c:i≠q)(b:i≠M)(o:ae):bu n M p q m qv ev aB aI (H.set i o):=
 ⟨h.nM,h.Mq,h.co.set a d c o,(aeR b).trans h.box,h.uj.set a _,h.cv,h.rv⟩
theorem bu.oR{W j:List ae}{N:Nat}{b c:AV}{d a:Nat->AV}{l:aX}(h:bu n M p q m qv ev aB aI W)(e:j=W\/ (j=W.take N/\Q))(k:Q->qv=b/\ev=c)(g:bu n M p q l b c d a H0)(f:H0.length=N):bu n M p q m qv ev aB aI j:=
 ⟨h.nM,h.Mq,h.co.oR e (λq=>(k q).1) g.co f,Ni e (by rw[<-f];exact g.lt) h.box,cW.oR h.uj e (λq=>(k q).2) g.uj f,h.cv,h.rv⟩
end
def fT(n M p q:Nat)(H:List ae)(lo:oN)(m':aX)(qv ev:AV)(r:AV)(d:aS):Prop:=
 ∃b c nQ a H' ak,d= .ret r ⟨H',ak⟩/\bu n M p q m' b c nQ a H'/\Fm n [M,p,q] H H'/\ew (b=qv/\c=ev) p H H' lo ak
def fT.fin{n N:Nat}{o:aX}{a c:AV}{e d:Nat->AV}{H W:List ae}{b:oN}(f:bu n M p q o a c e d H)(l:H.length=N)(h:bu n M p q m qv ev aB aI W)(g:Fm n [M,p,q] H W)(s:eJ (qv=a/\ev=c) p b)(r:v.refs<=N):
  fT n M p q H lo m a c v (.ret (finish N lo v ⟨W,b⟩).1 (finish N lo v ⟨W,b⟩).2):=by
 have x:=f.lt;have w:=f.nM;have u:=f.co.lt;rcases s with⟨rfl,k⟩| ⟨j,t,rfl⟩
 ·rw[iU (.inl rfl) r];refine⟨qv,ev,aB,aI,_,lo,rfl,h.oR (.inr ⟨rfl,k⟩) id f l,g.take l (by omega),.inl ⟨rfl,?_,k⟩⟩;rw[ai1];have:=g.len;omega
 ·rw[vS (by omega)];exact⟨qv,ev,aB,aI,W,cA lo j,rfl,h,g,.inr ⟨j,t,rfl⟩⟩
theorem fT.same{n:Nat}{H:List ae}{r:AV}(h:bu n M p q m qv ev aB aI H):fT n M p q H lo m qv ev r (.ret r ⟨H,lo⟩):=⟨qv,ev,aB,aI,H,lo,rfl,h,Fm.refl,ew.same ⟨rfl,rfl⟩⟩
structure dE(m:aX):Prop where
 az:jT m.az
 t: ∀i,lD (m.aA i).t
 c: ∀i,fI (m.aA i).c
 fr: ∀i,(m.aA i).fr<2147483648
 now:m.now<2147483648
 ev:m.cH.length<2147483648
 run: ∀i,(m.aA i).c.run.1<=64/\ (m.aA i).c.run.2<=64
def Np{n:Nat}{H:List ae}(h:bu n M p q m qv ev aB aI H)(t:Nat)(lo:oN):D XC (.fn (.func A6) [] []) [.ptr M 0,.int .i64 t] ⟨H,lo⟩=some (.ret (.bool (qd m t)) ⟨H,lo⟩):=by
 refine aF K7 λN e=>?_
 have d: (t:Int)>=0:=by omega
 unfold qd;by_cases c:t<8
 ·have a: (t:Int)<8:=by omega
  have b: (cz m.az q qv)[936+t]?=some (.bool (m.az.S.alive t)):=by
   have:Den.part false 1 (cz m.az q qv) (936+t)=some (.bool (m.az.S.alive t)):=by
    unfold cz;rw[rh (by rw[eU];omega) (by omega)];exact ahX c
   exact this
  rw[ag9 c,ao1];simp(disch:=omega) only[F1,go_sem,simprocAttr,K7,d,a,h.box,h.co.box,qq,b]
 ·have a: ¬(t:Int)<8:=by omega
  rw[ag7 c,akI];simp(disch:=omega) only[F1,go_sem,simprocAttr,K7,d,a]
theorem amC:jQ nz:=⟨by decide,by decide,by decide,by decide,by decide,by decide⟩
theorem CW:fI gw:=⟨by decide,amC,(λh a=>by cases a),⟨by decide,by decide⟩,by decide⟩
theorem bu.G4{n:Nat}{H:List ae}(h:bu n M p q m qv ev aB aI H)(i:Nat)(r:Runner)(cv rv:AV)(b:Rv cv 5 (r.t.code.map cX))(a:Rv rv 1 (r.c.aT.map hC)):
  bu n M p q {m with aA:=aq m.aA i r} qv ev (aq aB i cv) (aq aI i rv) (H.set M (.box (cw {m with aA:=aq m.aA i r} p (aq aB i cv) (aq aI i rv) ev) none)):=
 h.set rfl rfl (λj=>by
  show Rv (aq aB i cv j) 5 ((aq m.aA i r j).t.code.map cX);by_cases e:j=i
  ·subst e;rw[cT,cT];exact b
  ·rw[dj e,dj e];exact h.cv j) λj=>by
  show Rv (aq aI i rv j) 1 ((aq m.aA i r j).c.aT.map hC);by_cases e:j=i
  ·subst e;rw[cT,cT];exact a
  ·rw[dj e,dj e];exact h.rv j
def jT.queue{x:Core}(b:jT x){r:aE}(c:r.1<=64/\r.2<=64)(d:x.Q.length+r.2<8589934592):jT (cU x r):=by
 have f: (cU x r).Q.length=x.Q.length+r.2:=by simp[cU,iR]
 refine⟨b.S,b.P,b.M,λk a=>?_,by omega⟩;rcases ahb.1 a with a|a
 ·exact b.Q k a
 ·obtain⟨i,e,rfl⟩:=ahk.1 a
  grind
def jT.cut{x:Core}(a:jT x){c:Call}(b:c.run.1<=64/\c.run.2<=64)(d:x.Q.length+c.run.2<8589934592):jT (vA x c):=by
 have:=a.queue b d;exact⟨this.S,this.P,Wr this.M _,this.Q,this.Ql⟩
def amD(x:Core)(c:Call): (vA x c).Q.length=x.Q.length+c.run.2:=by simp[vA,cU,iR]
def dE.azq(h:dE m)(i:Nat)(a:m.az.Q.length<4294967296):dE (nA m i)/\ (nA m i).az.Q.length<=m.az.Q.length+64:=by
 unfold nA;split
 ·have hr:=h.run i;refine⟨⟨h.az.cut hr (by omega),λj=>?_,λj=>?_,λj=>?_,h.now,h.ev,λj=>?_⟩,?_⟩
  ·show lD (aq m.aA i _ j).t;unfold aq;split
   ·exact h.t i
   ·exact h.t j
  ·show fI (aq m.aA i _ j).c;unfold aq;split
   ·exact CW
   ·exact h.c j
  ·show(aq m.aA i _ j).fr<_;unfold aq;split
   ·exact h.fr i
   ·exact h.fr j
  ·show(aq m.aA i _ j).c.run.1<=64/\ (aq m.aA i _ j).c.run.2<=64;unfold aq;split
   ·exact⟨by show 0<=64;omega,by show 0<=64;omega⟩
   ·exact h.run j
  ·show(vA _ _).Q.length<=_;rw[amD];omega
 grind
def ja(m:aX)(k:Nat):aX:=(List.range k).foldl nA m
def W4(m:aX)(k:Nat):ja m (k+1)=nA (ja m k) k:=by unfold ja;rw[ary,ao4];rfl
theorem W5{m:aX}(h:dE m)(a:m.az.Q.length<1073741824): ∀k,k<=8->dE (ja m k)/\ (ja m k).az.Q.length<=m.az.Q.length+64*k
 |0,_=>⟨h,by show m.az.Q.length<=_;omega⟩
 |k+1,c=>by
  obtain⟨b,f⟩:=W5 h a k (by omega);obtain⟨e,d⟩:=b.azq k (by omega);rw[W4]
  grind
def azr{n:Nat}{H:List ae}(u:bu n M p q m qv ev aB aI H)(X:dE m)(Z:m.az.Q.length<1073741824)(lo:oN):
  ∃O,D XC (.fn (.func IK) [] []) [.ptr M 0] ⟨H,lo⟩=some O/\fT n M p q H lo (mN m) qv ev (.au []) O:=by
 have ho:Old M H (.box (cw m p aB aI ev) none):=⟨u.box⟩;refine cy RP λN L=>?_
 have G5:M<N:=by rw[<-L];exact u.lt
 have U:p<N:=by rw[<-L];exact u.co.lt
 have V:=u.nM;have hMq:=u.Mq;have S:=u.co.qp;simp only[go_sem,simprocAttr,RP];refine gS 8 (λk e W ak=> ∃i h d g,e 0= .ptr M 0/\e 4= .int .i64 k/\bu n M p q (ja m k) i h d g W/\eJ (i=qv/\h=ev) p ak/\Fm n [M,p,q] H W) 0 (by omega) ?_ ?_
 ·refine⟨qv,ev,aB,aI,?_⟩;simp only[go_sem,simprocAttr];exact⟨u,eJ.no trivial,Fm.refl⟩
 rintro k hk e W ak ⟨i,h,d,g,C,B,l,r,A⟩ nn hn;simp only[bR,go_sem,simprocAttr,agm,C,B];refine⟨λY=>?_,λY=>?_⟩
 ·have f:k<8:=by omega
  have w: (0:Int)<=k/\ (k:Int)<8:=by omega
  obtain⟨x,T⟩:=W5 X Z k (by omega);have s:=λlo=>Np l k lo
  have hs:=W4 m k;cases y: ((ja m k).aA k).busy with
  |false=>
   have e1:nA (ja m k) k=ja m k:=afB (by rw[y];simp);simp(disch:=omega) only[go_sem,simprocAttr,C,B,w,l.box,xR f,y];exact⟨f,i,h,d,g,by rw[hs,e1];exact l,r,A⟩
  |true=>
   cases z:qd (ja m k) k with
   |true=>
    rw[z]at s;have e1:nA (ja m k) k=ja m k:=afB (by rw[z];simp);simp(disch:=omega) only[go_sem,simprocAttr,C,B,w,l.box,xR f,y,s];exact⟨f,i,h,d,g,by rw[hs,e1];exact l,r,A⟩
   |false=>
    rw[z]at s;have e1:nA (ja m k) k={ja m k with az:=vA (ja m k).az ((ja m k).aA k).c,aA:=aq (ja m k).aA k {(ja m k).aA k with busy:=false,c:=gw}}:=afJ ⟨y,z⟩;obtain⟨O,g1,E,W3,Q,rfl,g2,P,g4⟩:=alB l.co x.az _ (x.c k) _ (cO (l.rv k) (bD (λ_=>rfl) _)) ak;have j:=l.az g2 P;have R: [AV.int .i64 0,.int .u8 0,.int .u32 0,.int .u32 0,.int .u32 0,.int .u32 0,.int .u64 0,.bool false,.ai,.int .i64 0,.int .i64 0,.int .i64 0]=bK gw .ai:=rfl;have J:aG (bK gw .ai)=0:=rfl;have K: (bK gw .ai).length=12:=rfl;have I:1+k*24+22+1<=195:=by omega
    have G:1+k*24+10+12<=195:=by omega
    have F:=λo=>cG (o:=o) j.box
    simp(disch:=omega) only[go_sem,simprocAttr,C,B,w,l.box,xR f,qq,↓CV f,y,s,g1,j.box,oU,WZ f,Ab f,R,J,K,I,G,F,anu,sI,cT];have t:=j.G4 k {(ja m k).aA k with busy:=false,c:=gw} (d k) .ai (j.cv k) .ai;rw[mH]at t;refine⟨f,E,h,d,aq g k .ai,?_,r.step g4 (λa b=>⟨b.trans a.1,a.2⟩),(A.trans (bu.fc P)).trans (j.fM _)⟩;rw[hs,e1];exact t
 ·obtain rfl:k=8:=by omega
  exact fT.fin (v:=.au []) u L l A r (aha _)
def W7(a:aE)(b n:Nat)(i:a.2<4294967296)(l:b<17179869184/\n<17179869184)(H:List ae)(lo:oN):
  D XC (.fn (.func Eb) [] []) [.agg (ay a),.int .i64 b,.int .i64 n] ⟨H,lo⟩=some (.ret (.agg (ay (handed a b n))) ⟨H,lo⟩):=by
 refine aF BY λN f=>?_
 have m: (ay a)[1]?=some (.int .i64 a.2):=rfl;have j: ∀r,List.take 2 (ay r)=ay r:=λ_=>rfl
 have k: ∀r,List.drop 2 (ay r)=[]:=λ_=>rfl
 have g: ∀r:aE,(ay r).length=2:=λ_=>rfl
 have hr: ∀r,aG (ay r)=0:=λ_=>rfl
 unfold handed;by_cases h:0<a.2
 ·have d:decide (0< ((a.2:Nat):Int))=true:=ag9 (by omega);by_cases e:a.2<=n-b
  ·have c:decide (((a.2:Nat):Int)<=(n:Int)-b)=true:=ag9 (by omega);rw[afJ ⟨e,h⟩];simp(disch:=omega) only[F1,go_sem,simprocAttr,BY,f,d,c,AU];rfl
  ·have c:decide (((a.2:Nat):Int)<=(n:Int)-b)=false:=ag7 (by omega);rw[afB (λq=>e q.1)];simp(disch:=omega) only[F1,go_sem,simprocAttr,BY,f,c,g,hr,AU]
 ·have d:decide (0< ((a.2:Nat):Int))=false:=ag7 (by omega);rw[afB (λq=>h q.2)];by_cases e: ((a.2:Nat):Int)<=(n:Int)-b
  ·have c:decide (((a.2:Nat):Int)<=(n:Int)-b)=true:=ag9 e;simp(disch:=omega) only[F1,go_sem,simprocAttr,BY,f,d,c,g,hr,AU]
  ·have c:decide (((a.2:Nat):Int)<=(n:Int)-b)=false:=ag7 e;simp(disch:=omega) only[F1,go_sem,simprocAttr,BY,f,c,g,hr,AU]
def bu.amF{n:Nat}{H W:List ae}(h:bu n M p q m qv ev aB aI H){e:Event}(g:cW (M+1) W v 14 pD ((m.cH++[e]).map jV))(b: ∀ (i:Nat) (o:ae),(∀a d,o≠ae.row a 14 pD d)->H[i]?=some o->W[i]?=some o):
  bu n M p q {m with cH:=m.cH++[e]} qv v aB aI (W.set M (.box (cw {m with cH:=m.cH++[e]} p aB aI v) none)):=by
 have c: ∀cs tg,∀a d,ae.box cs tg≠ .row a 14 pD d:=λ_ _ _ _ e=>by cases e
 have f:=b M _ (c _ _) h.box;have k:=h.Mq;have j:=h.co.qp;refine⟨h.nM,h.Mq,⟨h.co.mp,h.co.mq,h.co.qp,(aeR (by omega)).trans (b p _ (c _ _) h.co.box),(aeR (by omega)).trans (b q _ (c _ _) h.co.hZ),?_⟩,cG f,g.set f _,h.cv,h.rv⟩;exact(h.co.iA.nX λid aj all hr=>b id _ (λa d e=>by cases e) hr).set f _
def amG{n:Nat}{H W:List ae}(h:bu n M p q m qv ev aB aI H)(j:H.length<=W.length)(k: ∀i,i<M+1->W[i]?=H[i]?)(f: ∀ (i:Nat) (o:ae),(∀a d,o≠ae.row a 14 pD d)->H[i]?=some o->W[i]?=some o)(o:ae):Fm n [M,p,q] H (W.set M o):=by
 have g:=h.nM;refine⟨by grind,λi b=>by grind,λi o' b ho c=>?_⟩;rw[aeR (by grind)];exact f i o' (λa d e=>ho (.inr ⟨a,d,e⟩)) c
def azs(t:Task)(r:bE): (sY t r).code=t.code:=by
 unfold sY;grind
def W8{n:Nat}{H:List ae}(f:bu n M p q m qv ev aB aI H)(Y:dE m)(t:Nat)(i:t<8)(c:Call)(rv:AV)(hrv:rv.refs=0)(run:aE)(r:bE)(hr:r.w<4294967296/\r.e<4294967296)(lo:oN):
  ∃Z,D XC (.fn (.func Qz) [] []) [.ptr M 0,.int .i64 t,.agg (bK c rv),.agg (ay run),.agg (bF r)] ⟨H,lo⟩=some Z/\fT n M p q H lo (Ml m t c run r) qv ev (.au []) Z:=by
 refine cy Sg λN l=>?_
 have G5:M<N:=by rw[<-l];exact f.lt
 have oO:p<N:=by rw[<-l];exact f.co.lt
 have hb:=λL=>bc (L:=L) f.box
 have I: (0:Int)<=t/\ (t:Int)<8:=by omega
 have K:Den.part true 6 (bK c rv) 1=some (.agg (bf c.c)):=rfl;have hlr: ∀r:aE,List.take 2 (ay r)=ay r:=λ_=>rfl
 have U9: ∀r:aE,(ay r).length=2:=λ_=>rfl
 have hls: ∀r:bE,List.take 3 (bF r)=bF r:=λ_=>rfl
 have T: ∀c:cp,bf c=[.int .u8 c.op,.int .u32 c.r,.int .u32 c.s,.int .u32 c.a,.int .u32 c.b,.int .u64 c.v]:=λ_=>rfl
 have j: ∀r:aE,ay r=[.int .i64 r.1,.int .i64 r.2]:=λ_=>rfl
 have h: ∀r:bE,bF r=[.int .i64 r.e,.int .u64 r.v,.int .u32 r.w]:=λ_=>rfl
 have R: ∀a b:Nat,[AV.int .i64 (t:Int),.int .u8 c.c.op,.int .u32 c.c.r,.int .u32 c.c.s,.int .u32 c.c.a,.int .u32 c.c.b,.int .u64 c.c.v,.int .i64 run.1,.int .i64 run.2,.int .i64 r.e,.int .u64 r.v,.int .u32 r.w,.int .i64 a,.int .i64 b]=jV ⟨t,c.c,run,r,a,b⟩:=λ_ _=>rfl
 obtain⟨B,hB⟩: ∃B:List ae,B=[.box (bK c rv) none,.box (ay run) none,.box (bF r) none]:=⟨_,rfl⟩;have w:=f.app B;obtain⟨v',W,g1,g2,g3,g4,x,g6,g7,g8⟩:=cW.append (bytes:=96) (lo:=none) (y:=jV ⟨t,c.c,run,r,(m.aA t).fr,m.now⟩) w.uj (by have:=w.lt;omega) (by omega) rfl rfl (by rw[ahh];have:=Y.ev;unfold room;omega);have eE:m.cH.map jV++[jV ⟨t,c.c,run,r,(m.aA t).fr,m.now⟩]=(m.cH++[(⟨t,c.c,run,r,(m.aA t).fr,m.now⟩:Event)]).map jV:=by rw[ahs];rfl
 rw[eE]at g2;have u:=w.amF g2 x;have U:=amG w g3 g4 x (.box (cw {m with cH:=m.cH++[⟨t,c.c,run,r,(m.aA t).fr,m.now⟩]} p aB aI v') none);rw[hB]at g1;rw[j,h]at g1;have S: ∀e,(jV e).length=14:=λ_=>rfl
 have het: ∀e,List.take 14 (jV e)=jV e:=λ_=>rfl
 have X: ∀cs tg,∀a d,ae.box cs tg≠ .row a 14 pD d:=λ_ _ _ _ e=>by cases e
 have V:=x M _ (X _ _) w.box;have wr:=x (N+2) _ (X _ _) (show(H++B)[N+2]?=some (.box (bF r) none) by rw[hB,bA l];rfl);rw[h]at wr;have J:=λo=>cG (o:=o) V
 have z: ∀o,(W.set M o)[N+2]?=_:=λo=>(aeR (by omega)).trans wr
 have E: ¬v'.refs<=M+1:=by omega
 have G: ∀H lo,D XC (.fn (.func I3) [] []) [.agg (cY (m.aA t).t (aB t)),.agg [.int .i64 r.e,.int .u64 r.v,.int .u32 r.w]] ⟨H,lo⟩=some (.ret (.agg (cY (sY (m.aA t).t r) (aB t))) ⟨H,lo⟩):=λH lo=>c0 (ayZ (f.cv t) (Y.t t) r hr H lo)
 have k:=cO (f.cv t) (bD (λ_=>rfl) _);have F:=λt'=>GR (t:=t') k
 have hz: [AV.int .i64 0,.int .u8 0,.int .u32 0,.int .u32 0,.int .u32 0,.int .u32 0,.int .u64 0,.bool false,.ai,.int .i64 0,.int .i64 0,.int .i64 0]=bK gw .ai:=rfl;have A:aG (bK gw .ai)=0:=rfl;have C: (bK gw .ai).length=12:=rfl;have Q:1+t*24+10<=195:=by omega
 have P:1+t*24+22+1<=195:=by omega
 have O:1+t*24+10+12<=195:=by omega
 simp only[go_sem,simprocAttr,Sg,l,I,hb,CU,amy,azn i,↓K,T,j,h,R,S,het,g1,g6,g7,E,V,z,J,amA,oU,↓Nn i,G,F,amB i,WZ i,Ab i,hz,A,C,Q,P,O,anu,sI,cT,xP];have g:=u.G4 t {m.aA t with t:=sY (m.aA t).t r,busy:=false,c:=gw} (aB t) .ai (by rw[azs];exact f.cv t) .ai;rw[mH,anu]at g;have s:=(Fm.app B (by have:=f.nM;omega)).trans (U.trans (u.fM (.box (cw {m with cH:=m.cH++[⟨t,c.c,run,r,(m.aA t).fr,m.now⟩],aA:=aq m.aA t {m.aA t with t:=sY (m.aA t).t r,busy:=false,c:=gw}} p aB (aq aI t .ai) v') none)));rw[anu]at s;exact fT.fin (v:=.au []) f l g s (.inr ⟨M,by have:=f.Mq;have:=f.co.qp;omega,rfl⟩) (aha _)
def xS(m:aX)(t:Nat):aX:={m with az:=(gv m.az (m.aA t).c).x,aA:=aq m.aA t {m.aA t with c:=(gv m.az (m.aA t).c).c}}
def W9(m:aX)(t:Nat):aE:=if(gv m.az (m.aA t).c).r.e≠0\/ (gv m.az (m.aA t).c).c.c.op≠2 then(0,0)else(m.aA t).c.run
theorem amH(m:aX)(t:Nat):xr m t=if(gv m.az (m.aA t).c).ended then Ml (xS m t) t (gv m.az (m.aA t).c).c (handed (W9 m t) m.az.Q.length (gv m.az (m.aA t).c).x.Q.length) (gv m.az (m.aA t).c).r else xS m t:=rfl
def amI{n:Nat}{H:List ae}(hD: ∀op,me op)(g:bu n M p q m qv ev aB aI H)(hm:dE m)(t:Nat)(j:t<8)(hQ:m.az.Q.length<2147483648)
  (hd:rP (dJ (eD ⟨m.az,(m.aA t).c,bX,false⟩).x.S (eD ⟨m.az,(m.aA t).c,bX,false⟩).c.aa (eD ⟨m.az,(m.aA t).c,bX,false⟩).c.c (eD ⟨m.az,(m.aA t).c,bX,false⟩).c.run) (m.aA t).c.c)
  (B:dE (xS m t)) (hr: (gv m.az (m.aA t).c).r.w<4294967296/\ (gv m.az (m.aA t).c).r.e<4294967296) (pa: (gv m.az (m.aA t).c).c.c.op<256) (lo:oN):
  ∃cr,D XC (.fn (.func IV) [] []) [.ptr M 0,.int .i64 t] ⟨H,lo⟩=some cr/\fT n M p q H lo (xr m t) qv ev (.au []) cr:=by
 refine cy BX λN z=>?_
 have G5:M<N:=by rw[<-z];exact g.lt
 have oO:p<N:=by rw[<-z];exact g.co.lt
 have hMq:=g.Mq;have WQ:=g.co.qp;have Xa:=g.nM;have P: (0:Int)<=t/\ (t:Int)<8:=by omega
 have hb:=λL=>bc (L:=L) g.box
 have hcb:=λL=>bc (L:=L) g.co.box
 have ON:=λL lo=>((g.app L).co.iA.rd (lo:=lo)).bL
 have hrz:=cO (g.rv t) (bD (λ_=>rfl) _);obtain⟨cr,g1,Xb,h,W,G,rfl,g2,g3,g4,g5⟩:=ayX hD (g.co.app [.box (ay (m.aA t).c.run) none,.box vW none,.box nP none]) hm.az (hm.c t) (g.rv t) hd hQ none;rw[amH];have R: ∀r:aE,(ay r).length=2:=λ_=>rfl
 have hrt: ∀r:aE,List.take 2 (ay r)=ay r:=λ_=>rfl
 have o9: ∀r:aE,List.drop 2 (ay r)=[]:=λ_=>rfl
 have Q: ∀r:aE,aG (ay r)=0:=λ_=>rfl
 have O: [AV.int .i64 0,.int .u8 0,.int .u32 0,.int .u32 0,.int .u32 0,.int .u32 0,.int .u64 0,.bool false,.ai,.int .i64 0,.int .i64 0,.int .i64 0]=vW:=rfl;have I: [AV.int .i64 0,.int .u64 0,.int .u32 0]=nP:=rfl;generalize hs:gv m.az (m.aA t).c=s at*;have e:=λlo=>(g.co.iA.rd (lo:=lo)).bL
 have nM1:N∉[p,q]:=by simp;omega
 have nM2:N+1∉[p,q]:=by simp;omega
 have nM3:N+2∉[p,q]:=by simp;omega
 have v0:=g4.own nM1 (by rw[di z];rfl);have v1:=g4.own nM2 (by rw[bA z];rfl);have v2:=g4.own nM3 (by rw[bA z];rfl);have hA:=(g.app [.box (ay (m.aA t).c.run) none,.box vW none,.box nP none]).az g2 g4;have J:vW.length=12:=rfl;have l:nP.length=3:=rfl;have K:List.drop 12 vW=[]:=rfl;have u:List.drop 3 nP=[]:=rfl;have Z: ∀c rv,(bK c rv).length=12:=λ_ _=>rfl
 have X: ∀c rv,List.take 12 (bK c rv)=bK c rv:=λ_ _=>rfl
 have w:=cO g3 (bD (λ_=>rfl) _);have Y:=WE s.c w;have s1:=λo=>cG (o:=o) v1
 have y: ∀o,(W.set (N+1) o)[N+2]?=_:=λo=>(aeR (by omega)).trans v2
 have vM: ∀o o',((W.set (N+1) o).set (N+2) o')[M]?=_:=λo o'=>(aeR (by omega)).trans ((aeR (by omega)).trans hA.box)
 have A: ∀o o':ae,((W.set (N+1) o).set (N+2) o')[N+1]?=some o:=λo o'=>(aeR (by omega)).trans (s1 o)
 have T:1+t*24+10+12<=195:=by omega
 have Nq:=((hA.other v1 (by omega) (by omega) (by omega) (.box (bK s.c h) none)).other (y _) (by omega) (by omega) (by omega) (.box (bF s.r) none));have k:=Nq.G4 t {m.aA t with c:=s.c} (aB t) h (g.cv t) g3;rw[mH]at k;have F:Fm n [M,p,q] H (((W.set (N+1) (.box (bK s.c h) none)).set (N+2) (.box (bF s.r) none)).set M (.box (cw {m with az:=s.x,aA:=aq m.aA t {m.aA t with c:=s.c}} p aB (aq aI t h) ev) none)):=by
  have h1:=((bu.fc (M:=M) g4).pre (by omega)).out (i:=N+1) (by omega) (by omega) (.box (bK s.c h) none);exact(h1.out (i:=N+2) (by omega) (by omega) (.box (bF s.r) none)).trans (Nq.fM _)
 have S:eJ (Xb=qv/\ev=ev) p G:=(ew.n g5).imp (λq=>⟨q.1,q.2,rfl⟩) id;obtain⟨W3,C⟩: ∃W3,W3=((W.set (N+1) (.box (bK s.c h) none)).set (N+2) (.box (bF s.r) none)).set M (.box (cw {m with az:=s.x,aA:=aq m.aA t {m.aA t with c:=s.c}} p aB (aq aI t h) ev) none):=⟨_,rfl⟩;have x:=C.symm;have CX:N+1+1=N+2:=rfl;have w0:W3[N]?=some (.box (ay (m.aA t).c.run) none):=by rw[C,aeR (by omega),aeR (by omega),aeR (by omega)];exact v0
 have w1:W3[N+1]?=some (.box (bK s.c h) none):=by rw[C,aeR (by omega)];exact A _ _
 have w2:W3[N+2]?=some (.box (bF s.r) none):=by rw[C,aeR (by omega)];exact cG (y _)
 rw[<-C]at k F;have CY: (bF s.r)[0]?=some (.int .i64 s.r.e):=rfl;have hc1: (bK s.c h)[1]?=some (.int .u8 s.c.c.op):=rfl;have eM:xS m t={m with az:=s.x,aA:=aq m.aA t {m.aA t with c:=s.c}}:=by unfold xS;rw[hs]
 have eR:W9 m t=if s.r.e≠0\/s.c.c.op≠2 then(0,0)else(m.aA t).c.run:=by unfold W9;rw[hs]
 rw[eM]at B⊢;rw[eR];have hqb:s.x.Q.length<8589934592:=B.az.Ql;have yl:=hm.run t;cases U:s.ended with
 |false=>
  simp only[go_sem,simprocAttr,BX,z,P,g.box,g.co.box,hb,qq,KL,↓KL,e,↓No j,R,Q,↓CV j,O,I,g1,v1,y,vM,A,J,l,K,u,Z,X,Y,ue,rO,oU,Ab j,T,U,CX,x];exact fT.fin (v:=.au []) g z k F S (aha _)
 |true=>
  by_cases he:s.r.e=0
  ·have V:decide (((s.r.e:Nat):Int)=0)=true:=ag9 (by omega);by_cases ho:s.c.c.op=2
   ·have Xc:decide (((s.c.c.op:Nat):Int)=2)=true:=ag9 (by omega);rw[afJ rfl,afB (by omega)];have f:=k;have E:=F;have d:=λlo=>(f.co.iA.rd (lo:=lo)).bL
    have hh:=λH lo=>W7 (m.aA t).c.run m.az.Q.length s.x.Q.length (by skip;omega) (by omega) H lo
    obtain⟨cr,g6,qv6,ev6,amN,amO,W6,lo6,rfl,g7,g8,g9⟩:=W8 f B t j s.c h w (handed (m.aA t).c.run m.az.Q.length s.x.Q.length) s.r hr G;simp only[go_sem,simprocAttr,BX,z,P,g.box,g.co.box,hb,qq,KL,↓KL,e,↓No j,R,Q,↓CV j,O,I,g1,v1,y,vM,A,J,l,K,u,Z,X,Y,ue,xL,rO,oU,Ab j,T,U,CX,x,w0,w1,w2,CY,hc1,V,Xc,k.box,f.co.box,d,hh,g6];exact fT.fin (v:=.au []) g z g7 (E.trans g8) (S.step g9 λa b=>⟨b.1.trans a.1,b.2.trans a.2⟩) (aha _)
   ·have Xc:decide (((s.c.c.op:Nat):Int)=2)=false:=ag7 (by omega);rw[afJ rfl,afJ (.inr ho)];have f:=k.other w0 (by omega) (by omega) (by omega) (.box [.int .i64 0,.int .i64 0] none);have E:=F.out (i:=N) (by omega) (by omega) (.box [.int .i64 0,.int .i64 0] none);have u0:=λo=>cG (o:=o) w0
    have u1: ∀o,(W3.set N o)[N+1]?=_:=λo=>(aeR (by omega)).trans w1
    have u2: ∀o,(W3.set N o)[N+2]?=_:=λo=>(aeR (by omega)).trans w2
    have d:=λlo=>(f.co.iA.rd (lo:=lo)).bL
    have hh: ∀H lo,D XC (.fn (.func Eb) [] []) [.agg [.int .i64 0,.int .i64 0],.int .i64 m.az.Q.length,.int .i64 s.x.Q.length] ⟨H,lo⟩=some (.ret (.agg (ay (handed (0,0) m.az.Q.length s.x.Q.length))) ⟨H,lo⟩):=λH lo=>W7 (0,0) m.az.Q.length s.x.Q.length (by show 0<4294967296;omega) (by omega) H lo
    obtain⟨cr,g6,qv6,ev6,amN,amO,W6,lo6,rfl,g7,g8,g9⟩:=W8 f B t j s.c h w (handed (0,0) m.az.Q.length s.x.Q.length) s.r hr G;simp only[go_sem,simprocAttr,BX,z,P,g.box,g.co.box,hb,qq,KL,↓KL,e,↓No j,R,o9,Q,↓CV j,O,I,g1,v1,y,vM,A,J,l,K,u,Z,X,Y,ue,xL,rO,oU,Ab j,T,U,CX,x,w0,w1,w2,CY,hc1,V,Xc,u0,u1,u2,f.box,f.co.box,d,hh,g6];exact fT.fin (v:=.au []) g z g7 (E.trans g8) (S.step g9 λa b=>⟨b.1.trans a.1,b.2.trans a.2⟩) (aha _)
  ·have V:decide (((s.r.e:Nat):Int)=0)=false:=ag7 (by omega);rw[afJ rfl,afJ (.inl he)];have f:=k.other w0 (by omega) (by omega) (by omega) (.box [.int .i64 0,.int .i64 0] none);have E:=F.out (i:=N) (by omega) (by omega) (.box [.int .i64 0,.int .i64 0] none);have u0:=λo=>cG (o:=o) w0
   have u1: ∀o,(W3.set N o)[N+1]?=_:=λo=>(aeR (by omega)).trans w1
   have u2: ∀o,(W3.set N o)[N+2]?=_:=λo=>(aeR (by omega)).trans w2
   have d:=λlo=>(f.co.iA.rd (lo:=lo)).bL
   have hh: ∀H lo,D XC (.fn (.func Eb) [] []) [.agg [.int .i64 0,.int .i64 0],.int .i64 m.az.Q.length,.int .i64 s.x.Q.length] ⟨H,lo⟩=some (.ret (.agg (ay (handed (0,0) m.az.Q.length s.x.Q.length))) ⟨H,lo⟩):=λH lo=>W7 (0,0) m.az.Q.length s.x.Q.length (by show 0<4294967296;omega) (by omega) H lo
   obtain⟨cr,g6,qv6,ev6,amN,amO,W6,lo6,rfl,g7,g8,g9⟩:=W8 f B t j s.c h w (handed (0,0) m.az.Q.length s.x.Q.length) s.r hr G;simp only[go_sem,simprocAttr,BX,z,P,g.box,g.co.box,hb,qq,KL,↓KL,e,↓No j,R,o9,Q,↓CV j,O,I,g1,v1,y,vM,A,J,l,K,u,Z,X,Y,ue,xL,rO,oU,Ab j,T,U,CX,x,w0,w2,CY,V,u0,u1,u2,f.box,f.co.box,d,hh,g6];exact fT.fin (v:=.au []) g z g7 (E.trans g8) (S.step g9 λa b=>⟨b.1.trans a.1,b.2.trans a.2⟩) (aha _)
structure amQ(m:aX)(t:Nat):Prop where
 d:rP (dJ (eD ⟨m.az,(m.aA t).c,bX,false⟩).x.S (eD ⟨m.az,(m.aA t).c,bX,false⟩).c.aa (eD ⟨m.az,(m.aA t).c,bX,false⟩).c.c (eD ⟨m.az,(m.aA t).c,bX,false⟩).c.run) (m.aA t).c.c
 m':dE (xS m t)
 r: (gv m.az (m.aA t).c).r.w<4294967296/\ (gv m.az (m.aA t).c).r.e<4294967296
 op: (gv m.az (m.aA t).c).c.c.op<256
def azx{t:Task}(h:lD t):jQ (iu t).1:=by
 unfold iu;split
 ·exact⟨by decide,by decide,by decide,by decide,by decide,by decide⟩
 ·rename_i x a;have ho:=GV h a;split
  ·exact⟨by decide,by decide,by decide,by decide,by decide,by decide⟩
  ·split
   ·exact amC
   ·have c:=ho.op;have b:=ho.n;exact⟨by grind,ao3 _ (by omega),ao3 _ (by omega),ao3 _ (by omega),by grind,h.aT 5⟩
def azy(t:Task): (rH t).code=t.code:=by
 unfold rH
 grind
def Nr(m:aX)(t:Nat):aX:={m with aA:=aq m.aA t {m.aA t with c:={gw with aa:=t,c:=(iu (m.aA t).t).1},busy:=true,fr:=m.now}}
def dE.wanted(h:dE m)(a:t<8):dE (Nr m t):=by
 refine⟨h.az,λj=>?_,λj=>?_,λj=>?_,h.now,h.ev,λj=>?_⟩
 ·show lD (aq m.aA t _ j).t;unfold aq;split
  ·exact h.t t
  ·exact h.t j
 ·show fI (aq m.aA t _ j).c;unfold aq;split
  ·exact⟨by grind,azx (h.t t),CW.aT,CW.run,CW.eW⟩
  ·exact h.c j
 ·show(aq m.aA t _ j).fr<_;unfold aq;split
  ·exact h.now
  ·exact h.fr j
 ·show(aq m.aA t _ j).c.run.1<=64/\ (aq m.aA t _ j).c.run.2<=64;unfold aq;split
  ·exact⟨by show 0<=64;omega,by show 0<=64;omega⟩
  ·exact h.run j
def azz{n:Nat}{H:List ae}(hD: ∀op,me op)(b:bu n M p q m qv ev aB aI H)(y:dE m)(t:Nat)(d:t<8)(F:m.az.Q.length<2147483648)
  (A: ∀m,dE m->m.az.Q.length<2147483648->amQ m t) (lo:oN):
  ∃s,D XC (.fn (.func Qh) [] []) [.ptr M 0,.int .i64 t] ⟨H,lo⟩=some s/\fT n M p q H lo (zH m t) qv ev (.au []) s:=by
 refine cy Fv λN i=>?_
 have G5:M<N:=by rw[<-i];exact b.lt
 have oO:p<N:=by rw[<-i];exact b.co.lt
 have Xa:=b.nM;have k: (0:Int)<=t/\ (t:Int)<8:=by omega
 have E:=λL=>bc (L:=L) b.box
 have hw:=λH lo=>c0 (WW (b.cv t) (y.t t) H lo)
 have j: [AV.int .u8 0,.int .u32 0,.int .u32 0,.int .u32 0,.int .u32 0,.int .u64 0]=bf nz:=rfl;have Y: ∀c,(bf c).length=6:=λ_=>rfl
 have Z: ∀c,List.drop 6 (bf c)=[]:=λ_=>rfl
 have ct: ∀c,List.take 6 (bf c)=bf c:=λ_=>rfl
 have s: ∀c,aG (bf c)=0:=λ_=>rfl
 have z:=cO (b.cv t) (bD (λ_=>rfl) _);have B:=b.app [.box (bf (iu (m.aA t).t).1) none];unfold zH;dsimp only;cases h: (m.aA t).busy with
 |true=>
  have g:=A m y F;obtain⟨X,g1,G,W,C,u,W6,I,rfl,V,U,T⟩:=amI hD B y t d F g.d g.m' g.r g.op none;simp only[go_sem,simprocAttr,Fv,i,k,b.box,E,↓Nn d,xR d,h,hw,j,Y,Z,s,g1];exact fT.fin (v:=.au []) b i V (U.pre (by omega)) (ew.n T) (aha _)
 |false=>
  cases w: (iu (m.aA t).t).2 with
  |true=>
   rw[w]at hw;have x:=y.wanted d;have g:=A (Nr m t) x F;have a:=B.G4 t {m.aA t with c:={gw with aa:=t,c:=(iu (m.aA t).t).1},busy:=true,fr:=m.now} (aB t) .ai (b.cv t) .ai;rw[mH]at a;obtain⟨X,g1,G,W,C,u,W6,I,rfl,V,U,T⟩:=amI hD a x t d F g.d g.m' g.r g.op none;have P:1+t*24+10+12<=195:=by omega
   have Q:1+t*24+22+1<=195:=by omega
   have l:1+t*24+23+1<=195:=by omega
   have O:=λL o=>cG (o:=o) (E L)
   have r:AV.int .i64 (t:Int):: (bf (iu (m.aA t).t).1++[.bool false,.ai,.int .i64 0,.int .i64 0,.int .i64 0])=bK {gw with aa:=t,c:=(iu (m.aA t).t).1} .ai:=rfl;have R: ∀c,aG (bK c .ai)=0:=λ_=>rfl
   have S: ∀c,(bK c .ai).length=12:=λ_=>rfl
   have f:AV.bool (m.aA t).busy= .bool false:=by rw[h]
   simp only[go_sem,simprocAttr,Fv,i,k,b.box,E,CU,↓Nn d,xR d,f,hw,j,Y,Z,ct,s,O,anu,r,R,S,Ab d,WZ d,azo d,sI,cT,oU,l,Q,P,g1];have hf:Fm n [M,p,q] H ((H++[ae.box (bf (iu (m.aA t).t).1) none]).set M (ae.box (cw (Nr m t) p aB (aq aI t .ai) ev) none)):=(Fm.app _ (by omega)).trans (B.fM _);exact fT.fin (v:=.au []) b i V (hf.trans U) (ew.n T) (aha _)
  |false=>
   rw[w]at hw;have K:=λH lo=>c0 (ay8 (b.cv t) (y.t t) H lo)
   have a:=B.G4 t {m.aA t with t:=rH (m.aA t).t} (aB t) (aI t) (by rw[azy];exact b.cv t) (b.rv t);rw[mH,mH]at a;have J:=λt'=>GR (t:=t') z
   have l:1+t*24+10<=195:=by omega
   have f:AV.bool (m.aA t).busy= .bool false:=by rw[h]
   simp only[go_sem,simprocAttr,Fv,i,k,b.box,E,↓Nn d,xR d,f,hw,j,Y,Z,s,K,J,amB d,oU,l,xP];have e: (⟨rH (m.aA t).t,(m.aA t).c,false,(m.aA t).fr⟩:Runner)={m.aA t with t:=rH (m.aA t).t}:=by rw[<-h]
   rw[e];exact fT.fin (v:=.au []) b i a ((Fm.app _ (by omega)).trans (B.fM _)) (eJ.no ⟨rfl,rfl⟩) (aha _)
def dw.azA{n:Nat}{x:Core}{H W:List ae}(h:dw n p q x qv H)(r:cW (p+1) W v 1 my ((x.Q++[k]).map iY))(s:H.length<=W.length)(t: ∀i,i<p+1->W[i]?=H[i]?)(b: ∀ (i:Nat) (o:ae),(∀a d,o≠ae.row a 1 my d)->H[i]?=some o->W[i]?=some o):
  dw n p q {x with Q:=x.Q++[k]} v (W.set p (.box (cz x q v) none))/\Fq n [p,q] H (W.set p (.box (cz x q v) none)):=by
 have c: ∀cs tg,∀a d,ae.box cs tg≠ .row a 1 my d:=λ_ _ _ _ e=>by cases e
 have f:=b p _ (c _ _) h.box;have g:=h.qp;have j:=h.mp;refine⟨⟨h.mp,h.mq,h.qp,cG f,(aeR (by omega)).trans (b q _ (c _ _) h.hZ),r.set f _⟩,⟨by grind,λi l=>?_,λi o l ho m=>?_⟩⟩
 ·grind
 ·rw[aeR (by grind)];exact b i o (λa d e=>ho ⟨a,d,e⟩) m
theorem amR: ∀ (l:List aE) (x:Core) (s:bG),l.foldl cU {x with S:=s}={l.foldl cU x with S:=s}
 | [],_,_=>rfl
 |r::l,x,s=>amR l (cU x r) s
def fy:cp:={nz with op:=20}
def jW(m:aX)(d:bG×bE×List aE)(k:Nat):Core:=(d.2.2.take k).foldl cU {m.az with S:=d.1}
def azB{n:Nat}{H:List ae}(hD: ∀op,me op)(x:bu n M p q m qv ev aB aI H)(hm:dE m)(t:Nat)(ht:t<8)(hQ:m.az.Q.length<2147483648)
  (hd:rP (dJ m.az.S t fy (0,0)) fy) (lo:oN):
  ∃cr,D XC (.fn (.func Qg) [] []) [.ptr M 0,.int .i64 t] ⟨H,lo⟩=some cr/\fT n M p q H lo (Cj m t) qv ev (.au []) cr:=by
 refine cy RN λN hN=>?_
 have G5:M<N:=by rw[<-hN];exact x.lt
 have oO:p<N:=by rw[<-hN];exact x.co.lt
 have Xa:=x.nM;have hMq:=x.Mq;have WQ:=x.co.qp;have hb:=λL=>bc (L:=L) x.box
 have hcb:=λL=>bc (L:=L) x.co.box
 have hcx:jQ fy:=⟨by decide,by decide,by decide,by decide,by decide,by decide⟩;obtain⟨bv,d1,d2⟩:=Wo m.az.S hm.az.S t (by omega) fy hcx (0,0) ⟨show 0<4294967296 by omega,show 0<4294967296 by omega⟩ (hD _) (H++[.box (bf fy) none,.box pE none,.box nP none]) none;have d1:=cB d1;have eS:Cj m t={m with az:=jW m (dJ m.az.S t fy (0,0)) (dJ m.az.S t fy (0,0)).2.2.length,cH:=m.cH++[⟨t,fy,(0,0),(dJ m.az.S t fy (0,0)).2.1,m.now,m.now⟩]}:=by
  unfold jW;rw[ahn,amR];rfl
 rw[eS];generalize dJ m.az.S t fy (0,0)=d at*;have hz: [AV.int .u8 20,.int .u32 0,.int .u32 0,.int .u32 0,.int .u32 0,.int .u64 0]=bf fy:=rfl;have CY:ay (0,0)=[.int .i64 0,.int .i64 0]:=rfl;rw[CY]at d1;have hzr: [AV.int .i64 0,.int .u64 0,.int .u32 0]=nP:=rfl;have cl: ∀c,(bf c).length=6:=λ_=>rfl
 have cd: ∀c,List.drop 6 (bf c)=[]:=λ_=>rfl
 have ct: ∀c,List.take 6 (bf c)=bf c:=λ_=>rfl
 have cr: ∀c,aG (bf c)=0:=λ_=>rfl
 have U:nP.length=3:=rfl;have V:List.drop 3 nP=[]:=rfl;have hA:=(x.app [.box (bf fy) none,.box (bz d.1) none,.box (bF d.2.1) none]);have I:=hA.az (hA.co.aly d.1) (hA.co.fp _);have G:=bu.fc (M:=M) (hA.co.fp (.box (cz {m.az with S:=d.1} q qv) none));have CX:N+1+1=N+2:=rfl;simp only[go_sem,simprocAttr,RN,hN,CX,hb,hcb,qq,KL,↓KL,KS,hz,hzr,cl,ct,cr,d1,DZ,ox,rO,U,V,d2.bL];refine gS d.2.2.length (λk e W ak=> ∃o,e 0= .ptr M 0/\e 1= .int .i64 t/\e 4= .ptr N 0/\e 6= .ptr (N+2) 0/\e 34=bv/\e 35= .int .i64 d.2.2.length/\e 36= .int .i64 k/\bu n M p q {m with az:=jW m d k} o ev aB aI W/\eJ (o=qv/\ev=ev) p ak/\W[N]?=some (.box (bf fy) none)/\W[N+2]?=some (.box (bF d.2.1) none)/\Fm n [M,p,q] H W) 0 (by omega) ?_ ?_
 ·refine⟨qv,?_⟩;simp(disch:=omega) only[go_sem,simprocAttr];exact⟨I,eJ.no trivial,(Fm.app _ (by omega)).trans G⟩
 rintro k hk e W ak ⟨o,B,e1,R,e6,l,i,h,s,g,J,K,P⟩ nn hn;simp only[bR,go_sem,simprocAttr,agl,B,l,i,h];refine⟨λhh=>?_,λhh=>?_⟩
 ·have w:k<d.2.2.length:=by omega
  generalize F:d.2.2.getD k default=f at*;have yl:=hd.runs f (by rw[<-F];exact eX w);have AX: ∀r:aE,(ay r).length=2:=λ_=>rfl
  have AT: ∀r,aG (ay r)=0:=λ_=>rfl
  have hrt: ∀r,List.take 2 (ay r)=ay r:=λ_=>rfl
  have o9: ∀r,List.drop 2 (ay r)=[]:=λ_=>rfl
  have DX: (ay f)[1]?=some (.int .i64 f.2):=rfl;have aEg: (ay f)[0]?=some (.int .i64 f.1):=rfl;simp(disch:=omega) only[go_sem,simprocAttr,d2.ck,d2.cD,F,hn,AX,AT];have X:=CP (d.2.2.take k) {m.az with S:=d.1} (λz hz=>(hd.runs z (al8 hz)).2);have X: (jW m d k).Q.length<=m.az.Q.length+64*(d.2.2.take k).length:=X;have Wk: (d.2.2.take k).length<=k:=by simp;omega
  have hdl:=hd.len;refine⟨by omega,?_⟩;refine gS f.2 (λj e T E=> ∃u,e 0= .ptr M 0/\e 1= .int .i64 t/\e 4= .ptr N 0/\e 6= .ptr (N+2) 0/\e 34=bv/\e 35= .int .i64 d.2.2.length/\e 36= .int .i64 k/\e 9= .ptr nn 0/\e 41= .int .i64 f.2/\e 42= .int .i64 j/\bu n M p q {m with az:=iZ (jW m d k) f j} u ev aB aI T/\eJ (u=qv/\ev=ev) p E/\T[nn]?=some (.box (ay f) none)/\T[N]?=some (.box (bf fy) none)/\T[N+2]?=some (.box (bF d.2.1) none)/\Fm n [M,p,q] H T) 0 (by omega) ?_ ?_
  ·refine⟨o,?_⟩;simp(disch:=omega) only[go_sem,simprocAttr,B,e1,R,e6,l,i,h];refine⟨?_,by simpa using g,bc J,bc K,P.trans (Fm.app _ (by have:=s.lt;omega))⟩;have e1:iZ (jW m d k) f 0=jW m d k:=by unfold iZ;simp
   rw[e1];exact s.app _
  have hK0:=s.co.box;have aEj:p<nn:=by rw[<-hn];exact s.co.lt
  clear g J K B e1 R e6 l i h s P hn;rintro j hj e T E ⟨u,B,e1,R,e6,l,i,h,e9,e41,e42,C,g,wn,J,K,P⟩ n2 hn2;simp(disch:=omega) only[bR,go_sem,simprocAttr,agk,B,e1,R,e6,l,i,h,e41,e42];refine⟨λhh=>?_,λhh=>?_⟩
  ·have Y:j<f.2:=by omega
   have hwl:=C.co.lt;have ON: (iZ (jW m d k) f j).Q.length<=m.az.Q.length+64*k+f.2:=by
    have: (iZ (jW m d k) f j).Q.length=(jW m d k).Q.length+((iR f).take j).length:=by simp[iZ]
    have h2: ((iR f).take j).length<=f.2:=by simp[iR];omega
    omega
   obtain⟨v',W3,g1,g2,g3,g4,A,g6,g7,g8⟩:=cW.append (bytes:=8) (lo:=E) (y:=[.int .i64 ((f.1:Int)+j)]) C.co.iA (by omega) (by omega) rfl rfl (by rw[ahh];unfold room;show((iZ (jW m d k) f j).Q.length+1)*8<=_;omega);have eQ: (iZ (jW m d k) f j).Q.map iY++[[.int .i64 ((f.1:Int)+j)]]=((iZ (jW m d k) f j).Q++[f.1+j]).map iY:=by rw[ahs];rfl
   rw[eQ]at g2;obtain⟨c1,c2⟩:=C.co.azA g2 g3 g4 A;have Z:=C.az c1 c2;have eT: {iZ (jW m d k) f j with Q:=(iZ (jW m d k) f j).Q++[f.1+j]}=iZ (jW m d k) f (j+1):=by
    unfold iZ;rw[alA Y,<-afL]
   rw[eT]at Z;have O: ∀cs tg,∀a d,ae.box cs tg≠ .row a 1 my d:=λ_ _ _ _ e=>by cases e
   have wp':=A p _ (O _ _) C.co.box;have g8': ¬v'.refs<=p+1:=by omega
   simp(disch:=omega) only[go_sem,simprocAttr,B,e1,R,e6,l,i,h,e9,e41,e42,C.box,C.co.box,qq,KL,↓KL,wn,g1,wp',KS,g6,g7,g8'];refine⟨Y,v',Z,?_,A nn _ (O _ _) wn,A N _ (O _ _) J,A (N+2) _ (O _ _) K,P.trans (bu.fc c2)⟩;rcases g with⟨rfl,_⟩| ⟨j2,hj2,rfl⟩
   ·exact .inr ⟨p,ahd _,rfl⟩
   ·exact .inr ⟨min p j2,by omega,rfl⟩
  ·obtain rfl:j=f.2:=by omega
   have B:jW m d (k+1)=iZ (jW m d k) f f.2:=by
    rw[alz];unfold jW;rw[<-F,aiV,ag6 w,ao4,ahm,ag6 w];rfl
   exact⟨w,u,by rw[B];exact C,g.imp (λq=>⟨q.1,q.2.1⟩) id,J,K,P⟩
 ·obtain rfl:k=d.2.2.length:=by omega
  have g:eJ (o=qv/\ev=ev) p ak:=g;obtain⟨v',W3,g1,g2,g3,g4,A,g6,g7,g8⟩:=cW.append (bytes:=96) (lo:=ak) (y:=jV ⟨t,fy,(0,0),d.2.1,m.now,m.now⟩) s.uj (by have:=s.lt;omega) (by omega) rfl rfl (by rw[ahh];unfold room;have:=hm.ev;show(m.cH.length+1)*96<=_;omega);have eE:m.cH.map jV++[jV ⟨t,fy,(0,0),d.2.1,m.now,m.now⟩]=(m.cH++[(⟨t,fy,(0,0),d.2.1,m.now,m.now⟩:Event)]).map jV:=by rw[ahs];rfl
  have g2:cW (M+1) W3 v' 14 pD ((m.cH++[(⟨t,fy,(0,0),d.2.1,m.now,m.now⟩:Event)]).map jV):=eE ▸ g2;have I:=s.amF g2 A;have G:=amG s g3 g4 A (.box (cw {m with cH:=m.cH++[⟨t,fy,(0,0),d.2.1,m.now,m.now⟩]} p aB aI v') none);have O: ∀cs tg,∀a d,ae.box cs tg≠ .row a 14 pD d:=λ_ _ _ _ e=>by cases e
  have wM:=A M _ (O _ _) s.box;have hv': ¬v'.refs<=M+1:=by omega
  have VD: ∀c:cp,bf c=[.int .u8 c.op,.int .u32 c.r,.int .u32 c.s,.int .u32 c.a,.int .u32 c.b,.int .u64 c.v]:=λ_=>rfl
  have hse: ∀r:bE,bF r=[.int .i64 r.e,.int .u64 r.v,.int .u32 r.w]:=λ_=>rfl
  have hev: ∀a b:Nat,[AV.int .i64 (t:Int),.int .u8 fy.op,.int .u32 fy.r,.int .u32 fy.s,.int .u32 fy.a,.int .u32 fy.b,.int .u64 fy.v,.int .i64 0,.int .i64 0,.int .i64 d.2.1.e,.int .u64 d.2.1.v,.int .u32 d.2.1.w,.int .i64 a,.int .i64 b]=jV ⟨t,fy,(0,0),d.2.1,a,b⟩:=λ_ _=>rfl
  have vF: ∀e,(jV e).length=14:=λ_=>rfl
  have het: ∀e,List.take 14 (jV e)=jV e:=λ_=>rfl
  simp only[go_sem,simprocAttr,s.box,B,e1,R,e6,CU,amy,J,K,VD,hse,hev,vF,het,g1,g6,g7,hv',wM,amA,oU];refine fT.fin (v:=.au []) x hN I (P.trans G) ?_ (aha _);rcases g with⟨rfl,_⟩| ⟨j2,hj2,rfl⟩
  ·exact .inr ⟨M,by omega,rfl⟩
  ·exact .inr ⟨min M j2,by omega,rfl⟩
def SE{α:Type}(m:R α):Prop:= ∀e,m= .error e->e<13
theorem SE.ok{a:α}:SE (.ok a:R α):=by intro e h;cases h
theorem SE.pure{a:α}:SE (Pure.pure a:R α):=by intro e h;cases h
def SE.err(a:e<13):SE (.error e:R α):=by intro e h;grind
def SE.bind{β:Type}{m:R α}{f:α->R β}(b:SE m)(c: ∀a,SE (f a)):SE (m>>=f):=by
 cases m with
 |error e=>intro e h;cases h;exact b _ rfl
 |ok a=>exact c a
def SE.ask{b:Bool}(a:e<13):SE (ask b e):=by
 unfold Go.Proofs.YteplichagkpciaaGreatDoor.ask;split
 ·exact SE.ok
 ·exact SE.err a
def SE.bb(a:e<13):SE (bb e):=by
 unfold Go.Proofs.YteplichagkpciaaGreatDoor.bb;split
 ·exact SE.ok
 ·exact SE.err a
theorem SE.foldlM{α β:Type}{f:α->β->R α}(h: ∀a b,SE (f a b)): ∀ (l:List β) (a:α),SE (l.foldlM f a)
 | [],_=>SE.pure
 |b::l,a=>SE.bind (h a b) λa=>SE.foldlM h l a
theorem azL{n:Nat}(h: (n+1).ble 13=true):n<13:=arF h
def kB{t:aw}{h:Nat}: (aK t h).2<13:=by unfold aK;grind
def kC{k:bg}{h:Nat}: (b9 k h).2<13:=by unfold b9;grind
def azM{T:aw}{O:bM}{K:bg}{c:Nat}:xm T O K a b c<13:=by unfold xm;grind
def jw{o:bM}{t:aw}{r:Nat}{x:Ow}: (fO o t r a x).2<13:=by unfold fO;grind
def jx{o:bM}{t:aw}{r:Nat}{b:Bool}: (du o t r a b).2.2<13:=by unfold du;repeat' (first|simp|exact jw|split)
def amU{t:aw}{h:Nat}{r:dc}: (fD t h r).2<13:=by unfold fD;grind
def amV{t:aw}{h u:Nat}: (l6 t h u).2<13:=by unfold l6;grind
def azN{t:aw}{h:Nat}: (jl t h).2<13:=by unfold jl;split;exact azL rfl;exact amV
def kE{t:aw}{h u:Nat}: (vi t h u).2<13:=by unfold vi;repeat' (first|simp|exact amV|split)
def kG{t:aw}{h u:Nat}: (hH t h u).2.2<13:=by unfold hH l5;grind
def kH{k:bg}{x:Tok}: (ln k x).2.2<13:=by unfold ln p7;grind
def kI{b:cK}{x:kj}: (oA b x).2<13:=by unfold oA;grind
def kJ{b:cK}: (mK b).2.2<13:=by unfold mK;grind
def kK{b:cK}: (vk b).2<13:=by unfold vk;grind
def kM{t:aw}{c:Nat}{f:Bool}: (nu t a b c f).2<13:=by unfold nu;repeat' (first|simp|exact amU|split)
def kN{t:aw}: (sS t a b).2<13:=by unfold sS;grind
theorem lE{h w:Nat}:SE (fE x h w):=SE.bb azM
theorem lF:SE (l9 x t):=SE.ask (by decide)
def mg{h:Nat}:SE (mM x h t):=by exact SE.bind (SE.bb jw) λ_=>SE.pure
def lG{h:Nat}{r:dc}:SE (nv x h r):=by exact SE.bind (SE.bb amU) λ_=>SE.pure
def lH{h:Nat}:SE (vl x h):=by exact SE.bind (SE.bb azN) λ_=>SE.pure
def lI{h:Nat}:SE (xn x h):=by
 exact SE.bind (SE.ask (by decide)) λ_=>SE.bind (SE.ask (by decide)) λ_=>SE.ask (by decide)
def kO{h:Nat}:SE (jM x h t):=by exact SE.bind (SE.bb jx) λ_=>SE.pure
def amW:SE (ny x t):=by unfold ny;(repeat (first|exact SE.ok|exact SE.pure|exact SE.ask (by decide)|exact SE.err (by decide)|exact lE|exact lF|exact mg|exact lG|exact lH|exact lI|exact kO|assumption| (refine SE.bb ?_;first|exact kB|exact kG|exact kE|exact jw|exact jx|exact kC|exact kH|exact kI|exact kJ|exact kK|exact kM|exact kN)| (refine SE.bind ?_ λ_=>?_)| (refine SE.foldlM (λ_ _=>?_) _ _)|split|dsimp only))
def azO:SE (rq x t):=by unfold rq;(repeat (first|exact SE.ok|exact SE.pure|exact SE.ask (by decide)|exact SE.err (by decide)|exact lE|exact lF|exact mg|exact lG|exact lH|exact lI|exact kO|assumption| (refine SE.bb ?_;first|exact kB|exact kG|exact kE|exact jw|exact jx|exact kC|exact kH|exact kI|exact kJ|exact kK|exact kM|exact kN)| (refine SE.bind ?_ λ_=>?_)| (refine SE.foldlM (λ_ _=>?_) _ _)|split|dsimp only))
def azP(x:ar):SE (p9 x):=by unfold p9;(repeat (first|exact SE.ok|exact SE.pure|exact SE.ask (by decide)|exact SE.err (by decide)|exact lE|exact lF|exact mg|exact lG|exact lH|exact lI|exact kO|assumption| (refine SE.bb ?_;first|exact kB|exact kG|exact kE|exact jw|exact jx|exact kC|exact kH|exact kI|exact kJ|exact kK|exact kM|exact kN)| (refine SE.bind ?_ λ_=>?_)| (refine SE.foldlM (λ_ _=>?_) _ _)|split|dsimp only))
def azQ(x:ar):SE (jL x):=by unfold jL;(repeat (first|exact SE.ok|exact SE.pure|exact SE.ask (by decide)|exact SE.err (by decide)|exact lE|exact lF|exact mg|exact lG|exact lH|exact lI|exact kO|assumption| (refine SE.bb ?_;first|exact kB|exact kG|exact kE|exact jw|exact jx|exact kC|exact kH|exact kI|exact kJ|exact kK|exact kM|exact kN)| (refine SE.bind ?_ λ_=>?_)| (refine SE.foldlM (λ_ _=>?_) _ _)|split|dsimp only))
def azR(x:ar):SE (sT x):=by unfold sT;(repeat (first|exact SE.ok|exact SE.pure|exact SE.ask (by decide)|exact SE.err (by decide)|exact lE|exact lF|exact mg|exact lG|exact lH|exact lI|exact kO|assumption| (refine SE.bb ?_;first|exact kB|exact kG|exact kE|exact jw|exact jx|exact kC|exact kH|exact kI|exact kJ|exact kK|exact kM|exact kN)| (refine SE.bind ?_ λ_=>?_)| (refine SE.foldlM (λ_ _=>?_) _ _)|split|dsimp only))
def azS(x:ar):SE (sU x):=by unfold sU;(repeat (first|rfl|exact SE.pure|rfl|rfl|exact lE|rfl|rfl|rfl|rfl|rfl|exact kO|assumption| (refine SE.bb ?_;first|exact kB|exact kG|exact kE|exact jw|exact jx|exact kC|exact kH|exact kI|exact kJ|exact kK|exact kM|exact kN)| (refine SE.bind ?_ λ_=>?_)| (refine SE.foldlM (λ_ _=>?_) _ _)|split|dsimp only))
def azT(x:ar):SE (vm x):=by unfold vm;(repeat (first|exact SE.ok|exact SE.pure|exact SE.ask (by decide)|exact SE.err (by decide)|exact lE|exact lF|exact mg|exact lG|exact lH|exact lI|exact kO|assumption| (refine SE.bb ?_;first|exact kB|exact kG|exact kE|exact jw|exact jx|exact kC|exact kH|exact kI|exact kJ|exact kK|exact kM|exact kN)| (refine SE.bind ?_ λ_=>?_)| (refine SE.foldlM (λ_ _=>?_) _ _)|split|dsimp only))
def azU(x:ar):SE (vo x):=by unfold vo;(repeat (first|exact SE.ok|exact SE.pure|exact SE.ask (by decide)|exact SE.err (by decide)|exact lE|exact lF|exact mg|exact lG|exact lH|exact lI|exact kO|assumption| (refine SE.bb ?_;first|exact kB|exact kG|exact kE|exact jw|exact jx|exact kC|exact kH|exact kI|exact kJ|exact kK|exact kM|exact kN)| (refine SE.bind ?_ λ_=>?_)| (refine SE.foldlM (λ_ _=>?_) _ _)|split|dsimp only))
def azV(x:ar):SE (vq x):=by unfold vq;(repeat (first|exact SE.ok|exact SE.pure|exact SE.ask (by decide)|exact SE.err (by decide)|exact lE|exact lF|exact mg|exact lG|exact lH|exact lI|exact kO|assumption| (refine SE.bb ?_;first|exact kB|exact kG|exact kE|exact jw|exact jx|exact kC|exact kH|exact kI|exact kJ|exact kK|exact kM|exact kN)| (refine SE.bind ?_ λ_=>?_)| (refine SE.foldlM (λ_ _=>?_) _ _)|split|dsimp only))
def azW(x:ar):SE (sV x):=by unfold sV;(repeat (first|exact SE.ok|exact SE.pure|exact SE.ask (by decide)|exact SE.err (by decide)|exact lE|exact lF|exact mg|exact lG|exact lH|exact lI|exact kO|assumption| (refine SE.bb ?_;first|exact kB|exact kG|exact kE|exact jw|exact jx|exact kC|exact kH|exact kI|exact kJ|exact kK|exact kM|exact kN)| (refine SE.bind ?_ λ_=>?_)| (refine SE.foldlM (λ_ _=>?_) _ _)|split|dsimp only));all_goals exact SE.bb jx
def azX(x:ar):SE (qb x):=by unfold qb;(repeat (first|exact SE.ok|exact SE.pure|exact SE.ask (by decide)|exact SE.err (by decide)|exact lE|exact lF|exact mg|exact lG|exact lH|exact lI|exact kO|assumption| (refine SE.bb ?_;first|exact kB|exact kG|exact kE|exact jw|exact jx|exact kC|exact kH|exact kI|exact kJ|exact kK|exact kM|exact kN)| (refine SE.bind ?_ λ_=>?_)| (refine SE.foldlM (λ_ _=>?_) _ _)|split|dsimp only))
def azY(x:ar):SE (vu x):=by unfold vu;(repeat (first|exact SE.ok|exact SE.pure|exact SE.ask (by decide)|exact SE.err (by decide)|exact lE|exact lF|exact mg|exact lG|exact lH|exact lI|exact kO|assumption| (refine SE.bb ?_;first|exact kB|exact kG|exact kE|exact jw|exact jx|exact kC|exact kH|exact kI|exact kJ|exact kK|exact kM|exact kN)| (refine SE.bind ?_ λ_=>?_)| (refine SE.foldlM (λ_ _=>?_) _ _)|split|dsimp only))
def azZ(x:ar):SE (nw x):=by unfold nw;(repeat (first|exact SE.ok|exact SE.pure|exact SE.ask (by decide)|exact SE.err (by decide)|exact lE|exact lF|exact mg|exact lG|exact lH|exact lI|exact kO|assumption| (refine SE.bb ?_;first|exact kB|exact kG|exact kE|exact jw|exact jx|exact kC|exact kH|exact kI|exact kJ|exact kK|exact kM|exact kN)| (refine SE.bind ?_ λ_=>?_)| (refine SE.foldlM (λ_ _=>?_) _ _)|split|dsimp only))
def az0(x:ar):SE (oB x):=by unfold oB;(repeat (first|exact SE.ok|exact SE.pure|exact SE.ask (by decide)|exact SE.err (by decide)|exact lE|exact lF|exact mg|exact lG|exact lH|exact lI|exact kO|assumption| (refine SE.bb ?_;first|exact kB|exact kG|exact kE|exact jw|exact jx|exact kC|exact kH|exact kI|exact kJ|exact kK|exact kM|exact kN)| (refine SE.bind ?_ λ_=>?_)| (refine SE.foldlM (λ_ _=>?_) _ _)|split|dsimp only))
def az1(x:ar):SE (vx x):=by unfold vx;(repeat (first|rfl|exact SE.pure|rfl|rfl|rfl|rfl|rfl|exact lG|exact lH|exact lI|exact kO|assumption| (refine SE.bb ?_;first|exact kB|exact kG|exact kE|exact jw|exact jx|exact kC|exact kH|exact kI|exact kJ|exact kK|exact kM|exact kN)| (refine SE.bind ?_ λ_=>?_)| (refine SE.foldlM (λ_ _=>?_) _ _)|split|dsimp only))
def az2(x:ar):SE (oC x):=by unfold oC;(repeat (first|exact SE.ok|exact SE.pure|exact SE.ask (by decide)|exact SE.err (by decide)|exact lE|exact lF|exact mg|exact lG|exact lH|exact lI|exact kO|assumption| (refine SE.bb ?_;first|exact kB|exact kG|exact kE|exact jw|exact jx|exact kC|exact kH|exact kI|exact kJ|exact kK|exact kM|exact kN)| (refine SE.bind ?_ λ_=>?_)| (refine SE.foldlM (λ_ _=>?_) _ _)|split|dsimp only))
def az3(x:ar):SE (vy x):=by unfold vy;(repeat (first|exact SE.ok|exact SE.pure|exact SE.ask (by decide)|exact SE.err (by decide)|exact lE|exact lF|exact mg|exact lG|exact lH|exact lI|exact kO|assumption| (refine SE.bb ?_;first|exact kB|exact kG|exact kE|exact jw|exact jx|exact kC|exact kH|exact kI|exact kJ|exact kK|exact kM|exact kN)| (refine SE.bind ?_ λ_=>?_)| (refine SE.foldlM (λ_ _=>?_) _ _)|split|dsimp only))
def az4(x:ar):SE (rr x):=by(repeat (first|rfl|exact SE.pure|exact SE.ask (by decide)|rfl|rfl|rfl|rfl|rfl|rfl|rfl|rfl|rfl|rfl| (refine SE.bind ?_ λ_=>?_)|rfl|split|rfl))
def az5(x:ar):SE (vt x):=by unfold vt;(repeat (first|exact SE.ok|exact SE.pure|exact SE.ask (by decide)|exact SE.err (by decide)|exact lE|exact lF|exact mg|exact lG|exact lH|exact lI|exact kO|assumption| (refine SE.bb ?_;first|exact kB|exact kG|exact kE|exact jw|exact jx|exact kC|exact kH|exact kI|exact kJ|exact kK|exact kM|exact kN)| (refine SE.bind ?_ λ_=>?_)| (refine SE.foldlM (λ_ _=>?_) _ _)|split|dsimp only))
def az6(x:ar):SE (xo x):=by
 exact SE.bind lF λ_=>SE.bind amW λ_=>SE.pure
def az7(x:ar):SE (kp x):=by
 unfold kp;split<;>first|exact azP x|exact azQ x|exact azO|exact azR x|exact azS x|exact azT x|exact azU x|exact azV x|exact azW x|exact az5 x|exact azX x|exact azY x|exact azZ x|exact az0 x|exact az1 x|exact az2 x|exact az3 x|exact az6 x|exact az4 x|exact SE.err (by decide)|exact SE.bind amW λ_=>SE.pure
theorem az8(h:jn x= .error e):e<13:=SE.bind (SE.ask (by decide)) (λ_=>az7 x) _ h
structure RO(x:ar)(a:ar×bE):Prop where
 s:bh a.1.s
 back:a.1.back=x.back
 w:a.2.w<4294967296
 v:a.2.v<18446744073709551616
theorem az9{r:dc}(h:fP r){l:List aE}{n:Nat}(d:n<=2048)(b: ∀x∈l,1<=x.2/\x.1+x.2<=64)(c:aM l<=64):fP {r with runs:=l,len:=n}:=⟨h.up,h.dt,d,h.cells,b,c⟩
def Xd{b:Bool}{u:Unit}(h:ask b e= .ok u):b=true:=by
 unfold ask at h;grind
def aAa{l:List aE}{r:aE}{n:Nat}(h:pZ (l++[r]) n=true):1<=r.2/\r.1+r.2<=64:=by
 unfold pZ at h;rw[MF]at h;simp only[aiL]at h;cases hm:mI [] l with
 |none=>grind
 |some m=>
  rw[hm]at h;unfold mI at h;cases b:ir m r with
  |none=>grind
  |some a=>
   unfold ir at b;split at b
   ·rename_i hr;unfold lk at hr
    grind
   grind
def Ns{h:Nat}(b:bh x.s)(c:h<4294967296)(e:mM x h t= .ok y):bh y.s/\y.back=x.back:=by
 obtain⟨_,_,e⟩:=bn e;cases e;exact⟨b.vP (b.O.ir c),rfl⟩
def Xe{h:Nat}{r:dc}(b:bh x.s)(c:fP r)(e:nv x h r= .ok y):bh y.s/\y.back=x.back:=by
 obtain⟨_,_,e⟩:=bn e;cases e;exact⟨b.vO (b.eB.set c),rfl⟩
def Xf{h:Nat}(b:bh x.s)(e:vl x h= .ok y):bh y.s/\y.back=x.back:=by
 obtain⟨_,_,e⟩:=bn e;cases e;exact⟨b.vO (b.eB.cut h),rfl⟩
section
variable{x:ar}(hx:mQ x){a:ar×bE}
include hx
theorem aAb(h:p9 x= .ok a):RO x a:=by
 unfold p9 at h;have b: (hH x.s.T x.c.r (min x.c.a 65)).2.1<4294967296:=aks hx.s.T.b;have c:bh (x.t (hH x.s.T x.c.r (min x.c.a 65)).1).s:=hx.s.vO (hx.s.eB.new _ _ hx.c.r);by_cases d:x.c.r=0
 ·simp only[d,ne_eq,not_true,amJ,aiZ]at h;obtain⟨_,_,h⟩:=bn h;obtain⟨y,e,h⟩:=bn h;cases h;rw[d]at b c;obtain⟨g,f⟩:=Ns c b e;exact⟨g,f,b,by show 0<18446744073709551616;omega⟩
 ·simp only[d,ne_eq,not_false_eq_true,amJ,aiZ]at h;obtain⟨_,_,h⟩:=bn h;obtain⟨_,_,h⟩:=bn h;obtain⟨y,e,h⟩:=bn h;cases e;cases h;exact⟨c,rfl,b,by show 0<18446744073709551616;omega⟩
theorem amX{w:Nat}(h:rq x w= .ok a):RO x a/\a.2=bX:=by
 obtain⟨_,_,h⟩:=bn h;obtain⟨_,_,h⟩:=bn h;obtain⟨_,_,h⟩:=bn h;obtain⟨_,_,h⟩:=bn h;cases h;exact⟨⟨hx.s,rfl,by show 0<4294967296;omega,by show 0<18446744073709551616;omega⟩,rfl⟩
theorem aAc(h:vm x= .ok a):RO x a:=by
 obtain⟨_,_,h⟩:=bn h;obtain⟨_,_,h⟩:=bn h;obtain⟨y,e,h⟩:=bn h;obtain⟨z,g,h⟩:=bn h;cases h;obtain⟨f,d⟩:=Xf hx.s e;obtain⟨c,b⟩:=Ns f hx.c.r g;exact⟨c,b.trans d,by show 0<4294967296;omega,by show 0<18446744073709551616;omega⟩
theorem aAd(h:vo x= .ok a):RO x a:=by
 obtain⟨_,_,h⟩:=bn h;obtain⟨_,_,h⟩:=bn h;obtain⟨_,_,h⟩:=bn h;cases h;exact⟨hx.s.vO (hx.s.eB.awe _ _ hx.c.s),rfl,by show 0<4294967296;omega,by show 0<18446744073709551616;omega⟩
theorem aAe(h:vq x= .ok a):RO x a:=by
 obtain⟨_,_,h⟩:=bn h;obtain⟨y,e,h⟩:=bn h;obtain⟨_,_,h⟩:=bn h;cases h;obtain⟨b,c⟩:=Xf hx.s e;exact⟨b.vP (b.O.freeze hx.c.r),c,by show 0<4294967296;omega,by show 0<18446744073709551616;omega⟩
theorem aAf(h:sV x= .ok a):RO x a:=by
 obtain⟨_,_,h⟩:=bn h;obtain⟨_,_,h⟩:=bn h;obtain⟨_,_,h⟩:=bn h;cases h;exact⟨hx.s.vP (hx.s.O.held hx.c.r),rfl,by show 0<4294967296;omega,by show 0<18446744073709551616;omega⟩
theorem aAg(b: ∀t,(ln x.s.K t).2.1<4294967296)(h:qb x= .ok a):RO x a:=by
 unfold qb at h;obtain⟨_,_,h⟩:=bn h;obtain⟨_,_,h⟩:=bn h;obtain⟨_,_,h⟩:=bn h
 try rfl
 have d:=hx.t;have c:ub ⟨x.c.r,x.aa % 256,x.c.a % 256,decide (x.c.b=1),x.c.s⟩:=⟨hx.c.r,ao3 _ (by omega),ao3 _ (by omega),hx.c.s⟩;split at h
 ·obtain⟨_,_,h⟩:=bn h;obtain⟨_,_,h⟩:=bn h;cases h;exact⟨hx.s.CG (hx.s.tok.akn c),rfl,b _,by show 0<18446744073709551616;omega⟩
 ·obtain⟨_,_,h⟩:=bn h;obtain⟨_,_,h⟩:=bn h;obtain⟨_,_,h⟩:=bn h;cases h;exact⟨hx.s.CG (hx.s.tok.akn c),rfl,b _,by show 0<18446744073709551616;omega⟩
theorem aAh(h:vu x= .ok a):RO x a:=by
 obtain⟨_,_,h⟩:=bn h;obtain⟨_,_,h⟩:=bn h;cases h;exact⟨hx.s.CG (hx.s.tok.ret _),rfl,by show 0<4294967296;omega,by show 0<18446744073709551616;omega⟩
theorem aAi(h:vx x= .ok a):RO x a:=by
 obtain⟨_,_,h⟩:=bn h;cases h;exact⟨hx.s.CH (hx.s.bx _).close,rfl,by show 0<4294967296;omega,by show 0<18446744073709551616;omega⟩
theorem aAj(h:rr x= .ok a):RO x a:=by
 obtain⟨_,_,h⟩:=bn h;cases h;exact⟨hx.s.VY,rfl,by show 0<4294967296;omega,by show 0<18446744073709551616;omega⟩
theorem aAk(h:oB x= .ok a):RO x a:=by
 unfold oB at h;obtain⟨c,hm⟩:=(hx.s.bx x.aa).take;have b:bh (x.bx x.aa (mK (x.s.c8 x.aa)).1).s:=hx.s.CH c
 try dsimp only at h
 obtain⟨_,_,h⟩:=bn h;split at h
 ·obtain⟨y,e,h⟩:=bn h;cases h;obtain⟨f,d⟩:=Ns b hm.aL e;exact⟨f,d,hm.aL,hm.word⟩
 ·obtain⟨y,e,h⟩:=bn h;cases e;cases h;exact⟨b,rfl,hm.aL,hm.word⟩
theorem aAl(e:x.run.1<=64/\x.run.2<=64)(h:jL x= .ok a):RO x a:=by
 unfold jL at h
 try dsimp only at h
 have d:=hx.s.T.get x.c.r;cases m:qa (min x.c.a 129) (min x.c.b 9)with
 |none=>rw[m]at h;cases h
 |some n=>
  rw[m]at h;obtain⟨_,e1,h⟩:=bn h;cases e1;obtain⟨_,_,h⟩:=bn h;obtain⟨_,_,h⟩:=bn h;split at h
  ·rename_i k u;obtain⟨z,l,h⟩:=bn h;cases h;have b:k+min x.c.a 129<=2048:=by
    have:=CI u;have:=d.aM;omega
   obtain⟨j,i⟩:=Xe (r:={(aK x.s.T x.c.r).1 with len:=k+min x.c.a 129}) hx.s ⟨d.up,d.dt,b,d.cells,d.runs,d.aM⟩ l;exact⟨j,i,by show 0<4294967296;omega,by show k<18446744073709551616;omega⟩
  ·obtain⟨_,g,h⟩:=bn h;have g:=Xd g
   try dsimp only at h
   split at h
   ·cases h;exact⟨hx.s,rfl,by show 0<4294967296;omega,by show 0<18446744073709551616;omega⟩
   ·obtain⟨_,hm,h⟩:=bn h;have hm:=Xd hm;obtain⟨z,l,h⟩:=bn h;cases h;simp only[amT]at g;simp only[aiL,amT]at hm;have t:=akt (aK x.s.T x.c.r).1.runs x.run;have o:=d.dt;have p:=d.aM;have f:1<=x.run.2/\x.run.1+x.run.2<=64:=aAa hm.2;have b: (match gM ((aK x.s.T x.c.r).1.runs++[x.run]) (aM (aK x.s.T x.c.r).1.runs*32) (min x.c.a 129) (min x.c.b 9)with|some a=>a+min x.c.a 129|none=>aM (aK x.s.T x.c.r).1.runs*32)<=2048:=by
     split
     ·rename_i q;exact akH (CI q) (by omega)
     ·exact akH (anU 32 (show _<=64 by omega)) (by decide)
    obtain⟨j,i⟩:=Xe (x:={s:=x.s,aa:=x.aa,c:=x.c,run:=x.run,mL:=n,asks:=x.asks,back:=x.back}) hx.s (az9 d b (λr e=>by
     rcases ahb.1 e with e|e
     ·exact d.runs r e
     ·rw[ahe.1 e];exact f) (by omega)) l
    refine⟨j,i,by show 0<4294967296;omega,?_⟩;show(gM ((aK x.s.T x.c.r).1.runs++[x.run]) (aM (aK x.s.T x.c.r).1.runs*32) (min x.c.a 129) (min x.c.b 9)).getD 0<_;cases q:gM ((aK x.s.T x.c.r).1.runs++[x.run]) (aM (aK x.s.T x.c.r).1.runs*32) (min x.c.a 129) (min x.c.b 9)with
    |none=>show 0<_;omega
    |some k=>have:=CI q;show k<_;omega
theorem aAm(h:oC x= .ok a):RO x a:=by
 unfold oC at h;obtain⟨_,_,h⟩:=bn h;have key:ep (nu x.s.T x.c.r (min x.c.a 8) x.c.s (decide ((b0 x.s.O x.s.T x.c.s).kind=3))).1:=by
  rw[ake];split
  ·exact hx.s.eB.set ((hx.s.T.get x.c.r).setCells λi=>by
    unfold aq;split
    ·exact hx.c.s
    ·exact(hx.s.T.get x.c.r).cells i)
  ·exact hx.s.eB
 try rfl
 split at h
 ·obtain⟨_,_,h⟩:=bn h
  try rfl
  obtain⟨_,_,h⟩:=bn h;cases h;exact⟨hx.s.vO key,rfl,by show 0<4294967296;omega,by show 0<18446744073709551616;omega⟩
 ·try dsimp only at h
  obtain⟨_,_,h⟩:=bn h;cases h;exact⟨hx.s.vO key,rfl,by show 0<4294967296;omega,by show 0<18446744073709551616;omega⟩
theorem aAn(h:vy x= .ok a):RO x a:=by
 obtain⟨_,_,h⟩:=bn h;obtain⟨_,_,h⟩:=bn h;cases h;refine⟨hx.s,rfl,?_,by show 0<18446744073709551616;omega⟩;unfold sS;split
 ·simp
 ·split
  ·simp
  ·dsimp only;split
   ·simp
   ·split
    ·simp
    ·exact(hx.s.T.get x.c.r).cells _
theorem aAo(h:nw x= .ok a):RO x a:=by
 unfold nw at h;obtain⟨_,_,h⟩:=bn h;obtain⟨_,_,h⟩:=bn h
 try dsimp only at h
 have j:=hx.t;have hm: ∀b,vK ⟨x.aa % 256,x.c.v,x.c.r,b⟩:=λb=>⟨by grind,hx.c.v,hx.c.r⟩
 have fin: ∀ (y:ar) (b:Bool),bh y.s->y.back=x.back->(bb (oA (y.s.c8 x.c.a) ⟨x.aa % 256,x.c.v,x.c.r,b⟩).2>>=λ_=>(Pure.pure (y.bx x.c.a (oA (y.s.c8 x.c.a) ⟨x.aa % 256,x.c.v,x.c.r,b⟩).1,bX):R (ar×bE)))= .ok a->RO x a:=by
  intro y b d g h;obtain⟨_,_,h⟩:=bn h;cases h;exact⟨d.CH ((d.bx _).put (hm b)),g,by show 0<4294967296;omega,by show 0<18446744073709551616;omega⟩
 split at h
 ·obtain⟨_,_,h⟩:=bn h
  try dsimp only at h
  obtain⟨y,e,h⟩:=bn h;cases e;refine fin _ _ ?_ ?_ h
  ·split
   ·exact hx.s.vP (hx.s.O.held hx.c.r)
   ·exact hx.s
  ·split<;>rfl
 ·split at h
  ·obtain⟨_,_,h⟩:=bn h;obtain⟨y,e,h⟩:=bn h;obtain⟨f,i⟩:=Xf hx.s e
   try dsimp only at h
   obtain⟨_,_,h⟩:=bn h;obtain⟨z,c,h⟩:=bn h;cases c;exact fin (y.o (zy y.s.O y.s.T x.c.r).1) _ (f.vP (f.O.fly hx.c.r)) i h
  ·obtain⟨z,c,h⟩:=bn h;cases c;exact fin _ _ hx.s rfl h
end
structure GI(y:ar):Prop where
 s:bh y.s
 eI:Go.Proofs.YteplichagkpciaaGreatDoor.eI y<=2048
 runs: ∀r∈y.back,r.1<=64/\r.2<=64
def GI.len(h:GI y):y.back.length<=4096:=by have:=h.eI;unfold Go.Proofs.YteplichagkpciaaGreatDoor.eI at this;omega
theorem GI.set{z:ar}(h:GI y)(b:bh z.s)(c:z.back=y.back)(d:z.s.T=y.s.T):GI z:=
 ⟨b,by have:=h.eI;unfold Go.Proofs.YteplichagkpciaaGreatDoor.eI at*;grind,by rw[c];exact h.runs⟩
theorem amY: ∀ (l:lN) (y:ar),bh y.s->(∀r∈y.back,r.1<=64/\r.2<=64)-> ∀r∈(l.foldl iN y).back,r.1<=64/\r.2<=64
 | [],_,_,h=>h
 |a::l,y,hs,h=>amY l (iN y a) (V6 [a] y hs) λr hr=>by
  rcases ahb.1 (show r∈y.back++(aK y.s.T a).1.runs from hr)with hr|hr
  ·grind
  ·have:=(hs.T.get a).runs r hr;omega
theorem GI.gone(h:GI y)(a:Nat):GI (gu y a):=⟨We h.s a,akH (Wc h.s a) h.eI,amY _ y h.s h.runs⟩
def GI.kr{z:ar}(h:GI y)(c:a<4294967296)(b:jM y a aa= .ok z):GI z:=by
 obtain⟨_,_,b⟩:=bn b;have d:GI (y.o (du y.s.O y.s.T a aa false).1):=h.set (h.s.vP (h.s.O.held c)) rfl rfl;cases b;split
 ·exact d.gone a
 omega
theorem GI.foldlM{β:Type}{P:β->Prop}{f:ar->β->R ar}(d: ∀y b z,GI y->P b->f y b= .ok z->GI z): ∀ (l:List β) (y z:ar),(∀b∈l,P b)->GI y->l.foldlM f y= .ok z->GI z
 | [],y,z,_,h,e=>by cases e;exact h
 |b::l,y,z,g,h,e=>by
  obtain⟨w,e1,j⟩:=bn (show(f y b>>=λw=>l.foldlM f w)= .ok z from by grind);exact GI.foldlM d l w z (λc i=>g c (aiF _ i)) (d y b w h (g b (amM ..)) e1) j
theorem GI.foldl{β:Type}{f:ar->β->ar}(c: ∀y b,GI y->GI (f y b)): ∀ (l:List β) (y:ar),GI y->GI (l.foldl f y)
 | [],_,h=>h
 |b::l,y,h=>GI.foldl c l (f y b) (c y b h)
def GI.dies(h:GI x)(e:ny x aa= .ok y):GI y:=by
 rw[akD]at e;obtain⟨w,e1,g⟩:=bn e;have q:GI (vT x aa):=h.set ((h.s.CH iV.gone).VY) rfl rfl;have p:GI w:=GI.foldlM (P:=vK) (λy m z b hm e=>by
  unfold CK at e;split at e
  ·cases e;exact b
  ·split at e
   ·obtain⟨k,j⟩:=Ns b.s hm.aL e;obtain⟨_,_,e⟩:=bn e;cases e;exact b.set k j rfl
   ·cases e;exact b.gone _) _ _ _ (λm hm=>by
    obtain⟨i,_,rfl⟩:=ahk.1 hm;exact(h.s.bx aa).ring _) q e1
 unfold Wh at g;have o:=GI.foldl (f:=λy h=>y.k (mJ y.s.K h).1) (λy a b=>b.set (b.s.CG (b.s.tok.ret a)) rfl rfl) (xk w.s.K aa) w p;have d:=λl=>GI.foldl (f:=gu) (λy a b=>b.gone a) l _ o
 refine GI.foldlM (P:=λa=>a<4294967296) (λy a z b c e=>b.kr c e) _ _ _ (λa c=>?_) (d _) g;have n:=(aiJ.1 c).1;exact gg ((jm (d _).s.T.b).1 n)
def GI.start{s:bG}(d:bh s)(aa:Nat)(c:cp)(run:aE)(n:Nat)(b:Bool):GI ⟨s,aa,c,run,n,b,[]⟩:=by
 refine⟨d,?_,λr hr=>by grind⟩;have:=nm s.T.b;show([]:List aE).length+64*(bm s.T.b).length<=2048
 grind
structure RD(c:cp)(a:ar×bE):Prop where
 s:bh a.1.s
 len:a.1.back.length<=4096
 runs: ∀r∈a.1.back,r.1<=64/\r.2<=64
 v:c.op=3->a.2.v=0
 w:a.2.w<4294967296
 v2:a.2.v<18446744073709551616
theorem RO.d{a:ar×bE}(h:RO x a)(b:GI x)(d:c.op=3->a.2.v=0):RD c a:=
 ⟨h.s,by rw[h.back];exact b.len,by rw[h.back];exact b.runs,d,h.w,h.v⟩
theorem GI.d(h:GI y):RD c (y,bX):=⟨h.s,h.len,h.runs,λ_=>rfl,by show 0<4294967296;omega,by show 0<18446744073709551616;omega⟩
def aAp(hx:mQ x)(c:GI x){a:ar×bE}(h:sT x= .ok a):RD x.c a:=by
 unfold sT at h;obtain⟨_,_,h⟩:=bn h;obtain⟨_,_,h⟩:=bn h
 try rfl
 obtain⟨y,e,h⟩:=bn h;cases h;have hr:=hx.s.T.get x.c.r;have b:fP {dC with dt:=(aK x.s.T x.c.r).1.dt}:=⟨by simp[dC],hr.dt,by simp[dC],by simp[dC],by simp[dC],by simp[dC,aM]⟩;obtain⟨f,d⟩:=Xe (x:={x with back:=x.back++(aK x.s.T x.c.r).1.runs}) hx.s b e;have g: (aK x.s.T x.c.r).1.runs.length<=64:=akH (Vy λr h=>(hr.runs r h).1) hr.aM;refine⟨f,?_,?_,λ_=>rfl,by show 0<4294967296;omega,by show 0<18446744073709551616;omega⟩
 ·rw[d];have:=c.eI;unfold eI at this
  grind
 ·rw[d];intro r hm;rcases ahb.1 (show r∈x.back++(aK x.s.T x.c.r).1.runs from hm)with hm|hm
  ·exact c.runs r hm
  ·have:=hr.runs r hm;omega
def aAq(b:GI x){a:ar×bE}(h:sU x= .ok a):RD x.c a:=by
 obtain⟨_,_,h⟩:=bn h;cases h;exact(b.gone _).d
def aAr(hx:mQ x)(b:GI x){a:ar×bE}(h:vt x= .ok a):RD x.c a:=by
 obtain⟨_,_,h⟩:=bn h;obtain⟨y,e,h⟩:=bn h;cases h;exact(b.kr hx.c.r e).d
def amZ(b:GI x){a:ar×bE}(h: (ny x t>>=λy=>.ok (y,bX))= .ok a):RD x.c a:=by
 obtain⟨y,e,h⟩:=bn h;cases h;exact(b.dies e).d
def aAs{k:bg}(c:gL k.b){x:Tok}: (ln k x).2.1<4294967296:=by
 unfold ln;split
 ·simp
 ·split
  ·rename_i i b;split
   ·exact Ge (sQ b).1 (c i).1
   grind
  grind
def aAt(hx:mQ x)(b:GI x)(c:x.run.1<=64/\x.run.2<=64){a:ar×bE}(h:kp x= .ok a):RD x.c a:=by
 unfold kp at h;split at h
 all_goals try(rename_i ho;first
  |exact(aAb hx h).d b (λq=>absurd (ho ▸ q) (by decide))
  |exact(aAl hx c h).d b (λq=>absurd (ho ▸ q) (by decide))
  |exact(amX hx h).1.d b (λq=>akG bE.v (amX hx h).2)
  |exact aAp hx b h
  |exact aAq b h
  |exact aAr hx b h
  |exact amZ b h
  |exact(aAc hx h).d b (λq=>absurd (ho ▸ q) (by decide))
  |exact(aAd hx h).d b (λq=>absurd (ho ▸ q) (by decide))
  |exact(aAe hx h).d b (λq=>absurd (ho ▸ q) (by decide))
  |exact(aAf hx h).d b (λq=>absurd (ho ▸ q) (by decide))
  |exact(aAg hx (λt=>aAs hx.s.K.b) h).d b (λq=>absurd (ho ▸ q) (by decide))
  |exact(aAh hx h).d b (λq=>absurd (ho ▸ q) (by decide))
  |exact(aAo hx h).d b (λq=>absurd (ho ▸ q) (by decide))
  |exact(aAk hx h).d b (λq=>absurd (ho ▸ q) (by decide))
  |exact(aAi hx h).d b (λq=>absurd (ho ▸ q) (by decide))
  |exact(aAm hx h).d b (λq=>absurd (ho ▸ q) (by decide))
  |exact(aAn hx h).d b (λq=>absurd (ho ▸ q) (by decide))
  |exact(aAj hx h).d b (λq=>absurd (ho ▸ q) (by decide)))
 ·unfold xo at h;obtain⟨_,_,h⟩:=bn h;exact amZ b h
 ·cases h
def am0{s:bG}(d:bh s)(j:jQ c){run:aE}(f:run.1<=64/\run.2<=64):rP (dJ s aa c run) c/\ (dJ s aa c run).2.1.v<18446744073709551616:=by
 rw[axG];cases h:jn ⟨s,aa,c,run,0,false,[]⟩with
 |error e=>
  have:=az8 h;exact⟨⟨d,by simp,λr f=>(by grind),λ_=>by show 0<18446744073709551616;omega,by show 0<4294967296;omega,by grind⟩,by show 0<18446744073709551616;omega⟩
 |ok a=>
  obtain⟨y,r⟩:=a;have he:=Wl h;obtain⟨_,g,h⟩:=bn (show(ask _ _>>=λ_=>kp _)=_ from h);have g:=Xd g;have i:aa<8:=by grind
  have b:=aAt (x:=⟨s,aa,c,run,0,false,[]⟩) ⟨d,i,j,by grind,by grind⟩ (GI.start d ..) f h;exact⟨⟨b.s,b.len,b.runs,λq=>by rw[show r.v=0 from b.v q];decide,b.w,by grind⟩,b.v2⟩
theorem Xg{s:bG}(b:bh s)(e:jQ c){run:aE}(d:run.1<=64/\run.2<=64):rP (dJ s aa c run) c:=(am0 b e d).1
structure SK(s:bT)(c0:cp)(n:Nat):Prop where
 S:bh s.x.S
 P:fK s.x.P
 M: ∀i,hY (s.x.M i)
 Q: ∀k∈s.x.Q,k<2147483648
 len:s.x.Q.length<=n
 c:fI s.c
 run:s.c.run.1<=64/\s.c.run.2<=64
 cc:s.c.c=c0
 w:s.r.w<4294967296
 e:s.r.e<4294967296
 v:s.r.v<18446744073709551616
theorem am1: ∀ (l:lN) (f g:Nat->Nat) (P:cN),fK P->(∀i,g i<256)->fK (l.foldl (λP i=>vz P (f i) (g i)) P)
 | [],_,_,_,a,_=>a
 |i::l,f,g,P,a,b=>am1 l f g _ (a.write _ _ (b i)) b
section
variable{s:bT}{c0:cp}{n:Nat}(h:SK s c0 n)
include h
theorem SK.iB:jQ c0:=h.cc ▸ h.c.iB
theorem SK.ends(b:r.w<4294967296)(e:r.e<4294967296)(c:r.v<18446744073709551616):SK (rD s r) c0 (n+64):=by
 refine⟨h.S,h.P,Wr h.M _,λk a=>?_,?_,h.c,h.run,h.cc,b,e,c⟩
 ·rcases ahb.1 (show k∈s.x.Q++iR s.c.run from a)with a|a
  ·exact h.Q k a
  ·obtain⟨i,d,rfl⟩:=ahk.1 a;have:=aq9.1 d;have:=h.run;omega
 ·show(vA _ _).Q.length<=_;rw[amD];have:=h.len;have:=h.run;omega
theorem SK.check(b: ∀a∈sW s.x.S c0,a<4294967296):SK (oF s).1 c0 (n+64):=by
 have c:=h.len;unfold oF;rw[h.cc];split
 ·exact⟨h.S,h.P,h.M,h.Q,by grind,h.c,h.run,h.cc,h.w,h.e,h.v⟩
 split
 ·exact⟨h.S,h.P,h.M,h.Q,by grind,h.c,h.run,h.cc,h.w,h.e,h.v⟩
 split
 ·refine h.ends (by show 0<_;omega) ?_ (by show 0<_;omega);show oD s.x.S s.c.aa c0<_;unfold oD;split
  ·omega
  ·exact(Xg h.S h.iB (run:=(0,0)) ⟨by simp,by simp⟩).e
 ·exact⟨h.S,h.P,h.M,h.Q,by grind,⟨h.c.aa,h.c.iB,b,h.c.run,h.c.eW⟩,h.run,h.cc,h.w,h.e,h.v⟩
theorem SK.marks:SK (oG s).1 c0 n:=by
 unfold oG;split
 ·exact h
 ·rename_i a l hr;refine⟨h.S,h.P,axY h.M _,h.Q,h.len,?_,?_,?_,h.w,h.e,h.v⟩
  ·show fI (if(iQ s.x.M (aN a) s.c.aa).2 then{s.c with aT:=l}else s.c);split
   ·exact⟨h.c.aa,h.c.iB,λb c=>h.c.aT b (by grind),h.c.run,h.c.eW⟩
   ·exact h.c
  ·show(if(iQ s.x.M (aN a) s.c.aa).2 then{s.c with aT:=l}else s.c).run.1<=64/\ (if(iQ s.x.M (aN a) s.c.aa).2 then{s.c with aT:=l}else s.c).run.2<=64;split
   ·exact h.run
   ·exact h.run
  ·show(if(iQ s.x.M (aN a) s.c.aa).2 then{s.c with aT:=l}else s.c).c=c0;split
   ·exact h.cc
   ·exact h.cc
theorem SK.aAu:SK (oH s).1 c0 (n+64):=by
 have d:=h.len;have c:=alV s.x.S s.c.aa s.c.c;unfold oH;dsimp only;split
 ·exact⟨h.S,h.P,h.M,h.Q,by grind,h.c,h.run,h.cc,h.w,h.e,h.v⟩
 have a:=h.P.alT (eV s.x.S s.c.aa s.c.c);split
 ·have b:SK {s with x:={s.x with P:=(jo s.x.P (eV s.x.S s.c.aa s.c.c)).1}} c0 n:=⟨h.S,a,h.M,h.Q,h.len,h.c,h.run,h.cc,h.w,h.e,h.v⟩;refine b.ends (by show 0<_;omega) ?_ (by show 0<_;omega);unfold jo
  grind
 ·rename_i he;have:=ayy h.P _ (by omega) (Decidable.not_not.1 he);exact⟨h.S,a,h.M,h.Q,by grind,⟨h.c.aa,h.c.iB,h.c.aT,⟨by grind,by show eV _ _ _<_;omega⟩,h.c.eW⟩,⟨by show(jo _ _).2.1<=_;omega,by show eV _ _ _<=_;omega⟩,h.cc,h.w,h.e,h.v⟩
theorem SK.aAv:SK (oI s).1 c0 n:=by
 unfold oI;split
 ·exact h
 ·have:=h.run;exact⟨h.S,h.P.clear _,h.M,h.Q,h.len,⟨h.c.aa,h.c.iB,h.c.aT,h.c.run,by grind⟩,h.run,h.cc,h.w,h.e,h.v⟩
theorem SK.eD:SK (Go.Proofs.YteplichagkpciaaGreatDoor.eD s) c0 (n+64):=by
 have b:=h.len;unfold Go.Proofs.YteplichagkpciaaGreatDoor.eD;split
 ·have hr:=h.run;refine⟨h.S,h.P,h.M,λk a=>?_,?_,⟨h.c.aa,h.c.iB,h.c.aT,⟨by simp,by simp⟩,h.c.eW⟩,⟨by simp,by simp⟩,h.cc,h.w,h.e,h.v⟩
  ·rcases ahb.1 (show k∈s.x.Q++iR s.c.run from a)with a|a
   ·exact h.Q k a
   ·obtain⟨i,c,rfl⟩:=ahk.1 a
    grind
  ·show(s.x.Q++iR s.c.run).length<=_;rw[ahc];have: (iR s.c.run).length=s.c.run.2:=by simp[iR]
   omega
 ·exact⟨h.S,h.P,h.M,h.Q,by omega,h.c,h.run,h.cc,h.w,h.e,h.v⟩
theorem SK.aAw:SK (zG s) c0 (n+262400):=by
 rw[al9];have a:=h.eD;generalize Go.Proofs.YteplichagkpciaaGreatDoor.eD s=st at a;obtain⟨b,d⟩:=am0 a.S a.iB (aa:=st.c.aa) (run:=st.c.run) a.run;unfold Nj;rw[a.cc];dsimp only;split
 ·have:=a.ends b.w b.e d;exact⟨this.S,this.P,this.M,this.Q,by have:=this.len;omega,this.c,this.run,this.cc,this.w,this.e,this.v⟩
 ·have u:=a.len;have p:=b.len;have v:fK (z8 st.x.P c0 (iO st.x.S c0).1):=by
   unfold z8;split
   ·exact am1 _ _ _ _ a.P λi=>ao3 _ (by omega)
   ·exact a.P
  generalize q: ({st.x with S:=(dJ st.x.S st.c.aa c0 st.c.run).1,P:=z8 st.x.P c0 (iO st.x.S c0).1}:Core)=X;have e:X.Q=st.x.Q:=by grind
  have j:X.M=st.x.M:=by grind
  have g:fK X.P:=by grind
  have f:bh X.S:=by rw[<-q];exact b.S
  obtain⟨o,m,l⟩:=WM (dJ st.x.S st.c.aa c0 st.c.run).2.2 X;have k:=CP (dJ st.x.S st.c.aa c0 st.c.run).2.2 X λr hr=>(b.runs r hr).2
  have t:SK {st with x:=(dJ st.x.S st.c.aa c0 st.c.run).2.2.foldl cU X,c:={st.c with run:=(0,0)}} c0 (n+262336):=
   ⟨o ▸ f,m ▸ g,by rw[show((dJ st.x.S st.c.aa c0 st.c.run).2.2.foldl cU X).M=X.M from l,j];exact a.M,WN _ X b.runs (by rw[e];exact a.Q),by
     rw[e]at k;exact akH k (by omega),⟨a.c.aa,a.c.iB,a.c.aT,⟨by show 0<_;omega,by show 0<_;omega⟩,a.c.eW⟩,⟨by show 0<=_;omega,by show 0<=_;omega⟩,a.cc,a.w,a.e,a.v⟩
  refine t.ends b.w b.e ?_;show z9 _ _ _ _<_;unfold z9;split
  ·exact WI a.P _ _ d _ (alY a.S c0).1
  omega
theorem SK.mono{m:Nat}(a:n<=m):SK s c0 m:=⟨h.S,h.P,h.M,h.Q,by have:=h.len;omega,h.c,h.run,h.cc,h.w,h.e,h.v⟩
end
def aAx{t:aw}(c:ep t){h:Nat}(b:a∈under t h):t.ax a=true:=by
 unfold under at b;split at b
 ·rename_i d;exact Gi c.ok.b d b
 grind
def aAy{s:bG}(g:bh s): ∀a∈sW s c,a<4294967296:=by
 have j: ∀h,∀a∈oE s h,a<4294967296:=λh a d=>by
  unfold oE at d;split at d
  ·rename_i i;rw[ahe.1 d];exact gg i
  ·cases d
 have e: ∀h,∀a∈under s.T h,a<4294967296:=λh a d=>gg (aAx g.eB d)
 intro a d;unfold sW at d;split at d
 ·exact j _ a d
 split at d
 ·exact e _ a d
 split at d
 ·split at d
  ·cases d
  ·rename_i f;split at d
   ·exact e _ a d
   ·rcases ahb.1 d with d|d
    ·exact e _ a d
    ·rw[ahe.1 d];refine gg (b:=s.T.b) ?_;simp only[not_or,aDt]at f;exact f.2
 grind
def am2{x:Core}{c:Call}(a:jT x)(i:fI c)(g:c.run.1<=64/\c.run.2<=64):SK (gv x c) c.c (x.Q.length+262528):=by
 have j:SK ⟨x,c,bX,false⟩ c.c x.Q.length:=⟨a.S,a.P,a.M,a.Q,ahd _,i,g,rfl,by show 0<_;omega,by show 0<_;omega,by show 0<_;omega⟩;have f:=j.check (aAy a.S);have e:=f.marks;have d:=e.aAu;have b:=d.aAv;unfold gv;dsimp only;split
 ·exact f.mono (by omega)
 split
 ·exact e.mono (by omega)
 split
 ·exact d.mono (by omega)
 split
 ·exact b.mono (by omega)
 ·exact b.aAw.mono (by omega)
theorem aAz(h:dE m)(t:Nat): (gv m.az (m.aA t).c).r.v<18446744073709551616:=(am2 h.az (h.c t) (h.run t)).v
def am3(h:dE m)(d:m.az.Q.length<2147483648)(t:Nat):amQ m t/\ (xS m t).az.Q.length<=m.az.Q.length+262528:=by
 have hs:=am2 h.az (h.c t) (h.run t);have c:SK ⟨m.az,(m.aA t).c,bX,false⟩ (m.aA t).c.c m.az.Q.length:=⟨h.az.S,h.az.P,h.az.M,h.az.Q,ahd _,h.c t,h.run t,rfl,by show 0<_;omega,by show 0<_;omega,by show 0<_;omega⟩;have a:=c.eD;have b:=hs.len;refine⟨⟨?_,⟨⟨hs.S,hs.P,hs.M,hs.Q,by show(gv _ _).x.Q.length<_;omega⟩,λj=>?_,λj=>?_,λj=>?_,h.now,h.ev,λj=>?_⟩,⟨hs.w,hs.e⟩,?_⟩,b⟩
 ·rw[a.cc];exact Xg a.S (h.c t).iB a.run
 ·show lD (aq m.aA t _ j).t;unfold aq;split
  ·exact h.t t
  ·exact h.t j
 ·show fI (aq m.aA t _ j).c;unfold aq;split
  ·exact hs.c
  ·exact h.c j
 ·show(aq m.aA t _ j).fr<_;unfold aq;split
  ·exact h.fr t
  ·exact h.fr j
 ·show(aq m.aA t _ j).c.run.1<=64/\ (aq m.aA t _ j).c.run.2<=64;unfold aq;split
  ·exact hs.run
  ·exact h.run j
 ·rw[hs.cc];exact(h.c t).iB.op
theorem aAA{t:Task}(h:lD t){v:Nat}(a:v<18446744073709551616): ∀j,aq t.aT i v j<18446744073709551616:=λj=>by
 unfold aq;split
 ·omega
 ·exact h.aT j
def aAB{t:Task}(h:lD t):lD (rH t):=by
 unfold rH;split
 ·exact h
 split
 ·exact h
 ·rename_i x c;have e:t.next<t.code.length:=(afA.1 c).1;have f:=h.len;have b:=GV h c;have a: ∀v,v<18446744073709551616->lD {t with aT:=aq t.aT (x.a % 8) v,next:=t.next+1}:=λv d=>
   ⟨h.len,h.ins,by show t.next+1<=64;omega,aAA h d⟩
  dsimp only;split
  ·exact a _ (by have:=b.n;omega)
  split
  ·exact a _ (ao3 _ (by decide))
  split
  ·exact a _ (ao3 _ (by decide))
  split
  ·exact a _ (ao3 _ (by decide))
  split
  ·rename_i i;refine⟨h.len,h.ins,?_,h.aT⟩;show x.n<=64;exact b.j (.inl i)
  split
  ·rename_i g;refine⟨h.len,h.ins,?_,h.aT⟩;have:=b.j (.inr g);show(if _ then x.n else t.next+1)<=64;split
   ·omega
   ·exact akH e f
  ·exact⟨h.len,h.ins,by show t.next+1<=64;omega,h.aT⟩
def aAC{t:Task}(h:lD t)(c:r.v<18446744073709551616)(b:r.w<4294967296)(f:r.e<4294967296):lD (sY t r):=by
 unfold sY;split
 ·exact h
 ·rename_i x a;have d:t.next<t.code.length:=(afA.1 a).1;have e:=h.len;split
  ·refine⟨h.len,h.ins,by grind,λj=>?_⟩;show aq (aq (aq t.aT (x.a % 8) r.v) 4 r.w) 7 r.e j<_;unfold aq;split
   ·omega
   ·split
    ·omega
    ·split
     ·omega
     ·exact h.aT j
  omega
structure rQ(m:aX):Prop where
 ok:dE m
 q:m.az.Q.length<=263200*m.now
 e:m.cH.length<=m.now
theorem dE.G6(h:dE m){n:Nat}(a:n<2147483648):dE {m with now:=n}:=⟨h.az,h.t,h.c,h.fr,a,h.ev,h.run⟩
def dE.ended(h:dE m){c:Call}{run:aE}(b:r.v<18446744073709551616)(a:r.w<4294967296)(d:r.e<4294967296)(e:m.cH.length<2147483647):dE (Ml m t c run r):=by
 refine⟨h.az,λj=>?_,λj=>?_,λj=>?_,h.now,?_,λj=>?_⟩
 ·show lD (aq m.aA t _ j).t;unfold aq;split
  ·exact aAC (h.t t) b a d
  ·exact h.t j
 ·show fI (aq m.aA t _ j).c;unfold aq;split
  ·exact CW
  ·exact h.c j
 ·show(aq m.aA t _ j).fr<_;unfold aq;split
  ·exact h.fr t
  ·exact h.fr j
 ·show(m.cH++[_]).length<_
  grind
 ·show(aq m.aA t _ j).c.run.1<=64/\ (aq m.aA t _ j).c.run.2<=64;unfold aq;split
  ·exact⟨by show 0<=64;omega,by show 0<=64;omega⟩
  ·exact h.run j
structure G7(a b:aX):Prop where
 q:b.az.Q.length<=a.az.Q.length+262600
 e:b.cH.length<=a.cH.length+1
 n:b.now=a.now
def am4(h:dE m)(c:m.az.Q.length<2147483648)(b:m.cH.length<2147483647)(t:Nat):dE (xr m t)/\G7 m (xr m t):=by
 obtain⟨a,d⟩:=am3 h c t;rw[amH];split
 ·refine⟨a.m'.ended (aAz h t) a.r.1 a.r.2 b,by show(xS m t).az.Q.length<=_;omega,?_,rfl⟩;show(m.cH++[_]).length<=_
  grind
 ·exact⟨a.m',by omega,by show m.cH.length<=_;omega,rfl⟩
def am5(h:dE m)(c:m.az.Q.length<2147483648)(b:m.cH.length<2147483647)(d:t<8):dE (zH m t)/\G7 m (zH m t):=by
 unfold zH;dsimp only;split
 ·exact am4 h c b t
 split
 ·obtain⟨e,a⟩:=am4 (m:=Nr m t) (h.wanted d) c b t;exact⟨e,a.q,a.e,a.n⟩
 ·refine⟨⟨h.az,λj=>?_,λj=>?_,λj=>?_,h.now,h.ev,λj=>?_⟩,by simp,by simp,rfl⟩
  ·show lD (aq m.aA t _ j).t;unfold aq;split
   ·exact aAB (h.t t)
   ·exact h.t j
  ·show fI (aq m.aA t _ j).c;unfold aq;split
   ·exact h.c t
   ·exact h.c j
  ·show(aq m.aA t _ j).fr<_;unfold aq;split
   ·exact h.fr t
   ·exact h.fr j
  ·show(aq m.aA t _ j).c.run.1<=64/\ (aq m.aA t _ j).c.run.2<=64;unfold aq;split
   ·exact h.run t
   ·exact h.run j
theorem aAD:jQ fy:=⟨by decide,by decide,by decide,by decide,by decide,by decide⟩
theorem am6(h:dE m)(t:Nat):rP (dJ m.az.S t fy (0,0)) fy:=Xg h.az.S aAD ⟨by simp,by simp⟩
def am7(h:dE m)(f:m.az.Q.length<2147483648)(e:m.cH.length<2147483647)(t:Nat):dE (Cj m t)/\G7 m (Cj m t):=by
 have b:=am6 h t;have c:=CP (dJ m.az.S t fy (0,0)).2.2 m.az λr hr=>(b.runs r hr).2
 have d:=b.len;have a:=jT.al7 (x:=m.az) h.az b.runs (by omega);refine⟨⟨⟨b.S,a.P,a.M,a.Q,a.Ql⟩,h.t,h.c,h.fr,h.now,?_,h.run⟩,?_,?_,rfl⟩
 ·show(m.cH++[_]).length<_
  grind
 ·exact akH c (by omega)
 ·show(m.cH++[_]).length<=_
  grind
def aAE(h:dE m)(a:m.az.Q.length<1073741824):dE (mN m)/\ (mN m).az.Q.length<=m.az.Q.length+512:=by
 obtain⟨c,b⟩:=W5 h a 8 (by omega);exact⟨c,b⟩
def am8(m:aX)(i:Nat): (nA m i).cH=m.cH/\ (nA m i).now=m.now:=by unfold nA;grind
theorem Nt(m:aX): ∀k,(ja m k).cH=m.cH/\ (ja m k).now=m.now
 |0=>⟨rfl,rfl⟩
 |k+1=>by rw[W4];exact⟨(am8 _ _).1.trans (Nt m k).1,(am8 _ _).2.trans (Nt m k).2⟩
def am9{x:Core}(h:jT x):jT (iS x).1/\ (iS x).1.Q.length<=x.Q.length:=by
 unfold iS;split
 ·grind
 ·rename_i a l c;exact⟨⟨h.S,h.P.back _,h.M,λk b=>h.Q k (by grind),by have:=h.Ql;grind⟩,by grind⟩
def rQ.clear{a:aX}(h:rQ a)(e:dE m)(b:G7 a {m with now:=a.now})(g:m.now=a.now+1)(i:a.now<=4000):rQ (mN m):=by
 have o:m.az.Q.length<=a.az.Q.length+262600:=b.q;have n:m.cH.length<=a.cH.length+1:=b.e;have l:=h.q;have k:=h.e;obtain⟨f,j⟩:=aAE e (by omega);obtain⟨d,c⟩:=Nt m 8;have d: (mN m).cH=m.cH:=d;have c: (mN m).now=m.now:=c;exact⟨f,by omega,by grind⟩
def Xh(h:rQ m)(e:m.now<=4000)(b:Nat):rQ (gx m b).1/\ (gx m b).1.now<=m.now+1:=by
 have g:=h.q;have he:=h.e;have c:=(h.ok.G6 (n:=m.now+1) (by omega));have key: ∀m':aX,dE m'->G7 m {m' with now:=m.now}->m'.now=m.now+1->rQ (mN m')/\ (mN m').now<=m.now+1:=λm' d a f=>
  ⟨h.clear d a f e,by have: (mN m').now=m'.now:=(Nt m' 8).2;omega⟩
 unfold gx;dsimp only;split
 ·grind
 split
 ·split
  ·obtain⟨d,a⟩:=am9 h.ok.az;exact key _ ⟨d,h.ok.t,h.ok.c,h.ok.fr,by show m.now+1<_;omega,h.ok.ev,h.ok.run⟩ ⟨by show(iS m.az).1.Q.length<=_;omega,by show m.cH.length<=_;omega,rfl⟩ rfl
  grind
 split
 ·exact⟨h,Nat.le_succ m.now⟩
 split
 ·obtain⟨d,a⟩:=am7 c (by show m.az.Q.length<_;omega) (by show m.cH.length<_;omega) (b % 8);exact key _ d ⟨a.q,a.e,rfl⟩ a.n
 ·obtain⟨d,a⟩:=am5 c (by show m.az.Q.length<_;omega) (by show m.cH.length<_;omega) (ao3 b (by decide));exact key _ d ⟨a.q,a.e,rfl⟩ a.n
theorem bu.G6{n:Nat}{H:List ae}(h:bu n M p q m qv ev aB aI H)(k:Nat):
 bu n M p q {m with now:=k} qv ev aB aI (H.set M (.box (cw {m with now:=k} p aB aI ev) none)):=h.set rfl rfl h.cv h.rv
def Xi{n:Nat}{H:List ae}(hD: ∀op,me op)(d:bu n M p q m qv ev aB aI H)(l:rQ m)(hn:m.now<=4000)(b:Nat)(hb:b<256)(lo:oN):
  ∃J,D XC (.fn (.func yD) [] []) [.ptr M 0,.int .u8 b] ⟨H,lo⟩=some J/\fT n M p q H lo (gx m b).1 qv ev (.int .i64 (gx m b).2) J:=by
 refine cy sG λN t=>?_
 have G5:M<N:=by rw[<-t];exact d.lt
 have oO:p<N:=by rw[<-t];exact d.co.lt
 have Xa:=d.nM;have hq:=l.q;have he:=l.e;have X:b % 8<8:=ao3 _ (by decide);have e: (b:Int).tmod 8=((b % 8:Nat):Int):=by rw[are (by omega)];omega
 have i:IntKind.i64.wrap ((b % 8:Nat):Int)=((b % 8:Nat):Int):=wrap_i64 (by omega) (by omega);have A:IntKind.i64.wrap ((m.now:Int)+1)=((m.now+1:Nat):Int):=wrap_i64 (by omega) (by omega);have g:=l.ok.G6 (n:=m.now+1) (by omega);have hA:=d.G6 (m.now+1);have hF:=d.fM (.box (cw {m with now:=m.now+1} p aB aI ev) none);have f:ed EK.ptr (AV.ptr M 0) AV.dZ=some false:=rfl;have o:aH (cw m p aB aI ev) 193 [.int .i64 ((m.now:Int)+1)]=cw {m with now:=m.now+1} p aB aI ev:=amz (n:=m.now+1);unfold gx;dsimp only;by_cases k1:8<b/\b<16\/24<=b
 ·rw[afJ k1];have g1: (8:Int)<b:=by omega
  by_cases k2:b<16
  ·have g2: (b:Int)<16:=by omega
   simp only[go_sem,simprocAttr,sG,e,i,f,g1,g2];exact fT.fin d t d Fm.refl (eJ.no ⟨rfl,rfl⟩) (aha _)
  ·have g2: ¬(b:Int)<16:=by omega
   have I: (24:Int)<=b:=by omega
   simp only[go_sem,simprocAttr,sG,e,i,f,g1,g2,I];exact fT.fin d t d Fm.refl (eJ.no ⟨rfl,rfl⟩) (aha _)
 rw[afB k1];have I: ¬(24:Int)<=b:=by omega
 have E: ∀ (m':aX) (y C:AV) (nQ s:Nat->AV) (W:List ae) (ak:oN),dE m'->m'.az.Q.length<1073741824->bu n M p q m' y C nQ s W->Fm n [M,p,q] H W->eJ (y=qv/\C=ev) p ak->
   ∃v w c,D XC (.fn (.func IK) [] []) [.ptr M 0] ⟨W,ak⟩=some (.ret v ⟨w,c⟩)/\fT n M p q H lo (mN m') qv ev (.int .i64 0) (.ret (finish N lo (.int .i64 0) ⟨w,c⟩).1 (finish N lo (.int .i64 0) ⟨w,c⟩).2):=by
  intro m' y C nQ s W ak h1 h2 h3 h4 h5;obtain⟨J,G,x,O,u,r,w,c,rfl,F,c3,c4⟩:=azr h3 h1 h2 ak;exact⟨_,w,c,G,fT.fin d t F (h4.trans c3) (h5.step c4 λa b=>⟨b.1.trans a.1,b.2.trans a.2⟩) (aha _)⟩
 by_cases k8:b=8
 ·rw[afJ k8];have g1: ¬(8:Int)<b:=by omega
  have B: (b:Int)=8:=by omega
  obtain⟨J,P,x,W,c,rfl,r2,T,r4⟩:=ayx d.co l.ok.az none;have k:=d.az r2 T;obtain⟨S,ro2⟩:=am9 l.ok.az;cases hr: (iS m.az).2 with
  |false=>
   rw[hr]at P;rw[afB (by decide)];have e1: ({m with az:=(iS m.az).1}:aX)=m:=by
    have: (iS m.az).1=m.az:=by
     unfold iS at hr⊢;split
     ·rfl
     ·rename_i h;rw[h]at hr;cases hr
    rw[this]
   rw[e1]at k;simp only[go_sem,simprocAttr,sG,f,B,d.box,qq,P];exact fT.fin d t k (bu.fc T) ((ew.n r4).imp (λq=>⟨q.1,q.2,rfl⟩) id) (aha _)
  |true=>
   rw[hr]at P;rw[afJ rfl];have Nq:=k.G6 (m.now+1);have hF3:=(bu.fc (M:=M) T).trans (k.fM (.box (cw {{m with az:=(iS m.az).1}with now:=m.now+1} p aB aI ev) none));obtain⟨v,w,K,G,F⟩:=E {m with az:=(iS m.az).1,now:=m.now+1} _ _ _ _ _ c ⟨S,l.ok.t,l.ok.c,l.ok.fr,by show m.now+1<_;omega,l.ok.ev,l.ok.run⟩ (by show(iS m.az).1.Q.length<_;omega) Nq hF3 ((ew.n r4).imp (λq=>⟨q.1,q.2,rfl⟩) id);have Z:=k.box;have o:aH (cw {m with az:=(iS m.az).1} p aB aI ev) 193 [.int .i64 ((m.now:Int)+1)]=cw {m with az:=(iS m.az).1,now:=m.now+1} p aB aI ev:=amz (m:={m with az:=(iS m.az).1}) (n:=m.now+1);have Y:=CU (m:={m with az:=(iS m.az).1}) (p:=p) (aB:=aB) (aI:=aI) (ev:=ev);simp only[go_sem,simprocAttr,sG,f,B,d.box,qq,P,Z,Y,A,o,oU,G];exact F
 rw[afB k8];have B: ¬(b:Int)=8:=by omega
 have j:=λlo=>Np d (b % 8) lo
 cases L:qd m (b % 8)with
 |false=>
  rw[L]at j;rw[afJ rfl];by_cases z:16<=b
  ·have g1: (8:Int)<b:=by omega
   have g2: ¬(b:Int)<16:=by omega
   simp only[go_sem,simprocAttr,sG,e,i,f,g1,g2,I,B,j];exact fT.fin d t d Fm.refl (eJ.no ⟨rfl,rfl⟩) (aha _)
  ·have g1: ¬(8:Int)<b:=by omega
   simp only[go_sem,simprocAttr,sG,e,i,f,g1,I,B,j];exact fT.fin d t d Fm.refl (eJ.no ⟨rfl,rfl⟩) (aha _)
 |true=>
  rw[L]at j;rw[afB (by decide)];by_cases z:16<=b
  ·rw[afJ z];have g1: (8:Int)<b:=by omega
   have g2: ¬(b:Int)<16:=by omega
   have g5: (16:Int)<=b:=by omega
   obtain⟨J,s1,x,O,u,r,W,c,rfl,s2,R,Q⟩:=azB hD hA g (b % 8) X (by show m.az.Q.length<_;omega) (am6 g _) none;obtain⟨V,U⟩:=am7 g (by show m.az.Q.length<_;omega) (by show m.cH.length<_;omega) (b % 8);have o3:_<=m.az.Q.length+262600:=U.q;obtain⟨v,w,K,G,F⟩:=E _ _ _ _ _ _ c V (by omega) s2 (hF.trans R) (ew.n Q);simp only[go_sem,simprocAttr,sG,e,i,f,g1,g2,I,B,g5,j,d.box,CU,A,o,oU,s1,G];exact F
  ·rw[afB z];have g1: ¬(8:Int)<b:=by omega
   have g5: ¬(16:Int)<=b:=by omega
   obtain⟨J,s1,x,O,u,r,W,c,rfl,s2,R,Q⟩:=azz hD hA g (b % 8) X (by show m.az.Q.length<_;omega) (λm h1 h2=>(am3 h1 h2 _).1) none;obtain⟨V,U⟩:=am5 g (by show m.az.Q.length<_;omega) (by show m.cH.length<_;omega) X;have o3:_<=m.az.Q.length+262600:=U.q;obtain⟨v,w,K,G,F⟩:=E _ _ _ _ _ _ c V (by omega) s2 (hF.trans R) (ew.n Q);simp only[go_sem,simprocAttr,sG,e,i,f,g1,I,B,g5,j,d.box,CU,A,o,oU,s1,G];exact F
def xT:bG:={oJ with alive:=λ_=>false,born:=λ_=>false}
theorem aAG:pE=bz xT:=rfl
def aAH(H:List ae)(lo:oN):D X0 (.fn (.func Qd) [] []) [] ⟨H,lo⟩=some (.ret (.agg (bz oJ)) ⟨H,lo⟩):=by
 refine aF RL λN a=>?_
 have d:=ahZ (s:=xT) (i:=0) (v:=true) (by omega);have c:=ah0 (s:={xT with alive:=aq xT.alive 0 true}) (i:=0) (v:=true) (by omega);have b: ({xT with alive:=aq xT.alive 0 true,born:=aq xT.born 0 true}:bG)=oJ:=by rfl
 simp only[F1,go_sem,simprocAttr,RL,a,aAG,d,c,b,eU,ox,M8,Wn]
def aAI(n:Nat)(h:1<=n/\n<=64)(H:List ae)(lo:oN):D X0 (.fn (.func QD) [] []) [.int .i64 n] ⟨H,lo⟩=some (.ret (.agg [.sl [[.int .i64 0,.int .i64 n]] true]) ⟨H,lo⟩):=by
 refine aF Sq λN a=>?_
 have e: ¬(n:Int)<1:=by omega
 have d:min (n:Int) 64=n:=by omega
 have c:b8 [[AV.int IntKind.i64 0,AV.int IntKind.i64 n]]<=N+1:=aha _;have b:b8 [[AV.int IntKind.i64 0,AV.int IntKind.i64 n]]<=N:=aha _;simp only[F1,go_sem,simprocAttr,Sq,a,e,d,c,b]
def G8:cN:=⟨0,[],λ_ _=>0,true⟩
def uk(n:Nat):cN:=⟨n,[(0,n)],λ_ _=>0,true⟩
theorem ana{v:AV}: ∀n,br n [v]=List.replicate n v
 |0=>rfl
 |n+1=>by show[v]++br n [v]=_;rw[ana n];rfl
theorem anb{v:AV}{m:Nat}: ∀n,arr n (λ_=>List.replicate m v)=List.replicate (n*m) v
 |0=>by rw[Nat.zero_mul];rfl
 |n+1=>by rw[zp,anb n,aDl,arq]
theorem aAJ:ql (λ_=>0)=List.replicate 32 (AV.int .u8 0):=rfl
def aAK:af5=ca G8:=by
 show[AV.int .i64 0,.ai]++br 2048 [AV.int .u8 0]=[AV.int .i64 0,.ai]++arr 64 λ_=>ql λ_=>0
 rw[ana,aAJ,anb]
theorem aEm:ca G8=AV.int .i64 0:: .ai::arr 64 λ_=>ql λ_=>0:=rfl
theorem aEn{n:Nat}:ca (uk n)=AV.int .i64 n:: .sl [[.int .i64 0,.int .i64 n]] true::arr 64 λ_=>ql λ_=>0:=rfl
def ane{N id o:Nat}{k:IntKind}{a:Int}{H:List ae}(h:N<=id):finish N lo (.au [.ptr id o,.int k a]) ⟨H,none⟩=(.au [.ptr id o,.int k a],⟨H,lo⟩):=by
 have b: ¬(AV.au [.ptr id o,.int k a]).refs<=N:=by simp only[AV.refs,aG];omega
 refine aeZ b ?_;rw[Iy,afB b,ib,PN h]
def aAL{N id o:Nat}{k:IntKind}{a:Int}{H:List ae}(h:N<=id):finish N lo (.au [.ptr id o,.int k a]) ⟨H,some j⟩=(.au [.ptr id o,.int k a],⟨H,cA lo j⟩):=by
 have b: ¬(AV.au [.ptr id o,.int k a]).refs<=N:=by simp only[AV.refs,aG];omega
 rw[DS];split
 ·rw[Iy,afB b,ib,PN h];rfl
 ·rfl
def aAM(n:Nat)(h:1<=n/\n<=64)(N:Nat)(H:List ae)(c:H.length=N)(lo:oN):D X0 (.fn (.func Qw) [] []) [.int .i64 n] ⟨H,lo⟩=some (.ret (.au [.ptr N 0,.int .i64 0]) ⟨H++[.box (ca (uk n)) none],lo⟩):=by
 refine aF R7 λM f=>?_
 have e: ¬(n:Int)<1:=by omega
 have d: ¬(64:Int)<n:=by omega
 have hr:=λH lo=>aAI n h H lo
 have b:1<=(ca G8).length:=by rw[xO];omega
 have a:1<=(List.drop 1 (ca G8)).length:=by rw[ao2,xO];omega
 have he:AV.int .i64 n::AV.sl [[.int .i64 0,.int .i64 n]] true::List.drop 1 (List.drop 1 (ca G8))=ca (uk n):=by rfl
 simp only[go_sem,simprocAttr,R7,c,e,d,hr,aAK,b,a,he];rw[ane (by omega)]
theorem Xj:mz=bz xT++([.dZ]++(cI (λ_=>xp)++[.ai])):=rfl
def aAN(n:Nat)(h:1<=n/\n<=64)(N:Nat)(H:List ae)(e:H.length=N)(lo:oN):D X0 (.fn (.func Qk) [] []) [.int .i64 n] ⟨H,lo⟩=some (.ret (.au [.ptr (N+1) 0,.int .i64 0]) ⟨H++[.box (ca (uk n)) none,.box (cz ⟨oJ,uk n,λ_=>xp,[]⟩ N .ai) none],lo⟩):=by
 refine aF RR λM i=>?_
 obtain rfl:M=N:=by omega
 have hr:=λlo=>aAM n h M H e lo
 have g:=λH lo=>aAH H lo
 have d:List.drop 952 mz=[.dZ]++(cI (λ_=>xp)++[.ai]):=by rw[Xj];exact List.drop_left' (eU _)
 have f:mz.length=1274:=by rw[Xj,ahc,eU,ahc,ahc,dW];rfl
 have a:aH (bz oJ++List.drop 952 mz) 952 [.ptr M 0]=cz ⟨oJ,uk n,λ_=>xp,[]⟩ M .ai:=by
  rw[d,gr (by rw[eU];omega),eU];rfl
 have c:953<=952+(List.drop 952 mz).length:=by rw[d];simp[dW]
 have b:952<=mz.length:=by rw[f];omega
 simp only[go_sem,simprocAttr,RR,e,hr,g,eU,b,c,a];rw[ane (by omega)]
theorem anf:J4=[.dZ]++(arr 8 (λ_=>xQ Ci .ai .ai)++[.int .i64 0,.ai]):=rfl
def fz(n:Nat)(aC:List lB)(k:Nat):aX:=⟨⟨oJ,uk n,λ_=>xp,[]⟩,λi=>{Ci with t:={sZ with code:=if i<k then((aC[i]?).bind decode).getD []else[]}},0,[]⟩
def aAO(n:Nat)(aC:List lB)(a:lN):fz n aC aC.length=U0 ⟨n,aC,a⟩:=by
 unfold fz U0
 congr 1
 grind
def mW(m:aX)(n N:Nat)(pv kv:AV)(aB:Nat->AV)(H:List ae):List ae:=
 H++[.box [.int .i64 n,pv,kv] none,.box (cw m (N+3) aB (λ_=>.ai) .ai) none,.box (ca (uk n)) none,.box (cz ⟨oJ,uk n,λ_=>xp,[]⟩ (N+2) .ai) none]
def ang{n N:Nat}{H:List ae}(a:H.length=N): (mW m n N pv kv aB H)[N+1]?=some (.box (cw m (N+3) aB (λ_=>.ai) .ai) none):=by
 unfold mW;grind
def aAP{m':aX}{n N:Nat}{nQ:Nat->AV}{H:List ae}(a:H.length=N): (mW m n N pv kv aB H).set (N+1) (.box (cw m' (N+3) nQ (λ_=>.ai) .ai) none)=mW m' n N pv kv nQ H:=by
 unfold mW;simp_all
def aAQ{n:Nat}{cv:AV}(c:k<aC.length)(b:k<8):
  aH (cw (fz n aC k) p aB (λ_=>.ai) .ai) (1+k*24) (cY {sZ with code:=(decode (aC.getD k default)).getD []} cv)=cw (fz n aC (k+1)) p (aq aB k cv) (λ_=>.ai) .ai:=by
 have g:=GZ (m:=fz n aC k) (p:=p) (aB:=aB) (aI:=λ_=>.ai) (ev:=.ai) (o:=0) (vs:=cY {sZ with code:=(decode (aC.getD k default)).getD []} cv) (r:={Ci with t:={sZ with code:=(decode (aC.getD k default)).getD []}}) (cv:=cv) (rv:=.ai) b (by rw[xP];omega) rfl;have e:aq (λ_=>AV.ai) k AV.ai=λ_=>AV.ai:=mH (f:=λ_=>AV.ai)
 have d: ({fz n aC k with aA:=aq (fz n aC k).aA k {Ci with t:={sZ with code:=(decode (aC.getD k default)).getD []}}}:aX)=fz n aC (k+1):=by
  have a:aq (fz n aC k).aA k {Ci with t:={sZ with code:=(decode (aC.getD k default)).getD []}}=(fz n aC (k+1)).aA:=by
   unfold aq fz
   grind
  rw[a];rfl
 grind
def anh{n:Nat}{a:lB}(h:GX n aC a pv kv)(x:nC ⟨n,aC,a.map UInt8.toNat⟩=true)(N:Nat)(H:List ae)(r:H.length=N)(lo:oN):
  ∃P,D XC (.fn (.func D3) [] []) [.agg [.int .i64 n,pv,kv]] ⟨H,lo⟩=some P/\ ∃aB ak,P= .ret (.au [.ptr (N+1) 0,.int .i64 0]) ⟨mW (fz n aC aC.length) n N pv kv aB H,ak⟩/\
   (∀i,Rv (aB i) 5 (((fz n aC aC.length).aA i).t.code.map cX))/\ (ak=lo\/ ∃j,N<=j/\ak=cA lo j):=by
 obtain⟨w,f,Q⟩:1<=n/\n<=64/\aC.length<=8:=by unfold nC at x;simp at x;omega
 have b:=λH lo=>c0 (azl h (by omega) H lo)
 rw[x]at b;refine cy RH λM Y=>?_
 obtain rfl:M=N:=by omega
 have G:=λB lo=>c0 (aAN n ⟨w,f⟩ (M+2) (H++[.box [.int .i64 n,pv,kv] none,.box B none]) (by simp[r]) lo)
 have c:=h.pr;have s:aH J4 0 [.ptr (M+3) 0]=cw (fz n aC 0) (M+3) (λ_=>.ai) (λ_=>.ai) .ai:=by rw[anf];rfl
 have y:1<=J4.length:=by rw[anf];simp
 have z: ¬M+2<=M:=by omega
 have I:M+2+1=M+3:=rfl;have A:=λE=>c.bL (E:=E)
 simp only[go_sem,simprocAttr,RH,r,b,G,s,y,z,A,I];refine gS aC.length (λk e W ak=> ∃aB,e 4= .ptr (M+1) 0/\e 22=pv/\e 23= .int .i64 aC.length/\e 24= .int .i64 k/\W=mW (fz n aC k) n M pv kv aB H/\ (∀i,Rv (aB i) 5 (((fz n aC k).aA i).t.code.map cX))/\ak=some (M+1)) 0 (by omega) ?_ ?_
 ·refine⟨λ_=>.ai,?_⟩;simp only[go_sem,simprocAttr];exact⟨rfl,λi=>.ai,rfl⟩
 rintro k X e W ak ⟨aB,O,q,o,l,rfl,g,rfl⟩ U V;simp only[bR,go_sem,simprocAttr,agd,O,q,o,l];refine⟨λR=>?_,λR=>?_⟩
 ·have d:k<aC.length:=by omega
  have T:k<8:=by omega
  obtain⟨cv,t1,t2⟩:=azm (aC.getD k default) (mW (fz n aC k) n M pv kv aB H) (some (M+1));have t1:=c0 t1;have F: (0:Int)<=k/\ (k:Int)<8:=by omega
  have S:=ang (m:=fz n aC k) (n:=n) (pv:=pv) (kv:=kv) (aB:=aB) r;have hs:=λm' nQ=>aAP (m:=fz n aC k) (m':=m') (n:=n) (pv:=pv) (kv:=kv) (aB:=aB) (nQ:=nQ) r
  have u:=aAQ (n:=n) (p:=M+3) (cv:=cv) (aB:=aB) d T;have v:=GR (t:={sZ with code:=(decode (aC.getD k default)).getD []}) (cO t2 (bD (λ_=>rfl) _));have C:1+k*24+10<=195:=by omega
  simp(disch:=omega) only[go_sem,simprocAttr,O,q,o,l,c.ck,c.cD,sC,t1,F,S,hs,u,v,C,oU,xP];refine⟨by omega,by omega,aq aB k cv,rfl,λi=>?_⟩;by_cases L:i=k
  ·subst L;have e:aC.getD i default=aC[i]:=by simp[List.getD,d]
   rw[cT];have J: ((fz n aC (i+1)).aA i).t.code=(decode (aC.getD i default)).getD []:=by
    show(if i<i+1 then((aC[i]?).bind decode).getD []else[])=_;rw[afJ (by omega),ag6 d,e];rfl
   rw[J];exact t2
  ·rw[dj L];have J: ((fz n aC (k+1)).aA i).t.code=((fz n aC k).aA i).t.code:=by
    show(if i<k+1 then((aC[i]?).bind decode).getD []else[])=(if i<k then((aC[i]?).bind decode).getD []else[]);by_cases K:i<k
    ·rw[afJ K,afJ (by omega)]
    ·rw[afB K,afB (by omega)]
   rw[J];exact g i
 ·obtain rfl:k=aC.length:=by omega
  rw[aAL (by omega)];exact⟨aB,_,rfl,g,.inr ⟨M+1,by omega,rfl⟩⟩
theorem ani: ∀ (s:lB),∀x∈rF s,x.n<65536
 |a::b::c::d::e::f::r,x,h=>by
  rcases ai2.1 h with rfl|h
  ·have:=e.toNat_lt;have:=f.toNat_lt
   grind
  ·exact ani r x h
 | [],x,h=>by cases h
 | [_],x,h=>by cases h
 | [_,_],x,h=>by cases h
 | [_,_,_],x,h=>by cases h
 | [_,_,_,_],x,h=>by cases h
 | [_,_,_,_,_],x,h=>by cases h
def aAR{s:lB}{l:List dG}(h:decode s=some l):l.length<=64/\ ∀x∈l,GQ x:=by
 unfold decode at h;split at h
 ·cases h
 split at h
 ·rename_i hm;cases h;unfold qc at hm;simp only[aiL,amT,ahp]at hm;refine⟨hm.1,λx a=>?_⟩;have b:=hm.2 x a;unfold rE at b;simp at b;have c:=ani s x a;exact⟨by omega,by omega,by omega,by omega,c,λd=>by omega⟩
 grind
def anj(h:Nat):ax (λ_=>⟨0,false,false⟩) h=false:=by
 unfold ax;grind
def aAS:bh oJ:=by
 have a:gL (λ_=>⟨0,false,false⟩):=λi=>⟨aha _,λh=>by rfl⟩
 refine⟨⟨⟨a,λi=>Cs⟩,λh=>?_,λi=>?_⟩,⟨λi=>by show 0<4294967296;omega,λi=>VE⟩,⟨⟨a,λi h=>(by cases h),λi=>ajn⟩,λi=>CE _,[],.nil,λh q=>(by cases q),λh q=>?_,.nil,λh q=>(by cases q)⟩,λi=>⟨by show 0<4;omega,by show 0<=4;omega,λj=>VL⟩⟩
 ·have e:aR oJ.T h=[]:=by
    unfold aR en bI;have:oJ.T.ax h=false:=anj h
    grind
  grind
 ·exact CE _
 ·rw[show ax oJ.K.b h=false from anj h]at q;cases q
theorem aAT:hY xp:=⟨by trivial,by trivial,λi=>by show 0<8;omega,λi j h=>by cases h⟩
theorem aAU{n:Nat}(h:1<=n/\n<=64):fK (uk n):=⟨h.2,⟨List.pairwise_singleton _ _,λx a=>by rw[ahe.1 a];omega⟩,λi j=>by show 0<256;omega⟩
def ank{n:Nat}(h:1<=n/\n<=64)(aC:List lB)(k:Nat):rQ (fz n aC k):=by
 refine⟨⟨⟨aAS,aAU h,λi=>aAT,λk c=>(by cases c),by show 0<_;omega⟩,λi=>?_,λi=>CW,λi=>by show 0<_;omega,by show 0<_;omega,by show 0<_;omega,λi=>⟨by show 0<=64;omega,by show 0<=64;omega⟩⟩,by show 0<=_;omega,by show 0<=_;omega⟩;have a: (if i<k then((aC[i]?).bind decode).getD []else[]).length<=64/\ ∀x∈(if i<k then((aC[i]?).bind decode).getD []else[]),GQ x:=by
  split
  ·cases b: (aC[i]?).bind decode with
   |none=>simp
   |some l=>
    obtain⟨s,_,hs⟩:=apB.1 b;exact aAR hs
  grind
 exact⟨a.1,a.2,by show 0<=64;omega,λj=>by show 0<_;omega⟩
theorem anl{n N:Nat}{H:List ae}(b:H.length=N)
  (a: ∀i,Rv (aB i) 5 (((fz n aC aC.length).aA i).t.code.map cX)):
  bu N (N+1) (N+3) (N+2) (fz n aC aC.length) .ai .ai aB (λ_=>.ai) (mW (fz n aC aC.length) n N pv kv aB H):=
 ⟨by omega,by omega,⟨by omega,by omega,by omega,by unfold mW;rw[bA b];rfl,by unfold mW;rw[bA b];rfl,cW.ai⟩,ang b,cW.ai,a,λi=>.ai⟩
def aAV{N id o:Nat}{vs:lA}{ak:oN}{H:List ae}(h:N<=id):finish N lo (.au (.ptr id o::vs)) ⟨H,ak⟩=(.au (.ptr id o::vs),⟨H,fV lo ak⟩):=by
 have a: ¬(AV.au (.ptr id o::vs)).refs<=N:=by simp only[AV.refs,aG];omega
 have b: ∀E,Den.freeze E N 12 (.au (.ptr id o::vs))=none:=λE=>by rw[Iy,afB a,ib,PN h]
 cases ak with
 |none=>rw[AM,afB a,b]
 |some j=>
  rw[DS,b,afB a]
  grind
theorem bu.mono{n:Nat}{H:List ae}(h:bu n M p q m qv ev aB aI H)(b:a<=n):bu a M p q m qv ev aB aI H:=
 ⟨by have:=h.nM;omega,h.Mq,⟨by have:=h.co.mp;omega,by have:=h.co.mq;omega,h.co.qp,h.co.box,h.co.hZ,h.co.iA⟩,h.box,h.uj,h.cv,h.rv⟩
def G9(e:Nat):lA:=[.int .i64 e]
def bu.aAW{n:Nat}{H W:List ae}{ty:TypeId}(h:bu n M p q m qv ev aB aI H)(g:ty≠my\/sz≠1)(f:ty≠pD\/sz≠14)
  (b: ∀ (i:Nat) (o:ae),(∀a d,o≠ae.row a sz ty d)->H[i]?=some o->W[i]?=some o):bu n M p q m qv ev aB aI W:=by
 have c: ∀cs tg,∀a d,ae.box cs tg≠ .row a sz ty d:=λ_ _ _ _ e=>by cases e
 refine⟨h.nM,h.Mq,⟨h.co.mp,h.co.mq,h.co.qp,b _ _ (c _ _) h.co.box,b _ _ (c _ _) h.co.hZ,h.co.iA.nX λid aj all hr=>b _ _ (λa d e=>?_) hr⟩,b _ _ (c _ _) h.box,h.uj.nX λid aj all hr=>b _ _ (λa d e=>?_) hr,h.cv,h.rv⟩
 ·grind
 grind
def runK(n:Nat)(aC:List lB)(a:lB)(k:Nat):aX×lN:=
 ((a.take k).map UInt8.toNat).foldl (λp b=>((gx p.1 b).1,p.2++[(gx p.1 b).2])) (fz n aC aC.length,[])
def Nu{n:Nat}{a:lB}(h:k<a.length):
  runK n aC a (k+1)=((gx (runK n aC a k).1 (a.getD k default).toNat).1,(runK n aC a k).2++[(gx (runK n aC a k).1 (a.getD k default).toNat).2]):=by
 have e:a.getD k default=a[k]:=by grind
 unfold runK;rw[aiV,ag6 h,ahs,ao4,e];rfl
def anm(n:Nat)(aC:List lB)(a:lB):runK n aC a a.length=Mm ⟨n,aC,a.map UInt8.toNat⟩:=by
 unfold runK Mm;rw[ahn,aAO n aC (a.map UInt8.toNat)]
theorem Nv{n:Nat}(h:1<=n/\n<=64)(aC:List lB){a:lB}(b:a.length<=4000): ∀k,k<=a.length->rQ (runK n aC a k).1/\ (runK n aC a k).1.now<=k
 |0,_=>⟨ank h aC _,ahd 0⟩
 |k+1,d=>by
  obtain⟨c,g⟩:=Nv h aC b k (by omega);obtain⟨f,e⟩:=Xh c (by omega) (a.getD k default).toNat;rw[Nu (by omega)]
  grind
theorem ann{n:Nat}{aC:List lB}{a:lB}: ∀k,k<=a.length->(runK n aC a k).2.length=k
 |0,_=>rfl
 |k+1,b=>by rw[Nu (by omega)];rw[ahc,ann k (by omega)];rfl
def aAX{n:Nat}{b:lB}(hD: ∀op,me op)(h:GX n aC b pv kv)(j:nC ⟨n,aC,b.map UInt8.toNat⟩=true)(N:Nat)(H:List ae)(r:H.length=N)(lo:oN):
  ∃x,D XC (.fn (.func P6) [] []) [.agg [.int .i64 n,pv,kv]] ⟨H,lo⟩=some x/\ ∃M p q qv ev aB aI c H' ak,x= .ret (.au [.ptr M 0,c,.int .i64 0]) ⟨H',ak⟩/\
   bu N M p q (Mm ⟨n,aC,b.map UInt8.toNat⟩).1 qv ev aB aI H'/\cW N H' c 1 ss ((Mm ⟨n,aC,b.map UInt8.toNat⟩).2.map G9)/\H.length<=H'.length/\ ∀i,i<N->H'[i]?=H[i]?:=by
 obtain⟨C,m,F⟩:1<=n/\n<=64/\b.length<=4000:=by unfold nC at j;simp at j;omega
 refine cy RC λM hM=>?_
 obtain rfl:M=N:=by omega
 have CY:=cO h.pr (bD (λ_=>rfl) _);have DX:=cO h.pk (bD (λ_=>rfl) _);obtain⟨x,R,aB,V8,rfl,Q,n3⟩:=anh h j (M+1) (H++[.box [.int .i64 n,pv,kv] none]) (by simp[r]) none;have L:M+1+1=M+2:=rfl;have G:=λE=>h.pk.bL (E:=E)
 have g:=anl (N:=M+1) (n:=n) (aC:=aC) (pv:=pv) (kv:=kv) (H:=H++[.box [.int .i64 n,pv,kv] none]) (by simp[r]) Q;have S: (mW (fz n aC aC.length) n (M+1) pv kv aB (H++[.box [.int .i64 n,pv,kv] none]))[M]?=some (.box [.int .i64 n,pv,kv] none):=by
  unfold mW;rw[aeT (by simp[r]),di r];rfl
 simp only[go_sem,simprocAttr,RC,r,L,R,S,G];refine gS b.length (λk e W ak=> ∃qv ev aB aI c,e 5= .ptr (M+2) 0/\e 7=c/\e 19=kv/\e 20= .int .i64 b.length/\e 21= .int .i64 k/\bu (M+1) (M+2) (M+4) (M+3) (runK n aC b k).1 qv ev aB aI W/\cW M W c 1 ss ((runK n aC b k).2.map G9)/\H.length<=W.length/\ ∀i,i<M->W[i]?=H[i]?) 0 (by omega) ?_ ?_
 ·refine⟨.ai,.ai,aB,λ_=>.ai,.ai,?_⟩;simp only[go_sem,simprocAttr];refine⟨g,cW.ai,by unfold mW;simp,λi I=>?_⟩;unfold mW;rw[aeT (by simp;omega),aeT (by omega)]
 clear g S R Q n3 aB;rintro k hk e W ak ⟨qv,ev,aB,aI,c,U,e7,u,t,s,g,T,hl,f⟩ nn hn;simp only[bR,go_sem,simprocAttr,aga,U,e7,u,t,s];refine⟨λhh=>?_,λhh=>?_⟩
 ·have o:k<b.length:=by omega
  obtain⟨Z,o2⟩:=Nv ⟨C,m⟩ aC F k (by omega);have hb:=(b.getD k default).toNat_lt;obtain⟨x,Y,z,P,v,l,V,B,rfl,X,w,p4⟩:=Xi hD g Z (by omega) (b.getD k default).toNat hb ak;have J:M<=V.length:=by have:=w.len;omega
  have K:cW M V c 1 ss ((runK n aC b k).2.map G9):=T.nX λid aj all hr=>w.box id _ (by
   have h1:=g.box;have h2:=g.co.box;have h3:=g.co.hZ;intro j;simp at j;rcases j with rfl|rfl|rfl
   ·rw[h1]at hr;cases hr
   ·rw[h2]at hr;cases hr
   ·rw[h3]at hr;cases hr) (λq=>by
   rcases q with⟨a,d,q⟩| ⟨a,d,q⟩
   ·injection q with _ _ q;cases q
   ·injection q with _ q;cases q) hr
  obtain⟨A,W3,g1,g2,g3,g4,g5,g6,g7,g8⟩:=cW.append (bytes:=8) (lo:=B) (y:=G9 (gx (runK n aC b k).1 (b.getD k default).toNat).2) K J (by omega) rfl rfl (by rw[ahh,ann k (by omega)];unfold room;omega);have O:=X.aAW (sz:=1) (ty:=ss) (.inl (by decide)) (.inl (by decide)) g5;unfold G9 at g1;simp(disch:=omega) only[go_sem,simprocAttr,U,e7,u,t,s,h.pk.ck,h.pk.cD,bC,Y,g1];rw[Nu o];refine⟨by omega,o,z,P,v,l,A,rfl,O,?_,by have:=w.len;omega,λi I=>(g4 i I).trans ((w.low i (by omega)).trans (f i I))⟩;rw[ahs];exact g2
 ·obtain rfl:k=b.length:=by omega
  rw[aAV (by omega),<-anm];exact⟨M+2,M+4,M+3,qv,ev,aB,aI,c,W,_,rfl,g.mono (by omega),T,by omega,f⟩
def ano{E:AS}{af:List lA}(h:Rd E v sz af): (v= .ai/\af=[])\/ed .sl v .ai=some false:=by
 have a:=h.kind;cases v<;>first|exact .inr rfl|grind|skip
 ·exact .inl ⟨rfl,by have:=h.eq;simp[Den.elems]at this;omega⟩
def anp{l:List α}{g:α->lA}{ty:TypeId}{bytes N:Nat}{H:List ae}(a:H.length=N)(b:0<sz)(i: ∀x,(g x).length=sz)(c: ∀x,aG (g x)=0)(e:l≠[])(d:l.length*bytes<=room):
  dx ⟨H,none⟩ ty sz bytes (.sl [] true) (l.map g)=some (.ref N 0 sz 0 l.length false,⟨H++[.row 0 sz ty (l.map g)],none⟩)/\finish N lo (.ref N 0 sz 0 l.length false) ⟨H++[.row 0 sz ty (l.map g)],none⟩=(.sl (l.map g) false,⟨H,lo⟩):=by
 have f:0<l.length:=apP.2 e;have ha: (l.map g).all (λel=>el.length==sz)=true:=by grind
 have ho:aQ N (H++[.row 0 sz ty (l.map g)]) (.ref N 0 sz 0 l.length false) sz ty (l.map g):=
  ⟨λel h=>by grind,.inr ⟨N,0,ahd _,by simp,di a⟩⟩
 refine⟨?_,?_⟩
 ·simp only[dx,ha];rw[afJ ⟨b,trivial⟩,afB (by rw[ahh];omega),afJ ⟨by simpa using d,rfl⟩];simp[AS.push,a]
 ·rw[Gs (.inl rfl) ho (by rw[bD c];omega),mr a];rfl
def aAY{H:List ae}(h:Rd ⟨H,none⟩ v 1 (l.map iY))(e:l.length*8<=room)(lo:oN):
  ∃v',D X0 (.fn (.func Qe) [] []) [v] ⟨H,lo⟩=some (.ret v' ⟨H,lo⟩)/\Rv v' 1 (l.map iY):=by
 have d:=h.eq;have a:ed EK.sl AV.ai AV.ai=some true:=rfl;have e3:b8 ([]:List lA)=0:=rfl;rcases ano h with⟨rfl,he⟩|he
 ·refine⟨.ai,?_,by rw[he];exact .ai⟩;refine aF zg λN b=>?_
  simp(disch:=omega) only[F1,go_sem,simprocAttr,zg,a]
 ·by_cases c:l=[]
  ·subst c;refine⟨.sl [] true,?_,.sl (λel h=>by cases h)⟩;refine aF zg λN b=>?_
   have e1:dx ⟨H,none⟩ my 1 8 (.sl [] true) []=some (.sl [] true,⟨H,none⟩):=rfl;simp(disch:=omega) only[F1,go_sem,simprocAttr,zg,he,d,e1,e3]
  ·refine⟨.sl (l.map iY) false,?_,.sl (λel h=>by obtain⟨x,_,rfl⟩:=ahk.1 h;rfl)⟩;refine aF zg λN b=>?_
   obtain⟨e1,f⟩:=anp (sz:=1) (ty:=my) (bytes:=8) (lo:=lo) (g:=iY) b (by omega) (λ_=>rfl) (λ_=>rfl) c e;simp only[go_sem,simprocAttr,zg,he,d,e1,f]
def aAZ{H:List ae}(h:Rd ⟨H,none⟩ v 1 (l.map hC))(e:l.length*4<=room)(lo:oN):
  ∃v',D X0 (.fn (.func Qo) [] []) [v] ⟨H,lo⟩=some (.ret v' ⟨H,lo⟩)/\Rv v' 1 (l.map hC):=by
 have d:=h.eq;have a:ed EK.sl AV.ai AV.ai=some true:=rfl;have e3:b8 ([]:List lA)=0:=rfl;rcases ano h with⟨rfl,he⟩|he
 ·refine⟨.ai,?_,by rw[he];exact .ai⟩;refine aF zh λN b=>?_
  simp(disch:=omega) only[F1,go_sem,simprocAttr,zh,a]
 ·by_cases c:l=[]
  ·subst c;refine⟨.sl [] true,?_,.sl (λel h=>by cases h)⟩;refine aF zh λN b=>?_
   have e1:dx ⟨H,none⟩ bZ 1 4 (.sl [] true) []=some (.sl [] true,⟨H,none⟩):=rfl;simp(disch:=omega) only[F1,go_sem,simprocAttr,zh,he,d,e1,e3]
  ·refine⟨.sl (l.map hC) false,?_,.sl (λel h=>by obtain⟨x,_,rfl⟩:=ahk.1 h;rfl)⟩;refine aF zh λN b=>?_
   obtain⟨e1,f⟩:=anp (sz:=1) (ty:=bZ) (bytes:=4) (lo:=lo) (g:=hC) b (by omega) (λ_=>rfl) (λ_=>rfl) c e;simp only[go_sem,simprocAttr,zh,he,d,e1,f]
def cW.refs{N:Nat}{H:List ae}{ty:TypeId}{af:List lA}(h:cW N H v sz ty af):v.refs<=H.length:=by
 rcases h.2 with⟨rfl,_⟩| ⟨id,aj,off,all,_,rfl,hr,_⟩
 ·exact aha _
 ·have:=eY hr;simp only[AV.refs];omega
section
variable{n M p q:Nat}{m:aX}{qv ev:AV}{aB aI:Nat->AV}{H:List ae}(ha:bu n M p q m qv ev aB aI H)
include ha
theorem aA0(A:m.az.Q.length<1073741824)(lo:oN):
  ∃v,D XC (.fn (.func P8) [] []) [.ptr M 0] ⟨H,lo⟩=some (.ret (.agg (cz m.az q v)) ⟨H,lo⟩)/\Rv v 1 (m.az.Q.map iY):=by
 obtain⟨N,z⟩: ∃N,H.length=N:=⟨_,rfl⟩;have u:=ha.co.iA.app [.box mz none,.box (cz m.az q qv) none];obtain⟨v,r,c⟩:=aAY (u.rd (lo:=none)) (by unfold room;omega) none;have r:=c0 r;refine⟨v,?_,c⟩;refine aF RF λK B=>?_
 obtain rfl:K=N:=by omega
 have s:mz.length=1274:=by rw[Xj,ahc,eU,ahc,ahc,dW];rfl
 have w: ∀l:lA,l.length=1274->aH mz 0 l=l:=λl h=>rj (by rw[s,h])
 have y:aG (cz m.az q qv)<=K:=by
  rw[alo];have:=ha.co.iA.refs;have:=ha.co.qp;have:=ha.co.lt;omega
 have b:aG (cz m.az q v)<=K:=by
  rw[alo];have:=cO c (bD (λ_=>rfl) _);have:=ha.co.qp;have:=ha.co.lt;omega
 have a:=oP (c ⟨H,none⟩);have o:aG (cz m.az q qv)<=K+1+1:=by omega
 have k:v.refs<=K+1+1:=by have:=cO c (bD (λ_=>rfl) _);omega
 have j:aG (cz m.az q v)<=K+1:=by omega
 have d:ed EK.ptr (AV.ptr M 0) AV.dZ=some false:=rfl;have f:=bc (L:=[.box mz none]) ha.box;have e:=bc (L:=[.box mz none]) ha.co.box;have i:=Ng (x:=m.az) (q:=q) (qv:=qv);have g:=Ng (x:=m.az) (q:=q) (qv:=v);have t: ∀l:lA,l.length=1274->List.take 1274 l=l:=λl h=>by rw[<-h,ahn]
 simp only[F1,go_sem,simprocAttr,RF,z,d,f,e,qq,r,w,t,i,g,KL,KS,s,o,k,j,b,a.1,a.2]
end
section
variable{n M p q:Nat}{m:aX}{qv ev:AV}{aB aI:Nat->AV}{H:List ae}
def CZ(M t:Nat)(H:List ae)(lo:oN):D XC (.fn (.func IM) [] []) [.ptr M 0,.int .i64 t] ⟨H,lo⟩=some (.ret (.bool (decide (t<8))) ⟨H,lo⟩):=by
 refine aF K8 λN d=>?_
 have a:ed EK.ptr (AV.ptr M 0) AV.dZ=some false:=rfl;have c: (t:Int)>=0:=by omega
 by_cases h:t<8
 ·have b: (t:Int)<8:=by omega
  rw[ag9 h];simp(disch:=omega) only[F1,go_sem,simprocAttr,K8,a,c,b]
 ·have b: ¬(t:Int)<8:=by omega
  rw[ag7 h];simp(disch:=omega) only[F1,go_sem,simprocAttr,K8,a,c,b]
theorem anq(c:Call)(v:AV): (bK c v).length=12:=rfl
theorem cl7(c:Call)(v:AV): (bK c v)[7]?=some (.bool c.checked):=rfl
theorem cl1(c:Call)(v:AV):Den.part true 6 (bK c v) 1=some (.agg (bf c.c)):=rfl
def clR(c:Call)(v:AV):aG (bK c v)=v.refs:=by simp[bK,aG,AV.refs,bf,ay]
theorem clT(c:Call)(v:AV):List.take 12 (bK c v)=bK c v:=rfl
def CC:=gG @anq<|gG @cl7<|gG @cl1<|gG @clR<|gG @clT<|gG @ao0.{0} @amS.{0}
def rR(m:aX)(t:Nat)(rv:AV):AV:=match rI m t with
 |some c=>.au [.agg (bK c rv),.bool true]
 |none=>.au [.agg (bK gw .ai),.bool false]
def aA1(u:bu n M p q m qv ev aB aI H)(C: ∀i,(m.aA i).c.aT.length<1073741824)(t:Nat)(lo:oN):
  ∃rv,D XC (.fn (.func Qb) [] []) [.ptr M 0,.int .i64 t] ⟨H,lo⟩=some (.ret (rR m t rv) ⟨H,lo⟩)/\ (∀c,rI m t=some c->Rv rv 1 (c.aT.map hC)):=by
 by_cases a:t<8
 ·have A: (t:Int)<8:=by omega
  have B: (0:Int)<=t:=by omega
  obtain⟨v,g,x⟩:=aAZ (lo:=none) (H:=H++[.box (bK gw .ai) none,.box (bK (m.aA t).c (aI t)) none]) ((u.rv t) _) (by have:=C t;unfold room;omega);have g:=c0 g;have e:=oP (x ⟨H,none⟩);have j:=cO x (bD (λ_=>rfl) _);have h:=cO (u.rv t) (bD (λ_=>rfl) _);have o: ∀v:AV,aG (bK (m.aA t).c v)=v.refs:=λv=>by simp[bK,aG,AV.refs,bf,ay]
  have z: ∀L,(H++L)[M]?=some (.box (cw m p aB aI ev) none):=λL=>bc u.box
  have y: ∀v,bK gw v=[(.int .i64 0),(.int .u8 0),(.int .u32 0),(.int .u32 0),(.int .u32 0),(.int .u32 0),(.int .u64 0),(.bool false),v,(.int .i64 0),(.int .i64 0),(.int .i64 0)]:=λv=>rfl
  have r: ∀v,(bK (m.aA t).c v).length=12:=λv=>rfl
  have s: ∀v,(bK (m.aA t).c v)[8]?=some v:=λv=>rfl
  have l: ∀v w,aH (bK (m.aA t).c v) 8 [w]=bK (m.aA t).c w:=λv w=>rfl
  have k: ∀v,List.take 12 (bK (m.aA t).c v)=bK (m.aA t).c v:=λv=>rfl
  cases d: (m.aA t).busy
  ·refine⟨.ai,?_,λc b=>by unfold rI at b;simp[d]at b⟩;have hu:rR m t .ai= .au [.agg (bK gw .ai),.bool false]:=by unfold rR rI;simp[d]
   rw[hu];refine aF zf λN f=>?_
   simp only[F1,go_sem,simprocAttr,zf,f,CZ,ag9 a,z,xR a,d,B,A,y]
  ·rw[y]at g;refine⟨v,?_,λc b=>by unfold rI at b;simp[d,a]at b;subst b;exact x⟩;have hu:rR m t v= .au [.agg (bK (m.aA t).c v),.bool true]:=by unfold rR rI;simp[d,a]
   rw[hu];refine aF zf λN f=>?_
   simp only[F1,go_sem,simprocAttr,zf,f,CZ,ag9 a,z,xR a,CV a,d,B,A,g,o,j,h,r,s,l,k,e.1,e.2,ao0,amS]
 ·have hu:rR m t .ai= .au [.agg (bK gw .ai),.bool false]:=by unfold rR rI;simp[a]
  refine⟨.ai,?_,λc b=>by unfold rI at b;simp[a]at b⟩;rw[hu];refine aF zf λN f=>?_
  simp only[F1,go_sem,simprocAttr,zf,f,CZ,ag7 a];rfl
def aA2(z: ∀op,me op)(f:bu n M p q m qv ev aB aI H)(r:dE m)(o: ∀i,(m.aA i).c.aT.length<1073741824)(t:Nat)(lo:oN):
  D XC (.fn (.func Qi) [] []) [.ptr M 0,.int .i64 t] ⟨H,lo⟩=some (.ret (.bool (Ck m t)) ⟨H,lo⟩):=by
 refine aF BV λN g=>?_
 obtain⟨rv,d,l⟩:=aA1 f o t none;have a:=λL lo=>Np (f.app L) t lo
 have x: ∀L,(H++L)[M]?=some (.box (cw m p aB aI ev) none):=λL=>bc f.box
 have j: ∀L,(H++L)[p]?=some (.box (cz m.az q qv) none):=λL=>bc f.co.box
 cases hu:rI m t with
 |none=>
  have e1:Ck m t=false:=by unfold Ck;rw[hu]
  have k:rR m t rv= .au [.agg (bK gw .ai),.bool false]:=by unfold rR;rw[hu]
  rw[e1];rw[k]at d;have v:AV.refs .ai=0:=rfl;simp only[F1,go_sem,simprocAttr,BV,g,d,CC,↓CC,v]
 |some c=>
  have y:t<8/\c=(m.aA t).c:=by
   unfold rI at hu;split at hu
   ·rename_i h;injection hu with hu;exact⟨h.1,hu.symm⟩
   ·cases hu
  have e1:Ck m t=(qd m t&& !c.checked&&Cg m.az.S t c.c):=by unfold Ck;rw[hu]
  have k:rR m t rv= .au [.agg (bK c rv),.bool true]:=by unfold rR;rw[hu]
  have hw:=λH lo=>alk m.az.S r.az.S t (by omega) c.c (by rw[y.2];exact(r.c t).iB) (z _) H lo
  have e:=l c hu;have w:=oP (e ⟨H,none⟩);have b:=cO e (bD (λ_=>rfl) _);rw[e1];rw[k]at d;clear o l;cases u:qd m t
  ·rw[u]at a;simp only[F1,go_sem,simprocAttr,BV,g,d,a,CC,↓CC,b];rfl
  ·rw[u]at a;cases s:c.checked
   ·simp only[F1,go_sem,simprocAttr,BV,g,d,a,x,j,hw,s,CC,↓CC,b,qq,KL,↓KL]
   ·simp only[F1,go_sem,simprocAttr,BV,g,d,a,s,CC,↓CC,b];rfl
def anv(g: ∀op,me op)(c:bu n M p q m qv ev aB aI H)(f:dE m)(e: ∀i,(m.aA i).c.aT.length<1073741824)(t:Nat)(lo:oN):
  D XC (.fn (.func IH) [] []) [.ptr M 0,.int .i64 t] ⟨H,lo⟩=some (.ret (.bool (iT m t)) ⟨H,lo⟩):=by
 refine aF Fp λN j=>?_
 have h:=aA2 g c f e t;have a:=Np c t;unfold iT;cases b:decide (t<8)
 ·simp(disch:=omega) only[F1,go_sem,simprocAttr,Fp,CZ,b];rfl
 ·cases d:qd m t
  ·rw[d]at a;simp(disch:=omega) only[F1,go_sem,simprocAttr,Fp,CZ,b,a];rfl
  ·rw[d]at a;simp(disch:=omega) only[F1,go_sem,simprocAttr,Fp,CZ,b,a,h]
end
def aA3{s:bG}(a:bh s)(c:cp): (sW s c).length<=39135394:=by
 have d:=Gr a.tr c.r;have b: ∀h,(oE s h).length<=1:=λh=>by unfold oE;grind
 unfold sW
 grind
def jy(c:Call):Prop:=c.aT.length<=39135394
def aA4{x:Core}{c:Call}(i:bh x.S)(h:jy c):jy (gv x c).c:=by
 have b:jy (oF ⟨x,c,bX,false⟩).1.c:=by
  unfold oF;repeat' split
  all_goals first|exact h|exact aA3 i _
 have d: ∀s:bT,jy s.c->jy (oG s).1.c:=λs a=>by
  unfold oG;split
  ·exact a
  ·rename_i e;dsimp only;split
   ·have:s.c.aT.length<=39135394:=a;rw[e,aho]at this;exact akH (Nat.le_succ _) this
   ·exact a
 have f: ∀s:bT,jy s.c->jy (oH s).1.c:=λs a=>by
  unfold oH;dsimp only;repeat' split
  all_goals exact a
 have g: ∀s:bT,jy s.c->jy (oI s).1.c:=λs a=>by
  unfold oI;split<;>exact a
 have j: ∀s:bT,jy s.c->jy (zG s).c:=λs a=>by
  unfold zG;dsimp only;repeat' split
  all_goals exact a
 unfold gv;dsimp only
 repeat' split
 ·exact b
 ·exact d _ b
 ·exact f _ (d _ b)
 ·exact g _ (f _ (d _ b))
 ·exact j _ (g _ (f _ (d _ b)))
def nR(m:aX):Prop:= ∀i,jy (m.aA i).c
theorem Xk:jy gw:=aha _
def nR.set(h:nR m){r:Runner}(a:jy r.c)(i:Nat):jy (aq m.aA t r i).c:=by
 unfold aq;split
 ·omega
 ·exact h i
def aA5(h:nR m)(i:Nat):nR (nA m i):=by
 unfold nA;split
 ·exact h.set Xk
 omega
def Xl(h:nR m):nR (mN m):=by
 unfold mN;generalize List.range 8=l
 induction l generalizing m with
 |nil=>exact h
 |cons a l b=>exact b (aA5 h a)
def anw(a:bh m.az.S)(h:nR m)(t:Nat):nR (xr m t):=by
 have b:=aA4 (x:=m.az) a (h t);unfold xr;dsimp only;split
 ·intro i;by_cases q:i=t
  ·subst q;show jy (Runner.c (aq _ _ _ _));rw[cT];exact Xk
  ·show jy (Runner.c (aq _ _ _ i));rw[dj q];show jy (Runner.c (aq m.aA t _ i));rw[dj q];exact h i
 ·exact h.set b
def Xm(a:bh m.az.S)(h:nR m)(b:Nat):nR (gx m b).1:=by
 unfold gx;dsimp only
 repeat' split
 ·exact h
 ·exact Xl (m:={m with az:=_,now:=_}) h
 ·exact h
 ·exact h
 ·exact Xl (m:=Cj _ _) h
 ·refine Xl ?_;unfold zH;dsimp only
  repeat' split
  ·refine anw ?_ ?_ _;exact a;exact h
  ·refine anw ?_ ?_ _;exact a;exactλi=>h.set Xk i
  ·exactλi=>h.set (t:=b % 8) (r:={m.aA (b % 8)with t:=rH (m.aA (b % 8)).t}) (h (b % 8)) i
theorem anx(n:Nat)(aC:List lB)(k:Nat):nR (fz n aC k):=λi=>aha _
theorem anz{n:Nat}(h:1<=n/\n<=64)(aC:List lB){a:lB}(b:a.length<=4000): ∀k,k<=a.length->nR (runK n aC a k).1
 |0,_=>anx _ _ _
 |k+1,c=>by
  rw[Nu (by omega)];exact Xm (Nv h aC b k (by omega)).1.ok.az.S (anz h aC b k (by omega)) _
def uC(b:Nat):lA:=[.int .u8 b]
theorem pU(x:Nat):Den.part false 1 (uC x) 0=some (.int .u8 x):=rfl
def aA6(v fv:AV)(l:lN)(H:List ae)(hv:Rd ⟨H,none⟩ v 1 (l.map uC))(hl:l.length<2^40)(p:Nat->Bool)(lo:oN)
  (i: ∀x∈l,D X0 fv [.int .u8 x] ⟨H,none⟩=some (.ret (.bool (p x)) ⟨H,none⟩)):D X0 (.fn (.func Ed) [] []) [v,fv] ⟨H,lo⟩=some (.ret (.int .i64 (fR p l)) ⟨H,lo⟩):=by
 refine aF FD λN r=>?_
 simp only[go_sem,simprocAttr,FD,hv.bL];refine dV l.length (λk e H'=>H'=H/\e 0=v/\e 1=fv/\e 7= .int .i64 l.length/\e 8= .int .i64 k/\ ∀j,j<k->p (l.getD j default)=false) 0 (by omega) ?_ ?_
 ·simp only[go_sem,simprocAttr];omega
 ·rintro k o e H' ⟨rfl,h0,g,f,d,b⟩ n m;simp(disch:=omega) only[bR,F1,go_sem,simprocAttr,Sp,h0,g,f,d];refine⟨λh=>?_,λh=>?_⟩
  ·have a:k<l.length:=by omega
   simp(disch:=omega) only[go_sem,simprocAttr,hv.ck,hv.cD,↓pU,i _ (eX a)];refine⟨by omega,?_⟩;cases c:p (l.getD k default)
   ·simp(disch:=omega) only[go_sem,simprocAttr,h0,g,f,d];exact⟨a,mO b c⟩
   ·simp(disch:=omega) only[F1,go_sem,simprocAttr];rw[vC a b c]
  ·rw[vD (λj q=>b j (by omega))]
def aA7(v:AV)(l:lN)(H:List ae)(hv:Rd ⟨H,none⟩ v 1 (l.map uC))(hl:l.length<2^40)(x:Nat)(lo:oN):
  D X0 (.fn (.func Ej) [] []) [v,.int .u8 x] ⟨H,lo⟩=some (.ret (.int .i64 (fR (λy=>decide (x=y)) l)) ⟨H,lo⟩):=by
 refine aF FM λN p=>?_
 simp only[go_sem,simprocAttr,FM,hv.bL];refine dV l.length (λk e H'=>H'=H/\e 0=v/\e 1= .int .u8 x/\e 7= .int .i64 l.length/\e 8= .int .i64 k/\ ∀j,j<k->(λy=>decide (x=y)) (l.getD j default)=false) 0 (by omega) ?_ ?_
 ·simp only[go_sem,simprocAttr];omega
 ·rintro k m e H' ⟨rfl,h0,f,d,c,b⟩ n i;simp(disch:=omega) only[bR,F1,go_sem,simprocAttr,SM,h0,f,d,c];refine⟨λh=>?_,λh=>?_⟩
  ·have a:k<l.length:=by omega
   simp(disch:=omega) only[bR,F1,go_sem,simprocAttr,hv.ck,hv.cD,↓pU,h0,f,d,c];refine⟨by omega,λg=>?_,λg=>?_⟩
   ·rw[vC a b (ag9 (by omega))]
   grind
  ·rw[vD (λj o=>b j (by omega))]
def aA8(v:AV)(l:lN)(H:List ae)(hv:Rd ⟨H,none⟩ v 1 (l.map uC))(hl:l.length<2^40)(x:Nat)(lo:oN):
  D X0 (.fn (.func Q0) [] []) [v,.int .u8 x] ⟨H,lo⟩=some (.ret (.bool (l.any λy=>decide (x=y))) ⟨H,lo⟩):=by
 refine aF S5 λN a=>?_
 simp(disch:=omega) only[F1,go_sem,simprocAttr,S5,aA7 v l H hv hl x none,xu]
structure cM where
 kind:Nat
 order:lN
 fU:Nat
 every:Int
 last:Nat
 dH:Int
def bp(x:cM)(ov:AV):lA:=[.int .u8 x.kind,ov,.int .u64 x.fU,.int .i64 x.every,.int .u8 x.last,.int .i64 x.dH]
structure xU(x:cM):Prop where
 kind:x.kind<256
 order: ∀t∈x.order,t<256
 fU:x.fU<18446744073709551616
 every: -9223372036854775808<=x.every/\x.every<9223372036854775808
 last:x.last<256
 dH: -9223372036854775808<=x.dH/\x.dH<9223372036854775808
def xV(k:Nat):Option FuncId:=if k=0 then some Em else if k=1 then some En else if k=2 then some Eo else none
def Xn:Prop:=(∀E,cg XC E false 1 (.dg uR)=some (.jb uR))/\ ∀ (k:Nat) ok E,gP XC.fb E .int .cJ (.jb uR) (.int .u8 k) ok=some (match xV k with|some f=>if ok then .au [.fn (.func f) [] [],.bool true]else .fn (.func f) [] []|none=>if ok then .au [.cJ,.bool false]else .cJ)
def rS(x:cM):Bool:=decide (x.kind<3)&&decide (x.order.length<=16)&&decide (0<=x.every)&&decide (x.every<=100)
def anA(o:Xn)(x:cM)(hx:xU x)(ov:AV)(d:Rv ov 1 (x.order.map uC))(H:List ae)(lo:oN):
  D XC (.fn (.func A3) [] []) [.agg (bp x ov)] ⟨H,lo⟩=some (.ret (.bool (rS x)) ⟨H,lo⟩):=by
 refine aF w4 λN e=>?_
 have j:=cO d (bD (λ_=>rfl) _);have hr:aG (bp x ov)=0:=by simp[bp,aG,AV.refs,j]
 have h: (bp x ov)[0]?=some (.int .u8 x.kind):=rfl;have g1: (bp x ov)[1]?=some ov:=rfl;have s: (bp x ov)[3]?=some (.int .i64 x.every):=rfl;have n: ∀E,fj E .sl ov=some (.int .i64 x.order.length):=λE=>d.bL
 unfold rS;have b:=o.1;have a:=o.2 x.kind true;unfold xV at a;have i: ∀f:FuncId,(∀E,gP XC.fb E .int .cJ (.jb uR) (.int .u8 x.kind) true=some (.au [.fn (.func f) [] [],.bool true]))->x.kind<3->
   wp XC A3 false w4.body ⟨cZ [.agg (bp x ov)],[]⟩ ⟨H,none⟩ (dp XC N lo w4.results λr=>r= .ret (.bool (decide (x.kind<3)&&decide (x.order.length<=16)&&decide (0<=x.every)&&decide (x.every<=100))) ⟨H,lo⟩):=λf k u=>by
  rw[ag9 u];by_cases p:x.order.length<=16
  ·have c: (x.order.length:Int)<=16:=by omega
   rw[ag9 p];by_cases g:0<=x.every
   ·rw[ag9 g];simp only[F1,go_sem,simprocAttr,w4,e,k,b,h,g1,s,n,c,g]
   ·rw[ag7 g];simp only[F1,go_sem,simprocAttr,w4,e,k,b,h,g1,s,n,c,g];rfl
  ·have c: ¬(x.order.length:Int)<=16:=by omega
   rw[ag7 p];simp only[F1,go_sem,simprocAttr,w4,e,k,b,h,g1,n,c];rfl
 by_cases h0:x.kind=0
 ·simp only[afJ h0]at a;exact i Em a (by omega)
 by_cases m:x.kind=1
 ·simp only[afB h0,afJ m]at a;exact i En a (by omega)
 by_cases q:x.kind=2
 ·simp only[afB h0,afB m,afJ q]at a;exact i Eo a (by omega)
 simp only[afB h0,afB m,afB q]at a;rw[ag7 (show¬x.kind<3 by omega)];simp only[F1,go_sem,simprocAttr,w4,e,a,b,h];rfl
def xW(last:Nat)(l:lN):Nat:=l.getD (fR (λt=>decide (last<=t)) l).toNat default
def vX(a l:lN):Nat:=(a.find? λt=>l.any λy=>decide (t=y)).getD (l.getD 0 default)
def anB(a:Nat)(l:lN):Nat:=l.getD (a/8589934592 % l.length) default
def vY(a:Nat):Nat:=(6364136223846793005*a+1) % 18446744073709551616
def fG(x:cM)(l:lN):cM×Nat:=
 if x.kind=0 then(x,xW x.last l)else if x.kind=1 then(x,vX x.order l)else({x with fU:=vY x.fU},anB x.fU l)
def Xo[Inhabited α](p:α->Bool)(l:List α): -1<=fR p l/\fR p l<l.length\/ (l=[]/\fR p l= -1):=by
 unfold fR;cases h:l.findIdx? p with
 |none=>grind
 |some k=>
  have:=(arb.1 h).1
  grind
section
variable(x:cM)(hx:xU x)(ov v:AV)(l:lN)(hl:l.length<=8)(h0:l≠[])(M:Nat)(H:List ae)(hM:H[M]?=some (.box (bp x ov) none))(hv:Rd ⟨H,none⟩ v 1 (l.map uC))(hl8: ∀t∈l,t<256)
include hx hM
theorem aBa(t:Nat)(b:Nat)(a:H[b]?=some (.box [.ptr M 0] none))(lo:oN):
  D X0 (.fn (.func Jl) [] [.ptr b 0]) [.int .u8 t] ⟨H,lo⟩=some (.ret (.bool (decide (x.last<=t))) ⟨H,lo⟩):=by
 refine eP S3 λN d=>?_
 have c: (bp x ov)[4]?=some (.int .u8 x.last):=rfl;have e:decide ((t:Int)>=x.last)=decide (x.last<=t):=aht.2 (by omega);simp(disch:=omega) only[F1,go_sem,simprocAttr,S3,a,hM,c]
 grind
include hl h0 hv hl8
theorem aBb(lo:oN):D X0 (.fn (.func Em) [] []) [.ptr M 0,v] ⟨H,lo⟩=some (.ret (.int .u8 (xW x.last l)) ⟨H,lo⟩):=by
 refine aF S2 λN e=>?_
 have h:=bc (L:=[.box [.ptr M 0] none]) hM;have g:=aA6 v (.fn (.func Jl) [] [.ptr N 0]) l (H++[.box [.ptr M 0] none]) (hv.ext) (by omega) (λt=>decide (x.last<=t)) none (λt _=>aBa x hx ov M (H++[.box [.ptr M 0] none]) h t N (di e) none);have b:0<l.length:=apP.2 h0;have k:=Xo (λt=>decide (x.last<=t)) l;unfold xW;generalize fR (λt=>decide (x.last<=t)) l=i at*;have d:qJ ⟨H,none⟩ (.ptr M 0) none=some (.ptr N 0,⟨H++[.box [.ptr M 0] none],none⟩):=by subst e;rfl
 obtain⟨n,j⟩: ∃n,i.toNat=n:=⟨_,rfl⟩;have f:n<l.length:=by omega
 have c:max 0 i=(n:Int):=by omega
 have a:=hv.ext (L:=[.box [.ptr M 0] none]) (ak:=none);simp(disch:=omega) only[F1,go_sem,simprocAttr,S2,d,g,c,a.ck,a.cD,↓pU]
 grind
theorem aBc(q:x.order.length<=16)(a:Rv ov 1 (x.order.map uC))(lo:oN):D X0 (.fn (.func En) [] []) [.ptr M 0,v] ⟨H,lo⟩=some (.ret (.int .u8 (vX x.order l)) ⟨H,lo⟩):=by
 refine aF S4 λN A=>?_
 have g1: (bp x ov)[1]?=some ov:=rfl;have g:0<l.length:=apP.2 h0;have u: ∀E,fj E .sl ov=some (.int .i64 x.order.length):=λE=>a.bL
 simp only[go_sem,simprocAttr,S4,hM,g1,u];refine dV x.order.length (λk e H'=>H'=H/\e 1=v/\e 10=ov/\e 11= .int .i64 x.order.length/\e 12= .int .i64 k/\ ∀j,j<k->(λt=>l.any λy=>decide (t=y)) (x.order.getD j default)=false) 0 (by omega) ?_ ?_
 ·simp only[go_sem,simprocAttr];omega
 ·rintro k z e H' ⟨rfl,m,f,d,c,i⟩ n w;simp only[bR,go_sem,simprocAttr,agM,m,f,d,c];refine⟨λh=>?_,λh=>?_⟩
  ·have b:k<x.order.length:=by omega
   have s:=aA8 v l H' hv (by omega) (x.order.getD k default) none;simp(disch:=omega) only[go_sem,simprocAttr,a.ck,a.cD,↓pU,m,s];refine⟨by omega,?_⟩;cases o:l.any λy=>decide (x.order.getD k default=y)
   ·simp(disch:=omega) only[go_sem,simprocAttr,m,f,d,c];exact⟨b,mO (p:=λj=>(λt=>l.any λy=>decide (t=y)) (x.order.getD j default)=false) i o⟩
   ·have e3:vX x.order l=x.order.getD k default:=by unfold vX;rw[aiA (p:=λt=>l.any λy=>decide (t=y)) b i o];rfl
    simp(disch:=omega) only[F1,go_sem,simprocAttr,e3]
  ·obtain rfl:k=x.order.length:=by omega
   have e3:vX x.order l=l.getD 0 default:=by unfold vX;rw[aiB (p:=λt=>l.any λy=>decide (t=y)) λj r=>i j r];rfl
   simp(disch:=omega) only[F1,go_sem,simprocAttr,hv.ck,hv.cD,↓pU,e3];omega
theorem aBd(lo:oN):D X0 (.fn (.func Eo) [] []) [.ptr M 0,v] ⟨H,lo⟩=some (.ret (.int .u8 (anB x.fU l)) ⟨H.set M (.box (bp {x with fU:=vY x.fU} ov) none),lo⟩):=by
 refine aF S6 λN h=>?_
 have d:M<N:=by grind
 have g2: (bp x ov)[2]?=some (.int .u64 x.fU):=rfl;have a:0<l.length:=apP.2 h0;have f:=hv.bL;have c: ¬(l.length:Int)=0:=by omega
 have b: ((x.fU:Int).fdiv (2^min 33 64)).tmod l.length=((x.fU/8589934592 % l.length:Nat):Int):=by
  rw[show min 33 64=33 from rfl,show(2:Int)^33=8589934592 from rfl,Int.fdiv_eq_ediv_of_nonneg _ (by omega),are (by omega),Int.natCast_emod,Int.natCast_ediv];rfl
 have g:x.fU/8589934592 % l.length<l.length:=ao3 _ a;simp(disch:=omega) only[F1,go_sem,simprocAttr,S6,hM,g2,f,c,b,hv.ck,hv.cD,↓pU];have e:IntKind.u64.wrap (IntKind.u64.wrap ((x.fU:Int)*6364136223846793005)+1)=(vY x.fU:Int):=by
  show(((x.fU:Int)*6364136223846793005) % 18446744073709551616+1) % 18446744073709551616=((vY x.fU:Nat):Int);unfold vY;omega
 refine⟨by omega,by show 3<=6;decide,?_⟩;rw[e,show aH (bp x ov) 2 [AV.int IntKind.u64 (vY x.fU:Int)]=bp {x with fU:=vY x.fU} ov from rfl,ag8 (by rw[ahq];omega)];rfl
end
def um(m:aX)(k:Nat):lN:=(List.range k).filter (iT m)
def de(m:aX):lN:=um m 8
def aBe(m:aX)(k:Nat):um m (k+1)=um m k++(if iT m k then[k]else[]):=by
 unfold um;rw[ary,azt,List.filter_cons];rfl
def anC(m:aX)(k:Nat): (um m k).length<=k:=by
 have:=amL (iT m) (List.range k);rw[aDn]at this;exact this
def C0(h:t∈um m k):t<k/\iT m t=true:=by
 have:=aiJ.1 h
 grind
def fA(x:cM)(m:aX):cM×Nat×Bool:=
 if m.az.Q≠[]/\ ((0<x.every/\x.every<=x.dH)\/de m=[])then({x with dH:=0},8,true)
 else if de m=[]then(x,0,false)
 else({(fG x (de m)).1 with last:=(fG x (de m)).2+1,dH:=min (x.dH+1) 100},(fG x (de m)).2,true)
def Nw(k:Nat):AV:=match xV k with|some f=>.fn (.func f) [] []|none=>.cJ
def anD(a:k<l.length)(h: ∀t∈l,t<b):l.getD k default<b:=by simp_all
def Nx{x:cM}(c:l≠[])(h: ∀t∈l,t<b): (fG x l).2<b:=by
 have a:0<l.length:=apP.2 c;unfold fG;split
 ·have e:=Xo (λt=>decide (x.last<=t)) l;refine anD ?_ h;omega
 split
 ·unfold vX;cases d:x.order.find? λt=>l.any λy=>decide (t=y)with
  |none=>grind
  |some t=>grind
 ·exact anD (ao3 _ a) h
def aBf(x:cM)(l:lN): (fG x l).1.dH=x.dH:=by
 unfold fG
 grind
def aBg(x:cM)(e:xU x)(o:x.kind<3)(h:x.order.length<=16)(a v:AV)(l:lN)(i:l.length<=8)(k:l≠[])(M:Nat)(H:List ae)(j:H[M]?=some (.box (bp x a) none))(f:Rd ⟨H,none⟩ v 1 (l.map uC))(b: ∀t∈l,t<256)(g:Rv a 1 (x.order.map uC))(lo:oN):
  D X0 (Nw x.kind) [.ptr M 0,v] ⟨H,lo⟩=some (.ret (.int .u8 (fG x l).2) ⟨H.set M (.box (bp (fG x l).1 a) none),lo⟩):=by
 have hs:H.set M (.box (bp x a) none)=H:=by
  apply apg;grind
 unfold fG Nw xV;by_cases d:x.kind=0
 ·rw[afJ d,afJ d];rw[hs];exact aBb x e a v l i k M H j f b lo
 rw[afB d,afB d];by_cases c:x.kind=1
 ·rw[afJ c,afJ c];rw[hs];exact aBc x e a v l i k M H j f b h g lo
 rw[afB c,afB c,afJ (by omega)];exact aBd x e a v l i k M H j f b lo
section
variable{n M p q:Nat}{m:aX}{qv ev:AV}{aB aI:Nat->AV}{H:List ae}
def Ny(hD: ∀op,me op)(hK:Xn)(ha:bu n M p q m qv ev aB aI H)(hm:dE m)(hr: ∀i,(m.aA i).c.aT.length<1073741824)(hQ:m.az.Q.length<1073741824)(x:cM)(hx:xU x)(g:rS x=true)(hsi:0<=x.dH/\x.dH<=100)(a:AV)(F:Rv a 1 (x.order.map uC))(lo:oN):
  D XC (.fn (.func py) [] []) [.agg (bp x a),.ptr M 0] ⟨H,lo⟩=some (.ret (.au [.agg (bp (fA x m).1 a),.int .u8 (fA x m).2.1,.bool (fA x m).2.2,.int .i64 0]) ⟨H,lo⟩):=by
 refine aF Fo λN hN=>?_
 have Xp:ed EK.ptr (AV.ptr M 0) AV.dZ=some false:=rfl;have hv0:=cO F (bD (λ_=>rfl) _);have u: ∀x:cM,aG (bp x a)=0:=λx=>by simp[bp,aG,AV.refs,hv0]
 have hmd: ∀H lo,D XC (.fn (.func A3) [] []) [.agg (bp x a)] ⟨H,lo⟩=some (.ret (.bool true) ⟨H,lo⟩):=λH lo=>by rw[anA hK x hx a F,g]
 have r: ∀y:cM,(bp y a).length=6:=λ_=>rfl
 have o: ∀y:cM,List.take 6 (bp y a)=bp y a:=λ_=>rfl
 simp only[go_sem,simprocAttr,Fo,hN,Xp,hmd,r,o];obtain⟨B,hB⟩: ∃B:List ae,B=[.box (bp x a) none,.box [.int .u8 0,.ai,.int .u64 0,.int .i64 0,.int .u8 0,.int .i64 0] none]:=⟨_,rfl⟩;have hBl: (H++B).length=N+2:=by rw[hB];simp[hN]
 have o9:=λW (X: (H++B)<+:W) t lo=>anv hD (show bu n M p q m qv ev aB aI W by obtain⟨L,rfl⟩:=X;exact(ha.app B).app L) hm hr t lo
 refine dV 8 (λk e W=>(H++B)<+:W/\aQ (N+2) W (e 8) 1 af2 ((um m k).map uC)/\e 1= .ptr M 0/\e 2= .ptr N 0/\e 4= .ptr (N+1) 0/\e 22= .int .u8 k) 0 (by omega) ?_ ?_
 ·simp only[go_sem,simprocAttr];exact⟨by rw[hB];exact arT,aQ.ai⟩
 ·rintro k hk e W ⟨V,Z,e1,A,I,J⟩ nn hn;simp(disch:=omega) only[bR,go_sem,simprocAttr,agc,e1,J];refine⟨λhh=>?_,λhh=>?_⟩
  ·have S:k<8:=by omega
   have z:=o9 W V k;simp only[go_sem,simprocAttr,z];have hs:=aBe m k;cases X:iT m k
   ·rw[X,afB (by decide),aiH]at hs;simp(disch:=omega) only[go_sem,simprocAttr,e1,A,I,J];rw[hs];exact⟨S,V,Z⟩
   ·rw[X,afJ rfl]at hs;simp only[go_sem,simprocAttr];refine po (H0:=H++B) (bytes:=1) (ys:=[uC k]) Z V hBl (by omega) (by intro el vF;rw[ahe.1 vF];rfl) rfl (by rw[ahh];have:=anC m k;simp[room];omega) λv' W2 o2 p2=>?_
    simp(disch:=omega) only[go_sem,simprocAttr,e1,A,I,J];rw[hs,ahs];exact⟨S,p2,o2⟩
  ·obtain rfl:k=8:=by omega
   obtain⟨L,rfl⟩:=V;have w:=aA0 ((ha.app B).app L) hQ none;subst hB;rw[afL]at*;simp only[alb,aj8]at*;obtain⟨cv,c1,c2⟩:=w;have g8: (cz m.az q cv)[1273]?=some cv:=Wz;have O:=Z.rd (lo:=none);have p0: ∀y:cM,(bp y a)[0]?=some (.int .u8 y.kind):=λ_=>rfl
   have p3: ∀y:cM,(bp y a)[3]?=some (.int .i64 y.every):=λ_=>rfl
   have Y: ∀y:cM,(bp y a)[5]?=some (.int .i64 y.dH):=λ_=>rfl
   have s4: ∀ (y:cM) (v:Nat),aH (bp y a) 4 [.int .u8 v]=bp {y with last:=v} a:=λ_ _=>rfl
   have K: ∀ (y:cM) (t:Nat),aH (bp y a) 4 [.int .u8 ((t:Int)+1)]=bp {y with last:=t+1} a:=λ_ _=>rfl
   have hd6: ∀y:cM,List.drop 6 (bp y a)=[]:=λ_=>rfl
   have Q:=aBf x (de m);have hpt: ∀h:de m≠[],(fG x (de m)).2<8:=λh=>Nx h λt ht=>(C0 ht).1
   have U: ∀ (y:cM) (v:Int),aH (bp y a) 5 [.int .i64 v]=bp {y with dH:=v} a:=λ_ _=>rfl
   have T:=hK.1;have h3:x.kind<3/\x.order.length<=16:=by unfold rS at g;simp only[aiL,amT]at g;exact⟨g.1.1.1,g.1.1.2⟩
   have gN: (H++(ae.box (bp x a) none::ae.box [.int .u8 0,.ai,.int .u64 0,.int .i64 0,.int .u8 0,.int .i64 0] none::L))[N]?=some (.box (bp x a) none):=by rw[di hN];rfl
   have R:=λh0=>c0 (aBg x hx h3.1 h3.2 a (e 8) (de m) (anC m 8) h0 N _ gN O (λt ht=>by have:=(C0 ht).1;omega) F none)
   have hk: ∀E,gP XC.fb E .int .cJ (.jb uR) (.int .u8 x.kind) false=some (Nw x.kind):=λE=>by
    rw[hK.2 x.kind false E];unfold Nw;cases xV x.kind<;>rfl
   have l: (decide (0< (m.az.Q.length:Int))=true↔m.az.Q≠[]):=by rw[ayP,<-apP];omega
   have s: (decide (((um m 8).length:Int)=0)=true↔de m=[]):=by rw[ayP];unfold de;rw[<-amK];omega
   obtain⟨due,c⟩: ∃d,d=(decide (0<x.every)&&decide (x.every<=x.dH)):=⟨_,rfl⟩;have G:due=true↔(0<x.every/\x.every<=x.dH):=by rw[c,aiL,ayP,ayP]
   simp(disch:=omega) only[go_sem,simprocAttr,A,c1,g8,p3,c2.bL];refine uI 11 (.bool due) [2,4,8,10] rfl rfl ?_ λe0=>?_
   ·cases b1:decide (0<x.every)
    ·rw[b1]at c;subst c;simp only[go_sem,simprocAttr];rfl
    ·rw[b1]at c;subst c;simp(disch:=omega) only[go_sem,simprocAttr,A,p3,Y]
   clear c;have j: ∀ (y:cM) (b:Nat) (is:Bool),fA x m=(y,b,is)->aS.ret (.au [.agg (bp y a),.int .u8 b,.bool is,.int .i64 0]) ⟨H,lo⟩= .ret (.au [.agg (bp (fA x m).1 a),.int .u8 (fA x m).2.1,.bool (fA x m).2.2,.int .i64 0]) ⟨H,lo⟩:=λy b is h=>by rw[h]
   have P: ∀h:de m≠[],IntKind.u8.wrap (((fG x (de m)).2:Int)+1)=((fG x (de m)).2:Int)+1:=λh=>wrap_u8 (by omega) (by have:=hpt h;omega)
   have q2: ∀ (z:m.az.Q≠[]) (C:due=true\/de m=[]),fA x m=({x with dH:=0},8,true):=λz C=>afJ ⟨z,by rw[<-G];exact C⟩
   have q1: ∀ (z: ¬(m.az.Q≠[]/\ (due=true\/de m=[]))) (C:de m=[]),fA x m=(x,0,false):=λz C=>(afB (by rw[<-G];exact z)).trans (afJ C)
   have q3: ∀ (z: ¬(m.az.Q≠[]/\ (due=true\/de m=[]))) (C:de m≠[]),fA x m=({(fG x (de m)).1 with last:=(fG x (de m)).2+1,dH:=min (x.dH+1) 100},(fG x (de m)).2,true):=λz C=>(afB (by rw[<-G];exact z)).trans (afB C)
   cases bq:decide (0< (m.az.Q.length:Int))<;>rw[bq]at l
   ·cases be:decide (((um m 8).length:Int)=0)<;>rw[be]at s
    ·have f:de m≠[]:=by simpa using s
     simp(disch:=omega) only[F1,go_sem,simprocAttr,be,A,I,O.bL,p0,Y,r,o,u,K,U,T,hk,R f,Q,P f];exact j _ _ _ (q3 (by simp at l;simp[l]) f)
    ·simp(disch:=omega) only[F1,go_sem,simprocAttr,be,A,I,O.bL,r,o,u];exact j _ 0 _ (q1 (by simp at l;simp[l]) (s.1 rfl))
   ·cases due
    ·cases be:decide (((um m 8).length:Int)=0)<;>rw[be]at s
     ·have f:de m≠[]:=by simpa using s
      simp(disch:=omega) only[F1,go_sem,simprocAttr,be,A,I,O.bL,p0,Y,r,o,u,K,U,T,hk,R f,Q,P f];exact j _ _ _ (q3 (by simp[f]) f)
     ·simp(disch:=omega) only[F1,go_sem,simprocAttr,be,A,I,O.bL,r,o,u,U];exact j _ 8 _ (q2 (l.1 rfl) (.inr (s.1 rfl)))
    ·simp(disch:=omega) only[F1,go_sem,simprocAttr,A,I,r,o,u,U];exact j _ 8 _ (q2 (l.1 rfl) (.inl rfl))
end
def oV(x:dG):lA:=[.int .i64 x.op,.int .i64 x.a,.int .i64 x.b,.int .i64 x.c,.int .i64 x.n]
def aBl(v:AV)(l:List dG)(F:l.length<2147483648)(H:List ae)(h:Rd ⟨H,none⟩ v 5 (l.map oV))(lo:oN):
  D X0 (.fn (.func Qp) [] []) [v] ⟨H,lo⟩=some (.ret (.bool (qc l)) ⟨H,lo⟩):=by
 refine aF Lb λN s=>?_
 unfold qc;by_cases c:l.length<=64
 ·have p: ¬((l.length:Nat):Int)>64:=by omega
  rw[ag9 c,ao1];simp only[go_sem,simprocAttr,Lb,h.bL,p];refine dV l.length (λk e W=>H<+:W/\e 0=v/\e 3= .int .i64 k/\ ∀j,j<k->rE (l.getD j default) l.length=true) 0 (by omega) ?_ ?_
  ·simp only[go_sem,simprocAttr];exact⟨arT,λj o=>absurd o (ari j)⟩
  rintro k G e W ⟨d,q,e3,g⟩ n C;have hw:=h.mono (ak:=none) d;simp only[bR,F1,go_sem,simprocAttr,agn,q,e3,hw.bL];refine⟨λE=>?_,λE=>?_⟩
  ·have b:k<l.length:=by omega
   have a: ∀x,Den.part true 5 (oV x) 0=some (.agg (oV x)):=λ_=>rfl
   have r: ∀x:dG,(oV x)[0]?=some (.int .i64 x.op):=λ_=>rfl
   have A: ∀x:dG,(oV x)[1]?=some (.int .i64 x.a):=λ_=>rfl
   have z: ∀x:dG,(oV x)[2]?=some (.int .i64 x.b):=λ_=>rfl
   have y: ∀x:dG,(oV x)[3]?=some (.int .i64 x.c):=λ_=>rfl
   have w: ∀x:dG,(oV x)[4]?=some (.int .i64 x.n):=λ_=>rfl
   have u: ∀x:dG,(oV x).length=5:=λ_=>rfl
   have t: ∀x:dG,aG (oV x)=0:=λ_=>rfl
   have B:=hw.ext (L:=[.box (oV (l.getD k default)) none]) (ak:=none);have m: ∀L,fj ⟨W++L,none⟩ .sl v=some (.int .i64 l.length):=λL=>(hw.ext (L:=L) (ak:=none)).bL
   simp(disch:=omega) only[go_sem,simprocAttr,hw.ck,hw.cD,↓a,C,u,t,r];refine⟨by omega,?_⟩;generalize f:l.getD k default=x at*;refine uI 62 (.bool (!rE x l.length)) [0,3] rfl rfl ?_ λI=>?_
   ·unfold rE;simp(disch:=omega) only[R4,go_sem,simprocAttr,r,A,z,y,w,m,q]
    (repeat' (first|apply And.intro|intro _))
    all_goals(refine akG AV.bool (apN.2 ?_);simp[];try(intros;omega))
   cases hm:rE x l.length
   ·simp only[F1,go_sem,simprocAttr];have a: (l.all λx=>rE x l.length)=false:=by
     rw[aDo];exact⟨x,by rw[<-f];exact eX b,by rw[hm];decide⟩
    rw[a];exact da rfl (lr s λi g=>by obtain⟨L,rfl⟩:=d;rw[afL,aeT (by omega)])
   ·simp(disch:=omega) only[go_sem,simprocAttr,q,e3];refine⟨b,d.trans (ar2 _ _),mO g (by rw[f,hm])⟩
  ·have a: (l.all λx=>rE x l.length)=true:=by
     rw[ahp];intro x f;obtain⟨j,o,rfl⟩:=aul f;have:=g j (by omega);rwa[show l.getD j default=l[j] by simp[List.getD,o]]at this
   rw[a];exact da rfl (lr s λi g=>by obtain⟨L,rfl⟩:=d;rw[aeT (by omega)])
 ·have p: ((l.length:Nat):Int)>64:=by omega
  rw[ag7 c,akI];simp(disch:=omega) only[F1,go_sem,simprocAttr,Lb,h.bL,p]
def aBm(s:lB)(F:s.length<=1000)(H:List ae)(lo:oN):
  ∃v,D X0 (.fn (.func II) [] []) [S s] ⟨H,lo⟩=some (.ret (.au [v,.bool (decode s).isSome]) ⟨H,lo⟩):=by
 suffices A: ∃h,D X0 (.fn (.func II) [] []) [S s] ⟨H,lo⟩=some h/\ (λh=> ∃v,h=aS.ret (.au [v,.bool (decode s).isSome]) ⟨H,lo⟩) h by
  obtain⟨h,x,v,rfl⟩:=A;exact⟨v,x⟩
 refine cy RJ λN m=>?_
 simp only[go_sem,simprocAttr,RJ];refine dV (s.length/6) (λk e W=>e 0=S (s.drop (6*k))/\H<+:W/\aQ N W (e 4) 5 af3 ((gk s k).map oV)) 0 (by omega) ?_ ?_
 ·simp only[go_sem,simprocAttr];exact⟨arT,aQ.ai⟩
 rintro k G e W ⟨z,a,p⟩ n B;have C: (s.drop (6*k)).length=s.length-6*k:=ao2 ..;have f: (gk s k).length=k:=by simp[gk]
 simp only[bR,go_sem,simprocAttr,agh,z,B];refine⟨λE=>?_,λE=>?_⟩
 ·have c:k<s.length/6:=by omega
  have I:6<=(s.drop (6*k)).length:=by omega
  have q:ur (S (s.drop (6*k))) (some (.int .i64 6)) none=some (S (s.drop (6*(k+1)))):=by
   rw[Ig,afJ ⟨by omega,by omega⟩,arv];rfl
  have d: ∀j,((s.drop (6*k)).getD j 0).toNat<256:=λj=>UInt8.toNat_lt _
  have Q:=d 0;have P:=d 1;have O:=d 2;have M:=d 3;have K:=d 4;have J:=d 5;simp(disch:=omega) only[go_sem,simprocAttr];refine⟨by omega,by omega,by omega,by omega,by omega,by omega,?_⟩;refine po (N:=N) (H0:=H) (bytes:=40) (ys:=[oV (qo (s.drop (6*k)))]) p a m (by omega) (by intro el t;rw[ahe.1 t];rfl) rfl (by rw[ahh,f];show(k+1)*40<=room;unfold room;omega) λv' R o r=>?_
  simp only[go_sem,simprocAttr,z,q];refine⟨c,r,?_⟩;rw[WY,ahs];exact o
 ·have c:k=s.length/6:=by omega
  by_cases y:s.length % 6=0
  ·have l: ¬(0:Int)< ((s.drop (6*k)).length:Nat):=by omega
   have b:=λlo=>aBl (e 4) (gk s k) (by omega) W (mc p none) lo
   have g:rF s=gk s k:=by rw[c];exact amw y
   have u:decode s=if qc (gk s k)then some (gk s k)else none:=by
    unfold decode;by_cases x:s.length<=384
    ·rw[afB (by omega),g]
    ·rw[afJ (by omega)];have:qc (gk s k)=false:=by unfold qc;rw[ag7 (by rw[f];omega)];rfl
     rw[this];rfl
   rw[u];cases hm:qc (gk s k)with
   |true=>
    rw[hm]at b;simp only[go_sem,simprocAttr,l,b];rw[p.aeW (by rw[bD (λ_=>rfl)];omega) (aha _)];exact⟨_,da rfl (lr m λi w=>by obtain⟨L,rfl⟩:=a;rw[aeT (by omega)])⟩
   |false=>
    rw[hm]at b;simp only[go_sem,simprocAttr,l,b];rw[xC rfl];exact⟨.ai,da rfl (lr m λi w=>by obtain⟨L,rfl⟩:=a;rw[aeT (by omega)])⟩
  ·have l: (0:Int)< ((s.drop (6*k)).length:Nat):=by omega
   have u:decode s=none:=by unfold decode;rw[afJ (.inl y)]
   rw[u];simp only[go_sem,simprocAttr,l];rw[xC rfl];exact⟨.ai,da rfl (lr m λi w=>by obtain⟨L,rfl⟩:=a;rw[aeT (by omega)])⟩
def dY(aM:Int)(pv:AV)(aW:lB):lA:=[.int .i64 aM,pv,S aW]
structure Nz(aM:Int)(aC:List lB)(aW:lB)(pv:AV):Prop where
 pg: -9223372036854775808<=aM/\aM<9223372036854775808
 pr:Rv pv 1 (aC.map sC)
def vZ(aC:List lB)(aW:lB):Bool:=decide (20<aC.length)|| (decide (6000<aW.length)||aC.any λp=>decide (1000<p.length))
def Ha(aC:List lB)(aW:lB):Bool:=vZ aC aW||decide (1500<aW.length)
section
variable{aM:Int}{aC:List lB}{aW:lB}{pv:AV}(h:Nz aM aC aW pv)
include h
theorem aBn:aG (dY aM pv aW)=0:=by
 have:=cO h.pr (bD (λ_=>rfl) _);simp[dY,aG,AV.refs,S,this]
theorem aBo(H:List ae)(lo:oN):D X0 (.fn (.func Qc) [] []) [.agg (dY aM pv aW)] ⟨H,lo⟩=some (.ret (.bool (vZ aC aW)) ⟨H,lo⟩):=by
 refine aF Fs λN f=>?_
 have g1: (dY aM pv aW)[1]?=some pv:=rfl;have g2: (dY aM pv aW)[2]?=some (S aW):=rfl;unfold vZ;by_cases g:20<aC.length
 ·have a: (aC.length:Int)>20:=by omega
  rw[ag9 g,auP];simp only[F1,go_sem,simprocAttr,Fs,f,g1,h.pr.bL,a]
 by_cases l:6000<aW.length
 ·have a: ¬(aC.length:Int)>20:=by omega
  have b: (aW.length:Int)>6000:=by omega
  rw[ag7 g,ag9 l,auP,au3];simp only[F1,go_sem,simprocAttr,Fs,f,g1,g2,h.pr.bL,a,b]
 have a: ¬(aC.length:Int)>20:=by omega
 have b: ¬(aW.length:Int)>6000:=by omega
 rw[ag7 g,ag7 l,au3,au3];simp only[go_sem,simprocAttr,Fs,f,g1,g2,h.pr.bL,a,b];refine dV aC.length (λk e W=>W=H++[.box (dY aM pv aW) none]/\e 1= .ptr N 0/\e 3= .int .i64 k/\ ∀j,j<k->(λp:lB=>decide (1000<p.length)) (aC.getD j default)=false) 0 (by omega) ?_ ?_
 ·simp only[go_sem,simprocAttr];exactλj d=>absurd d (ari j)
 rintro k t e W ⟨rfl,e1,e3,i⟩ n s;simp(disch:=omega) only[bR,F1,go_sem,simprocAttr,agf,e1,e3,g1,h.pr.bL];refine⟨λr=>?_,λr=>?_⟩
 ·have c:k<aC.length:=by omega
  simp(disch:=omega) only[bR,F1,go_sem,simprocAttr,e1,e3,h.pr.ck,h.pr.cD,↓pS];refine⟨by omega,λo=>?_,λo=>?_⟩
  ·rw[(List.any_eq_true).2 ⟨_,eX c,ag9 (by omega)⟩]
  ·exact⟨c,mO (p:=λj=>decide (1000< (aC.getD j default).length)=false) i (ag7 (by omega))⟩
 ·have: (aC.any λp=>decide (1000<p.length))=false:=by
    rw[List.any_eq_false];intro x m;obtain⟨j,d,rfl⟩:=aul m;have:=i j (by omega);rw[show aC.getD j default=aC[j] by simp[List.getD,d]]at this;exactλq=>by rw[show decide (1000<aC[j].length)=false from this]at q;cases q
  rw[this]
theorem aBp(H:List ae)(lo:oN):D X0 (.fn (.func P4) [] []) [.agg (dY aM pv aW)] ⟨H,lo⟩=some (.ret (.bool (Ha aC aW)) ⟨H,lo⟩):=by
 refine aF K0 λN e=>?_
 have g2: (dY aM pv aW)[2]?=some (S aW):=rfl;have c: (dY aM pv aW).length=3:=rfl;have b:List.take 3 (dY aM pv aW)=dY aM pv aW:=rfl;have e1:decide ((aW.length:Int)>1500)=decide (1500<aW.length):=aht.2 (by omega);have a:=aBo h;unfold Ha;cases d:vZ aC aW
 ·rw[d]at a;simp only[F1,go_sem,simprocAttr,K0,e,g2,a,c,b,e1]
 ·rw[d]at a;simp only[F1,go_sem,simprocAttr,K0,e,a,c,b]
theorem aBq(i:vZ aC aW=false)(H:List ae)(lo:oN): ∃kv,D X0 (.fn (.func P7) [] []) [.agg (dY aM pv aW)] ⟨H,lo⟩=some (.ret (.agg [.int .i64 aM,pv,kv]) ⟨H,lo⟩)/\GX aM aC aW pv kv:=by
 have g:aC.length<=20/\aW.length<=6000:=by
  unfold vZ at i
  grind
 refine⟨.sl (aW.map bC) false,?_,⟨h.pr,.sl λel d=>by obtain⟨x,_,rfl⟩:=ahk.1 d;rfl,by omega,by omega⟩⟩;refine aF RE λN j=>?_
 have k: (dY aM pv aW)[0]?=some (.int .i64 aM):=rfl;have g1: (dY aM pv aW)[1]?=some pv:=rfl;have g2: (dY aM pv aW)[2]?=some (S aW):=rfl;have b:=cO h.pr (bD (λ_=>rfl) _);have c:Ic (S aW)=some (.sl (aW.map bC) false):=by
  have e:Ic (S aW)=if aW.length<=room then some (.sl (aW.map bC) false)else none:=rfl
  rw[e,afJ (by unfold room;omega)]
 have f:b8 (aW.map bC)=0:=bD (λ_=>rfl) _;have a:=oP (h.pr ⟨[],none⟩);simp only[F1,go_sem,simprocAttr,RE,j,k,g1,g2,c,a.1,a.2,b,f,ao0,amS]
theorem aBr(t:vZ aC aW=false)(H:List ae)(lo:oN):D X0 (.fn (.func P5) [] []) [.agg (dY aM pv aW)] ⟨H,lo⟩=some (.ret (.bool (nC ⟨aM,aC,aW.map UInt8.toNat⟩)) ⟨H,lo⟩):=by
 refine aF RA λN F=>?_
 have A: (dY aM pv aW)[0]?=some (.int .i64 aM):=rfl;have g1: (dY aM pv aW)[1]?=some pv:=rfl;have g2: (dY aM pv aW)[2]?=some (S aW):=rfl;obtain⟨w,f⟩: ∃b,b=decide (1<=aM/\aM<=64/\1<=aC.length/\aC.length<=8/\aW.length<=4000):=⟨_,rfl⟩;have r:nC ⟨aM,aC,aW.map UInt8.toNat⟩=(w&&aC.all (λp=>(decode p).isSome)&& (aW.map UInt8.toNat).all lq):=by unfold nC;rw[ahh,f]
 rw[r];simp only[go_sem,simprocAttr,RA,F,A];refine uI 33 (.bool (!w)) [1] rfl rfl ?_ λG=>?_
 ·rw[f];simp(disch:=omega) only[R4,go_sem,simprocAttr,A,g1,g2,h.pr.bL];generalize aC.length=np
  (repeat' (first|apply And.intro|intro _))
  all_goals(refine akG AV.bool (apN.2 ?_);simp[];try(intros;omega))
 cases w
 ·simp(disch:=omega) only[F1,go_sem,simprocAttr];rfl
 have f:=(au4 f.symm);simp only[go_sem,simprocAttr];refine dV aC.length (λk e W=>W=H++[.box (dY aM pv aW) none]/\e 1= .ptr N 0/\e 3= .int .i64 k/\ ∀j,j<k->(λp:lB=>(decode p).isSome) (aC.getD j default)=true) 0 (by omega) ?_ ?_
 ·simp only[go_sem,simprocAttr];exactλj g=>absurd g (ari j)
 rintro k I e W ⟨rfl,e1,e3,l⟩ n C;simp(disch:=omega) only[bR,go_sem,simprocAttr,af9,e1,e3,g1,h.pr.bL];refine⟨λq=>?_,λq=>?_⟩
 ·have a:k<aC.length:=by omega
  have s: (aC.getD k default).length<=1000:=by
   unfold vZ at t;simp only[Bool.or_eq_false_iff,List.any_eq_false,amT]at t;have:=t.2.2 _ (eX a);omega
  obtain⟨v,u⟩:=aBm (aC.getD k default) s (H++[.box (dY aM pv aW) none]) none;simp(disch:=omega) only[go_sem,simprocAttr,h.pr.ck,h.pr.cD,↓pS,u];refine⟨by omega,?_⟩;cases m: (decode (aC.getD k default)).isSome
  ·simp(disch:=omega) only[F1,go_sem,simprocAttr];have: (aC.all λp=>(decode p).isSome)=false:=by
    rw[aDo];exact⟨_,eX a,by rw[m];decide⟩
   rw[this];rfl
  ·simp(disch:=omega) only[go_sem,simprocAttr,e1,e3];exact⟨a,mO (p:=λj=>(decode (aC.getD j default)).isSome=true) l m⟩
 have d: (aC.all λp=>(decode p).isSome)=true:=by
  rw[ahp];intro x o;obtain⟨j,g,rfl⟩:=aul o;have:=l j (by omega);rwa[show aC.getD j default=aC[j] by simp[List.getD,g]]at this
 rw[d,ao1];clear l d;refine dV aW.length (λk e W=>W=H++[.box (dY aM pv aW) none]/\e 1= .ptr N 0/\e 6= .int .i64 k/\ ∀j,j<k->lq (aW.getD j 0).toNat=true) 0 (by omega) ?_ ?_
 ·simp only[go_sem,simprocAttr,e1];exactλj g=>absurd g (ari j)
 clear e1 e3 q;rintro i E e W ⟨rfl,e1,e6,l⟩ n C;simp(disch:=omega) only[bR,F1,go_sem,simprocAttr,af8,e1,e6,g2];refine⟨λq=>?_,λq=>?_⟩
 ·have a:i<aW.length:=by omega
  have o:=(aW.getD i 0).toNat_lt;refine⟨by omega,?_⟩;generalize z: (aW.getD i 0).toNat=c at*;refine uI 72 (.bool (!lq c)) [1,6] rfl rfl ?_ λG=>?_
  ·unfold lq;simp only[R4,go_sem,simprocAttr]
   (repeat' (first|apply And.intro|intro _))
   all_goals(refine akG AV.bool (apN.2 ?_);simp[];try(intros;omega))
  cases m:lq c
  ·simp(disch:=omega) only[F1,go_sem,simprocAttr];have: (aW.map UInt8.toNat).all lq=false:=by
    rw[aDo];exact⟨c,ahk.2 ⟨aW.getD i 0,by rw[show aW.getD i 0=aW[i] by simp[List.getD,a]];exact atQ a,z⟩,by rw[m];decide⟩
   rw[this]
  ·simp(disch:=omega) only[go_sem,simprocAttr,e1,e6];exact⟨a,mO (p:=λj=>lq (aW.getD j 0).toNat=true) l (by rw[z,m])⟩
 ·have d: (aW.map UInt8.toNat).all lq=true:=by
    rw[ahp];intro x o;obtain⟨y,B,rfl⟩:=ahk.1 o;obtain⟨j,g,rfl⟩:=aul B;have:=l j (by omega);rwa[show aW.getD j 0=aW[j] by simp[List.getD,g]]at this
  rw[d]
end
theorem anE(k:Nat): ∀t:List (Nat×lB×Nat),dS (.int .u8 k) (qM t)=some ((t.find? λx=>decide (k=x.1)).map λx=>.fn (.func x.2.2) [] [])
 | []=>rfl
 |a::t=>by
  have b:=anE k t;show dS (.int .u8 k) ((.int .u8 a.1,.fn (.func a.2.2) [] [])::qM t)=_;rw[MN,List.find?_cons]
  grind
def anF{X:Ctx}{t:List (Nat×lB×Nat)}{g:Nat}(h:X.fb g=some (qM t))(k:Nat)(E:AS)(a:Bool):
  gP X.fb E .int .cJ (.jb g) (.int .u8 k) a=some (match(t.find? λx=>decide (k=x.1)).map λx=>x.2.2 with|some f=>if a then .au [.fn (.func f) [] [],.bool true]else .fn (.func f) [] []|none=>if a then .au [.cJ,.bool false]else .cJ):=by
 have e:gP X.fb E .int .cJ (.jb g) (.int .u8 k) a=match X.fb g with
  |some es=>(match dS (.int .u8 k) es with|some (some v)=>some (if a then .au [v,.bool true]else v)|some none=>some (if a then .au [.cJ,.bool false]else .cJ)|none=>none)
  |none=>none:=rfl
 rw[e,h];dsimp only;rw[anE];cases t.find? λx=>decide (k=x.1)<;>rfl
def aBs{t:List (Nat×lB×Nat)}{n:Nat}(h:t.all (λx=>decide (x.1<n))=true)(a:n<=k): (t.find? λx=>decide (k=x.1))=none:=by grind
def aBt(a:Nat): ((xf.find? λx=>decide (a=x.1)).map λx=>x.2.2)=rM a:=by
 by_cases h:a<23
 ·have: ∀i:Fin 23,((xf.find? λx=>decide (i.1=x.1)).map λx=>x.2.2)=rM i.1:=by decide
  exact this ⟨a,h⟩
 ·match a,h with
  |n+23,_=>rfl
def aBu(k:Nat): ((xe.find? λx=>decide (k=x.1)).map λx=>x.2.2)=xV k:=by
 by_cases h:k<3
 ·have: ∀i:Fin 3,((xe.find? λx=>decide (i.1=x.1)).map λx=>x.2.2)=xV i.1:=by decide
  exact this ⟨k,h⟩
 ·rw[aBs (n:=3) (by rfl) (by omega)];unfold xV
  grind
theorem xX(a:Nat):me a:=λE=>by
 rw[anF (X:=XA) (t:=xf) rfl,aBt]
 grind
theorem Hb:Xn:=⟨λE=>rfl,λk ok E=>by
 rw[anF (X:=XC) (t:=xe) rfl,aBu]
 grind⟩
structure C2(x y:cM):Prop where
 ok:xU y
 may:rS y=true
 dH:0<=y.dH/\y.dH<=100
 order:y.order=x.order
def aBv{x y:cM}(c:y.kind=x.kind)(b:y.order=x.order)(a:y.every=x.every):rS y=rS x:=by
 unfold rS;grind
theorem aBw(s:Nat):vY s<18446744073709551616:=ao3 _ (by decide)
def aBx(y:cM)(l:lN): (fG y l).1.kind=y.kind/\ (fG y l).1.order=y.order/\ (fG y l).1.every=y.every/\ ((fG y l).1.fU=y.fU\/ (fG y l).1.fU=vY y.fU):=by
 unfold fG
 grind
def C2.next{x y:cM}(h:C2 x y)(m:aX):C2 x (fA y m).1:=by
 unfold fA;split
 ·exact⟨⟨h.ok.kind,h.ok.order,h.ok.fU,h.ok.every,h.ok.last,by simp⟩,h.may,by simp,h.order⟩
 split
 ·exact h
 ·rename_i b;have hs:=h.dH;have f:=Nx (x:=y) b λt a=>(C0 a).1
  obtain⟨s1,s2,c,d⟩:=aBx y (de m);generalize fG y (de m)=z at*;refine⟨⟨by rw[s1];exact h.ok.kind,λt a=>h.ok.order t (s2 ▸ a),?_,by rw[c];exact h.ok.every,by grind,by grind⟩,?_,by grind,s2.trans h.order⟩
  ·show z.1.fU<_;rcases d with e|e
   ·rw[e];exact h.ok.fU
   ·rw[e];exact aBw _
  ·exact(aBv s1 s2 c).trans h.may
def aBy{x:cM}(h: (fA x m).2.2=true): (fA x m).2.1<256/\ ((fA x m).2.1≠8->iT m (fA x m).2.1=true)/\ (gx m (fA x m).2.1).2=0:=by
 unfold fA at h⊢;by_cases i:m.az.Q≠[]/\ ((0<x.every/\x.every<=x.dH)\/de m=[])
 ·rw[afJ i];refine⟨by simp,λq=>absurd rfl q,?_⟩;unfold gx iS
  grind
 ·rw[afB i]at h⊢;by_cases c:de m=[]
  ·grind
  ·rw[afB c];have hm: ∀t∈de m,t<8/\iT m t=true:=λt d=>C0 d
   have a:=Nx (x:=x) c λt d=>(hm t d).1
   have hr:iT m (fG x (de m)).2=true:=by
    suffices hs: (fG x (de m)).2∈de m from(hm _ hs).2
    have g:0< (de m).length:=apP.2 c;unfold fG;split
    ·have a:=Xo (λt=>decide (x.last<=t)) (de m);refine eX ?_;rcases a with a|a
     ·omega
     ·exact absurd a.1 c
    split
    ·show vX _ _∈_;unfold vX;cases f:x.order.find? λt=>(de m).any λy=>decide (t=y)with
     |none=>exact eX g
     |some t=>
      have f:=List.find?_some f;obtain⟨y,j,e⟩:=List.any_eq_true.1 f;have e:=au4 e;subst e;exact j
    ·exact eX (ao3 _ g)
   generalize(fG x (de m)).2=b at*;refine⟨by show b<256;omega,λ_=>hr,?_⟩;show(gx m b).2=0;have k:qd m (b % 8)=true:=by
    rw[apy a];unfold iT at hr;simp only[aiL]at hr;exact hr.1.2
   unfold gx
   grind
def anG{n:Nat}{E:AS}(h:v.refs<=n): (finish n lo v E).1=v:=by
 obtain⟨W,l⟩:=E;cases l with
 |none=>rw[AM,afJ h]
 |some j=>
  rw[DS,afJ h]
  grind
def bu.low{n:Nat}{W:List ae}(a:bu n M p q m qv ev aB aI W){cs:lA}(b:W[i]?=some (.box cs tg))(c:i<n)(o:ae):bu n M p q m qv ev aB aI (W.set i o):=by
 have f:=a.nM;have e:=a.co.mp;have d:=a.co.mq;exact a.other b (by omega) (by omega) (by omega) o
section
variable{aM:Int}{aC:List lB}{aW:lB}{pv:AV}(h:Nz aM aC aW pv)(x:cM)(hx:xU x)(ov:AV)(Ac:Rv ov 1 (x.order.map uC))
include h hx Ac
theorem aBz: ∀y:cM,aG (bp y ov)=0:=λy=>by
 have:=cO Ac (bD (λ_=>rfl) _);simp[bp,aG,AV.refs,this]
def NA(aC:List lB)(aW:lB)(x:cM):Bool:=Ha aC aW||decide (100<x.order.length)
theorem aBA(H:List ae)(lo:oN):D X0 (.fn (.func P9) [] []) [.agg (dY aM pv aW),.agg (bp x ov)] ⟨H,lo⟩=some (.ret (.bool (NA aC aW x)) ⟨H,lo⟩):=by
 refine aF K2 λN e=>?_
 have c: (dY aM pv aW).length=3:=rfl;have b:List.take 3 (dY aM pv aW)=dY aM pv aW:=rfl;have g1: (bp x ov)[1]?=some ov:=rfl;have e1:decide ((x.order.length:Int)>100)=decide (100<x.order.length):=aht.2 (by omega);have f: ∀E,fj E .sl ov=some (.int .i64 x.order.length):=λE=>Ac.bL
 have a:=aBp h;unfold NA;cases d:Ha aC aW
 ·rw[d]at a;simp only[F1,go_sem,simprocAttr,K2,e,a,c,b,e1,g1,f]
 ·rw[d]at a;simp only[F1,go_sem,simprocAttr,K2,e,a,c,b]
omit h in
end
def v5(l:lN)(t:Nat):Nat->Nat
 |0=>0
 |k+1=>if l.getD k default=t then 0 else v5 l t k+1
def qs(l:lN)(t:Nat):Nat->Nat
 |0=>0
 |k+1=>max (qs l t k) (v5 l t (k+1))
theorem Xq(l:lN)(t:Nat): ∀k,v5 l t k<=k
 |0=>ahd _
 |k+1=>by
  simp only[v5];split
  ·omega
  ·have:=Xq l t k;omega
theorem anH(l:lN)(t:Nat): ∀k,qs l t k<=k
 |0=>ahd _
 |k+1=>by
  have:=anH l t k;have:=Xq l t (k+1);simp only[qs];omega
def aBB(v:AV)(l:lN)(f:Rv v 1 (l.map uC))(r:l.length<=1000)(t:Nat)(H:List ae)(lo:oN):D X0 (.fn (.func IJ) [] []) [v,.int .u8 t] ⟨H,lo⟩=some (.ret (.int .i64 (qs l t l.length)) ⟨H,lo⟩):=by
 refine aF RM λN u=>?_
 simp only[go_sem,simprocAttr,RM,f.bL];refine dV l.length (λk e H'=>H'=H/\e 1= .int .u8 t/\e 5= .int .i64 (qs l t k)/\e 6= .int .i64 (v5 l t k)/\e 9=v/\e 10= .int .i64 l.length/\e 11= .int .i64 k) 0 (by omega) ?_ ?_
 ·trivial
 rintro k s e H' ⟨rfl,i,m,p,g,c,b⟩ n q;have x:=anH l t k;have w:=Xq l t k;simp(disch:=omega) only[bR,F1,go_sem,simprocAttr,agj,m,g,c,b];refine⟨λh=>?_,λh=>?_⟩
 ·have d:k<l.length:=by omega
  simp(disch:=omega) only[bR,go_sem,simprocAttr,f.ck,f.cD,uC,h,i,m,p];refine⟨λo=>?_,λo=>?_⟩
  ·have a:l.getD k default=t:=by omega
   simp(disch:=omega) only[go_sem,simprocAttr,i,g,c,b];have e1:v5 l t (k+1)=0:=afJ a;have j:qs l t (k+1)=max (qs l t k) 0:=by rw[qs,e1]
   refine⟨d,akG (AV.int .i64) ?_,akG (AV.int .i64) ?_⟩
   ·rw[j];first|omega| (split<;>omega)
   ·rw[e1];rfl
  ·have a: ¬l.getD k default=t:=by omega
   simp(disch:=omega) only[go_sem,simprocAttr,i,g,c,b];have e1:v5 l t (k+1)=v5 l t k+1:=afB a;have j:qs l t (k+1)=max (qs l t k) (v5 l t k+1):=by rw[qs,e1]
   refine⟨d,akG (AV.int .i64) ?_,akG (AV.int .i64) ?_⟩
   ·rw[j];first|omega| (split<;>omega)
   ·rw[e1];omega
 grind
def aBC(x:cM)(i:xU x)(j:rS x=false)(a:AV)(b:Rv a 1 (x.order.map uC))(M:Nat)(H:List ae)(lo:oN):
  D XC (.fn (.func py) [] []) [.agg (bp x a),.ptr M 0] ⟨H,lo⟩=some (.ret (.au [.agg (bp x a),.int .u8 0,.bool false,.int .i64 2]) ⟨H,lo⟩):=by
 refine aF Fo λN k=>?_
 have f:ed EK.ptr (AV.ptr M 0) AV.dZ=some false:=rfl;have c:=cO b (bD (λ_=>rfl) _);have e: ∀y:cM,aG (bp y a)=0:=λy=>by simp[bp,aG,AV.refs,c]
 have h: ∀H lo,D XC (.fn (.func A3) [] []) [.agg (bp x a)] ⟨H,lo⟩=some (.ret (.bool false) ⟨H,lo⟩):=λH lo=>by rw[anA Hb x i a b,j]
 have g: ∀y:cM,(bp y a).length=6:=λ_=>rfl
 have d: ∀y:cM,List.take 6 (bp y a)=bp y a:=λ_=>rfl
 simp only[F1,go_sem,simprocAttr,Fo,k,f,h,e,g,d,ao0,amS]
def C3:lB:=[1,6,0,0,2,0,38,0,0,0,0,0]
def kQ:Nat->aX
 |0=>fz 2 [C3] 1
 |k+1=>(gx (kQ k) 0).1
def Hc:cM:=⟨0,[],0,0,0,0⟩
def C4:cM:=(fA Hc (kQ 3)).1
def C5:cM:=(fA C4 (kQ 3)).1
def aBD:cM:=(fA C5 (kQ 3)).1
theorem aBE: (gx (kQ 0) 0).2=0:=by rfl
theorem aBF: (gx (kQ 1) 0).2=0:=by rfl
theorem aBG: (gx (kQ 2) 0).2=0:=by rfl
theorem aBH: (fA Hc (kQ 3)).2=(0,true):=by rfl
theorem aBI: (fA C4 (kQ 3)).2=(2,true):=by rfl
theorem aBJ: (fA C5 (kQ 3)).2=(0,true):=by rfl
theorem NB:C2 Hc Hc:=⟨⟨by decide,λt h=>(by cases h),by decide,by decide,by decide,by decide⟩,by rfl,by decide,rfl⟩
theorem anI: ∀k,k<=3->rQ (kQ k)/\nR (kQ k)/\ (kQ k).now<=k
 |0,_=>⟨ank ⟨by decide,by decide⟩ _ _,anx _ _ _,ahd 0⟩
 |k+1,d=>by
  obtain⟨a,c,f⟩:=anI k (by omega);obtain⟨b,e⟩:=Xh a (by omega) 0;exact⟨b,Xm a.ok.az.S c 0,by show(gx _ 0).1.now<=_;omega⟩
theorem aBK:nC ⟨2,[C3],List.map UInt8.toNat []⟩=true:=by rfl
def aBL(H:List ae)(lo:oN): ∃E,D XC (.fn (.func A2) [] []) [] ⟨H,lo⟩=some (.ret (.bool true) E):=by
 suffices hs: ∃d,D XC (.fn (.func A2) [] []) [] ⟨H,lo⟩=some d/\ (λd=> ∃E,d= .ret (.bool true) E) d by
  obtain⟨d,h,E,rfl⟩:=hs;exact⟨E,h⟩
 refine cy RG λN C=>?_
 have s:GX 2 [C3] [] (.sl [[S C3]] true) .ai:=⟨.sl (λel h=>by rw[ahe.1 h];rfl),.ai,by decide,by decide⟩;obtain⟨d,p,aB,P,rfl,O,n3⟩:=anh (n:=2) s aBK N H C none;have c:=anl (n:=2) (aC:=[C3]) (pv:=.sl [[S C3]] true) (kv:=.ai) (H:=H) C O;have p:D XC (.fn (.func D3) [] []) [.agg [.int .i64 2,.sl [[S [1,6,0,0,2,0,38,0,0,0,0,0]]] true,.ai]] ⟨H,none⟩=_:=p;have v:ed EK.ptr (AV.ptr (N+1) 0) AV.dZ=some false:=rfl;simp only[go_sem,simprocAttr,RG,p,v];refine gS 3 (λk e W ak=> ∃qv ev aB aI,e 1= .ptr (N+1) 0/\e 3= .int .i64 k/\bu N (N+1) (N+3) (N+2) (kQ k) qv ev aB aI W) 0 (by omega) ?_ ?_
 ·exact⟨.ai,.ai,aB,λ_=>.ai,rfl,rfl,c⟩
 clear c;rintro k U e W ak ⟨qv,ev,aB,aI,e1,e3,c⟩ nn T;obtain⟨g,Q,k3⟩:=anI k U;simp only[bR,go_sem,simprocAttr,agb,e1,e3];refine⟨λV=>?_,λV=>?_⟩
 ·have j:k<3:=by omega
  obtain⟨d,m,o,B,l,f,X,q,rfl,M,Z,Y⟩:=Xi xX c g (by omega) 0 (by omega) ak;have R: (gx (kQ k) 0).2=0:=by
   match k,j with
   |0,_=>exact aBE
   |1,_=>exact aBF
   |2,_=>exact aBG
  rw[R]at m;have m:D XC (.fn (.func yD) [] []) [.ptr (N+1) 0,.int .u8 0] ⟨W,ak⟩=some (.ret (.int .i64 0) ⟨X,q⟩):=m;simp(disch:=omega) only[go_sem,simprocAttr,e1,e3,m];exact⟨j,o,B,l,f,M⟩
 ·obtain rfl:k=3:=by omega
  have a:Rv .ai 1 (([]:lN).map uC):=.ai;have hQ:=g.q;have b: ∀i,((kQ 3).aA i).c.aT.length<1073741824:=λi=>by have:=Q i;unfold jy at this;omega
  have u: ∀y:cM,aG (bp y .ai)=0:=λy=>by simp[bp,aG,AV.refs]
  have w: ∀y:cM,(bp y .ai).length=6:=λ_=>rfl
  have r: ∀y:cM,List.take 6 (bp y .ai)=bp y .ai:=λ_=>rfl
  have i1:=NB.next (kQ 3);have i2:=i1.next (kQ 3);have K: ∀L lo,D XC (.fn (.func py) [] []) [.agg [.int .u8 0,.ai,.int .u64 0,.int .i64 0,.int .u8 0,.int .i64 0],.ptr (N+1) 0] ⟨W++L,lo⟩=some (.ret (.au [.agg (bp C4 .ai),.int .u8 0,.bool true,.int .i64 0]) ⟨W++L,lo⟩):=λL lo=>by
   have h:=Ny xX Hb (c.app L) g.ok b (by omega) Hc NB.ok NB.may NB.dH .ai a lo;rw[aBH]at h;exact h
  have J: ∀L lo,D XC (.fn (.func py) [] []) [.agg (bp C4 .ai),.ptr (N+1) 0] ⟨W++L,lo⟩=some (.ret (.au [.agg (bp C5 .ai),.int .u8 2,.bool true,.int .i64 0]) ⟨W++L,lo⟩):=λL lo=>by
   have h:=Ny xX Hb (c.app L) g.ok b (by omega) C4 i1.ok i1.may i1.dH .ai (by rw[show C4.order=_ from i1.order];exact a) lo;rw[aBI]at h;exact h
  have I: ∀L lo,D XC (.fn (.func py) [] []) [.agg (bp C5 .ai),.ptr (N+1) 0] ⟨W++L,lo⟩=some (.ret (.au [.agg (bp aBD .ai),.int .u8 0,.bool true,.int .i64 0]) ⟨W++L,lo⟩):=λL lo=>by
   have h:=Ny xX Hb (c.app L) g.ok b (by omega) C5 i2.ok i2.may i2.dH .ai (by rw[show C5.order=_ from i2.order];exact a) lo;rw[aBJ]at h;exact h
  have G: ∀L lo,D XC (.fn (.func py) [] []) [.agg [.int .u8 3,.ai,.int .u64 0,.int .i64 0,.int .u8 0,.int .i64 0],.ptr (N+1) 0] ⟨W++L,lo⟩=some (.ret (.au [.agg [.int .u8 3,.ai,.int .u64 0,.int .i64 0,.int .u8 0,.int .i64 0],.int .u8 0,.bool false,.int .i64 2]) ⟨W++L,lo⟩):=λL lo=>aBC ⟨3,[],0,0,0,0⟩ ⟨by decide,λt h=>(by cases h),by decide,by decide,by decide,by decide⟩ rfl .ai a (N+1) (W++L) lo
  have A:qs [1,0,1,1,0] 0 [1,0,1,1,0].length=2:=by decide
  have F: ∀H lo,D XC (.fn (.func IJ) [] []) [.sl [[.int .u8 1],[.int .u8 0],[.int .u8 1],[.int .u8 1],[.int .u8 0]] true,.int .u8 0] ⟨H,lo⟩=some (.ret (.int .i64 2) ⟨H,lo⟩):=λH lo=>by
   have h:=aBB (.sl ([1,0,1,1,0].map uC) true) [1,0,1,1,0] (.sl λel h=>by obtain⟨x,_,rfl⟩:=ahk.1 h;rfl) (by decide) 0 H lo;rw[A]at h;exact c0 h
  have z: ∀y:cM,List.drop 6 (bp y .ai)=[]:=λ_=>rfl
  simp only[go_sem,simprocAttr,e1,T,K,J,I,G,F,u,w,r,ao0,amS,z];exact⟨_,by rw[anG (aha _)]⟩
def qt(last t:Nat):Nat:=if last<=t then t-last else t+8-last
def Xr{last:Nat}(a:t<8)(b:last<=8):qt last t<=7:=by unfold qt;split<;>omega
theorem aBM(m:aX): (de m).Pairwise (· < ·):=List.Pairwise.filter _ azK
theorem anJ(a:t<8)(h:iT m t=true):t∈de m:=aiJ.2 ⟨aq9.2 a,h⟩
def aBN{last:Nat}(v:l.Pairwise (· < ·))(r: ∀x∈l,x<8)(z:last<=8)(g:t∈l)(c:t≠xW last l):qt (xW last l+1) t+1<=qt last t:=by
 obtain⟨i,o,rfl⟩:=List.mem_iff_getElem.1 g;have e: ∀a b (q:a<l.length) (p:b<l.length),a<b->l[a]<l[b]:=λa b q p h=>List.pairwise_iff_getElem.1 v a b q p h
 have u:=r _ g;unfold xW fR at*;cases f:l.findIdx? λt=>decide (last<=t)with
 |none=>
  rw[f]at c;have j:=List.findIdx?_eq_none_iff.1 f _ g;have j: ¬last<=l[i]:=by simpa using j
  have n:l.getD (-1:Int).toNat default=l[0]:=by show l.getD 0 default=_;rw[ahm,ag6 (by omega)];rfl
  show qt (l.getD (-1:Int).toNat default+1) _+1<=_;have c:l[i]≠l.getD (-1:Int).toNat default:=c;rw[n]at c⊢
  have:0<i:=by rcases Nat.eq_zero_or_pos i with h|h
               ·subst h;exact absurd rfl c
               ·exact h
  have:=e 0 i (by omega) o this;unfold qt;rw[afJ (by omega),afB j];omega
 |some k=>
  rw[f]at c;obtain⟨m,s,y⟩:=arb.1 f;have s:last<=l[k]:=by simpa using s
  have n:l.getD ((k:Nat):Int).toNat default=l[k]:=by rw[azD,ahm,ag6 m];rfl
  show qt (l.getD ((k:Nat):Int).toNat default+1) _+1<=_;have c:l[i]≠l.getD ((k:Nat):Int).toNat default:=c;rw[n]at c⊢;have w:=r _ (atQ m);unfold qt;by_cases d:last<=l[i]
  ·have:k<i:=by
     rcases azC i k with h|h|h
     ·have:=y i h;simp at this;omega
     ·subst h;exact absurd rfl c
     ·exact h
   have:=e k i m o this;rw[afJ (by omega),afJ d];omega
  ·rw[afB (by omega),afB d];omega
def trnS9(m:aX)(b:Nat)(s:Nat->Nat)(t:Nat):Nat:=if iT m t=false\/b=t then 0 else if b=8 then s t else s t+1
def trnR9(m:aX)(b:Nat)(r:Nat->Nat)(t:Nat):Nat:=if iT m t=false\/b=t then 0 else if b=8 then r t+1 else r t
structure Ad(E:Nat)(y:cM)(s r:Nat->Nat):Prop where
 kind:y.kind=0
 every:y.every=E
 last:y.last<=8
 dH:0<=y.dH/\y.dH<=100
 hs: ∀t,t<8->s t+qt y.last t<=7
 hr: ∀t,t<8->r t=0\/ (0<E/\ (((r t-1)*E:Nat):Int)+y.dH<=s t)
def Ad.NC{E:Nat}{y:cM}{s r:Nat->Nat}(h:Ad E y s r)(b:t<8):s t<=7/\r t<=2+(if 0<E then 7/E else 0):=by
 have e:=h.hs t b;refine⟨by omega,?_⟩;rcases h.hr t b with a| ⟨a,d⟩
 ·omega
 ·rw[afJ a];have c: (r t-1)*E<=7:=by have:=h.dH;omega
  have:=(Nat.le_div_iff_mul_le a).2 c;omega
def Ad.next{E:Nat}(w:E<=100){y:cM}{s r:Nat->Nat}(h:Ad E y s r)(g: (fA y m).2.2=true):Ad E (fA y m).1 (trnS9 m (fA y m).2.1 s) (trnR9 m (fA y m).2.1 r):=by
 have n:=h.dH;have p:=h.every;unfold fA at g⊢;by_cases k:m.az.Q≠[]/\ ((0<y.every/\y.every<=y.dH)\/de m=[])
 ·rw[afJ k];dsimp only;refine⟨h.kind,h.every,h.last,by show(0:Int)<=0/\ (0:Int)<=100;omega,λt a=>?_,λt a=>?_⟩
  ·have:=h.hs t a;unfold trnS9;split
   ·have:=Xr a h.last;show 0+qt y.last t<=7;omega
   ·rw[afJ rfl];exact this
  ·unfold trnR9 trnS9;split
   ·exact .inl rfl
   ·rename_i hr;simp only[not_or,aDt]at hr;have j:de m≠[]:=λv=>by have:=anJ a hr.1;rw[v]at this;cases this
    obtain⟨i,u⟩:0<y.every/\y.every<=y.dH:=by
     rcases k.2 with h|h
     ·exact h
     ·exact absurd h j
    rw[afJ rfl,afJ rfl];refine .inr ⟨by omega,?_⟩;rcases h.hr t a with e| ⟨_,e⟩
    ·rw[e];simp
    ·obtain⟨c,f⟩: ∃c,r t=c+1\/r t=0/\c=0:=⟨r t-1,by omega⟩;rcases f with f| ⟨f,_⟩
     ·rw[f]at e⊢;simp only[Nat.add_sub_cancel]at e⊢;rw[arq];omega
     ·rw[f];simp
 ·rw[afB k]at g⊢;by_cases i:de m=[]
  ·rw[afJ i]at g;cases g
  ·rw[afB i];have o:fG y (de m)=(y,xW y.last (de m)):=by unfold fG;rw[afJ h.kind]
   have l:=Nx (x:=y) i λt a=>(C0 a).1
   rw[o]at l⊢;dsimp only at l⊢;have d:=λt (a:t∈de m)=>aBN (aBM m) (λt a=>(C0 a).1) h.last a
   generalize xW y.last (de m)=b at*;refine⟨h.kind,h.every,by show b+1<=8;omega,by show(0:Int)<=min (y.dH+1) 100/\min (y.dH+1) 100<=100;omega,λt a=>?_,λt a=>?_⟩
   ·have u:=h.hs t a;show trnS9 m b s t+qt (b+1) t<=7;unfold trnS9;split
    ·have:=Xr (last:=b+1) a (by omega);omega
    ·rename_i hr;simp only[not_or,aDt]at hr;have:=d t (anJ a hr.1) (Ne.symm hr.2);rw[afB (by omega)];omega
   ·show trnR9 m b r t=0\/ (0<E/\ (((trnR9 m b r t-1)*E:Nat):Int)+min (y.dH+1) 100<=trnS9 m b s t);unfold trnR9 trnS9;split
    ·exact .inl rfl
    ·rw[afB (by omega),afB (by omega)];rcases h.hr t a with e| ⟨q,e⟩
     ·exact .inl e
     ·exact .inr ⟨q,by omega⟩
def cntC9(f:Nat->Nat):lA:=arr 8 λi=>[.int .i64 (f i)]
def lJ(f g:Nat->Nat)(j:Nat):Nat->Nat:=λt=>if t<j then g t else f t
def anK(f g:Nat->Nat):lJ f g 0=f:=by funext t;exact afB (by omega)
theorem anL(f g:Nat->Nat)(j:Nat):lJ f g j j=f j:=afB (by omega)
theorem anM(f g:Nat->Nat)(j:Nat):lJ f g (j+1) j=g j:=afJ (by omega)
def anN{g:Nat->Nat}(h:f j=g j):lJ f g (j+1)=lJ f g j:=by
 funext t
 unfold lJ;by_cases b:t=j
 ·subst b;rw[afJ (by omega),afB (by omega),h]
 ·by_cases a:t<j
  ·rw[afJ a,afJ (by omega)]
  ·rw[afB a,afB (by omega)]
def C6(f g:Nat->Nat)(j v:Nat)(h:v=g j):aq (lJ f g j) j v=lJ f g (j+1):=by
 funext t
 unfold aq lJ;by_cases b:t=j
 ·subst b;rw[afJ rfl,afJ (by omega),h]
 ·rw[afB b];by_cases a:t<j
  ·rw[afJ a,afJ (by omega)]
  ·rw[afB a,afB (by omega)]
def aBO(h:j<8): (cntC9 f)[j]?=some (.int .i64 (f j)):=by
 have a:Den.part false 1 (cntC9 f) (j*1+0)=_:=ki (k:=1) (f:=λi=>[AV.int .i64 (f i)]) (λ_=>rfl) h (ahd 1) Nat.one_pos;rw[show j*1+0=j by omega]at a;exact a
def anO{v:Nat}(h:j<8):aH (cntC9 f) j [.int .i64 v]=cntC9 (aq f j v):=by
 have a:aH (cntC9 f) (j*1+0) [.int .i64 v]=_:=nf (k:=1) (f:=λi=>[AV.int .i64 (f i)]) (λ_=>rfl) h (ahd 1);rw[show j*1+0=j by omega]at a;rw[a];unfold cntC9;congr 1
 funext t;unfold aq;split<;>rfl
theorem aBP{v:Nat}(h:j<8):aH (cntC9 f) j [.int .i64 ((v:Int)+1)]=cntC9 (aq f j (v+1)):=anO h
theorem aBQ(h:j<8):aH (cntC9 f) j [.int .i64 0]=cntC9 (aq f j 0):=anO h
theorem aBR(f:Nat->Nat): (cntC9 f).length=8:=zq (k:=1) (λ_=>rfl) 8
section
variable{aM:Int}{aC:List lB}{aW:lB}{pv:AV}(h:Nz aM aC aW pv)
include h
theorem aBS(hw: ∀H lo,∃E,D XC (.fn (.func A2) [] []) [] ⟨H,lo⟩=some (.ret (.bool true) E))(k8:Nat)(he8:k8<256)(G:Nat)(Wi:G<65536)(H:List ae)(lo:oN):
  ∃cr,D XC (.fn (.func P3) [] []) [.agg (dY aM pv aW),.int .u8 k8,.int .u16 G] ⟨H,lo⟩=some cr/\ ∃E,cr= .ret (.bool true) E:=by
 refine cy Fl λN hN=>?_
 obtain⟨E,hE,hE1⟩: ∃E,E=k8 % 101/\E<=100:=⟨_,rfl,by omega⟩;obtain⟨x,pc⟩: ∃x:cM,x=⟨0,[],0,E,0,0⟩:=⟨_,rfl⟩;have hx:xU x:=by subst pc;exact⟨by show 0<256;decide,λt h=>(by cases h),by show 0<18446744073709551616;decide,by show-9223372036854775808<=(E:Int)/\ (E:Int)<9223372036854775808;omega,by show 0<256;decide,by show-9223372036854775808<=(0:Int)/\ (0:Int)<9223372036854775808;decide⟩
 have aBU:rS x=true:=by subst pc;unfold rS;simp;omega
 have Ac:Rv .ai 1 (x.order.map uC):=by subst pc;exact .ai
 have hr:=aBn h;have zV:=aBz h x hx .ai Ac;have hl: (dY aM pv aW).length=3:=rfl;have ht:List.take 3 (dY aM pv aW)=dY aM pv aW:=rfl;have C7: ∀y:cM,(bp y .ai).length=6:=λ_=>rfl
 have jq: ∀y:cM,List.take 6 (bp y .ai)=bp y .ai:=λ_=>rfl
 have Hd:=λH lo=>c0 (aBA h x hx .ai Ac H lo)
 have ND: ∀E:AS,∃E',aS.ret (finish N lo (.bool true) E).1 (finish N lo (.bool true) E).2= .ret (.bool true) E':=λE=>⟨_,by rw[anG (aha _)]⟩
 have Xs: [AV.int .u8 0,.ai,.int .u64 0,.int .i64 (E:Int),.int .u8 0,.int .i64 0]=bp x .ai:=by subst pc;rfl
 have Xt:IntKind.i64.wrap ((k8:Int).tmod 101)=(E:Int):=by rw[are (by omega),wrap_i64 (by omega) (by omega)];omega
 have Xu: ((k8:Int).tmod 101)=(E:Int):=by rw[are (by omega)];omega
 obtain⟨Xv,GC⟩:=hw (H++[.box (dY aM pv aW) none,.box (bp x .ai) none]) none;obtain⟨g,hg⟩: ∃g,g=NA aC aW x:=⟨_,rfl⟩;rw[<-hg]at Hd;cases g with
 |true=>
  simp(disch:=omega) only[go_sem,simprocAttr,Fl,hN,hr,zV,hl,ht,C7,jq,Xt,Xu,Xs,Hd,GC];exact ND Xv
 |false=>
  have anP:vZ aC aW=false/\aW.length<=1500:=by
   unfold NA Ha at hg;have hg:=hg.symm;simp only[Bool.or_eq_false_iff,decide_eq_false_iff_not]at hg;exact⟨hg.1.1,by omega⟩
  have yd:=λH lo=>c0 (aBr h anP.1 H lo)
  obtain⟨sm,B⟩: ∃g,g=nC ⟨aM,aC,aW.map UInt8.toNat⟩:=⟨_,rfl⟩;rw[<-B]at yd;cases sm with
  |false=>
   simp(disch:=omega) only[go_sem,simprocAttr,Fl,hN,hr,zV,hl,ht,C7,jq,Xt,Xu,Xs,Hd,yd,GC];exact ND Xv
  |true=>
   clear GC Xv;obtain⟨kv,o1,o2⟩:=aBq h anP.1 (H++[.box (dY aM pv aW) none,.box (bp x .ai) none]) none;have o1:=c0 o1;have WR: ∃n:Nat,aM=n:=⟨aM.toNat,by unfold nC at B;have B:=B.symm;simp at B;omega⟩;obtain⟨n,rfl⟩:=WR;obtain⟨cr,r1,M,p,q,qv,ev,aB,aI,ov2,H1,V8,rfl,r2,r3,r4,r5⟩:=aAX xX o2 B.symm (N+2) (H++[.box (dY n pv aW) none,.box (bp x .ai) none]) (by simp[hN]) none;have Xp:ed EK.ptr (AV.ptr M 0) AV.dZ=some false:=rfl;have J:H1[N+1]?=some (.box (bp x .ai) none):=by rw[r5 (N+1) (by omega),bA hN];rfl
   simp(disch:=omega) only[F1,go_sem,simprocAttr,Fl,hN,hr,zV,hl,ht,C7,jq,Xt,Xu,Xs,Hd,yd,o1,r1,Xp,J];have C8:1<=n/\n<=64/\aW.length<=4000:=by unfold nC at B;have B:=B.symm;simp at B;omega
   obtain⟨k1,k2⟩:=Nv ⟨C8.1,C8.2.1⟩ aC C8.2.2 aW.length (ahd _);have k3:=anz ⟨C8.1,C8.2.1⟩ aC C8.2.2 aW.length (ahd _);rw[anm]at k1 k2 k3;obtain⟨a,NF⟩: ∃a,H1.length=a:=⟨_,rfl⟩;have hab:N+2<=M/\M<a/\p<a/\q<a:=by
    have:=r2.nM;have:=r2.lt;have:=r2.co.lt;have:=eY r2.co.hZ;omega
   have hpi:C2 x x:=⟨hx,aBU,by subst pc;show(0:Int)<=0/\ (0:Int)<=100;omega,rfl⟩;have htu:Ad E x (λ_=>0) λ_=>0:=by
    subst pc;exact⟨rfl,rfl,by show 0<=8;omega,by show(0:Int)<=0/\ (0:Int)<=100;omega,λt ht=>by have:=Xr (last:=0) ht (by omega);show 0+qt 0 t<=7;omega,λt ht=>.inl rfl⟩
   have tm: (G:Int).tmod 400=((G % 400:Nat):Int):=by rw[are (by omega)];omega
   have NG:0<E->(7:Int).tdiv (E:Int)=((7/E:Nat):Int):=λ_=>by rw[Int.tdiv_eq_ediv_of_nonneg (by omega)];rfl
   have g3: ∀y:cM,y.every=E->(bp y .ai)[3]?=some (.int .i64 (E:Int)):=λy h=>by rw[<-h];rfl
   refine gS (G % 400) (λk e W ak=> ∃m qv ev aB aI y s r,e 2= .int .u16 G/\e 7= .ptr (N+1) 0/\e 8= .ptr M 0/\e 11= .ptr a 0/\e 12= .ptr (a+1) 0/\e 13= .int .i64 k/\bu (N+2) M p q m qv ev aB aI W/\rQ m/\nR m/\m.now<=1500+k/\C2 x y/\Ad E y s r/\W[N+1]?=some (.box (bp y .ai) none)/\W[a]?=some (.box (cntC9 s) none)/\W[a+1]?=some (.box (cntC9 r) none)) 0 (by omega) ?_ ?_
   ·refine⟨_,qv,ev,aB,aI,x,λ_=>0,λ_=>0,rfl,rfl,rfl,akG (λi=>AV.ptr i 0) NF,akG (λi=>AV.ptr (i+1) 0) NF,rfl,r2.app _,k1,k3,by omega,hpi,htu,bc J,?_,?_⟩
    ·rw[di NF];rfl
    ·rw[bA NF];rfl
   clear r1 r2 r3 r4 r5 J k1 k2 k3 hpi htu qv ev aB aI o1 o2 Hd yd;rintro k hk e W ak ⟨m,qv,ev,aB,aI,y,s,r,e2,e7,e8,NH,NI,NJ,hA,hI,hR,aEs,hP,hT,J,u,l⟩ nn hn;simp(disch:=omega) only[bR,F1,go_sem,simprocAttr,af7,e2,e7,e8,NH,NI,NJ,tm];refine⟨λhh=>?_,λhh=>?_⟩
   ·have hk':k<G % 400:=by omega
    have hQ:=hI.q;have hRr: ∀i,(m.aA i).c.aT.length<1073741824:=λi=>by have:=hR i;unfold jy at this;omega
    have GW:=Ny xX Hb hA hI.ok hRr (by omega) y hP.ok hP.may hP.dH .ai (by rw[hP.order];exact Ac) ak;have hz1:=hP.next m;have hz2:=λh=>hT.next (m:=m) hE1 h
    have Xw:=λh=>aBy (x:=y) (m:=m) h
    generalize fA y m=z at*;obtain⟨y2,b,is⟩:=z;dsimp only at GW hz1 hz2 Xw;cases is with
    |false=>
     obtain⟨AW,HB⟩:=hw (W++[.box (bp y2 .ai) none]) ak;simp(disch:=omega) only[go_sem,simprocAttr,e2,e7,e8,NH,NI,NJ,J,jq,C7,zV,GW,hn,HB,ao0,amS];exact ND AW
    |true=>
     simp(disch:=omega) only[F1,go_sem,simprocAttr,e2,e7,e8,NH,NI,NJ,J,jq,C7,zV,GW,hn,ao0,amS];have hT2:=hz2 rfl;have Dy:=eY l;refine gS 8 (λj e L jB=>e 2= .int .u16 G/\e 7= .ptr (N+1) 0/\e 8= .ptr M 0/\e 11= .ptr a 0/\e 12= .ptr (a+1) 0/\e 13= .int .i64 k/\e 14= .ptr nn 0/\e 15= .int .u8 b/\e 18= .int .i64 j/\bu (N+2) M p q m qv ev aB aI L/\L[N+1]?=some (.box (bp y .ai) none)/\L[nn]?=some (.box (bp y2 .ai) none)/\L[a]?=some (.box (cntC9 (lJ s (trnS9 m b s) j)) none)/\L[a+1]?=some (.box (cntC9 (lJ r (trnR9 m b r) j)) none)) 0 (by omega) ?_ ?_
     ·simp(disch:=omega) only[F1,go_sem,simprocAttr,e2,e7,e8,NH,NI,NJ,hn];refine⟨hA.app _,bc J,?_,?_⟩
      ·rw[anK];exact bc u
      ·rw[anK];exact bc l
     clear GW hA J u l;rintro j hj e3 L jB ⟨f2,f7,f8,f11,f12,f13,f14,f15,f18,NK,J,R,u,l⟩ n2 hn2;simp(disch:=omega) only[bR,F1,go_sem,simprocAttr,af6,f2,f7,f8,f11,f12,f13,f14,f15,f18];refine⟨λhh2=>?_,λhh2=>?_⟩
     ·have C:j<8:=by omega
      have w:=λlo=>anv xX NK hI.ok hRr j lo
      obtain⟨m1,m2⟩:=hT2.NC C;have O: ∀o,(L.set a o)[a+1]?=some (.box (cntC9 (lJ r (trnR9 m b r) j)) none):=λo=>by rw[aeR (by omega)];exact l
      have U: ∀o,(L.set (a+1) o)[a]?=some (.box (cntC9 (lJ s (trnS9 m b s) j)) none):=λo=>by rw[aeR (by omega)];exact u
      have Q: ∀o,(L.set a o)[a]?=some o:=λo=>cG u
      have q4: ∀o,(L.set (a+1) o)[a+1]?=some o:=λo=>cG l
      have q5: ∀o o',((L.set a o).set (a+1) o')[a]?=some o:=λo o'=>by rw[aeR (by omega)];exact Q o
      have Z: ∀o o',((L.set a o).set (a+1) o')[a+1]?=some o':=λo o'=>cG (O o)
      have T: ∀i o,i≠a->i≠a+1->(L.set a o)[i]?=L[i]?:=λi o h1 h2=>aeR (Ne.symm h1)
      have Y: ∀i o,i≠a->i≠a+1->(L.set (a+1) o)[i]?=L[i]?:=λi o h1 h2=>aeR (Ne.symm h2)
      have X: ∀i o o',i≠a->i≠a+1->((L.set a o).set (a+1) o')[i]?=L[i]?:=λi o o' h1 h2=>(aeR (Ne.symm h2)).trans (T i o h1 h2)
      have p1: ∀o,bu (N+2) M p q m qv ev aB aI (L.set a o):=λo=>NK.other u (by omega) (by omega) (by omega) o
      have p2: ∀o,bu (N+2) M p q m qv ev aB aI (L.set (a+1) o):=λo=>NK.other l (by omega) (by omega) (by omega) o
      have p3: ∀o o',bu (N+2) M p q m qv ev aB aI ((L.set a o).set (a+1) o'):=λo o'=>(p1 o).other (O o) (by omega) (by omega) (by omega) o'
      have t0: ∀f:Nat->Nat,aH (cntC9 f) j [.int .i64 0]=cntC9 (aq f j 0):=λf=>aBQ C
      have t1: ∀ (f:Nat->Nat) (v:Nat),aH (cntC9 f) j [.int .i64 ((v:Int)+1)]=cntC9 (aq f j (v+1)):=λf v=>aBP C
      have t2: ∀f:Nat->Nat,(cntC9 f)[j]?=some (.int .i64 (f j)):=λf=>aBO C
      have t3:=anL s (trnS9 m b s) j;have t4:=anL r (trnR9 m b r) j;have q0:N+1≠a/\N+1≠a+1/\nn≠a/\nn≠a+1:=by omega
      have A:=g3 y hT.every;have t5:=anM s (trnS9 m b s) j;have t6:=anM r (trnR9 m b r) j;obtain⟨ex,hex⟩: ∃ex:Nat,ex=2+(if 0<E then 7/E else 0):=⟨_,rfl⟩;rw[<-hex]at m2;have aEt:ex<=9:=by
       have h7:7/E<=7:=aBi 7 E;rw[hex];split<;>omega
      have c1: ∀v:Bool,iT m j=v->(v=false\/b=j)->trnS9 m b s j=0/\trnR9 m b r j=0:=λv h1 h2=>by
       have:iT m j=false\/b=j:=by rw[h1];exact h2
       exact⟨afJ this,afJ this⟩
      have c2:iT m j=true->b≠j->b=8->trnS9 m b s j=s j/\trnR9 m b r j=r j+1:=λh1 h2 h3=>by
       have h4: ¬(iT m j=false\/b=j):=by rw[h1];simp[h2]
       exact⟨(afB h4).trans (afJ h3),(afB h4).trans (afJ h3)⟩
      have c3:iT m j=true->b≠j->b≠8->trnS9 m b s j=s j+1/\trnR9 m b r j=r j:=λh1 h2 h3=>by
       have h4: ¬(iT m j=false\/b=j):=by rw[h1];simp[h2]
       exact⟨(afB h4).trans (afB h3),(afB h4).trans (afB h3)⟩
      have t7:=aBR;have hub:=(Xw rfl).1;have m3:decide ((trnS9 m b s j:Int)>7)=false:=ag7 (by omega);have m4:0<E-> ∀d:Nat,d=7/E->decide ((trnR9 m b r j:Int)>2+(d:Int))=false:=λh1 d h2=>ag7 (by rw[afJ h1]at hex;omega)
      have m5: ¬0<E->decide ((trnR9 m b r j:Int)>2)=false:=λh1=>ag7 (by rw[afB h1]at hex;omega)
      have hd7:7/E<=7:=aBi 7 E;have c: (E:Int)>0\/ ¬(E:Int)>0:=Classical.em _;have yl:r j<=10/\s j<=10:=by
       have:=hT.NC C;have:7/E<=7:=hd7;constructor
       ·have h3:=(hT.NC C).2;split at h3<;>omega
       ·have h3:=(hT.NC C).1;omega
      have hwc: ∀k:Nat,(((k+1:Nat):Int))=(k:Int)+1:=λk=>rfl
      cases hv:iT m j
      ·obtain⟨v1,v2⟩:=c1 _ hv (.inl rfl);have P:=C6 s (trnS9 m b s) j 0 v1.symm;have S:=C6 r (trnR9 m b r) j 0 v2.symm;rw[hv]at w;rcases c with c|c
       ·have hx:=NG (by omega);have V:=m4 (by omega) _ rfl;generalize 7/E=d at*;simp(disch:=omega) only[F1,go_sem,simprocAttr,f2,f7,f8,f11,f12,f13,f14,f15,f18,w,J,u,l,q0,O,U,Q,q4,q5,Z,T,Y,X,t0,t1,t2,t3,t4,t5,t6,A,P,S,t7,c,hx]
        repeat (refine⟨by omega,?_⟩)
        simp(disch:=omega) only[F1,go_sem,simprocAttr,f2,f7,f8,f11,f12,f13,f14,f15,f18,w,J,u,l,q0,O,U,Q,q4,q5,Z,T,Y,X,t0,t1,t2,t3,t4,t5,t6,A,P,S,t7,m3,V,c,hx];exact⟨by omega,C,p3 _ _,R⟩
       ·have V:=m5 (by omega);simp(disch:=omega) only[F1,go_sem,simprocAttr,f2,f7,f8,f11,f12,f13,f14,f15,f18,w,J,u,l,q0,O,U,Q,q4,q5,Z,T,Y,X,t0,t1,t2,t3,t4,t5,t6,A,P,S,t7,c]
        repeat (refine⟨by omega,?_⟩)
        simp(disch:=omega) only[F1,go_sem,simprocAttr,f2,f7,f8,f11,f12,f13,f14,f15,f18,w,J,u,l,q0,O,U,Q,q4,q5,Z,T,Y,X,t0,t1,t2,t3,t4,t5,t6,A,P,S,t7,m3,V,c];exact⟨by omega,C,p3 _ _,R⟩
      ·rw[hv]at w;by_cases K:b=j
       ·obtain⟨v1,v2⟩:=c1 _ hv (.inr K);have P:=C6 s (trnS9 m b s) j 0 v1.symm;have S:=C6 r (trnR9 m b r) j 0 v2.symm;subst K;rcases c with c|c
        ·have hx:=NG (by omega);have V:=m4 (by omega) _ rfl;generalize 7/E=d at*;simp(disch:=omega) only[F1,go_sem,simprocAttr,f2,f7,f8,f11,f12,f13,f14,f15,f18,w,J,u,l,q0,O,U,Q,q4,q5,Z,T,Y,X,t0,t1,t2,t3,t4,t5,t6,A,P,S,t7,c,hx]
         repeat (refine⟨by omega,?_⟩)
         simp(disch:=omega) only[F1,go_sem,simprocAttr,f2,f7,f8,f11,f12,f13,f14,f15,f18,w,J,u,l,q0,O,U,Q,q4,q5,Z,T,Y,X,t0,t1,t2,t3,t4,t5,t6,A,P,S,t7,m3,V,c,hx];exact⟨by omega,C,p3 _ _,R⟩
        ·have V:=m5 (by omega);simp(disch:=omega) only[F1,go_sem,simprocAttr,f2,f7,f8,f11,f12,f13,f14,f15,f18,w,J,u,l,q0,O,U,Q,q4,q5,Z,T,Y,X,t0,t1,t2,t3,t4,t5,t6,A,P,S,t7,c]
         repeat (refine⟨by omega,?_⟩)
         simp(disch:=omega) only[F1,go_sem,simprocAttr,f2,f7,f8,f11,f12,f13,f14,f15,f18,w,J,u,l,q0,O,U,Q,q4,q5,Z,T,Y,X,t0,t1,t2,t3,t4,t5,t6,A,P,S,t7,m3,V,c];exact⟨by omega,C,p3 _ _,R⟩
       ·have I: ¬(b:Int)=j:=by omega
        by_cases hb8:b=8
        ·obtain⟨v1,v2⟩:=c2 hv K hb8;have P:=anN v1.symm;rw[v1]at m3;have S:=C6 r (trnR9 m b r) j (r j+1) v2.symm;have F: (b:Int)=8:=by omega
         have NL: ¬(8:Int)=j:=by omega
         rcases c with c|c
         ·have hx:=NG (by omega);have V:=m4 (by omega) _ rfl;generalize 7/E=d at*;simp(disch:=omega) only[F1,go_sem,simprocAttr,f2,f7,f8,f11,f12,f13,f14,f15,f18,w,J,u,l,q0,O,U,Q,q4,q5,Z,T,Y,X,t0,t1,t2,t3,t4,t5,t6,A,S,K,I,F,NL,t7,c,hx]
          repeat (refine⟨by omega,?_⟩)
          simp(disch:=omega) only[F1,go_sem,simprocAttr,f2,f7,f8,f11,f12,f13,f14,f15,f18,w,J,u,l,q0,O,U,Q,q4,q5,Z,T,Y,X,t0,t1,t2,t3,t4,t5,t6,A,S,K,I,F,NL,t7,m3,V,c,hx];exact⟨by omega,C,p2 _,R,by rw[P]⟩
         ·have V:=m5 (by omega);simp(disch:=omega) only[F1,go_sem,simprocAttr,f2,f7,f8,f11,f12,f13,f14,f15,f18,w,J,u,l,q0,O,U,Q,q4,q5,Z,T,Y,X,t0,t1,t2,t3,t4,t5,t6,A,S,K,I,F,NL,t7,c]
          repeat (refine⟨by omega,?_⟩)
          simp(disch:=omega) only[F1,go_sem,simprocAttr,f2,f7,f8,f11,f12,f13,f14,f15,f18,w,J,u,l,q0,O,U,Q,q4,q5,Z,T,Y,X,t0,t1,t2,t3,t4,t5,t6,A,S,K,I,F,NL,t7,m3,V,c];exact⟨by omega,C,p2 _,R,by rw[P]⟩
        ·obtain⟨v1,v2⟩:=c3 hv K hb8;have P:=C6 s (trnS9 m b s) j (s j+1) v1.symm;have S:=anN v2.symm;have F: ¬(b:Int)=8:=by omega
         rcases c with c|c
         ·have hx:=NG (by omega);have V:=m4 (by omega) _ rfl;rw[v2]at V;generalize 7/E=d at*;simp(disch:=omega) only[F1,go_sem,simprocAttr,f2,f7,f8,f11,f12,f13,f14,f15,f18,w,J,u,l,q0,O,U,Q,q4,q5,Z,T,Y,X,t0,t1,t2,t3,t4,t5,t6,A,P,K,I,F,t7,c,hx]
          repeat (refine⟨by omega,?_⟩)
          simp(disch:=omega) only[F1,go_sem,simprocAttr,f2,f7,f8,f11,f12,f13,f14,f15,f18,w,J,u,l,q0,O,U,Q,q4,q5,Z,T,Y,X,t0,t1,t2,t3,t4,t5,t6,A,P,K,I,F,t7,m3,V,c,hx];exact⟨by omega,C,p1 _,R,by rw[S]⟩
         ·have V:=m5 (by omega);rw[v2]at V;simp(disch:=omega) only[F1,go_sem,simprocAttr,f2,f7,f8,f11,f12,f13,f14,f15,f18,w,J,u,l,q0,O,U,Q,q4,q5,Z,T,Y,X,t0,t1,t2,t3,t4,t5,t6,A,P,K,I,F,t7,c]
          repeat (refine⟨by omega,?_⟩)
          simp(disch:=omega) only[F1,go_sem,simprocAttr,f2,f7,f8,f11,f12,f13,f14,f15,f18,w,J,u,l,q0,O,U,Q,q4,q5,Z,T,Y,X,t0,t1,t2,t3,t4,t5,t6,A,P,K,I,F,t7,m3,V,c];exact⟨by omega,C,p1 _,R,by rw[S]⟩
     ·obtain rfl:j=8:=by omega
      have w1:cntC9 (lJ s (trnS9 m b s) 8)=cntC9 (trnS9 m b s):=zr λi hi=>by unfold lJ;rw[afJ hi]
      have w2:cntC9 (lJ r (trnR9 m b r) 8)=cntC9 (trnR9 m b r):=zr λi hi=>by unfold lJ;rw[afJ hi]
      rw[w1]at u;rw[w2]at l;obtain⟨P,S,u3⟩:=Xw rfl;obtain⟨cr,p1,Xb,ev2,aBY,aBZ,W3,Cq,rfl,p2,p3,p4⟩:=Xi xX NK hI (by omega) b P jB;rw[u3]at p1;have p1:D XC (.fn (.func yD) [] []) [.ptr M 0,.int .u8 b] ⟨L,jB⟩=some (.ret (.int .i64 0) ⟨W3,Cq⟩):=p1;obtain⟨O,U⟩:=Xh hI (by omega) b;have Q:=Xm hI.ok.az.S hR b;have v0:W3[N+1]?=some (.box (bp y .ai) none):=by rw[p3.low (N+1) (by omega)];exact J
      have v1:W3[nn]?=some (.box (bp y2 .ai) none):=p3.own (by simp;omega) R;have v2:W3[a]?=some (.box (cntC9 (trnS9 m b s)) none):=p3.own (by simp;omega) u;have v3:W3[a+1]?=some (.box (cntC9 (trnR9 m b r)) none):=p3.own (by simp;omega) l;have oZ:aH (bp y .ai) 0 (bp y2 .ai)=bp y2 .ai:=rfl;simp(disch:=omega) only[F1,go_sem,simprocAttr,f2,f7,f8,f11,f12,f13,f14,f15,p1,v0,v1,jq,C7,zV,oZ];exact⟨hk',_,Xb,ev2,aBY,aBZ,y2,_,_,p2.low v0 (by omega) _,O,Q,by omega,hz1,hT2,cG v0,v2,v3⟩
   ·obtain⟨AW,HB⟩:=hw W ak;simp(disch:=omega) only[go_sem,simprocAttr,HB];exact ND AW
theorem aB0(b:Nat)(d:b<256)(a:Nat)(c:a<65536):
  ∃E,D XC (.fn (.func P3) [] []) [.agg (dY aM pv aW),.int .u8 b,.int .u16 a] ⟨[],none⟩=some (.ret (.bool true) E):=by
 obtain⟨f,e,E,rfl⟩:=aBS h aBL b d a c [] none;exact⟨E,e⟩
end
set_option maxHeartbeats 1000000 in
set_option maxRecDepth 100000 in
def aB1(n:Nat)(f:0<n)(d:n<=1024)(w:World):
  Calls Tryz.prog qQ #[.slice none 0 0,.int .i64 n] w λe w'=> ∃cs:Array Value,e= .returned (.slice (some ⟨w.heap.size,0,none⟩) 0 (grownCap w n 0 fg))/\w'=w.drew.alloc (.cells cs fg)/\cs.size=grownCap w n 0 fg*2:=by
 unfold qQ
 go_enter Tryz.func192,Tryz.ntmps192
 have c:Tryz.t100.bytes=16:=by kernel_rfl
 have b:Builtin.nextslicecap n 0=n:=by unfold Builtin.nextslicecap;simp;omega
 go_wp2
 all_goals first
  | (exfalso;simp only[c,b]at*;omega)
  | (go_ret;refine⟨rfl,_,rfl,?_⟩;have a:=aCS w n 0 fg;unfold grownCap fg at a⊢;simp only[aDu,aDq,aDk,aho,apt];generalize(Question.appendCap n 0 _).cut _=q at*;omega)
set_option maxHeartbeats 1000000 in
set_option maxRecDepth 100000 in
def aB2(w:World):
  Calls Tryz.prog qQ #[.slice none 0 0,.int .i64 0] w λe w'=>e= .returned (.slice none 0 0)/\w'=w:=by
 unfold qQ
 go_enter Tryz.func192,Tryz.ntmps192
 go_wp2
 all_goals(go_ret;exact⟨rfl,rfl⟩)
def aB3{f:Nat}{fn:Func}(d:Tryz.prog.funcs[f]?=some fn)(g:fn.body.isSome=true)(a: (fn.name== "runtime.NumGoroutine")=false)(args:Array Value)(w:World):
  (callFunc f args).run Tryz.prog w= .ok (.enter f args) w:=by
 have b: ¬fn.name= "runtime.NumGoroutine" :=by grind
 obtain⟨c,e⟩:=aum.1 g;simp[callFunc,ar0,d,b,e]
def aB4(B:Nat)(b:World):gb Tryz.prog B b qQ CN:=by
 intro args E s h G w a hw i;rw[aB3 (f:=qQ) (fn:=Tryz.f192) Tryz.func192 (by rfl) (by rfl)];show CallsIn (W none) 0 Tryz.prog _ a w _;rw[apl];refine callsIn_wide.2 ?_;unfold CN at h;split at h
 ·rename_i n;simp only[aD]at i;obtain⟨v0,q,r,rfl,v1,p,rfl,rfl,rfl⟩:=i;obtain rfl:a= #[.slice none 0 0,.int .i64 n]:=by grind
  split at h
  ·rename_i g;subst g;cases h;refine(aB2 w).mono ?_;rintro e w' ⟨rfl,rfl⟩;exact⟨G,G.le_refl,hw,rfl,.refl _⟩
  ·split at h
   ·rename_i g;obtain⟨k,rfl⟩: ∃k:Nat,n=k:=⟨n.toNat,by omega⟩;cases h;refine(aB1 k (by omega) (by omega) w).mono ?_;rintro e w' ⟨cs,rfl,rfl,d⟩;obtain⟨m,o,v2,e1,g1,g2,l,j⟩:=Hr hw (sz:=2) (af:=[]) (c:=cs) (vs:=[]) (post:=cs.toList) (w':=w.drew) fg rfl (λel h=>by cases h) rfl (λv h=>by cases h) d (aha _) 0 rfl rfl hw.drew;cases e1;exact⟨m,g1,g2,l,j⟩
   ·cases h
 grind
end Go.Proofs.YteplichagkpciaaGreatDoor
