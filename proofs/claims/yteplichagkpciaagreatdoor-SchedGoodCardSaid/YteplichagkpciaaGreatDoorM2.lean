/- A part. -/
import Derived.Test.YteplichagkpciaaGreatDoorM1
import Derived.Test.YteplichagkpciaaGreatDoorD2
set_option linter.all false
set_option maxRecDepth 10000
set_option maxHeartbeats 1000000
namespace Go.Proofs.YteplichagkpciaaGreatDoor
open Go Go.Den
variable{t:aw}{n a p k e j sz i aa q:Nat}{v bk:AV}{lo:oN}{x y:aq}{b:cF}{m:Marks}{vs:lA}{af:List lA}{r:bE}{α β:Type}{l:fg}{tg:Option TypeId}{f:Nat->Nat}
def arl:=@List.take_set_of_le
def atZ:=@List.Pairwise.imp_of_mem
def at1:=@of_decide_eq_true
def axO:=@List.nodup_iff_pairwise_ne
def azn:=@List.nodup_cons
def aBe:=@eq_false
def xD(o:bM)(t:aw)(p:Ow->Bool)(h:Nat):Bool:=decide (root t h=h)&&p (b0 o t h)
def jK(o:bM)(t:aw)(p:Ow->Bool):lN:=(bn t.b).filter (xD o t p)
def xE(o:bM)(t:aw)(p:Ow->Bool)(n:Nat):lN:=((bn t.b).take n).filter (xD o t p)
def avg{o:bM}{p:Ow->Bool}(h:n< (bn t.b).length):xE o t p (n+1)=if xD o t p ((bn t.b).getD n default)then xE o t p n++[(bn t.b).getD n default]else xE o t p n:=by
 unfold xE;rw[ait,afu h,ayv,getD_eq h]
 grind
theorem avh{o:bM}{p:Ow->Bool}: (xE o t p n).length<=n:=ajR (amt _ _) (by grind)
def ajk(o:bM)(ho:fE o)(t:aw)(z:bN t)(V:cm t)(fv:AV)(p:Ow->Bool)(N:Nat)(H:List ae)(A:H.length=N)
  (hf: ∀x L,xz x->D X fv [.agg (jG x)] ⟨H++L,none⟩=some (.ret (.bool (p x)) ⟨H++L,none⟩)) (lo:oN):
  ∃w,D X (.fn (.func Ei) [] []) [.agg (cG o),.agg (aI t),fv] ⟨H,lo⟩=some (.ret w ⟨H,lo⟩)/\Rv w 1 ((jK o t p).map hC)/\w.refs=0:=by
 suffices hs: ∃E,D X (.fn (.func Ei) [] []) [.agg (cG o),.agg (aI t),fv] ⟨H,lo⟩=some E/\ (λE=> ∃w,E=aS.ret w ⟨H,lo⟩/\Rv w 1 ((jK o t p).map hC)/\w.refs=0) E by
  obtain⟨E,h1,w,rfl,h2⟩:=hs;exact⟨w,h1,h2⟩
 refine cz S7 λM W=>?_
 obtain rfl:M=N:=by rw[<-W,A]
 obtain⟨v,J,e1,G⟩:=aix t.b z.b (M+2) (H++[.box (cG o) none,.box (aI t) none]) (by simp[A]) none;have y:D X (.fn (.func j5) [] []) [.agg (bY t.b)] ⟨H++[.box (cG o) none,.box (aI t) none],none⟩=some _:=sX (p:=nz) rfl e1;have b:=(l7 G none).bK;have r8:=nd t.b;rw[afq]at y G b;obtain⟨q,u⟩: ∃q,q=[ae.box (cG o) none,.box (aI t) none]++J:=⟨_,rfl⟩;have Y: ∀L,(H++(q++L))[M]?=some (.box (cG o) none):=λL=>by rw[dh A,u];rfl
 have g1: ∀L,(H++(q++L))[M+1]?=some (.box (aI t) none):=λL=>by rw[bz A,u];rfl
 rw[<-u]at y G b;simp only[go_sem,simprocAttr,S7,W,y,b];refine dU (bn t.b).length (λn e H'=> ∃L,H'=H++(q++L)/\ (∃B,e 7=B/\aQ (M+q.length) H' B 1 bZ ((xE o t p n).map hC))/\e 2=fv/\e 3= .ptr M 0/\e 4= .ptr (M+1) 0/\e 12=v/\e 13= .int .i64 (bn t.b).length/\e 14= .int .i64 n) 0 (by omega) ?_ ?_
 ·simp only[go_sem,simprocAttr];exact⟨[],by simp,_,rfl,aQ.ai⟩
 rintro n hn e H' ⟨L,rfl,⟨B,e7,a⟩,O,K,I,m,l,k⟩ n' Hn;simp only[bR,go_sem,simprocAttr,agA,e7,m,l,k];refine⟨λhc=>?_,λhc=>?_⟩
 ·have f:n< (bn t.b).length:=by omega
  have Q:=(jh z.b).1 (eX f);have d:=avg (o:=o) (p:=p) f;have g:Rd ⟨H++(q++L),none⟩ v 1 ((bn t.b).map hC):=l7 (by have:=G.ext (L:=L);rwa[afq]at this) none;have F:=g.cE (X:=X) (off:=0) (n:=1) (agg:=false) f;rw[pH]at F;have r7:=avh (o:=o) (t:=t) (p:=p) (n:=n);generalize(bn t.b).getD n default=h at*;have T:=gg Q;have r:=λH lo=>up dj (zI t z V h T H lo)
  have C:=λH lo=>up dj (Cl o ho t z V h T H lo)
  have i:=hf (b0 o t h) (q++L) (ho.of t h);have c:xD o t p h=(decide (root t h=h)&&p (b0 o t h)):=rfl;have U: ∀ak:oN,True:=λ_=>trivial
  by_cases Z:root t h=h
  ·have j:decide ((root t h:Int)=(h:Nat))=true:=agR (by omega);rw[agR Z,anz]at c;cases S:p (b0 o t h)
   ·rw[S]at i c;rw[c,afi (by simp)]at d;simp(disch:=omega) only[go_sem,simprocAttr,O,K,I,e7,m,l,k,g.ck,F,Y,g1,r,C,j,i];exact⟨by omega,f,L,rfl,B,rfl,by rw[d];exact a⟩
   ·rw[S]at i c;rw[c,afl rfl]at d;simp only[go_sem,simprocAttr,O,K,I,e7,g.ck,F,Y,g1,r,C,j,i];refine⟨by omega,o9 (H0:=H++q) (ys:=[[.int .u32 (h:Nat)]]) a ⟨_,afq _ _ _⟩ (by simp[A]) (by omega) (by intro el R;rw[agV.1 R];rfl) rfl (by unfold room;simp;omega) λv' H2 s P=>?_⟩;obtain⟨L2,rfl⟩:=P;simp(disch:=omega) only[go_sem,simprocAttr,O,K,I,m,l,k];refine⟨f,L2,by simp,v',rfl,?_⟩;rw[d,ag9];rwa[afq]at s
  ·have j: ¬((root t h:Nat):Int)=(h:Nat):=by omega
   rw[afv Z,akq]at c;rw[c,afi (by simp)]at d;simp(disch:=omega) only[go_sem,simprocAttr,O,K,I,e7,m,l,k,g.ck,F,g1,r,j];exact⟨by omega,f,L,rfl,B,rfl,by rw[d];exact a⟩
 ·obtain rfl:n=(bn t.b).length:=by omega
  have z:xE o t p (bn t.b).length=jK o t p:=by unfold xE jK;rw[ag4]
  rw[z]at a;have h0:b8 ((jK o t p).map hC)=0:=bA (λ_=>rfl) _;rw[aQ.Pm (aQ.le a (by omega)) (by omega)];refine⟨_,da rfl (mn A),a.sc,cM a.sc h0⟩
def qf(aa:Nat)(x:Ow):Bool:=decide (x.kind=1)&&decide (x.aa=aa)
def oI(aa:Nat)(x:Ow):Bool:=decide (x.kind=3)&& (decide (aa<8)&&ou x.hold aa)
theorem Co(x:Ow):jG x=[.int .u8 x.kind,.int .u8 x.aa,.int .u8 x.hold]:=rfl
def avi(aa:Nat)(x:Ow)(d:xz x)(q:Nat)(H:List ae)(e:H[q]?=some (.box [.int .i64 (aa:Nat)] none))(lo:oN):
  D X (.fn (.func JF) [] [.ptr q 0]) [.agg (jG x)] ⟨H,lo⟩=some (.ret (.bool (qf aa x)) ⟨H,lo⟩):=by
 refine eP LM λN b=>?_
 have f: ∀L,(H++L)[q]?=_:=λL=>bh e
 have:=d.aa;by_cases c:x.kind=1
 ·have a: (x.kind:Int)=1:=by omega
  simp(disch:=omega) only[F1,go_sem,simprocAttr,LM,b,Co,f,a];refine da (akp AV.bool ?_) rfl;unfold qf;grind
 ·have a: ¬(x.kind:Int)=1:=by omega
  simp only[F1,go_sem,simprocAttr,LM,b,Co,a];unfold qf;grind
def avj(aa:Nat)(k:aa<256)(x:Ow)(h:xz x)(q:Nat)(H:List ae)(i:H[q]?=some (.box [.int .i64 (aa:Nat)] none))(lo:oN):
  D X (.fn (.func Jw) [] [.ptr q 0]) [.agg (jG x)] ⟨H,lo⟩=some (.ret (.bool (oI aa x)) ⟨H,lo⟩):=by
 refine eP FM λN e=>?_
 have f: ∀L,(H++L)[q]?=_:=λL=>bh i
 have j:=λH lo=>up dj (Vk aa (by omega) H lo)
 have hand:=Ms h.hold (zM aa);have d:=ai1 (x:=x.hold) (aa:=aa);by_cases c:x.kind=3
 ·have b: (x.kind:Int)=3:=by omega
  have c0: (aa:Int)>=0:=by omega
  by_cases g:aa<8
  ·have a: (aa:Int)<8:=by omega
   simp only[F1,go_sem,simprocAttr,FM,e,Co,f,b,c0,a,j,hand,d];unfold oI;rw[agR c,agR g];rfl
  ·have a: ¬(aa:Int)<8:=by omega
   simp only[F1,go_sem,simprocAttr,FM,e,Co,f,b,c0,a];unfold oI;rw[agR c,afv g];rfl
 ·have b: ¬(x.kind:Int)=3:=by omega
  simp only[F1,go_sem,simprocAttr,FM,e,Co,b];unfold oI;rw[afv c];rfl
def avk(o:bM)(ho:fE o)(t:aw)(c:bN t)(d:cm t)(aa:Nat)(H:List ae)(lo:oN):
  ∃w,D X (.fn (.func QR) [] []) [.agg (cG o),.agg (aI t),.int .i64 aa] ⟨H,lo⟩=some (.ret w ⟨H,lo⟩)/\Rv w 1 ((jK o t (qf aa)).map hC)/\w.refs=0:=by
 obtain⟨N,f⟩: ∃N,H.length=N:=⟨_,rfl⟩;obtain⟨w,e1,e,e3⟩:=ajk o ho t c d (.fn (.func JF) [] [.ptr (N+2) 0]) (qf aa) (N+3) (H++[.box (cG o) none,.box (aI t) none,.box [.int .i64 aa] none]) (by grind)
  (λx L b=>avi aa x b (N+2) _ (by simp_all) none) none
 refine⟨w,?_,e,e3⟩;refine aF S6 λM a=>?_
 obtain rfl:M=N:=by omega
 simp only[go_sem,simprocAttr,S6,a,e1];rw[xA e3,mn a]
def avl(o:bM)(ho:fE o)(t:aw)(d:bN t)(e:cm t)(aa:Nat)(a:aa<256)(H:List ae)(lo:oN):
  ∃w,D X (.fn (.func QA) [] []) [.agg (cG o),.agg (aI t),.int .i64 aa] ⟨H,lo⟩=some (.ret w ⟨H,lo⟩)/\Rv w 1 ((jK o t (oI aa)).map hC)/\w.refs=0:=by
 obtain⟨N,g⟩: ∃N,H.length=N:=⟨_,rfl⟩;obtain⟨w,e1,f,e3⟩:=ajk o ho t d e (.fn (.func Jw) [] [.ptr (N+2) 0]) (oI aa) (N+3) (H++[.box (cG o) none,.box (aI t) none,.box [.int .i64 aa] none]) (by grind)
  (λx L c=>avj aa a x c (N+2) _ (by simp_all) none) none
 refine⟨w,?_,f,e3⟩;refine aF Sy λM b=>?_
 obtain rfl:M=N:=by omega
 simp only[go_sem,simprocAttr,Sy,b,e1];rw[xA e3,mn b]
theorem ajl(a b:Int):oW (.int .u8 a) (.int .u8 b)=some (decide (a=b)):=by rfl
def Mv{a b:Int}{es:List (AV×AV)}:dR (.int .u8 a) ((.int .u8 b,v)::es)=if a=b then some (some v)else dR (.int .u8 a) es:=by
 simp only[dR,ajl]
 grind
theorem ajm{a:Int}{v:AV}: ∀ {es:List (AV×AV)},(∀e∈es,∃j:Int,e.1= .int .u8 j/\a≠j)->lH (.int .u8 a) v es=some (es++[(.int .u8 a,v)])
 | [],_=>rfl
 | (k,u)::es,h=>by
   obtain⟨j,c,b⟩:=h _ (amu ..);subst c;simp only[lH,ajl,b,aCM];rw[ajm λe he=>h e (ahd _ he)];rfl
def Vo{H:List ae}(b:H.length=p){a:Int}{es:List (AV×AV)}(h: ∀e∈es,∃j:Int,e.1= .int .u8 j/\a≠j)(c:v.refs<=p+1):
  mf ⟨H++[.map es],lo⟩ .int (.mp p) (.int .u8 a) v=some ⟨H++[.map (es++[(.int .u8 a,v)])],lo⟩:=by
 unfold mf;rw[afl (show kM .int (.int .u8 a)=true from rfl)];simp only[dh b,aro,ajm h];simp only[AS.set];simp_all
def Vp{gm:Nat->Option (List (AV×AV))}{H:List ae}{id:Nat}{es:List (AV×AV)}{a:Int}{z:AV}{r:Option AV}(h:H[id]?=some (.map es))(b:dR (.int .u8 a) es=some r):
  gQ gm ⟨H,lo⟩ .int z (.mp id) (.int .u8 a) true=some (match r with|some v=>.au [v,.bool true]|none=>.au [z,.bool false]):=by
 unfold gQ;rw[afl (show kM .int (.int .u8 a)=true from rfl)];simp only[mapOf,h,b]
 grind
section
variable(T:aw)(hT:bN T)(xF:cm T)(O:bM)(K:bg)(hK:gz K)(h:Nat)(hh:h<4294967296)(pw ph:Nat)(H:List ae)(hw:H[pw]?=some (.box (gd T O K) none))(o6:H[ph]?=some (.box [.int .u32 h] none))(lo:oN)
include hT xF hK hh hw o6
omit hT xF hh in
theorem avm:D X (.fn (.func wG) [] [.ptr pw 0,.ptr ph 0]) [] ⟨H,lo⟩=some (.ret (.bool (xj K h 0)) ⟨H,lo⟩):=by
 refine eP To λN b=>?_
 have a: ∀H lo,D X (.fn (.func Em) [] []) [.agg (bW K),.int .u32 h,.int .u32 0] ⟨H,lo⟩=_:=ai9 K hK h 0 (by omega);simp(disch:=omega) only[F1,go_sem,simprocAttr,To,b,hw,o6,↓rh,a]
omit hT xF hh in
theorem avn:D X (.fn (.func wH) [] [.ptr pw 0,.ptr ph 0]) [] ⟨H,lo⟩=some (.ret (.bool (zv K h 0)) ⟨H,lo⟩):=by
 refine eP Tp λN b=>?_
 have a: ∀H lo,D X (.fn (.func En) [] []) [.agg (bW K),.int .u32 h,.int .u32 0] ⟨H,lo⟩=_:=aja K hK h 0 (by omega);simp(disch:=omega) only[F1,go_sem,simprocAttr,Tp,b,hw,o6,↓rh,a]
omit hT xF hh o6 in
theorem avo(x:Nat):D X (.fn (.func JH) [] [.ptr pw 0]) [.int .u32 x] ⟨H,lo⟩=some (.ret (.bool (decide (0< (nf K x).length))) ⟨H,lo⟩):=by
 refine eP Ts λN a=>?_
 obtain⟨w,e1,b,e3⟩:=Vm K hK x H none;simp(disch:=omega) only[F1,go_sem,simprocAttr,Ts,a,hw,↓rh,e1,b.bK];exact da (akp AV.bool (ahb.2 (by omega))) rfl
theorem avp:D X (.fn (.func yH) [] [.ptr pw 0,.ptr ph 0]) [] ⟨H,lo⟩=some (.ret (.bool (!((under T h).any λx=>decide (0< (nf K x).length)))) ⟨H,lo⟩):=by
 refine eP Tq λN b=>?_
 obtain⟨v,J,a,e,d,c⟩:=Mh T hT xF h hh N H b none;have f:=aic dj v (.fn (.func JH) [] [.ptr pw 0]) (under T h) (H++J) d.rd (by have:=Gf xF h;omega) (λx=>decide (0< (nf K x).length)) a (λx _=>avo T O K hK pw (H++J) (bh hw) none x);simp only[go_sem,simprocAttr,Tq,hw,o6,↓pQ,e,f];rw[iR (dG.of c) (agS _),mn b]
end
def avq(T:aw)(hT:bN T)(xF:cm T)(O:bM)(K:bg)(hK:gz K)(h:Nat)(hh:h<4294967296)(b:Nat)(t:b<=2)(H:List ae)(lo:oN):
  D X (.fn (.func QC) [] []) [.agg (gd T O K),.int .u32 h,.int .u8 b] ⟨H,lo⟩=some (.ret (.bool (F8 T K h b)) ⟨H,lo⟩):=by
 refine aF FD λN i=>?_
 obtain⟨o,l⟩: ∃o,o=H++[ae.box (gd T O K) none,.box [.int .u32 h] none]:=⟨_,rfl⟩;have g:o.length=N+2:=by rw[l];simp[i]
 have m: ∀f,(AV.fn (.func f) [] [.ptr N 0,.ptr (N+1) 0]).refs<=N+2+1:=λf=>by simp only[AV.refs,aG];omega
 have k:=Vo g (a:=0) (es:=[]) (lo:=none) (by simp) (m wG);have j:=Vo g (a:=1) (es:=[(.int .u8 0,.fn (.func wG) [] [.ptr N 0,.ptr (N+1) 0])]) (lo:=none) (by simp) (m wH);have m3:=Vo g (a:=2) (es:=[(.int .u8 0,.fn (.func wG) [] [.ptr N 0,.ptr (N+1) 0]),(.int .u8 1,.fn (.func wH) [] [.ptr N 0,.ptr (N+1) 0])]) (lo:=none) (by simp) (m yH);rw[l]at k j m3;simp only[afq,akr,aiL]at k j m3;obtain⟨e,c⟩: ∃e,e=H++[ae.box (gd T O K) none,.box [.int .u32 h] none,.map [(.int .u8 0,.fn (.func wG) [] [.ptr N 0,.ptr (N+1) 0]),(.int .u8 1,.fn (.func wH) [] [.ptr N 0,.ptr (N+1) 0]),(.int .u8 2,.fn (.func yH) [] [.ptr N 0,.ptr (N+1) 0])]]:=⟨_,rfl⟩;have n:e[N]?=some (.box (gd T O K) none):=by rw[c,dh i];rfl
 have g1:e[N+1]?=some (.box [.int .u32 h] none):=by rw[c,bz i];rfl
 have g2:e[N+2]?=some (.map [(.int .u8 0,.fn (.func wG) [] [.ptr N 0,.ptr (N+1) 0]),(.int .u8 1,.fn (.func wH) [] [.ptr N 0,.ptr (N+1) 0]),(.int .u8 2,.fn (.func yH) [] [.ptr N 0,.ptr (N+1) 0])]):=by rw[c,bz i];rfl
 have s:=avm O K hK h N (N+1) e (T:=T) n g1 none;have q:=avn O K hK h N (N+1) e (T:=T) n g1 none;have p:=avp T hT xF O K hK h hh N (N+1) e n g1 none;have hw:b=0\/b=1\/b=2:=by omega
 rcases hw with rfl|rfl|rfl
 ·have d:=Vp (gm:=X.fa) (lo:=none) (a:=0) (z:=.cJ) g2 (r:=some _) (by simp only[Mv,aiH];rfl);rw[c]at s d;simp only[F1,go_sem,simprocAttr,FD,i,k,j,m3,d,s];rfl
 ·have d:=Vp (gm:=X.fa) (lo:=none) (a:=1) (z:=.cJ) g2 (r:=some (.fn (.func wH) [] [.ptr N 0,.ptr (N+1) 0])) (by simp[Mv]);rw[c]at q d;simp only[F1,go_sem,simprocAttr,FD,i,k,j,m3,d,q];rfl
 ·have d:=Vp (gm:=X.fa) (lo:=none) (a:=2) (z:=.cJ) g2 (r:=some (.fn (.func yH) [] [.ptr N 0,.ptr (N+1) 0])) (by simp[Mv]);rw[c]at p d;simp only[F1,go_sem,simprocAttr,FD,i,k,j,m3,d,p];rfl
def Mw(K:bg)(aa h a t:Nat):Bool:=decide ((b9 K t).1.to=aa)&& ((decide (a=0)&&xj K h t)|| (decide (a=1)&& (b9 K t).1.mu&&zv K h t))
def avr(T:aw)(O:bM)(K:bg)(n:gz K)(aa h a t:Nat)(y:t<4294967296)(o p r q:Nat)(H:List ae)(i:H[o]?=some (.box (gd T O K) none))(v:H[p]?=some (.box [.int .i64 aa] none))
  (A:H[r]?=some (.box [.int .u8 a] none)) (z:H[q]?=some (.box [.int .u32 h] none)) (lo:oN):
  D X (.fn (.func JL) [] [.ptr o 0,.ptr p 0,.ptr r 0,.ptr q 0]) [.int .u32 t] ⟨H,lo⟩=some (.ret (.bool (Mw K aa h a t)) ⟨H,lo⟩):=by
 refine eP xa λN j=>?_
 have g1: ∀L,(H++L)[o]?=_:=λL=>bh i
 have g2: ∀L,(H++L)[p]?=_:=λL=>bh v
 have l: ∀L,(H++L)[r]?=_:=λL=>bh A
 have B: ∀L,(H++L)[q]?=_:=λL=>bh z
 have b:=λH lo=>up dj (Cm K n t y H lo)
 have m:=ai9 K n h t y;have u:=aja K n h t y;have s:=n.get t;have c:Mw K aa h a t=(decide ((b9 K t).1.to=aa)&& ((decide (a=0)&&xj K h t)|| (decide (a=1)&& (b9 K t).1.mu&&zv K h t))):=rfl;generalize I: (b9 K t).1=x at*;have w:=nC x;rw[w]at b;have G:=s.to;by_cases F:x.to=aa
 ·have d:decide ((x.to:Int)=aa)=true:=agR (by omega);rw[agR F,anz]at c;by_cases E:a=0
  ·have f:decide ((a:Int)=0)=true:=agR (by omega);have e:decide ((a:Int)=1)=false:=afv (by omega);rw[agR E,afv (by omega: ¬a=1),anz,akq,akq,Bool.or_false]at c;cases k:xj K h t
   ·rw[k]at m c;simp(disch:=omega) only[F1,go_sem,simprocAttr,xa,j,i,g1,g2,l,B,↓rh,b,d,f,e,m,c]
   ·rw[k]at m c;simp(disch:=omega) only[F1,go_sem,simprocAttr,xa,j,i,g1,g2,l,B,↓rh,b,d,f,m,c]
  ·have f: ¬(a:Int)=0:=by omega
   rw[afv E,akq,arK]at c;by_cases C:a=1
   ·have e:decide ((a:Int)=1)=true:=agR (by omega);rw[agR C,anz]at c;cases g:x.mu
    ·rw[g,akq]at c;simp(disch:=omega) only[F1,go_sem,simprocAttr,xa,j,i,g2,l,↓rh,b,d,f,e,g,c]
    ·rw[g,anz]at c;simp(disch:=omega) only[F1,go_sem,simprocAttr,xa,j,i,g1,g2,l,B,↓rh,b,d,f,e,g,u,c]
   ·have e: ¬(a:Int)=1:=by omega
    rw[afv C,akq,akq]at c;simp(disch:=omega) only[F1,go_sem,simprocAttr,xa,j,i,g2,l,↓rh,b,d,f,e,c]
 ·have d: ¬(x.to:Int)=aa:=by omega
  rw[afv F,akq]at c;simp(disch:=omega) only[F1,go_sem,simprocAttr,xa,j,i,g2,↓rh,b,d,c]
def avs(T:aw)(O:bM)(K:bg)(f:gz K)(aa h a:Nat)(H:List ae)(lo:oN):
  D X (.fn (.func Q3) [] []) [.agg (gd T O K),.int .i64 aa,.int .u32 h,.int .u8 a] ⟨H,lo⟩=some (.ret (.bool (F9 K aa h a)) ⟨H,lo⟩):=by
 refine aF Tn λN e=>?_
 obtain⟨d,b⟩: ∃d,d=H++[ae.box (gd T O K) none,.box [.int .i64 aa] none,.box [.int .u32 h] none,.box [.int .u8 a] none]:=⟨_,rfl⟩;have k:d[N]?=some (.box (gd T O K) none):=by rw[b,dh e];rfl
 have g1:d[N+1]?=some (.box [.int .i64 aa] none):=by rw[b,bz e];rfl
 have g2:d[N+2]?=some (.box [.int .u32 h] none):=by rw[b,bz e];rfl
 have j:d[N+3]?=some (.box [.int .u8 a] none):=by rw[b,bz e];rfl
 obtain⟨w,e1,l,e3⟩:=Vm K f h d none;have c: (nf K h).length<2^40:=by
  have:=nd K.b;have: (nf K h).length<=_:=amt _ _;omega
 have g:=aic dj w (.fn (.func JL) [] [.ptr N 0,.ptr (N+1) 0,.ptr (N+3) 0,.ptr (N+2) 0]) (nf K h) d (l _) c (Mw K aa h a) none
  (λt i=>avr T O K f aa h a t (gg ((jh f.b).1 (air.1 i).1)) N (N+1) (N+3) (N+2) d k g1 j g2 none)
 have m:F9 K aa h a=(nf K h).any (Mw K aa h a):=rfl;rw[b]at e1 g;simp only[F1,go_sem,simprocAttr,Tn,e,↓rh,e1,g,m]
def ajn{x:Nat}(a:x<256)(b:k<8):decide ((x/2^k) % 2=1)=x.testBit k:=by grind
def avt(T:aw)(M:bN T)(v:cm T)(O:bM)(P:fE O)(K:bg)(Q:gz K)(aa:Nat)(S:aa<256)(h:Nat)(F:h<4294967296)(c:Nat)(B:c<=2)(H:List ae)(lo:oN):
  D X (.fn (.func QS) [] []) [.agg (gd T O K),.int .i64 aa,.int .u32 h,.int .u8 c] ⟨H,lo⟩=some (.ret (.int .i64 (xk T O K aa h c:Nat)) ⟨H,lo⟩):=by
 refine aF m8 λN n=>?_
 have g:=λH lo=>up dj (en T.b h F H lo)
 have G: ∀h,ax T.b h=T.ax h:=λh=>rfl
 simp only[G]at g;have k:=λH lo=>up dj (Cl O P T M v h F H lo)
 have m:=avq T M v O K Q h F c B;have hle:=avs T O K Q aa h c;have s:=P.of T h;have a:Den.part true 96 (gd T O K) 0=some (.agg (bY T.b)):=by
  have e:gd T O K=bY T.b++(xe T.r++(cG O++bW K)):=by simp[gd,aI]
  rw[e];exact xg (oo _) (by omega)
 have d:Den.part true 784 (gd T O K) 0=some (.agg (gd T O K)):=FX (lb _ _ _);have f:xk T O K aa h c=if T.ax h=false then 4
  else if(b0 O T h).kind=3 then(if c=0/\aa<8/\ (b0 O T h).hold.testBit aa=true then 0 else 5)
  else if(b0 O T h).kind=1 then(if((b0 O T h).aa=aa/\F8 T K h c=true)\/F9 K aa h c=true then 0 else 5)
  else 5:=rfl
 generalize V:b0 O T h=x at*;have C:=Co x;rw[C]at k;cases z:T.ax h with
 |false=>
  rw[afl z]at f;rw[z]at g;simp only[F1,go_sem,simprocAttr,m8,n,↓a,g,f]
 |true=>
  rw[afi (by rw[z];simp)]at f;rw[z]at g;by_cases J:x.kind=3
  ·have j:decide ((x.kind:Int)=3)=true:=agR (by omega);rw[afl J]at f;by_cases w:c=0
   ·have i: (c:Int)=0:=by omega
    have c0: (aa:Int)>=0:=by omega
    by_cases I:aa<8
    ·have r: (aa:Int)<8:=by omega
     have t:kW .shr (.int .u8 (x.hold:Nat)) (.int .i64 (aa:Nat))=some (.int .u8 ((x.hold/2^aa:Nat):Int)):=by
      rw[DF,afl (by omega)];have U:IntKind.u8.bits=8:=rfl;rw[U,aCF,ari (by omega)]
      congr 2
      rw[Int.fdiv_eq_ediv_of_nonneg _ (Int.le_of_lt (Int.pow_pos (by decide)))];simp
     have E:x.hold/2^aa<256:=Nat.lt_of_le_of_lt (Nat.div_le_self _ _) s.hold;have hand:dg .and (.int .u8 ((x.hold/2^aa:Nat):Int)) (.int .u8 1)=some (.int .u8 ((x.hold/2^aa % 2:Nat):Int)):=by
      have:=Ms (b:=1) E (by omega);have e:x.hold/2^aa&&&1=x.hold/2^aa % 2:=Nat.and_one_is_mod _;rw[e]at this;exact this
     have p:=ajn s.hold I;cases A:x.hold.testBit aa
     ·rw[A,afi (by simp)]at f;rw[A]at p;have o: ¬((x.hold/2^aa % 2:Nat):Int)=1:=by
       have:=of_decide_eq_false p;omega
      simp only[F1,go_sem,simprocAttr,m8,n,↓a,↓pR,↓pQ,g,k,j,i,c0,r,t,hand,o,f]
     ·rw[A,afl ⟨w,I,rfl⟩]at f;rw[A]at p;have o:decide (((x.hold/2^aa % 2:Nat):Int)=1)=true:=by
       have:=at1 p;exact agR (by omega)
      simp only[F1,go_sem,simprocAttr,m8,n,↓a,↓pR,↓pQ,g,k,j,i,c0,r,t,hand,o,f]
    ·have r: ¬(aa:Int)<8:=by omega
     rw[afi (λq=>I q.2.1)]at f;simp only[F1,go_sem,simprocAttr,m8,n,↓a,↓pR,↓pQ,g,k,j,i,c0,r,f]
   ·have i: ¬(c:Int)=0:=by omega
    rw[afi (λq=>w q.1)]at f;simp only[F1,go_sem,simprocAttr,m8,n,↓a,↓pR,↓pQ,g,k,j,i,f]
  ·have j: ¬(x.kind:Int)=3:=by omega
   rw[afi J]at f;by_cases L:x.kind=1
   ·have l:decide ((x.kind:Int)=1)=true:=agR (by omega);rw[afl L]at f;have R:=s.aa;cases y:F9 K aa h c<;>by_cases w:x.aa=aa
    ·have i:decide ((x.aa:Int)=aa)=true:=agR (by omega);rw[y]at hle f;cases u:F8 T K h c
     ·rw[u]at m f;rw[afi (by simp)]at f;simp(disch:=omega) only[F1,go_sem,simprocAttr,m8,n,↓a,↓pR,↓pQ,↓d,g,k,j,l,i,m,hle,f]
     ·rw[u]at m f;rw[afl (.inl ⟨w,rfl⟩)]at f;simp(disch:=omega) only[F1,go_sem,simprocAttr,m8,n,↓a,↓pR,↓pQ,↓d,g,k,j,l,i,m,f]
    ·have i: ¬(x.aa:Int)=aa:=by omega
     rw[y]at hle f;rw[afi (by simp[w])]at f;simp(disch:=omega) only[F1,go_sem,simprocAttr,m8,n,↓a,↓pR,↓pQ,↓d,g,k,j,l,i,hle,f]
    ·have i:decide ((x.aa:Int)=aa)=true:=agR (by omega);rw[y]at hle f;rw[afl (.inr rfl)]at f;cases u:F8 T K h c
     ·rw[u]at m;simp(disch:=omega) only[F1,go_sem,simprocAttr,m8,n,↓a,↓pR,↓pQ,↓d,g,k,j,l,i,m,hle,f]
     ·rw[u]at m;simp(disch:=omega) only[F1,go_sem,simprocAttr,m8,n,↓a,↓pR,↓pQ,↓d,g,k,j,l,i,m,f]
    ·have i: ¬(x.aa:Int)=aa:=by omega
     rw[y]at hle f;rw[afl (.inr rfl)]at f;simp(disch:=omega) only[F1,go_sem,simprocAttr,m8,n,↓a,↓pR,↓pQ,↓d,g,k,j,l,i,hle,f]
   ·have l: ¬(x.kind:Int)=1:=by omega
    rw[afi L]at f;simp only[F1,go_sem,simprocAttr,m8,n,↓a,↓pR,↓pQ,g,k,j,l,f]
structure vF(m:ke):Prop where
 fr:m.fr<8
 word:m.word<18446744073709551616
 aL:m.aL<4294967296
structure iS(b:cK):Prop where
 fr:b.fr<4
 n:b.n<=4
 ring: ∀i,vF (b.ring i)
theorem Vq:vF zw:=⟨by trivial,by trivial,by trivial⟩
theorem iS.gone:iS zx:=⟨by trivial,by trivial,λ_=>Vq⟩
def iS.close{b:cK}(h:iS b):iS (vf b).1:=by
 unfold vf;split
 ·exact h
 ·exact⟨h.fr,h.n,h.ring⟩
def iS.put{b:cK}(h:iS b){m:ke}(a:vF m):iS (ow b m).1:=by
 unfold ow;split
 ·exact h
 ·split
  ·exact h
  ·refine⟨h.fr,by have:=h.n;grind,λi=>?_⟩;show vF (ar b.ring (lZ b b.n) m i);by_cases e:i=lZ b b.n
   ·rw[e,cT];exact a
   ·rw[di e];exact h.ring i
def iS.take{b:cK}(h:iS b):iS (mK b).1/\vF (mK b).2.1:=by
 unfold mK;split
 ·exact⟨h,Vq⟩
 ·exact⟨⟨aoG _ (by omega),by have:=h.n;grind,h.ring⟩,h.ring _⟩
theorem ajo(b:cK)(i:Nat):lZ b i<4:=aoG _ (by omega)
def zB:lA:=[.int .u8 0,.int .u64 0,.int .u32 0,.bool false,.int .u8 0,.int .u64 0,.int .u32 0,.bool false,.int .u8 0,.int .u64 0,.int .u32 0,.bool false,.int .u8 0,.int .u64 0,.int .u32 0,.bool false,.int .i64 0,.int .i64 0,.bool false]
theorem ajp{b:cK}:List.take 19 (cq b)=cq b:=by rfl
def MB:=gG @ajp<|gG @zq @ahn
theorem oJ(m:ke):eg m=[.int .u8 m.fr,.int .u64 m.word,.int .u32 m.aL,.bool m.share]:=rfl
def Vr(b:cK)(d:b.fr<4)(i:Nat)(c:i<1000)(H:List ae)(lo:oN):D X0 (.fn (.func Bi) [] []) [.agg (cq b),.int .i64 i] ⟨H,lo⟩=some (.ret (.int .i64 (lZ b i:Nat)) ⟨H,lo⟩):=by
 refine aF Tl λN a=>?_
 have e: ((b.fr:Int)+i).tmod 4=(lZ b i:Nat):=by rfl
 simp(disch:=omega) only[F1,go_sem,simprocAttr,Tl,a,↓ahE,e]
def Vs(b:cK)(l:iS b)(m:ke)(H:List ae)(lo:oN):
  D X0 (.fn (.func QM) [] []) [.agg (cq b),.agg (eg m)] ⟨H,lo⟩=some (.ret (.au [.agg (cq (ow b m).1),.int .i64 (ow b m).2]) ⟨H,lo⟩):=by
 refine aF FK λN j=>?_
 have e:ow b m=if b.closed then(b,11)else if b.n=4 then(b,7)else({b with ring:=ar b.ring (lZ b b.n) m,n:=b.n+1},0):=rfl
 have hm:=oJ m;cases f:b.closed
 ·rw[f,afi (by simp)]at e;by_cases k:b.n=4
  ·rw[afl k]at e;have d:decide ((b.n:Int)=4)=true:=agR (by omega);simp only[F1,go_sem,simprocAttr,FK,j,hm,↓zr,f,↓B1,d,MB,↓rf,e]
  ·rw[afi k]at e;have d: ¬(b.n:Int)=4:=by omega
   have p:=l.n;have i:=Vr b l.fr b.n (by omega);have h:=ajo b b.n;have a:=asP (b:=b) (x:=m) h;rw[hm]at a;have g: ∀c,aH (cq ⟨ar b.ring (lZ b b.n) m,b.fr,b.n,c⟩) 17 [.int .i64 ((b.n:Int)+1)]=cq ⟨ar b.ring (lZ b b.n) m,b.fr,b.n+1,c⟩:=λc=>ahF (x:=b.n+1)
   have o: (N+1 !=N)=true:=by simp
   simp(disch:=omega) only[F1,go_sem,simprocAttr,FK,j,hm,↓zr,f,↓B1,d,MB,↓rf,i,a,g,e];exact⟨by omega,by omega⟩
 ·rw[f,afl rfl]at e;simp only[F1,go_sem,simprocAttr,FK,j,hm,↓zr,f,MB,↓rf,e]
def aV(x:aq)(bk:AV):lA:=bw x.s++([.int .i64 x.aa]++(bf x.c++(ay x.run++[.int .i64 x.mL,.bool x.asks,bk])))
def Mx(x:aq)(bk:AV): (aV x bk).length=964:=by simp only[aV,agU,eU];rfl
section
variable{x:aq}{bk:AV}
theorem vG{ag:Bool}{m o:Nat}(ho:o+m<=952)(a:0<m):Den.part ag m (aV x bk) o=Den.part ag m (bw x.s) o:=by
 unfold aV;exact q0 (by rw[eU];exact ho) a
def oK{ag:Bool}{m o:Nat}(ho:952<=o):Den.part ag m (aV x bk) o=Den.part ag m ([.int .i64 x.aa]++(bf x.c++(ay x.run++[.int .i64 x.mL,.bool x.asks,bk]))) (o-952):=by
 unfold aV;rw[kc (by rw[eU];exact ho),eU]
def ajq:Den.part true 480 (aV x bk) 0=some (.agg (aI x.s.T)):=by grind [vG,Ul]
theorem Vt:Den.part true 96 (aV x bk) 0=some (.agg (bY x.s.T.b)):=by rfl
def ajr:Den.part true 128 (aV x bk) 480=some (.agg (cG x.s.O)):=by grind [vG,Um]
def ajs:Den.part true 176 (aV x bk) 608=some (.agg (bW x.s.K)):=by grind [vG,Un]
def ajt:Den.part true 784 (aV x bk) 0=some (.agg (gd x.s.T x.s.O x.s.K)):=by grind [vG,Uj]
def aju:Den.part true 952 (aV x bk) 0=some (.agg (bw x.s)):=by grind [vG,Uk]
def My{i:Nat}(h:i<8):Den.part true 19 (aV x bk) (784+i*19)=some (.agg (cq (x.s.c8 i))):=by grind [vG,asU]
def Vu{i:Nat}(h:i<8):Den.part false 1 (aV x bk) (936+i)=some (.bool (x.s.alive i)):=by grind [vG,ahH]
def avu{i:Nat}(h:i<8):Den.part false 1 (aV x bk) (944+i)=some (.bool (x.s.born i)):=by grind [vG,asV]
def ajv:Den.part false 1 (aV x bk) 952=some (.int .i64 x.aa):=by rw[oK (by omega)];rfl
def ajw:Den.part false 1 (aV x bk) 953=some (.int .u8 x.c.op):=by rw[oK (by omega)];rfl
def ajx:Den.part false 1 (aV x bk) 954=some (.int .u32 x.c.r):=by rw[oK (by omega)];rfl
def ajy:Den.part false 1 (aV x bk) 955=some (.int .u32 x.c.s):=by rw[oK (by omega)];rfl
def ajz:Den.part false 1 (aV x bk) 956=some (.int .u32 x.c.a):=by rw[oK (by omega)];rfl
def ajA:Den.part false 1 (aV x bk) 957=some (.int .u32 x.c.b):=by rw[oK (by omega)];rfl
def ajB:Den.part false 1 (aV x bk) 958=some (.int .u64 x.c.v):=by rw[oK (by omega)];rfl
def ajC:Den.part true 6 (aV x bk) 953=some (.agg (bf x.c)):=by rw[oK (by omega)];rfl
def ajD:Den.part true 2 (aV x bk) 959=some (.agg (ay x.run)):=by rw[oK (by omega)];rfl
def ajE:Den.part false 1 (aV x bk) 960=some (.int .i64 x.run.2):=by rw[oK (by omega)];rfl
def ajF:Den.part false 1 (aV x bk) 961=some (.int .i64 x.mL):=by rw[oK (by omega)];rfl
def ajG:Den.part false 1 (aV x bk) 962=some (.bool x.asks):=by rw[oK (by omega)];rfl
def ajH:Den.part false 1 (aV x bk) 963=some bk:=by rw[oK (by omega)];rfl
def CL:=gG @ajq<|gG @Vt<|gG @ajr<|gG @ajs<|gG @ajt<|gG @aju<|gG @ajv<|gG @ajw<|gG @ajx<|gG @ajy<|gG @ajz<|gG @ajA<|gG @ajB<|gG @ajC<|gG @ajD<|gG @ajE<|gG @ajF<|gG @ajG @ajH
def Cp{s:bG}{o:Nat}(ho:o+vs.length<=952)(h:aH (bw x.s) o vs=bw s):aH (aV x bk) o vs=aV {x with s:=s} bk:=by
 unfold aV;rw[ra (by rw[eU];exact ho),h]
theorem Vv:aH (aV x bk) 0 (aI t)=aV (x.t t) bk:=Cp (by rw[im];omega) asW
theorem ajI{w:bM}:aH (aV x bk) 480 (cG w)=aV (x.o w) bk:=Cp (by rw[sG];omega) asX
theorem ajJ{k:bg}:aH (aV x bk) 608 (bW k)=aV (x.k k) bk:=Cp (by rw[zp];omega) asY
theorem Mz{i:Nat}{b:cK}(h:i<8):aH (aV x bk) (784+i*19) (cq b)=aV (x.bx i b) bk:=Cp (by rw[zq];omega) (asZ h)
theorem ajK{i:Nat}{v:Bool}(h:i<8):aH (aV x bk) (936+i) [.bool v]=aV {x with s:={x.s with alive:=ar x.s.alive i v}} bk:=Cp (by grind) (ahJ h)
theorem avv{i:Nat}{v:Bool}(h:i<8):aH (aV x bk) (944+i) [.bool v]=aV {x with s:={x.s with born:=ar x.s.born i v}} bk:=Cp (by grind) (ahK h)
def Cq{o:Nat}(ho:952<=o):aH (aV x bk) o vs=bw x.s++aH ([.int .i64 x.aa]++(bf x.c++(ay x.run++[.int .i64 x.mL,.bool x.asks,bk]))) (o-952) vs:=by
 unfold aV;rw[gu (by rw[eU];exact ho),eU]
def ajL:aH (aV x bk) 961 [.int .i64 n]=aV {x with mL:=n} bk:=by rw[Cq (by omega)];rfl
def ajM:aH (aV x bk) 963 [v]=aV x v:=by rw[Cq (by omega)];rfl
def CS:=gG @Vv<|gG @ajI<|gG @ajJ<|gG @ajL<|gG @ajM @Mx
end
abbrev iT(e:Nat):AV:=.c9 si (.int .i64 (e:Nat))
theorem ajN{t:TypeId}:Zk (.c9 t v)=some (.c9 t v):=rfl
def ajO{X:Ctx}{a:List RV}{R:aS->Prop}{e:Env}{E:AS}:dn X n lo a R (.panic v) ⟨e,[]⟩ E=R (.panic (finish n lo v E).1 (finish n lo v E).2):=by
 simp[dn,dy]
def EP:=gG @ajN @ajO
def Gn(e:Int)(H:List ae)(lo:oN):D X0 (.fn (.func cQ) [] []) [.bool true,.int .i64 e] ⟨H,lo⟩=some (.ret (.au []) ⟨H,lo⟩):=by
 refine aF Fl λN a=>?_
 simp(disch:=omega) only[F1,go_sem,simprocAttr,Fl]
def zN(e:Nat)(H:List ae)(lo:oN):D X0 (.fn (.func cQ) [] []) [.bool false,.int .i64 e] ⟨H,lo⟩=some (.panic (iT e) ⟨H,lo⟩):=by
 refine aF Fl λN a=>?_
 simp(disch:=omega) only[F1,go_sem,simprocAttr,Fl,EP]
def avw(H:List ae)(lo:oN):D X0 (.fn (.func gU) [] []) [.int .i64 0] ⟨H,lo⟩=some (.ret (.au []) ⟨H,lo⟩):=by
 refine aF FG λN a=>?_
 simp(disch:=omega) only[F1,go_sem,simprocAttr,FG,Gn]
def avx(e:Nat)(b:e≠0)(H:List ae)(lo:oN):D X0 (.fn (.func gU) [] []) [.int .i64 e] ⟨H,lo⟩=some (.panic (iT e) ⟨H,lo⟩):=by
 refine aF FG λN c=>?_
 have a: ¬(e:Int)=0:=by omega
 simp(disch:=omega) only[F1,go_sem,simprocAttr,FG,zN,a,EP]
def zO{X:Ctx}{e:Env}{E:AS}{R:aS->Prop}{b c m:Nat}{ag d:Bool}:dn X n lo [.cell a ag m,.cell b d k,.t c] R .ret ⟨e,[]⟩ E=okV (cg X E ag m (e a)) (λv E=>okV (cg X E d k (e b)) (λu E=>mo n lo R (.au [v,u,e c]) E) E) E:=by
 simp only[wj,wk,fk,ju,nK];cases h:cg X E ag m (e a)with
 |none=>simp[okV,h]
 |some v=>
  cases f:cg X E d k (e b)with
  |none=>simp[okV,h,f]
  |some u=>simp[okV,mo,h,f]
def avy(b:cK)(i:iS b)(H:List ae)(lo:oN):
  D X0 (.fn (.func QN) [] []) [.agg (cq b)] ⟨H,lo⟩=some (.ret (.au [.agg (cq (mK b).1),.agg (eg (mK b).2.1),.int .i64 (mK b).2.2]) ⟨H,lo⟩):=by
 refine aF FL λN k=>?_
 have d:mK b=if b.n=0 then(b,zw,if b.closed then 11 else 10)else({b with fr:=lZ b 1,n:=b.n-1},b.ring b.fr,0):=rfl
 have e:eg zw=[.int .u8 0,.int .u64 0,.int .u32 0,.bool false]:=rfl;by_cases l:b.n=0
 ·rw[afl l]at d;have a:decide ((b.n:Int)=0)=true:=agR (by omega);cases g:b.closed
  ·rw[g,afi (by simp)]at d;simp only[F1,go_sem,simprocAttr,FL,k,↓zr,g,↓B1,a,MB,↓rf,d,e,zO]
  ·rw[g,afl rfl]at d;simp only[F1,go_sem,simprocAttr,FL,k,↓zr,g,↓B1,a,MB,↓rf,d,e,zO]
 ·rw[afi l]at d;have a: ¬(b.n:Int)=0:=by omega
  have m:=i.n;have j: ∀H lo,D X0 (.fn (.func Bi) [] []) [.agg (cq b),.int .i64 1] ⟨H,lo⟩=_:=Vr b i.fr 1 (by omega);have h:=i.fr;have f: (b.fr:Int)<4:=by omega
  have hm:=oJ (b.ring b.fr);have c:=ahD (b:=b) h;have o: ((b.n:Int)-1)=((b.n-1:Nat):Int):=by omega
  rw[hm]at c;simp(disch:=omega) only[F1,go_sem,simprocAttr,FL,k,↓B1,↓ahE,a,MB,↓rf,j,↓c,f,o,asQ,ahF,d,hm,zO];simp
def avz(b:cK)(H:List ae)(lo:oN):
  D X0 (.fn (.func QO) [] []) [.agg (cq b)] ⟨H,lo⟩=some (.ret (.au [.agg (cq (vf b).1),.int .i64 (vf b).2]) ⟨H,lo⟩):=by
 refine aF LC λN c=>?_
 have d:vf b=if b.closed then(b,11)else({b with closed:=true},0):=rfl
 cases a:b.closed
 ·simp only[F1,go_sem,simprocAttr,LC,c,↓zr,a,MB,↓rf,asS,d]
 ·simp only[F1,go_sem,simprocAttr,LC,c,↓zr,a,MB,↓rf,d]
def avA(b:cK)(N:Nat)(H:List ae)(c:H.length=N)(lo:oN):D X0 (.fn (.func Q7) [] []) [.agg (cq b)] ⟨H,lo⟩=some (.ret (.fn (.func Bk) [] [.ptr N 0]) ⟨H++[.box (cq b) none],lo⟩):=by
 refine aF Tz λM a=>?_
 obtain rfl:M=N:=by omega
 simp only[go_sem,simprocAttr,Tz,a];rw[Cf (by omega)]
def xG(b:cK):List lA:=(fP b).map λm=>[.agg (eg m)]
def Vw(b:cK): (xG b).length=b.n:=by simp[xG,fP]
def ajP{b:cK}(h:j<b.n): (xG b)[j]?=some [.agg (eg (b.ring (lZ b j)))]:=by
 unfold xG fP
 grind
def avB(b:cK)(L:iS b)(a:Nat):uH X0 (.fn (.func Bk) [] [.ptr a 0]) a [.box (cq b) none] (xG b):=by
 intro S V y I J base M j A W s hP h0 wA g hG lo;have t: ∀i,V.dN i->i<base:=λi hi=>(j i hi).1
 suffices h: ∃x,D X0 (.fn (.func Bk) [] [.ptr a 0]) [y] ⟨W,lo⟩=some x/\
   (λx=> ∃d f ak,x=aS.ret (.au []) ⟨f,ak⟩/\V.P d f/\ (I (xG b).length d\/J d)/\base<=f.length/\
     (∀i,i<base-> ¬V.dN i-> ¬(a<=i/\i<a+[ae.box (cq b) none].length)->f[i]?=W[i]?)/\m2 V.c base lo ak none (V.row d)) x by
  obtain⟨x,h1,d,f,ak,rfl,Y,X,U,T,R⟩:=h;exact⟨d,f,ak,h1,Y,X,U,T,R⟩
 refine vA TC rfl rfl rfl λN hN=>?_
 obtain rfl:N=base:=by omega
 have E:W[a]?=some (.box (cq b) none):=hG 0 (by simp);have ha:=fh E;have B: ¬V.dN a:=λq=>(j a q).2 ⟨by omega,by simp⟩
 have NZ:=L.n;simp only[go_sem,simprocAttr,TC,E,↓B1];refine gS b.n (λk e f ak=> ∃d,I k d/\jZ V N W (λi=>a<=i/\i<a+[ae.box (cq b) none].length) d f ak/\f[a]?=some (.box (cq b) none)/\e 0=y/\e 1= .ptr a 0/\e 5= .int .i64 b.n/\e 6= .int .i64 k) 0 (by omega) ?_ ?_
 ·simp only[go_sem,simprocAttr];exact⟨s,h0,⟨hP,by omega,λ_ _ _ _=>rfl,.inl ⟨rfl,g⟩,λr e=>by rw[g]at e;cases e⟩,E⟩
 rintro k hk e W1 z ⟨s1,O,p,w0,Q,e1,P,e6⟩ n hn;simp only[bR,go_sem,simprocAttr,agM,Q,e1,P,e6];refine⟨λh=>?_,λh=>?_⟩
 ·have u:k<b.n:=by omega
  have hx:=ajP u;have v:=Vr b L.fr k (by omega);have C:=ajo b k;have m: (lZ b k:Int)<4:=by omega
  have l:=ahD (b:=b) C;obtain⟨c,s2,W2,mr,K,p2,H,p4,Z,G⟩:=A k _ s1 hx O W1 p.P p.len z;have w:=p.step p2 H p4 Z;have UX:N<=n:=by have:=p.len;omega
  have v0:W2[a]?=some (.box (cq b) none):=by rw[H.2 a (by omega) B (λq=>by have:=p.row _ q;omega)];exact w0
  cases c
  ·obtain⟨F,o,f1,f2,f3,f4,f5⟩:=w.fin M t (dx:=lo);simp only[go_sem,simprocAttr,e1,w0,MB,v,m,↓l,K,f1];exact⟨s2,F,o,rfl,f2,.inr G,f3,f4,f5⟩
  ·simp(disch:=omega) only[go_sem,simprocAttr,Q,e1,P,e6,w0,MB,v,m,↓l,K];exact⟨u,s2,G,w,v0⟩
 ·obtain⟨F,o,f1,f2,f3,f4,f5⟩:=p.fin M t (dx:=lo);simp only[go_sem,simprocAttr,f1];exact⟨s1,F,o,rfl,f2,.inl (by rw[Vw,show b.n=k by omega];exact O),f3,f4,f5⟩
def ajQ{N id aj:Nat}{H:List ae}{ty:TypeId}(e:N<=id)(c:H[id]?=some (.row aj sz ty af))(d:n=af.length)(a:b8 af<=N):Den.freeze ⟨H,lo⟩ N (k+4) (.ref id aj sz 0 n true)=some (.sl af true):=by
 subst d;have b: ¬(AV.ref id aj sz 0 af.length true).refs<=N:=by simp only[AV.refs];omega
 rw[Den.freeze,afi b];simp only[c];rw[afl ⟨trivial,trivial,by omega⟩];simp only[amy,ag4];rw[Pl af a]
def avC(H:List ae)(lo:oN):D X0 (.fn (.func JK) [] []) [.ai] ⟨H,lo⟩=some (.ret .ai ⟨H,lo⟩):=by
 refine aF FU λN b=>?_
 have a:fW 4 .ai none (some (.int .i64 0)) (some (.int .i64 0))=some .ai:=by rfl
 simp(disch:=omega) only[F1,go_sem,simprocAttr,FU,a]
def avD(id aj n:Nat)(H:List ae)(c:id<H.length)(lo:oN):D X0 (.fn (.func JK) [] []) [.ref id aj 4 0 n false] ⟨H,lo⟩=some (.ret (.ref id aj 4 0 n true) ⟨H,lo⟩):=by
 refine aF FU λN d=>?_
 have b:fW 4 (.ref id aj 4 0 n false) none (some (.int .i64 (n:Nat))) (some (.int .i64 (n:Nat)))=some (.ref id aj 4 0 n true):=by simp[fW,fV,lF,lG]
 have a: ∀E,fj E .sl (.ref id aj 4 0 n false)=some (.int .i64 n):=λE=>rfl
 simp only[go_sem,simprocAttr,FU,b,a];rw[iR (.inl rfl) (by simp only[AV.refs];omega),agQ (by omega)]
structure MSt where
 l:List ke
 row:oN
def mV(H:List ae)(N:Nat):YV MSt:=⟨λs W=>j4 N H W/\SV (N+1) 4 Eu W s.row (s.l.map eg),MSt.row,λi=>i<N+2,N+1⟩
def avE{H:List ae}{N:Nat}: (mV H N).Ok where
 st:=λs W f ⟨e,c⟩ a=>by
  refine⟨λi b=>?_,c.st (a _ (.inl (auJ _))) λi b=>a i (.inr b)⟩;have:i<N+2:=by omega
  rw[a i (.inl this)];exact e i b
 lt:=λs W r ⟨_,c⟩ d=>c.row d
def avF(b:cK)(hb:iS b)(H:List ae)(lo:oN):
  ∃w,D X0 (.fn (.func JE) [] []) [.agg (cq b)] ⟨H,lo⟩=some (.ret w ⟨H,lo⟩)/\Rv w 4 ((fP b).map eg)/\w.refs=0:=by
 suffices hs: ∃B,D X0 (.fn (.func JE) [] []) [.agg (cq b)] ⟨H,lo⟩=some B/\ (λB=> ∃w,B=aS.ret w ⟨H,lo⟩/\Rv w 4 ((fP b).map eg)/\w.refs=0) B by
  obtain⟨B,h1,w,rfl,h2⟩:=hs;exact⟨w,h1,h2⟩
 refine cz Tm λN l=>?_
 have he:=avA b (N+2) (H++[.box (cq b) none,.box [.ai] none]) (by simp[l]) none;have NZ:=hb.n;simp only[go_sem,simprocAttr,Tm,l,he,↓rf];obtain⟨p,c⟩: ∃p,p=H++[ae.box (cq b) none,.box [.ai] none,.box (cq b) none]:=⟨_,rfl⟩;rw[<-c];have A:p.length=N+3:=by rw[c];simp[l]
 generalize o: ((((((cZ _).set 1 _).set 2 _).set 3 _).set 5 _).set 6 _)=e;have E:e 3= .ptr (N+1) 0:=by rw[<-o];rfl
 have Z: (ao.t 6).get e= .fn (.func Bk) [] [.ptr (N+2) 0]:=by rw[<-o];rfl
 clear o;refine Io (mV H N) avE (xG b) (N+2) [.box (cq b) none] p ⟨[],none⟩ (by rw[Z];rfl) (by rw[Z];exact avB b hb (N+2)) (λi a=>?_) (by simp[A]) (λi a=>?_) ⟨?_,?_⟩ rfl
  (λj s=>s.l=(fP b).take j) (λ_ _=>False) rfl (λ_ _ h=>h.elim) ?_ ?_ (λ_ _ _ _ h=>h.elim)
 ·have:i=0:=by simpa using a
  subst this;rw[c,ahc,bz l];rfl
 ·have:i<N+2:=a;exact⟨by omega,by omega⟩
 ·rw[c];exact j4.app l
 ·exact .inl ⟨rfl,rfl,by rw[c,bz l];rfl⟩
 ·intro j y s L U;have hj:j<b.n:=by
   have:=(aeA.1 L).1;rwa[Vw]at this
  have d:s.l=(fP b).take j:=U;have z: (fP b)[j]?=some (b.ring (lZ b j)):=by unfold fP;rw[aiG,aq1 hj];rfl
  rw[ajP hj]at L;cases L;generalize b.ring (lZ b j)=m at*;refine⟨rfl,λW hP wA=>?_⟩;obtain⟨n,hn⟩: ∃n,W.length=n:=⟨_,rfl⟩;have hm:=oJ m;simp only[go_sem,simprocAttr,iD,hn,hm];refine⟨[.box (eg m) none],rfl,λC hW2 T=>?_⟩;obtain⟨F,r⟩:=T;have t:C.length=n:=by omega
  have f: ∀i,s.row=some i->N+1<i/\i<n:=by
   intro i a;rcases r with⟨q,_⟩| ⟨id,aj,q,_,J,E,q4⟩
   ·rw[q]at a;cases a
   ·rw[q]at a;cases a;exact⟨J,by have:=fh q4;omega⟩
  have M:SV (N+1) 4 Eu (C++[.box (eg m) none]) s.row (s.l.map eg):=r.st (by rw[aez (by omega)]) λi a=>by
   rw[aez (by have:=f i a;omega)]
  have wi:s.l.length<=4:=by rw[d,aiI];have: (fP b).length=b.n:=by simp[fP]
                            omega
  obtain⟨vv,v',W3,V,Y,a1,a2,a3,a4,a5,a6,a7⟩:=M.append (bytes:=24) (el:=eg m) (by simp;omega) (by omega) rfl rfl (by rw[agZ];unfold room;omega) none;have G: (C++[ae.box (eg m) none]).length=n+1:=by simp[t]
  have u: (C++[ae.box (eg m) none])[n]?=some (.box (eg m) none):=by rw[<-t];simp
  rw[hm]at a1 a2 u⊢;simp only[go_sem,simprocAttr,agK,E,a1,a2,a3,u,DN];refine⟨⟨s.l++[m],Y⟩,⟨λi a=>?_,?_⟩,⟨by show C.length<=V.length;omega,λi a hp hr=>?_⟩,.inr ⟨N+1,agW _,by omega,rfl,?_⟩,?_⟩
  ·show V[i]?=_;rw[a6 i (by omega) (by omega) (λq=>by have:=f i q;omega),aez (by omega)];exact F i a
  ·show SV (N+1) 4 Eu V Y ((s.l++[m]).map eg);rw[ag9];exact a4
  ·have nS: ¬i<N+2:=hp;rw[a6 i (by omega) (by omega) hr,aez a]
  ·rcases a7 with q| ⟨q,K,J⟩
   ·exact .inl q
   ·exact .inr ⟨q,K,by omega⟩
  ·show s.l++[m]=(fP b).take (j+1);rw[d,ait,z];rfl
 ·intro X W' ak U hP hl S pc Q;obtain⟨F,r⟩:=hP;have d:X.l=fP b:=by
   have:X.l=(fP b).take (xG b).length:=U;rw[this,Vw];exact agQ (by simp[fP])
  have g:dG N ak:=by
   rcases Q with⟨rfl,_⟩| ⟨q,K,J,rfl⟩
   ·exact .inl rfl
   ·exact .inr ⟨q,by have:N+1<=q:=K;omega,rfl⟩
  rw[d]at r;have h0:b8 ((fP b).map eg)=0:=bA (λ_=>rfl) _;rcases r with⟨c1,c2,c3⟩| ⟨id,aj,c1,c2,c3,c4,I⟩
  ·simp only[go_sem,simprocAttr,E,c3,avC,S,nw];rw[iR g (agS _)];refine⟨.ai,da rfl ((F.set (by omega)).take l),by rw[arn.1 c2];exact .ai,rfl⟩
  ·have v:=avD id aj ((fP b).map eg).length W' (fh I);rw[agZ]at v c4;have P:p.length≠id:=by rintro rfl;rw[S]at I;cases I
   simp only[go_sem,simprocAttr,E,c4,v,S,nw];have O: (W'.set p.length ae.dead)[id]?=some (.row aj 4 Eu ((fP b).map eg)):=by rw[aex P];exact I
   rw[uI g (v':=.sl ((fP b).map eg) true) λk=>by rw[show k+12=(k+8)+4 by omega];exact ajQ (by omega) O (by simp) (by rw[h0];omega)];exact⟨_,da rfl ((F.set (by omega)).take l),.sl (by intro el R;obtain⟨x,_,rfl⟩:=ag2.1 R;rfl),h0⟩
theorem avG:cq zx=[.int .u8 0,.int .u64 0,.int .u32 0,.bool false,.int .u8 0,.int .u64 0,.int .u32 0,.bool false,.int .u8 0,.int .u64 0,.int .u32 0,.bool false,.int .u8 0,.int .u64 0,.int .u32 0,.bool false,.int .i64 0,.int .i64 0,.bool true]:=rfl
def avH(b:cK)(d:iS b)(H:List ae)(lo:oN):
  ∃w,D X0 (.fn (.func QQ) [] []) [.agg (cq b)] ⟨H,lo⟩=some (.ret (.au [.agg (cq zx),w]) ⟨H,lo⟩)/\Rv w 4 ((fP b).map eg)/\w.refs=0:=by
 obtain⟨w,e1,e,e3⟩:=avF b d (H++[.box (cq b) none,.box zB none]) none;refine⟨w,?_,e,e3⟩;refine aF S5 λM a=>?_
 have c:zB=[.int .u8 0,.int .u64 0,.int .u32 0,.bool false,.int .u8 0,.int .u64 0,.int .u32 0,.bool false,.int .u8 0,.int .u64 0,.int .u32 0,.bool false,.int .u8 0,.int .u64 0,.int .u32 0,.bool false,.int .i64 0,.int .i64 0,.bool false]:=rfl;rw[c]at e1;simp only[go_sem,simprocAttr,S5,a,↓rf,e1];rw[xA (by simp[AV.refs,aG,e3]),mn a,avG]
def xH:o8:=λg=>if g=yG then some w9 else if g=AY then some w4 else none
noncomputable def Cr:lA->AS->Option aS:=wx X (D X) Lw xH yF qZ
noncomputable def Cs:lA->AS->Option aS:=wx X (D X) Lw xH yD w8
noncomputable def XA:Ctx:={X with bU:=λf=>if f=yF then some Cr else if f=yD then some Cs else X.bU f}
theorem DD:Ext X XA where
 df:=rfl
 fa:=rfl
 code:=rfl
 bU:=λf=>by
  by_cases b:f=yF
  ·subst b;exact .inr ⟨rfl,rfl⟩
  ·by_cases a:f=yD
   ·subst a;exact .inr ⟨rfl,rfl⟩
   ·left;show(if f=yF then some Cr else if f=yD then some Cs else X.bU f)=X.bU f
    grind
def Ct(e:Int)(H:List ae)(lo:oN):D X (.fn (.func kY) [] []) [.bool true,.int .i64 e] ⟨H,lo⟩=some (.ret (.au []) ⟨H,lo⟩):=by
 refine aF FR λN a=>?_
 simp(disch:=omega) only[F1,go_sem,simprocAttr,FR]
def Cu(e:Nat)(H:List ae)(lo:oN):D X (.fn (.func kY) [] []) [.bool false,.int .i64 e] ⟨H,lo⟩=some (.panic (iT e) ⟨H,lo⟩):=by
 refine aF FR λN a=>?_
 simp(disch:=omega) only[F1,go_sem,simprocAttr,FR,EP]
theorem ajS:ea .c9 .ew .ew=some true:=rfl
theorem ajT{t:TypeId}:ea .c9 (.c9 t v) .ew=some false:=rfl
theorem ajU{z:AV}{t:TypeId}:Ac z (.c9 t v) t true=some (.au [v,.bool true]):=afl rfl
def MA{K:AS->Prop}{H:List ae}(h:K ⟨H,lo⟩):qH X xH (cf yG|>.get λ_=>.ai) [.ptr p 0] .ew ⟨H,lo⟩ K:=by
 refine Ik (pr:=w9) rfl rfl λn a=>?_
 simp(disch:=omega) only[F1,go_sem,simprocAttr,w9,ajS];exact⟨.inl trivial,.au [],rfl,by trivial⟩
def vH{K:AS->Prop}{H:List ae}{v0:AV}(e:Nat)(a:H[p]?=some (.box [v0] none))(h:K ⟨H.set p (.box [.int .i64 e] none),lo⟩):qH X xH (cf yG|>.get λ_=>.ai) [.ptr p 0] (iT e) ⟨H,lo⟩ K:=by
 refine Ik (pr:=w9) rfl rfl λn b=>?_
 simp only[F1,go_sem,simprocAttr,w9,ajT,a,ajU];refine⟨.inl trivial,.au [],rfl,?_⟩;rw[afl (show(AV.au []).refs<=n from agS _),agQ (by grind)];exact h
def ajV(t:aw)(d:bN t)(r:Nat)(e:r<4294967296)(i:t.ax r=true)(c:Nat)(j:c<8)(H:List ae)(lo:oN):
  D X (.fn (.func Bj) [] []) [.agg (aI t),.int .u32 r,.int .i64 c] ⟨H,lo⟩=some (.ret (.agg (bS (aK t r).1)) ⟨H,lo⟩):=by
 refine aF zk λN f=>?_
 have a:=λH lo=>up dj (vx t d r e H lo)
 have b: (aK t r).2=0:=by unfold aK;grind
 have h: (c:Int)>=0:=by omega
 have g: (c:Int)<8:=by omega
 simp only[F1,go_sem,simprocAttr,zk,f,a,nv,b,kj,Ct,h,g]
def ajW(t:aw)(d:bN t)(r:Nat)(e:r<4294967296)(j:t.ax r=true)(c:Nat)(k:8<=c)(H:List ae)(lo:oN):
  D X (.fn (.func Bj) [] []) [.agg (aI t),.int .u32 r,.int .i64 c] ⟨H,lo⟩=some (.panic (iT 2) ⟨H,lo⟩):=by
 refine aF zk λN g=>?_
 have a:=λH lo=>up dj (vx t d r e H lo)
 have b: (aK t r).2=0:=by unfold aK;grind
 have i: (c:Int)>=0:=by omega
 have h: ¬(c:Int)<8:=by omega
 have f: ∀H lo,D X (.fn (.func kY) [] []) [.bool false,.int .i64 2] ⟨H,lo⟩=_:=Cu 2;simp only[F1,go_sem,simprocAttr,zk,g,a,nv,b,kj,Ct,f,i,h,EP]
def avI(t:aw)(d:bN t)(r:Nat)(e:r<4294967296)(h:t.ax r=false)(c:Nat)(H:List ae)(lo:oN):
  D X (.fn (.func Bj) [] []) [.agg (aI t),.int .u32 r,.int .i64 c] ⟨H,lo⟩=some (.panic (iT 4) ⟨H,lo⟩):=by
 refine aF zk λN g=>?_
 have a:=λH lo=>up dj (vx t d r e H lo)
 have b: (aK t r).2=4:=by unfold aK;grind
 have f: ∀H lo,D X (.fn (.func kY) [] []) [.bool false,.int .i64 4] ⟨H,lo⟩=_:=Cu 4;simp only[F1,go_sem,simprocAttr,zk,g,a,nv,b,kj,f,EP]
def s7(t:aw)(r a to:Nat)(b:Bool):Nat:=
 if t.ax r=false\/ (to≠0/\t.ax to=false)then 4 else if 8<=a then 2 else if to≠0/\b=false/\kg t to r=false then 5
 else(fC t r {(aK t r).1 with cells:=ar (aK t r).1.cells a to}).2
theorem avJ{r:dc}{v:Nat}(h:i<8):aH (bS r) (4+i) [.int .u32 (v:Nat)]=bS {r with cells:=ar r.cells i v}:=ahx h
def avK(t:aw)(A:bN t)(U:cm t)(r a to:Nat)(b:Bool)(E:r<4294967296)(s:to<4294967296)(T:a<4294967296)(H:List ae)(lo:oN):
  ∃cs,Cr [.agg (aI t),.int .u32 r,.int .i64 a,.int .u32 to,.bool b] ⟨H,lo⟩=some (.ret (.au [.agg cs,.int .i64 (s7 t r a to b)]) ⟨H,lo⟩)/\cs.length=480/\aG cs=0/\
   (s7 t r a to b=0->cs=aI (fC t r {(aK t r).1 with cells:=ar (aK t r).1.cells a to}).1):=by
 suffices R: ∃I,Cr [.agg (aI t),.int .u32 r,.int .i64 a,.int .u32 to,.bool b] ⟨H,lo⟩=some I/\ (λI=> ∃cs,I=aS.ret (.au [.agg cs,.int .i64 (s7 t r a to b)]) ⟨H,lo⟩/\cs.length=480/\aG cs=0/\
   (s7 t r a to b=0->cs=aI (fC t r {(aK t r).1 with cells:=ar (aK t r).1.cells a to}).1)) I by
  obtain⟨I,p,cs,rfl,V⟩:=R;exact⟨cs,p,V⟩
 refine Pq qZ rfl rfl λN j=>?_
 have c:=λH lo=>up dj (en t.b r E H lo)
 have d:=λH lo=>up dj (en t.b to s H lo)
 have L: ∀h,ax t.b h=t.ax h:=λh=>rfl
 simp only[L]at c d;have m:=λH lo=>up dj (Vb t A U to r s E H lo)
 have F: ∀H lo,D X (.fn (.func kY) [] []) [.bool false,.int .i64 4] ⟨H,lo⟩=_:=Cu 4;have O: ∀H lo,D X (.fn (.func kY) [] []) [.bool false,.int .i64 5] ⟨H,lo⟩=_:=Cu 5;have z:aG jx=0:=by decide
 have f:s7 t r a to b=if t.ax r=false\/ (to≠0/\t.ax to=false)then 4 else if 8<=a then 2 else if to≠0/\b=false/\kg t to r=false then 5
  else(fC t r {(aK t r).1 with cells:=ar (aK t r).1.cells a to}).2:=rfl
 cases y:t.ax r with
 |false=>
  rw[y]at c;rw[afl (.inl y)]at f;simp(disch:=omega) only[go_sem,simprocAttr,qZ,j,jY,jX,c,F];refine⟨rfl,?_⟩;rw[nV];refine vH 4 (v0:=.int .i64 0) (by rw[bz j];rfl) ?_;simp(disch:=omega) only[F1,go_sem,simprocAttr,cL];rw[f];exact⟨_,rfl,Cd,z,λh=>by cases h⟩
 |true=>
  rw[y]at c;have K:to=0\/ (¬(to:Int)=0/\t.ax to=true)\/ (¬(to:Int)=0/\t.ax to=false):=by
   by_cases n:to=0
   ·exact .inl n
   ·cases W:t.ax to
    ·exact .inr (.inr ⟨by omega,rfl⟩)
    ·exact .inr (.inl ⟨by omega,rfl⟩)
  by_cases J:to≠0/\t.ax to=false
  ·rw[afl (.inr J)]at f;rw[J.2]at d;have n: ¬(to:Int)=0:=by omega
   simp(disch:=omega) only[go_sem,simprocAttr,qZ,j,jY,jX,c,n,d,F];refine⟨rfl,?_⟩;rw[nV];refine vH 4 (v0:=.int .i64 0) (by rw[bz j];rfl) ?_;simp(disch:=omega) only[F1,go_sem,simprocAttr,cL];rw[f];exact⟨_,rfl,Cd,z,λh=>by cases h⟩
  ·rw[afi (by rw[y];simpa using J)]at f;have p: ∀H lo,D X (.fn (.func kY) [] []) [.bool true,.int .i64 4] ⟨H,lo⟩=_:=Ct 4;have o:to=0\/ (¬(to:Int)=0/\t.ax to=true):=by
    rcases K with h|h|h
    ·exact .inl h
    ·exact .inr h
    ·exact absurd ⟨by omega,h.2⟩ J
   by_cases P:8<=a
   ·rw[afl P]at f;have g:=ajW t A r E y a P;rcases o with rfl| ⟨n,M⟩
    ·simp(disch:=omega) only[go_sem,simprocAttr,qZ,j,jY,jX,c,p,g];refine⟨rfl,?_⟩;rw[nV];refine vH 2 (v0:=.int .i64 0) (by rw[bz j];rfl) ?_;simp(disch:=omega) only[F1,go_sem,simprocAttr,cL];rw[f];exact⟨_,rfl,Cd,z,λh=>by cases h⟩
    ·rw[M]at d;simp(disch:=omega) only[go_sem,simprocAttr,qZ,j,jY,jX,c,n,d,p,g];refine⟨rfl,?_⟩;rw[nV];refine vH 2 (v0:=.int .i64 0) (by rw[bz j];rfl) ?_;simp(disch:=omega) only[F1,go_sem,simprocAttr,cL];rw[f];exact⟨_,rfl,Cd,z,λh=>by cases h⟩
   ·rw[afi P]at f;have G:a<8:=by omega
    have l: (a:Int)<8:=by omega
    have g:=ajV t A r E y a G;have Q: ∀H lo,D X (.fn (.func kY) [] []) [.bool true,.int .i64 5] ⟨H,lo⟩=_:=Ct 5;have C:=A.get r;generalize S: (aK t r).1=x at*;have q:fO {x with cells:=ar x.cells a to}:=fO.setCells C λi=>by
     by_cases e:i=a
     ·rw[e,cT];exact s
     ·rw[di e];exact C.cells i
    have k:=λH lo=>up dj (Vc t A r E {x with cells:=ar x.cells a to} q.rb.1 (by have:=q.rb.2;show x.runs.length<=65;exact ajR this (by omega)) (by have:=q.len;show x.len<4294967296;have:x.len<=2048:=this;omega) H lo)
    have u:=avJ (r:=x) (v:=to) G;have w:4+a<=11:=by omega
    rcases o with rfl| ⟨n,M⟩
    ·rw[afi (by simp)]at f;have B:aH (bS x) (4+a) [.int .u32 0]=bS {x with cells:=ar x.cells a 0}:=u;simp(disch:=omega) only[go_sem,simprocAttr,qZ,j,jY,jX,c,p,g,kj,Q,l,B,w,k,sZ,cL];refine⟨rfl,?_⟩;rw[DK];refine MA ?_;simp(disch:=omega) only[F1,go_sem,simprocAttr];rw[f];exact⟨_,rfl,im _,xf _,λ_=>rfl⟩
    ·rw[M]at d;cases b with
     |true=>
      rw[afi (by simp)]at f;simp(disch:=omega) only[go_sem,simprocAttr,qZ,j,jY,jX,c,n,d,p,g,kj,Q,l,u,w,k,sZ,cL];refine⟨rfl,?_⟩;rw[DK];refine MA ?_;simp(disch:=omega) only[F1,go_sem,simprocAttr];rw[f];exact⟨_,rfl,im _,xf _,λ_=>rfl⟩
     |false=>
      cases ho:kg t to r with
      |true=>
       rw[ho]at m f;rw[afi (by simp)]at f;simp(disch:=omega) only[go_sem,simprocAttr,qZ,j,jY,jX,c,n,d,p,g,kj,Q,m,l,u,w,k,sZ,cL];refine⟨rfl,?_⟩;rw[DK];refine MA ?_;simp(disch:=omega) only[F1,go_sem,simprocAttr];rw[f];exact⟨_,rfl,im _,xf _,λ_=>rfl⟩
      |false=>
       rw[ho]at m f;rw[afl ⟨by omega,rfl,rfl⟩]at f;simp(disch:=omega) only[go_sem,simprocAttr,qZ,j,jY,jX,c,n,d,p,g,kj,O,m];refine⟨rfl,?_⟩;rw[nV];refine vH 5 (v0:=.int .i64 0) (by rw[bz j];rfl) ?_;simp(disch:=omega) only[F1,go_sem,simprocAttr,cL];rw[f];exact⟨_,rfl,Cd,z,λh=>by cases h⟩
def Gp{X:Ctx}{e:Env}{E:AS}{R:aS->Prop}{b:Nat}{c:Bool}:dn X n lo [.t a,.cell b c k] R .ret ⟨e,[]⟩ E=okV (cg X E c k (e b)) (λu E=>mo n lo R (.au [e a,u]) E) E:=by
 simp only[wj,wk,fk,ju,nK];cases h:cg X E c k (e b)with
 |none=>simp[okV,h]
 |some v=>simp[okV,mo,h]
def avL(t:aw)(s:bN t)(r a:Nat)(v:r<4294967296)(F:a<4294967296)(H:List ae)(lo:oN):
  Cs [.agg (aI t),.int .u32 r,.int .i64 a] ⟨H,lo⟩=some (.ret (.au [.int .u32 (sM t r a).1,.int .i64 (sM t r a).2]) ⟨H,lo⟩):=by
 suffices G: ∃E,Cs [.agg (aI t),.int .u32 r,.int .i64 a] ⟨H,lo⟩=some E/\E=aS.ret (.au [.int .u32 (sM t r a).1,.int .i64 (sM t r a).2]) ⟨H,lo⟩ by grind
 refine Pq w8 rfl rfl λN g=>?_
 have c:sM t r a=if t.ax r=false then(0,4)else if 8<=a then(0,2)else if(aK t r).1.cells a=0 then(0,10)else if t.ax ((aK t r).1.cells a)=false then(0,4)else((aK t r).1.cells a,0):=rfl
 cases q:t.ax r with
 |false=>
  rw[afl q]at c;have b:=avI t s r v q a;simp only[go_sem,simprocAttr,w8,g,jY,jX,b];refine⟨rfl,?_⟩;rw[nV];refine vH 4 (v0:=.int .i64 0) (by rw[bz g];rfl) ?_;simp(disch:=omega) only[F1,go_sem,simprocAttr,c,Gp]
 |true=>
  rw[afi (by rw[q];simp)]at c;by_cases z:8<=a
  ·rw[afl z]at c;have b:=ajW t s r v q a z;simp only[go_sem,simprocAttr,w8,g,jY,jX,b];refine⟨rfl,?_⟩;rw[nV];refine vH 2 (v0:=.int .i64 0) (by rw[bz g];rfl) ?_;simp(disch:=omega) only[F1,go_sem,simprocAttr,c,Gp]
  ·rw[afi z]at c;have l:a<8:=by omega
   have B: (a:Int)<8:=by omega
   have b:=ajV t s r v q a l;have u:=s.get r;generalize(aK t r).1=x at*;have hw:=u.cells a;have d:qu false 8 1 (.agg (arr 8 λi=>[AV.int .u32 (x.cells i)])) (.int .i64 a)=some (.int .u32 (x.cells a)):=
    T6 l (by have:=la (ag:=false) (m:=1) (n:=8) (k:=1) (i:=a) (o:=0) (f:=λi=>[AV.int .u32 (x.cells i)]) (λ_=>rfl) l (by omega) (by omega);rw[ahc]at this;rw[this];rfl)
   have p: ∀H lo,D X (.fn (.func kY) [] []) [.bool false,.int .i64 10] ⟨H,lo⟩=_:=Cu 10;have y: ∀H lo,D X (.fn (.func kY) [] []) [.bool false,.int .i64 4] ⟨H,lo⟩=_:=Cu 4;have e:=λH lo=>up dj (en t.b (x.cells a) hw H lo)
   have w: ∀h,ax t.b h=t.ax h:=λh=>rfl
   simp only[w]at e;by_cases A:x.cells a=0
   ·rw[afl A]at c;have j:decide ((x.cells a:Int)=0)=true:=by simp[A]
    simp only[go_sem,simprocAttr,w8,g,jY,jX,b,↓LY,d,j,p];refine⟨rfl,?_⟩;rw[nV];refine vH 10 (v0:=.int .i64 0) (by rw[bz g];rfl) ?_;simp(disch:=omega) only[F1,go_sem,simprocAttr,c,Gp]
   ·rw[afi A]at c;have j:decide ((x.cells a:Int)=0)=false:=by simp;omega
    cases C:t.ax (x.cells a)with
    |false=>
     rw[C]at e c;rw[afl rfl]at c;simp only[go_sem,simprocAttr,w8,g,jY,jX,b,↓LY,d,j,e,Ct,y];refine⟨rfl,?_⟩;rw[nV];refine vH 4 (v0:=.int .i64 0) (by rw[bz g];rfl) ?_;simp(disch:=omega) only[F1,go_sem,simprocAttr,c,Gp]
    |true=>
     rw[C]at e c;rw[afi (by simp)]at c;simp only[go_sem,simprocAttr,w8,g,jY,jX,b,↓LY,d,j,e,Ct];refine⟨rfl,?_⟩;rw[DK];refine MA ?_;simp(disch:=omega) only[F1,go_sem,simprocAttr,c,Gp]
theorem avM{args:lA}{E:AS}{a:AS}(h:Cr args E=some (.ret v a)):D XA (.fn (.func yF) [] []) args E=some (.ret v a):=DJ rfl h
def ajX(t:aw)(r a to:Nat)(b:Bool):ni t r a to b=if s7 t r a to b=0 then((fC t r {(aK t r).1 with cells:=ar (aK t r).1.cells a to}).1,0)else(t,s7 t r a to b):=by
 unfold ni s7
 grind
def avN(t:aw)(l:bN t)(p:cm t)(r a to:Nat)(b:Bool)(m:r<4294967296)(e:to<4294967296)(i:a<4294967296)(H:List ae)(lo:oN):
  D XA (.fn (.func QP) [] []) [.agg (aI t),.int .u32 r,.int .i64 a,.int .u32 to,.bool b] ⟨H,lo⟩=some (.ret (.au [.agg (aI (ni t r a to b).1),.int .i64 (ni t r a to b).2]) ⟨H,lo⟩):=by
 refine aF LD λN k=>?_
 obtain⟨cs,q,n,f,o⟩:=avK t l p r a to b m e i (H++[.box (aI t) none,.box jx none]) none;have g:=avM q;have d:=ajX t r a to b;by_cases c:s7 t r a to b=0
 ·rw[afl c]at d;have h:=o c;subst h;rw[c]at g;simp only[F1,go_sem,simprocAttr,LD,k,g,cL,d]
 ·rw[afi c]at d;have j:decide ((s7 t r a to b:Int)=0)=false:=by simp;omega
  simp only[F1,go_sem,simprocAttr,LD,k,g,j,n,f,cL,d]
def ajY{a:aw}(b:cm t)(h: ∀x,bI a x=bI t x\/bI a x=0):cm a:=by
 have key: ∀n x,(ek a n x).length<=(aR t x).length:=by
  intro n
  induction n with
  |zero=>simp[ek]
  |succ n c=>
   intro x;simp only[ek];by_cases hu:bI a x=0
   ·grind
   ·rw[afi hu];have e:bI a x=bI t x:=(h x).resolve_right hu;rw[e]at hu⊢;rw[sL b,afi hu,ag5,ag5]
    grind
 intro x;have:=key 32 x;have:=b x;unfold aR at*;omega
theorem ajZ(t:aw): ∀n x,(ek t n x).length<=(ek t (n+1) x).length
 |0,_=>by simp[ek]
 |n+1,x=>by
  rw[ek,ek];by_cases hu:bI t x=0
  ·grind
  ·rw[afi hu,afi hu,ag5,ag5];exact Nat.succ_le_succ (ajZ t n _)
def nE(b:cF)(h:Nat):Prop:= ∀i,eB h=some i->h/256< (b i).gen\/ (h/256=(b i).gen/\na b i=false)
theorem Cv(b:cF):nE b 0:=λi e=>by trivial
def Vx{h:Nat}(a:ax b h=true):nE b h:=by
 intro i e;unfold ax at a;rw[e]at a;have:=at1 a
 right;rw[this];exact⟨rfl,by unfold na;grind⟩
def MC{h:Nat}(ho:nE b h):nE (ar b i {b i with eG:=true}) h:=by
 intro j e;by_cases q:j=i
 ·subst q;rcases ho j e with a| ⟨a,c⟩
  ·left;rw[cT];exact a
  ·unfold na;rw[cT];grind
 ·unfold na at*;rw[di q];exact ho j e
def aj0{h y:Nat}(ho:nE b h):nE (eh b y).1 h:=by
 unfold eh;split
 ·show nE (ar b (aM y) _) h;intro j e;by_cases q:j=aM y
  ·subst q;unfold na;rw[cT];unfold ri;have a:=ho _ e
   grind
  ·unfold na at*;rw[di q];exact ho j e
 omega
def Vy{h:Nat}(a:nb b=some i)(d:gM b):ax (ar b i {b i with eG:=true}) h=true↔ax b h=true\/h=c7 i (b i).gen:=by
 obtain⟨i1,i2,i3,_⟩:=sK a;have c:ax (ar b i {b i with eG:=true}) (c7 i (b i).gen)=true:=by grind [Us,Ut,cT]
 constructor
 ·grind [lj,cT,Uq,di]
 ·grind [lj,di]
theorem Vz{y h:Nat}(c:ax (eh b y).1 h=true):ax b h=true:=by
 unfold eh at c;split at c
 ·obtain⟨j,e,a⟩:=lj.1 c;have a:ar b (aM y) (ri (b (aM y))) j=_:=a;by_cases q:j=aM y
  ·subst q;rw[cT]at a;unfold ri at a
   grind
  ·grind [di,lj]
 omega
def Gq(a:nb b=some i)(c:gM b):ax b (c7 i (b i).gen)=false:=by grind [Us,sK]
def aj1(c:nb b=some i)(d:gM b): ¬nE b (c7 i (b i).gen):=by
 obtain⟨i1,i2,i3,_⟩:=sK c;intro h;have f:ax (ar b i {b i with eG:=true}) (c7 i (b i).gen)=true:=(Vy c d).2 (.inr rfl);obtain⟨j,e,a⟩:=lj.1 f;have q:j=i:=aoJ λq=>by
  rw[di q]at a;have:=Gq c d;rw[lj.2 ⟨j,e,a⟩]at this;grind
 subst q;rw[cT]at a;injection a with l
 rcases h j e with k| ⟨_,g⟩
 ·omega
 ·unfold na at g;grind
def avO(t:aw):Prop:= ∀i,nE t.b (t.r i).up
structure eo(t:aw):Prop where
 ok:bN t
 tr:cm t
 up:avO t
theorem eo.same{a:aw}(h:eo t)(b:iw t a)(c:bN a):eo a:=⟨c,b.tree h.tr,λi=>by rw[b.1,b.2];exact h.up i⟩
theorem eo.set(h:eo t){r:dc}(b:fO r):eo (fC t a r).1:=h.same (.set t a r) (h.ok.set b)
theorem eo.drop(h:eo t)(y:Nat):eo (lg t y).1:=by
 refine⟨h.ok.drop y,ajY h.tr λx=>?_,λi=>?_⟩
 ·unfold lg;split
  ·have a: ∀x,ax (eh t.b y).1 x=true->t.ax x=true:=λx=>Vz
   unfold bI;by_cases q:aw.ax {b:=(eh t.b y).1,r:=ar t.r (aM y) dB} x=true
   ·rw[afl q,afl (a x q)];unfold kf;by_cases e:aM x=aM y
    ·right
     show(if _ then(ar t.r (aM y) dB (aM x)).up else 0)=0;rw[e,cT];split<;>rfl
    ·show(if aw.ax _ (ar t.r (aM y) dB (aM x)).up=true then(ar t.r (aM y) dB (aM x)).up else 0)=_\/ (if aw.ax _ (ar t.r (aM y) dB (aM x)).up=true then(ar t.r (aM y) dB (aM x)).up else 0)=0;rw[di e];by_cases c:aw.ax {b:=(eh t.b y).1,r:=ar t.r (aM y) dB} (t.r (aM x)).up=true
     ·rw[afl c,afl (a _ c)];omega
     grind
   grind
  grind
 ·unfold lg;split
  ·show nE (eh t.b y).1 (ar t.r (aM y) dB i).up;by_cases e:i=aM y
   ·rw[e,cT];exact Cv _
   ·rw[di e];exact aj0 (h.up i)
  ·exact h.up i
theorem eo.km{t:aw}(h:eo t): ∀l,eo (km t l)
 | []=>h
 |x::xs=>eo.km (h.drop x) xs
def eo.avP(h:eo t)(a:Nat):eo (lY t a).1:=by
 unfold lY;split
 ·exact h
 ·exact h.km _
def eo.avQ(h:eo t)(a:Nat):eo (lW t a 0).1:=by
 refine⟨h.ok.raise (by omega),ajY h.tr λx=>?_,λi=>?_⟩
 ·unfold lW;split
  ·simp
  ·split
   ·simp
   ·unfold bI;have b: ∀r z,aw.ax {t with r:=r} z=t.ax z:=λ_ _=>rfl
    simp only[b];split
    ·unfold kf;simp only[b];by_cases e:aM x=aM a
     ·rw[e,cT];grind
     ·rw[di e];omega
    omega
 ·unfold lW;split
  ·exact h.up i
  ·split
   ·omega
   ·show nE t.b (ar t.r (aM a) {t.r (aM a)with up:=0} i).up;by_cases e:i=aM a
    ·rw[e,cT];exact Cv _
    ·rw[di e];exact h.up i
def eo.cut(h:eo t)(a:Nat):eo (jg t a).1:=by
 rw[Vh];split
 ·exact h
 ·exact(h.same (Vg t a _ t) (Vf h.ok a _)).avQ a
def eo.new(h:eo t)(up n:Nat)(J:up<4294967296):eo (hE t up n).1:=by
 unfold hE;dsimp only;split
 ·exact h
 ·rename_i l;unfold lV at l⊢;split
  ·exact h
  ·rename_i N;rw[afi N]at l;split
   ·exact h
   ·rename_i M;rw[afi M]at l;split
    ·rename_i i g;rw[g]at l;have l: ¬6<=depth t up:=λq=>l ⟨.inl rfl,q⟩
     obtain⟨i1,i2,i3,_⟩:=sK g;have s:=h.ok.b;have d:up=0\/t.ax up=true:=by grind
     have a: ∀z,aw.ax {b:=ar t.b i {t.b i with eG:=true},r:=ar t.r i {dB with up:=up,ds:=n}} z=true↔t.ax z=true\/z=c7 i (t.b i).gen:=λz=>Vy g s
     have D: ∀z,t.ax z=true->aM z≠i:=by
      intro z p q;obtain⟨_,u,_⟩:=B4 p;rw[q]at u;rw[u]at i2;cases i2
     generalize m: ({b:=ar t.b i {t.b i with eG:=true},r:=ar t.r i {dB with up:=up,ds:=n}}:aw)=f at*;have o: ∀j,(f.r j).up=if j=i then up else(t.r j).up:=by
      intro j;rw[<-m];show(ar t.r i _ j).up=_;by_cases e:j=i
      ·rw[e,cT,afl rfl]
      ·rw[di e,afi e]
     have w:f.b=ar t.b i {t.b i with eG:=true}:=by rw[<-m]
     have C:aM (c7 i (t.b i).gen)=i:=by
      have:f.ax (c7 i (t.b i).gen)=true:=(a _).2 (.inr rfl);have v:=this;unfold aw.ax at v;obtain⟨j,e,G⟩:=lj.1 v;rw[F3 e];refine aoJ λq=>?_
      rw[w,di q]at G;have:=Gq g s;rw[lj.2 ⟨j,e,G⟩]at this;cases this
     have hold: ∀z,nE t.b z->(f.ax z=true↔t.ax z=true):=λz p=>⟨λq=>by
      rcases(a z).1 q with q|q
      ·exact q
      ·rw[q]at p;exact absurd p (aj1 g s),λq=>(a z).2 (.inl q)⟩
     have B: ∀x,x≠c7 i (t.b i).gen->bI f x=bI t x:=by
      intro x B;have e1: (f.ax x=true)=(t.ax x=true):=propext ⟨λq=>((a x).1 q).resolve_right B,λq=>(a x).2 (.inl q)⟩;unfold bI;simp only[e1];split
      ·rename_i F;unfold kf;rw[o,afi (D x F)];simp only[propext (hold _ (h.up (aM x)))]
      ·rfl
     have K:bI f (c7 i (t.b i).gen)=up:=by
      unfold bI;rw[afl ((a _).2 (.inr rfl))];unfold kf;rw[o,afl C];rcases d with q|q
      ·rw[q];split<;>rfl
      ·rw[afl ((a _).2 (.inl q))]
     have E: ∀x,bI t x≠c7 i (t.b i).gen:=by
      intro x q;have p:bI t x≠0:=by rw[q];unfold c7;omega
      have:=(F6 p).1;rw[q]at this;have c:=Gq g s;unfold aw.ax at this;rw[this]at c;cases c
     have y: ∀k x,x≠c7 i (t.b i).gen->ek f k x=ek t k x:=by
      intro k
      induction k with
      |zero=>intro x _;rfl
      |succ k I=>
       intro x A;simp only[ek,B x A];rw[I _ (E x)]
     refine⟨?_,?_,?_⟩
     ·rw[<-m];refine⟨Ut s g,λj=>?_⟩;show fO (ar t.r i _ j);by_cases e:j=i
      ·rw[e,cT];exact⟨J,by show n<=64;omega,Ck.len,Ck.cells,Ck.runs,Ck.aN⟩
      ·rw[di e];exact h.ok.r j
     ·intro x;by_cases e:x=c7 i (t.b i).gen
      ·rw[e];unfold aR;rw[show(32:Nat)=31+1 from rfl,ek,K];by_cases q:up=0
       ·rw[afl q];simp
       ·rw[afi q,y 31 up (λH=>by
          have:=d.resolve_left q;rw[H]at this;have c:=Gq g s;unfold aw.ax at this;rw[this]at c;cases c)]
        have F:=d.resolve_left q;unfold depth at l;rw[afl F]at l;have L:=h.tr up;have:ek t 31 up=aR t up:=(Uu 31 up (by
         have: (ek t 31 up).length<=(ek t 32 up).length:=ajZ t 31 up;unfold aR at L;omega) 32 (by omega)).symm
        rw[this,ag5];omega
      ·unfold aR;rw[y 32 x e];exact h.tr x
     ·intro j;rw[o,w];by_cases e:j=i
      ·rw[afl e];rcases d with q|q
       ·rw[q];exact Cv _
       ·exact MC (Vx q)
      ·rw[afi e];exact MC (h.up j)
    omega
theorem Cw(b:cm t){x:Nat}(a:bI t x≠0):aR t x=bI t x::aR t (bI t x):=by rw[sL b,afi a]
def MD(c:cm t){h:Nat}: ∀ (n x:Nat),dep t x<=n->h∈aR t x->dep t h<dep t x:=by
 intro n
 induction n with
 |zero=>intro x b a;unfold dep at b;grind
 |succ n d=>
  intro x b a;by_cases hu:bI t x=0
  ·rw[sL c,afl hu]at a;cases a
  ·grind [B5,Cw]
def avR(d:cm t){h:Nat}: ∀ (n x:Nat),dep t x<=n->h∈aR t x-> ∃c,bI t c=h/\h≠0/\t.ax c=true/\ (c=x\/c∈aR t x):=by
 intro n
 induction n with
 |zero=>intro x b a;unfold dep at b;grind
 |succ n e=>
  intro x b a;by_cases hu:bI t x=0
  ·rw[sL d,afl hu]at a;cases a
  ·grind [B5,Cw,F6]
def aj2(a:cm t)(x:Nat):x∈du t x:=by rw[Uw a];grind
def avS(i:gM t.b)(a:cm t){x:Nat}: ∀ (n h:Nat),dep t x-dep t h<=n->h∈aR t x->x∈du t h:=by
 intro n
 induction n with
 |zero=>intro h f b;have:=MD a _ x (agW _) b;omega
 |succ n k=>
  intro h f b;obtain⟨c,l,c0,j,e⟩:=avR a _ x (agW _) b;have d:c∈kids t h:=by
   have g:t.ax h=true:=by grind [F6]
   unfold kids;rw[afl g];exact air.2 ⟨(jh i).2 j,by grind⟩
  rw[Uw a];refine ahd _ (aq2.2 ⟨c,d,?_⟩);rcases e with rfl|e
  ·exact aj2 a c
  ·have:=B6 a d
   grind
theorem aj3{α:Type}{f:α->Nat}: ∀ (l:List α) (s:Nat),s<=l.foldl (λn x=>max n (f x)) s/\ ∀x∈l,f x<=l.foldl (λn x=>max n (f x)) s
 | [],s=>⟨agW _,by simp⟩
 |a::l,s=>by
  have h:=aj3 (f:=f) l (max s (f a))
  grind
theorem VA{x y:Nat}(c:ax b x=true)(a:ax b y=true)(e:aM x=aM y):x=y:=by
 obtain⟨_,h,g⟩:=B4 c;obtain⟨_,f,d⟩:=B4 a
 grind
def eo.avT(h:eo t)(a w:Nat)(J:w<4294967296):eo (vd t a w).1:=by
 unfold vd;split
 ·exact h
 ·rename_i N;split
  ·exact h
  ·rename_i G;split
   ·exact h
   ·rename_i M;have c:t.ax a=true:=by grind
    have g:t.ax w=true:=by grind
    have d:root t a=a:=aoJ λq=>G (.inl q)
    have B: ¬kg t a w=true:=λq=>G (.inr q)
    have s:a≠w/\a∉aR t w:=by
     unfold kg at B
     grind
    have D:aR t a=[]:=by
     unfold root at d;rw[afl c]at d;cases e:aR t a with
     |nil=>rfl
     |cons b bs=>
      exfalso;have hm:a∈aR t a:=by
       have p:aR t a≠[]:=by rw[e];simp
       rw[List.getLastD_eq_getLast?,List.getLast?_eq_getLast p,amC]at d;have:=List.getLast_mem p;rw[d]at this;exact this
      have:=MD h.tr _ a (agW _) hm;omega
    unfold lW;split
    ·exact h
    ·split
     ·exact h
     ·have C: ∀z,aw.ax {t with r:=ar t.r (aM a) {t.r (aM a)with up:=w}} z=t.ax z:=λ_=>rfl
      have y:bI {t with r:=ar t.r (aM a) {t.r (aM a)with up:=w}} a=w:=by
       unfold bI kf;simp only[C];rw[afl c,cT,afl g]
      have v: ∀x,x≠a->bI {t with r:=ar t.r (aM a) {t.r (aM a)with up:=w}} x=bI t x:=by
       intro x I;unfold bI;simp only[C];split
       ·rename_i m;unfold kf;simp only[C];rw[di λe=>I (VA m c e)]
       ·rfl
      generalize l: ({t with r:=ar t.r (aM a) {t.r (aM a)with up:=w}}:aw)=u at*;have w0:w≠0:=Ur g;have key: ∀n x,(ek u n x).length<=if x=a\/a∈aR t x then dep t x+1+dep t w else dep t x:=by
       intro n
       induction n with
       |zero=>intro x;simp[ek]
       |succ n E=>
        intro x;rw[ek];by_cases e:x=a
        ·rw[afl (show x=a\/a∈aR t x from .inl e),e,y,afi w0,ag5];have:=E w;rw[afi (by rintro(q|q);exact s.1 q.symm;exact s.2 q)]at this;omega
        ·rw[v x e];by_cases hu:bI t x=0
         ·rw[afl hu];simp
         ·rw[afi hu,ag5];have L:=B5 h.tr hu;have:=E (bI t x);have j: (x=a\/a∈aR t x)↔(bI t x=a\/a∈aR t (bI t x)):=by
           rw[Cw h.tr hu,aiK];constructor
           ·rintro(q|q|q)
            ·exact absurd q e
            ·exact .inl q.symm
            ·exact .inr q
           ·rintro(q|q)
            ·exact .inr (.inl q.symm)
            ·exact .inr (.inr q)
          by_cases q:x=a\/a∈aR t x
          ·rw[afl q];rw[afl (j.1 q)]at this;omega
          ·rw[afi q];rw[afi λH=>q (j.2 H)]at this;omega
      show eo u;refine⟨?_,λx=>?_,λi=>?_⟩
      ·rw[<-l];exact h.ok.ar ((h.ok.r _).Mo J)
      ·have F:=key 32 x;unfold aR;split at F
       ·rename_i q;have o:x∈du t a:=by
         rcases q with q|q
         ·rw[q];exact aj2 h.tr a
         ·exact avS h.ok.b h.tr _ a (agW _) q
        have m:=F7 h.ok.b c o;have k:=(aj3 (f:=λx=>depth t x-depth t a+1) (du t a) 0).2 x o;have A:sH t a=(du t a).foldl (λn x=>max n (depth t x-depth t a+1)) 0:=rfl;rw[<-A]at k;have d1:depth t x=1+dep t x:=by unfold depth;rw[afl m];rfl
        have d2:depth t a=1:=by unfold depth;rw[afl c,D];rfl
        have d3:depth t w=1+dep t w:=by unfold depth;rw[afl g];rfl
        have k:depth t x-depth t a+1<=sH t a:=k;omega
       ·have:=h.tr x;unfold dep at F;omega
      ·have e1:u.b=t.b:=by rw[<-l]
       have K: (u.r i).up=(ar t.r (aM a) {t.r (aM a)with up:=w} i).up:=by rw[<-l]
       rw[e1,K];by_cases e:i=aM a
       ·rw[e,cT];exact Vx g
       ·rw[di e];exact h.up i
structure jL(k:bg):Prop where
 ok:gz k
 dA: ∀i,nE k.b (k.t i).aR
 ord: ∃L:lN,L.Nodup/\ (∀h∈L,ax k.b h=true)/\ (∀h,ax k.b h=true->h∈L)/\L.Pairwise (λa b=>(k.t (aM a)).aR≠b)/\ ∀h∈L,(k.t (aM h)).aR≠h
def aj4{k:bg}{h:Nat}(a:ax k.b h=true): (b9 k h).1=k.t (aM h):=by unfold b9;grind
theorem VB{k:bg}: ∀ {n m h:Nat},n<=m->xB k n h->xB k m h
 |0,_,_,_,h=>h.elim
 |n+1,0,_,a,_=>by omega
 |n+1,m+1,_,a,h=>λx b=>VB (Nat.le_of_succ_le_succ a) (h x b)
theorem ME: ∀ (n:Nat) (l:lN),l.Nodup->(∀x∈l,x<n)->l.length<=n
 |0,[],_,_=>agW _
 |0,x::_,_,h=>by grind [List.mem_cons_self]
 |n+1,l,a,h=>by
  have c:=ME n (l.erase n) (a.erase n) λx b=>by grind
  grind
def jL.th{k:bg}(h:jL k){x:Nat}(s:ax k.b x=true):xB k 16 x:=by
 obtain⟨L,w,o,e,i,l⟩:=h.ord;have j:L.length<=16:=by
  rw[<-agZ (f:=aM)];refine ME 16 _ ?_ λy r=>?_
  ·grind [List.Pairwise.imp_of_mem,VA]
  ·obtain⟨z,g,rfl⟩:=ag2.1 r;exact h.ok.slot (o z g)
 have key: ∀ (n:Nat) (P S:lN) (y:Nat),S.length<=n->L=P++y::S->xB k (S.length+1) y:=by
  intro n
  induction n with
  |zero=>
   intro P S y m d z g;have b:=air.1 g;have a:ax k.b z=true:=(jh h.ok.b).1 b.1;have c: (k.t (aM z)).aR=y:=by have:=b.2;rw[aj4 a]at this;simpa using this
   have t:S=[]:=ams.1 (by omega);subst t;exfalso;have hm:=e z a;rw[d]at hm;rcases agT.1 hm with q|q
   ·rw[d]at i;exact(apa.1 i).2.2 z q y (amu ..) c
   ·rcases aiK.1 q with q|q
    ·subst q;exact l z (e z a) c
    ·cases q
  |succ n p=>
   intro P S y m d z g;have b:=air.1 g;have a:ax k.b z=true:=(jh h.ok.b).1 b.1;have c: (k.t (aM z)).aR=y:=by have:=b.2;rw[aj4 a]at this;simpa using this
   have hm:=e z a;rw[d]at hm;rcases agT.1 hm with q|q
   ·exfalso;rw[d]at i;exact(apa.1 i).2.2 z q y (amu ..) c
   ·rcases aiK.1 q with q|q
    ·exfalso;subst q;exact l z (e z a) c
    ·obtain⟨v,u,rfl⟩:=ayw q;have:=p (P++y::v) u z (by simp at m;omega) (by rw[d];simp);exact VB (by simp) this
 obtain⟨P,S,rfl⟩:=ayw (e x s);refine VB ?_ (key S.length P S x (agW _) rfl)
 grind
def jL.void{k:bg}(h:jL k)(y:Nat):jL {k with b:=(eh k.b y).1}:=by
 obtain⟨L,f,g,e,d,c⟩:=h.ord;refine⟨aje h.ok [y],λi=>aj0 (h.dA i),L.filter λx=>ax (eh k.b y).1 x,f.filter _,λx a=>(air.1 a).2,λx a=>air.2 ⟨e x (Vz a),a⟩,d.filter _,λx a=>c x (air.1 a).1⟩
def jL.aj5{k:bg}(h:jL k)(l:lN):jL (ng k l):=by
 induction l generalizing k with
 |nil=>exact h
 |cons y l a=>exact a (h.void y)
theorem jL.clear{k:bg}(h:jL k)(r:Nat):jL (L3 k r):=h.aj5 _
def jL.ret{k:bg}(h:jL k)(a:Nat):jL (mJ k a).1:=by
 unfold mJ;split
 ·exact h.aj5 _
 omega
def jL.aj6{k:bg}(h:jL k){x:Tok}(F:s6 x):jL (lh k x).1:=by
 unfold lh;split
 ·exact h
 ·rename_i hm;have hm:pW k x=0:=aoJ λq=>hm q
  have g:x.aR=0\/ax k.b x.aR=true:=by
   unfold pW at hm;split at hm
   ·omega
   ·have:nc k x.aR=true:=by grind
    unfold nc at this
    grind
  split
  ·rename_i i s;split
   ·rename_i r;obtain⟨i1,i2,i3,_⟩:=sK s;have t:=h.ok.b;have c:=Gq s t;have p:=aj1 s t;have f:=λz=>Vy (h:=z) s t
    have A: ∀z,ax k.b z=true->aM z≠i:=by
     intro z d q;obtain⟨_,o,_⟩:=B4 d;rw[q]at o;rw[o]at i2;cases i2
    have y:aM (c7 i (k.b i).gen)=i:=by
     obtain⟨j,e,l⟩:=lj.1 ((f _).2 (.inr rfl));rw[F3 e];refine aoJ λq=>?_
     rw[di q]at l;rw[lj.2 ⟨j,e,l⟩]at c;cases c
    have v:x.aR≠c7 i (k.b i).gen:=by
     intro q;rcases g with e|e
     ·rw[e]at q;unfold c7 at q;omega
     ·rw[q,c]at e;cases e
    obtain⟨L,E,u,D,C,B⟩:=h.ord;have w: ∀z∈L,ar k.t i x (aM z)=k.t (aM z):=λz d=>di (A z (u z d))
    refine⟨⟨Ut t s,λj l=>?_,λj=>?_⟩,λj=>?_,L++[c7 i (k.b i).gen],?_,λz d=>?_,λz d=>?_,?_,λz d=>?_⟩
    ·by_cases e:j=i
     ·rw[e];exact r
     ·have l: (ar k.b i {k.b i with eG:=true} j).eG=true:=l;rw[di e]at l;exact h.ok.lt j l
    ·show s6 (ar k.t i x j);by_cases e:j=i
     ·rw[e,cT];exact F
     ·rw[di e];exact h.ok.t j
    ·show nE _ (ar k.t i x j).aR;by_cases e:j=i
     ·rw[e,cT];rcases g with q|q
      ·rw[q];exact Cv _
      ·exact MC (Vx q)
     ·rw[di e];exact MC (h.dA j)
    ·refine List.nodup_append.2 ⟨E,by simp,λa n b m=>?_⟩;rw[agV.1 m];intro q;rw[q]at n;rw[u _ n]at c;cases c
    ·rcases agT.1 d with q|q
     ·exact(f z).2 (.inl (u z q))
     ·exact(f z).2 (.inr (agV.1 q))
    ·rcases(f z).1 d with q|q
     ·exact agT.2 (.inl (D z q))
     ·exact agT.2 (.inr (agV.2 q))
    ·refine apa.2 ⟨?_,by simp,λa n b m=>?_⟩
     ·exact atZ (λn _ g=>by show(ar k.t i x (aM _)).aR≠_;rw[w _ n];exact g) C
     ·rw[agV.1 m];show(ar k.t i x (aM a)).aR≠_;rw[w a n];intro q;have:=h.dA (aM a);rw[q]at this;exact p this
    ·rcases agT.1 d with q|q
     ·show(ar k.t i x (aM z)).aR≠_;rw[w z q];exact B z q
     ·rw[agV.1 q];show(ar k.t i x (aM _)).aR≠_;rw[y,cT];exact v
   omega
  omega
structure bm(s:bG):Prop where
 eA:eo s.T
 O:fE s.O
 tok:jL s.K
 bx: ∀i,iS (s.c8 i)
theorem bm.T{s:bG}(h:bm s):bN s.T:=h.eA.ok
theorem bm.tr{s:bG}(h:bm s):cm s.T:=h.eA.tr
theorem bm.K{s:bG}(h:bm s):gz s.K:=h.tok.ok
theorem bm.th{s:bG}(h:bm s): ∀a,ax s.K.b a=true->xB s.K 16 a:=λ_ b=>h.tok.th b
theorem bm.vI{s:bG}(h:bm s)(a:eo t):bm {s with T:=t}:=⟨a,h.O,h.tok,h.bx⟩
theorem bm.vJ{s:bG}(h:bm s){o:bM}(ho:fE o):bm {s with O:=o}:=⟨h.eA,ho,h.tok,h.bx⟩
theorem bm.Cx{s:bG}(h:bm s){k:bg}(a:jL k):bm {s with K:=k}:=⟨h.eA,h.O,a,h.bx⟩
theorem bm.Cy{s:bG}(h:bm s){i:Nat}{b:cK}(a:iS b):bm {s with c8:=ar s.c8 i b}:=⟨h.eA,h.O,h.tok,λj=>by
 show iS (ar s.c8 i b j);by_cases e:j=i
 ·rw[e,cT];exact a
 ·rw[di e];exact h.bx j⟩
theorem bm.VC{s:bG}(h:bm s){a b:Nat->Bool}:bm {s with alive:=a,born:=b}:=⟨h.eA,h.O,h.tok,h.bx⟩
theorem fE.iq{o:bM}(ho:fE o){r:Nat}(a:r<4294967296):fE (rj o t r aa).1:=ho.Mr a ⟨by simp,aoG _ (by omega),by simp⟩
theorem fE.fly{o:bM}(ho:fE o){r:Nat}(a:r<4294967296):fE (zt o t r).1:=ho.Mr a ⟨by simp,by simp,by simp⟩
theorem fE.freeze{o:bM}(ho:fE o){r:Nat}(a:r<4294967296):fE (B2 o t r aa).1:=ho.Mr a ⟨by simp,by simp,zM aa⟩
def fE.held{o:bM}(ho:fE o){r:Nat}{b:Bool}(c:r<4294967296):fE (dt o t r aa b).1:=by
 unfold dt;dsimp only;split
 ·omega
 ·split
  ·omega
  ·split
   ·omega
   ·split
    ·omega
    ·split
     ·omega
     ·have a:=ho.of t r;exact ho.Mr c ⟨a.kind,a.aa,aBj (n:=8) a.hold (zM aa)⟩
section
theorem lx{args:lA}{E:AS}{r:aS}(h:D X0 v args E=some r):D XA v args E=some r:=xu DD (up dj h)
theorem ly{args:lA}{E:AS}{r:aS}(h:D X v args E=some r):D XA v args E=some r:=xu DD h
structure jM(c:cp):Prop where
 op:c.op<256
 r:c.r<4294967296
 s:c.s<4294967296
 a:c.a<4294967296
 b:c.b<4294967296
 v:c.v<18446744073709551616
def dP{α:Type}(f:α->AV×AS)(E:AS):R α->aS
 |.ok a=>.ret (f a).1 (f a).2
 |.error e=>.panic (iT e) E
abbrev un(E:AS):Unit->AV×AS:=λ_=>(.au [],E)
def lp(b:Bool)(e:Nat)(H:List ae)(lo:oN):D XA (.fn (.func cQ) [] []) [.bool b,.int .i64 e] ⟨H,lo⟩=some (dP (un ⟨H,lo⟩) ⟨H,lo⟩ (ask b e)):=by
 cases b
 ·exact lx (zN e H lo)
 ·exact lx (Gn e H lo)
def gP(e:Nat)(H:List ae)(lo:oN):D XA (.fn (.func gU) [] []) [.int .i64 e] ⟨H,lo⟩=some (dP (un ⟨H,lo⟩) ⟨H,lo⟩ (bc e)):=by
 by_cases h:e=0
 ·subst h;exact lx (avw H lo)
 ·unfold bc;rw[afi h];exact lx (avx e h H lo)
def iU{a:List FP}{f:ao}{b:List ao}{d:oN}{e:Env}{c:lN}{Q:bQ}{E:AS}:kF a (.call f b) d [] [] e c Q v E=Q (.panic v) ⟨e,c⟩ E:=by
 have h:C0 a (⟨none,d,.call f b⟩,[]) []=true:=by rfl
 simp only[kF,h,azq]
def take_set{H L:List ae}{N:Nat}{o:ae}(a:H.length=N):List.take N (H.set p o++L)=H.set p o:=by grind
theorem aDB{H:List ae}{N:Nat}{o:ae}(a:H.length=N):List.take N (H.set p o)=H.set p o:=agQ (by grind)
def avV:aI t++List.drop 480 (aV x bk)=aV (x.t t) bk:=by
 rw[<-Vv];simp[aH,im]
structure Old(p:Nat)(H:List ae)(v:ae):Prop where
 at':H[p]?=some v
namespace Old
variable{p:Nat}{H:List ae}{v:ae}(h:Old p H v)
include h
theorem lt:p<H.length:=(aeA.1 h.at').1
theorem g(B:List ae): (H++B)[p]?=some v:=bh h.at'
theorem s(B:List ae)(w:ae): (H++B).set p w=H.set p w++B:=arP _ _ h.lt
theorem g1(w:ae): (H.set p w)[p]?=some w:=by rw[ag1 h.lt]
theorem g2(w:ae)(B:List ae): (H.set p w++B)[p]?=some w:=bh (h.g1 w)
theorem s2(w w':ae)(B:List ae): (H.set p w++B).set p w'=H.set p w'++B:=by
 rw[arP _ _ (by rw[ag7];exact h.lt),anc]
theorem same:H.set p v=H:=qc h.at'
theorem app(B:List ae):Old p (H++B) v:=⟨h.g B⟩
theorem set(w:ae):Old p (H.set p w) w:=⟨h.g1 w⟩
end Old
def avW{x:Nat}(a:k<8):kW .shr (.int .u8 (x:Nat)) (.int .i64 (k:Nat))=some (.int .u8 ((x/2^k:Nat):Int)):=by
 rw[DF,afl (by omega)];have b:IntKind.u8.bits=8:=rfl
 grind
def avX{x:Nat}(c:x<256):dg .and (.int .u8 ((x/2^k:Nat):Int)) (.int .u8 1)=some (.int .u8 ((x/2^k % 2:Nat):Int)):=by
 have a:x/2^k<256:=Nat.lt_of_le_of_lt (Nat.div_le_self _ _) c;have:=Ms (b:=1) a (by omega)
 grind
section
variable{x:aq}{bk:AV}{p:Nat}{H:List ae}(ho:Old p H (.box (aV x bk) none))(lo:oN)
include ho
theorem MF(aa:Nat):D XA (.fn (.func Bd) [] []) [.ptr p 0,.int .u32 aa] ⟨H,lo⟩=some (dP (un ⟨H,lo⟩) ⟨H,lo⟩ (l0 x aa)):=by
 refine aF Lz λN f=>?_
 have e:=ho.at';by_cases h:aa<8
 ·have c: (aa:Int)<8:=by omega
  have b:l0 x aa=ask (x.s.alive aa) 2:=by unfold l0;simp[h]
  have a: ∀H lo,D XA (.fn (.func cQ) [] []) [.bool (x.s.alive aa),.int .i64 2] ⟨H,lo⟩=_:=lp _ 2;rw[b];cases d:x.s.alive aa<;>rw[d]at a<;>simp(disch:=omega) only[F1,go_sem,simprocAttr,Lz,e,c,↓Vu h,d,a,ask,dP,EP]
 ·have c: ¬(aa:Int)<8:=by omega
  have b:l0 x aa= .error 2:=by unfold l0 ask;simp[h]
  have a: ∀H lo,D XA (.fn (.func cQ) [] []) [.bool false,.int .i64 2] ⟨H,lo⟩=_:=lp _ 2;rw[b];simp(disch:=omega) only[F1,go_sem,simprocAttr,Lz,c,a,ask,dP,EP]
theorem VD(b:bm x.s)(i:x.aa<8)(h:Nat)(e:h<4294967296)(a:Nat)(d:a<=2):
  D XA (.fn (.func jw) [] []) [.ptr p 0,.int .u32 h,.int .u8 a] ⟨H,lo⟩=some (dP (un ⟨H,lo⟩) ⟨H,lo⟩ (fD x h a)):=by
 refine aF SU λN g=>?_
 have hm:=λH lo=>ly (avt x.s.T b.T b.tr x.s.O b.O x.s.K b.K x.aa (by omega) h e a d H lo)
 have c:=gP (xk x.s.T x.s.O x.s.K x.aa h a);unfold fD;cases f:bc (xk x.s.T x.s.O x.s.K x.aa h a)<;>rw[f]at c<;>simp only[F1,go_sem,simprocAttr,SU,g,ho.at',↓CL,hm,c,dP,EP,iU]
theorem MG(b:bm x.s)(h:Nat)(c:h<4294967296):
  D XA (.fn (.func Bc) [] []) [.ptr p 0,.int .u32 h] ⟨H,lo⟩=some (dP (λ_=>(.agg (bS (aK x.s.T h).1),⟨H,lo⟩)) ⟨H,lo⟩ (bc (aK x.s.T h).2)):=by
 refine aF SX λN e=>?_
 have hm:=λH lo=>lx (vx x.s.T b.T h c H lo)
 have a:=gP (aK x.s.T h).2;cases d:bc (aK x.s.T h).2<;>rw[d]at a<;>simp only[F1,go_sem,simprocAttr,SX,e,ho.g,↓CL,hm,nv,a,dP,EP]
theorem VE(a:bm x.s)(h:Nat)(d:h<4294967296):
  D XA (.fn (.func Ef) [] []) [.ptr p 0,.int .u32 h] ⟨H,lo⟩=some (dP (λ_=>(.au [],⟨H.set p (.box (aV (x.t (jg x.s.T h).1) bk) none),lo⟩)) ⟨H,lo⟩ (bc (jg x.s.T h).2)):=by
 refine aF S1 λN c=>?_
 have hm:=λH lo=>ly (auH x.s.T a.T a.tr h d H lo)
 have b:=gP (jg x.s.T h).2;cases e:bc (jg x.s.T h).2<;>rw[e]at b<;>simp only[F1,go_sem,simprocAttr,S1,c,ho.at',ho.g,ho.s,↓CL,hm,Mp,b,dP,EP,CS,cL,take_set c]
theorem MH(a:bm x.s)(h:Nat)(e:h<4294967296)(aa:Nat)(d:aa<256):
  D XA (.fn (.func Bb) [] []) [.ptr p 0,.int .u32 h,.int .i64 aa] ⟨H,lo⟩=some (dP (λ_=>(.au [],⟨H.set p (.box (aV (x.o (rj x.s.O x.s.T h aa).1) bk) none),lo⟩)) ⟨H,lo⟩ (bc (rj x.s.O x.s.T h aa).2)):=by
 refine aF SW λN c=>?_
 have hm:=λH lo=>lx (auQ x.s.O x.s.T a.T a.tr h e aa d H lo)
 have b:=gP (rj x.s.O x.s.T h aa).2;cases f:bc (rj x.s.O x.s.T h aa).2<;>rw[f]at b<;>simp only[F1,go_sem,simprocAttr,SW,c,ho.g,ho.s,↓CL,hm,b,dP,EP,CS,gk,take_set c]
theorem VF(d:bm x.s)(h:Nat)(g:h<4294967296)(r:dc)(e:RB r.runs)(f:r.runs.length<=65)(a:r.len<4294967296):
  D XA (.fn (.func Js) [] []) [.ptr p 0,.int .u32 h,.agg (bS r)] ⟨H,lo⟩=some (dP (λ_=>(.au [],⟨H.set p (.box (aV (x.t (fC x.s.T h r).1) bk) none),lo⟩)) ⟨H,lo⟩ (bc (fC x.s.T h r).2)):=by
 refine aF SZ λN c=>?_
 have hm:=λH lo=>lx (Vc x.s.T d.T h g r e f a H lo)
 have b:=gP (fC x.s.T h r).2;cases i:bc (fC x.s.T h r).2<;>rw[i]at b<;>simp only[F1,go_sem,simprocAttr,SZ,c,ho.g,ho.s,↓CL,hm,sZ,b,dP,EP,CS,cL,take_set c]
theorem Gr(f:bm x.s)(u:x.aa<8)(h:Nat)(o:h<4294967296):
  D XA (.fn (.func Eg) [] []) [.ptr p 0,.int .u32 h] ⟨H,lo⟩=some (dP (un ⟨H,lo⟩) ⟨H,lo⟩ (xl x h)):=by
 refine aF BU λN s=>?_
 have a:=λH lo=>lx (en x.s.T.b h o H lo)
 have q:ax x.s.T.b h=x.s.T.ax h:=rfl;rw[q]at a;have d:=λH lo=>lx (Cl x.s.O f.O x.s.T f.T f.tr h o H lo)
 have c:=λH lo=>lx (zI x.s.T f.T f.tr h o H lo)
 have j:=f.O.of x.s.T h;have A:xl x h=ask (x.s.T.ax h) 4>>=λ_=>ask (decide (root x.s.T h=h)&&decide ((b0 x.s.O x.s.T h).kind=3)) 12>>=λ_=>ask ((b0 x.s.O x.s.T h).hold.testBit x.aa) 5:=rfl
 generalize b0 x.s.O x.s.T h=w at*;have g: ∀H lo,D XA (.fn (.func cQ) [] []) [.bool (x.s.T.ax h),.int .i64 4] ⟨H,lo⟩=_:=lp _ 4;have e: ∀b H lo,D XA (.fn (.func cQ) [] []) [.bool b,.int .i64 12] ⟨H,lo⟩=_:=λb=>lp b 12
 have B: ∀b H lo,D XA (.fn (.func cQ) [] []) [.bool b,.int .i64 5] ⟨H,lo⟩=_:=λb=>lp b 5
 rw[A];cases y:x.s.T.ax h with
 |false=>
  rw[y]at a g;simp(disch:=omega) only[F1,go_sem,simprocAttr,BU,ho.at',↓CL,a,g,ask,dP,EP,Except.bind,bind]
 |true=>
  rw[y]at a g;by_cases n:root x.s.T h=h
  ·have k:decide ((root x.s.T h:Int)=h)=true:=agR (by omega);by_cases t:w.kind=3
   ·have i:decide ((w.kind:Int)=3)=true:=agR (by omega);have m:kW .shr (.int .u8 (w.hold:Nat)) (.int .i64 (x.aa:Nat))=some (.int .u8 ((w.hold/2^x.aa:Nat):Int)):=avW u;have hand:dg .and (.int .u8 ((w.hold/2^x.aa:Nat):Int)) (.int .u8 1)=some (.int .u8 ((w.hold/2^x.aa % 2:Nat):Int)):=avX j.hold;have r:=ajn j.hold u;have l:decide (((w.hold/2^x.aa % 2:Nat):Int)=1)=w.hold.testBit x.aa:=by rw[<-r];exact ahb.2 (by omega)
    cases z:w.hold.testBit x.aa<;>rw[z]at l<;>
     simp only[F1,go_sem,simprocAttr,BU,s,ho.at',ho.g,↓CL,jG,a,g,d,c,n,t,e,B,m,hand,l,ask,dP,EP,iU,Except.bind,bind]
   ·have i:decide ((w.kind:Int)=3)=false:=afv (by omega);simp only[F1,go_sem,simprocAttr,BU,s,ho.at',ho.g,↓CL,jG,a,g,d,c,n,i,t,e,ask,dP,EP,Except.bind,bind]
  ·have k:decide ((root x.s.T h:Int)=h)=false:=afv (by omega);simp only[F1,go_sem,simprocAttr,BU,s,ho.at',ho.g,↓CL,jG,a,g,d,c,k,n,e,ask,dP,akq,EP,Except.bind,bind]
end
def aj7(c:cp)(H:List ae)(lo:oN):D XA (.fn (.func Jt) [] []) [.agg (bf c)] ⟨H,lo⟩=some (dP (un ⟨H,lo⟩) ⟨H,lo⟩ (ask (decide (1<=c.b)&&decide (c.b<=8)) 2)):=by
 refine aF FI λN e=>?_
 have g: ∀b H lo,D XA (.fn (.func cQ) [] []) [.bool b,.int .i64 2] ⟨H,lo⟩=_:=λb=>lp b 2
 by_cases f:1<=c.b
 ·have a:decide ((c.b:Int)>=1)=true:=agR (by omega);by_cases i:c.b<=8
  ·have d:decide ((c.b:Int)<=8)=true:=agR (by omega);simp only[F1,go_sem,simprocAttr,FI,e,bf,a,d,f,i,g,ask,dP]
  ·have d:decide ((c.b:Int)<=8)=false:=afv (by omega);simp only[F1,go_sem,simprocAttr,FI,e,bf,a,d,f,i,g,ask,dP,EP]
 ·have a:decide ((c.b:Int)>=1)=false:=afv (by omega);simp only[F1,go_sem,simprocAttr,FI,e,bf,a,f,g,ask,dP,akq,EP]
def avY(r:dc)(g:r.len<4294967296)(c:cp)(d:jM c)(H:List ae)(lo:oN):
  D XA (.fn (.func Ee) [] []) [.agg (bS r),.agg (bf c)] ⟨H,lo⟩=some (dP (un ⟨H,lo⟩) ⟨H,lo⟩ (ask (decide (c.a+c.b<=r.len)) 9)):=by
 refine aF Lx λN e=>?_
 have j:=d.a;have i:=d.b;have f: ∀b H lo,D XA (.fn (.func cQ) [] []) [.bool b,.int .i64 9] ⟨H,lo⟩=_:=λb=>lp b 9
 by_cases h:c.a+c.b<=r.len
 ·have a:decide ((c.a:Int)<=(r.len:Int)-c.b)=true:=agR (by omega);simp(disch:=omega) only[F1,go_sem,simprocAttr,Lx,e,bf,a,h,f,ask,dP]
 ·have a:decide ((c.a:Int)<=(r.len:Int)-c.b)=false:=afv (by omega);simp(disch:=omega) only[F1,go_sem,simprocAttr,Lx,e,bf,a,h,f,ask,dP,EP]
end
structure mQ(x:aq):Prop where
 s:bm x.s
 t:x.aa<8
 c:jM x.c
 run:x.run.1<4294967296/\x.run.2<4294967296
def aZ(b:List aE)(bk:AV)(p:Nat)(H:List ae)(lo:oN):R (aq×bE)->aS->Prop
 |.ok (y,r),a=>y.back=b/\a= .ret (.agg (bF r)) ⟨H.set p (.box (aV y bk) none),lo⟩
 |.error e,a=> ∃y,a= .panic (iT e) ⟨H.set p (.box (aV y bk) none),lo⟩
theorem okB{a:α}{f:α->R β}: (Except.ok a>>=f:R β)=f a:=rfl
theorem cV{f:α->R β}: (Except.error e>>=f:R β)= .error e:=rfl
def OL{H:List ae}{N:Nat}(a:H.length=N): (∀p w L,(H.set p w++L)[N]?=L[0]?)/\ (∀p w L k,(H.set p w++L)[N+k]?=L[k]?)/\ (∀p w L o,(H.set p w++L).set N o=H.set p w++L.set 0 o)/\ (∀p w L k o,(H.set p w++L).set (N+k) o=H.set p w++L.set k o)/\
  (∀p w L,List.take N (H.set p w++L)=H.set p w)/\ ∀p w,List.take N (H.set p w)=H.set p w:=by
 have h: ∀p w,(H.set p w).length=N:=λp w=>by grind
 grind
theorem gA{a:α}: (pure a:R α)= .ok a:=rfl
def dI{K c:AV->AS->Prop}{f:α->AV×AS}{E:AS}{m:R α}:HN K c (some (dP f E m))=((∀a,m= .ok a->K (f a).1 (f a).2)/\ ∀e,m= .error e->c (iT e) E):=by
 apply propext;cases m with
 |ok a=>
  refine⟨λh=>⟨λb e=>?_,λ_ e=>?_⟩,λh=>h.1 a rfl⟩
  ·cases e;exact h
  grind
 |error e=>
  refine⟨λh=>⟨λb q=>?_,λb q=>?_⟩,λh=>h.2 e rfl⟩
  ·cases q
  ·cases q;exact h
def dJ{q:Unit->Prop}: (∀a,q a)=q ():=by grind
section
variable{x:aq}{bk:AV}{p:Nat}{H:List ae}{lo:oN}(ho:Old p H (.box (aV x bk) none))(hx:mQ x)
include ho
theorem aZ.err:aZ x.back bk p H lo (.error e) (.panic (iT e) ⟨H,lo⟩):=⟨x,by rw[ho.same]⟩
theorem aZ.here(a:v= .agg (bF r)):aZ x.back bk p H lo (.ok (x,r)) (.ret v ⟨H,lo⟩):=by
 refine⟨rfl,?_⟩;rw[ho.same,a]
omit ho in
theorem aZ.set(a:v= .agg (bF r))(b:y.back=x.back):aZ x.back bk p H lo (.ok (y,r)) (.ret v ⟨H.set p (.box (aV y bk) none),lo⟩):=by
 refine⟨b,?_⟩;rw[a]
omit ho in
theorem zP{h w:Nat}(a:fD x h w= .ok ()):bc (aK x.s.T h).2= .ok ():=by
 unfold fD xk at a;cases b:x.s.T.ax h with
 |true=>unfold aK;rw[afl b];rfl
 |false=>rw[afl b]at a;cases a
include hx
theorem M0(h:Nat)(a:h<4294967296)(B:List ae)(lo:oN):D XA (.fn (.func jw) [] []) [.ptr p 0,.int .u32 h,.int .u8 0] ⟨H++B,lo⟩=some (dP (un ⟨H++B,lo⟩) ⟨H++B,lo⟩ (fD x h 0)):=VD (ho.app B) lo hx.s hx.t h a 0 (by omega)
theorem M1(h:Nat)(a:h<4294967296)(B:List ae)(lo:oN):D XA (.fn (.func jw) [] []) [.ptr p 0,.int .u32 h,.int .u8 1] ⟨H++B,lo⟩=some (dP (un ⟨H++B,lo⟩) ⟨H++B,lo⟩ (fD x h 1)):=VD (ho.app B) lo hx.s hx.t h a 1 (by omega)
theorem M2(h:Nat)(a:h<4294967296)(B:List ae)(lo:oN):D XA (.fn (.func jw) [] []) [.ptr p 0,.int .u32 h,.int .u8 2] ⟨H++B,lo⟩=some (dP (un ⟨H++B,lo⟩) ⟨H++B,lo⟩ (fD x h 2)):=VD (ho.app B) lo hx.s hx.t h a 2 (by omega)
omit ho in
theorem Bs(L:List ae)(lo:oN):D XA (.fn (.func Ee) [] []) [.agg (bS (aK x.s.T x.c.r).1),.agg (bf x.c)] ⟨L,lo⟩=some (dP (un ⟨L,lo⟩) ⟨L,lo⟩ (ask (decide (x.c.a+x.c.b<=(aK x.s.T x.c.r).1.len)) 9)):=
 avY (aK x.s.T x.c.r).1 (by have:=(hx.s.T.get x.c.r).len;omega) x.c hx.c L lo
end
section
variable{x:aq}{bk:AV}{p:Nat}{H:List ae}{lo:oN}(ho:Old p H (.box (aV x bk) none))(hx:mQ x)
include ho hx
theorem avZ: ∃a,D XA (.fn (.func I8) [] []) [.ptr p 0] ⟨H,lo⟩=some a/\aZ x.back bk p H lo (rl x 0) a:=by
 refine cz SH λN b=>?_
 simp only[F1,go_sem,simprocAttr,SH,b,ho.g,↓CL,λB=>aj7 x.c (H++B),M0 ho hx x.c.r hx.c.r,λB lo=>MG (ho.app B) lo hx.s x.c.r hx.c.r,λL=>Bs hx L,dI,dJ,EP,iU];have c:=zP (x:=x) (h:=x.c.r) (w:=0)
 (repeat' (first| (refine⟨?_,?_⟩)|intro _))<;>first
   | (simp only[rl,gA,okB,cV, *];first|exact aZ.err ho|exact aZ.here ho rfl)
   | (exfalso;simp_all)
theorem av0: ∃a,D XA (.fn (.func I9) [] []) [.ptr p 0] ⟨H,lo⟩=some a/\aZ x.back bk p H lo (rl x 1) a:=by
 refine cz SI λN b=>?_
 simp only[F1,go_sem,simprocAttr,SI,b,ho.g,↓CL,λB=>aj7 x.c (H++B),M1 ho hx x.c.r hx.c.r,λB lo=>MG (ho.app B) lo hx.s x.c.r hx.c.r,λL=>Bs hx L,dI,dJ,EP,iU];have c:=zP (x:=x) (h:=x.c.r) (w:=1)
 (repeat' (first| (refine⟨?_,?_⟩)|intro _))<;>first
   | (simp only[rl,gA,okB,cV, *];first|exact aZ.err ho|exact aZ.here ho rfl)
   | (exfalso;simp_all)
end
theorem av1{args:lA}{E:AS}{a:AS}(h:Cs args E=some (.ret v a)):D XA (.fn (.func yD) [] []) args E=some (.ret v a):=DJ rfl h
def xI(h: ¬a<8):l0 x a= .error 2:=by unfold l0 ask;simp[h]
def aj8(h:a<4294967296):min a 8<4294967296:=by omega
section
variable{x:aq}{bk:AV}{p:Nat}{H:List ae}{lo:oN}(ho:Old p H (.box (aV x bk) none))(hx:mQ x)
include ho hx
theorem av2: ∃b,D XA (.fn (.func Jn) [] []) [.ptr p 0] ⟨H,lo⟩=some b/\aZ x.back bk p H lo (vq x) b:=by
 refine cz SS λN c=>?_
 have a:=λH lo=>av1 (avL x.s.T hx.s.T x.c.r (min x.c.a 8) hx.c.r (aj8 hx.c.a) H lo)
 have em: ((min x.c.a 8:Nat):Int)=min (x.c.a:Int) 8:=by omega
 simp only[em]at a;simp(disch:=omega) only[F1,go_sem,simprocAttr,SS,c,ho.g,↓CL,M0 ho hx x.c.r hx.c.r,a,λH=>gP (sM x.s.T x.c.r (min x.c.a 8)).2 H,dI,dJ,EP]
 (repeat' (first| (refine⟨?_,?_⟩)|intro _))<;>(simp only[vq,gA,okB,cV, *];first|exact aZ.err ho|exact aZ.here ho rfl)
theorem av3: ∃b,D XA (.fn (.func Jd) [] []) [.ptr p 0] ⟨H,lo⟩=some b/\aZ x.back bk p H lo (vi x) b:=by
 refine cz SO λN a=>?_
 have c:=λH lo=>ly (auD x.s.T hx.s.T hx.s.tr x.c.r x.c.s hx.c.r hx.c.s H lo)
 simp only[F1,go_sem,simprocAttr,SO,a,ho.g,ho.s,↓CL,CS,M2 ho hx x.c.r hx.c.r,M1 ho hx x.c.s hx.c.s,c,xy,λH=>gP (vd x.s.T x.c.r x.c.s).2 H,dI,dJ,EP,cL,OL a]
 (repeat' (first| (refine⟨?_,?_⟩)|intro _))<;>(simp only[vi,gA,okB,cV, *];first|exact aZ.err ho|trivial)
theorem av4: ∃d,D XA (.fn (.func Jf) [] []) [.ptr p 0] ⟨H,lo⟩=some d/\aZ x.back bk p H lo (sQ x) d:=by
 refine cz Lp λN b=>?_
 have a:=λB lo=>MF (ho.app B) lo x.c.a
 by_cases c:x.c.a<8
 ·have e:=λH lo=>lx (ai4 x.s.O hx.s.O x.s.T hx.s.T hx.s.tr x.c.r hx.c.r x.c.a (by omega) H lo)
  simp(disch:=omega) only[F1,go_sem,simprocAttr,Lp,b,ho.g,ho.s,↓CL,CS,a,λB lo=>Gr (ho.app B) lo hx.s hx.t x.c.r hx.c.r,e,λH=>gP (dt x.s.O x.s.T x.c.r x.c.a true).2.2 H,dI,dJ,EP,gk,OL b]
  (repeat' (first| (refine⟨?_,?_⟩)|intro _))<;>(simp only[sQ,B7,gA,okB,cV, *];first|exact aZ.err ho|exact aZ.set rfl rfl)
 ·rw[xI c]at a;simp only[F1,go_sem,simprocAttr,Lp,b,ho.g,↓CL,a,dP,EP];simp only[sQ,cV,xI c];exact aZ.err ho
theorem av5: ∃d,D XA (.fn (.func Jl) [] []) [.ptr p 0] ⟨H,lo⟩=some d/\aZ x.back bk p H lo (vo x) d:=by
 refine cz SR λN c=>?_
 have e:=λH lo=>lx (avz (x.s.c8 x.aa) H lo)
 have i:=hx.t;have h: (x.aa:Int)<8:=by omega
 have g:784+x.aa*19<=945:=by omega
 have f:=λbk=> @My x bk x.aa hx.t
 have a:=λbk b=> @Mz x bk x.aa b hx.t
 simp only[F1,go_sem,simprocAttr,SR,c,ho.g,ho.s,↓CL,CS,e,h,↓f,a,g,MB,λH=>gP (vf (x.s.c8 x.aa)).2 H,dI,dJ,EP,OL c]
 (repeat' (first| (refine⟨?_,?_⟩)|intro _))<;>(simp only[vo,gA,okB,cV, *];first|exact aZ.err ho|trivial)
theorem av6: ∃f,D XA (.fn (.func Ji) [] []) [.ptr p 0] ⟨H,lo⟩=some f/\aZ x.back bk p H lo (vm x) f:=by
 refine cz SQ λN e=>?_
 have d:=λH lo=>lx (Cm x.s.K hx.s.K x.c.s hx.c.s H lo)
 have c:=hx.s.K.get x.c.s;generalize j:b9 x.s.K x.c.s=g at*;have h:=c.to;have he: ((g.1.to:Int)=x.aa)=(g.1.to=x.aa):=propext (by omega);obtain⟨w,a⟩:=ajj x.s.K hx.s.K x.c.s hx.c.s (hx.s.th x.c.s) (H++[.box [.int .i64 0,.int .u64 0,.int .u32 0] none,.box (fB g.1) none]) none;have a:=ly a;simp only[fB]at a d;have i: ∀b H lo,D XA (.fn (.func cQ) [] []) [.bool b,.int .i64 5] ⟨H,lo⟩=_:=λb=>lp b 5
 simp(disch:=omega) only[F1,go_sem,simprocAttr,SQ,e,ho.g,ho.s,↓CL,CS,d,a,he,i,λH=>gP g.2 H,dI,dJ,EP,iU,OL e]
 (repeat' (first| (refine⟨?_,?_⟩)|intro _))<;>(simp only[vm,gA,okB,cV, *];first|exact aZ.err ho|exact aZ.set rfl rfl)
theorem av7: ∃g,D XA (.fn (.func Jq) [] []) [.ptr p 0] ⟨H,lo⟩=some g/\aZ x.back bk p H lo (rm x) g:=by
 refine cz Lt λN c=>?_
 have f: ∀b H lo,D XA (.fn (.func cQ) [] []) [.bool b,.int .i64 2] ⟨H,lo⟩=_:=λb=>lp b 2
 by_cases a:x.c.a<8
 ·have e: (x.c.a:Int)<8:=by omega
  have l: (x.c.a:Int).tmod 8=x.c.a:=Int.tmod_eq_of_lt (by omega) (by omega);have k: (decide (x.c.a<8)&& !x.s.born (x.c.a % 8))= !x.s.born x.c.a:=by rw[ao0 a];simp[a]
  have j:=λbk=> @avu x bk x.c.a a
  have s1:=λ (y:aq) bk v=> @ajK y bk x.c.a v a
  have s2:=λ (y:aq) bk v=> @avv y bk x.c.a v a
  have i:936+x.c.a<=963:=by omega
  have h:944+x.c.a<=963:=by omega
  simp only[F1,go_sem,simprocAttr,Lt,c,ho.g,ho.s,ho.g2,ho.s2,↓CL,CS,e,l,i,h,↓j,f,s1,s2,dI,dJ,EP,iU,OL c];have d:rm x=ask (!x.s.born x.c.a) 2>>=λ_=>.ok ({x with s:={x.s with alive:=ar x.s.alive x.c.a true,born:=ar x.s.born x.c.a true}},bX):=by unfold rm;rw[k];rfl
  rw[d]
  (repeat' (first| (refine⟨?_,?_⟩)|intro _))<;>(simp only[okB,cV, *];first|exact aZ.err ho|exact aZ.set rfl rfl)
 ·have e: ¬(x.c.a:Int)<8:=by omega
  have f: ∀H lo,D XA (.fn (.func cQ) [] []) [.bool false,.int .i64 2] ⟨H,lo⟩=_:=λH lo=>lx (zN 2 H lo)
  have d:rm x= .error 2:=by unfold rm;rw[afv a];rfl
  simp only[F1,go_sem,simprocAttr,Lt,c,ho.g,↓CL,e,f,EP,iU];rw[d];exact aZ.err ho
theorem av8: ∃h,D XA (.fn (.func Jm) [] []) [.ptr p 0] ⟨H,lo⟩=some h/\aZ x.back bk p H lo (oy x) h:=by
 refine cz Lr λN d=>?_
 have b:=λH lo=>lx (Cl x.s.O hx.s.O x.s.T hx.s.T hx.s.tr x.c.s hx.c.s H lo)
 have f:=λH lo=>avN x.s.T hx.s.T hx.s.tr x.c.r (min x.c.a 8) x.c.s (decide ((b0 x.s.O x.s.T x.c.s).kind=3)) hx.c.r hx.c.s (aj8 hx.c.a) H lo
 have em: ((min x.c.a 8:Nat):Int)=min (x.c.a:Int) 8:=by omega
 have c:decide ((b0 x.s.O x.s.T x.c.s).kind=3)=decide (((b0 x.s.O x.s.T x.c.s).kind:Int)=3):=ahb.2 (by omega);simp only[em,c]at f;by_cases e:x.c.s=0
 ·have a:decide ((x.c.s:Int)=0)=true:=agR (by omega);simp(disch:=omega) only[F1,go_sem,simprocAttr,Lr,d,ho.g,ho.s,↓CL,CS,M1 ho hx x.c.r hx.c.r,a,b,jG,f,λH=>gP (ni x.s.T x.c.r (min x.c.a 8) x.c.s (decide (((b0 x.s.O x.s.T x.c.s).kind:Int)=3))).2 H,dI,dJ,EP,OL d,cL];have g:oy x=fD x x.c.r 1>>=λ_=>bc (ni x.s.T x.c.r (min x.c.a 8) x.c.s (decide (((b0 x.s.O x.s.T x.c.s).kind:Int)=3))).2>>=λ_=>.ok (x.t (ni x.s.T x.c.r (min x.c.a 8) x.c.s (decide (((b0 x.s.O x.s.T x.c.s).kind:Int)=3))).1,bX):=by
   unfold oy;rw[afi (by simpa using e),c];rfl
  rw[g];clear e a c em
  (repeat' (first| (refine⟨?_,?_⟩)|intro _))<;>(simp only[okB,cV, *];first|exact aZ.err ho|exact aZ.set rfl rfl)
 ·have a:decide ((x.c.s:Int)=0)=false:=afv (by omega);simp(disch:=omega) only[F1,go_sem,simprocAttr,Lr,d,ho.g,ho.s,↓CL,CS,M1 ho hx x.c.r hx.c.r,M0 ho hx x.c.s hx.c.s,a,b,jG,f,λH=>gP (ni x.s.T x.c.r (min x.c.a 8) x.c.s (decide (((b0 x.s.O x.s.T x.c.s).kind:Int)=3))).2 H,dI,dJ,EP,OL d,cL];have g:oy x=fD x x.c.r 1>>=λ_=>fD x x.c.s 0>>=λ_=>bc (ni x.s.T x.c.r (min x.c.a 8) x.c.s (decide (((b0 x.s.O x.s.T x.c.s).kind:Int)=3))).2>>=λ_=>.ok (x.t (ni x.s.T x.c.r (min x.c.a 8) x.c.s (decide (((b0 x.s.O x.s.T x.c.s).kind:Int)=3))).1,bX):=by
   unfold oy;rw[afl (by simpa using e),c];rfl
  rw[g];clear e a c em
  (repeat' (first| (refine⟨?_,?_⟩)|intro _))<;>(simp only[okB,cV, *];first|exact aZ.err ho|exact aZ.set rfl rfl)
end
theorem vK: (x.t t).c=x.c/\ (x.t t).aa=x.aa/\ (x.t t).s.T=t/\ (x.t t).s.O=x.s.O/\ (x.t t).s.K=x.s.K/\ (x.t t).s.c8=x.s.c8/\ (x.t t).run=x.run:=⟨rfl,rfl,rfl,rfl,rfl,rfl,rfl⟩
theorem MI{t:bM}: (x.o t).c=x.c/\ (x.o t).aa=x.aa/\ (x.o t).s.O=t/\ (x.o t).s.T=x.s.T/\ (x.o t).s.K=x.s.K/\ (x.o t).s.c8=x.s.c8:=⟨rfl,rfl,rfl,rfl,rfl,rfl⟩
theorem aj9{b:cK}: (x.bx i b).c=x.c/\ (x.bx i b).aa=x.aa/\ (x.bx i b).s.O=x.s.O/\ (x.bx i b).s.T=x.s.T/\ (x.bx i b).s.K=x.s.K/\ (x.bx i b).s.c8=ar x.s.c8 i b:=⟨rfl,rfl,rfl,rfl,rfl,rfl⟩
section
variable{x:aq}{bk:AV}{p:Nat}{H:List ae}{lo:oN}(ho:Old p H (.box (aV x bk) none))(hx:mQ x)
include ho hx
omit ho hx in
theorem aZ.mR:aZ x.back bk p H lo (.error e) (.panic (iT e) ⟨H.set p (.box (aV y bk) none),lo⟩):=⟨y,rfl⟩
theorem av9: ∃f,D XA (.fn (.func Jc) [] []) [.ptr p 0] ⟨H,lo⟩=some f/\aZ x.back bk p H lo (vh x) f:=by
 refine cz SN λN e=>?_
 have c:=λH lo=>lx (zI x.s.T hx.s.T hx.s.tr x.c.r hx.c.r H lo)
 have g:decide (root x.s.T x.c.r≠x.c.r)=decide (¬((root x.s.T x.c.r:Nat):Int)=x.c.r):=ahb.2 (by omega);have d: ∀b H lo,D XA (.fn (.func cQ) [] []) [.bool b,.int .i64 12] ⟨H,lo⟩=_:=λb=>lp b 12
 have a:bm (x.t (jg x.s.T x.c.r).1).s:=hx.s.vI (hx.s.eA.cut _);have hw:=λB lo=>MH (x:=x.t (jg x.s.T x.c.r).1) (bk:=bk) ((ho.set _).app B) lo a x.c.r hx.c.r x.aa (by have:=hx.t;omega)
 simp only[F1,go_sem,simprocAttr,SN,e,ho.g,ho.s,ho.g2,ho.s2,↓CL,M2 ho hx x.c.r hx.c.r,c,d,λB lo=>VE (ho.app B) lo hx.s x.c.r hx.c.r,hw,vK,dI,dJ,EP,iU,OL e]
 (repeat' (first| (refine⟨?_,?_⟩)|intro _))<;>(simp only[vh,vg,mM,vK,gA,okB,cV, *];first|exact aZ.err ho|exact aZ.mR|exact aZ.set rfl rfl)
theorem awa: ∃c,D XA (.fn (.func Je) [] []) [.ptr p 0] ⟨H,lo⟩=some c/\aZ x.back bk p H lo (vk x) c:=by
 refine cz SP λN b=>?_
 have a:=hx.s.eA.cut x.c.r;have hw:=λH lo=>lx (auR x.s.O (jg x.s.T x.c.r).1 a.ok a.tr x.c.r hx.c.r x.aa (by have:=hx.t;omega) H lo)
 simp only[F1,go_sem,simprocAttr,SP,b,ho.g,ho.s,ho.g2,ho.s2,↓CL,CS,M2 ho hx x.c.r hx.c.r,λB lo=>VE (ho.app B) lo hx.s x.c.r hx.c.r,hw,vK,λH=>gP (B2 x.s.O (jg x.s.T x.c.r).1 x.c.r x.aa).2 H,dI,dJ,EP,OL b,gk]
 (repeat' (first| (refine⟨?_,?_⟩)|intro _))<;>(simp only[vk,vg,vK,gA,okB,cV, *];first|exact aZ.err ho|exact aZ.mR|exact aZ.set rfl rfl)
theorem aka: ∃t,D XA (.fn (.func Ba) [] []) [.ptr p 0] ⟨H,lo⟩=some t/\aZ x.back bk p H lo (ox x) t:=by
 refine cz FE λN h=>?_
 have u:=hx.t;have s: (x.aa:Int)<8:=by omega
 have r:784+x.aa*19<=945:=by omega
 have o:=λbk=> @My x bk x.aa hx.t
 have d:=λbk b=> @Mz x bk x.aa b hx.t
 have f:=λH lo=>lx (avy (x.s.c8 x.aa) (hx.s.bx _) H lo)
 have i:=(hx.s.bx x.aa).take;have l:bm (x.bx x.aa (mK (x.s.c8 x.aa)).1).s:=hx.s.Cy i.1;have m:=i.2.aL;have hw:=λB lo=>MH (x:=x.bx x.aa (mK (x.s.c8 x.aa)).1) (bk:=bk) ((ho.set _).app B) lo l (mK (x.s.c8 x.aa)).2.1.aL m x.aa (by omega)
 generalize n:mK (x.s.c8 x.aa)=g at*;simp only[oJ]at f;have e:N+1+1=N+2:=rfl;by_cases j:g.2.1.aL=0
 ·have a:decide ((g.2.1.aL:Int)=0)=true:=agR (by omega);have k: (g.2.1.aL≠0/\g.2.1.share=false)=False:=aBe λq=>q.1 j
  simp only[F1,go_sem,simprocAttr,FE,h,ho.g,ho.s,↓CL,CS,f,s,↓o,d,r,e,a,MB,λH=>gP g.2.2 H,dI,dJ,EP,OL h];clear j a
  (repeat' (first| (refine⟨?_,?_⟩)|intro _))<;>(simp only[ox,n,k,amn];simp only[gA,okB,cV, *];first|exact aZ.err ho|exact aZ.set rfl rfl)
 ·have a:decide ((g.2.1.aL:Int)=0)=false:=afv (by omega);cases c:g.2.1.share with
  |true=>
   rw[c]at f;have k: (g.2.1.aL≠0/\g.2.1.share=false)=False:=aBe λq=>by rw[c]at q;cases q.2
   simp only[F1,go_sem,simprocAttr,FE,h,ho.g,ho.s,↓CL,CS,f,s,↓o,d,r,e,a,MB,λH=>gP g.2.2 H,dI,dJ,EP,OL h];clear j a c
   (repeat' (first| (refine⟨?_,?_⟩)|intro _))<;>(simp only[ox,n,k,amn];simp only[gA,okB,cV, *];first|exact aZ.err ho|exact aZ.set rfl rfl)
  |false=>
   rw[c]at f;have k: (g.2.1.aL≠0/\g.2.1.share=false)=True:=aBl ⟨j,c⟩;simp only[F1,go_sem,simprocAttr,FE,h,ho.g,ho.s,ho.g2,ho.s2,↓CL,CS,f,s,↓o,d,r,e,a,hw,aj9,MB,λH=>gP g.2.2 H,dI,dJ,EP,iU,OL h];clear j a c
   (repeat' (first| (refine⟨?_,?_⟩)|intro _))<;>(simp only[ox,n,k,aiH];simp only[mM,aj9,gA,okB,cV, *];first|exact aZ.err ho|exact aZ.mR|exact aZ.set rfl rfl)
end
def awb(c:gM t.b): (lV t a n).2.1<4294967296:=by
 unfold lV;split
 ·simp
 ·split
  ·simp
  ·split
   ·rename_i i b;exact F4 (sK b).1 (c i).1
   grind
def akb(b:gM t.b): (hE t a n).2.1<4294967296:=by
 unfold hE;dsimp only;split
 ·simp
 ·exact awb b
section
variable{x:aq}{bk:AV}{p:Nat}{H:List ae}{lo:oN}(ho:Old p H (.box (aV x bk) none))(hx:mQ x)
include ho hx
theorem awc: ∃i,D XA (.fn (.func I6) [] []) [.ptr p 0] ⟨H,lo⟩=some i/\aZ x.back bk p H lo (pX x) i:=by
 refine cz Lo λN d=>?_
 have j:=hx.t;have g:=λH lo=>lx (auu x.s.T hx.s.T hx.s.tr x.c.r (min x.c.a 65) hx.c.r H lo)
 have em: ((min x.c.a 65:Nat):Int)=min (x.c.a:Int) 65:=by omega
 have e:bm (x.t (hE x.s.T x.c.r (min x.c.a 65)).1).s:=hx.s.vI (hx.s.eA.new _ _ hx.c.r);have f: (hE x.s.T x.c.r (min x.c.a 65)).2.1<4294967296:=akb hx.s.T.b;have hw:=λB lo=>MH (x:=x.t (hE x.s.T x.c.r (min x.c.a 65)).1) (bk:=bk) ((ho.set _).app B) lo e _ f x.aa (by omega)
 have h:=λH=>gP (hE x.s.T x.c.r (min x.c.a 65)).2.2 H
 have e1:pX x=(if x.c.r≠0 then fD x x.c.r 1 else .ok ())>>=λ_=>bc (hE x.s.T x.c.r (min x.c.a 65)).2.2>>=λ_=>(if x.c.r=0 then mM (x.t (hE x.s.T x.c.r (min x.c.a 65)).1) (hE x.s.T x.c.r (min x.c.a 65)).2.1 x.aa else .ok (x.t (hE x.s.T x.c.r (min x.c.a 65)).1))>>=λy=>.ok (y,{bX with w:=(hE x.s.T x.c.r (min x.c.a 65)).2.1}):=by
  unfold pX;by_cases q:x.c.r=0
  ·rw[afi (by simpa using q),afi (by simpa using q)];simp only[afl q];rfl
  ·rw[afl (by simpa using q),afl (by simpa using q)];simp only[afi q];rfl
 simp only[zL,em]at g;generalize hE x.s.T x.c.r (min x.c.a 65)=n at*;rw[e1];by_cases b:x.c.r=0
 ·have a:decide ((x.c.r:Int)=0)=true:=agR (by omega);have c: (x.c.r≠0)=False:=aBe λq=>q b
  have e3: (x.c.r=0)=True:=aBl b;simp only[c,e3,amn,aiH];simp(disch:=omega) only[F1,go_sem,simprocAttr,Lo,d,ho.g,ho.s,ho.g2,ho.s2,↓CL,CS,g,a,h,hw,vK,cL,dI,dJ,EP,OL d];clear b a c e3
  (repeat' (first| (refine⟨?_,?_⟩)|intro _))<;>(simp only[mM,vK,gA,okB,cV, *];first|exact aZ.err ho|exact aZ.mR|exact aZ.set rfl rfl)
 ·have a:decide ((x.c.r:Int)=0)=false:=afv (by omega);have c: (x.c.r≠0)=True:=aBl b;have e3: (x.c.r=0)=False:=aBe b;simp only[c,e3,amn,aiH];simp(disch:=omega) only[F1,go_sem,simprocAttr,Lo,d,ho.g,ho.s,ho.g2,↓CL,CS,M1 ho hx x.c.r hx.c.r,g,a,h,vK,cL,dI,dJ,EP,OL d];clear b a c e3
  (repeat' (first| (refine⟨?_,?_⟩)|intro _))<;>(simp only[okB,cV, *];first|exact aZ.err ho|exact aZ.mR|exact aZ.set rfl rfl)
theorem awd: ∃I,D XA (.fn (.func Jh) [] []) [.ptr p 0] ⟨H,lo⟩=some I/\aZ x.back bk p H lo (pZ x) I:=by
 refine cz zh λN h=>?_
 have M:=hx.t;have l:=λB lo=>MF (ho.app B) lo x.c.a
 by_cases G:x.c.a<8
 ·have y: ∀b H lo,D XA (.fn (.func cQ) [] []) [.bool b,.int .i64 2] ⟨H,lo⟩=_:=λb=>lp b 2
  have v: ∀b H lo,D XA (.fn (.func cQ) [] []) [.bool b,.int .i64 4] ⟨H,lo⟩=_:=λb=>lp b 4
  have u: ∀b H lo,D XA (.fn (.func cQ) [] []) [.bool b,.int .i64 5] ⟨H,lo⟩=_:=λb=>lp b 5
  have L:decide (x.c.b<=1)=decide ((x.c.b:Int)<=1):=ahb.2 (by omega);have s:decide (x.c.b=1)=decide ((x.c.b:Int)=1):=ahb.2 (by omega);have d:=λH lo=>lx (en x.s.T.b x.c.r hx.c.r H lo)
  have C:ax x.s.T.b x.c.r=x.s.T.ax x.c.r:=rfl;rw[C]at d;have o:=λH lo=>ly (au5 x.s.K hx.s.K ⟨x.c.r,x.aa % 256,x.c.a % 256,decide (x.c.b=1),x.c.s⟩ ⟨hx.c.r,aoG _ (by omega),aoG _ (by omega),hx.c.s⟩ H lo)
  have F:x.aa % 256=x.aa:=ao0 (by omega);have E:x.c.a % 256=x.c.a:=ao0 (by omega);simp only[nC,F,E,s]at o;have t:=λH=>gP (lh x.s.K ⟨x.c.r,x.aa,x.c.a,decide ((x.c.b:Int)=1),x.c.s⟩).2.2 H
  have k:=λH lo=>lx (Cl x.s.O hx.s.O x.s.T hx.s.T hx.s.tr x.c.r hx.c.r H lo)
  have A:=hx.s.O.of x.s.T x.c.r;have j:=λH lo=>lx (Cm x.s.K hx.s.K x.c.s hx.c.s H lo)
  have z:=hx.s.K.get x.c.s;have e1:pZ x=l0 x x.c.a>>=λ_=>ask (decide ((x.c.b:Int)<=1)) 2>>=λ_=>ask (x.s.T.ax x.c.r) 4>>=λ_=>(if x.c.s=0 then ask (decide ((b0 x.s.O x.s.T x.c.r).kind=1)&&decide ((b0 x.s.O x.s.T x.c.r).aa=x.aa)) 5 else bc (b9 x.s.K x.c.s).2>>=λ_=>ask (decide ((b9 x.s.K x.c.s).1.to=x.aa)&&decide ((b9 x.s.K x.c.s).1.aL=x.c.r)) 5)>>=λ_=>
    bc (lh x.s.K ⟨x.c.r,x.aa,x.c.a,decide ((x.c.b:Int)=1),x.c.s⟩).2.2>>=λ_=>.ok (x.k (lh x.s.K ⟨x.c.r,x.aa,x.c.a,decide ((x.c.b:Int)=1),x.c.s⟩).1,{bX with w:=(lh x.s.K ⟨x.c.r,x.aa,x.c.a,decide ((x.c.b:Int)=1),x.c.s⟩).2.1}):=by
   unfold pZ;rw[L,s,F,E];by_cases q:x.c.s=0
   ·simp only[afl q];rfl
   ·simp only[afi q];cases l0 x x.c.a with
    |error e=>rfl
    |ok _=>
     simp only[okB];cases ask (decide ((x.c.b:Int)<=1)) 2 with
     |error e=>rfl
     |ok _=>
      simp only[okB];cases ask (x.s.T.ax x.c.r) 4 with
      |error e=>rfl
      |ok _=>
       simp only[okB];cases bc (b9 x.s.K x.c.s).2<;>rfl
  rw[e1];generalize lh x.s.K ⟨x.c.r,x.aa,x.c.a,decide ((x.c.b:Int)=1),x.c.s⟩=g at*;generalize b0 x.s.O x.s.T x.c.r=w at*;generalize b9 x.s.K x.c.s=tg at*;simp only[jG]at k;by_cases m:x.c.s=0
  ·have c:decide ((x.c.s:Int)=0)=true:=agR (by omega);have e3: (x.c.s=0)=True:=aBl m;simp only[e3,aiH];by_cases f:w.kind=1
   ·have a:decide ((w.kind:Int)=1)=true:=agR (by omega);have r:decide (w.aa=x.aa)=decide ((w.aa:Int)=x.aa):=ahb.2 (by omega);have J:=A.aa;simp only[f,r,decide_true,anz];simp(disch:=omega) only[F1,go_sem,simprocAttr,zh,h,ho.g,ho.s,↓CL,CS,l,y,d,v,c,k,a,u,o,t,qe,dI,dJ,EP,iU,OL h];clear m c e3 f a r
    (repeat' (first| (refine⟨?_,?_⟩)|intro _))<;>(simp only[okB,cV, *];first|exact aZ.err ho|exact aZ.mR|exact aZ.set rfl rfl)
   ·have a:decide ((w.kind:Int)=1)=false:=afv (by omega);have i:decide (w.kind=1)=false:=afv f;simp only[i,akq];simp(disch:=omega) only[F1,go_sem,simprocAttr,zh,h,ho.g,ho.s,↓CL,CS,l,y,d,v,c,k,a,u,o,t,qe,dI,dJ,EP,iU,OL h];clear m c e3 f a i
    (repeat' (first| (refine⟨?_,?_⟩)|intro _))<;>(simp only[okB,cV, *];first|exact aZ.err ho|exact aZ.mR|exact aZ.set rfl rfl)
  ·have c:decide ((x.c.s:Int)=0)=false:=afv (by omega);have e3: (x.c.s=0)=False:=aBe m;simp only[e3,amn];simp only[fB]at j;have K:=z.to;have n:=λH=>gP tg.2 H
   by_cases f:tg.1.to=x.aa
   ·have a:decide ((tg.1.to:Int)=x.aa)=true:=agR (by omega);have r:decide (tg.1.aL=x.c.r)=decide ((tg.1.aL:Int)=x.c.r):=ahb.2 (by omega);have i:decide (tg.1.to=x.aa)=true:=agR f;simp only[i,r,anz];simp(disch:=omega) only[F1,go_sem,simprocAttr,zh,h,ho.g,ho.s,↓CL,CS,l,y,d,v,c,j,n,a,u,o,t,qe,dI,dJ,EP,iU,OL h];clear m c e3 f a i r
    (repeat' (first| (refine⟨?_,?_⟩)|intro _))<;>(simp only[okB,cV, *];first|exact aZ.err ho|exact aZ.mR|exact aZ.set rfl rfl)
   ·have a:decide ((tg.1.to:Int)=x.aa)=false:=afv (by omega);have i:decide (tg.1.to=x.aa)=false:=afv f;simp only[i,akq];simp(disch:=omega) only[F1,go_sem,simprocAttr,zh,h,ho.g,ho.s,↓CL,CS,l,y,d,v,c,j,n,a,u,o,t,qe,dI,dJ,EP,iU,OL h];clear m c e3 f a i
    (repeat' (first| (refine⟨?_,?_⟩)|intro _))<;>(simp only[okB,cV, *];first|exact aZ.err ho|exact aZ.mR|exact aZ.set rfl rfl)
 ·rw[xI G]at l;simp(disch:=omega) only[F1,go_sem,simprocAttr,zh,h,ho.g,↓CL,l,dP,EP];simp only[pZ,cV,xI G];exact aZ.err ho
end
section
variable{x:aq}{bk:AV}{p:Nat}{H:List ae}{lo:oN}(ho:Old p H (.box (aV x bk) none))(hx:mQ x)
include ho hx
theorem awe: ∃E,D XA (.fn (.func Jj) [] []) [.ptr p 0] ⟨H,lo⟩=some E/\aZ x.back bk p H lo (nm x) E:=by
 refine cz zi λN f=>?_
 have G:=hx.t;have l:=λB lo=>MF (ho.app B) lo x.c.a
 by_cases u:x.c.a<8
 ·have w: (x.c.a:Int)<8:=by omega
  have v:784+x.c.a*19<=945:=by omega
  have t:=λ (y:aq) bk=> @My y bk x.c.a u
  have d:=λ (y:aq) bk b=> @Mz y bk x.c.a b u
  have z: ∀b H lo,D XA (.fn (.func cQ) [] []) [.bool b,.int .i64 2] ⟨H,lo⟩=_:=λb=>lp b 2
  have i:decide (x.c.b<=1)=decide ((x.c.b:Int)<=1):=ahb.2 (by omega);have g:x.aa % 256=x.aa:=ao0 (by omega);have F:=hx.c.v;by_cases h:x.c.r=0
  ·have a:decide ((x.c.r:Int)=0)=true:=agR (by omega);have j: (x.c.r≠0)=False:=aBe λq=>q h
   have es: (decide (x.c.r≠0)&&decide (x.c.b=1))=false:=by rw[afv (by simpa using h)];rfl
   have e:=λH lo=>lx (Vs (x.s.c8 x.c.a) (hx.s.bx _) ⟨x.aa,x.c.v,x.c.r,false⟩ H lo)
   simp only[oJ]at e;have m:=λH=>gP (ow (x.s.c8 x.c.a) ⟨x.aa,x.c.v,x.c.r,false⟩).2 H
   simp(disch:=omega) only[F1,go_sem,simprocAttr,zi,f,ho.g,ho.s,↓CL,CS,l,z,a,w,v,↓t,d,e,m,MB,dI,dJ,EP,OL f];simp only[nm,es,agX,amn,i,g];simp only[j,amn];clear h a j es i g
   (repeat' (first| (refine⟨?_,?_⟩)|intro _))<;>(simp only[gA,okB,cV, *];first|exact aZ.err ho|exact aZ.mR|exact aZ.set rfl rfl)
  ·have a:decide ((x.c.r:Int)=0)=false:=afv (by omega);have j: (x.c.r≠0)=True:=aBl h;by_cases s:x.c.b=1
   ·have c:decide ((x.c.b:Int)=1)=true:=agR (by omega);have es: (decide (x.c.r≠0)&&decide (x.c.b=1))=true:=by rw[agR (by simpa using h),agR s];rfl
    have r:=λH lo=>lx (ai4 x.s.O hx.s.O x.s.T hx.s.T hx.s.tr x.c.r hx.c.r x.c.a (by omega) H lo)
    have e:=λH lo=>lx (Vs (x.s.c8 x.c.a) (hx.s.bx _) ⟨x.aa,x.c.v,x.c.r,true⟩ H lo)
    simp only[oJ]at e;have m:=λH=>gP (ow (x.s.c8 x.c.a) ⟨x.aa,x.c.v,x.c.r,true⟩).2 H
    by_cases k: (dt x.s.O x.s.T x.c.r x.c.a true).2.2=0
    ·have k':decide (((dt x.s.O x.s.T x.c.r x.c.a true).2.2:Int)=0)=true:=agR (by omega);simp(disch:=omega) only[F1,go_sem,simprocAttr,zi,f,ho.g,ho.s,ho.g2,ho.s2,↓CL,CS,l,z,a,c,λB lo=>Gr (ho.app B) lo hx.s hx.t x.c.r hx.c.r,r,k',w,v,↓t,d,e,m,MB,gk,MI,dI,dJ,EP,OL f];simp only[nm,es,aiH,i,g,B7];have n: ((dt x.s.O x.s.T x.c.r x.c.a true).2.2=0)=True:=aBl k;simp only[n,aiH];clear h a j es i g k k' n s c
     (repeat' (first| (refine⟨?_,?_⟩)|intro _))<;>(simp only[MI,gA,okB,cV, *];first|exact aZ.err ho|exact aZ.mR|exact aZ.set rfl rfl)
    ·have k':decide (((dt x.s.O x.s.T x.c.r x.c.a true).2.2:Int)=0)=false:=afv (by omega);simp(disch:=omega) only[F1,go_sem,simprocAttr,zi,f,ho.g,ho.s,↓CL,CS,l,z,a,c,λB lo=>Gr (ho.app B) lo hx.s hx.t x.c.r hx.c.r,r,k',w,v,↓t,d,e,m,MB,gk,dI,dJ,EP,OL f];simp only[nm,es,aiH,i,g,B7];have n: ((dt x.s.O x.s.T x.c.r x.c.a true).2.2=0)=False:=aBe k;simp only[n,amn];clear h a j es i g k k' n s c
     (repeat' (first| (refine⟨?_,?_⟩)|intro _))<;>(simp only[gA,okB,cV, *];first|exact aZ.err ho|exact aZ.mR|exact aZ.set rfl rfl)
   ·have c:decide ((x.c.b:Int)=1)=false:=afv (by omega);have es: (decide (x.c.r≠0)&&decide (x.c.b=1))=false:=by rw[afv s,asR]
    have o:=hx.s.eA.cut x.c.r;have A:=λH lo=>lx (auS x.s.O (jg x.s.T x.c.r).1 o.ok o.tr x.c.r hx.c.r H lo)
    have C:=λH=>gP (zt x.s.O (jg x.s.T x.c.r).1 x.c.r).2 H
    have e:=λH lo=>lx (Vs (x.s.c8 x.c.a) (hx.s.bx _) ⟨x.aa,x.c.v,x.c.r,false⟩ H lo)
    simp only[oJ]at e;have m:=λH=>gP (ow (x.s.c8 x.c.a) ⟨x.aa,x.c.v,x.c.r,false⟩).2 H
    simp(disch:=omega) only[F1,go_sem,simprocAttr,zi,f,ho.g,ho.s,ho.g2,ho.s2,↓CL,CS,l,z,a,c,M2 ho hx x.c.r hx.c.r,λB lo=>VE (ho.app B) lo hx.s x.c.r hx.c.r,A,C,w,v,↓t,d,e,m,MB,gk,MI,vK,dI,dJ,EP,OL f];simp only[nm,es,agX,amn,i,g];simp only[j,aiH];clear h a j es i g s c
    (repeat' (first| (refine⟨?_,?_⟩)|intro _))<;>(simp only[vg,vK,MI,gA,okB,cV, *];first|exact aZ.err ho|exact aZ.mR|exact aZ.set rfl rfl)
 ·rw[xI u]at l;simp(disch:=omega) only[F1,go_sem,simprocAttr,zi,f,ho.g,↓CL,l,dP,EP];simp only[nm,cV,xI u];exact aZ.err ho
end
theorem VG{r:dc}{l:List aE}:aH (bS r) 2 [ef l,.int .i64 n]=bS {r with runs:=l,len:=n}:=rfl
def akc(l:List aE)(r:aE):aN (l++[r])=aN l+r.2:=by unfold aN;simp
def Cz{l:List aE}{s:Nat}(h:gO l n s a=some k):k+s<=aN l*32:=by
 unfold gO at h
 grind
section
variable{x:aq}{bk:AV}{p:Nat}{H:List ae}{lo:oN}(ho:Old p H (.box (aV x bk) none))(hx:mQ x)
include ho hx
theorem awf: ∃cr,D XA (.fn (.func I7) [] []) [.ptr p 0] ⟨H,lo⟩=some cr/\aZ x.back bk p H lo (jH x) cr:=by
 refine cz zg λN G=>?_
 have ht:=hx.t;have o: ((min x.c.a 129:Nat):Int)=min (x.c.a:Int) 129:=by omega
 have m: ((min x.c.b 9:Nat):Int)=min (x.c.b:Int) 9:=by omega
 have u:min x.c.a 129<2147483648:=by omega
 have F:min x.c.b 9<2147483648:=by omega
 have d:=λH lo=>lx (aun (min x.c.a 129) (min x.c.b 9) u F H lo)
 have T: ∀b H lo,D XA (.fn (.func cQ) [] []) [.bool b,.int .i64 2] ⟨H,lo⟩=_:=λb=>lp b 2
 have W: ∀b H lo,D XA (.fn (.func cQ) [] []) [.bool b,.int .i64 6] ⟨H,lo⟩=_:=λb=>lp b 6
 have E:=M1 ho hx x.c.r hx.c.r;have z:=λB lo=>MG (ho.app B) lo hx.s x.c.r hx.c.r
 have I:=hx.s.T.get x.c.r;have a:=I.rb;have yx:=I.len;have J: ∀l:List aE,(ef l).refs=0:=λl=>cM (m9 l) (bA (λ_=>rfl) l)
 have hrp:=I.aN;cases C:pY (min x.c.a 129) (min x.c.b 9)with
 |none=>
  rw[C]at d;simp only[o,m]at d;simp(disch:=omega) only[F1,go_sem,simprocAttr,zg,G,ho.g,↓CL,d,T,ask,dP,EP];simp only[jH,C,cV];exact aZ.err ho
 |some n=>
  have hn5:n<=5:=by
   unfold pY at C;split at C
   ·cases C;omega
   ·cases C
  have f:=λH lo=>lx (aiT (ef (aK x.s.T x.c.r).1.runs) (aK x.s.T x.c.r).1.len (aK x.s.T x.c.r).1.runs (by omega) (m9 _) a.1 (min x.c.a 129) (min x.c.b 9) u F H lo)
  have i:=λH lo=>lx (aiU (ef (aK x.s.T x.c.r).1.runs) (aK x.s.T x.c.r).1.len (aK x.s.T x.c.r).1.runs (by omega) (m9 _) a.1 (min x.c.a 129) (min x.c.b 9) u F H lo)
  rw[C]at d;cases O:gO (aK x.s.T x.c.r).1.runs (aK x.s.T x.c.r).1.len (min x.c.a 129) (min x.c.b 9)with
  |some k=>
   have hk:=Cz O;have V:vB (aK x.s.T x.c.r).1.runs (aK x.s.T x.c.r).1.len (min x.c.a 129) (min x.c.b 9)=k+min x.c.a 129:=by unfold vB;rw[O]
   have e:=λB lo=>VF (ho.app B) lo hx.s x.c.r hx.c.r {(aK x.s.T x.c.r).1 with len:=k+min x.c.a 129} a.1 (by have:=a.2;show(aK x.s.T x.c.r).1.runs.length<=65;omega) (by show k+min x.c.a 129<4294967296;omega)
   rw[V,O]at i;simp only[O,xw]at f;generalize hsv:min x.c.a 129=sz at*;generalize hav:min x.c.b 9=al at*;have U:aH (bS (aK x.s.T x.c.r).1) 2 [ef (aK x.s.T x.c.r).1.runs,.int .i64 ((k:Int)+sz)]=bS {(aK x.s.T x.c.r).1 with len:=k+sz}:=by
    rw[<-api];exact VG
   simp(disch:=omega) only[F1,go_sem,simprocAttr,zg,G,ho.g,ho.s,↓CL,d,T,E,z,f,i,e,U,J,<-o,<-m,kj,dI,dJ,EP,iU,OL G];have L:=zP (x:=x) (h:=x.c.r) (w:=1)
   (repeat' (first| (refine⟨?_,?_⟩)|intro _))<;>first
     | (simp only[jH,nj,gA,okB,cV, *];first|exact aZ.err ho|exact aZ.set rfl rfl)
     | (exfalso;simp_all[ask])
  |none=>
   have A:=λH lo=>lx (Mk (ef (aK x.s.T x.c.r).1.runs) (aK x.s.T x.c.r).1.len (aK x.s.T x.c.r).1.runs (m9 _) a.1 H lo)
   have M:=λH lo=>lx (aur (ef (aK x.s.T x.c.r).1.runs) (aK x.s.T x.c.r).1.len (aK x.s.T x.c.r).1.runs (m9 _) a.1 x.run H lo)
   have g:RB ((aK x.s.T x.c.r).1.runs++[x.run]):=⟨by have:=a.2;simp;omega,λy hy=>by
    rcases agT.1 hy with q|q
    ·exact a.1.2 y q
    ·rw[agV.1 q];exact hx.run⟩
   have S: ((aK x.s.T x.c.r).1.runs++[x.run]).length<=65:=by have:=a.2;simp;omega
   have DO:=akc (aK x.s.T x.c.r).1.runs x.run;have j:aN (aK x.s.T x.c.r).1.runs*32<4294967296:=by omega
   have R:=λH lo=>lx (aiS (ef ((aK x.s.T x.c.r).1.runs++[x.run])) (aN (aK x.s.T x.c.r).1.runs*32) ((aK x.s.T x.c.r).1.runs++[x.run]) j (m9 _) g S H lo)
   have i:=λH lo=>lx (aiU (ef ((aK x.s.T x.c.r).1.runs++[x.run])) (aN (aK x.s.T x.c.r).1.runs*32) ((aK x.s.T x.c.r).1.runs++[x.run]) j (m9 _) g (min x.c.a 129) (min x.c.b 9) u F H lo)
   have K:decide (aN (aK x.s.T x.c.r).1.runs+n<=(aK x.s.T x.c.r).1.ds)=decide (((aN (aK x.s.T x.c.r).1.runs:Nat):Int)+n<=(aK x.s.T x.c.r).1.ds):=ahb.2 (by omega);have t:IntKind.i64.wrap ((aN (aK x.s.T x.c.r).1.runs:Nat)+(n:Int))=(aN (aK x.s.T x.c.r).1.runs:Nat)+(n:Int):=wrap_i64 (by omega) (by omega);simp only[O,xw]at f;cases has:x.asks with
   |true=>
    simp(disch:=omega) only[F1,go_sem,simprocAttr,zg,G,ho.g,ho.s,ho.g2,↓CL,CS,d,T,W,E,z,f,A,t,has,<-o,<-m,kj,dI,dJ,EP,iU,OL G];have L:=zP (x:=x) (h:=x.c.r) (w:=1)
    (repeat' (first| (refine⟨?_,?_⟩)|intro _))<;>first
      | (simp only[jH,gA,okB,cV,aiH, *];first|exact aZ.err ho|exact aZ.set rfl rfl)
      | (exfalso;simp_all[ask])
   |false=>
    by_cases Z:x.run.2=n
    ·have r:decide ((x.run.2:Int)=n)=true:=agR (by omega);have Q:vB ((aK x.s.T x.c.r).1.runs++[x.run]) (aN (aK x.s.T x.c.r).1.runs*32) (min x.c.a 129) (min x.c.b 9)<4294967296:=by
      unfold vB;split
      ·rename_i q;have:=Cz q;omega
      ·omega
     have P:IntKind.u64.wrap (((gO ((aK x.s.T x.c.r).1.runs++[x.run]) (aN (aK x.s.T x.c.r).1.runs*32) (min x.c.a 129) (min x.c.b 9)).getD 0:Nat):Int)=((gO ((aK x.s.T x.c.r).1.runs++[x.run]) (aN (aK x.s.T x.c.r).1.runs*32) (min x.c.a 129) (min x.c.b 9)).getD 0:Nat):=by
      cases q:gO ((aK x.s.T x.c.r).1.runs++[x.run]) (aN (aK x.s.T x.c.r).1.runs*32) (min x.c.a 129) (min x.c.b 9)with
      |none=>rfl
      |some k=>have:=Cz q;exact wrap_u64 (by simp) (by simp;omega)
     have e1:jH x=fD x x.c.r 1>>=λ_=>bc (aK x.s.T x.c.r).2>>=λ_=>ask (decide (((aN (aK x.s.T x.c.r).1.runs:Nat):Int)+n<=(aK x.s.T x.c.r).1.ds)) 6>>=λ_=>ask (pV ((aK x.s.T x.c.r).1.runs++[x.run]) (aN (aK x.s.T x.c.r).1.runs*32)) 2>>=λ_=>
       nj {s:=x.s,aa:=x.aa,c:=x.c,run:=x.run,mL:=n,asks:=false,back:=x.back} x.c.r {(aK x.s.T x.c.r).1 with runs:=(aK x.s.T x.c.r).1.runs++[x.run],len:=vB ((aK x.s.T x.c.r).1.runs++[x.run]) (aN (aK x.s.T x.c.r).1.runs*32) (min x.c.a 129) (min x.c.b 9)}>>=λy=>
       .ok (y,{bX with v:=(gO ((aK x.s.T x.c.r).1.runs++[x.run]) (aN (aK x.s.T x.c.r).1.runs*32) (min x.c.a 129) (min x.c.b 9)).getD 0}):=by
      unfold jH;simp only[C,O,K,has,Z,decide_true,anz,agX,amn,gA,okB];rfl
     have e:=λB lo=>VF (x:={s:=x.s,aa:=x.aa,c:=x.c,run:=x.run,mL:=n,asks:=false,back:=x.back}) (bk:=bk) ((ho.set _).app B) lo hx.s x.c.r hx.c.r
      {(aK x.s.T x.c.r).1 with runs:=(aK x.s.T x.c.r).1.runs++[x.run],len:=vB ((aK x.s.T x.c.r).1.runs++[x.run]) (aN (aK x.s.T x.c.r).1.runs*32) (min x.c.a 129) (min x.c.b 9)} g S Q
     simp(disch:=omega) only[F1,go_sem,simprocAttr,zg,G,ho.g,ho.s,ho.g2,ho.s2,↓CL,CS,d,T,W,E,z,f,A,M,t,has,J,r,R,i,e,P,VG,<-o,<-m,kj,dI,dJ,EP,iU,OL G];have L:=zP (x:=x) (h:=x.c.r) (w:=1);rw[e1];clear e Q P r e1 R i M A K t j
     (repeat' (first| (refine⟨?_,?_⟩)|intro _))<;>first
       | (simp only[nj,gA,okB,cV, *];first|exact aZ.err ho|exact aZ.mR|exact aZ.set rfl rfl)
       | (exfalso;simp_all[ask])
    ·have r:decide ((x.run.2:Int)=n)=false:=afv (by omega);have e1:jH x=fD x x.c.r 1>>=λ_=>bc (aK x.s.T x.c.r).2>>=λ_=>ask (decide (((aN (aK x.s.T x.c.r).1.runs:Nat):Int)+n<=(aK x.s.T x.c.r).1.ds)) 6>>=λ_=>.error 2:=by
      unfold jH;simp only[C,O,K,has,afv Z,akq,agX,amn,gA,okB];rfl
     have Y: ∀H lo,D XA (.fn (.func cQ) [] []) [.bool false,.int .i64 2] ⟨H,lo⟩=_:=λH lo=>lx (zN 2 H lo)
     have X: ∀H lo,D XA (.fn (.func cQ) [] []) [.bool true,.int .i64 2] ⟨H,lo⟩=_:=λH lo=>lx (Gn 2 H lo)
     simp(disch:=omega) only[F1,go_sem,simprocAttr,zg,G,ho.g,ho.s,ho.g2,↓CL,CS,d,Y,X,W,E,z,f,A,M,t,has,J,r,VG,<-o,<-m,kj,dI,dJ,EP,iU,OL G];have L:=zP (x:=x) (h:=x.c.r) (w:=1);rw[e1]
     (repeat' (first| (refine⟨?_,?_⟩)|intro _))<;>first
       | (simp only[okB,cV, *];first|exact aZ.err ho|exact aZ.mR|exact aZ.set rfl rfl)
       | (exfalso;simp_all[ask])
end
structure bP(p:Nat)(H H':List ae):Prop where
 len:H.length<=H'.length
 low: ∀i,i<p->H'[i]?=H[i]?
 box: ∀i o,i≠p->(∀a d,o≠ .row a 2 fe d)->H[i]?=some o->H'[i]?=some o
theorem bP.refl(p:Nat)(H:List ae):bP p H H:=⟨agW _,λ_ _=>rfl,λ_ _ _ _ h=>h⟩
theorem bP.trans{A B C:List ae}(h:bP p A B)(g:bP p B C):bP p A C:=
 ⟨ajR h.len g.len,λi a=>(g.low i a).trans (h.low i a),λi o a ho b=>g.box i o a ho (h.box i o a ho b)⟩
theorem bP.app(p:Nat)(H L:List ae)(a:p<H.length):bP p H (H++L):=⟨by simp,λi b=>aez (by omega),λi o _ _ h=>bh h⟩
theorem bP.set(p:Nat)(H:List ae)(o:ae):bP p H (H.set p o):=⟨by simp,λi a=>aex (by omega),λi w a _ h=>by grind⟩
theorem bP.take{N:Nat}{A B:List ae}(h:bP p A B)(d:A.length=N)(c:p<N):bP p A (B.take N):=⟨by rw[aiI];have:=h.len;omega,λi a=>by rw[aiE (by omega)];exact h.low i a,λi o a ho b=>by
 have:=(aeA.1 b).1;rw[aiE (by omega)];exact h.box i o a ho b⟩
def bP.own{N:Nat}{A B:List ae}{ty:TypeId}(h:bP p A B)(ho:aQ N A v sz ty af)(k:p<N)(j:sz≠2):aQ N B v sz ty af:=by
 obtain⟨i,b⟩:=ho;refine⟨i,?_⟩;rcases b with b| ⟨id,aj,g,f,c⟩
 ·grind
 ·exact .inr ⟨id,aj,g,f,h.box id _ (by omega) (λa d e=>by grind) c⟩
def akd{E:AS}(l:List aE):Den.elems E 2 (ef l)=some (l.map ay):=by
 unfold ef;split
 ·rename_i h;rw[aCZ.1 h];rfl
 ·exact arq (by simp[Uo])
structure At(p:Nat)(x:aq)(bk:AV)(H:List ae):Prop where
 box:H[p]?=some (.box (aV x bk) none)
 own:aQ (p+1) H bk 2 fe (x.back.map ay)
def vL(Q:Prop)(p:Nat)(H H':List ae)(lo ak:oN):Prop:=(ak=lo/\H'.length=H.length/\Q)\/ak=cC lo p
def ake(l:lN): ∀x:aq,(l.foldl iL x).s.T=x.s.T:=by
 induction l with
 |nil=>simp
 |cons h l a=>intro x;exact a _
def VH(l:lN): ∀x:aq,bm x.s->bm (l.foldl iL x).s:=by
 induction l with
 |nil=>simp
 |cons h l b=>intro x a;exact b _ (a.Cx (a.tok.clear h))
def akf(l:lN): ∀x:aq,bN x.s.T->(l.foldl iL x).back.length<=x.back.length+64*l.length:=by
 induction l with
 |nil=>simp
 |cons h l b=>
  intro x a;have e:=b (iL x h) a;have d: (iL x h).back.length=x.back.length+(aK x.s.T h).1.runs.length:=by simp[iL]
  have c:=(a.get h).rb.2
  grind
def awg{x:aq}{l:lN}{k:Nat}(h:k<l.length): (l.take (k+1)).foldl iL x=iL ((l.take k).foldl iL x) (l.getD k default):=by grind [List.take_add_one,List.getElem?_eq_getElem,getD_eq]
def vN{H:List ae}(a:p<n):finish n lo v ⟨H,some p⟩=(v,⟨H,cC lo p⟩):=by
 unfold finish;rw[afi (by grind)];rfl
def VI{H:List ae}(K:At p x bk H)(c:bm x.s)(h:Nat)(hh:h<4294967296)(hB:x.back.length+64*(under x.s.T h).length<=4294967296)(lo:oN):
  ∃a H' ak,D XA (.fn (.func wD) [] []) [.ptr p 0,.int .u32 h] ⟨H,lo⟩=some (.ret (.au []) ⟨H',ak⟩)/\At p (gv x h) a H'/\bP p H H'/\vL (a=bk\/a= .ai) p H H' lo ak:=by
 suffices c: ∃S,D XA (.fn (.func wD) [] []) [.ptr p 0,.int .u32 h] ⟨H,lo⟩=some S/\ (λS=> ∃a H' ak,S=aS.ret (.au []) ⟨H',ak⟩/\At p (gv x h) a H'/\bP p H H'/\vL (a=bk\/a= .ai) p H H' lo ak) S by
  obtain⟨S,h1,a,H',ak,rfl,h2⟩:=c;exact⟨a,H',ak,h1,h2⟩
 refine cz S0 λN X=>?_
 have f:p<N:=by rw[<-X];exact(aeA.1 K.box).1
 obtain⟨v,J,VJ,V,u2,u3⟩:=Mh x.s.T c.T c.tr h hh N H X none;have V:=ly V;have hul:=Gf c.tr h;have b:=(l7 u2 VJ).bK;have hbp:=K.box;obtain⟨Y,m⟩: ∃Y,Y=H++J:=⟨_,rfl⟩;rw[<-m]at V u2 b;have w0:Y[p]?=some (.box (aV x bk) none):=by rw[m];exact bh K.box
 have pc:bP p H Y:=by rw[m];exact bP.app p H J (by omega)
 simp only[↓R1,Zz,go_sem,simprocAttr,S0,hbp,↓CL,V,b];refine gS (under x.s.T h).length (λk e U ak=> ∃a,U[p]?=some (.box (aV (((under x.s.T h).take k).foldl iL x) a) none)/\aQ (p+1) U a 2 fe ((((under x.s.T h).take k).foldl iL x).back.map ay)/\bP p H U/\aQ N U v 1 bZ ((under x.s.T h).map hC)/\
  ((dG N ak/\aQ (p+1) (U.take N) a 2 fe ((((under x.s.T h).take k).foldl iL x).back.map ay)/\ (a=bk\/a= .ai))\/ak=some p)/\e 0= .ptr p 0/\e 1= .int .u32 h/\e 15=v/\e 16= .int .i64 (under x.s.T h).length/\e 17= .int .i64 k) 0 (by omega) ?_ ?_
 ·simp only[↓aqS,Zz,go_sem,simprocAttr];refine⟨bk,w0,by rw[m];exact K.own.ext,pc,u2,.inl ⟨dG.of u3,?_,.inl rfl⟩⟩;rw[m,ape X];exact K.own
 rintro k hk e T u ⟨a,E,p1,F,p3,p4,e0,e1,Q,P,O⟩ n hn;have jm:=VH ((under x.s.T h).take k) x c;have d:=ake ((under x.s.T h).take k) x;have HF:=akf ((under x.s.T h).take k) x c.T;rw[aiI]at HF;have Pe:= @awg x (under x.s.T h) k;generalize hy: ((under x.s.T h).take k).foldl iL x=y at*;have A:Old p T (.box (aV y a) none):=⟨E⟩;simp only[bR,↓R1,Zz,go_sem,simprocAttr,agx,E,↓CL,e0,e1,Q,P,O];refine⟨λhc=>?_,λhc=>?_⟩
 ·have B:k< (under x.s.T h).length:=by omega
  have hr:=l7 p3 u;have hg:=λH lo=>lx (vx y.s.T (by rw[d];exact c.T) ((under x.s.T h).getD k default) (gg (Mi c.T (eX B))) H lo)
  simp(disch:=omega) only[↓R1,↓MP,Zz,agO,go_sem,simprocAttr,hr.ck,hr.cE,↓pH,hn,E,A.g,↓CL,hg,nv,akd,e0];have yx:=(c.T.get ((under x.s.T h).getD k default)).rb.2;rw[d];generalize hR: (aK x.s.T ((under x.s.T h).getD k default)).1=R at*;refine⟨by omega,?_⟩;obtain⟨v',Z,q1,q2,q3,q4,q5⟩:=aQ.aeC (bytes:=16) (ys:=R.runs.map ay) (lo:=u) (aQ.ext (L:=[ae.box (bS R) none]) p1) (by simp[hn];have:=F.len;omega) (by omega) (by intro el nP;obtain⟨r,_,rfl⟩:=ag2.1 nP;rfl) (bA (λ_=>rfl) _) (by
   unfold room;simp only[agZ];omega)
  have z:Z[p]?=some (.box (aV y a) none):=by rw[q4 p (by omega)];exact A.g _
  have s:Old p Z (.box (aV y a) none):=⟨z⟩;have oZ:=λH lo=>ly (au7 y.s.K jm.K ((under x.s.T h).getD k default) H lo)
  have hvt:v'.cb=false/\v'.cells=[v']:=by
   rcases q2.2 with⟨rfl,_⟩| ⟨_,_,_,rfl,_⟩<;>exact⟨rfl,rfl⟩
  rw[q1];simp(disch:=omega) only[↓aqS,↓R1,Zz,agP,go_sem,simprocAttr,hvt,z,s.g1,↓CL,CS,oZ,e0,e1,Q,P,O];rw[anc,Pe B];have l: (iL y ((under x.s.T h).getD k default)).back.map ay=y.back.map ay++R.runs.map ay:=by
   rw[<-ag9];unfold iL;rw[d,hR]
  have f2:bP p (T++[ae.box (bS R) none]) Z:=⟨q3,λi hi=>q4 i (by omega),λi o _ ho hg=>q5 i o ho hg⟩;have f3:=(bP.app p T [ae.box (bS R) none] (by have:=F.len;omega)).trans (f2.trans (bP.set p Z (.box (aV (iL y ((under x.s.T h).getD k default)) v') none)));refine⟨B,v',s.g1 _,?_,F.trans f3,f3.own p3 f (by omega),?_⟩
  ·rw[l];exact aQ.nA q2 z
  ·by_cases W:v'.refs<=p+1
   ·rw[afl W];have g:v'= .ai/\y.back.map ay++R.runs.map ay=[]:=by
     rcases q2.2 with q| ⟨id,aj,i1,i2,_⟩
     ·exact q
     ·rw[i2]at W;simp only[AV.refs]at W;omega
    rcases p4 with⟨G,_⟩|G
    ·refine .inl ⟨G,?_,.inr g.1⟩;rw[l,g.1,g.2];exact aQ.ai
    ·exact .inr G
   ·rw[afi W]
    right
    rcases p4 with⟨rfl| ⟨j,hj,rfl⟩,_⟩|rfl
    ·rfl
    ·exact akp some (ari (show p<=j by omega))
    ·exact akp some (azm p)
 ·obtain rfl:k=(under x.s.T h).length:=by omega
  have M:bN y.s.T:=by rw[d];exact c.T
  obtain⟨w,C⟩:=aub y.s.T M (by rw[d];exact c.tr) h hh T u;have C:=ly C;have I:=A.set (.box (aV (y.t (lY y.s.T h).1) a) none);have e2:gv x h=y.t (lY y.s.T h).1:=by
   unfold gv;rw[ag4]at hy;rw[hy]
  simp only[↓R1,Zz,go_sem,simprocAttr,E,CS,C];rw[e2];rw[avV];have t:=F.trans (bP.set p T (.box (aV (y.t (lY y.s.T h).1) a) none));rcases p4 with⟨G,l2,l3⟩|rfl
  ·rw[iR G (agS _)];refine⟨a,_,lo,rfl,⟨?_,?_⟩,t.take X f,.inl ⟨rfl,by rw[aiI,ag7];have:=F.len;omega,l3⟩⟩
   ·rw[aiE f];exact I.at'
   ·rw[List.take_set];exact aQ.nA l2 (by rw[aiE f];exact E)
  ·rw[vN f];exact⟨a,_,_,rfl,⟨I.at',aQ.nA p1 E⟩,t,.inr rfl⟩
abbrev zQ(p:Nat)(H H':List ae)(lo ak:oN):Prop:=vL True p H H' lo ak
def s8(p:Nat)(H:List ae)(lo:oN):R (aq×bE)->aS->Prop
 |.ok (y,r),a=> ∃b H' ak,a= .ret (.agg (bF r)) ⟨H',ak⟩/\At p y b H'/\bP p H H'/\zQ p H H' lo ak
 |.error e,a=> ∃H' ak,a= .panic (iT e) ⟨H',ak⟩/\bP p H H'/\zQ p H H' lo ak
def aZ.c{H:List ae}(ha:At p x bk H){m:R (aq×bE)}{c:aS}(h:aZ x.back bk p H lo m c):s8 p H lo m c:=by
 cases m with
 |ok a=>
  obtain⟨f,b⟩:=h;have d:=(aeA.1 ha.box).1;exact⟨bk,_,lo,b,⟨by grind,by rw[f];exact aQ.nA ha.own ha.box⟩,bP.set _ _ _,.inl ⟨rfl,by simp,trivial⟩⟩
 |error e=>
  obtain⟨y,b⟩:=h;exact⟨_,lo,b,bP.set _ _ _,.inl ⟨rfl,by simp,trivial⟩⟩
theorem s8.err{H:List ae}:s8 p H lo (.error e) (.panic (iT e) ⟨H,lo⟩):=⟨H,lo,rfl,bP.refl _ _,.inl ⟨rfl,rfl,trivial⟩⟩
theorem awj{N:Nat}{H B W:List ae}(r:H.length=N)(b:p<N)(l: ∀o∈B,∃cs tg,o=ae.box cs tg)(f:At p y bk W)(k:bP p (H++B) W)(i:W.length=(H++B).length):At p y bk (W.take N):=by
 refine⟨by rw[aiE b];exact f.box,f.own.1,?_⟩;rcases f.own.2 with q| ⟨id,aj,n,m,h⟩
 ·grind
 ·by_cases j:id<N
  ·grind
  ·have c:=(aeA.1 h).1;rw[i,agU]at c;have g: (H++B)[id]?=some B[id-N]:=by grind
   obtain⟨cs,tg,ho⟩:=l _ (auL (show id-N<B.length by omega));rw[ho]at g;have:=k.box id _ (by omega) (λa d e=>by cases e) g
   grind
theorem VK{N:Nat}{H B W:List ae}(b:bP p (H++B) W)(a:p<H.length):bP p H W:=(bP.app p H B a).trans b
theorem akg{N:Nat}{H W:List ae}(e:H.length=N)(d:p<N)(b:bP p H W)(o:ae):bP p H (W.set N o):=
 ⟨by rw[ag7];exact b.len,λi a=>by rw[aex (by omega)];exact b.low i a,λi w a hw c=>by
   have:=(aeA.1 c).1;rw[aex (by omega)];exact b.box i w a hw c⟩
def zR{N:Nat}{H B W:List ae}{ak:oN}{Q:Prop}(i:H.length=N)(a:p<N)(n: ∀o∈B,∃cs tg,o=ae.box cs tg)(h:At p y bk W)(l:bP p (H++B) W)(d: (ak=none/\ (W.length=(H++B).length\/ (bk= .ai/\y.back=[]))/\Q)\/ak=cC none p)(j:v.refs<=N)
  {cs:lA}  (g:W[N]?=some (.box cs tg)) (o:ae):
  ∃f b,finish N lo v ⟨W.set N o,ak⟩=(v,⟨f,b⟩)/\At p y bk f/\bP p H f/\vL Q p H f lo b:=by
 have c:=akg i a (VK (N:=N) l (by omega)) o;rcases d with⟨rfl,d,k⟩|rfl
 ·refine⟨_,lo,iR (.inl rfl) j,?_,c.take i a,.inl ⟨rfl,?_,k⟩⟩
  ·have:At p y bk (W.take N):=by
     rcases d with d| ⟨rfl,m⟩
     ·grind [awj]
     ·exact⟨by rw[aiE a];exact h.box,by rw[m];exact aQ.ai⟩
   have e: (W.set N o).take N=W.take N:=by rw[List.take_set];exact List.set_eq_of_length_le (by grind)
   grind
  grind
 ·refine⟨_,cC lo p,?_,⟨?_,aQ.nA h.own g⟩,c,.inr rfl⟩
  ·have:cC none p=some p:=rfl;rw[this];exact vN a
  ·rw[aex (by omega)];exact h.box
def MJ{N:Nat}{H B W:List ae}{ak:oN}(g:H.length=N)(c:p<N)(h:bP p (H++B) W)(f:ak=none\/ak=cC none p)(e:v.refs<=N):
  ∃d b,finish N lo v ⟨W,ak⟩=(v,⟨d,b⟩)/\bP p H d/\zQ p H d lo b:=by
 have a:=VK (N:=N) h (by omega);rcases f with rfl|rfl
 ·refine⟨_,lo,iR (.inl rfl) e,a.take g c,.inl ⟨rfl,?_,trivial⟩⟩;rw[aiI];have:=a.len;omega
 ·refine⟨_,cC lo p,?_,a,.inr rfl⟩;exact vN c
def CA{cs:lA}: ∀o∈[ae.box cs tg],∃cs tg,o=ae.box cs tg:=by simp
section
variable{x:aq}{bk:AV}{p:Nat}{H:List ae}(lo:oN)(ha:At p x bk H)(hx:mQ x)
include ha hx
theorem awk(j:x.back.length+64*(under x.s.T x.c.r).length<=4294967296): ∃h,D XA (.fn (.func Jb) [] []) [.ptr p 0] ⟨H,lo⟩=some h/\s8 p H lo (sP x) h:=by
 refine cz SM λN f=>?_
 have ho:Old p H (.box (aV x bk) none):=⟨ha.box⟩;have c:p<N:=by rw[<-f];exact ho.lt
 obtain⟨l,W,ak,g1,g2,g,k⟩:=VI (bk:=bk) (H:=H++[.box [.int .i64 0,.int .u64 0,.int .u32 0] none]) ⟨ho.g _,ha.own.ext⟩ hx.s x.c.r hx.c.r j none;have b:W[N]?=some (.box [.int .i64 0,.int .u64 0,.int .u32 0] none):=g.box N _ (by omega) (λa d e=>by cases e) (by grind);simp only[F1,go_sem,simprocAttr,SM,f,ho.g,↓CL,M2 ho hx x.c.r hx.c.r,g1,b,cN b,dI,dJ,EP];obtain⟨m,i,f1,f2,f3,f4⟩:=zR (v:=.agg [.int .i64 0,.int .u64 0,.int .u32 0]) (lo:=lo) f c CA g2 g (k.imp (λq=>⟨q.1,.inl q.2.1,trivial⟩) id) (agS _) b (.box [.int .i64 0,.int .u64 0,.int .u32 0] none);rw[f1]
 (repeat' (first| (refine⟨?_,?_⟩)|intro _))
 ·simp only[sP,gA,okB, *];exact⟨_,_,_,rfl,f2,f3,f4⟩
 ·simp only[sP,cV, *];exact .err
theorem awl(hB:x.back.length<=4294967296): ∃S,D XA (.fn (.func Ja) [] []) [.ptr p 0] ⟨H,lo⟩=some S/\s8 p H lo (sO x) S:=by
 refine cz SJ λN k=>?_
 have ho:Old p H (.box (aV x bk) none):=⟨ha.box⟩;have m:p<N:=by rw[<-k];exact ho.lt
 have G:=λB lo=>MG (ho.app B) lo hx.s x.c.r hx.c.r
 have F:=(hx.s.T.get x.c.r);have Y:=zP (x:=x) (h:=x.c.r) (w:=1);have e0:sO x=fD x x.c.r 1>>=λ_=>bc (aK x.s.T x.c.r).2>>=λ_=>nj {x with back:=x.back++(aK x.s.T x.c.r).1.runs} x.c.r {dB with up:=0,ds:=(aK x.s.T x.c.r).1.ds}>>=λy=>.ok (y,bX):=rfl
 rw[e0];generalize hR: (aK x.s.T x.c.r).1=R at*;obtain⟨v',c,V,z,U,P,u⟩:=aQ.aeC (bytes:=16) (ys:=R.runs.map ay) (lo:=none) (aQ.ext (L:=[ae.box [.int .i64 0,.int .u64 0,.int .u32 0] none,.box (bS R) none]) ha.own) (by simp[k];omega) (by omega) (by intro el J;obtain⟨r,_,rfl⟩:=ag2.1 J;rfl) (bA (λ_=>rfl) _) (by
  have:=F.rb.2;unfold room;simp only[agZ];omega)
 have C:v'.cb=false/\v'.cells=[v']:=by
  rcases z.2 with⟨rfl,_⟩| ⟨_,_,_,rfl,_⟩<;>exact⟨rfl,rfl⟩
 have j:c[p]?=some (.box (aV x bk) none):=by rw[P p (by omega)];exact ho.g _
 have b:Old p c (.box (aV x bk) none):=⟨j⟩;have w0:c[N]?=some (.box [.int .i64 0,.int .u64 0,.int .u32 0] none):=u N _ (λa d e=>by cases e) (by rw[dh k];rfl);have w1:c[N+1]?=some (.box (bS R) none):=u (N+1) _ (λa d e=>by cases e) (by rw[bz k];rfl);have n:=b.set (.box (aV {x with back:=x.back++R.runs} v') none);have f:=λlo=>VF (x:={x with back:=x.back++R.runs}) (bk:=v') n lo hx.s x.c.r hx.c.r {dB with up:=0,ds:=R.ds} ⟨by simp[dB],by simp[dB]⟩ (by simp[dB]) (by simp[dB])
 have K:aV {x with back:=x.back++R.runs} v'=aV x v':=rfl;rw[K]at f;have M:N<c.length:=(aeA.1 w0).1;have E: ∀A B o,(((c.set p A).set p B).set N o)[N]?=some o:=λA B o=>ag1 (by simp only[ag7];exact M)
 have I:p≠N:=by omega
 have X:p≠N+1:=by omega
 simp(disch:=omega) only[F1,go_sem,simprocAttr,SJ,k,ho.g,↓CL,CS,M1 ho hx x.c.r hx.c.r,G,kj,akd,V,C,j,w0,w1,b.g1,E,f,ah7,dI,dJ,EP,iU];have s: (if v'.refs<=p+1 then none else cC none p)=none/\ (v'= .ai/\x.back++R.runs=[])\/ (if v'.refs<=p+1 then none else cC none p)=cC none p:=by
  by_cases t:v'.refs<=p+1
  ·rw[afl t];refine .inl ⟨rfl,?_⟩;rcases z.2 with⟨T,O⟩| ⟨id,aj,i1,i2,_⟩
   ·refine⟨T,?_⟩;rw[<-ag9]at O;exact arn.1 O
   ·rw[i2]at t;simp only[AV.refs]at t;omega
  ·rw[afi t];exact .inr rfl
 have f0:bP p (H++[ae.box [.int .i64 0,.int .u64 0,.int .u32 0] none,.box (bS R) none]) c:=⟨U,λi hi=>P i (by omega),λi o _ ho Z=>u i o ho Z⟩;have f1:=f0.trans (bP.set p c (.box (aV x v') none));generalize Q: (if v'.refs<=p+1 then none else cC none p)=ak at*
 (repeat' (first| (refine⟨?_,?_⟩)|intro _))
 ·rename_i g l m3;have hA:At p (({x with back:=x.back++R.runs}:aq).t (fC x.s.T x.c.r {dB with up:=0,ds:=R.ds}).1) v' ((c.set p (.box (aV x v') none)).set p (.box (aV (({x with back:=x.back++R.runs}:aq).t (fC x.s.T x.c.r {dB with up:=0,ds:=R.ds}).1) v') none)):=
   ⟨by rw[anc];exact b.g1 _,by rw[anc];show aQ _ _ _ _ _ (List.map ay (x.back++R.runs));rw[ag9];exact aQ.nA z j⟩
  have f2:=f1.trans (bP.set p (c.set p (.box (aV x v') none)) (.box (aV (({x with back:=x.back++R.runs}:aq).t (fC x.s.T x.c.r {dB with up:=0,ds:=R.ds}).1) v') none));obtain⟨H3,W,g1,g2,g3,g4⟩:=zR (v:=.agg [.int .i64 0,.int .u64 0,.int .u32 0]) (lo:=lo) k m (B:=[ae.box [.int .i64 0,.int .u64 0,.int .u32 0] none,.box (bS R) none]) (by simp) hA f2 (s.imp (λq=>⟨q.1,.inr q.2,trivial⟩) id) (agS _)
   (by rw[anc,aex I];exact w0) (.box [.int .i64 0,.int .u64 0,.int .u32 0] none)
  rw[g1];simp only[nj,gA,okB,g,l,m3];exact⟨_,_,_,rfl,g2,g3,g4⟩
 ·rename_i g l e m3;obtain⟨E1,l1,e1,e2,e3⟩:=MJ (v:=iT e) (lo:=lo) k m f1 (s.imp And.left id) (agS _);rw[e1];simp only[nj,gA,okB,cV,g,l,m3];exact⟨_,_,rfl,e2,e3⟩
 ·rename_i g e l;simp only[okB,cV,g,l];exact .err
 ·rename_i e g;simp only[cV,g];exact .err
end
def awm{N:Nat}{H B W:List ae}{ak:oN}{Q:Prop}(g:H.length=N)(d:p<N)(i: ∀o∈B,∃cs tg,o=ae.box cs tg)(j:At p y bk W)(h:bP p (H++B) W)(f: (ak=none/\ (W.length=(H++B).length\/ (bk= .ai/\y.back=[]))/\Q)\/ak=cC none p)(e:v.refs<=N)
  {cs:lA}  (b:W[N]?=some (.box cs tg)):
  ∃c a,finish N lo v ⟨W,ak⟩=(v,⟨c,a⟩)/\At p y bk c/\bP p H c/\vL Q p H c lo a:=by
 have:=zR (v:=v) (lo:=lo) g d i j h f e b (.box cs tg);rwa[qc b]at this
def awn(bk:AV)(p:Nat)(H:List ae)(lo:oN):R aq->aS->Prop
 |.ok y,b=> ∃a H' ak,b= .ret (.au []) ⟨H',ak⟩/\At p y a H'/\bP p H H'/\vL (a=bk\/a= .ai) p H H' lo ak
 |.error e,b=>b= .panic (iT e) ⟨H,lo⟩
section
variable{x:aq}{bk:AV}{p:Nat}{H:List ae}(lo:oN)(ha:At p x bk H)(hs:bm x.s)
include ha hs
theorem akh(h:Nat)(n:h<4294967296)(aa:Nat)(I:aa<256)(J:x.back.length+64*(under x.s.T h).length<=4294967296):
  ∃A,D XA (.fn (.func Jv) [] []) [.ptr p 0,.int .u32 h,.int .i64 aa] ⟨H,lo⟩=some A/\awn bk p H lo (jI x h aa) A:=by
 refine cz LA λN f=>?_
 have ho:Old p H (.box (aV x bk) none):=⟨ha.box⟩;have k:p<N:=by rw[<-f];exact ho.lt
 have y:=λH lo=>lx (auW x.s.O hs.O x.s.T hs.T hs.tr h n aa I H lo)
 have w:=λH=>gP (dt x.s.O x.s.T h aa false).2.2 H
 have L:jI x h aa=bc (dt x.s.O x.s.T h aa false).2.2>>=λ_=>.ok (if(dt x.s.O x.s.T h aa false).2.1=0 then gv (x.o (dt x.s.O x.s.T h aa false).1) h else x.o (dt x.s.O x.s.T h aa false).1):=rfl
 have l:fE (dt x.s.O x.s.T h aa false).1:=hs.O.held n;rw[L];have i:=ai5 hs.O (t:=x.s.T) (r:=h) (aa:=aa) (hold:=false);generalize dt x.s.O x.s.T h aa false=g at*;have s: ∀v,(H++[ae.box (cG g.1) none]).set p v=H.set p v++[ae.box (cG g.1) none]:=λv=>ho.s _ _
 have u:At p (x.o g.1) bk (H.set p (.box (aV (x.o g.1) bk) none)++[ae.box (cG g.1) none]):=⟨ho.g2 _ _,aQ.ext (aQ.nA ha.own ha.box)⟩;obtain⟨M,W,ak,g1,g2,z,K⟩:=VI u (hs.vJ l) h n J none;have f1:bP p (H++[ae.box (cG g.1) none]) (H.set p (.box (aV (x.o g.1) bk) none)++[ae.box (cG g.1) none]):=by rw[<-s];exact bP.set _ _ _
 by_cases j:g.2.1=0
 ·have c:decide ((Gm g.2.1:Int)=0)=true:=agR (by rw[j];rfl);simp only[F1,go_sem,simprocAttr,LA,f,ho.g,ho.s,↓CL,CS,y,w,c,g1,dI,dJ,EP,gk];have o:W[N]?=some (.box (cG g.1) none):=z.box N _ (by omega) (λa d e=>by cases e) (by rw[(OL f).1];rfl);have m: (H.set p (.box (aV (x.o g.1) bk) none)++[ae.box (cG g.1) none]).length=(H++[ae.box (cG g.1) none]).length:=by simp
  obtain⟨O,B,G,F,E,C⟩:=awm (v:=.au []) (lo:=lo) f k CA g2 (f1.trans z) (K.imp (λq=>⟨q.1,.inl (q.2.1.trans m),q.2.2⟩) id) (agS _) o;rw[G]
  (repeat' (first| (refine⟨?_,?_⟩)|intro _))
  ·rename_i b;simp only[b,okB,afl j];exact⟨_,_,_,rfl,F,E,C⟩
  ·rename_i e b;simp only[b,cV];rfl
 ·have c:decide ((Gm g.2.1:Int)=0)=false:=afv (by
    have:=mt (auV _ i).1 j;omega)
  simp only[F1,go_sem,simprocAttr,LA,f,ho.g,ho.s,↓CL,CS,y,w,c,dI,dJ,EP,gk,OL f]
  (repeat' (first| (refine⟨?_,?_⟩)|intro _))
  ·rename_i b;simp only[b,okB,afi j];exact⟨bk,_,lo,rfl,⟨ho.g1 _,aQ.nA ha.own ha.box⟩,bP.set _ _ _,.inl ⟨rfl,by simp,.inl rfl⟩⟩
  ·rename_i e b;simp only[b,cV];rfl
end
section
variable{x:aq}{bk:AV}{p:Nat}{H:List ae}(lo:oN)(ha:At p x bk H)(hx:mQ x)
include ha hx
theorem awo(l:x.back.length+64*(under x.s.T x.c.r).length<=4294967296): ∃g,D XA (.fn (.func Jg) [] []) [.ptr p 0] ⟨H,lo⟩=some g/\s8 p H lo (vl x) g:=by
 refine cz Lq λN f=>?_
 have ho:Old p H (.box (aV x bk) none):=⟨ha.box⟩;have h:p<N:=by rw[<-f];exact ho.lt
 have s:=hx.t;obtain⟨g,g1,g2⟩:=akh (bk:=bk) (H:=H++[.box [.int .i64 0,.int .u64 0,.int .u32 0] none]) none ⟨ho.g _,ha.own.ext⟩ hx.s x.c.r hx.c.r x.aa (by omega) l;have n:vl x=xl x x.c.r>>=λ_=>jI x x.c.r x.aa>>=λy=>.ok (y,bX):=rfl
 rw[n];cases i:jI x x.c.r x.aa with
 |error e=>
  rw[i]at g2;have g2:g=_:=g2;rw[g2]at g1;simp only[F1,go_sem,simprocAttr,Lq,f,ho.g,↓CL,λB lo=>Gr (ho.app B) lo hx.s hx.t x.c.r hx.c.r,g1,dI,dJ,EP,iU]
  (repeat' (first| (refine⟨?_,?_⟩)|intro _))
  ·rename_i b;simp only[b,okB,cV];exact .err
  ·rename_i o b;simp only[b,cV];exact .err
 |ok y=>
  rw[i]at g2;obtain⟨r,W,ak,rfl,g2,j,m⟩:=g2;have c:W[N]?=some (.box [.int .i64 0,.int .u64 0,.int .u32 0] none):=j.box N _ (by omega) (λa d e=>by cases e) (by rw[dh f];rfl);simp only[F1,go_sem,simprocAttr,Lq,f,ho.g,↓CL,λB lo=>Gr (ho.app B) lo hx.s hx.t x.c.r hx.c.r,g1,c,cN c,dI,dJ,EP];obtain⟨t,k,f1,f2,f3,f4⟩:=zR (v:=.agg [.int .i64 0,.int .u64 0,.int .u32 0]) (lo:=lo) f h CA g2 j (m.imp (λq=>⟨q.1,.inl q.2.1,trivial⟩) id) (agS _) c (.box [.int .i64 0,.int .u64 0,.int .u32 0] none);rw[f1]
  (repeat' (first| (refine⟨?_,?_⟩)|intro _))
  ·rename_i b;simp only[b,okB];exact⟨_,_,_,rfl,f2,f3,f4⟩
  ·rename_i o b;simp only[b,cV];exact .err
end
def awp(d:cm t): ∀ (n x:Nat),dep t x<=n->k∈aR t x-> ∀c∈aR t k,c∈aR t x:=by
 intro n
 induction n with
 |zero=>intro x b a;unfold dep at b;grind
 |succ n e=>
  intro x b a c f;by_cases hu:bI t x=0
  ·rw[sL d,afl hu]at a;cases a
  ·grind [B5,Cw]
def VL(d:cm t){x:Nat}: ∀n c,x∈gZ t n c->x=c\/c∈aR t x:=by
 intro n
 induction n with
 |zero=>intro c h;left;simpa[gZ]using h
 |succ n e=>
  intro c h;rcases aiK.1 h with h|h
  ·omega
  ·right
   obtain⟨k,f,a⟩:=aq2.1 h;obtain⟨g1,g2,_⟩:=L1 f;have b:c∈aR t k:=by rw[Cw d (x:=k) (by rw[g2];exact Ur g1),g2];grind
   rcases e k a with rfl|a
   ·omega
   ·exact awp d _ x (agW _) a c b
def awq(f:cm t): ∀ (n x a b:Nat),dep t x<=n->a∈x::aR t x->b∈x::aR t x->dep t a=dep t b->a=b:=by
 intro n
 induction n with
 |zero=>
  intro x a b g d e _;unfold dep at g
  grind
 |succ n i=>
  intro x a b g d e he;have lt: ∀c∈aR t x,dep t c<dep t x:=λc h=>MD f _ x (agW _) h
  rcases aiK.1 d with rfl|d
  ·grind
  ·rcases aiK.1 e with rfl|e
   ·grind
   ·by_cases hu:bI t x=0
    ·rw[sL f,afl hu]at d;cases d
    ·have j:=B5 f hu;rw[Cw f hu]at d e
     grind
def aki(b:cF): (bn b).Nodup:=by
 refine List.Pairwise.map _ (λi j c=>?_) (atZ (S:=λi j=>i<32/\j<32/\i≠j) (λe d a=>⟨?_,?_,a⟩) (List.nodup_range.filter _))
 ·unfold c7;omega
 ·grind
 grind
def awr(t:aw)(h:Nat): (kids t h).Nodup:=by
 unfold kids;split
 ·exact(aki _).filter _
 grind
def aws(a:cm t): ∀n h,(gZ t n h).Nodup:=by
 intro n
 induction n with
 |zero=>simp[gZ]
 |succ n g=>
  intro h;refine azn.2 ⟨λhm=>?_,?_⟩
  ·obtain⟨k,j,b⟩:=aq2.1 hm;have o:=B6 a j;rcases VL a n k b with e|e
   ·grind
   ·have:=MD a _ h (agW _) e;omega
  ·refine List.pairwise_flatMap.2 ⟨λk _=>g k,atZ (λr p d x b y i e=>?_) (awr t h)⟩;subst e;have m:=VL a n _ b;have l:=VL a n _ i;have f: ∀c,(x=c\/c∈aR t x)->c∈x::aR t x:=λc q=>q.elim (λe=>by grind) (ahd _)
   exact d (awq a _ x _ _ (agW _) (f _ m) (f _ l) (by grind [B6]))
def akj(a:cm t)(h:Nat): (under t h).Nodup:=by
 unfold under;split
 ·exact aws a 32 h
 grind
theorem VM: ∀ (l m:lN),l.Nodup->(∀z∈l,z∈m)->l.length<=m.length
 | [],_,_,_=>agS _
 |a::l,m,c,h=>by
  obtain⟨e,d⟩:=azn.1 c;have:=VM l (m.erase a) d λz b=>(List.mem_erase_of_ne λq=>by grind).2 (h z (ahd _ b))
  grind
def awt{y z:Nat}(c:ax b z=true)(d:ax b y=true)(a:z≠y):ax (eh b y).1 z=true:=by
 obtain⟨j,e,f⟩:=lj.1 c;unfold eh;rw[afl d];refine lj.2 ⟨j,e,?_⟩;show ar b (aM y) _ j=_;rw[di λq=>a (VA c d (by rw[F3 e];exact q))];exact f
def awu(g:gM b){y:Nat}(c:ax b y=true): (bn (eh b y).1).length+1<=(bn b).length:=by
 have d:=aki (eh b y).1;have i:y∉bn (eh b y).1:=λhm=>by
  have f:=(jh (F5 g y)).1 hm;obtain⟨j,e,a⟩:=lj.1 f;unfold eh at a;rw[afl c]at a;have a:ar b (aM y) (ri (b (aM y))) j=_:=a;rw[F3 e,cT]at a;unfold ri at a
  grind
 have h: ∀z∈y::bn (eh b y).1,z∈bn b:=λz k=>by grind [jh,Vz,F5]
 have:=VM _ _ (azn.2 ⟨i,d⟩) h;omega
theorem akk: ∀ (l:lN) (t:aw),gM t.b->l.Nodup->(∀z∈l,t.ax z=true)->(bn (km t l).b).length+l.length<=(bn t.b).length
 | [],t,_,_,_=>by simp[km]
 |y::l,t,d,h,c=>by
  have a:ax t.b y=true:=c y (amu ..);have e: (lg t y).1={b:=(eh t.b y).1,r:=ar t.r (aM y) dB}:=by
   unfold lg;grind
  have f: (lg t y).1.b=(eh t.b y).1:=by rw[e]
  have i:=akk l (lg t y).1 (by rw[f];exact F5 d y) (azn.1 h).2 λz g=>by
   show ax (lg t y).1.b z=true;rw[f];exact awt (c z (ahd _ g)) a λq=>by grind
  have j:=awu d a;have k:km t (y::l)=km (lg t y).1 l:=rfl
  grind
theorem awv(h:eo t)(a:Nat): (under t a).length<=(bn t.b).length:=
 VM _ _ (akj h.tr a) λz b=>(jh h.ok.b).2 (Mi h.ok b)
def aww(h:eo t)(a:Nat): (bn (lY t a).1.b).length+(under t a).length<=(bn t.b).length:=by
 unfold lY;split
 ·grind
 ·exact akk (under t a) t h.ok.b (akj h.tr a) λz b=>Mi h.ok b
def eH(x:aq):Nat:=x.back.length+64*(bn x.s.T.b).length
def VN(a:bm x.s)(h:Nat):eH (gv x h)<=eH x:=by
 have d:=akf (under x.s.T h) x a.T;have c:=ake (under x.s.T h) x;have b:=aww a.eA h;have e1: (gv x h).back=((under x.s.T h).foldl iL x).back:=rfl;have e: (gv x h).s.T=(lY ((under x.s.T h).foldl iL x).s.T h).1:=rfl;unfold eH
 grind
def VO(a:bm x.s)(h:Nat):x.back.length+64*(under x.s.T h).length<=eH x:=by
 have:=awv a.eA h;unfold eH;omega
def VP(b:bm x.s)(h:Nat):bm (gv x h).s:=by
 have a:=VH (under x.s.T h) x b;exact a.vI (a.eA.avP h)
structure LI(bk:AV)(p N:Nat)(H:List ae)(y:aq)(nF:AV)(W:List ae)(lo:oN):Prop where
 at':At p y nF W
 fr:bP p H W
 ok:bm y.s
 eH:eH y<=2048
 lo: (dG N lo/\ (nF=bk\/nF= .ai))\/lo=some p
section
variable{bk:AV}{p N:Nat}{H:List ae}{y:aq}{nF:AV}{W:List ae}{mr:oN}(oL:p<N)(h:LI bk p N H y nF W mr)
include h
theorem LI.dA:Old p W (.box (aV y nF) none):=⟨h.at'.box⟩
theorem LI.app(L:List ae):LI bk p N H y nF (W++L) mr:=⟨⟨bh h.at'.box,h.at'.own.ext⟩,h.fr.trans (bP.app p W L (aeA.1 h.at'.box).1),h.ok,h.eH,h.lo⟩
theorem LI.set{z:aq}(a:bm z.s)(b:z.back=y.back)(c: (bn z.s.T.b).length<=(bn y.s.T.b).length):LI bk p N H z nF (W.set p (.box (aV z nF) none)) mr:=
 ⟨⟨by rw[ag1 h.dA.lt],by rw[b];exact aQ.nA h.at'.own h.at'.box⟩,h.fr.trans (bP.set _ _ _),a,by have:=h.eH;unfold Go.Proofs.YteplichagkpciaaGreatDoor.eH at*;grind,h.lo⟩
include oL
theorem LI.next{z:aq}{a:AV}{c:List ae}{b:oN}(k:At p z a c)(i:bP p W c)(g:vL (a=nF\/a= .ai) p W c mr b)(e:bm z.s)(f:Go.Proofs.YteplichagkpciaaGreatDoor.eH z<=Go.Proofs.YteplichagkpciaaGreatDoor.eH y):LI bk p N H z a c b:=by
 refine⟨k,h.fr.trans i,e,ajR f h.eH,?_⟩;rcases g with⟨rfl,_,q⟩|rfl
 ·rcases h.lo with⟨d,l⟩|d
  ·grind
  grind
 ·right
  rcases h.lo with⟨rfl| ⟨j,m,rfl⟩,_⟩|rfl
  ·rfl
  ·exact akp some (ari (show p<=j by omega))
  ·exact akp some (azm p)
theorem LI.gone(a:Nat)(f:a<4294967296): ∃c d b,D XA (.fn (.func wD) [] []) [.ptr p 0,.int .u32 a] ⟨W,mr⟩=some (.ret (.au []) ⟨d,b⟩)/\LI bk p N H (gv y a) c d b/\bP p W d:=by
 obtain⟨c,d,b,g1,g2,e,g⟩:=VI h.at' h.ok a f (by have:=VO h.ok a;have:=h.eH;omega) mr;exact⟨c,d,b,g1,h.next oL g2 e g (VP h.ok a) (VN h.ok a),e⟩
theorem LI.done(k:H.length=N)(i:At p x bk H)(j:v.refs<=N):
  ∃b a,finish N lo v ⟨W,mr⟩=(v,⟨b,a⟩)/\At p y nF b/\bP p H b/\vL (nF=bk\/nF= .ai) p H b lo a:=by
 rcases h.lo with⟨f,d⟩|rfl
 ·refine⟨_,lo,iR f j,⟨by rw[aiE oL];exact h.at'.box,h.at'.own.1,?_⟩,h.fr.take k oL,.inl ⟨rfl,by rw[aiI];have:=h.fr.len;omega,d⟩⟩;rcases h.at'.own.2 with q| ⟨id,aj,s,r,o⟩
  ·grind
  ·rcases d with rfl|rfl
   ·rcases i.own.2 with⟨e,_⟩| ⟨g,c,n,m,l⟩
    ·grind
    grind
   grind
 ·exact⟨_,cC lo p,vN oL,h.at',h.fr,.inr rfl⟩
theorem LI.err(e:H.length=N)(d:v.refs<=N): ∃b a,finish N lo v ⟨W,mr⟩=(v,⟨b,a⟩)/\bP p H b/\zQ p H b lo a:=by
 rcases h.lo with⟨c,f⟩|rfl
 ·exact⟨_,lo,iR c d,h.fr.take e oL,.inl ⟨rfl,by rw[aiI];have:=h.fr.len;omega,trivial⟩⟩
 ·exact⟨_,cC lo p,vN oL,h.fr,.inr rfl⟩
end
theorem akl{m:Nat}{I:Nat->Env->List ae->oN->Prop}{Q:bQ}{a:Fr}{E:AS}:AI k m I Q (.panic v) a E=Q (.panic v) a E:=rfl
instance:Inhabited ke:=⟨zw⟩
def awx(bk:AV)(p:Nat)(H:List ae)(lo:oN):R aq->aS->Prop
 |.ok y,b=> ∃a H' ak,b= .ret (.au []) ⟨H',ak⟩/\At p y a H'/\bP p H H'/\vL (a=bk\/a= .ai) p H H' lo ak
 |.error e,b=> ∃H' ak,b= .panic (iT e) ⟨H',ak⟩/\bP p H H'/\zQ p H H' lo ak
def CB(y:aq)(m:ke):R aq:=if m.aL=0\/m.share=true then pure y else if y.s.alive m.fr then mM y m.aL m.fr else pure (gv y m.aL)
def vO(x:aq)(aa:Nat):aq:={x.bx aa zx with s:={(x.bx aa zx).s with alive:=ar (x.bx aa zx).s.alive aa false}}
def MK(y:aq)(aa:Nat):R aq:=
 ((bn y.s.T.b).filter λh=>decide (root y.s.T h=h)&&decide ((b0 y.s.O y.s.T h).kind=3)&& (decide (aa<8)&&ou (b0 y.s.O y.s.T h).hold aa)).foldlM (λy h=>jI y h aa) y
def VQ(y:aq)(aa:Nat):R aq:=do
 let y:=((bn y.s.T.b).filter λh=>decide (root y.s.T h=h)&&decide ((b0 y.s.O y.s.T h).kind=1)&&decide ((b0 y.s.O y.s.T h).aa=aa)).foldl gv y
 ((bn y.s.T.b).filter λh=>decide (root y.s.T h=h)&&decide ((b0 y.s.O y.s.T h).kind=3)&& (decide (aa<8)&&ou (b0 y.s.O y.s.T h).hold aa)).foldlM (λy h=>jI y h aa) y
def VS(y:aq)(aa:Nat):R aq:=do
 let y:=(xi y.s.K aa).foldl (λy h=>y.k (mJ y.s.K h).1) y
 let y:=((bn y.s.T.b).filter λh=>decide (root y.s.T h=h)&&decide ((b0 y.s.O y.s.T h).kind=1)&&decide ((b0 y.s.O y.s.T h).aa=aa)).foldl gv y
 ((bn y.s.T.b).filter λh=>decide (root y.s.T h=h)&&decide ((b0 y.s.O y.s.T h).kind=3)&& (decide (aa<8)&&ou (b0 y.s.O y.s.T h).hold aa)).foldlM (λy h=>jI y h aa) y
theorem akm(x:aq)(aa:Nat):nq x aa=(fP (x.s.c8 aa)).foldlM CB (vO x aa)>>=λy=>VS y aa:=rfl
def foldlM_succ[Inhabited β]{f:α->β->R α}{l:List β}{a:α}(h:k<l.length): (l.take (k+1)).foldlM f a=((l.take k).foldlM f a>>=λy=>f y (l.getD k default)):=by grind [List.take_add_one,List.getElem?_eq_getElem,List.foldlM_append]
def akn{f:α->β->R α}{l:List β}{a:α}(h: (l.take k).foldlM f a= .error e):l.foldlM f a= .error e:=by
 rw[<-apt k l,List.foldlM_append,h];rfl
def zS(y:aq)(h:Nat):aq:=y.k (mJ y.s.K h).1
def foldl_succ{f:α->Nat->α}{l:lN}{a:α}(h:k<l.length): (l.take (k+1)).foldl f a=f ((l.take k).foldl f a) (l.getD k default):=by grind [List.take_add_one,List.getElem?_eq_getElem,getD_eq]
def awy{z:aq}{h:Nat}(hs:bm y.s)(d:h<4294967296)(b:jI y h aa= .ok z):bm z.s/\eH z<=eH y:=by
 have f:jI y h aa=bc (dt y.s.O y.s.T h aa false).2.2>>=λ_=>.ok (if(dt y.s.O y.s.T h aa false).2.1=0 then gv (y.o (dt y.s.O y.s.T h aa false).1) h else y.o (dt y.s.O y.s.T h aa false).1):=rfl
 rw[f]at b;have a:bm (y.o (dt y.s.O y.s.T h aa false).1).s:=hs.vJ (hs.O.held d);cases c:bc (dt y.s.O y.s.T h aa false).2.2 with
 |error e=>rw[c]at b;cases b
 |ok _=>
  rw[c]at b;cases b;split
  ·exact⟨VP a h,VN a h⟩
  ·exact⟨a,agW _⟩
section
variable{x:aq}{bk:AV}{p:Nat}{H:List ae}(lo:oN)(ha:At p x bk H)(hs:bm x.s)
include ha hs
theorem ako(aa:Nat)(ht:aa<8)(hp:eH x<=2048):
  ∃cr,D XA (.fn (.func I4) [] []) [.ptr p 0,.int .i64 aa] ⟨H,lo⟩=some cr/\awx bk p H lo (nq x aa) cr:=by
 refine cz SA λN hN=>?_
 have ho:Old p H (.box (aV x bk) none):=⟨ha.box⟩;have O:p<N:=by rw[<-hN];exact ho.lt
 obtain⟨w,d1,d2,d3⟩:=avH (x.s.c8 aa) (hs.bx aa) H none;have d1:=lx d1;have c1: (aa:Int)<8:=by omega
 have c2:784+aa*19<=945:=by omega
 have c3:936+aa<=963:=by omega
 have hb:=λ (y:aq) bk=> @My y bk aa ht
 have hsb:=λ (y:aq) bk b=> @Mz y bk aa b ht
 have hsa:=λ (y:aq) bk v=> @ajK y bk aa v ht
 have J:=λE=>(show Rd E w 4 ((fP (x.s.c8 aa)).map eg)from d2 E).bK
 have hbl: (fP (x.s.c8 aa)).length<=4:=by have:=(hs.bx aa).n;simp[fP];omega
 have hml: ∀m∈fP (x.s.c8 aa),vF m:=λm hm=>by
  obtain⟨i,_,rfl⟩:=ag2.1 hm;exact(hs.bx aa).ring _
 rw[akm];generalize hl:fP (x.s.c8 aa)=l at*;simp only[go_sem,simprocAttr,SA,hN,ho.at',ho.g,ho.s,ho.g2,ho.s2,CS,c1,c2,c3,↓hb,hsb,hsa,d1,J,MB];have hs0:bm (vO x aa).s:=(hs.Cy iS.gone).VC;have awA:LI bk p N H (vO x aa) bk (H.set p (.box (aV (vO x aa) bk) none)) none:=LI.set ⟨ha,bP.refl _ _,hs,hp,.inl ⟨.inl rfl,.inl rfl⟩⟩ hs0 rfl (agW _);refine gS l.length (λk e W' ak=> ∃y I,(l.take k).foldlM CB (vO x aa)= .ok y/\LI bk p N H y I W' ak/\e 0= .ptr p 0/\e 1= .int .i64 aa/\e 38=w/\e 39= .int .i64 l.length/\e 40= .int .i64 k) 0 (by omega) ?_ ?_
 ·simp only[go_sem,simprocAttr];exact⟨vO x aa,bk,rfl,awA.app _⟩
 rintro k hk e U s ⟨y,A,y1,d,C,B,r,o,j⟩ n hn;simp only[bR,go_sem,simprocAttr,agv,d.dA.at',↓CL,C,B,r,o,j];refine⟨λW=>?_,λW=>?_⟩
 ·have g:k<l.length:=by omega
  have F:=(show Rd ⟨U,s⟩ w 4 (l.map eg)from d2 _);have c:=foldlM_succ (f:=CB) (a:=vO x aa) g;rw[y1,okB]at c;have VT:vF (l.getD k default):=by
   exact hml _ (by simp[List.getD,g])
  have VU:=VT.aL;have hmf:=VT.fr;have L2:=d.app [ae.box (eg (l.getD k default)) none];have o7:=d.dA;have pc:=λ (z:aq) bk=> @Vu z bk (l.getD k default).fr hmf
  have c4: ((l.getD k default).fr:Int)<8:=by omega
  have e1:CB y (l.getD k default)=if(l.getD k default).aL=0\/ (l.getD k default).share=true then .ok y else if y.s.alive (l.getD k default).fr then mM y (l.getD k default).aL (l.getD k default).fr else .ok (gv y (l.getD k default).aL):=rfl
  rw[e1]at c;by_cases h0: (l.getD k default).aL=0
  ·have S:decide (((l.getD k default).aL:Int)=0)=true:=agR (by omega);rw[afl (.inl h0)]at c;simp(disch:=omega) only[go_sem,simprocAttr,F.ck,F.cE,oJ,S,hn,C,B,r,o,j];exact⟨by omega,g,y,A,c,L2⟩
  ·have S:decide (((l.getD k default).aL:Int)=0)=false:=afv (by omega);cases G: (l.getD k default).share with
   |true=>
    rw[afl (.inr G)]at c;rw[oJ,G]at L2;simp(disch:=omega) only[go_sem,simprocAttr,F.ck,F.cE,oJ,S,G,hn,C,B,r,o,j];exact⟨by omega,g,y,A,c,L2⟩
   |false=>
    rw[afi (by rintro(q|q);exact h0 q;rw[G]at q;cases q)]at c;rw[oJ,G]at L2;cases Y:y.s.alive (l.getD k default).fr with
    |false=>
     rw[Y,afi (by simp)]at c;obtain⟨T,W2,Q,g1,g2,Z⟩:=L2.gone O (l.getD k default).aL VU;simp(disch:=omega) only[go_sem,simprocAttr,F.ck,F.cE,oJ,S,G,Y,o7.g,c4,↓pc,g1,hn,C,B,r,o,j];exact⟨by omega,g,_,T,c,g2⟩
    |true=>
     rw[Y,afl rfl]at c;have hw:=MH (ho:=L2.dA) (lo:=s) L2.ok (l.getD k default).aL VU (l.getD k default).fr (by omega);simp(disch:=omega) only[go_sem,simprocAttr,F.ck,F.cE,oJ,S,G,Y,o7.g,o7.s,c4,↓pc,hw,akl,dI,dJ,EP,hn,C,B,r,o,j];refine⟨by omega,λm1=>⟨g,_,A,?_,(d.set (z:=y.o (rj y.s.O y.s.T (l.getD k default).aL (l.getD k default).fr).1) (d.ok.vJ (d.ok.O.iq VU)) rfl (agW _)).app _⟩,λe' m1=>?_⟩
     ·rw[c];unfold mM;rw[m1];rfl
     ·obtain⟨H2,Q,g1,g2,Z⟩:=LI.err (v:=iT e') (lo:=lo) O L2 hN (agS _);have c: (l.take (k+1)).foldlM CB (vO x aa)= .error e':=by rw[c];unfold mM;rw[m1];rfl
      rw[akn c,cV];rw[g1];exact⟨_,_,rfl,g2,Z⟩
 ·obtain rfl:k=l.length:=by omega
  rw[ag4]at y1;rw[y1,okB];clear hsa hsb hb d1 J hml;have aks:=d.ok;obtain⟨wt,t1,t2,t3⟩:=au2 y.s.K aks.K aa U s;have t1:=ly t1;have VV:=λE=>(show Rd E wt 1 ((xi y.s.K aa).map hC)from t2 E).bK
  simp only[go_sem,simprocAttr,t1,VV];have e1:VS y aa=VQ ((xi y.s.K aa).foldl zS y) aa:=rfl;rw[e1];have K: (xi y.s.K aa).length<=32:=ajR (amt _ _) (nd _);generalize AA:xi y.s.K aa=M at*;have u: ∀z∈M,z<4294967296:=λz hz=>by
   rw[<-AA]at hz;exact gg ((jh aks.K.b).1 (air.1 hz).1)
  refine gS M.length (λk e W' ak=> ∃I,LI bk p N H ((M.take k).foldl zS y) I W' ak/\e 0= .ptr p 0/\e 1= .int .i64 aa/\e 80=wt/\e 81= .int .i64 M.length/\e 82= .int .i64 k) 0 (by omega) ?_ ?_
  ·simp only[go_sem,simprocAttr,C,B];exact⟨A,d⟩
  clear d y1 hk C B r o j W t1 d2 d3;rintro k hk e U s ⟨A,d,C,B,r,o,j⟩ n hn;simp only[bR,go_sem,simprocAttr,agu,d.dA.at',↓CL,C,B,r,o,j];refine⟨λW=>?_,λW=>?_⟩
  ·have g:k<M.length:=by omega
   have F:=(show Rd ⟨U,s⟩ wt 1 (M.map hC)from t2 _);have c:=foldl_succ (f:=zS) (a:=y) g;have P:=u (M.getD k default) (by simp[List.getD,g]);obtain⟨w',L⟩:=ajj ((M.take k).foldl zS y).s.K d.ok.K (M.getD k default) P (d.ok.th _) U s;have L:=ly L;simp(disch:=omega) only[go_sem,simprocAttr,F.ck,F.cE,↓pH,d.dA.at',↓CL,CS,L,C,B,r,o,j];rw[c];exact⟨by omega,g,A,d.set (z:=zS ((M.take k).foldl zS y) (M.getD k default)) (d.ok.Cx (d.ok.tok.ret _)) rfl (agW _)⟩
  ·obtain rfl:k=M.length:=by omega
   simp only[ag4]at d⊢;clear AA K u VV t2 hk W;generalize M.foldl zS y=z at*;obtain⟨wr,L,r2,r3⟩:=avk z.s.O d.ok.O z.s.T d.ok.T d.ok.tr aa U s;have L:=ly L;have R:=λE=>(show Rd E wr 1 ((jK z.s.O z.s.T (qf aa)).map hC)from r2 E).bK
   simp only[go_sem,simprocAttr,L,R];have e1:VQ z aa=MK ((jK z.s.O z.s.T (qf aa)).foldl gv z) aa:=by
    have: (λh=>decide (root z.s.T h=h)&&decide ((b0 z.s.O z.s.T h).kind=1)&&decide ((b0 z.s.O z.s.T h).aa=aa))=xD z.s.O z.s.T (qf aa):=by funext h;simp[xD,qf,Bool.and_assoc]
    unfold VQ jK MK;rw[this]
   rw[e1];have K: (jK z.s.O z.s.T (qf aa)).length<=32:=ajR (amt _ _) (nd _);have u: ∀a∈jK z.s.O z.s.T (qf aa),a<4294967296:=λa ha=>gg ((jh d.ok.T.b).1 (air.1 ha).1)
   generalize jK z.s.O z.s.T (qf aa)=X at*;refine gS X.length (λk e W' ak=> ∃I,LI bk p N H ((X.take k).foldl gv z) I W' ak/\e 0= .ptr p 0/\e 1= .int .i64 aa/\e 117=wr/\e 118= .int .i64 X.length/\e 119= .int .i64 k) 0 (by omega) ?_ ?_
   ·simp only[go_sem,simprocAttr,C,B];exact⟨A,d⟩
   clear d C B r o j L e1 R;rintro k hk e U s ⟨A,d,C,B,r,o,j⟩ n hn;simp only[bR,go_sem,simprocAttr,agt,d.dA.at',↓CL,C,B,r,o,j];refine⟨λW=>?_,λW=>?_⟩
   ·have g:k<X.length:=by omega
    have F:=(show Rd ⟨U,s⟩ wr 1 (X.map hC)from r2 _);have c:=foldl_succ (f:=gv) (a:=z) g;have P:=u (X.getD k default) (by simp[List.getD,g]);obtain⟨T,W2,Q,g1,g2,Z⟩:=d.gone O (X.getD k default) P;simp(disch:=omega) only[go_sem,simprocAttr,F.ck,F.cE,↓pH,g1,C,B,r,o,j];rw[c];exact⟨by omega,g,T,g2⟩
   ·obtain rfl:k=X.length:=by omega
    simp only[ag4]at d⊢;clear K u r2 hk W;generalize X.foldl gv z=t at*;obtain⟨wh,L,r2,r3⟩:=avl t.s.O d.ok.O t.s.T d.ok.T d.ok.tr aa (by omega) U s;have L:=ly L;have R:=λE=>(show Rd E wh 1 ((jK t.s.O t.s.T (oI aa)).map hC)from r2 E).bK
    simp only[go_sem,simprocAttr,L,R];have e1:MK t aa=(jK t.s.O t.s.T (oI aa)).foldlM (λy h=>jI y h aa) t:=by
     have: (λh=>decide (root t.s.T h=h)&&decide ((b0 t.s.O t.s.T h).kind=3)&& (decide (aa<8)&&ou (b0 t.s.O t.s.T h).hold aa))=xD t.s.O t.s.T (oI aa):=by funext h;simp[xD,oI,Bool.and_assoc]
     unfold jK MK;rw[this]
    rw[e1];have K: (jK t.s.O t.s.T (oI aa)).length<=32:=ajR (amt _ _) (nd _);have u: ∀a∈jK t.s.O t.s.T (oI aa),a<4294967296:=λa ha=>gg ((jh d.ok.T.b).1 (air.1 ha).1)
    generalize jK t.s.O t.s.T (oI aa)=V at*;refine gS V.length (λk e W' ak=> ∃y I,(V.take k).foldlM (λy h=>jI y h aa) t= .ok y/\LI bk p N H y I W' ak/\e 0= .ptr p 0/\e 1= .int .i64 aa/\e 140=wh/\e 141= .int .i64 V.length/\e 142= .int .i64 k) 0 (by omega) ?_ ?_
    ·simp only[go_sem,simprocAttr,C,B];exact⟨t,A,rfl,d⟩
    clear d C B r o j L e1 R;rintro k hk e U s ⟨y,A,y1,d,C,B,r,o,j⟩ n hn;simp only[bR,go_sem,simprocAttr,ags,r,o,j];refine⟨λW=>?_,λW=>?_⟩
    ·have g:k<V.length:=by omega
     have F:=(show Rd ⟨U,s⟩ wh 1 (V.map hC)from r2 _);have c:=foldlM_succ (f:=λy h=>jI y h aa) (a:=t) g;rw[y1,okB]at c;have P:=u (V.getD k default) (by simp[List.getD,g]);obtain⟨cr,g1,g2⟩:=akh s d.at' d.ok (V.getD k default) P aa (by omega) (by have:=VO d.ok (V.getD k default);have:=d.eH;omega);cases Df:jI y (V.getD k default) aa with
     |ok z3=>
      rw[Df]at g2 c;obtain⟨T,W2,Q,rfl,g2,Z,g4⟩:=g2;have hd:=awy d.ok P Df;simp(disch:=omega) only[go_sem,simprocAttr,F.ck,F.cE,↓pH,g1,C,B,r,o,j];exact⟨by omega,g,z3,T,c,d.next O g2 Z g4 hd.1 hd.2⟩
     |error e'=>
      rw[Df]at g2 c;have g2:cr=_:=g2;rw[g2]at g1;simp(disch:=omega) only[go_sem,simprocAttr,F.ck,F.cE,↓pH,g1,akl,EP,C,B];refine⟨by omega,?_⟩;obtain⟨H2,Q,g1,g2,Z⟩:=LI.err (v:=iT e') (lo:=lo) O d hN (agS _);rw[akn c,g1];exact⟨_,_,rfl,g2,Z⟩
    ·obtain rfl:k=V.length:=by omega
     rw[ag4]at y1;rw[y1];obtain⟨H2,Q,g1,g2,Z,g4⟩:=d.done O (v:=.au []) (lo:=lo) hN ha (agS _);rw[g1];exact⟨_,_,_,rfl,g2,Z,g4⟩
end
section
variable{x:aq}{bk:AV}{p:Nat}{H:List ae}(lo:oN)(ha:At p x bk H)(hx:mQ x)
include ha hx
theorem awC(l:eH x<=2048): ∃j,D XA (.fn (.func Jo) [] []) [.ptr p 0] ⟨H,lo⟩=some j/\s8 p H lo (nq x x.aa>>=λy=>.ok (y,bX)) j:=by
 refine cz Ls λN f=>?_
 have ho:Old p H (.box (aV x bk) none):=⟨ha.box⟩;have c:p<N:=by rw[<-f];exact ho.lt
 obtain⟨j,g1,g2⟩:=ako (bk:=bk) (H:=H++[.box [.int .i64 0,.int .u64 0,.int .u32 0] none]) none ⟨ho.g _,ha.own.ext⟩ hx.s x.aa hx.t l;cases k:nq x x.aa with
 |error e=>
  rw[k]at g2;obtain⟨W,ak,rfl,g,i⟩:=g2;simp only[go_sem,simprocAttr,Ls,f,ho.g,↓CL,g1,EP];obtain⟨n,h,f1,f2,f3⟩:=MJ (v:=iT e) (lo:=lo) f c g (i.imp And.left id) (agS _);rw[f1,cV];exact⟨_,_,rfl,f2,f3⟩
 |ok y=>
  rw[k]at g2;obtain⟨m,W,ak,rfl,g2,g,i⟩:=g2;have b:W[N]?=some (.box [.int .i64 0,.int .u64 0,.int .u32 0] none):=g.box N _ (by omega) (λa d e=>by cases e) (by grind);simp only[go_sem,simprocAttr,Ls,f,ho.g,↓CL,g1,b,cN b];obtain⟨n,h,f1,f2,f3,f4⟩:=zR (v:=.agg [.int .i64 0,.int .u64 0,.int .u32 0]) (lo:=lo) f c CA g2 g (i.imp (λq=>⟨q.1,.inl q.2.1,trivial⟩) id) (agS _) b (.box [.int .i64 0,.int .u64 0,.int .u32 0] none);rw[f1,okB];exact⟨_,_,_,rfl,f2,f3,f4⟩
theorem awD(o:eH x<=2048): ∃m,D XA (.fn (.func Jp) [] []) [.ptr p 0] ⟨H,lo⟩=some m/\s8 p H lo (xm x) m:=by
 refine cz FF λN f=>?_
 have ho:Old p H (.box (aV x bk) none):=⟨ha.box⟩;have g:p<N:=by rw[<-f];exact ho.lt
 have r:xm x=l0 x x.c.a>>=λ_=>nq x x.c.a>>=λy=>.ok (y,bX):=rfl
 have h:=λB lo=>MF (ho.app B) lo x.c.a
 rw[r];by_cases k:x.c.a<8
 ·obtain⟨m,g1,g2⟩:=ako (bk:=bk) (H:=H++[.box [.int .i64 0,.int .u64 0,.int .u32 0] none]) none ⟨ho.g _,ha.own.ext⟩ hx.s x.c.a k o;cases n:nq x x.c.a with
  |error e=>
   rw[n]at g2;obtain⟨W,ak,rfl,i,l⟩:=g2;simp(disch:=omega) only[F1,go_sem,simprocAttr,FF,f,ho.g,↓CL,h,g1,dI,dJ,EP];obtain⟨u,j,f1,f2,f3⟩:=MJ (v:=iT e) (lo:=lo) f g i (l.imp And.left id) (agS _);rw[f1]
   (repeat' (first| (refine⟨?_,?_⟩)|intro _))
   ·rename_i b;rw[b,okB,cV];exact⟨_,_,rfl,f2,f3⟩
   ·rename_i s b;rw[b,cV];exact .err
  |ok y=>
   rw[n]at g2;obtain⟨t,W,ak,rfl,g2,i,l⟩:=g2;have c:W[N]?=some (.box [.int .i64 0,.int .u64 0,.int .u32 0] none):=i.box N _ (by omega) (λa d e=>by cases e) (by rw[dh f];rfl);simp(disch:=omega) only[F1,go_sem,simprocAttr,FF,f,ho.g,↓CL,h,g1,c,cN c,dI,dJ,EP];obtain⟨u,j,f1,f2,f3,f4⟩:=zR (v:=.agg [.int .i64 0,.int .u64 0,.int .u32 0]) (lo:=lo) f g CA g2 i (l.imp (λq=>⟨q.1,.inl q.2.1,trivial⟩) id) (agS _) c (.box [.int .i64 0,.int .u64 0,.int .u32 0] none);rw[f1]
   (repeat' (first| (refine⟨?_,?_⟩)|intro _))
   ·rename_i b;rw[b,okB,okB];exact⟨_,_,_,rfl,f2,f3,f4⟩
   ·rename_i s b;rw[b,cV];exact .err
 ·rw[xI k]at h;simp only[F1,go_sem,simprocAttr,FF,f,ho.g,↓CL,h,dP,EP];rw[xI k,cV];exact .err
end
def rI:Nat->oN
 |1=>some I6|2=>some I7|3=>some I8|4=>some I9|5=>some Ja
 |6=>some Jb|7=>some Jc|8=>some Jd|9=>some Je|10=>some Jf
 |11=>some Jg|12=>some Jh|13=>some Ji|14=>some Jj|15=>some Ba
 |16=>some Ba|17=>some Jl|18=>some Jm|19=>some Jn|20=>some Jo
 |21=>some Jp|22=>some Jq|_=>none
def awE{H:List ae}(lo:oN)(d:At p x bk H)(b:mQ x)(j:eH x<=2048){f:Nat}(g:rI x.c.op=some f):
  ∃c,D XA (.fn (.func f) [] []) [.ptr p 0] ⟨H,lo⟩=some c/\s8 p H lo (ki x) c:=by
 have ho:Old p H (.box (aV x bk) none):=⟨d.box⟩;have hB: ∀a,x.back.length+64*(under x.s.T a).length<=4294967296:=λa=>by have:=VO b.s a;omega
 have i:x.back.length<=4294967296:=by have:=hB 0;omega
 have ex: ∀ {f:Nat} {m:R (aq×bE)},(∃c,D XA (.fn (.func f) [] []) [.ptr p 0] ⟨H,lo⟩=some c/\aZ x.back bk p H lo m c)-> ∃c,D XA (.fn (.func f) [] []) [.ptr p 0] ⟨H,lo⟩=some c/\s8 p H lo m c:=λh=>by
  obtain⟨c,l,k⟩:=h;exact⟨c,l,k.c d⟩
 unfold rI at g;unfold ki;split at g<;>(try cases g)<;>(rename_i e;simp only[e])
 ·exact ex (awc ho b)
 ·exact ex (awf ho b)
 ·exact ex (avZ ho b)
 ·exact ex (av0 ho b)
 ·exact awl lo d b i
 ·exact awk lo d b (hB _)
 ·exact ex (av9 ho b)
 ·exact ex (av3 ho b)
 ·exact ex (awa ho b)
 ·exact ex (av4 ho b)
 ·exact awo lo d b (hB _)
 ·exact ex (awd ho b)
 ·exact ex (av6 ho b)
 ·exact ex (awe ho b)
 ·exact ex (aka ho b)
 ·exact ex (aka ho b)
 ·exact ex (av5 ho b)
 ·exact ex (av8 ho b)
 ·exact ex (av2 ho b)
 ·exact awC lo d b j
 ·exact awD lo d b j
 ·exact ex (av7 ho b)
def awF(h:rI x.c.op=none):ki x= .error 2:=by
 unfold rI at h;unfold ki
 grind
noncomputable def Gs:lA->AS->Option aS:=wx XA (D XA) Lw xH wB wZ
def awG(p:Nat)(H:List ae)(lo:oN):R (aq×bE)->aS->Prop
 |.ok (y,r),a=> ∃b H' ak,a= .ret (.agg (bF r)) ⟨H',ak⟩/\At p y b H'/\bP p H H'/\zQ p H H' lo ak
 |.error e,a=> ∃H' ak,a= .ret (.agg (bF {bX with e:=e})) ⟨H',ak⟩/\bP p H H'/\zQ p H H' lo ak
def awH{K:AS->Prop}{H:List ae}(h:K ⟨H,lo⟩):qH XA xH (.fn (.func AY) [] [.ptr q 0]) [] .ew ⟨H,lo⟩ K:=by
 refine Ik (pr:=w4) rfl rfl λn a=>?_
 simp(disch:=omega) only[F1,go_sem,simprocAttr,w4,ajS];exact⟨.inl trivial,.au [],rfl,by trivial⟩
def MM{K:AS->Prop}{H:List ae}{a b c:AV}(e:Nat)(d:H[q]?=some (.box [a,b,c] none))(h:K ⟨H.set q (.box [.int .i64 e,.int .u64 0,.int .u32 0] none),lo⟩):qH XA xH (.fn (.func AY) [] [.ptr q 0]) [] (iT e) ⟨H,lo⟩ K:=by
 refine Ik (pr:=w4) rfl rfl λn f=>?_
 simp only[F1,go_sem,simprocAttr,w4,ajT,d,ajU];refine⟨.inl trivial,.au [],rfl,?_⟩;rw[afl (show(AV.au []).refs<=n from agS _),agQ (by grind)];exact h
def akt{H:List ae}(lo:oN)(J:At p x bk H)(K:bm x.s)(P:jM x.c)(M:x.run.1<4294967296/\x.run.2<4294967296)(T:x.aa<4294967296)(O:eH x<=2048)
  (o: ∀E,gQ XA.fa E .int .cJ (.iY uO) (.int .u8 x.c.op) true=some (match rI x.c.op with|some f=>.au [.fn (.func f) [] [],.bool true]|none=>.au [.cJ,.bool false])):
  ∃G,Gs [.ptr p 0] ⟨H,lo⟩=some G/\awG p H lo (ji x) G:=by
 refine Pq wZ rfl rfl λN g=>?_
 have ho:Old p H (.box (aV x bk) none):=⟨J.box⟩;have m:p<N:=by rw[<-g];exact ho.lt
 have c: ∀b H lo,D XA (.fn (.func cQ) [] []) [.bool b,.int .i64 12] ⟨H,lo⟩=_:=λb=>lp b 12
 by_cases w:x.aa<8
 ·have s: (x.aa:Int)<8:=by omega
  have c0: (x.aa:Int)>=0:=by omega
  have hand:dg .and (.int .i64 (x.aa:Nat)) (.int .i64 7)=some (.int .i64 (x.aa:Nat)):=by
   rcases(show x.aa=0\/x.aa=1\/x.aa=2\/x.aa=3\/x.aa=4\/x.aa=5\/x.aa=6\/x.aa=7 by omega)with h|h|h|h|h|h|h|h<;>rw[h]<;>rfl
  have n: ∀E,cg XA E false 1 (.df uO)=some (.iY uO):=λE=>rfl
  have i:=λbk=> @Vu x bk x.aa w
  cases l:x.s.alive x.aa with
  |false=>
   rw[l]at i;have c: ∀H lo,D XA (.fn (.func cQ) [] []) [.bool false,.int .i64 12] ⟨H,lo⟩=_:=λH lo=>lx (zN 12 H lo)
   simp only[go_sem,simprocAttr,wZ,g,jY,jX,ho.g,↓CL,s,c0,hand,↓i,c,iU];refine⟨rfl,?_⟩;rw[nV];refine MM 12 (by rw[dh g];rfl) ?_;have u:ji x= .error 12:=by
    have: (decide (x.aa<8)&&x.s.alive x.aa)=false:=by rw[l,asR]
    unfold ji;rw[this];rfl
   simp(disch:=omega) only[F1,go_sem,simprocAttr];rw[u];exact⟨_,_,rfl,bP.refl _ _,.inl ⟨rfl,rfl,trivial⟩⟩
  |true=>
   rw[l]at i;have c: ∀H lo,D XA (.fn (.func cQ) [] []) [.bool true,.int .i64 12] ⟨H,lo⟩=_:=λH lo=>lx (Gn 12 H lo)
   have u:ji x=ki x:=by
    have: (decide (x.aa<8)&&x.s.alive x.aa)=true:=by rw[l,agR w];rfl
    unfold ji;rw[this];rfl
   rw[u];cases k:rI x.c.op with
   |none=>
    rw[k]at o;have z: ∀H lo,D XA (.fn (.func cQ) [] []) [.bool false,.int .i64 2] ⟨H,lo⟩=_:=λH lo=>lx (zN 2 H lo)
    simp only at o;simp only[go_sem,simprocAttr,wZ,g,jY,jX,ho.g,↓CL,s,c0,hand,↓i,c,n,o,z];refine⟨rfl,?_⟩;rw[nV];refine MM 2 (by rw[dh g];rfl) ?_;simp(disch:=omega) only[F1,go_sem,simprocAttr];rw[awF k];exact⟨_,_,rfl,bP.refl _ _,.inl ⟨rfl,rfl,trivial⟩⟩
   |some f=>
    rw[k]at o;simp only at o;have z: ∀H lo,D XA (.fn (.func cQ) [] []) [.bool true,.int .i64 2] ⟨H,lo⟩=_:=λH lo=>lx (Gn 2 H lo)
    obtain⟨G,g1,g2⟩:=awE (bk:=bk) (H:=H++[.box [.int .i64 0,.int .u64 0,.int .u32 0] none]) none ⟨ho.g _,J.own.ext⟩ ⟨K,w,P,M⟩ O k;cases I:ki x with
    |error e=>
     rw[I]at g2;obtain⟨W,ak,rfl,t,F⟩:=g2;have j:W[N]?=some (.box [.int .i64 0,.int .u64 0,.int .u32 0] none):=t.box N _ (by omega) (λa d e=>by cases e) (by rw[dh g];rfl);simp only[go_sem,simprocAttr,wZ,g,jY,jX,ho.g,↓CL,s,c0,hand,↓i,c,n,o,z,g1];refine⟨rfl,?_⟩;rw[nV];refine MM e j ?_;simp only[go_sem,simprocAttr,cN j];have Q:bP p (H++[]) (W.set N (.box [.int .i64 (e:Nat),.int .u64 0,.int .u32 0] none)):=by
      rw[aip];exact akg g m (VK (N:=N) t (by omega)) _
     obtain⟨S,A,f1,f2,f3⟩:=MJ (v:=.agg [.int .i64 (e:Nat),.int .u64 0,.int .u32 0]) (lo:=lo) g m Q (F.imp And.left id) (agS _);rw[f1];exact⟨_,_,rfl,f2,f3⟩
    |ok a=>
     rw[I]at g2;obtain⟨y,r⟩:=a;obtain⟨R,W,ak,rfl,g2,t,F⟩:=g2;have j:W[N]?=some (.box [.int .i64 0,.int .u64 0,.int .u32 0] none):=t.box N _ (by omega) (λa d e=>by cases e) (by rw[dh g];rfl);simp only[go_sem,simprocAttr,wZ,g,jY,jX,ho.g,↓CL,s,c0,hand,↓i,c,n,o,z,g1,j];refine⟨rfl,rfl,?_⟩;rw[DK];refine awH ?_;have L:List.drop (bF r).length [AV.int .i64 0,.int .u64 0,.int .u32 0]=[]:=rfl;have B:List.take 3 (bF r)=bF r:=rfl;have C: (bF r).length=3:=rfl;simp only[go_sem,simprocAttr,cN j,B,C];obtain⟨S,A,f1,f2,f3,f4⟩:=zR (v:=.agg (bF r)) (lo:=lo) g m CA g2 t (F.imp (λq=>⟨q.1,.inl q.2.1,trivial⟩) id) (agS _) j (.box (bF r) none);rw[afl (show aG (bF r)<=N+1 from agS _),f1];exact⟨_,_,_,rfl,f2,f3,f4⟩
 ·have s: ¬(x.aa:Int)<8:=by omega
  have c0: (x.aa:Int)>=0:=by omega
  have c: ∀H lo,D XA (.fn (.func cQ) [] []) [.bool false,.int .i64 12] ⟨H,lo⟩=_:=λH lo=>lx (zN 12 H lo)
  simp only[go_sem,simprocAttr,wZ,g,jY,jX,ho.g,↓CL,s,c0,c,iU];refine⟨rfl,?_⟩;rw[nV];refine MM 12 (by rw[dh g];rfl) ?_;have u:ji x= .error 12:=by
   have: (decide (x.aa<8)&&x.s.alive x.aa)=false:=by rw[afv w];rfl
   unfold ji;rw[this];rfl
  simp(disch:=omega) only[F1,go_sem,simprocAttr];rw[u];exact⟨_,_,rfl,bP.refl _ _,.inl ⟨rfl,rfl,trivial⟩⟩
noncomputable def XB:Ctx:={XA with bU:=λf=>if f=wB then some Gs else XA.bU f}
theorem aku:Ext XA XB where
 df:=rfl
 fa:=rfl
 code:=rfl
 bU:=λf=>by
  by_cases a:f=wB
  ·subst a;exact .inr ⟨rfl,rfl⟩
  ·left;show(if f=wB then some Gs else XA.bU f)=XA.bU f
   grind
theorem MN{args:lA}{E:AS}{a:AS}(h:Gs args E=some (.ret v a)):D XB (.fn (.func wB) [] []) args E=some (.ret v a):=DJ rfl h
def NE{α:Type}(m:R α):Prop:=m≠ .error 0
theorem NE.ok{a:α}:NE (.ok a:R α):=by intro h;cases h
theorem NE.pure{a:α}:NE (Pure.pure a:R α):=by intro h;cases h
def NE.err(a:e≠0):NE (.error e:R α):=by intro h;grind
def NE.bind{m:R α}{f:α->R β}(b:NE m)(c: ∀a,NE (f a)):NE (m>>=f):=by
 cases m with
 |error e=>intro h;cases h;exact b rfl
 |ok a=>exact c a
def NE.ask{b:Bool}(a:e≠0):NE (ask b e):=by
 unfold Go.Proofs.YteplichagkpciaaGreatDoor.ask;split
 ·exact NE.ok
 ·exact NE.err a
def NE.bc:NE (bc e):=by
 unfold Go.Proofs.YteplichagkpciaaGreatDoor.bc;split
 ·exact NE.ok
 ·exact NE.err ‹_›
theorem NE.foldlM{α β:Type}{f:α->β->R α}(h: ∀a b,NE (f a b)): ∀ (l:List β) (a:α),NE (l.foldlM f a)
 | [],_=>NE.pure
 |b::l,a=>NE.bind (h a b) λa=>NE.foldlM h l a
theorem kn{h w:Nat}:NE (fD x h w):=NE.bc
theorem ko{t:Nat}:NE (l0 x t):=NE.ask (by decide)
def jn{h t:Nat}:NE (mM x h t):=by(repeat (first|rfl|exact NE.pure|exact NE.bc|rfl|rfl|rfl|rfl|rfl| (refine NE.bind ?_ λ_=>?_)|rfl|split|rfl))
def kp{h:Nat}{r:dc}:NE (nj x h r):=by(repeat (first|rfl|exact NE.pure|exact NE.bc|rfl|rfl|rfl|rfl|rfl| (refine NE.bind ?_ λ_=>?_)|rfl|split|rfl))
def kq{h:Nat}:NE (vg x h):=by(repeat (first|rfl|exact NE.pure|exact NE.bc|rfl|rfl|rfl|rfl|rfl| (refine NE.bind ?_ λ_=>?_)|rfl|split|rfl))
def kr{h:Nat}:NE (xl x h):=by(repeat (first|rfl|rfl|rfl|exact NE.ask (by decide)|rfl|rfl|rfl|rfl| (refine NE.bind ?_ λ_=>?_)|rfl|split|rfl))
def jo{h t:Nat}:NE (jI x h t):=by unfold jI;(repeat (first|rfl|exact NE.pure|exact NE.bc|rfl|rfl|rfl|rfl|rfl| (refine NE.bind ?_ λ_=>?_)| (refine NE.foldlM (λ_ _=>?_) _ _)|split|dsimp only))
def jN{t:Nat}:NE (nq x t):=by
 have b:= @jn;have a:= @jo;unfold nq;(repeat (first|exact NE.ok|exact NE.pure|exact NE.bc|exact NE.ask (by decide)|exact NE.err (by decide)|exact kn|exact ko|assumption| (refine NE.bind ?_ λ_=>?_)| (refine NE.foldlM (λ_ _=>?_) _ _)|split|dsimp only))
 all_goals first|exact jn|exact jo
def awI{t:Nat}:NE (rl x t):=by(repeat (first|rfl|exact NE.pure|exact NE.bc|exact NE.ask (by decide)|rfl|rfl|rfl|rfl| (refine NE.bind ?_ λ_=>?_)|rfl|split|rfl))
def awJ(x:aq):NE (pX x):=by
 unfold pX;(repeat (first|exact NE.ok|exact NE.pure|exact NE.bc|exact NE.ask (by decide)|exact NE.err (by decide)|exact kn|exact ko|assumption| (refine NE.bind ?_ λ_=>?_)| (refine NE.foldlM (λ_ _=>?_) _ _)|split|dsimp only))
 all_goals first|exact jn|exact kp|exact kq|exact kr|exact jo|exact jN
def awK(x:aq):NE (jH x):=by
 unfold jH;(repeat (first|exact NE.ok|exact NE.pure|exact NE.bc|exact NE.ask (by decide)|exact NE.err (by decide)|exact kn|exact ko|assumption| (refine NE.bind ?_ λ_=>?_)| (refine NE.foldlM (λ_ _=>?_) _ _)|split|dsimp only))
 all_goals first|exact jn|exact kp|exact kq|exact kr|exact jo|exact jN
def awL(x:aq):NE (sO x):=by
 unfold sO;(repeat (first|exact NE.ok|exact NE.pure|exact NE.bc|exact NE.ask (by decide)|exact NE.err (by decide)|exact kn|exact ko|assumption| (refine NE.bind ?_ λ_=>?_)| (refine NE.foldlM (λ_ _=>?_) _ _)|split|dsimp only))
 all_goals first|exact jn|exact kp|exact kq|exact kr|exact jo|exact jN
def awM(x:aq):NE (sP x):=by
 unfold sP;(repeat (first|rfl|exact NE.pure|rfl|rfl|rfl|exact kn|exact ko|assumption| (refine NE.bind ?_ λ_=>?_)| (refine NE.foldlM (λ_ _=>?_) _ _)|split|dsimp only))
 all_goals first|exact jn|exact kp|exact kq|exact kr|exact jo|exact jN
def awN(x:aq):NE (vh x):=by
 unfold vh;(repeat (first|exact NE.ok|exact NE.pure|exact NE.bc|exact NE.ask (by decide)|exact NE.err (by decide)|exact kn|exact ko|assumption| (refine NE.bind ?_ λ_=>?_)| (refine NE.foldlM (λ_ _=>?_) _ _)|split|dsimp only))
 all_goals first|exact jn|exact kp|exact kq|exact kr|exact jo|exact jN
def awO(x:aq):NE (vi x):=by
 unfold vi;(repeat (first|exact NE.ok|exact NE.pure|exact NE.bc|exact NE.ask (by decide)|exact NE.err (by decide)|exact kn|exact ko|assumption| (refine NE.bind ?_ λ_=>?_)| (refine NE.foldlM (λ_ _=>?_) _ _)|split|dsimp only))
 all_goals first|exact jn|exact kp|exact kq|exact kr|exact jo|exact jN
def awP(x:aq):NE (vk x):=by
 unfold vk;(repeat (first|exact NE.ok|exact NE.pure|exact NE.bc|exact NE.ask (by decide)|exact NE.err (by decide)|exact kn|exact ko|assumption| (refine NE.bind ?_ λ_=>?_)| (refine NE.foldlM (λ_ _=>?_) _ _)|split|dsimp only))
 all_goals first|exact jn|exact kp|exact kq|exact kr|exact jo|exact jN
def awQ(x:aq):NE (sQ x):=by
 unfold sQ;(repeat (first|rfl|exact NE.pure|exact NE.bc|exact NE.ask (by decide)|exact NE.err (by decide)|exact kn|exact ko|assumption| (refine NE.bind ?_ λ_=>?_)| (refine NE.foldlM (λ_ _=>?_) _ _)|split|dsimp only))
 all_goals first|exact jn|exact kp|exact kq|exact kr|exact jo|exact jN
def awR(x:aq):NE (pZ x):=by
 unfold pZ;(repeat (first|exact NE.ok|exact NE.pure|exact NE.bc|exact NE.ask (by decide)|exact NE.err (by decide)|exact kn|exact ko|assumption| (refine NE.bind ?_ λ_=>?_)| (refine NE.foldlM (λ_ _=>?_) _ _)|split|dsimp only))
 all_goals first|exact jn|exact kp|exact kq|exact kr|exact jo|exact jN
def awS(x:aq):NE (vm x):=by
 unfold vm;(repeat (first|exact NE.ok|exact NE.pure|exact NE.bc|exact NE.ask (by decide)|exact NE.err (by decide)|exact kn|exact ko|assumption| (refine NE.bind ?_ λ_=>?_)| (refine NE.foldlM (λ_ _=>?_) _ _)|split|dsimp only))
 all_goals first|exact jn|exact kp|exact kq|exact kr|exact jo|exact jN
def awT(x:aq):NE (nm x):=by
 unfold nm;(repeat (first|exact NE.ok|exact NE.pure|exact NE.bc|exact NE.ask (by decide)|exact NE.err (by decide)|exact kn|exact ko|assumption| (refine NE.bind ?_ λ_=>?_)| (refine NE.foldlM (λ_ _=>?_) _ _)|split|dsimp only))
 all_goals first|exact jn|exact kp|exact kq|exact kr|exact jo|exact jN
def awU(x:aq):NE (ox x):=by
 unfold ox;(repeat (first|exact NE.ok|exact NE.pure|exact NE.bc|exact NE.ask (by decide)|exact NE.err (by decide)|exact kn|exact ko|assumption| (refine NE.bind ?_ λ_=>?_)| (refine NE.foldlM (λ_ _=>?_) _ _)|split|dsimp only))
 all_goals first|exact jn|exact kp|exact kq|exact kr|exact jo|exact jN
def awV(x:aq):NE (vo x):=by
 unfold vo;(repeat (first|rfl|exact NE.pure|exact NE.bc|exact NE.ask (by decide)|exact NE.err (by decide)|exact kn|exact ko|assumption| (refine NE.bind ?_ λ_=>?_)| (refine NE.foldlM (λ_ _=>?_) _ _)|split|dsimp only))
 all_goals first|exact jn|exact kp|exact kq|exact kr|exact jo|exact jN
def awW(x:aq):NE (oy x):=by
 unfold oy;(repeat (first|exact NE.ok|exact NE.pure|exact NE.bc|exact NE.ask (by decide)|exact NE.err (by decide)|exact kn|exact ko|assumption| (refine NE.bind ?_ λ_=>?_)| (refine NE.foldlM (λ_ _=>?_) _ _)|split|dsimp only))
 all_goals first|exact jn|exact kp|exact kq|exact kr|exact jo|exact jN
def awX(x:aq):NE (vq x):=by
 unfold vq;(repeat (first|exact NE.ok|exact NE.pure|exact NE.bc|exact NE.ask (by decide)|exact NE.err (by decide)|exact kn|exact ko|assumption| (refine NE.bind ?_ λ_=>?_)| (refine NE.foldlM (λ_ _=>?_) _ _)|split|dsimp only))
 all_goals first|exact jn|exact kp|exact kq|exact kr|exact jo|exact jN
def awY(x:aq):NE (rm x):=by
 unfold rm;(repeat (first|rfl|exact NE.pure|rfl|exact NE.ask (by decide)|rfl|rfl|rfl|rfl| (refine NE.bind ?_ λ_=>?_)| (refine NE.foldlM (λ_ _=>?_) _ _)|split|dsimp only))
 all_goals first|exact jn|exact kp|exact kq|exact kr|exact jo|exact jN
def awZ(x:aq):NE (vl x):=by
 unfold vl;(repeat (first|exact NE.ok|exact NE.pure|exact NE.bc|exact NE.ask (by decide)|exact NE.err (by decide)|exact kn|exact ko|assumption| (refine NE.bind ?_ λ_=>?_)| (refine NE.foldlM (λ_ _=>?_) _ _)|split|dsimp only))
 all_goals first|exact jn|exact kp|exact kq|exact kr|exact jo|exact jN
def aw0(x:aq):NE (xm x):=by
 unfold xm;(repeat (first|exact NE.ok|exact NE.pure|exact NE.bc|exact NE.ask (by decide)|exact NE.err (by decide)|exact kn|exact ko|assumption| (refine NE.bind ?_ λ_=>?_)| (refine NE.foldlM (λ_ _=>?_) _ _)|split|dsimp only))
 all_goals first|exact jn|exact kp|exact kq|exact kr|exact jo|exact jN
def aw1(x:aq):NE (ki x):=by
 unfold ki;split<;>first|exact awJ x|exact awK x|exact awI|exact awL x|exact awM x|exact awN x|exact awO x|exact awP x|exact awQ x|exact awZ x|exact awR x|exact awS x|exact awT x|exact awU x|exact awV x|exact awW x|exact awX x|exact aw0 x|exact awY x|exact NE.err (by decide)|exact NE.bind jN λ_=>NE.pure
def akv(h:ji x= .error e):e≠0:=by
 intro he;subst he;exact NE.bind (NE.ask (by decide)) (λ_=>aw1 x) h
def EZ(m:R (aq×bE)):Prop:= ∀a,m= .ok a->a.2.e=0
theorem EZ.ok{a:aq×bE}(h:a.2.e=0):EZ (.ok a):=by intro b c;grind
theorem EZ.pure{a:aq×bE}(h:a.2.e=0):EZ (Pure.pure a:R (aq×bE)):=by intro b c;cases c;exact h
def EZ.err:EZ (.error e):=by intro b a;cases a
def EZ.bind{m:R α}{f:α->R (aq×bE)}(c: ∀a,EZ (f a)):EZ (m>>=f):=by
 cases m with
 |error e=>intro b d;cases d
 |ok a=>exact c a
def aw2(x:aq):EZ (pX x):=by unfold pX;(repeat (first|rfl|exact EZ.pure rfl|rfl|rfl| (refine EZ.bind λ_=>?_)|split|rfl))
def aw3(x:aq):EZ (jH x):=by unfold jH;(repeat (first|rfl|exact EZ.pure rfl|rfl|rfl| (refine EZ.bind λ_=>?_)|split|simp))
def aw4(x:aq):EZ (sO x):=by(repeat (first|rfl|exact EZ.pure rfl|rfl|rfl| (refine EZ.bind λ_=>?_)|split|rfl))
def aw5(x:aq):EZ (sP x):=by(repeat (first|rfl|exact EZ.pure rfl|rfl|rfl| (refine EZ.bind λ_=>?_)|split|rfl))
def aw6(x:aq):EZ (vh x):=by(repeat (first|rfl|exact EZ.pure rfl|rfl|rfl| (refine EZ.bind λ_=>?_)|split|rfl))
def aw7(x:aq):EZ (vi x):=by(repeat (first|rfl|exact EZ.pure rfl|rfl|rfl| (refine EZ.bind λ_=>?_)|split|rfl))
def aw8(x:aq):EZ (vk x):=by(repeat (first|rfl|exact EZ.pure rfl|rfl|rfl| (refine EZ.bind λ_=>?_)|split|rfl))
def aw9(x:aq):EZ (sQ x):=by(repeat (first|rfl|exact EZ.pure rfl|rfl|rfl| (refine EZ.bind λ_=>?_)|split|rfl))
def axa(x:aq):EZ (pZ x):=by(repeat (first|rfl|exact EZ.pure rfl|rfl|rfl| (refine EZ.bind λ_=>?_)|split|rfl))
def axb(x:aq):EZ (vm x):=by(repeat (first|rfl|exact EZ.pure rfl|rfl|rfl| (refine EZ.bind λ_=>?_)|split|rfl))
def axc(x:aq):EZ (nm x):=by(repeat (first|rfl|exact EZ.pure rfl|rfl|rfl| (refine EZ.bind λ_=>?_)|split|simp))
def axd(x:aq):EZ (ox x):=by(repeat (first|rfl|exact EZ.pure rfl|rfl|rfl| (refine EZ.bind λ_=>?_)|split|simp))
def axe(x:aq):EZ (vo x):=by(repeat (first|rfl|exact EZ.pure rfl|rfl|rfl| (refine EZ.bind λ_=>?_)|split|rfl))
def axf(x:aq):EZ (oy x):=by(repeat (first|rfl|exact EZ.pure rfl|rfl|rfl| (refine EZ.bind λ_=>?_)|split|rfl))
def axg(x:aq):EZ (vq x):=by(repeat (first|rfl|exact EZ.pure rfl|rfl|rfl| (refine EZ.bind λ_=>?_)|split|rfl))
def axh(x:aq):EZ (rm x):=by(repeat (first|rfl|exact EZ.pure rfl|rfl|rfl| (refine EZ.bind λ_=>?_)|split|rfl))
def axi(x:aq):EZ (vl x):=by(repeat (first|rfl|exact EZ.pure rfl|rfl|rfl| (refine EZ.bind λ_=>?_)|split|rfl))
def axj(x:aq):EZ (xm x):=by(repeat (first|rfl|exact EZ.pure rfl|rfl|rfl| (refine EZ.bind λ_=>?_)|split|rfl))
def axk{t:Nat}:EZ (rl x t):=by(repeat (first|rfl|exact EZ.pure rfl|rfl|rfl| (refine EZ.bind λ_=>?_)|split|rfl))
def axl(x:aq):EZ (ki x):=by
 unfold ki;split<;>first|exact aw2 x|exact aw3 x|exact axk|exact aw4 x|exact aw5 x|exact aw6 x|exact aw7 x|exact aw8 x|exact aw9 x|exact axi x|exact axa x|exact axb x|exact axc x|exact axd x|exact axe x|exact axf x|exact axg x|exact axj x|exact axh x|exact EZ.err|exact EZ.bind λ_=>EZ.pure rfl
theorem VW(h:ji x= .ok (y,r)):r.e=0:=(show EZ (ji x)from EZ.bind λ_=>axl x) _ h
theorem axm(s:bG)(aa:Nat)(c:cp)(run:aE):dH s aa c run=match ji ⟨s,aa,c,run,0,false,[]⟩with
  |.ok (y,r)=>(y.s,r,y.back)
  |.error e=>(s,{bX with e:=e},[]):=by
 unfold dH;cases h:ji ⟨s,aa,c,run,0,false,[]⟩with
 |error e=>rfl
 |ok a=>exact afl (VW h)
def akw{t:Nat}:aH (aV x bk) 952 [.int .i64 t]=aV {x with aa:=t} bk:=by rw[Cq (by omega)];rfl
def akx{c:cp}:aH (aV x bk) 953 (bf c)=aV {x with c:=c} bk:=by rw[Cq (by omega)];rfl
def aky{r:aE}:aH (aV x bk) 959 (ay r)=aV {x with run:=r} bk:=by rw[Cq (by omega)];rfl
theorem akz{s:bG}:bw s++List.drop 952 JQ=aV ⟨s,0,nr,(0,0),0,false,[]⟩ .ai:=rfl
def akA:JQ.length=964:=by decide
def VX:py.length=952:=by decide
theorem akB:List.drop 952 py=[]:=akU (by rw[VX];omega)
theorem MO{s:bG}:List.take 952 (bw s)=bw s:=agQ (by rw[eU];omega)
theorem VY{s:bG}:List.drop 952 (bw s)=[]:=by rfl
theorem Gt{c:cp}: (bf c).length=6:=rfl
theorem MQ{c:cp}:List.take 6 (bf c)=bf c:=rfl
theorem xJ:List.take 3 (bF r)=bF r:=rfl
theorem s9: (bF r).length=3:=rfl
def DZ:=gG @akw<|gG @akx<|gG @aky<|gG @akz<|gG @akA<|gG @VX<|gG @akB<|gG @MO<|gG @VY<|gG @Gt<|gG @MQ<|gG @xJ<|gG @s9<|gG @eU @Mx
def VZ(s:bG)(S:bm s)(aa:Nat)(R:aa<4294967296)(c:cp)(V:jM c)(run:aE)(T:run.1<4294967296/\run.2<4294967296)
  (Y: ∀E,gQ XA.fa E .int .cJ (.iY uO) (.int .u8 c.op) true=some (match rI c.op with|some f=>.au [.fn (.func f) [] [],.bool true]|none=>.au [.cJ,.bool false])) (H:List ae) (lo:oN):
  ∃v,D XB (.fn (.func AW) [] []) [.agg (bw s),.int .i64 aa,.agg (bf c),.agg (ay run)] ⟨H,lo⟩=some (.ret (.au [.agg (bw (dH s aa c run).1),.agg (bF (dH s aa c run).2.1),v]) ⟨H,lo⟩)/\Rv v 2 ((dH s aa c run).2.2.map ay):=by
 suffices j: ∃u,D XB (.fn (.func AW) [] []) [.agg (bw s),.int .i64 aa,.agg (bf c),.agg (ay run)] ⟨H,lo⟩=some u/\ (λu=> ∃v,u=aS.ret (.au [.agg (bw (dH s aa c run).1),.agg (bF (dH s aa c run).2.1),v]) ⟨H,lo⟩/\Rv v 2 ((dH s aa c run).2.2.map ay)) u by
  obtain⟨u,h1,v,rfl,Z⟩:=j;exact⟨v,h1,Z⟩
 refine cz Ff λN h=>?_
 obtain⟨x,j⟩: ∃x:aq,x=⟨s,aa,c,run,0,false,[]⟩:=⟨_,rfl⟩;obtain⟨L,b⟩: ∃L:List ae,L=[.box (bw s) none,.box (bf c) none,.box (ay run) none,.box py none,.box [.int .i64 0,.int .u64 0,.int .u32 0] none,.box (aV x .ai) none]:=⟨_,rfl⟩;have K:At (N+5) x .ai (H++L):=⟨by rw[bz h,b];rfl,by rw[j];exact aQ.ai⟩;obtain⟨u,g1,g2⟩:=akt (x:=x) none K (by rw[j];exact S) (by rw[j];exact V) (by rw[j];exact T) (by rw[j];exact R) (by rw[j];unfold eH;have:=nd s.T.b;simp;omega) (by rw[j];exact Y);have m:dH s aa c run=match ji x with
  |.ok (y,r)=>if r.e=0 then(y.s,r,y.back)else(s,r,[])
  |.error e=>(s,{bX with e:=e},[]):=by rw[j];rfl
 rw[b,j]at g1;have rest: ∀W:List ae,bP (N+5) (H++L) W-> ∀cs bs A B:lA,(∀i,i<N->(((W++[ae.box cs none]).set (N+3) (ae.box A none)).set (N+4) (ae.box B none))[i]?=H[i]?):=by
  intro W g cs bs A B i hi;have U:=g.len;simp at U;rw[aex (by omega),aex (by omega),aez (by omega),g.low i (by omega),aez (by omega)]
 cases J:ji x with
 |error e=>
  rw[J]at g2 m;obtain⟨W,ak,rfl,g,F⟩:=g2;have g1:=MN g1;have w0:W[N]?=some (.box (bw s) none):=g.box N _ (by omega) (λa d e=>by cases e) (by rw[dh h,b];rfl);have w1:W[N+3]?=some (.box py none):=g.box (N+3) _ (by omega) (λa d e=>by cases e) (by rw[bz h,b];rfl);have G:W[N+4]?=some (.box [.int .i64 0,.int .u64 0,.int .u32 0] none):=g.box (N+4) _ (by omega) (λa d e=>by cases e) (by rw[bz h,b];rfl);have I:=λL=>bh (L:=L) w0
  have p:=λL=>bh (L:=L) w1
  have n:=λL=>bh (L:=L) G
  have z:=λL o=>cN (o:=o) (p L)
  have w:=λL o o'=>cN (o:=o') ((aex (by omega:N+3≠N+4)).trans (n L): ((W++L).set (N+3) o)[N+4]?=_)
  have he:=akv J;have k: ¬((e:Nat):Int)=0:=by omega
  obtain⟨M,C⟩: ∃M,W.length=M:=⟨_,rfl⟩;have l: (M !=N+3)=true:=by
   have:=g.len;rw[b]at this;simp at this;simp;omega
  simp(disch:=omega) only[go_sem,simprocAttr,Ff,h,DZ,g1,C,I,p,n,z,w,k,bF,l,arG,zO,oq];rw[iR (dG.le (N:=N+5) ?_ (by omega)) ?_]
  ·rw[m];exact⟨_,da rfl (ll h (rest W g _ [] _ _)),.ai⟩
  ·exact F.elim (λq=>.inl q.1) λq=>.inr ⟨N+5,agW _,q⟩
  ·simp[AV.refs,aG,oq]
 |ok a=>
  obtain⟨y,r⟩:=a;rw[J]at g2 m;obtain⟨nF,W,ak,rfl,g2,g,F⟩:=g2;have m:dH s aa c run=if r.e=0 then(y.s,r,y.back)else(s,r,[]):=m
  have g1:=MN g1;have w0:W[N]?=some (.box (bw s) none):=g.box N _ (by omega) (λa d e=>by cases e) (by rw[dh h,b];rfl);have w1:W[N+3]?=some (.box py none):=g.box (N+3) _ (by omega) (λa d e=>by cases e) (by rw[bz h,b];rfl);have G:W[N+4]?=some (.box [.int .i64 0,.int .u64 0,.int .u32 0] none):=g.box (N+4) _ (by omega) (λa d e=>by cases e) (by rw[bz h,b];rfl);have I:=λL=>bh (L:=L) w0
  have p:=λL=>bh (L:=L) w1
  have n:=λL=>bh (L:=L) G
  have Q:=λL=>bh (L:=L) g2.box
  have z:=λL o=>cN (o:=o) (p L)
  have w:=λL o o'=>cN (o:=o') ((aex (by omega:N+3≠N+4)).trans (n L): ((W++L).set (N+3) o)[N+4]?=_)
  obtain⟨M,C⟩: ∃M,W.length=M:=⟨_,rfl⟩;have X:N+6<=M:=by
   have:=g.len;rw[b]at this;simp at this;omega
  have l: (M !=N+3)=true:=by simp;omega
  have P: (M !=N+4)=true:=by simp;omega
  by_cases t:r.e=0
  ·rw[afl t]at m;have k: ((r.e:Nat):Int)=0:=by omega
   simp(disch:=omega) only[go_sem,simprocAttr,Ff,h,DZ,↓CL,g1,C,p,n,z,w,Q,k,bF,l,arG,zO,oq];have O:=aQ.nA (o:=.box (bF r) none) (aQ.nA (o:=.box (bw y.s) none) (aQ.ext (L:=[ae.box (bF r) none]) (aQ.le g2.own (show N<=N+5+1 by omega))) (p _)) ((aex (by omega:N+3≠N+4)).trans (n _));have er: [AV.int .i64 0,AV.int .u64 (r.v:Nat),AV.int .u32 (r.w:Nat)]=bF r:=by unfold bF;rw[t];rfl
   rw[er];refine⟨by simp,by simp,?_⟩;rw[uI (dG.le (N:=N+5) ?_ (by omega)) (Fz.au (d:=11) (gT.cons ((Fz.low (d:=0) ?_).mono (by omega)) (gT.cons ((Fz.low (d:=0) ?_).mono (by omega)) (gT.cons ((Fz.own (d:=0) O ?_).mono (by omega)) gT.nil))))]
   ·rw[m];refine⟨_,da rfl (ll h (rest W g _ [] _ _)),?_⟩;exact aQ.sc O
   ·exact F.elim (λq=>.inl q.1) λq=>.inr ⟨N+5,agW _,q⟩
   ·simp[AV.refs,oq]
   ·exact agS _
   ·rw[bA (λx=>rfl)];exact agS _
  ·rw[afi t]at m;have k: ¬((r.e:Nat):Int)=0:=by omega
   simp(disch:=omega) only[go_sem,simprocAttr,Ff,h,DZ,g1,C,I,p,n,z,w,k,bF,l,arG,zO,oq];rw[iR (dG.le (N:=N+5) ?_ (by omega)) ?_]
   ·rw[m];exact⟨_,da rfl (ll h (rest W g _ [] _ _)),.ai⟩
   ·exact F.elim (λq=>.inl q.1) λq=>.inr ⟨N+5,agW _,q⟩
   ·simp[AV.refs,aG,oq]
theorem lz{args:lA}{E:AS}{r:aS}(h:D X0 v args E=some r):D XB v args E=some r:=xu aku (lx h)
theorem lX{args:lA}{E:AS}{r:aS}(h:D X v args E=some r):D XB v args E=some r:=xu aku (ly h)
def akC{b:Bool}:aH (aV x bk) 962 [.bool b]=aV {x with asks:=b} bk:=by rw[Cq (by omega)];rfl
theorem akD{c:cp}: (bf c)[0]?=some (.int .u8 c.op):=rfl
theorem akE{c:cp}: (bf c)[1]?=some (.int .u32 c.r):=rfl
theorem akF{c:cp}: (bf c)[2]?=some (.int .u32 c.s):=rfl
theorem akG{c:cp}: (bf c)[3]?=some (.int .u32 c.a):=rfl
theorem akH{c:cp}: (bf c)[4]?=some (.int .u32 c.b):=rfl
theorem akI{c:cp}: (bf c)[5]?=some (.int .u64 c.v):=rfl
def fQ:=gG @akD<|gG @akE<|gG @akF<|gG @akG<|gG @akH @akI
def SL:=gG @Ul<|gG @Um<|gG @Un<|gG @Uj @Uk
def V0(s:bG)(t:bm s)(aa:Nat)(p:aa<4294967296)(c:cp)(v:jM c)
  (w: ∀E,gQ XA.fa E .int .cJ (.iY uO) (.int .u8 c.op) true=some (match rI c.op with|some f=>.au [.fn (.func f) [] [],.bool true]|none=>.au [.cJ,.bool false])) (H:List ae) (lo:oN):
  D XB (.fn (.func DS) [] []) [.agg (bw s),.int .i64 aa,.agg (bf c)] ⟨H,lo⟩=some (.ret (.int .i64 (eV s aa c:Nat)) ⟨H,lo⟩):=by
 refine aF Fe λN j=>?_
 obtain⟨x,b⟩: ∃x:aq,x=⟨s,aa,c,(0,0),0,true,[]⟩:=⟨_,rfl⟩;by_cases z:c.op=2
 ·have l: (c.op:Int)=2:=by omega
  obtain⟨L,m⟩: ∃L:List ae,L=[.box (bw s) none,.box (bf c) none,.box (aV x .ai) none]:=⟨_,rfl⟩;have n:At (N+2) x .ai (H++L):=⟨by grind,by rw[b];exact aQ.ai⟩;obtain⟨C,g1,g2⟩:=akt (x:=x) none n (by rw[b];exact t) (by rw[b];exact v) (by rw[b];exact⟨show 0<4294967296 by omega,show 0<4294967296 by omega⟩) (by rw[b];exact p) (by rw[b];unfold eH;have:=nd s.T.b;simp;omega) (by rw[b];exact w);have k:eV s aa c=match ji x with
   |.ok (y,_)=>y.mL
   |.error e=>0:=by rw[b];unfold eV;rw[afi (by omega)];rfl
  rw[m,b]at g1;have rest: ∀W:List ae,bP (N+2) (H++L) W->W.take N=H:=by
   intro W g;refine ll j λi B=>?_
   rw[g.low i (by omega),aez (by omega)]
  cases h:ji x with
  |error e=>
   rw[h]at g2 k;obtain⟨W,ak,rfl,g,o⟩:=g2;have g1:=MN g1;have he:=akv h;have d: ¬((e:Nat):Int)=0:=by omega
   simp only[go_sem,simprocAttr,Fe,j,DZ,fQ,akC,l,g1,bF,d];rw[iR (dG.le (N:=N+2) (o.elim (λq=>.inl q.1) λq=>.inr ⟨N+2,agW _,q⟩) (by omega)) (agS _),k,rest W g];rfl
  |ok a=>
   obtain⟨y,r⟩:=a;rw[h]at g2 k;obtain⟨A,W,ak,rfl,g2,g,o⟩:=g2;have g1:=MN g1;have u:=VW h;have d: ((r.e:Nat):Int)=0:=by omega
   simp only[go_sem,simprocAttr,Fe,j,DZ,fQ,↓CL,akC,l,g1,bF,d,g2.box];rw[iR (dG.le (N:=N+2) (o.elim (λq=>.inl q.1) λq=>.inr ⟨N+2,agW _,q⟩) (by omega)) (agS _),k,rest W g]
 ·have l: ¬(c.op:Int)=2:=by omega
  simp only[F1,go_sem,simprocAttr,Fe,j,DZ,fQ,l];rw[show eV s aa c=0 by unfold eV;rw[afl z]];rfl
def iV(n:Nat):lA:=[.int .i64 n]
def axn(H:List ae)(lo:oN):D X0 (.fn (.func IZ) [] []) [.ai] ⟨H,lo⟩=some (.ret .ai ⟨H,lo⟩):=by
 refine aF FA λN b=>?_
 have a:fW 1 .ai none (some (.int .i64 0)) (some (.int .i64 0))=some .ai:=by rfl
 simp(disch:=omega) only[F1,go_sem,simprocAttr,FA,a]
def axo(id aj n:Nat)(H:List ae)(c:id<H.length)(lo:oN):D X0 (.fn (.func IZ) [] []) [.ref id aj 1 0 n false] ⟨H,lo⟩=some (.ret (.ref id aj 1 0 n true) ⟨H,lo⟩):=by
 refine aF FA λN d=>?_
 have b:fW 1 (.ref id aj 1 0 n false) none (some (.int .i64 (n:Nat))) (some (.int .i64 (n:Nat)))=some (.ref id aj 1 0 n true):=by simp[fW,fV,lF,lG]
 have a: ∀E,fj E .sl (.ref id aj 1 0 n false)=some (.int .i64 n):=λE=>rfl
 simp only[go_sem,simprocAttr,FA,b,a];rw[iR (.inl rfl) (by simp only[AV.refs];omega),agQ (by omega)]
def axp(s:bG)(Q:bm s)(c:cp)(l:jM c)(H:List ae)(lo:oN):
  ∃v,D XB (.fn (.func IS) [] []) [.agg (bw s),.agg (bf c)] ⟨H,lo⟩=some (.ret (.au [v,.int .i64 (iM s c).2]) ⟨H,lo⟩)/\Rv v 1 ((iM s c).1.map iV):=by
 suffices W: ∃x,D XB (.fn (.func IS) [] []) [.agg (bw s),.agg (bf c)] ⟨H,lo⟩=some x/\ (λx=> ∃v,x=aS.ret (.au [v,.int .i64 (iM s c).2]) ⟨H,lo⟩/\Rv v 1 ((iM s c).1.map iV)) x by
  obtain⟨x,w,v,rfl,z⟩:=W;exact⟨v,w,z⟩
 refine cz Fw λN p=>?_
 have b:=λH lo=>lz (vx s.T Q.T c.r l.r H lo)
 have o:=Q.T.get c.r;simp only[nv]at b;generalize R: (aK s.T c.r).1=r at*;generalize he: (aK s.T c.r).2=e at*;have hb:=l.b;have ha:=l.a;have X:=l.op;have y:=o.len;by_cases Y:e=0
 ·have c0:decide ((e:Int)=0)=true:=agR (by omega);by_cases w: (c.op≠3/\c.op≠4)\/c.b<1\/8<c.b
  ·have f:iM s c=([],2):=by unfold iM;rw[he,afi (by omega),afl w]
   rw[f];simp only[↓aqS,↓R1,Zz,go_sem,simprocAttr,Fw,p,b,c0,fQ,↓SL];refine uE 25 (.bool true) [3,4,5,6] rfl rfl ?_ λf=>?_
   ·simp(disch:=omega) only[R4,↓R1,Zz,go_sem,simprocAttr,fQ]
    (repeat' (first|apply And.intro|intro _))
    all_goals(try(refine akp AV.bool (apk.2 ?_);simp[];try(intros;omega)))
    all_goals first|trivial|omega
   ·simp(disch:=omega) only[F1,↓R1,Zz,go_sem,simprocAttr];exact⟨.ai,rfl,.ai⟩
  ·simp only[↓R1,Zz,go_sem,simprocAttr,Fw,p,b,c0,fQ,↓SL];refine uE 25 (.bool false) [3,4,5,6] rfl rfl ?_ λe1=>?_
   ·simp(disch:=omega) only[R4,↓R1,Zz,go_sem,simprocAttr,fQ]
    (repeat' (first|apply And.intro|intro _))
    all_goals(try(refine akp AV.bool (apk.2 ?_);simp[];try(intros;omega)))
    all_goals first|trivial|omega
   ·by_cases z:r.len<c.a+c.b
    ·have O: (r.len:Int)-c.b<c.a:=by omega
     have f:iM s c=([],9):=by unfold iM;rw[he,afi (by omega),afi w,R,afl z]
     rw[f];simp(disch:=omega) only[F1,↓aqS,↓R1,↓MP,Zz,go_sem,simprocAttr,fQ,O];exact⟨.ai,rfl,.ai⟩
    ·have O: ¬(r.len:Int)-c.b<c.a:=by omega
     have f:iM s c=((List.range c.b).map λi=>(kh r.runs 0 (c.a+i)).getD 0,0):=by unfold iM;rw[he,afi (by omega),afi w,R,afi z]
     rw[f];simp(disch:=omega) only[↓aqS,↓R1,↓MP,Zz,go_sem,simprocAttr,fQ,O];obtain⟨B,hB⟩: ∃B:List ae,B=[.box (bw s) none,.box (bf c) none,.box (bS r) none]:=⟨_,rfl⟩;have M: (H++B).length=N+3:=by rw[hB];simp[p]
     rw[<-hB];refine gS c.b (λk e H' ak=>ak=none/\ (H++B)<+:H'/\ (∃v,e 8=v/\aQ (N+3) H' v 1 mw ((List.range k).map λi=>iV ((kh r.runs 0 (c.a+i)).getD 0)))/\e 3= .ptr (N+1) 0/\e 6= .ptr (N+2) 0/\e 58= .int .i64 c.b/\e 59= .int .i64 k) 0 (by omega) ?_ ?_
     ·simp only[↓aqS,Zz,go_sem,simprocAttr];exact⟨arj,_,rfl,aQ.ai⟩
     rintro k hk e H' ak ⟨rfl,⟨L,rfl⟩,⟨v,S,a⟩,U,T,u,t⟩ n hn;have C: (B++L)[1]?=some (.box (bf c) none):=by rw[hB];rfl
     have A: (B++L)[2]?=some (.box (bS r) none):=by rw[hB];rfl
     simp only[afq]at a;simp only[bR,↓R1,Zz,go_sem,simprocAttr,agf,T,S,u,t];refine⟨λl=>?_,λl=>?_⟩
     ·have J:k<c.b:=by omega
      have m:=λH lo=>lz (aus (ef r.runs) r.len r.runs (m9 r.runs) o.rb.1 (c.a+k) (by omega) H lo)
      simp only[Mm,api]at m;have E:List.take 2 (List.drop 2 (bS r))=[ef r.runs,.int .i64 r.len]:=rfl;simp(disch:=omega) only[↓R1,Zz,go_sem,simprocAttr,U,S,C,A,fQ,E,m];refine o9 (H0:=H++B) (ys:=[iV ((kh r.runs 0 (c.a+k)).getD 0)]) a ⟨L,afq _ _ _⟩ M (by omega) (by intro el K;rw[agV.1 K];rfl) rfl (by rw[agZ,aCv];show(k+1)*8<=room;unfold room;omega) λv' H2 g I=>?_
      simp(disch:=omega) only[↓aqS,↓R1,Zz,go_sem,simprocAttr,U,T,u,t];refine⟨J,I,v',rfl,?_⟩
      (try rw[aqZ]);rw[ag9]
      exact g
     ·obtain rfl:k=c.b:=by omega
      have G:b8 ((List.range c.b).map λi=>iV ((kh r.runs 0 (c.a+i)).getD 0))=0:=bA (λ_=>rfl) _;have F: (H++(B++L)).take N=H:=by rw[<-p];simp
      rw[aCY];rcases a.2 with⟨rfl,q⟩| ⟨id,aj,Z,rfl,P⟩
      ·have h:=λH lo=>lz (axn H lo)
       simp(disch:=omega) only[F1,↓R1,Zz,go_sem,simprocAttr,h];refine⟨.ai,rfl,?_⟩;have V: ((List.range c.b).map λi=>iV ((kh r.runs 0 (c.a+i)).getD 0))=[]:=q;exact(akp (Rv .ai 1) V).mpr .ai
      ·have h:=λn=>lz (axo id aj n (H++(B++L)) (fh P) none)
       simp only[↓R1,Zz,go_sem,simprocAttr,h];rw[uI (.inl rfl) (Fz.au (d:=11) (gT.cons (a':=.sl ((List.range c.b).map λi=>iV ((kh r.runs 0 (c.a+i)).getD 0)) true) (λj=>?_) (gT.cons ((Fz.low (d:=0) (agS _)).mono (by omega)) gT.nil)))]
       ·exact⟨_,da rfl F,Rv.sl a.1⟩
       ·rw[show j+10=(j+6)+4 by omega];exact ajQ (by omega) P (by simp) (by rw[G];omega)
 ·have c0:decide ((e:Int)=0)=false:=afv (by omega);have f:iM s c=([],e):=by unfold iM;rw[he,afl Y]
  rw[f];simp only[F1,↓R1,Zz,go_sem,simprocAttr,Fw,p,b,c0,fQ,↓SL];exact⟨.ai,rfl,.ai⟩
def fi(l:fg):lA:=[.int .u8 l.has,.int .i64 l.n]++arr 8 λi=>[.int .u8 (l.wait i)]
theorem zT(l:fg): (fi l).length=10:=rfl
theorem Gu(l:fg):aG (fi l)=0:=rfl
def cI(m:Marks):lA:=arr 32 λi=>fi (m i)
theorem dV(m:Marks): (cI m).length=320:=by rfl
theorem jO(m:Marks):aG (cI m)=0:=by rfl
structure hU(l:fg):Prop where
 has:l.has<=8
 n:l.n<=8
 lt: ∀i,l.wait i<8
 inj: ∀i j,i<l.n->j<l.n->l.wait i=l.wait j->i=j
def ua(f:Nat->Nat)(x n:Nat):oN:=(List.range n).find? λi=>decide (f i=x)
def zU(o:oN):Int:=match o with|some i=>i|none=> -1
def axq{x:Nat}(h:ua f x k=none):ua f x (k+1)=if f k=x then some k else none:=by
 unfold ua at*;rw[aqZ,List.find?_append,h]
 grind
def axr{x:Nat}(h:ua f x k=some j): ∀n,k<=n->ua f x n=some j:=by
 intro n a;obtain⟨m,rfl⟩:=Nat.exists_eq_add_of_le a;unfold ua at*;rw[List.range_add,List.find?_append,h];rfl
def akJ{x:Nat}(h:ua f x n=some i):i<n/\f i=x:=by
 unfold ua at h
 grind
def axs(f:Nat->Nat)(x n M off:Nat)(s:n<2147483648)(H:List ae)(cs:lA)(h:H[M]?=some (.box cs none))(r: ∀i,i<n->cs[off+i]?=some (.int .u8 (f i)))(lo:oN):
  D X0 (.fn (.func D8) [] []) [.eZ M 1 off n,.int .u8 x] ⟨H,lo⟩=some (.ret (.int .i64 (zU (ua f x n))) ⟨H,lo⟩):=by
 refine aF FB λN v=>?_
 simp only[go_sem,simprocAttr,FB];refine dU n (λk e H'=>H'=H/\ua f x k=none/\e 0= .eZ M 1 off n/\e 1= .int .u8 x/\e 7= .int .i64 n/\e 8= .int .i64 k) 0 (by omega) ?_ ?_
 ·trivial
 rintro k t e H' ⟨rfl,g,p,o,l,j⟩ m hm;simp(disch:=omega) only[bR,F1,go_sem,simprocAttr,Sn,p,o,l,j];refine⟨λq=>?_,λq=>?_⟩
 ·have b:k<n:=by omega
  have c:=r k b;have u:jU 1 (.eZ M 1 off n) (.int .i64 k)=some (.ptr M (off+k)):=by
   rw[Po,afl ⟨by omega,by omega,rfl⟩];simp
  have d:=axq g;by_cases e1:f k=x
  ·have a: ((x:Nat):Int)=f k:=by omega
   rw[afl e1]at d;simp(disch:=omega) only[F1,go_sem,simprocAttr,h,c,a];rw[axr d n (by omega)];exact⟨by omega,rfl⟩
  ·have a: ¬((x:Nat):Int)=f k:=by omega
   rw[afi e1]at d;simp(disch:=omega) only[go_sem,simprocAttr,p,o,l,j,h,c,a];exact⟨by omega,b,d⟩
 ·obtain rfl:k=n:=by omega
  rw[g];rfl
theorem akK(n:Nat):IntKind.wrap .u8 (n:Int)=((n % 256:Nat):Int):=by rfl
def akL(l:fg)(b:hU l)(aa:Nat)(f:aa<4294967296)(H:List ae)(lo:oN):
  D X0 (.fn (.func IW) [] []) [.agg (fi l),.int .i64 aa] ⟨H,lo⟩=some (.ret (.int .i64 (zU (rn l aa))) ⟨H,lo⟩):=by
 refine aF Se λN c=>?_
 have g:=b.n;have a:=λlo=>axs l.wait (aa % 256) l.n N 2 (by omega) (H++[.box (fi l) none]) (fi l) (by grind) (λi a=>by
  rcases(show i=0\/i=1\/i=2\/i=3\/i=4\/i=5\/i=6\/i=7 by omega)with h|h|h|h|h|h|h|h<;>subst h<;>rfl) lo
 have hw:=akK aa;have e: (fi l)[1]?=some (.int .i64 l.n):=rfl;have d: (0:Int)<=l.n/\ (l.n:Int)<=8:=by omega
 simp only[F1,go_sem,simprocAttr,Se,c,e,hw,a,d];rfl
def akM(l:fg)(i:Nat):fg:={l with wait:=λj=>if i<=j/\j<7 then l.wait (j+1)else l.wait j}
def axt{X:Ctx}{id off:Nat}{k:IntKind}{a:Int}:qs X n sz (.ptr id off) (some (.int k a)) none=if 0<=a/\a<=n then some (.eZ id sz (off+a.toNat*sz) (n-a.toNat))else none:=by
 simp only[qs,fV,lF]
 grind
def axu{H:List ae}{N:Nat}(h:H[N]?=some (.box (fi l) none))(a:i<8):
  rQ ⟨H,lo⟩ 1 (.eZ N 1 (2+i) (8-i)) (.eZ N 1 (2+(i+1)) (7-i))=some (.int .i64 (7-i:Nat),⟨H.set N (.box (fi (akM l i)) none),lo⟩):=by
 rcases(show i=0\/i=1\/i=2\/i=3\/i=4\/i=5\/i=6\/i=7 by omega)with q|q|q|q|q|q|q|q<;>subst q<;>
  (simp only[rQ,CY,Den.elems,h];rfl)
def axv(a:k<8):aH (fi l) (2+k) [.int .u8 0]=fi {l with wait:=ar l.wait k 0}:=by
 rcases(show k=0\/k=1\/k=2\/k=3\/k=4\/k=5\/k=6\/k=7 by omega)with q|q|q|q|q|q|q|q<;>subst q<;>rfl
def axw{v:Nat}(a:k<8):aH (fi l) (2+k) [.int .u8 v]=fi {l with wait:=ar l.wait k v}:=by
 rcases(show k=0\/k=1\/k=2\/k=3\/k=4\/k=5\/k=6\/k=7 by omega)with q|q|q|q|q|q|q|q<;>subst q<;>rfl
def akN(l:fg)(s:hU l)(aa:Nat)(t:aa<4294967296)(H:List ae)(lo:oN):
  D X0 (.fn (.func IN) [] []) [.agg (fi l),.int .i64 aa] ⟨H,lo⟩=some (.ret (.agg (fi (xo l aa))) ⟨H,lo⟩):=by
 refine aF K7 λN r=>?_
 have a:=λH lo=>akL l s aa t H lo
 have v:=s.n;have b: ∀l:fg,List.take 10 (fi l)=fi l:=λ_=>rfl
 unfold xo;cases p:rn l aa with
 |none=>
  rw[p]at a;simp only[zU]at a;simp only[F1,go_sem,simprocAttr,K7,r,a,b,zT,Gu]
 |some i=>
  rw[p]at a;simp only[zU]at a;have u:=(akJ p).1;have o: ¬((i:Nat):Int)<0:=by omega
  have m: (0:Int)<=i/\ (i:Int)<=8:=by omega
  have k: (0:Int)<=(i:Int)+1/\ (i:Int)+1<=8:=by omega
  have e: ((i:Int)+1).toNat=i+1:=by omega
  have j: ∀l:fg,(fi l)[1]?=some (.int .i64 l.n):=λ_=>rfl
  have f: ∀ (l:fg) (n:Nat),aH (fi l) 1 [.int .i64 n]=fi {l with n:=n}:=λ_ _=>rfl
  have c: (l.n:Int)-1=((l.n-1:Nat):Int):=by omega
  have g:l.n-1<8:=by omega
  have d:=λl:fg=>axv (l:=l) g
  have h: (akM l i).n=l.n:=rfl;have q:=λB lo=>axu (H:=H++(.box (fi l) none::B)) (lo:=lo) (N:=N) (l:=l) (by rw[dh r];rfl) (show i<8 by omega)
  simp(disch:=omega) only[F1,go_sem,simprocAttr,K7,r,a,b,zT,Gu,axt,o,m,k,e,q,h,j,f,c,d];exact⟨by omega,by omega,rfl⟩
theorem rJ:Den.part true 320 (cI m) 0=some (.agg (cI m)):=FX (dV m)
theorem xK(h:i<32):Den.part true 10 (cI m) (i*10)=some (.agg (fi (m i))):=la (k:=10) (o:=0) (f:=λi=>fi (m i)) (λ_=>rfl) h (by omega) (by omega)
theorem vP(h:i<32):Den.part false 1 (cI m) (i*10)=some (.int .u8 (m i).has):=la (k:=10) (o:=0) (f:=λi=>fi (m i)) (λ_=>rfl) h (by omega) (by omega)
theorem Gv(h:i<32):Den.part false 1 (cI m) (i*10+1)=some (.int .i64 (m i).n):=la (k:=10) (o:=1) (f:=λi=>fi (m i)) (λ_=>rfl) h (by omega) (by omega)
def CD{o:Nat}(h:i<32)(ho:o+vs.length<=10)(a:aH (fi (m i)) o vs=fi l):aH (cI m) (i*10+o) vs=cI (ar m i l):=by
 unfold cI;rw[om (k:=10) (f:=λi=>fi (m i)) (λ_=>rfl) h ho,a,pO fi]
def V4(i aa:Nat)(H:List ae)(lo:oN):D X0 (.fn (.func D3) [] []) [.int .i64 i,.int .i64 aa] ⟨H,lo⟩=some (.ret (.bool (iN i aa)) ⟨H,lo⟩):=by
 refine aF K5 λN d=>?_
 have b: (i:Int)>=0:=by omega
 have c: (aa:Int)>=0:=by omega
 by_cases f:i<32
 ·have a: (i:Int)<32:=by omega
  have e:iN i aa=decide ((aa:Int)<8):=by unfold iN;grind
  rw[e];simp(disch:=omega) only[F1,go_sem,simprocAttr,K5,b,c,a]
 ·have a: ¬(i:Int)<32:=by omega
  have e:iN i aa=false:=by unfold iN;grind
  rw[e];simp(disch:=omega) only[F1,go_sem,simprocAttr,K5,b,a]
def akO(d:hU l)(g:aa<8)(h:rn l aa=none):l.n<8:=by
 have k:=d.n;by_cases e:l.n=8
 ·have p: ∀i,i<8->l.wait i≠aa:=by
    unfold rn at h
    grind
  have j: ((List.range 8).map l.wait++[aa]).Nodup:=by
   rw[List.nodup_append];refine⟨?_,by simp,?_⟩
   ·rw[axO,aBq];refine atZ (λ {a b} c m f he=>f ?_) (axO.1 (List.nodup_range (n:=8)));exact d.inj a b (by grind) (by grind) he
   grind
  have o:=ME 8 _ j (by
   intro a c;rcases agT.1 c with c|c
   ·obtain⟨i,_,rfl⟩:=ag2.1 c;exact d.lt i
   ·rw[agV.1 c];exact g)
  grind
 ·omega
def axx(m:Marks)(E: ∀i,hU (m i))(a aa:Nat)(P:aa<4294967296)(H:List ae)(lo:oN):
  D X0 (.fn (.func Qk) [] []) [.agg (cI m),.int .i64 a,.int .i64 aa] ⟨H,lo⟩=some (.ret (.au [.agg (cI (iO m a aa).1),.bool (iO m a aa).2]) ⟨H,lo⟩):=by
 refine aF sB λN u=>?_
 have s:qN.length=320:=by decide
 have d:List.drop 320 qN=[]:=akU (by rw[s];omega);have W:List.take 320 (cI m)=cI m:=agQ (by rw[dV];omega);have b:=λH lo=>V4 a aa H lo
 have T: ∀m:Marks,(AV.au [.agg (cI m),.bool false]).refs<=N:=λm=>by simp[AV.refs,aG,jO]
 cases r:iN a aa with
 |false=>
  rw[r]at b;have t:iO m a aa=(m,false):=by unfold iO;rw[afl r]
  rw[t];simp only[F1,go_sem,simprocAttr,sB,u,b,↓rJ,dV,jO,s,d]
 |true=>
  rw[r]at b;have c:a<32/\aa<8:=by unfold iN at r;simpa using r
  have L: ¬iN a aa=false:=by rw[r];simp
  obtain⟨c,X⟩:=c;have f: (0:Int)<=a/\ (a:Int)<32:=by omega
  have p:=λH lo=>akL (m a) (E a) aa P H lo
  have w:=λH lo=>akN (m a) (E a) aa P H lo
  have F:a*10+10<=320:=by omega
  have S:=(E a).has;have V:=(E a).n;have G:a*10<=319:=by omega
  by_cases M: (m a).has=aa+1
  ·have e: (((m a).has:Nat):Int)=(aa:Int)+1:=by omega
   have t:iO m a aa=(m,true):=by unfold iO;rw[afi L,afl M]
   rw[t];simp only[F1,go_sem,simprocAttr,sB,u,b,f,p,↓xK c,↓vP c,e,↓rJ,dV,jO,s,d]
  ·have e:decide ((((m a).has:Nat):Int)=(aa:Int)+1)=false:=afv (by omega);have A: ∀ (m:Marks) (l:fg),aH (cI m) (a*10) (fi l)=cI (ar m a l):=λm l=>CD (o:=0) c (by rw[zT];omega) rfl
   have z: ∀m:Marks,aH (cI m) (a*10) [.int .u8 ((aa:Int)+1)]=cI (ar m a {m a with has:=aa+1}):=λm=>CD (o:=0) c (by simp) rfl
   have y: ∀m':Marks,aH (cI m') (a*10+1) [.int .i64 (((m a).n:Int)+1)]=cI (ar m' a {m' a with n:=(m a).n+1}):=λm'=>CD c (by simp) rfl
   have I:a*10<=318:=by omega
   have Q: ∀m:Marks,List.take 320 (cI m)=cI m:=λm=>agQ (by rw[dV];omega)
   by_cases K: (m a).has=0/\ ((m a).n=0\/rn (m a) aa=some 0)
   ·have t:iO m a aa=(ar m a {xo (m a) aa with has:=aa+1},true):=by unfold iO;rw[afi L,afi M,afl K]
    rw[t];have J:decide ((((m a).has:Nat):Int)=0)=true:=agR (by omega);have hw:IntKind.wrap .u8 ((aa:Int)+1)=((aa+1:Nat):Int):=by rw[wrap_u8 (by omega) (by omega)];rfl
    by_cases Y: (m a).n=0
    ·have g:decide ((((m a).n:Nat):Int)=0)=true:=agR (by omega);simp(disch:=omega) only[F1,go_sem,simprocAttr,sB,u,b,f,p,w,↓xK c,↓vP c,↓Gv c,e,J,g,hw,A,z,cT,sD,↓rJ,dV,jO,s,d,zT,Gu,F,G]
    ·have g:decide ((((m a).n:Nat):Int)=0)=false:=afv (by omega);have O:rn (m a) aa=some 0:=K.2.resolve_left Y;rw[O]at p;simp only[zU]at p;simp(disch:=omega) only[F1,go_sem,simprocAttr,sB,u,b,f,p,w,↓xK c,↓vP c,↓Gv c,e,J,g,hw,A,z,cT,sD,↓rJ,dV,jO,s,d,zT,Gu,F,G]
   ·have Z: ∀h:Nat,decide ((h:Int)=0)=decide (h=0):=λh=>ahb.2 (by omega)
    cases v:rn (m a) aa with
    |none=>
     have U:=akO (E a) X v;have C: ((m a).n:Int)<8:=by omega
     have B:a*10+2+(m a).n<=319:=by omega
     have t:iO m a aa=(ar m a {m a with n:=(m a).n+1,wait:=ar (m a).wait (m a).n aa},false):=by unfold iO;rw[afi L,afi M,afi K,afl v]
     rw[t];rw[v]at p;simp only[zU]at p;have x: ∀ (m':Marks),(m' a).n=(m a).n->aH (cI m') (a*10+2+(m a).n) [.int .u8 aa]=cI (ar m' a {m' a with wait:=ar (m' a).wait (m a).n aa}):=λm' h=>(akp (λo=>aH (cI m') o _) (anv _ _ _)).trans (CD c (by simp;omega) (axw U))
     by_cases J: (m a).has=0
     ·have k:decide ((((m a).has:Nat):Int)=0)=true:=agR (by omega);have g:decide ((((m a).n:Nat):Int)=0)=false:=afv (by omega);simp(disch:=omega) only[F1,go_sem,simprocAttr,sB,u,b,f,p,↓xK c,↓vP c,↓Gv c,e,k,g,C,B,I,y,x,cT,sD,↓rJ,dV,jO,s,d]
     ·have k:decide ((((m a).has:Nat):Int)=0)=false:=afv (by omega);simp(disch:=omega) only[F1,go_sem,simprocAttr,sB,u,b,f,p,↓xK c,↓vP c,↓Gv c,e,k,C,B,I,y,x,cT,sD,↓rJ,dV,jO,s,d]
    |some j=>
     have t:iO m a aa=(m,false):=by unfold iO;rw[afi L,afi M,afi K,afi (by rw[v];simp)]
     rw[t];rw[v]at p;simp only[zU]at p;have R: ¬((j:Nat):Int)<0:=by omega
     by_cases J: (m a).has=0
     ·have k:decide ((((m a).has:Nat):Int)=0)=true:=agR (by omega);have g:decide ((((m a).n:Nat):Int)=0)=false:=afv (by omega);have O:decide (((j:Nat):Int)=0)=false:=afv (λq=>K ⟨J,.inr (by rw[v];congr 1;omega)⟩);simp(disch:=omega) only[F1,go_sem,simprocAttr,sB,u,b,f,p,↓xK c,↓vP c,↓Gv c,e,k,g,O,R,↓rJ,dV,jO,s,d]
     ·have k:decide ((((m a).has:Nat):Int)=0)=false:=afv (by omega);simp(disch:=omega) only[F1,go_sem,simprocAttr,sB,u,b,f,p,↓xK c,↓vP c,e,k,R,↓rJ,dV,jO,s,d]
def MR(m:Marks)(a aa:Nat):Marks:=if iN a aa then ar m a (B9 (m a) aa)else m
def axy(m:Marks)(r: ∀i,hU (m i))(a aa:Nat)(s:aa<4294967296)(H:List ae)(lo:oN):
  D X0 (.fn (.func Qg) [] []) [.agg (cI m),.int .i64 a,.int .i64 aa] ⟨H,lo⟩=some (.ret (.agg (cI (MR m a aa))) ⟨H,lo⟩):=by
 refine aF Fv λN l=>?_
 have g:qN.length=320:=by rfl
 have d:List.drop 320 qN=[]:=akU (by omega);have q: ∀m:Marks,List.take 320 (cI m)=cI m:=λm=>agQ (by rw[dV];omega)
 have b:=λH lo=>V4 a aa H lo
 unfold MR;cases c:iN a aa with
 |false=>
  rw[c]at b;simp only[F1,go_sem,simprocAttr,Fv,l,b,↓rJ,dV,jO,g,d]
  try rfl
 |true=>
  rw[c]at b;obtain⟨j,t⟩:a<32/\aa<8:=by unfold iN at c;simpa using c
  have f: (0:Int)<=a/\ (a:Int)<32:=by omega
  have k:a*10<=319:=by omega
  have n:=(r a).has;simp only[aiH];unfold B9;by_cases p: (m a).has=aa+1
  ·have e: (((m a).has:Nat):Int)=(aa:Int)+1:=by omega
   have h:aH (cI m) (a*10) [.int .u8 0]=cI (ar m a {m a with has:=0}):=CD (o:=0) j (by simp) rfl;rw[afl p];simp only[F1,go_sem,simprocAttr,Fv,l,b,f,↓vP j,e,h,k,↓rJ,dV,jO,g,d]
  ·have e: ¬(((m a).has:Nat):Int)=(aa:Int)+1:=by omega
   rw[afi p,mH];simp(disch:=omega) only[F1,go_sem,simprocAttr,Fv,l,b,f,↓vP j,e,↓rJ,dV,jO,g,d]
def qg(m:Marks)(aa k:Nat):Marks:=λi=>if i<k then rp m aa i else m i
def axz(m:Marks)(a:aa<8)(b:k<32):qg m aa (k+1)=ar (qg m aa k) k (xo (B9 (m k) aa) aa):=by
 funext i
 unfold qg ar;by_cases e:i=k
 ·subst e;rw[afl (by omega),afl rfl];unfold rp;rw[afl (by unfold iN;grind)]
 grind
def axA(m:Marks)(aa:Nat):qg m aa 32=rp m aa:=by
 funext i
 unfold qg;by_cases h:i<32
 ·grind
 ·rw[afi h];unfold rp;rw[afi (by unfold iN;grind)]
def axB(m:Marks)(k:Nat)(a: ¬aa<8):qg m aa k=m:=by
 funext i
 unfold qg rp;split
 ·rw[afi (by unfold iN;grind)]
 ·rfl
def akP(h:hU l)(aa:Nat):hU (B9 l aa):=by
 unfold B9;split
 ·exact⟨by simp,h.n,h.lt,h.inj⟩
 omega
def axC(h:hU l)(n:i<l.n):hU (UA l i):=by
 have m:=h.n;have f:=h.lt;unfold UA;refine⟨h.has,by grind,λj=>?_,λa b k g c=>?_⟩
 ·show(if j=l.n-1 then 0 else if i<=j/\j<7 then l.wait (j+1)else l.wait j)<8
  grind
 ·have e:a<l.n-1:=k;have d:b<l.n-1:=g;simp only[ar,afi (show a≠l.n-1 by omega),afi (show b≠l.n-1 by omega)]at c;have key: ∀j,j<l.n-1->(if i<=j/\j<7 then l.wait (j+1)else l.wait j)=l.wait (if i<=j then j+1 else j):=by grind
  rw[key a e,key b d]at c;have:=h.inj _ _ (by grind) (by grind) c
  grind
def akQ(h:hU l)(aa:Nat):hU (xo l aa):=by
 unfold xo;split
 ·exact h
 ·rename_i i a;exact axC h (akJ a).1
def V5(a: ∀i,hU (m i))(aa:Nat): ∀i,hU (rp m aa i):=by
 intro i;unfold rp;split
 ·exact akQ (akP (a i) aa) aa
 grind
def axD(a: ∀i,hU (m i))(aa k:Nat): ∀i,hU (qg m aa k i):=by
 intro i;unfold qg;split
 ·exact V5 a aa i
 grind
def axE(g: ∀i,hU (m i))(c:Nat): ∀i,hU ((iO m c aa).1 i):=by
 unfold iO;split
 ·omega
 rename_i h;obtain⟨v,p⟩:c<32/\aa<8:=by unfold iN at h;grind
 split
 ·omega
 split
 ·intro i;show hU (ar _ _ _ _);unfold ar;split
  ·have:=akQ (g c) aa;exact⟨by show aa+1<=8;omega,this.n,this.lt,this.inj⟩
  grind
 split
 ·rename_i f;intro i;show hU (ar _ _ _ _);unfold ar;split
  ·have w:=akO (g c) p f;have k:=g c;have e: ∀j,j< (m c).n->(m c).wait j≠aa:=by
    intro j q he;unfold rn at f;rw[aBk]at f;have:=f j (aqP.2 q);simp at this;omega
   refine⟨k.has,by show(m c).n+1<=8;omega,λj=>?_,λa b u s l=>?_⟩
   ·show(if j=(m c).n then aa else(m c).wait j)<8;split
    ·exact p
    ·exact k.lt j
   ·have t:a< (m c).n+1:=u;have r:b< (m c).n+1:=s;have d: (if a=(m c).n then aa else(m c).wait a)=(if b=(m c).n then aa else(m c).wait b):=l;by_cases o:a=(m c).n<;>by_cases n:b=(m c).n
    ·omega
    ·rw[afl o,afi n]at d;exact absurd d.symm (e b (by omega))
    ·rw[afi o,afl n]at d;exact absurd d (e a (by omega))
    ·rw[afi o,afi n]at d;exact k.inj a b (by omega) (by omega) d
  ·exact g i
 omega
def axF(m:Marks)(z: ∀i,hU (m i))(aa:Nat)(y:aa<4294967296)(H:List ae)(lo:oN):
  D X0 (.fn (.func Qc) [] []) [.agg (cI m),.int .i64 aa] ⟨H,lo⟩=some (.ret (.agg (cI (rp m aa))) ⟨H,lo⟩):=by
 refine aF RX λN E=>?_
 have x:qN.length=320:=by rfl
 have j:List.drop 320 qN=[]:=akU (by rw[x];omega);have f: ∀m:Marks,List.take 320 (cI m)=cI m:=λm=>agQ (by rw[dV];omega)
 have g: ∀m:Marks,List.drop 320 (cI m)=[]:=λm=>akU (by rw[dV];omega)
 simp only[go_sem,simprocAttr,RX,E];refine dU 32 (λk e H'=>H'=H++[.box (cI (qg m aa k)) none,.box qN none]/\e 1= .int .i64 aa/\e 2= .ptr N 0/\e 4= .ptr (N+1) 0/\e 6= .int .i64 k) 0 (by omega) ?_ ?_
 ·simp only[go_sem,simprocAttr];rfl
 rintro k G e H' ⟨rfl,w,v,u,t⟩ n F;simp(disch:=omega) only[bR,go_sem,simprocAttr,agc,w,v,u,t];refine⟨λC=>?_,λC=>?_⟩
 ·have d:k<32:=by omega
  have h: (0:Int)<=k/\ (k:Int)<32:=by omega
  have r:k*10+10<=320:=by omega
  have a:=λH lo=>axy _ (axD z aa k) k aa y H lo
  have b:=λH lo=>V4 k aa H lo
  have s:qg m aa k k=m k:=by unfold qg;rw[afi (by omega)]
  by_cases A:aa<8
  ·have c:iN k aa=true:=by unfold iN;simp;omega
   have B:=axz m A d;unfold MR at a;rw[c,s,afl rfl]at a;rw[c]at b;have p:=λH lo=>akN _ (akP (z k) aa) aa y H lo
   have q: ∀ (m:Marks) (l:fg),aH (cI m) (k*10) (fi l)=cI (ar m k l):=λm l=>CD (o:=0) d (by rw[zT];omega) rfl
   simp(disch:=omega) only[go_sem,simprocAttr,w,v,u,t,b,a,h,r,↓xK d,p,q,cT,sD,dV,jO,zT,Gu,f,g,aip];rw[B];exact⟨d,rfl⟩
  ·have c:iN k aa=false:=by unfold iN;simp;omega
   unfold MR at a;rw[c,afi (by simp)]at a;rw[c]at b;simp only[axB m _ A]at a⊢;simp(disch:=omega) only[go_sem,simprocAttr,w,v,u,t,b,a,h,dV,jO,f,g,aip];exact d
 ·obtain rfl:k=32:=by omega
  rw[axA];simp(disch:=omega) only[F1,go_sem,simprocAttr,dV,jO,x,j,f]
noncomputable def Gw:lA->AS->Option aS:=nW XB (D XB) Lw po Lc
def CE(args:lA)(E:AS):Option aS:=match args with
 | [.ai,.int .i64 n]=>if n=0 then some (.ret .ai E)else if 0<n/\n<=1024 then some (.ret (.ref E.heap.length 0 2 0 0 false) (E.push (.row 0 2 fe [])))else none
 |_=>none
noncomputable def XC:Ctx:={XB with bU:=λf=>if f=po then some Gw else if f=qM then some CE else XB.bU f}
theorem akR:Ext XB XC where
 df:=rfl
 fa:=rfl
 code:=rfl
 bU:=λf=>by
  by_cases b:f=po
  ·subst b;exact .inr ⟨rfl,rfl⟩
  ·by_cases a:f=qM
   ·subst a;exact .inr ⟨rfl,rfl⟩
   ·left;show(if f=po then some Gw else if f=qM then some CE else XB.bU f)=XB.bU f
    grind
section
variable{v:AV}{args:lA}{E:AS}{r:aS}
theorem cB(h:D XB v args E=some r):D XC v args E=some r:=xu akR h
theorem c0(h:D X0 v args E=some r):D XC v args E=some r:=xu akR (lz h)
end
def axG{X:Ctx}{f:FuncId}{p:lA->AS->Option aS}{args a:lA}{E:AS}{b:aS}(c:X.bU f=some p)(h:p (args++a) E=some b):D X (.fn (.func f) [] a) args E=some b:=by
 refine HK ?_;simp only[Go.Den.step,c,aiL];exact h
def V6{s:bG}(f:bm s){c:cp}(l:jM c){b:Nat}{H:List ae}(n:H[a]?=some (.box (bw s) none))(m:H[b]?=some (.box (bf c) none))(N:Nat)(o:H.length=N)(lo:oN):
  ∃v J ak,D XC (.fn (.func po) [] [.ptr a 0,.ptr b 0]) [] ⟨H,lo⟩=some (.ret v ⟨H++J,ak⟩)/\aQ N (H++J) v 1 bZ ((under s.T c.r).map hC)/\ (ak=lo\/ ∃j,N<=j/\ak=cC lo j):=by
 suffices i: ∃d,Gw [.ptr a 0,.ptr b 0] ⟨H,lo⟩=some d/\ (λd=> ∃v J ak,d=aS.ret v ⟨H++J,ak⟩/\aQ N (H++J) v 1 bZ ((under s.T c.r).map hC)/\ (ak=lo\/ ∃j,N<=j/\ak=cC lo j)) d by
  obtain⟨d,t,v,J,ak,rfl,q⟩:=i;exact⟨v,J,ak,axG (p:=Gw) rfl t,q⟩
 refine wz (X:=XB) Lc rfl λM u=>?_
 obtain⟨v,J,ak,e,h,g⟩:=Mh s.T f.T f.tr c.r l.r N H o none;have e:=lX e;simp only[go_sem,simprocAttr,Lc,n,m,↓SL,fQ,e,sf];refine⟨_,_,_,rfl,h,?_⟩;rcases g with rfl| ⟨j,k,rfl⟩
 ·exact .inl rfl
 ·exact .inr ⟨j,k,rfl⟩
def axH(n:Nat)(c:n<=1024)(H:List ae)(lo:oN):
  D XC (.fn (.func qM) [] []) [.ai,.int .i64 n] ⟨H,lo⟩=some (.ret (if n=0 then .ai else .ref H.length 0 2 0 0 false) ⟨H++(if n=0 then[]else[.row 0 2 fe []]),lo⟩):=by
 refine DJ (p:=CE) rfl ?_;unfold CE;by_cases h:n=0
 ·grind
 ·have b: ¬((n:Nat):Int)=0:=by omega
  have a: (0:Int)<n/\ (n:Int)<=1024:=by omega
  simp only[afi h,afi b,afl a];rfl
abbrev VR:=AV×List aE
def fx(l:List VR):List aE:=l.flatMap (·.2)
def zV(x:VR):lA:=[x.1]
def MS{l:List VR}(h:k<l.length):fx (l.take (k+1))=fx (l.take k)++(l.getD k default).2:=by
 unfold fx;rw[ait,aps,aha,afu h];simp
def axI{N:Nat}{H:List ae}{bytes:Nat}{ty:TypeId}(h:aQ N H v sz ty af)(a:0<sz)(d:af.length*bytes<=room):dw ⟨H,lo⟩ ty sz bytes v []=some (v,⟨H,lo⟩):=by
 unfold dw;rw[afl ⟨a,rfl⟩];rcases h.2 with⟨rfl,_⟩| ⟨id,aj,c,rfl,b⟩
 ·rfl
 grind
def axJ(l:List VR)(hl:l.length<=3)(R: ∀x∈l,x.2.length<=64)(H:List ae)(T: ∀x∈l,Rd ⟨H,none⟩ x.1 2 (x.2.map ay))(lo:oN):
  D XC (.fn (.func Qx) [] []) [.sl (l.map zV) true] ⟨H,lo⟩=some (.ret (ef (fx l)) ⟨H,lo⟩):=by
 refine aF Sr λN Z=>?_
 have s:Rv (.sl (l.map zV) true) 1 (l.map zV):=.sl (by intro el d;obtain⟨x,_,rfl⟩:=ag2.1 d;rfl);have y: ∀k,(fx (l.take k)).length<=64*k:=by
  intro k
  induction k with
  |zero=>simp[fx]
  |succ k ih=>
   by_cases h:k<l.length
   ·rw[MS h,agU];have:=R _ (eX h);omega
   ·rw[agQ (by omega)];rw[agQ (by omega)]at ih;omega
 generalize(AV.sl (l.map zV) true)=V at*;simp only[go_sem,simprocAttr,Sr,s.bK];refine dU l.length (λk e H'=>H'=H/\e 0=V/\e 3= .int .i64 (fx (l.take k)).length/\e 9=V/\e 10= .int .i64 l.length/\e 11= .int .i64 k) 0 (by omega) ?_ ?_
 ·simp only[go_sem,simprocAttr];rfl
 rintro k hk e H' ⟨rfl,h0,P,h9,B,A⟩ n hn;simp only[bR,go_sem,simprocAttr,agl,P,h9,B,A];refine⟨λM=>?_,λM=>?_⟩
 ·have a:k<l.length:=by omega
  have j:=(T _ (eX a)).bK;have w:=y (k+1);have Y:=y k;rw[MS a,agU]at w;have u: ((fx (l.take k)).length:Int)+(l.getD k default).2.length=((fx (l.take (k+1))).length:Nat):=by rw[MS a,agU];omega
  have J: ¬(((fx (l.take (k+1))).length:Nat):Int)<0:=by omega
  have g: (zV (l.getD k default))[0]?=some (l.getD k default).1:=rfl;have X:=y (k+1);simp(disch:=omega) only[go_sem,simprocAttr,h0,P,h9,B,A,s.ck,s.cE,g,j,u,J];exact⟨by omega,a⟩
 ·obtain rfl:k=l.length:=by omega
  have c:fx (l.take l.length)=fx l:=by rw[ag4]
  rw[c]at P;have O:=axH (fx l).length (by have:=y l.length;rw[c]at this;omega);simp only[go_sem,simprocAttr,c,h0,O,s.bK];obtain⟨v0,t⟩: ∃v0,v0=(if(fx l).length=0 then .ai else AV.ref H'.length 0 2 0 0 false):=⟨_,rfl⟩;obtain⟨E,z⟩: ∃E,E=H'++(if(fx l).length=0 then[]else[ae.row 0 2 fe []]):=⟨_,rfl⟩;rw[<-t,<-z];have G:aQ N E v0 2 fe ([].map ay)/\ ((fx l).length=0->v0= .ai)/\H'<+:E:=by
   rw[t,z];by_cases h: (fx l).length=0
   ·rw[afl h,afl h];exact⟨aQ.ai,λ_=>rfl,by simp⟩
   ·rw[afi h,afi h];exact⟨⟨by simp,.inr ⟨H'.length,0,by omega,rfl,by simp⟩⟩,λq=>absurd q h,arD _ _⟩
  refine dU l.length (λk e W=>(∃v,e 6=v/\aQ N W v 2 fe ((fx (l.take k)).map ay)/\ ((fx l).length=0->v= .ai))/\H'<+:W/\e 25=V/\e 26= .int .i64 l.length/\e 27= .int .i64 k) 0 (by omega) ?_ ?_
  ·simp only[go_sem,simprocAttr];exact⟨⟨_,rfl,G.1,G.2.1⟩,G.2.2⟩
  rintro k hk e W ⟨⟨v,h6,r,f⟩,b,p,o,m⟩ n hn;simp only[bR,F1,go_sem,simprocAttr,agk,h6,p,o,m];refine⟨λM=>?_,λM=>?_⟩
  ·have a:k<l.length:=by omega
   have j:=Rd.mono (ak:=none) (T _ (eX a)) b;have g: (zV (l.getD k default))[0]?=some (l.getD k default).1:=rfl;have d:=j.eq;have w:=y k;have hzk:=R _ (eX a);have C:=MS a;simp(disch:=omega) only[go_sem,simprocAttr,h6,s.ck,s.cE,g,d];generalize AM: (l.getD k default).2=Q at*;by_cases S:Q=[]
   ·subst S;rw[aip]at C;rw[ayu,axI r (by omega) (by rw[agZ];unfold room;omega)];simp(disch:=omega) only[go_sem,simprocAttr,p,o,m];rw[C];exact⟨by omega,a,⟨v,rfl,r,f⟩,b⟩
   ·have K: ¬(fx l).length=0:=by
      intro q;have q2:fx l=[]:=ams.1 q;have:fx l=fx (l.take (k+1))++fx (l.drop (k+1)):=by
       unfold fx;rw[<-aps,apt]
      rw[C]at this;rw[q2]at this;simp[S]at this
    refine⟨by omega,?_⟩;refine o9 (bytes:=16) (ys:=Q.map ay) r b Z (by omega) (by intro el d;obtain⟨x,_,rfl⟩:=ag2.1 d;rfl) (bA (λ_=>rfl) _) (by rw[agZ,agZ];unfold room;omega) λv' W2 F I=>?_
    simp(disch:=omega) only[go_sem,simprocAttr,p,o,m];rw[C,ag9];exact⟨a,⟨v',rfl,F,λq=>absurd q K⟩,I⟩
  ·obtain rfl:k=l.length:=by omega
   rw[c]at r;have U:=r.Pm (lo:=lo) (by rw[bA (λ_=>rfl)];omega);rw[AG]at U;rw[U];refine da ?_ (ll Z λi hi=>?_)
   ·unfold ef;by_cases h: (fx l).length=0
    ·rw[f h,ams.1 h];rfl
    ·have h1: (fx l).isEmpty=false:=by
       cases hq:fx l with
       |nil=>rw[hq]at h;exact absurd rfl h
       |cons=>rfl
     rw[h1];rcases r.2 with⟨_,q⟩| ⟨id,aj,_,rfl,_⟩
     ·rw[arn]at q;rw[q]at h;exact absurd rfl h
     ·rfl
   ·obtain⟨L,rfl⟩:=b;rw[aez (by omega)]
def axK(x y:aE)(c:x.1+x.2<4294967296)(b:y.1+y.2<4294967296)(p:Nat)(H:List ae)(lo:oN)(d:H[p]?=some (.box (ay x) none)):
  D X0 (.fn (.func I1) [] [.ptr p 0]) [.agg (ay y)] ⟨H,lo⟩=some (.ret (.bool (holds y x)) ⟨H,lo⟩):=by
 refine eP Sq λN e=>?_
 have a: ∀L,(H++L)[p]?=some (.box (ay x) none):=λL=>bh d
 simp only[F1,go_sem,simprocAttr,Sq,e,a,aid y x b c]
def axL{l:List aE}(b:Rv v 2 (l.map ay))(d:l≠[]): ∃c,v= .sl (l.map ay) c:=by
 obtain⟨e,a,f⟩:=b ⟨[],none⟩;cases v<;>simp only[]at e
 ·simp only[Den.elems]at a;simp_all
 ·simp only[Den.elems]at a
  grind
 ·trivial
def axM(b: ∀el∈af,el.length=sz){c:Bool}(f:i<=af.length): ∃w,fW sz (.sl af c) none (some (.int .i64 i)) none=some w/\Rv w sz (af.take i):=by
 refine⟨.sl (af.take i) (c&&i==af.length),?_,.sl λel a=>b el (alP a)⟩;have d:fV af.length none (some (.int .i64 i))=some (0,i):=by
  have e: (i:Int)<=af.length:=by omega
  simp[fV,lF,e]
 simp only[fW,d,lG]
 grind
def akS(b: ∀el∈af,el.length=sz){c:Bool}(g:i<=af.length): ∃w,fW sz (.sl af c) (some (.int .i64 i)) none none=some w/\Rv w sz (af.drop i):=by
 refine⟨.sl (af.drop i) (c&&af.length==af.length),?_,.sl λel a=>b el (ap0 a)⟩;have d:fV af.length (some (.int .i64 i)) none=some (i,af.length):=by
  have f: (i:Int)<=af.length:=by omega
  simp[fV,lF,f]
 have e:af.all (λel=>el.length==sz)=true:=by grind
 simp only[fW,d,lG];rw[afl e,agQ (by simp)]
def akT(l:List aE): ∀el∈l.map ay,el.length=2:=by intro el a;obtain⟨x,_,rfl⟩:=ag2.1 a;rfl
def V7(v:AV)(l:List aE)(x:aE):AV:=match rq l x with
 |some a=>.au [.agg [ef a],.bool true]
 |none=>.au [.agg [v],.bool false]
def oM{E:AS}(h:Rd E v sz af):v.cb=false/\v.cells=[v]:=by
 have a:=h.kind;cases v<;>simp only[]at a<;>exact⟨rfl,rfl⟩
def axN(v:AV)(l:List aE)(E:Rv v 2 (l.map ay))(G:zG l)(x:aE)(UJ:x.1<4294967296)(UK:x.2<4294967296)(H:List ae)(lo:oN):
  D XC (.fn (.func Qs) [] []) [.agg [v],.int .i64 (x.1:Nat),.int .i64 (x.2:Nat)] ⟨H,lo⟩=some (.ret (V7 v l x) ⟨H,lo⟩):=by
 refine aF Fy λN p=>?_
 have hm:=λH lo=>c0 (UF x UJ UK H lo)
 have hr:ay x=[.int .i64 (x.1:Nat),.int .i64 (x.2:Nat)]:=rfl;rw[hr]at hm;have F:v.refs=0:=cM E (bA (λ_=>rfl) l);unfold V7;cases f:ld x with
 |false=>
  have e0:rq l x=none:=by unfold rq;rw[afl f]
  rw[e0];rw[f]at hm;simp only[F1,go_sem,simprocAttr,Fy,p,hm,F]
 |true=>
  rw[f]at hm;have hx:1<=x.2/\x.1+x.2<=64:=by simpa[ld]using f
  have d:=λH lo h=>c0 (ah8 v (.fn (.func I1) [] [.ptr (N+2) 0]) l E (by have:=G.1;omega) (λy=>holds y x) H lo h)
  have d:=d (H++[.box [v] none,.box [.ai] none,.box (ay x) none]) none (λy Z=>axK x y (by omega) (by have:=G.2 y Z;omega) (N+2) _ none (by rw[bz p];rfl));rw[hr]at d;have e1:rq l x=match l.findIdx? λy=>holds y x with
   |none=>none
   |some i=>some (l.take i++((if(l.getD i (0,0)).1<x.1 then[((l.getD i (0,0)).1,x.1- (l.getD i (0,0)).1)]else[])++(if x.1+x.2< (l.getD i (0,0)).1+(l.getD i (0,0)).2 then[(x.1+x.2,(l.getD i (0,0)).1+(l.getD i (0,0)).2- (x.1+x.2))]else[]))++l.drop (i+1)):=by
   unfold rq;rw[afi (by rw[f];simp)];rfl
  rw[e1];unfold gi at d;cases hi:l.findIdx? (λy=>holds y x)with
  |none=>
   rw[hi]at d;simp only at d;simp only[F1,go_sem,simprocAttr,Fy,p,hm,d,F]
  |some i=>
   rw[hi]at d;simp only at d⊢;have I:i<l.length:=by
    obtain⟨h,_⟩:=arc.1 hi;exact h
   have hi0: ¬((i:Nat):Int)<0:=by omega
   have Iq:=G.1;have hrv:=λl=>cM (m9 l) (bA (g:=ay) (λ_=>rfl) l)
   have ig:l.getD i (0,0)=l.getD i default:=rfl;rw[ig];have hyb:=G.2 _ (eX I);have aDJ:=E.ck (k:=.i64) (a:=i);obtain⟨c,hvc⟩:=axL E (by rintro rfl;simp at I);obtain⟨w1,s1,U⟩:=axM (c:=c) (akT l) (i:=i) (by rw[agZ];omega);obtain⟨R,s2,T⟩:=akS (c:=c) (akT l) (i:=i+1) (by rw[agZ];omega);rw[<-hvc]at s1 s2;rw[<-List.map_take]at U;rw[<-List.map_drop]at T;generalize Z:l.getD i default=y at*;obtain⟨B,hB⟩: ∃B:List ae,B=[.box [v] none,.box [.ai] none,.box (ay x) none,.box (ay y) none]:=⟨_,rfl⟩;have O: (H++B).length=N+4:=by rw[hB];simp[p]
   have j0: ∀W,(H++B)<+:W->W[N]?=some (.box [v] none)/\W[N+1]?=some (.box [.ai] none)/\W[N+2]?=some (.box (ay x) none)/\W[N+3]?=some (.box (ay y) none):=by
    rintro W ⟨L,rfl⟩;rw[hB,afq];refine⟨by rw[dh p];rfl,by rw[bz p];rfl,by rw[bz p];rfl,by rw[bz p];rfl⟩
   have Dx: (ay x)[0]?=some (.int .i64 x.1):=rfl;have Dz: (ay y)[0]?=some (.int .i64 y.1):=rfl;have hex:=λH lo=>c0 (Ce x (by omega) H lo)
   have J:=λH lo=>c0 (Ce y (by omega) H lo)
   have tx:List.take 2 (ay x)=ay x:=rfl;have ty:List.take 2 (ay y)=ay y:=rfl;have dz: ∀r:aE,List.drop 2 (ay r)=[]:=λ_=>rfl
   have lx: ∀r:aE,(ay r).length=2:=λ_=>rfl
   have bl: ∀a b:Nat,[AV.int .i64 (a:Int),AV.int .i64 (b:Int)]=ay (a,b):=λ_ _=>rfl
   simp(disch:=omega) only[go_sem,simprocAttr,Fy,p,hm,d,hi0,E.ck,E.cE,Z,lx];refine⟨by omega,?_⟩;refine acb (λe W ak=>ak=none/\ (H++B)<+:W/\aQ (N+4) W (e 12) 2 fe ((if y.1<x.1 then[(y.1,x.1-y.1)]else[]).map ay)/\e 3= .ptr N 0/\e 6= .ptr (N+1) 0/\e 8= .ptr (N+2) 0/\e 10= .int .i64 i/\e 11= .ptr (N+3) 0) ?_ ?_
   ·simp(disch:=omega) only[bR,go_sem,simprocAttr];refine⟨λa=>?_,λa=>?_⟩
    ·have V: (x.1:Int)-y.1=((x.1-y.1:Nat):Int):=by omega
     simp only[go_sem,simprocAttr,V];refine o9 (N:=N+4) (H0:=H++B) (af:=[]) (bytes:=16) (ys:=[ay (y.1,x.1-y.1)]) aQ.ai (by rw[hB];exact arj) O (by omega) (by intro el t;rw[agV.1 t];rfl) rfl (by simp[room]) λv' W2 Y X=>?_
     simp only[go_sem,simprocAttr,HW];rw[afl (by omega)];exact⟨X,Y⟩
    ·simp only[go_sem,simprocAttr,HW];rw[afi (by omega)];exact⟨by rw[hB];exact arj,aQ.ai⟩
   ·rintro e W ak ⟨rfl,s,q,e3,e6,e8,n,m⟩;obtain⟨C,M⟩: ∃C,C=(if y.1<x.1 then[(y.1,x.1-y.1)]else[]):=⟨_,rfl⟩;have aDK:C.length<=1:=by rw[M];split<;>simp
    rw[<-M]at q⊢;obtain⟨g0,g1,g2,Q⟩:=j0 W s;simp only[go_sem,simprocAttr,g2,Q,e8,m,hex,J];refine acb (λe W ak=>ak=none/\ (H++B)<+:W/\aQ (N+4) W (e 12) 2 fe ((C++(if x.1+x.2<y.1+y.2 then[(x.1+x.2,y.1+y.2- (x.1+x.2))]else[])).map ay)/\e 3= .ptr N 0/\e 6= .ptr (N+1) 0/\e 8= .ptr (N+2) 0/\e 10= .int .i64 i/\e 11= .ptr (N+3) 0) ?_ ?_
    ·simp only[bR,go_sem,simprocAttr];refine⟨λa=>?_,λa=>?_⟩
     ·have V: (y.1:Int)+y.2- ((x.1:Int)+x.2)=((y.1+y.2- (x.1+x.2):Nat):Int):=by omega
      have q2: (x.1:Int)+x.2=((x.1+x.2:Nat):Int):=by omega
      simp(disch:=omega) only[go_sem,simprocAttr,g2,Q,e8,m,hex,J,V];rw[q2];refine o9 (H0:=H++B) (bytes:=16) (ys:=[ay (x.1+x.2,y.1+y.2- (x.1+x.2))]) q s O (by omega) (by intro el t;rw[agV.1 t];rfl) rfl (by rw[agZ];simp[room];omega) λv' W2 Y X=>?_
      simp only[go_sem,simprocAttr,HW,e3,e6,e8,n,m];rw[afl (by omega),ag9];exact⟨X,Y⟩
     ·simp only[go_sem,simprocAttr,HW,e3,e6,e8,n,m];rw[afi (by omega),aip];exact⟨s,q⟩
    ·clear g0 g1 g2 Q s q e3 e6 e8 n m e W;rintro e W ak ⟨rfl,s,q,e3,e6,e8,n,m⟩;obtain⟨P,A⟩: ∃P,P=C++(if x.1+x.2<y.1+y.2 then[(x.1+x.2,y.1+y.2- (x.1+x.2))]else[]):=⟨_,rfl⟩;have aDL:P.length<=2:=by rw[A];split<;>simp<;>omega
     rw[<-A]at q;generalize hw:e 12=w at*;obtain⟨g0,g1,g2,Q⟩:=j0 W s;have u:=λlo=>axJ [(w1,l.take i),(w,P),(R,l.drop (i+1))] (by simp) (by have:=G.1;simp;omega) W (by
      intro z hz;simp only[aiK,List.not_mem_nil,or_false]at hz;rcases hz with rfl|rfl|rfl
      ·exact U _
      ·exact q.rd
      ·exact T _) lo
     have K:fx [(w1,l.take i),(w,P),(R,l.drop (i+1))]=l.take i++(C++((if x.1+x.2<y.1+y.2 then[(x.1+x.2,y.1+y.2- (x.1+x.2))]else[])++l.drop (i+1))):=by simp[fx,A]
     rw[K]at u;generalize(l.take i++(C++((if x.1+x.2<y.1+y.2 then[(x.1+x.2,y.1+y.2- (x.1+x.2))]else[])++l.drop (i+1))))=LL at*;obtain⟨t7,t8⟩:=oM (m9 LL ⟨[],none⟩);have oH:W.take N=H:=ll p λj hj=>by
      obtain⟨L,rfl⟩:=s;rw[afq,aez (by omega)]
     have uy: ∀o,(W.set (N+1) o).take N=H:=λo=>by rw[arl (by omega),oH]
     simp only[anw,ayu,zV]at u;obtain⟨t1,t2⟩:=oM (U ⟨[],none⟩);obtain⟨t3,t4⟩:=oM (T ⟨[],none⟩);obtain⟨t5,t6⟩:=oM (q.rd (lo:=none));have S:fW 2 v (some (.int .i64 ((i:Int)+1))) none none=some R:=s2;simp(disch:=omega) only[F1,go_sem,simprocAttr,g0,g1,e3,e6,n,hw,s1,S,t1,t2,t3,t4,t5,t6,t7,t8,cN g1,uy,u,hrv]
abbrev xL(a b:aE):Prop:=a.1+a.2<b.1
structure ep(l:List aE):Prop where
 pw:l.Pairwise xL
 bd: ∀x∈l,1<=x.2/\x.1+x.2<=64
def ep.ok{l:List aE}(h:ep l):zG l:=by
 refine⟨?_,λx c=>(h.bd x c).2⟩;have f: (l.map (·.1)).Nodup:=by
  rw[axO,aBq];refine h.pw.imp λ {a b} d he=>?_
  omega
 have:=ME 64 _ f (by
  intro a e;obtain⟨x,c,rfl⟩:=ag2.1 e;have:=h.bd x c;omega)
 grind
theorem ep.nil:ep []:=⟨.nil,by simp⟩
theorem ep.app{a b:List aE}(e:ep a)(d:ep b)(c: ∀x∈a,∀y∈b,xL x y):ep (a++b):=
 ⟨apa.2 ⟨e.pw,d.pw,c⟩,λx f=>(agT.1 f).elim (e.bd x) (d.bd x)⟩
theorem ep.one{x:aE}(c:1<=x.2)(b:x.1+x.2<=64):ep [x]:=⟨List.pairwise_singleton _ _,λy a=>by grind⟩
def axQ: ∀ (l:List aE) (x:aE) (put:Bool) (out k:List aE),1<=x.2->x.1+x.2<=64->ep l->ep out->(∀a∈out,∀b∈l,xL a b)->(put=false-> ∀a∈out,xL a x)->(put=true-> ∀b∈l,xL x b)->
  gY x put out l=some k->ep k:=by
 intro l
 induction l with
 |nil=>
  intro x put out k s r _ ho _ p _ h;unfold gY at h;cases h;cases put with
  |true=>grind
  |false=>exact ho.app (ep.one s r) λa d b e=>by rw[agV.1 e];exact p rfl a d
 |cons y ys t=>
  intro x put out k s r A ho j p w h;have i:=apy.1 A.pw;have g:ep ys:=⟨i.2,λz B=>A.bd z (ahd _ B)⟩;have u:=A.bd y (amu ..);have m: ∀a∈out,xL a y:=λa d=>j a d y (amu ..)
  unfold gY at h;split at h
  ·rename_i c;refine t x put (out++[y]) k s r g (ho.app (ep.one u.1 u.2) λa d b e=>by rw[agV.1 e];exact m a d) ?_ ?_ (λq b e=>w q b (ahd _ e)) h
   ·intro a d b e;rcases agT.1 d with d|d
    ·exact j a d b (ahd _ e)
    ·rw[agV.1 d];exact i.1 b e
   ·intro q a d;rcases agT.1 d with d|d
    ·exact p q a d
    ·rw[agV.1 d];exact c
  ·split at h
   ·rename_i c;have v:ep (out++(if put then[]else[x])):=by
     cases put with
     |true=>simpa using ho
     |false=>
      refine ho.app (ep.one s r) λa d b e=>?_
      have:b=x:=by simpa using e
      rw[this];exact p rfl a d
    have o: ∀a∈out++(if put then[]else[x]),xL a y:=by
     intro a d;rcases agT.1 d with d|d
     ·exact m a d
     ·cases put with
      |true=>simp at d
      |false=>
       have:a=x:=by simpa using d
       rw[this];exact c
    refine t x true (out++(if put then[]else[x])++[y]) k s r g (v.app (ep.one u.1 u.2) λa d b e=>by rw[agV.1 e];exact o a d) ?_ (λq=>by cases q) ?_ h
    ·intro a d b e;have n:xL y b:=i.1 b e;rcases agT.1 d with d|d
     ·have:=o a d;have D:y.1+y.2<b.1:=n;have C:a.1+a.2<y.1:=this;show a.1+a.2<b.1;omega
     ·rw[agV.1 d];exact n
    ·intro _ b e;have D:y.1+y.2<b.1:=i.1 b e;have C:x.1+x.2<y.1:=c;show x.1+x.2<b.1;omega
   ·split at h
    ·rename_i G F E;have f:put=false:=by
      cases put with
      |false=>rfl
      |true=>
       have:x.1+x.2<y.1:=w rfl y (amu ..);omega
     refine t (y.1,y.2+x.2) put out k (by show 1<=y.2+x.2;omega) (by show y.1+(y.2+x.2)<=64;omega) g ho (λa d b e=>j a d b (ahd _ e)) (λ_ a d=>m a d) (λq=>by rw[f]at q;cases q) h
    ·split at h
     ·rename_i G F E H;have f:put=false:=by
       cases put with
       |false=>rfl
       |true=>
        have:x.1+x.2<y.1:=w rfl y (amu ..);omega
      refine t (x.1,x.2+y.2) put out k (by show 1<=x.2+y.2;omega) (by show x.1+(x.2+y.2)<=64;omega) g ho (λa d b e=>j a d b (ahd _ e)) (λq a d=>p q a d) (λq=>by rw[f]at q;cases q) h
     ·cases h
theorem ep.iq{l a:List aE}{x:aE}(h:ep l)(b:iq l x=some a):ep a:=by
 unfold Go.Proofs.YteplichagkpciaaGreatDoor.iq at b;split at b
 ·rename_i hm;have c:1<=x.2/\x.1+x.2<=64:=by simpa[ld]using hm
  exact axQ l x false [] a c.1 c.2 h ep.nil (by simp) (λ_=>by simp) (λq=>by cases q) b
 grind
theorem ep.take{l s:List aE}{x:aE}(h:ep l)(j:rq l x=some s):ep s:=by
 unfold rq at j;split at j
 ·cases j
 rename_i hm;have J:1<=x.2/\x.1+x.2<=64:=by simpa[ld]using hm
 split at j
 ·cases j
 rename_i i E;cases j;obtain⟨m,g,_⟩:=arc.1 E;have p:l.getD i (0,0)=l[i]:=by simp[aha,afu m]
 rw[p];have d:l=l.take i++(l[i]::l.drop (i+1)):=by rw[<-aph m,apt]
 generalize I:l[i]=y at*;generalize l.take i=A at*;generalize l.drop (i+1)=B at*;have k:=h.pw;have e:=h.bd;rw[d]at k e;obtain⟨w,v,r⟩:=apa.1 k;obtain⟨u,t⟩:=apy.1 v;have C:=e y (by simp);have F:x=y\/ (y.1<=x.1/\x.1+x.2<=y.1+y.2):=by simpa using g
 have D:y.1<=x.1/\x.1+x.2<=y.1+y.2:=by
  rcases F with rfl|q
  ·exact⟨agW _,agW _⟩
  ·exact q
 have H:ep A:=⟨w,λz o=>e z (by simp[o])⟩;have hB:ep B:=⟨t,λz o=>e z (by simp[o])⟩;have G:ep ((if y.1<x.1 then[(y.1,x.1-y.1)]else[])++(if x.1+x.2<y.1+y.2 then[(x.1+x.2,y.1+y.2- (x.1+x.2))]else[])):=by
  refine ep.app ?_ ?_ ?_
  ·split
   ·exact ep.one (by show 1<=x.1-y.1;omega) (by show y.1+(x.1-y.1)<=64;omega)
   ·exact ep.nil
  ·split
   ·exact ep.one (by show 1<=y.1+y.2- (x.1+x.2);omega) (by show x.1+x.2+(y.1+y.2- (x.1+x.2))<=64;omega)
   ·exact ep.nil
  ·intro a c b f;split at c<;>split at f<;>simp at c f;rw[c,f];show y.1+(x.1-y.1)<x.1+x.2;omega
 have n: ∀a∈((if y.1<x.1 then[(y.1,x.1-y.1)]else[])++(if x.1+x.2<y.1+y.2 then[(x.1+x.2,y.1+y.2- (x.1+x.2))]else[])),y.1<=a.1/\a.1+a.2<=y.1+y.2:=by
  intro a c;rcases agT.1 c with c|c
  ·split at c
   ·rw[agV.1 c];exact⟨agW _,by show y.1+(x.1-y.1)<=_;omega⟩
   ·cases c
  ·split at c
   ·rw[agV.1 c];exact⟨by show y.1<=x.1+x.2;omega,by show x.1+x.2+(y.1+y.2- (x.1+x.2))<=_;omega⟩
   ·cases c
 refine(H.app G λa c b f=>?_).app hB λa c b f=>?_
 ·have L:a.1+a.2<y.1:=r a c y (by simp);have:=n b f;show a.1+a.2<b.1;omega
 ·have K:y.1+y.2<b.1:=u b f;rcases agT.1 c with c|c
  ·exact r a c b (by simp[f])
  ·have:=n a c;show a.1+a.2<b.1;omega
def qh(f:Nat->Nat):lA:=arr 32 λj=>[.int .u8 (f j)]
theorem V8(f:Nat->Nat): (qh f).length=32:=by rfl
def oO(p:cO):AV:=if p.free.isEmpty then .ai else .sl (p.free.map ay) p.cy
def CF(p:cO):Rv (oO p) 2 (p.free.map ay):=by
 unfold oO;split
 ·rename_i h;rw[aCZ.1 h];exact .ai
 ·exact .sl (by intro el h;obtain⟨x,_,rfl⟩:=ag2.1 h;rfl)
def ca(p:cO):lA:=[.int .i64 p.n,oO p]++arr 64 λi=>qh (p.bytes i)
def xM(p:cO): (ca p).length=2050:=by
 unfold ca;rw[agU,B0 (k:=32) (λi=>V8 (p.bytes i))];rfl
structure fI(p:cO):Prop where
 n:p.n<=64
 free:ep p.free
 bytes: ∀i j,p.bytes i j<256
theorem V9{p:cO}:Den.part false 1 (ca p) 0=some (.int .i64 p.n):=rfl
def zW{p:cO}:Den.part true 1 (ca p) 1=some (.agg [oO p]):=by
 unfold ca;rw[q0 (by simp) (by omega)];rfl
def axR{p:cO}(b:i<64)(a:j<32):Den.part false 1 (ca p) (2+i*32+j)=some (.int .u8 (p.bytes i j)):=by
 unfold ca;rw[kc (by grind),show 2+i*32+j- [AV.int .i64 p.n,oO p].length=i*32+j by grind,la (k:=32) (f:=λi=>qh (p.bytes i)) (λi=>V8 _) b (by omega) (by omega)];have:=la (ag:=false) (m:=1) (n:=32) (k:=1) (i:=j) (o:=0) (f:=λj=>[AV.int .u8 (p.bytes i j)]) (λ_=>rfl) a (by omega) (by omega);rw[Nat.mul_one,ahc]at this;exact this
theorem akV{p:cO}{l:List aE}:aH (ca p) 1 [ef l]=ca {p with free:=l,cy:=false}:=by rfl
theorem akW{p:cO}:aH (ca p) 1 [oO p]=ca p:=by rfl
def akX{p:cO}{o:Nat}(a:i<64)(ho:o+vs.length<=32)(b:aH (qh (p.bytes i)) o vs=qh f):aH (ca p) (2+i*32+o) vs=ca {p with bytes:=ar p.bytes i f}:=by
 unfold ca;rw[gu (by grind),show 2+i*32+o- [AV.int .i64 p.n,oO p].length=i*32+o by grind,om (k:=32) (f:=λi=>qh (p.bytes i)) (λi=>V8 _) a ho,b,pO qh];rfl
def axS{p:cO}{v:Nat}(b:i<64)(a:j<32):aH (ca p) (2+i*32+j) [.int .u8 v]=ca {p with bytes:=ar p.bytes i (ar (p.bytes i) j v)}:=by
 refine akX b (by grind) ?_;unfold qh;have:=om (n:=32) (k:=1) (i:=j) (o:=0) (vs:=[AV.int .u8 v]) (f:=λj=>[AV.int .u8 (p.bytes i j)]) (λ_=>rfl) a (by simp);rw[Nat.mul_one,ahc]at this;rw[this];have e:aH [AV.int .u8 (p.bytes i j)] 0 [AV.int .u8 v]=[AV.int .u8 v]:=rfl;rw[e,pO (λx:Nat=>[AV.int .u8 x])]
def axT{p:cO}{H:List ae}(a:i<64)(h:H[q]?=some (.box (ca p) none)):
  rR ⟨H,lo⟩ [.int .u8 0] (.eZ q 1 (2+i*32) 32)=some ⟨H.set q (.box (ca {p with bytes:=ar p.bytes i λ_=>0}) none),lo⟩:=by
 have e:aH (ca p) (2+i*32) (List.replicate 32 [AV.int .u8 0]).flatten=ca {p with bytes:=ar p.bytes i λ_=>0}:=by
  have:=akX (p:=p) (i:=i) (o:=0) (vs:=(List.replicate 32 [AV.int .u8 0]).flatten) (f:=λ_=>0) a (by decide) (by rfl);omega
 simp only[rR,h,AS.set];rw[afl ⟨rfl,by rw[xM];omega,rfl⟩,e];simp
def akY{X:Ctx}{id off:Nat}:qs X n sz (.ptr id off) none none=some (.eZ id sz off n):=by
 simp[qs,fV,lF]
def axU{p:cO}{H:List ae}(c:i<64)(h:H[q]?=some (.box (ca p) none))(lo:oN):
  D X0 (.fn (.func IY) [] []) [.ptr q (2+i*32)] ⟨H,lo⟩=some (.ret (.au []) ⟨H.set q (.box (ca {p with bytes:=ar p.bytes i λ_=>0}) none),lo⟩):=by
 refine aF Sj λN d=>?_
 have b:=λlo=>axT (lo:=lo) c h
 have a: ∀o,(H.set q o).take N=H.set q o:=λo=>agQ (by grind)
 simp only[F1,go_sem,simprocAttr,Sj,akY,b,a]
theorem vQ{o:Nat}:ea .ptr (.ptr q o) .dY=some false:=rfl
def Wa{p:cO}(k:fI p){H:List ae}(m:i<2147483648)(h:H[q]?=some (.box (ca p) none)){fv:AV}{H':List ae}(r:H'.length=H.length)
  (n:gh p i=0->i<64->D X0 fv [.ptr q (2+i*32)] ⟨H,none⟩=some (.ret (.au []) ⟨H',none⟩)) (lo:oN):
  D X0 (.fn (.func DX) [] []) [.ptr q 0,.int .i64 i,fv] ⟨H,lo⟩=some (.ret (.int .i64 (gh p i)) ⟨if gh p i=0 then H' else H,lo⟩):=by
 have ho:Old q H (.box (ca p) none):=⟨h⟩;refine aF Fo λN s=>?_
 have o:=k.n;have c: ¬((i:Nat):Int)<0:=by omega
 have a:=ath (oO p) p.free (CF _) k.free.ok i m;have f:Ma p.free i=UB p.free i:=rfl;rw[f]at a;by_cases l:p.n<=i
 ·have b: (i:Int)>=p.n:=by omega
  have d:gh p i=2:=by unfold gh;grind
  rw[d];simp(disch:=omega) only[F1,go_sem,simprocAttr,Fo,vQ,c,h,↓V9,b]
 ·have b: ¬(i:Int)>=p.n:=by omega
  cases g:UB p.free i with
  |true=>
   rw[g]at a;have d:gh p i=12:=by unfold gh;rw[afi l,afl g]
   rw[d];simp(disch:=omega) only[F1,go_sem,simprocAttr,Fo,vQ,c,h,↓V9,↓zW,b,a]
  |false=>
   rw[g]at a;have d:gh p i=0:=by unfold gh;rw[afi l,g];rfl
   rw[d];have j:=n d (by omega);have e: (0:Int)<=i/\ (i:Int)<64:=by omega
   simp(disch:=omega) only[F1,go_sem,simprocAttr,Fo,vQ,c,h,↓V9,↓zW,b,a,e,j]
theorem Gx{E:AS}{o:Nat}:qF E (.ptr i o) tg=some (.ptr E.heap.length 0,E.push (.box [.ptr i o] tg)):=rfl
theorem akZ{E:AS}{f:Fn}{bs cs:lA}:qF E (.fn f bs cs) tg=some (.ptr E.heap.length 0,E.push (.box [.fn f bs cs] tg)):=rfl
theorem ak0(n:Nat): ((n:Nat):Int).tdiv 32=((n/32:Nat):Int):=by rfl
theorem axV(n:Nat): ((n:Nat):Int).tmod 32=((n % 32:Nat):Int):=by rfl
section
variable{p:cO}(hp:fI p){i q:Nat}{H:List ae}(h:H[q]?=some (.box (ca p) none))(lo:oN)
include hp h
theorem axW(e:i<2147483648):D X0 (.fn (.func IQ) [] []) [.ptr q 0,.int .i64 i] ⟨H,lo⟩=some (.ret (.int .i64 (gh p i)) ⟨H.set q (.box (ca (rr p i)) none),lo⟩):=by
 have ho:Old q H (.box (ca p) none):=⟨h⟩;refine aF K8 λN g=>?_
 have a:=λlo=>Wa hp e h (fv:=.fn (.func IY) [] []) (H':=H.set q (.box (ca (rr p i)) none)) (by simp) (λd c=>by
  rw[axU c h];unfold rr;grind) lo
 have b: ∀o,(H.set q o).take N=H.set q o:=λo=>agQ (by grind)
 by_cases d:gh p i=0
 ·rw[d]at a;simp only[F1,go_sem,simprocAttr,K8,a,b]
  grind
 ·simp only[afi d]at a;have f:rr p i=p:=by unfold rr;grind
  rw[f,qc h];simp(disch:=omega) only[F1,go_sem,simprocAttr,K8,a]
theorem axX(t:i<64){b:Nat}(r:H[a]?=some (.box [.ptr q 0] none))(n:H[b]?=some (.box [.int .i64 i] none))(v:AV):
  D X0 (.fn (.func IK) [] [.ptr a 0,.ptr b 0]) [v] ⟨H,lo⟩=some (.ret (.au []) ⟨H.set q (.box (ca (L4 p i)) none),lo⟩):=by
 refine eP K0 λN s=>?_
 have f: ∀H lo,D X0 (.fn (.func AZ) [] []) [.agg [oO p],.int .i64 i,.int .i64 1] ⟨H,lo⟩=some (.ret (qa (oO p) p.free (i,1)) ⟨H,lo⟩):=λH lo=>aio (oO p) p.free (CF _) hp.free.ok (i,1) (by omega) (by simp) H lo
 have c: ∀o,(H.set q o).take N=H.set q o:=λo=>agQ (by grind)
 unfold qa at f;have j:= @akV p;have d:= @akW p;have k:=λl=>cM (m9 l) (bA (g:=ay) (λ_=>rfl) l)
 have m:=cM (CF p) (bA (g:=ay) (λ_=>rfl) _);unfold L4;cases e:iq p.free (i,1)with
 |some l=>
  simp only[e]at f⊢;simp only[F1,go_sem,simprocAttr,K0,s,r,n,h,↓zW,f,j,c,xM,k]
 |none=>
  simp only[e]at f⊢;simp only[F1,go_sem,simprocAttr,K0,s,r,n,h,↓zW,f,d,c,xM,m]
theorem axY(g:i<2147483648):D X0 (.fn (.func P3) [] []) [.ptr q 0,.int .i64 i] ⟨H,lo⟩=some (.ret (.int .i64 (gh p i)) ⟨H.set q (.box (ca (ru p i)) none),lo⟩):=by
 have ho:Old q H (.box (ca p) none):=⟨h⟩;refine aF KW λN e=>?_
 have f:q<N:=by grind
 obtain⟨B,hB⟩: ∃B:List ae,B=[.box [.ptr q 0] none,.box [.int .i64 i] none]:=⟨_,rfl⟩;have a:=λlo=>Wa hp g (bh (L:=B) h) (fv:=.fn (.func IK) [] [.ptr N 0,.ptr (N+1) 0]) (H':=(H++B).set q (.box (ca (ru p i)) none)) (by simp) (λc d=>by
  rw[axX hp (bh (L:=B) h) none d (by grind) (by grind)];unfold ru;grind) lo
 have b: ∀o,((H++B).set q o).take N=H.set q o:=λo=>by grind
 rw[hB]at a b;by_cases c:gh p i=0
 ·rw[c]at a;simp only[aiH]at a;simp only[F1,go_sem,simprocAttr,KW,Gx,e,a,b];rw[c];rfl
 ·simp only[afi c]at a;have j:ru p i=p:=by unfold ru;rw[afi c]
  rw[j,qc h];simp only[F1,go_sem,simprocAttr,KW,Gx,e,a]
theorem ak1{at':Nat}(r:at'<68719476736){f:Fn}{cs:lA}{H':List ae}(o:H'.length=H.length)
  (m: ∀L,gh p (at'/32)=0->at'/32<64->D X0 (.fn f [] cs) [.ptr q (2+at'/32*32+at' % 32)] ⟨H++L,none⟩=some (.ret (.au []) ⟨H'++L,none⟩)):
  D X0 (.fn (.func I0) [] []) [.ptr q 0,.int .i64 at',.fn f [] cs] ⟨H,lo⟩=some (.ret (.int .i64 (gh p (at'/32))) ⟨if gh p (at'/32)=0 then H' else H,lo⟩):=by
 have ho:Old q H (.box (ca p) none):=⟨h⟩;refine aF Lk λN g=>?_
 have l:q<N:=by rw[<-g];exact ho.lt
 have n:H'.length=N:=by omega
 have e:gh p (at'/32)=0->at'/32<64->D X0 (.fn (.func Qy) [] [.ptr (N+1) 0,.ptr N 0]) [.ptr q (2+at'/32*32)] ⟨H++[.box [.int .i64 at'] none,.box [.fn f [] cs] none],none⟩=some (.ret (.au []) ⟨H'++[.box [.int .i64 at'] none,.box [.fn f [] cs] none],none⟩):=by
  intro b j;refine eP Ss λM k=>?_
  have d:=m [.box [.int .i64 at'] none,.box [.fn f [] cs] none] b j;simp(disch:=omega) only[F1,go_sem,simprocAttr,Ss,axV,k,d];exact⟨by omega,da rfl (agQ (by simp at k⊢;omega))⟩
 have a:=λlo=>Wa hp (i:=at'/32) (by omega) (bh (L:=[.box [.int .i64 at'] none,.box [.fn f [] cs] none]) h) (H':=H'++[.box [.int .i64 at'] none,.box [.fn f [] cs] none]) (by simp;omega) e lo
 have c: ¬((at':Nat):Int)<0:=by omega
 by_cases b:gh p (at'/32)=0
 ·rw[b]at a;simp only[aiH]at a;simp(disch:=omega) only[F1,go_sem,simprocAttr,Lk,akZ,vQ,ak0,g,c,a];rw[b,afl rfl];rfl
 ·simp only[afi b]at a;simp(disch:=omega) only[F1,go_sem,simprocAttr,Lk,akZ,vQ,ak0,g,c,a];rw[afi b]
theorem axZ{at':Nat}(k:at'<68719476736):D X0 (.fn (.func Qo) [] []) [.ptr q 0,.int .i64 at'] ⟨H,lo⟩=some (.ret (.au [.int .u8 (sS p at'),.int .i64 (gh p (at'/32))]) ⟨H,lo⟩):=by
 have ho:Old q H (.box (ca p) none):=⟨h⟩;refine aF La λN d=>?_
 have g:q<N:=by grind
 have a:=λlo=>ak1 hp (bh (L:=[.box [.int .u8 0] none]) h) lo k (f:=.func Qv) (cs:=[.ptr N 0]) (H':=H++[.box [.int .u8 (p.bytes (at'/32) (at' % 32))] none]) (by simp) (λL c b=>by
  refine eP Sm λM l=>?_
  have j: ∀L,(H++L)[q]?=some (.box (ca p) none):=λL=>bh h
  have e:=axR (p:=p) b (show at' % 32<32 by omega);simp(disch:=omega) only[F1,go_sem,simprocAttr,Sm,j,↓e];exact da rfl (agQ (by simp at l⊢;omega)))
 unfold sS;by_cases c:gh p (at'/32)=0
 ·rw[c]at a⊢;simp only[aiH]at a⊢;simp only[F1,go_sem,simprocAttr,La,d,a,pa]
 ·simp only[afi c]at a⊢;simp only[F1,go_sem,simprocAttr,La,d,a,pa]
theorem ax0{at' b:Nat}(m:at'<68719476736):D X0 (.fn (.func Qn) [] []) [.ptr q 0,.int .i64 at',.int .u8 b] ⟨H,lo⟩=some (.ret (.int .i64 (gh p (at'/32))) ⟨H.set q (.box (ca (vt p at' b)) none),lo⟩):=by
 have ho:Old q H (.box (ca p) none):=⟨h⟩;refine aF K9 λN d=>?_
 have k:q<N:=by grind
 have a:=λlo=>ak1 hp (bh (L:=[.box [.int .u8 b] none]) h) lo m (f:=.func Qu) (cs:=[.ptr N 0]) (H':=(H++[ae.box [.int .u8 b] none]).set q (.box (ca {p with bytes:=ar p.bytes (at'/32) (ar (p.bytes (at'/32)) (at' % 32) b)}) none)) (by simp) (λL g e=>by
  refine eP Sl λM n=>?_
  have l: ∀L,(H++L)[q]?=some (.box (ca p) none):=λL=>bh h
  have j:=axS (p:=p) (v:=b) e (show at' % 32<32 by omega);simp(disch:=omega) only[F1,go_sem,simprocAttr,Sl,l,j,xM]
  grind)
 unfold vt;have c: ∀L o,((H++L).set q o).take N=H.set q o:=λL o=>by
  rw[arP _ _ (by omega),mn (by simp[d])]
 by_cases g:gh p (at'/32)=0
 ·rw[g]at a⊢;simp only[aiH]at a⊢;simp only[F1,go_sem,simprocAttr,K9,d,a,c]
 ·simp only[afi g]at a⊢;rw[qc h];simp only[F1,go_sem,simprocAttr,K9,d,a]
theorem ax1(w:n<=1024):D XC (.fn (.func Qm) [] []) [.ptr q 0,.int .i64 n] ⟨H,lo⟩=some (.ret (.au [.int .i64 (jk p n).2.1,.int .i64 (jk p n).2.2]) ⟨H.set q (.box (ca (jk p n).1) none),lo⟩):=by
 have ho:Old q H (.box (ca p) none):=⟨h⟩;refine aF BS λN y=>?_
 have u:q<N:=by grind
 have k:=λl=>cM (m9 l) (bA (g:=ay) (λ_=>rfl) l)
 have j:= @akV p;have e:= @akW p;have m:=cM (CF p) (bA (g:=ay) (λ_=>rfl) _);have c: ∀o,(H.set q o).take N=H.set q o:=λo=>agQ (by grind)
 by_cases s:n<1
 ·have a: ((n:Nat):Int)<1:=by omega
  have v:jk p n=(p,0,2):=by unfold jk;rw[afl s]
  rw[v,qc h];simp(disch:=omega) only[F1,go_sem,simprocAttr,BS,vQ,a]
 ·have a: ¬((n:Nat):Int)<1:=by omega
  have b:=λH lo=>c0 (atm (oO p) p.free (CF _) hp.free.ok n H lo)
  unfold Mc at b;have e1:jk p n=match p.free.find? (fits n)with
   |none=>(p,0,6)
   |some x=>(match rq p.free (x.1,n)with|some l=>{p with free:=l,cy:=false}|none=>p,x.1,0):=by unfold jk;rw[afi s];rfl
  rw[e1];cases f:p.free.find? (fits n)with
  |none=>
   simp only[f]at b⊢;rw[qc h];simp(disch:=omega) only[F1,go_sem,simprocAttr,BS,vQ,a,h,↓zW,b]
  |some x=>
   simp only[f]at b⊢;have t:=hp.free.bd x (arQ f);have d:=λH lo=>axN (oO p) p.free (CF _) hp.free.ok (x.1,n) (by simp;omega) (by simp;omega) H lo
   unfold V7 at d;cases r:rq p.free (x.1,n)with
   |none=>
    simp only[r]at d⊢;simp only[F1,go_sem,simprocAttr,BS,vQ,a,h,↓zW,b,d,e,c,xM,m]
   |some l=>
    simp only[r]at d⊢;simp only[F1,go_sem,simprocAttr,BS,vQ,a,h,↓zW,b,d,j,c,xM,k]
end
def l8(a:Nat):Prop:= ∀E,gQ XA.fa E .int .cJ (.iY uO) (.int .u8 a) true=some (match rI a with|some f=>.au [.fn (.func f) [] [],.bool true]|none=>.au [.cJ,.bool false])
theorem rK{r:bE}:aG (bF r)=0:=rfl
def ak2(s:bG)(g:bm s)(aa:Nat)(f:aa<4294967296)(c:cp)(i:jM c)(k:l8 c.op)(H:List ae)(lo:oN):
  D XC (.fn (.func IH) [] []) [.agg (bw s),.int .i64 aa,.agg (bf c)] ⟨H,lo⟩=some (.ret (.int .i64 (oz s aa c)) ⟨H,lo⟩):=by
 refine aF KZ λN j=>?_
 have h:=λH lo=>cB (V0 s g aa f c i k H lo)
 unfold oz;by_cases l:0<eV s aa c
 ·have a: ((eV s aa c:Nat):Int)>0:=by omega
  rw[afl l];simp only[F1,go_sem,simprocAttr,KZ,j,DZ,h,a]
 ·have a: ¬((eV s aa c:Nat):Int)>0:=by omega
  rw[afi l];obtain⟨v,d1,d2⟩:=VZ s g aa f c i (0,0) ⟨show 0<4294967296 by omega,show 0<4294967296 by omega⟩ k (H++[.box (bw s) none,.box (bf c) none]) none;have d1:=cB d1;have b:ay (0,0)=[.int .i64 0,.int .i64 0]:=rfl;rw[b]at d1;generalize dH s aa c (0,0)=d at*;have e: (bF d.2.1)[0]?=some (.int .i64 d.2.1.e):=rfl;simp only[F1,go_sem,simprocAttr,KZ,j,DZ,h,a,d1,e,oq,rK]
def ak3(s:bG)(f:bm s)(aa:Nat)(e:aa<4294967296)(c:cp)(h:jM c)(i:l8 c.op)(H:List ae)(lo:oN):
  D XC (.fn (.func Iy) [] []) [.agg (bw s),.int .i64 aa,.agg (bf c)] ⟨H,lo⟩=some (.ret (.bool (B8 s aa c)) ⟨H,lo⟩):=by
 refine aF KT λN b=>?_
 have g:=ak2 s f aa e c h i;unfold B8;by_cases d:c.op=15
 ·have a: (c.op:Int)=15:=by omega
  have j:decide (oz s aa c=10)=decide (((oz s aa c:Nat):Int)=10):=ahb.2 (by omega);rw[agR d,anz,j];simp only[F1,go_sem,simprocAttr,KT,b,DZ,fQ,a,g]
 ·have a: ¬(c.op:Int)=15:=by omega
  rw[afv d,akq];simp only[F1,go_sem,simprocAttr,KT,b,fQ,a]
def Gy(s:bG)(h:Nat):AV:=if s.T.ax h then .sl [hC h] true else .ai
def ak4(s:bG)(g:bm s)(h:Nat)(f:h<4294967296)(H:List ae)(lo:oN):
  D XC (.fn (.func IX) [] []) [.agg (bw s),.int .u32 h] ⟨H,lo⟩=some (.ret (Gy s h) ⟨H,lo⟩):=by
 refine aF Lb λN d=>?_
 have b:=λH lo=>c0 (en s.T.b h f H lo)
 have c:ax s.T.b h=s.T.ax h:=rfl;rw[c]at b;unfold Gy;have a:Den.part true 96 (bw s) 0=some (.agg (bY s.T.b)):=by rfl
 cases e:s.T.ax h with
 |true=>
  rw[e]at b;simp only[F1,go_sem,simprocAttr,Lb,d,↓a,b];rfl
 |false=>
  rw[e]at b;simp only[F1,go_sem,simprocAttr,Lb,d,↓a,b]
def zX(s:bG)(h:Nat):Rv (Gy s h) 1 ((oA s h).map hC):=by
 unfold Gy oA;split
 ·exact .sl (by intro el a;rw[agV.1 a];rfl)
 ·exact .ai
def ax2(l:lN)(p:l.length<2147483648)(v:AV)(H:List ae)(b:Rd ⟨H,none⟩ v 1 (l.map hC))(x:Nat)(lo:oN):
  D X0 (.fn (.func Qw) [] []) [v,.int .u32 x] ⟨H,lo⟩=some (.ret (.int .i64 (gi (λy=>decide (y=x)) l)) ⟨H,lo⟩):=by
 refine aF Sp λN t=>?_
 simp only[go_sem,simprocAttr,Sp,b.bK];refine dU l.length (λk e H'=>H'=H/\ (∀j,j<k->decide (l.getD j default=x)=false)/\e 0=v/\e 1= .int .u32 x/\e 7= .int .i64 l.length/\e 8= .int .i64 k) 0 (by omega) ?_ ?_
 ·simp only[go_sem,simprocAttr];omega
 rintro k r e H' ⟨rfl,f,n,i,h,g⟩ m hm;simp(disch:=omega) only[bR,F1,go_sem,simprocAttr,agj,n,i,h,g];refine⟨λo=>?_,λo=>?_⟩
 ·have c:k<l.length:=by omega
  have d: ∀y,(hC y)[0]?=some (.int .u32 y):=λ_=>rfl
  by_cases e1:l.getD k default=x
  ·have a: ((x:Nat):Int)=(l.getD k default:Nat):=by omega
   simp(disch:=omega) only[F1,go_sem,simprocAttr,b.ck,b.cE,d,a];rw[vy c f (agR e1)];exact⟨by omega,rfl⟩
  ·have a: ¬((x:Nat):Int)=(l.getD k default:Nat):=by omega
   simp(disch:=omega) only[go_sem,simprocAttr,n,i,h,g,b.ck,b.cE,d,a];refine⟨by omega,c,λj s=>?_⟩;rcases(show j<k\/j=k by omega)with q|rfl
   ·exact f j q
   ·exact afv e1
 ·obtain rfl:k=l.length:=by omega
  rw[vz f]
def ax3(l:lN)(b:l.length<2147483648)(v:AV)(H:List ae)(a:Rd ⟨H,none⟩ v 1 (l.map hC))(x:Nat)(lo:oN):
  D X0 (.fn (.func Qq) [] []) [v,.int .u32 x] ⟨H,lo⟩=some (.ret (.bool (l.contains x)) ⟨H,lo⟩):=by
 refine aF Sh λN c=>?_
 simp(disch:=omega) only[F1,go_sem,simprocAttr,Sh,ax2 l b v H a x none,xq]
 grind
section
variable{s:bG}(hs:bm s){c:cp}(hc:jM c){a b:Nat}{H:List ae}(ha:H[a]?=some (.box (bw s) none))(hb:H[b]?=some (.box (bf c) none))(lo:oN)
include hs hc ha hb
theorem ak5:D XC (.fn (.func D4) [] [.ptr a 0,.ptr b 0]) [] ⟨H,lo⟩=some (.ret (Gy s c.r) ⟨H,lo⟩):=by
 refine eP Sg λN e=>?_
 have d:=cM (zX s c.r) (bA (λ_=>rfl) _);simp(disch:=omega) only[F1,go_sem,simprocAttr,Sg,ha,hb,↓SL,fQ,ak4 s hs c.r hc.r,d]
theorem ax4{u:Nat}(p:H[u]?=some (.box [.fn (.func po) [] [.ptr a 0,.ptr b 0]] none)):
  ∃v,D XC (.fn (.func D5) [] [.ptr u 0,.ptr a 0,.ptr b 0]) [] ⟨H,lo⟩=some (.ret v ⟨H,lo⟩)/\Rv v 1 ((if under s.T c.r=[]\/s.T.ax c.s=false then[]else if(under s.T c.r).contains c.s then under s.T c.r else under s.T c.r++[c.s]).map hC):=by
 suffices E: ∃o,D XC (.fn (.func D5) [] [.ptr u 0,.ptr a 0,.ptr b 0]) [] ⟨H,lo⟩=some o/\ (λo=> ∃v,o=aS.ret v ⟨H,lo⟩/\Rv v 1 ((if under s.T c.r=[]\/s.T.ax c.s=false then[]else if(under s.T c.r).contains c.s then under s.T c.r else under s.T c.r++[c.s]).map hC)) o by
  obtain⟨o,M,v,rfl,K⟩:=E;exact⟨v,M,K⟩
 refine vA BT rfl rfl rfl λN q=>?_
 obtain⟨v,J,ak,g1,g2,O⟩:=V6 hs hc ha hb N q none;have e:=λH lo=>c0 (en s.T.b c.s hc.s H lo)
 have z:ax s.T.b c.s=s.T.ax c.s:=rfl;rw[z]at e;have k:Den.part true 96 (bw s) 0=some (.agg (bY s.T.b)):=by rw[<-vG (x:=⟨s,0,nr,(0,0),0,false,[]⟩) (bk:=.ai) (by omega) (by omega)];exact Vt
 have F:=Gf hs.tr c.r;have G:=l7 g2 ak;have d:=G.bK;have w:=λL=>bh (L:=L) ha
 have t:=λL=>bh (L:=L) hb
 have h:=λlo=>c0 (ax3 (under s.T c.r) (by omega) v (H++J) (l7 g2 none) c.s lo)
 have f:dG N ak:=dG.of O;have j: (H++J).take N=H:=by rw[<-q];simp
 have y:=bA (g:=hC) (λ_=>rfl) (under s.T c.r);by_cases r:under s.T c.r=[]
 ·have n: ((under s.T c.r).length:Int)=0:=by rw[r];rfl
  rw[afl (.inl r)];simp only[go_sem,simprocAttr,BT,p,g1,d,n];rw[iR f (agS _),j];exact⟨_,rfl,.ai⟩
 ·have n: ¬((under s.T c.r).length:Int)=0:=by
    have:=aoX.2 r;omega
  cases B:s.T.ax c.s with
  |false=>
   rw[B]at e;rw[afl (.inr rfl)];simp only[go_sem,simprocAttr,BT,p,g1,d,n,w,t,↓k,fQ,e];rw[iR f (agS _),j];exact⟨_,rfl,.ai⟩
  |true=>
   rw[B]at e;rw[afi (by simp[r])];cases m: (under s.T c.r).contains c.s with
   |true=>
    rw[m]at h;rw[afl rfl];simp only[go_sem,simprocAttr,BT,p,g1,d,n,w,t,↓k,fQ,e,h];rw[Gg f g2 (by rw[y];omega),j];exact⟨_,rfl,aQ.sc g2⟩
   |false=>
    rw[m]at h;rw[afi (by simp)];simp only[go_sem,simprocAttr,BT,p,g1,d,n,w,t,↓k,fQ,e,h];refine o9 (H0:=H) (ys:=[[.int .u32 c.s]]) g2 (arD _ _) q (by omega) (by intro el A;rw[agV.1 A];rfl) rfl (by unfold room;simp;omega) λv' W C I=>?_
    simp only[go_sem,simprocAttr];have l:aQ N W v' 1 bZ ((under s.T c.r++[c.s]).map hC):=by rw[ag9];exact C
    rw[Gg f l (by rw[bA (λ_=>rfl)];omega)];refine⟨_,da rfl (ll q λi P=>?_),aQ.sc l⟩;obtain⟨L,rfl⟩:=I;rw[aez (by omega)]
theorem ax5: ∃v,D XC (.fn (.func D6) [] [.ptr a 0,.ptr b 0]) [] ⟨H,lo⟩=some (.ret v ⟨H,lo⟩)/\Rv v 1 ((if(b9 s.K c.s).2=0 then oA s (b9 s.K c.s).1.aL else[]).map hC):=by
 suffices n: ∃g,D XC (.fn (.func D6) [] [.ptr a 0,.ptr b 0]) [] ⟨H,lo⟩=some g/\ (λg=> ∃v,g=aS.ret v ⟨H,lo⟩/\Rv v 1 ((if(b9 s.K c.s).2=0 then oA s (b9 s.K c.s).1.aL else[]).map hC)) g by grind
 refine vA Ld rfl rfl rfl λN k=>?_
 have j:=λH lo=>c0 (Cm s.K hs.K c.s hc.s H lo)
 have m:=λL=>bh (L:=L) ha
 have f: ∀t:Tok,(fB t).length=5:=λ_=>rfl
 have e: ∀t:Tok,aG (fB t)=0:=λ_=>rfl
 have h: ∀t:Tok,(fB t)[0]?=some (.int .u32 t.aL):=λ_=>rfl
 by_cases l: (b9 s.K c.s).2=0
 ·have d: (((b9 s.K c.s).2:Nat):Int)=0:=by omega
  have ho:=ak4 s hs (b9 s.K c.s).1.aL (hs.K.get c.s).aL;have i:=cM (zX s (b9 s.K c.s).1.aL) (bA (λ_=>rfl) _);rw[afl l];simp only[F1,go_sem,simprocAttr,Ld,k,ha,hb,↓SL,fQ,m,f,e,h,j,d,ho,i];exact⟨_,rfl,zX s _⟩
 ·have d: ¬(((b9 s.K c.s).2:Nat):Int)=0:=by omega
  rw[afi l];simp only[F1,go_sem,simprocAttr,Ld,k,ha,hb,↓SL,fQ,f,e,j,d];exact⟨_,rfl,.ai⟩
theorem ax6{u:Nat}(l:H[u]?=some (.box [.fn (.func po) [] [.ptr a 0,.ptr b 0]] none))(h:H[i]?=some (.box [.fn (.func D4) [] [.ptr a 0,.ptr b 0]] none)):
  ∃v,D XC (.fn (.func D7) [] [.ptr b 0,.ptr i 0,.ptr u 0]) [] ⟨H,lo⟩=some (.ret v ⟨H,lo⟩)/\Rv v 1 ((if c.b=1 then oA s c.r else under s.T c.r).map hC):=by
 suffices n: ∃e,D XC (.fn (.func D7) [] [.ptr b 0,.ptr i 0,.ptr u 0]) [] ⟨H,lo⟩=some e/\ (λe=> ∃v,e=aS.ret v ⟨H,lo⟩/\Rv v 1 ((if c.b=1 then oA s c.r else under s.T c.r).map hC)) e by grind
 refine vA Lf rfl rfl rfl λN j=>?_
 by_cases k:c.b=1
 ·have d: (c.b:Int)=1:=by omega
  have g:=cM (zX s c.r) (bA (λ_=>rfl) _);rw[afl k];simp(disch:=omega) only[F1,go_sem,simprocAttr,Lf,hb,h,fQ,d,ak5 hs hc ha hb,g];exact⟨_,rfl,zX s _⟩
 ·have d: ¬(c.b:Int)=1:=by omega
  obtain⟨v,J,ak,g1,g2,m⟩:=V6 hs hc ha hb N j none;have f: (H++J).take N=H:=by rw[<-j];simp
  rw[afi k];simp only[go_sem,simprocAttr,Lf,hb,l,fQ,d,g1];rw[Gg (dG.of m) g2 (by rw[bA (λ_=>rfl)];omega),f];exact⟨_,rfl,aQ.sc g2⟩
end
abbrev eY(N:Nat):AV:=.fn (.func D4) [] [.ptr N 0,.ptr (N+1) 0]
abbrev lq(N:Nat):AV:=.fn (.func po) [] [.ptr N 0,.ptr (N+1) 0]
abbrev MT(N:Nat):AV:=.fn (.func D5) [] [.ptr (N+3) 0,.ptr N 0,.ptr (N+1) 0]
abbrev MU(N:Nat):AV:=.fn (.func D6) [] [.ptr N 0,.ptr (N+1) 0]
abbrev MV(N:Nat):AV:=.fn (.func D7) [] [.ptr (N+1) 0,.ptr (N+2) 0,.ptr (N+3) 0]
def ax7(N:Nat):List (AV×AV):=[(.int .u8 1,eY N),(.int .u8 2,eY N),(.int .u8 3,eY N),(.int .u8 4,eY N),(.int .u8 5,eY N),(.int .u8 10,eY N),(.int .u8 12,eY N),(.int .u8 18,eY N),(.int .u8 19,eY N),(.int .u8 6,lq N),(.int .u8 7,lq N),(.int .u8 9,lq N),(.int .u8 11,lq N),(.int .u8 8,MT N),(.int .u8 13,MU N),(.int .u8 14,MV N)]
def nG(N k:Nat):List (AV×AV):=(ax7 N).take k
theorem ax8(N:Nat):ae.map []= .map (nG N 0):=rfl
def l9{N:Nat}{H:List ae}(d:H.length=N)(B:List ae)(f:B.length=4){key:Int}(i:v.refs<=N+5)(h:lH (.int .u8 key) v (nG N k)=some (nG N (k+1)))(lo:oN):
  mf ⟨H++(B++[.map (nG N k)]),lo⟩ .int (.mp (N+4)) (.int .u8 key) v=some ⟨H++(B++[.map (nG N (k+1))]),lo⟩:=by
 simp only[mf,kM,aiH];have e: (H++(B++[ae.map (nG N k)]))[N+4]?=some (.map (nG N k)):=by grind
 simp only[e,h];have g: (H++(B++[ae.map (nG N k)])).set (N+4) (.map (nG N (k+1)))=H++(B++[.map (nG N (k+1))]):=by
  rw[apu _ _ (by omega),apu _ _ (by omega)];simp[d,f]
 simp only[AS.set,g]
 grind
def Gz(N d:Nat):Option AV:=
 if[1,2,3,4,5,10,12,18,19].contains d then some (eY N)
 else if[6,7,9,11].contains d then some (lq N)
 else if d=8 then some (MT N)else if d=13 then some (MU N)else if d=14 then some (MV N)else none
def ax9(N d:Nat):dR (.int .u8 d) (nG N 16)=some (Gz N d):=by
 have key: ∀ (es:List (Nat×AV)),dR (.int .u8 d) (es.map λx=>(.int .u8 (x.1:Nat),x.2))=some ((es.find? λx=>decide (x.1=d)).map (·.2)):=by
  intro es
  induction es with
  |nil=>rfl
  |cons x xs j=>
   simp only[anw,dR,oW,aiH,List.find?_cons]
   grind
 have e:nG N 16=[(1,eY N),(2,eY N),(3,eY N),(4,eY N),(5,eY N),(10,eY N),(12,eY N),(18,eY N),(19,eY N),(6,lq N),(7,lq N),(9,lq N),(11,lq N),(8,MT N),(13,MU N),(14,MV N)].map λx:Nat×AV=>(.int .u8 (x.1:Nat),x.2):=rfl
 rw[e,key];by_cases h:d<=19
 ·rcases(show d=0\/d=1\/d=2\/d=3\/d=4\/d=5\/d=6\/d=7\/d=8\/d=9\/d=10\/d=11\/d=12\/d=13\/d=14\/d=15\/d=16\/d=17\/d=18\/d=19 by omega)with q|q|q|q|q|q|q|q|q|q|q|q|q|q|q|q|q|q|q|q<;>subst q<;>rfl
 ·have hc: ∀l:lN,l.all (λk=>decide (k<=19))=true->l.contains d=false:=by
    intro l g;rw[Bool.eq_false_iff];intro hm;have:=ag6.1 g d (by simpa using hm);simp at this;omega
  have f: ∀l:List (Nat×AV),(l.map (·.1)).all (λk=>decide (k<=19))=true->l.find? (λx=>decide (x.1=d))=none:=by
   intro l g;rw[aBk];intro x i;have:=ag6.1 g x.1 (List.mem_map_of_mem i);simp at this⊢;omega
  rw[f _ rfl];unfold Gz;rw[hc _ rfl,hc _ rfl,afi (by simp),afi (by simp),afi (by omega),afi (by omega),afi (by omega)];rfl
def aya{s:bG}(hs:bm s){c:cp}(hc:jM c)(H:List ae)(lo:oN):
  ∃v,D XC (.fn (.func IP) [] []) [.agg (bw s),.agg (bf c)] ⟨H,lo⟩=some (.ret v ⟨H,lo⟩)/\Rv v 1 ((sR s c).map hC):=by
 suffices X: ∃r,D XC (.fn (.func IP) [] []) [.agg (bw s),.agg (bf c)] ⟨H,lo⟩=some r/\ (λr=> ∃v,r=aS.ret v ⟨H,lo⟩/\Rv v 1 ((sR s c).map hC)) r by
  obtain⟨r,h1,v,rfl,Z⟩:=X;exact⟨v,h1,Z⟩
 refine cz R9 λN d=>?_
 have V:N<=N+1:=by omega
 have U:N<=N+2:=by omega
 have Y: (eY N).refs=N+2:=by simp[AV.refs,aG]
 have P: (lq N).refs=N+2:=by simp[AV.refs,aG]
 obtain⟨B,hB⟩: ∃B:List ae,B=[.box (bw s) none,.box (bf c) none,.box [eY N] none,.box [lq N] none]:=⟨_,rfl⟩;have hm:=ax8 N;have G:=l9 (k:=0) (key:=1) (v:=eY N) d B (by rw[hB];rfl) (by simp[AV.refs,aG]) rfl;have F:=l9 (k:=1) (key:=2) (v:=eY N) d B (by rw[hB];rfl) (by simp[AV.refs,aG]) rfl;have C:=l9 (k:=2) (key:=3) (v:=eY N) d B (by rw[hB];rfl) (by simp[AV.refs,aG]) rfl;have A:=l9 (k:=3) (key:=4) (v:=eY N) d B (by rw[hB];rfl) (by simp[AV.refs,aG]) rfl;have z:=l9 (k:=4) (key:=5) (v:=eY N) d B (by rw[hB];rfl) (by simp[AV.refs,aG]) rfl;have y:=l9 (k:=5) (key:=10) (v:=eY N) d B (by rw[hB];rfl) (by simp[AV.refs,aG]) rfl;have x:=l9 (k:=6) (key:=12) (v:=eY N) d B (by rw[hB];rfl) (by simp[AV.refs,aG]) rfl;have w:=l9 (k:=7) (key:=18) (v:=eY N) d B (by rw[hB];rfl) (by simp[AV.refs,aG]) rfl;have p8:=l9 (k:=8) (key:=19) (v:=eY N) d B (by rw[hB];rfl) (by simp[AV.refs,aG]) rfl;have u:=l9 (k:=9) (key:=6) (v:=lq N) d B (by rw[hB];rfl) (by simp[AV.refs,aG]) rfl;have o:=l9 (k:=10) (key:=7) (v:=lq N) d B (by rw[hB];rfl) (by simp[AV.refs,aG]) rfl;have n:=l9 (k:=11) (key:=9) (v:=lq N) d B (by rw[hB];rfl) (by simp[AV.refs,aG]) rfl;have m:=l9 (k:=12) (key:=11) (v:=lq N) d B (by rw[hB];rfl) (by simp[AV.refs,aG]) rfl;have l:=l9 (k:=13) (key:=8) (v:=MT N) d B (by rw[hB];rfl) (by simp[AV.refs,aG]) rfl;have j:=l9 (k:=14) (key:=13) (v:=MU N) d B (by rw[hB];rfl) (by simp[AV.refs,aG]) rfl;have i:=l9 (k:=15) (key:=14) (v:=MV N) d B (by rw[hB];rfl) (by simp[AV.refs,aG]) rfl;rw[hB]at G F C A z y x w p8 u o n m l j i;simp only[akr,aiL]at G F C A z y x w p8 u o n m l j i;simp only[go_sem,simprocAttr,R9,d,V,U,hm,Y,P,fQ,G,F,C,A,z,y,x,w,p8,u,o,n,m,l,j,i];have O: ∀E:AS,E.heap[N+4]?=some (.map (nG N 16))->gQ XC.fa E .int .cJ (.mp (N+4)) (.int .u8 c.op) true=some (match Gz N c.op with|some v=>.au [v,.bool true]|none=>.au [.cJ,.bool false]):=by
  intro E h;simp only[gQ,kM,aiH,mapOf,h,ax9];cases Gz N c.op<;>rfl
 rw[O _ (by rw[bz d];rfl)];obtain⟨W,g⟩: ∃W,W=H++[.box (bw s) none,.box (bf c) none,.box [eY N] none,.box [lq N] none,.map (nG N 16)]:=⟨_,rfl⟩;have w0:W[N]?=some (.box (bw s) none):=by rw[g,dh d];rfl
 have w1:W[N+1]?=some (.box (bf c) none):=by rw[g,bz d];rfl
 have T:W[N+2]?=some (.box [eY N] none):=by rw[g,bz d];rfl
 have R:W[N+3]?=some (.box [lq N] none):=by rw[g,bz d];rfl
 have wt: ∀L,(W++L).take N=H:=λL=>by rw[g,afq,mn d]
 have e:W.take N=H:=by rw[g,mn d]
 have Q:W.length=N+5:=by rw[g];simp[d]
 rw[<-g];unfold sR Gz;by_cases p: [1,2,3,4,5,10,12,18,19].contains c.op
 ·simp only[p,aiH];have K:=cM (zX s c.r) (bA (λ_=>rfl) _);simp only[F1,go_sem,simprocAttr,ak5 hs hc w0 w1,K,e];exact⟨_,rfl,zX s _⟩
 ·by_cases q: [6,7,9,11].contains c.op
  ·obtain⟨v,J,ak,g1,g2,g3⟩:=V6 hs hc w0 w1 (N+5) Q none;simp only[p,q,aiH,amn,agX];simp only[go_sem,simprocAttr,g1];rw[Gg (dG.le (dG.of g3) (by omega)) (aQ.le (M:=N) g2 (by omega)) (by rw[bA (λ_=>rfl)];omega),wt];exact⟨_,rfl,aQ.sc g2⟩
  ·by_cases t:c.op=8
   ·obtain⟨v,g1,g2⟩:=ax4 hs hc w0 w1 none R;have f:=cM g2 (bA (λ_=>rfl) _);simp only[afi p,afi q,afl t];simp only[F1,go_sem,simprocAttr,g1,f,e];exact⟨_,rfl,g2⟩
   ·by_cases I:c.op=13
    ·obtain⟨v,g1,g2⟩:=ax5 hs hc w0 w1 none;have f:=cM g2 (bA (λ_=>rfl) _);simp only[afi p,afi q,afi t,afl I];simp only[F1,go_sem,simprocAttr,g1,f,e];exact⟨_,rfl,g2⟩
    ·by_cases S:c.op=14
     ·obtain⟨v,g1,g2⟩:=ax6 hs hc w0 w1 none R T;have f:=cM g2 (bA (λ_=>rfl) _);simp only[afi p,afi q,afi t,afi I,afl S];simp only[F1,go_sem,simprocAttr,g1,f,e];exact⟨_,rfl,g2⟩
     ·simp only[p,q,t,I,S,amn,agX];simp only[F1,go_sem,simprocAttr,e];exact⟨_,rfl,.ai⟩
end Go.Proofs.YteplichagkpciaaGreatDoor
