/- What functions do; conditions as stated. -/
import Derived.Test.YteplichagkpciaaGreatDoorM1
import Derived.Test.YteplichagkpciaaGreatDoorD2
set_option linter.all false
set_option maxRecDepth 10000
set_option maxHeartbeats 1000000
namespace Go.Proofs.YteplichagkpciaaGreatDoor
open Go Go.Den
variable{t:av}{n a p k m e j sz i aa q:Nat}{v bk qv:AV}{lo:oN}{x y:au}{b:cO}{ag:Bool}{vs:lA}{af:List lA}{r:bA}{α β:Type}{l:fD}{Q:Prop}{tg:Option TypeId}{f:Nat->Nat}
def aqg:=@List.take_set_of_le
def atg:=@List.Pairwise.imp_of_mem
def axI:=@List.nodup_cons
def axJ:=@List.nodup_iff_pairwise_ne
def axU:=@of_decide_eq_true
def ayW:=@List.nodup_range
def aBa:=@eq_false
def aBl:=@List.nodup_append
def x7(o:bO)(t:av)(p:Ow->Bool)(h:Nat):Bool:=decide (root t h=h)&&p (ca o t h)
def ka(o:bO)(t:av)(p:Ow->Bool):lN:=(ba t.b).filter (x7 o t p)
def x8(o:bO)(t:av)(p:Ow->Bool)(n:Nat):lN:=((ba t.b).take n).filter (x7 o t p)
def atN{o:bO}{p:Ow->Bool}(h:n< (ba t.b).length):x8 o t p (n+1)=if x7 o t p ((ba t.b).getD n default)then x8 o t p n++[(ba t.b).getD n default]else x8 o t p n:=by
 unfold x8;rw[afX,aep h,aBd,getD_eq h]
 grind
def atO{o:bO}{p:Ow->Bool}: (x8 o t p n).length<=n:=ahk (akZ _ _) (by grind)
def ah0(o:bO)(ho:fX o)(t:av)(z:bP t)(V:cu t)(fv:AV)(p:Ow->Bool)(N:Nat)(H:List ae)(A:H.length=N)
  (hf: ∀x L,x0 x->D X fv [.agg (j0 x)] ⟨H++L,none⟩=some (.ret (.bool (p x)) ⟨H++L,none⟩)) (lo:oN):
  ∃w,D X (.fn (.func 278) [] []) [.agg (cQ o),.agg (aN t),fv] ⟨H,lo⟩=some (.ret w ⟨H,lo⟩)/\Rv w 1 ((ka o t p).map hC)/\w.refs=0:=by
 suffices hs: ∃E,D X (.fn (.func 278) [] []) [.agg (cQ o),.agg (aN t),fv] ⟨H,lo⟩=some E/\ (λE=> ∃w,E=aU.ret w ⟨H,lo⟩/\Rv w 1 ((ka o t p).map hC)/\w.refs=0) E by
  obtain⟨E,h1,w,rfl,h2⟩:=hs;exact⟨w,h1,h2⟩
 refine cE RH λM W=>?_
 obtain rfl:M=N:=by rw[<-W,A]
 obtain⟨v,J,e1,G⟩:=LA t.b z.b (M+2) (H++[.box (cQ o) none,.box (aN t) none]) (by simp[A]) none;have y:D X (.fn (.func 19) [] []) [.agg (bU t.b)] ⟨H++[.box (cQ o) none,.box (aN t) none],none⟩=some _:=qE (p:=mR) rfl e1;have b:=(jJ G none).bS;have rf:=mA t.b;rw[adV]at y G b;obtain⟨q,u⟩: ∃q,q=[ae.box (cQ o) none,.box (aN t) none]++J:=⟨_,rfl⟩;have Y: ∀L,(H++(q++L))[M]?=some (.box (cQ o) none):=λL=>by rw[dB A,u];rfl
 have g1: ∀L,(H++(q++L))[M+1]?=some (.box (aN t) none):=λL=>by rw[bE A,u];rfl
 rw[<-u]at y G b;simp only[go_sem,simprocAttr,RH,W,y,b];refine eG (ba t.b).length (λn e H'=> ∃L,H'=H++(q++L)/\ (∃B,e 7=B/\aQ (M+q.length) H' B 1 bY ((x8 o t p n).map hC))/\e 2=fv/\e 3= .ptr M 0/\e 4= .ptr (M+1) 0/\e 12=v/\e 13= .int .i64 (ba t.b).length/\e 14= .int .i64 n) 0 (by omega) ?_ ?_
 ·simp only[go_sem,simprocAttr];exact⟨[],by simp,_,rfl,aQ.aq⟩
 rintro n hn e H' ⟨L,rfl,⟨B,e7,a⟩,O,K,I,m,l,k⟩ n' Hx;simp only[bX,go_sem,simprocAttr,afk,e7,m,l,k];refine⟨λhc=>?_,λhc=>?_⟩
 ·have f:n< (ba t.b).length:=by omega
  have Q:=(iE z.b).1 (fx f);have d:=atN (o:=o) (p:=p) f;have g:Rd ⟨H++(q++L),none⟩ v 1 ((ba t.b).map hC):=jJ (by have:=G.ext (L:=L);rwa[adV]at this) none;have F:=g.c7 (X:=X) (off:=0) (n:=1) (agg:=false) f;rw[pH]at F;have sL:=atO (o:=o) (t:=t) (p:=p) (n:=n);generalize(ba t.b).getD n default=h at*;have T:=fU Q;have r:=λH lo=>up dD (Ai t z V h T H lo)
  have C:=λH lo=>up dD (CA o ho t z V h T H lo)
  have i:=hf (ca o t h) (q++L) (ho.of t h);have c:x7 o t p h=(decide (root t h=h)&&p (ca o t h)):=rfl;have U: ∀aj:oN,True:=λ_=>trivial
  by_cases Z:root t h=h
  ·have j:decide ((root t h:Int)=(h:Nat))=true:=aet (by omega);rw[aet Z,amq]at c;cases S:p (ca o t h)
   ·rw[S]at i c;rw[c,adU (by simp)]at d;simp(disch:=omega) only[go_sem,simprocAttr,O,K,I,e7,m,l,k,g.cp,F,Y,g1,r,C,j,i];exact⟨by omega,f,L,rfl,B,rfl,by rw[d];exact a⟩
   ·rw[S]at i c;rw[c,adY rfl]at d;simp only[go_sem,simprocAttr,O,K,I,e7,g.cp,F,Y,g1,r,C,j,i];refine⟨by omega,rm (H0:=H++q) (ys:=[[.int .u32 (h:Nat)]]) a ⟨_,adV _ _ _⟩ (by simp[A]) (by omega) (by intro el R;rw[afC.1 R];rfl) rfl (by unfold room;simp;omega) λv' H2 s P=>?_⟩;obtain⟨L2,rfl⟩:=P;simp(disch:=omega) only[go_sem,simprocAttr,O,K,I,m,l,k];refine⟨f,L2,by simp,v',rfl,?_⟩;rw[d,afI];rwa[adV]at s
  ·have j: ¬((root t h:Nat):Int)=(h:Nat):=by omega
   rw[aeq Z,aho]at c;rw[c,adU (by simp)]at d;simp(disch:=omega) only[go_sem,simprocAttr,O,K,I,e7,m,l,k,g.cp,F,g1,r,j];exact⟨by omega,f,L,rfl,B,rfl,by rw[d];exact a⟩
 ·obtain rfl:n=(ba t.b).length:=by omega
  have z:x8 o t p (ba t.b).length=ka o t p:=by unfold x8 ka;rw[afK]
  rw[z]at a;have h0:b9 ((ka o t p).map hC)=0:=bB (λ_=>rfl) _;rw[aQ.OY (aQ.le a (by omega)) (by omega)];refine⟨_,du rfl (m5 A),a.sR,cY a.sR h0⟩
def qI(aa:Nat)(x:Ow):Bool:=decide (x.kind=1)&&decide (x.aa=aa)
def po(aa:Nat)(x:Ow):Bool:=decide (x.kind=3)&& (decide (aa<8)&&oY x.hold aa)
theorem CE(x:Ow):j0 x=[.int .u8 x.kind,.int .u8 x.aa,.int .u8 x.hold]:=rfl
def atP(aa:Nat)(x:Ow)(d:x0 x)(q:Nat)(H:List ae)(e:H[q]?=some (.box [.int .i64 (aa:Nat)] none))(lo:oN):
  D X (.fn (.func 312) [] [.ptr q 0]) [.agg (j0 x)] ⟨H,lo⟩=some (.ret (.bool (qI aa x)) ⟨H,lo⟩):=by
 refine fB K0 λN b=>?_
 have f: ∀L,(H++L)[q]?=_:=λL=>aZ e
 have:=d.aa;by_cases c:x.kind=1
 ·have a: (x.kind:Int)=1:=by omega
  simp(disch:=omega) only[F1,go_sem,simprocAttr,K0,b,CE,f,a];refine du (ahl AV.bool ?_) rfl;unfold qI;grind
 ·have a: ¬(x.kind:Int)=1:=by omega
  simp only[F1,go_sem,simprocAttr,K0,b,CE,a];unfold qI;grind
def atQ(aa:Nat)(k:aa<256)(x:Ow)(h:x0 x)(q:Nat)(H:List ae)(i:H[q]?=some (.box [.int .i64 (aa:Nat)] none))(lo:oN):
  D X (.fn (.func 279) [] [.ptr q 0]) [.agg (j0 x)] ⟨H,lo⟩=some (.ret (.bool (po aa x)) ⟨H,lo⟩):=by
 refine fB FG λN e=>?_
 have f: ∀L,(H++L)[q]?=_:=λL=>aZ i
 have j:=λH lo=>up dD (TJ aa (by omega) H lo)
 have hand:=LO h.hold (An aa);have d:=ahH (x:=x.hold) (aa:=aa);by_cases c:x.kind=3
 ·have b: (x.kind:Int)=3:=by omega
  have c0: (aa:Int)>=0:=by omega
  by_cases g:aa<8
  ·have a: (aa:Int)<8:=by omega
   simp only[F1,go_sem,simprocAttr,FG,e,CE,f,b,c0,a,j,hand,d];unfold po;rw[aet c,aet g];rfl
  ·have a: ¬(aa:Int)<8:=by omega
   simp only[F1,go_sem,simprocAttr,FG,e,CE,f,b,c0,a];unfold po;rw[aet c,aeq g];rfl
 ·have b: ¬(x.kind:Int)=3:=by omega
  simp only[F1,go_sem,simprocAttr,FG,e,CE,b];unfold po;rw[aeq c];rfl
def atS(o:bO)(ho:fX o)(t:av)(c:bP t)(d:cu t)(aa:Nat)(H:List ae)(lo:oN):
  ∃w,D X (.fn (.func 277) [] []) [.agg (cQ o),.agg (aN t),.int .i64 aa] ⟨H,lo⟩=some (.ret w ⟨H,lo⟩)/\Rv w 1 ((ka o t (qI aa)).map hC)/\w.refs=0:=by
 obtain⟨N,f⟩: ∃N,H.length=N:=⟨_,rfl⟩;obtain⟨w,e1,e,e3⟩:=ah0 o ho t c d (.fn (.func 312) [] [.ptr (N+2) 0]) (qI aa) (N+3) (H++[.box (cQ o) none,.box (aN t) none,.box [.int .i64 aa] none]) (by grind)
  (λx L b=>atP aa x b (N+2) _ (by simp_all) none) none
 refine⟨w,?_,e,e3⟩;refine aH RG λM a=>?_
 obtain rfl:M=N:=by omega
 simp only[go_sem,simprocAttr,RG,a,e1];rw[sb e3,m5 a]
def atT(o:bO)(ho:fX o)(t:av)(d:bP t)(e:cu t)(aa:Nat)(a:aa<256)(H:List ae)(lo:oN):
  ∃w,D X (.fn (.func 213) [] []) [.agg (cQ o),.agg (aN t),.int .i64 aa] ⟨H,lo⟩=some (.ret w ⟨H,lo⟩)/\Rv w 1 ((ka o t (po aa)).map hC)/\w.refs=0:=by
 obtain⟨N,g⟩: ∃N,H.length=N:=⟨_,rfl⟩;obtain⟨w,e1,f,e3⟩:=ah0 o ho t d e (.fn (.func 279) [] [.ptr (N+2) 0]) (po aa) (N+3) (H++[.box (cQ o) none,.box (aN t) none,.box [.int .i64 aa] none]) (by grind)
  (λx L c=>atQ aa a x c (N+2) _ (by simp_all) none) none
 refine⟨w,?_,f,e3⟩;refine aH Rf λM b=>?_
 obtain rfl:M=N:=by omega
 simp only[go_sem,simprocAttr,Rf,b,e1];rw[sb e3,m5 b]
theorem ah1(a b:Int):pO (.int .u8 a) (.int .u8 b)=some (decide (a=b)):=by rfl
def LQ{a b:Int}{es:List (AV×AV)}:eC (.int .u8 a) ((.int .u8 b,v)::es)=if a=b then some (some v)else eC (.int .u8 a) es:=by
 simp only[eC,ah1]
 grind
theorem ah2{a:Int}{v:AV}: ∀ {es:List (AV×AV)},(∀e∈es,∃j:Int,e.1= .int .u8 j/\a≠j)->mf (.int .u8 a) v es=some (es++[(.int .u8 a,v)])
 | [],_=>rfl
 | (k,u)::es,h=>by
   obtain⟨j,c,b⟩:=h _ (ahi ..);subst c;simp only[mf,ah1,b,aCd];rw[ah2 λe he=>h e (afO _ he)];rfl
def TO{H:List ae}(b:H.length=p){a:Int}{es:List (AV×AV)}(h: ∀e∈es,∃j:Int,e.1= .int .u8 j/\a≠j)(c:v.refs<=p+1):
  mY ⟨H++[.map es],lo⟩ .int (.mp p) (.int .u8 a) v=some ⟨H++[.map (es++[(.int .u8 a,v)])],lo⟩:=by
 unfold mY;rw[adY (show lj .int (.int .u8 a)=true from rfl)];simp only[dB b,aqi,ah2 h];simp only[AS.set];simp_all
def TP{gm:Nat->Option (List (AV×AV))}{H:List ae}{id:Nat}{es:List (AV×AV)}{a:Int}{z:AV}{r:Option AV}(h:H[id]?=some (.map es))(b:eC (.int .u8 a) es=some r):
  jz gm ⟨H,lo⟩ .int z (.mp id) (.int .u8 a) true=some (match r with|some v=>.aw [v,.bool true]|none=>.aw [z,.bool false]):=by
 unfold jz;rw[adY (show lj .int (.int .u8 a)=true from rfl)];simp only[mapOf,h,b]
 grind
section
variable(T:av)(hT:bP T)(x9:cu T)(O:bO)(K:bo)(hK:gY K)(h:Nat)(hh:h<4294967296)(pw ph:Nat)(H:List ae)(hw:H[pw]?=some (.box (gL T O K) none))(pW:H[ph]?=some (.box [.int .u32 h] none))(lo:oN)
include hT x9 hK hh hw pW
omit hT x9 hh in
theorem atU:D X (.fn (.func 314) [] [.ptr pw 0,.ptr ph 0]) [] ⟨H,lo⟩=some (.ret (.bool (xP K h 0)) ⟨H,lo⟩):=by
 refine fB R0 λN b=>?_
 have a: ∀H lo,D X (.fn (.func 315) [] []) [.agg (bZ K),.int .u32 h,.int .u32 0] ⟨H,lo⟩=_:=ahP K hK h 0 (by omega);simp(disch:=omega) only[F1,go_sem,simprocAttr,R0,b,hw,pW,↓rM,a]
omit hT x9 hh in
theorem atV:D X (.fn (.func 316) [] [.ptr pw 0,.ptr ph 0]) [] ⟨H,lo⟩=some (.ret (.bool (z6 K h 0)) ⟨H,lo⟩):=by
 refine fB R3 λN b=>?_
 have a: ∀H lo,D X (.fn (.func 317) [] []) [.agg (bZ K),.int .u32 h,.int .u32 0] ⟨H,lo⟩=_:=ahQ K hK h 0 (by omega);simp(disch:=omega) only[F1,go_sem,simprocAttr,R3,b,hw,pW,↓rM,a]
omit hT x9 hh pW in
theorem atW(x:Nat):D X (.fn (.func 320) [] [.ptr pw 0]) [.int .u32 x] ⟨H,lo⟩=some (.ret (.bool (decide (0< (nW K x).length))) ⟨H,lo⟩):=by
 refine fB R7 λN a=>?_
 obtain⟨w,e1,b,e3⟩:=TM K hK x H none;simp(disch:=omega) only[F1,go_sem,simprocAttr,R7,a,hw,↓rM,e1,b.bS];exact du (ahl AV.bool (afR.2 (by omega))) rfl
theorem atX:D X (.fn (.func 318) [] [.ptr pw 0,.ptr ph 0]) [] ⟨H,lo⟩=some (.ret (.bool (!((under T h).any λx=>decide (0< (nW K x).length)))) ⟨H,lo⟩):=by
 refine fB R5 λN b=>?_
 obtain⟨v,J,a,e,d,c⟩:=LC T hT x9 h hh N H b none;have f:=agV dD v (.fn (.func 320) [] [.ptr pw 0]) (under T h) (H++J) d.rd (by have:=F9 x9 h;omega) (λx=>decide (0< (nW K x).length)) a (λx _=>atW T O K hK pw (H++J) (aZ hw) none x);simp only[go_sem,simprocAttr,R5,hw,pW,↓qs,e,f];rw[ju (eH.of c) (aeu _),m5 b]
end
def atY(T:av)(hT:bP T)(x9:cu T)(O:bO)(K:bo)(hK:gY K)(h:Nat)(hh:h<4294967296)(b:Nat)(t:b<=2)(H:List ae)(lo:oN):
  D X (.fn (.func 215) [] []) [.agg (gL T O K),.int .u32 h,.int .u8 b] ⟨H,lo⟩=some (.ret (.bool (FY T K h b)) ⟨H,lo⟩):=by
 refine aH Fw λN i=>?_
 obtain⟨o,l⟩: ∃o,o=H++[ae.box (gL T O K) none,.box [.int .u32 h] none]:=⟨_,rfl⟩;have g:o.length=N+2:=by rw[l];simp[i]
 have m: ∀f,(AV.fn (.func f) [] [.ptr N 0,.ptr (N+1) 0]).refs<=N+2+1:=λf=>by simp only[AV.refs,aK];omega
 have k:=TO g (a:=0) (es:=[]) (lo:=none) (by simp) (m 314);have j:=TO g (a:=1) (es:=[(.int .u8 0,.fn (.func 314) [] [.ptr N 0,.ptr (N+1) 0])]) (lo:=none) (by simp) (m 316);have m3:=TO g (a:=2) (es:=[(.int .u8 0,.fn (.func 314) [] [.ptr N 0,.ptr (N+1) 0]),(.int .u8 1,.fn (.func 316) [] [.ptr N 0,.ptr (N+1) 0])]) (lo:=none) (by simp) (m 318);rw[l]at k j m3;simp only[adV,ahq,ahm]at k j m3;obtain⟨e,c⟩: ∃e,e=H++[ae.box (gL T O K) none,.box [.int .u32 h] none,.map [(.int .u8 0,.fn (.func 314) [] [.ptr N 0,.ptr (N+1) 0]),(.int .u8 1,.fn (.func 316) [] [.ptr N 0,.ptr (N+1) 0]),(.int .u8 2,.fn (.func 318) [] [.ptr N 0,.ptr (N+1) 0])]]:=⟨_,rfl⟩;have n:e[N]?=some (.box (gL T O K) none):=by rw[c,dB i];rfl
 have g1:e[N+1]?=some (.box [.int .u32 h] none):=by rw[c,bE i];rfl
 have g2:e[N+2]?=some (.map [(.int .u8 0,.fn (.func 314) [] [.ptr N 0,.ptr (N+1) 0]),(.int .u8 1,.fn (.func 316) [] [.ptr N 0,.ptr (N+1) 0]),(.int .u8 2,.fn (.func 318) [] [.ptr N 0,.ptr (N+1) 0])]):=by rw[c,bE i];rfl
 have s:=atU O K hK h N (N+1) e (T:=T) n g1 none;have q:=atV O K hK h N (N+1) e (T:=T) n g1 none;have p:=atX T hT x9 O K hK h hh N (N+1) e n g1 none;have hw:b=0\/b=1\/b=2:=by omega
 rcases hw with rfl|rfl|rfl
 ·have d:=TP (gm:=X.fZ) (lo:=none) (a:=0) (z:=.dx) g2 (r:=some _) (by simp only[LQ,ag6];rfl);rw[c]at s d;simp only[F1,go_sem,simprocAttr,Fw,i,k,j,m3,d,s];rfl
 ·have d:=TP (gm:=X.fZ) (lo:=none) (a:=1) (z:=.dx) g2 (r:=some (.fn (.func 316) [] [.ptr N 0,.ptr (N+1) 0])) (by simp[LQ]);rw[c]at q d;simp only[F1,go_sem,simprocAttr,Fw,i,k,j,m3,d,q];rfl
 ·have d:=TP (gm:=X.fZ) (lo:=none) (a:=2) (z:=.dx) g2 (r:=some (.fn (.func 318) [] [.ptr N 0,.ptr (N+1) 0])) (by simp[LQ]);rw[c]at p d;simp only[F1,go_sem,simprocAttr,Fw,i,k,j,m3,d,p];rfl
def LR(K:bo)(aa h a t:Nat):Bool:=decide ((cb K t).1.to=aa)&& ((decide (a=0)&&xP K h t)|| (decide (a=1)&& (cb K t).1.mu&&z6 K h t))
def atZ(T:av)(O:bO)(K:bo)(n:gY K)(aa h a t:Nat)(y:t<4294967296)(o p r q:Nat)(H:List ae)(i:H[o]?=some (.box (gL T O K) none))(v:H[p]?=some (.box [.int .i64 aa] none))
  (A:H[r]?=some (.box [.int .u8 a] none)) (z:H[q]?=some (.box [.int .u32 h] none)) (lo:oN):
  D X (.fn (.func 333) [] [.ptr o 0,.ptr p 0,.ptr r 0,.ptr q 0]) [.int .u32 t] ⟨H,lo⟩=some (.ret (.bool (LR K aa h a t)) ⟨H,lo⟩):=by
 refine fB xI λN j=>?_
 have g1: ∀L,(H++L)[o]?=_:=λL=>aZ i
 have g2: ∀L,(H++L)[p]?=_:=λL=>aZ v
 have l: ∀L,(H++L)[r]?=_:=λL=>aZ A
 have B: ∀L,(H++L)[q]?=_:=λL=>aZ z
 have b:=λH lo=>up dD (CB K n t y H lo)
 have m:=ahP K n h t y;have u:=ahQ K n h t y;have s:=n.get t;have c:LR K aa h a t=(decide ((cb K t).1.to=aa)&& ((decide (a=0)&&xP K h t)|| (decide (a=1)&& (cb K t).1.mu&&z6 K h t))):=rfl;generalize I: (cb K t).1=x at*;have w:=oi x;rw[w]at b;have G:=s.to;by_cases F:x.to=aa
 ·have d:decide ((x.to:Int)=aa)=true:=aet (by omega);rw[aet F,amq]at c;by_cases E:a=0
  ·have f:decide ((a:Int)=0)=true:=aet (by omega);have e:decide ((a:Int)=1)=false:=aeq (by omega);rw[aet E,aeq (by omega: ¬a=1),amq,aho,aho,Bool.or_false]at c;cases k:xP K h t
   ·rw[k]at m c;simp(disch:=omega) only[F1,go_sem,simprocAttr,xI,j,i,g1,g2,l,B,↓rM,b,d,f,e,m,c]
   ·rw[k]at m c;simp(disch:=omega) only[F1,go_sem,simprocAttr,xI,j,i,g1,g2,l,B,↓rM,b,d,f,m,c]
  ·have f: ¬(a:Int)=0:=by omega
   rw[aeq E,aho,auu]at c;by_cases C:a=1
   ·have e:decide ((a:Int)=1)=true:=aet (by omega);rw[aet C,amq]at c;cases g:x.mu
    ·rw[g,aho]at c;simp(disch:=omega) only[F1,go_sem,simprocAttr,xI,j,i,g2,l,↓rM,b,d,f,e,g,c]
    ·rw[g,amq]at c;simp(disch:=omega) only[F1,go_sem,simprocAttr,xI,j,i,g1,g2,l,B,↓rM,b,d,f,e,g,u,c]
   ·have e: ¬(a:Int)=1:=by omega
    rw[aeq C,aho,aho]at c;simp(disch:=omega) only[F1,go_sem,simprocAttr,xI,j,i,g2,l,↓rM,b,d,f,e,c]
 ·have d: ¬(x.to:Int)=aa:=by omega
  rw[aeq F,aho]at c;simp(disch:=omega) only[F1,go_sem,simprocAttr,xI,j,i,g2,↓rM,b,d,c]
def at0(T:av)(O:bO)(K:bo)(f:gY K)(aa h a:Nat)(H:List ae)(lo:oN):
  D X (.fn (.func 313) [] []) [.agg (gL T O K),.int .i64 aa,.int .u32 h,.int .u8 a] ⟨H,lo⟩=some (.ret (.bool (FZ K aa h a)) ⟨H,lo⟩):=by
 refine aH RZ λN e=>?_
 obtain⟨d,b⟩: ∃d,d=H++[ae.box (gL T O K) none,.box [.int .i64 aa] none,.box [.int .u32 h] none,.box [.int .u8 a] none]:=⟨_,rfl⟩;have k:d[N]?=some (.box (gL T O K) none):=by rw[b,dB e];rfl
 have g1:d[N+1]?=some (.box [.int .i64 aa] none):=by rw[b,bE e];rfl
 have g2:d[N+2]?=some (.box [.int .u32 h] none):=by rw[b,bE e];rfl
 have j:d[N+3]?=some (.box [.int .u8 a] none):=by rw[b,bE e];rfl
 obtain⟨w,e1,l,e3⟩:=TM K f h d none;have c: (nW K h).length<2^40:=by
  have:=mA K.b;have: (nW K h).length<=_:=akZ _ _;omega
 have g:=agV dD w (.fn (.func 333) [] [.ptr N 0,.ptr (N+1) 0,.ptr (N+3) 0,.ptr (N+2) 0]) (nW K h) d (l _) c (LR K aa h a) none
  (λt i=>atZ T O K f aa h a t (fU ((iE f.b).1 (afY.1 i).1)) N (N+1) (N+3) (N+2) d k g1 j g2 none)
 have m:FZ K aa h a=(nW K h).any (LR K aa h a):=rfl;rw[b]at e1 g;simp only[F1,go_sem,simprocAttr,RZ,e,↓rM,e1,g,m]
def ah3{x:Nat}(a:x<256)(b:k<8):decide ((x/2^k) % 2=1)=x.testBit k:=by grind
def at1(T:av)(M:bP T)(v:cu T)(O:bO)(P:fX O)(K:bo)(Q:gY K)(aa:Nat)(S:aa<256)(h:Nat)(F:h<4294967296)(c:Nat)(B:c<=2)(H:List ae)(lo:oN):
  D X (.fn (.func 283) [] []) [.agg (gL T O K),.int .i64 aa,.int .u32 h,.int .u8 c] ⟨H,lo⟩=some (.ret (.int .i64 (xQ T O K aa h c:Nat)) ⟨H,lo⟩):=by
 refine aH nP λN n=>?_
 have g:=λH lo=>up dD (eU T.b h F H lo)
 have G: ∀h,az T.b h=T.az h:=λh=>rfl
 simp only[G]at g;have k:=λH lo=>up dD (CA O P T M v h F H lo)
 have m:=atY T M v O K Q h F c B;have hle:=at0 T O K Q aa h c;have s:=P.of T h;have a:Den.part true 96 (gL T O K) 0=some (.agg (bU T.b)):=by
  have e:gL T O K=bU T.b++(xL T.r++(cQ O++bZ K)):=by simp[gL,aN]
  rw[e];exact wa (oT _) (by omega)
 have d:Den.part true 784 (gL T O K) 0=some (.agg (gL T O K)):=FQ (j4 _ _ _);have f:xQ T O K aa h c=if T.az h=false then 4
  else if(ca O T h).kind=3 then(if c=0/\aa<8/\ (ca O T h).hold.testBit aa=true then 0 else 5)
  else if(ca O T h).kind=1 then(if((ca O T h).aa=aa/\FY T K h c=true)\/FZ K aa h c=true then 0 else 5)
  else 5:=rfl
 generalize V:ca O T h=x at*;have C:=CE x;rw[C]at k;cases z:T.az h with
 |false=>
  rw[adY z]at f;rw[z]at g;simp only[F1,go_sem,simprocAttr,nP,n,↓a,g,f]
 |true=>
  rw[adU (by rw[z];simp)]at f;rw[z]at g;by_cases J:x.kind=3
  ·have j:decide ((x.kind:Int)=3)=true:=aet (by omega);rw[adY J]at f;by_cases w:c=0
   ·have i: (c:Int)=0:=by omega
    have c0: (aa:Int)>=0:=by omega
    by_cases I:aa<8
    ·have r: (aa:Int)<8:=by omega
     have t:lu .shr (.int .u8 (x.hold:Nat)) (.int .i64 (aa:Nat))=some (.int .u8 ((x.hold/2^aa:Nat):Int)):=by
      rw[DR,adY (by omega)];have U:IntKind.u8.bits=8:=rfl;rw[U,aBn,aqe (by omega)]
      congr 2
      rw[Int.fdiv_eq_ediv_of_nonneg _ (Int.le_of_lt (Int.pow_pos (by decide)))];simp
     have E:x.hold/2^aa<256:=Nat.lt_of_le_of_lt (Nat.div_le_self _ _) s.hold;have hand:dA .and (.int .u8 ((x.hold/2^aa:Nat):Int)) (.int .u8 1)=some (.int .u8 ((x.hold/2^aa % 2:Nat):Int)):=by
      have:=LO (b:=1) E (by omega);have e:x.hold/2^aa&&&1=x.hold/2^aa % 2:=Nat.and_one_is_mod _;rw[e]at this;exact this
     have p:=ah3 s.hold I;cases A:x.hold.testBit aa
     ·rw[A,adU (by simp)]at f;rw[A]at p;have o: ¬((x.hold/2^aa % 2:Nat):Int)=1:=by
       have:=of_decide_eq_false p;omega
      simp only[F1,go_sem,simprocAttr,nP,n,↓a,↓qt,↓qs,g,k,j,i,c0,r,t,hand,o,f]
     ·rw[A,adY ⟨w,I,rfl⟩]at f;rw[A]at p;have o:decide (((x.hold/2^aa % 2:Nat):Int)=1)=true:=by
       have:=axU p;exact aet (by omega)
      simp only[F1,go_sem,simprocAttr,nP,n,↓a,↓qt,↓qs,g,k,j,i,c0,r,t,hand,o,f]
    ·have r: ¬(aa:Int)<8:=by omega
     rw[adU (λq=>I q.2.1)]at f;simp only[F1,go_sem,simprocAttr,nP,n,↓a,↓qt,↓qs,g,k,j,i,c0,r,f]
   ·have i: ¬(c:Int)=0:=by omega
    rw[adU (λq=>w q.1)]at f;simp only[F1,go_sem,simprocAttr,nP,n,↓a,↓qt,↓qs,g,k,j,i,f]
  ·have j: ¬(x.kind:Int)=3:=by omega
   rw[adU J]at f;by_cases L:x.kind=1
   ·have l:decide ((x.kind:Int)=1)=true:=aet (by omega);rw[adY L]at f;have R:=s.aa;cases y:FZ K aa h c<;>by_cases w:x.aa=aa
    ·have i:decide ((x.aa:Int)=aa)=true:=aet (by omega);rw[y]at hle f;cases u:FY T K h c
     ·rw[u]at m f;rw[adU (by simp)]at f;simp(disch:=omega) only[F1,go_sem,simprocAttr,nP,n,↓a,↓qt,↓qs,↓d,g,k,j,l,i,m,hle,f]
     ·rw[u]at m f;rw[adY (.inl ⟨w,rfl⟩)]at f;simp(disch:=omega) only[F1,go_sem,simprocAttr,nP,n,↓a,↓qt,↓qs,↓d,g,k,j,l,i,m,f]
    ·have i: ¬(x.aa:Int)=aa:=by omega
     rw[y]at hle f;rw[adU (by simp[w])]at f;simp(disch:=omega) only[F1,go_sem,simprocAttr,nP,n,↓a,↓qt,↓qs,↓d,g,k,j,l,i,hle,f]
    ·have i:decide ((x.aa:Int)=aa)=true:=aet (by omega);rw[y]at hle f;rw[adY (.inr rfl)]at f;cases u:FY T K h c
     ·rw[u]at m;simp(disch:=omega) only[F1,go_sem,simprocAttr,nP,n,↓a,↓qt,↓qs,↓d,g,k,j,l,i,m,hle,f]
     ·rw[u]at m;simp(disch:=omega) only[F1,go_sem,simprocAttr,nP,n,↓a,↓qt,↓qs,↓d,g,k,j,l,i,m,f]
    ·have i: ¬(x.aa:Int)=aa:=by omega
     rw[y]at hle f;rw[adY (.inr rfl)]at f;simp(disch:=omega) only[F1,go_sem,simprocAttr,nP,n,↓a,↓qt,↓qs,↓d,g,k,j,l,i,hle,f]
   ·have l: ¬(x.kind:Int)=1:=by omega
    rw[adU L]at f;simp only[F1,go_sem,simprocAttr,nP,n,↓a,↓qt,↓qs,g,k,j,l,f]
structure uV(m:kI):Prop where
 fr:m.fr<8
 word:m.word<18446744073709551616
 aO:m.aO<4294967296
structure jb(b:c8):Prop where
 fr:b.fr<4
 n:b.n<=4
 ring: ∀i,uV (b.ring i)
def TQ:uV z7:=⟨by trivial,by trivial,by trivial⟩
def jb.gone:jb z8:=⟨by trivial,by trivial,λ_=>TQ⟩
def jb.close{b:c8}(h:jb b):jb (wg b).1:=by
 unfold wg;split
 ·exact h
 ·exact⟨h.fr,h.n,h.ring⟩
def jb.put{b:c8}(h:jb b){m:kI}(a:uV m):jb (nf b m).1:=by
 unfold nf;split
 ·exact h
 ·split
  ·exact h
  ·refine⟨h.fr,by have:=h.n;grind,λi=>?_⟩;show uV (ar b.ring (mC b b.n) m i);by_cases e:i=mC b b.n
   ·rw[e,cF];exact a
   ·rw[da e];exact h.ring i
def jb.take{b:c8}(h:jb b):jb (mD b).1/\uV (mD b).2.1:=by
 unfold mD;split
 ·exact⟨h,TQ⟩
 ·exact⟨⟨aoc _ (by omega),by have:=h.n;grind,h.ring⟩,h.ring _⟩
def ah4(b:c8)(i:Nat):mC b i<4:=aoc _ (by omega)
def zB:lA:=[.int .u8 0,.int .u64 0,.int .u32 0,.bool false,.int .u8 0,.int .u64 0,.int .u32 0,.bool false,.int .u8 0,.int .u64 0,.int .u32 0,.bool false,.int .u8 0,.int .u64 0,.int .u32 0,.bool false,.int .i64 0,.int .i64 0,.bool false]
theorem ah5{b:c8}:List.take 19 (cx b)=cx b:=by rfl
def MB:=gG @ah5<|gG @zY @af7
theorem pt(m:kI):eO m=[.int .u8 m.fr,.int .u64 m.word,.int .u32 m.aO,.bool m.share]:=rfl
def TR(b:c8)(d:b.fr<4)(i:Nat)(c:i<1000)(H:List ae)(lo:oN):D X0 (.fn (.func 306) [] []) [.agg (cx b),.int .i64 i] ⟨H,lo⟩=some (.ret (.int .i64 (mC b i:Nat)) ⟨H,lo⟩):=by
 refine aH RX λN a=>?_
 have e: ((b.fr:Int)+i).tmod 4=(mC b i:Nat):=by rfl
 simp(disch:=omega) only[F1,go_sem,simprocAttr,RX,a,↓ago,e]
def TS(b:c8)(l:jb b)(m:kI)(H:List ae)(lo:oN):
  D X0 (.fn (.func 271) [] []) [.agg (cx b),.agg (eO m)] ⟨H,lo⟩=some (.ret (.aw [.agg (cx (nf b m).1),.int .i64 (nf b m).2]) ⟨H,lo⟩):=by
 refine aH FE λN j=>?_
 have e:nf b m=if b.closed then(b,11)else if b.n=4 then(b,7)else({b with ring:=ar b.ring (mC b b.n) m,n:=b.n+1},0):=rfl
 have hm:=pt m;cases f:b.closed
 ·rw[f,adU (by simp)]at e;by_cases k:b.n=4
  ·rw[adY k]at e;have d:decide ((b.n:Int)=4)=true:=aet (by omega);simp only[F1,go_sem,simprocAttr,FE,j,hm,↓zZ,f,↓Ci,d,MB,↓rL,e]
  ·rw[adU k]at e;have d: ¬(b.n:Int)=4:=by omega
   have p:=l.n;have i:=TR b l.fr b.n (by omega);have h:=ah4 b b.n;have a:=ars (b:=b) (x:=m) h;rw[hm]at a;have g: ∀c,aM (cx ⟨ar b.ring (mC b b.n) m,b.fr,b.n,c⟩) 17 [.int .i64 ((b.n:Int)+1)]=cx ⟨ar b.ring (mC b b.n) m,b.fr,b.n+1,c⟩:=λc=>agp (x:=b.n+1)
   have o: (N+1 !=N)=true:=by simp
   simp(disch:=omega) only[F1,go_sem,simprocAttr,FE,j,hm,↓zZ,f,↓Ci,d,MB,↓rL,i,a,g,e];exact⟨by omega,by omega⟩
 ·rw[f,adY rfl]at e;simp only[F1,go_sem,simprocAttr,FE,j,hm,↓zZ,f,MB,↓rL,e]
def a0(x:au)(bk:AV):lA:=bw x.s++([.int .i64 x.aa]++(bn x.c++(aA x.run++[.int .i64 x.lT,.bool x.asks,bk])))
def LS(x:au)(bk:AV): (a0 x bk).length=964:=by simp only[a0,aer,ep];rfl
section
variable{x:au}{bk:AV}
theorem wv{o:Nat}(ho:o+m<=952)(a:0<m):Den.part ag m (a0 x bk) o=Den.part ag m (bw x.s) o:=by
 unfold a0;exact nc (by rw[ep];exact ho) a
def py{o:Nat}(ho:952<=o):Den.part ag m (a0 x bk) o=Den.part ag m ([.int .i64 x.aa]++(bn x.c++(aA x.run++[.int .i64 x.lT,.bool x.asks,bk]))) (o-952):=by
 unfold a0;rw[jZ (by rw[ep];exact ho),ep]
def ah6:Den.part true 480 (a0 x bk) 0=some (.agg (aN x.s.T)):=by grind [wv,Lf]
theorem TT:Den.part true 96 (a0 x bk) 0=some (.agg (bU x.s.T.b)):=by rfl
def ah7:Den.part true 128 (a0 x bk) 480=some (.agg (cQ x.s.O)):=by grind [wv,SM]
def ah8:Den.part true 176 (a0 x bk) 608=some (.agg (bZ x.s.K)):=by grind [wv,SN]
def ah9:Den.part true 784 (a0 x bk) 0=some (.agg (gL x.s.T x.s.O x.s.K)):=by grind [wv,SI]
def aia:Den.part true 952 (a0 x bk) 0=some (.agg (bw x.s)):=by grind [wv,SJ]
def LU{i:Nat}(h:i<8):Den.part true 19 (a0 x bk) (784+i*19)=some (.agg (cx (x.s.de i))):=by grind [wv,arw]
def TU{i:Nat}(h:i<8):Den.part false 1 (a0 x bk) (936+i)=some (.bool (x.s.alive i)):=by grind [wv,SO]
def at2{i:Nat}(h:i<8):Den.part false 1 (a0 x bk) (944+i)=some (.bool (x.s.born i)):=by grind [wv,arx]
def aib:Den.part false 1 (a0 x bk) 952=some (.int .i64 x.aa):=by rw[py (by omega)];rfl
def aic:Den.part false 1 (a0 x bk) 953=some (.int .u8 x.c.op):=by rw[py (by omega)];rfl
def aid:Den.part false 1 (a0 x bk) 954=some (.int .u32 x.c.r):=by rw[py (by omega)];rfl
def aie:Den.part false 1 (a0 x bk) 955=some (.int .u32 x.c.s):=by rw[py (by omega)];rfl
def aif:Den.part false 1 (a0 x bk) 956=some (.int .u32 x.c.a):=by rw[py (by omega)];rfl
def aih:Den.part false 1 (a0 x bk) 957=some (.int .u32 x.c.b):=by rw[py (by omega)];rfl
def aii:Den.part false 1 (a0 x bk) 958=some (.int .u64 x.c.v):=by rw[py (by omega)];rfl
def aij:Den.part true 6 (a0 x bk) 953=some (.agg (bn x.c)):=by rw[py (by omega)];rfl
def aik:Den.part true 2 (a0 x bk) 959=some (.agg (aA x.run)):=by rw[py (by omega)];rfl
def ail:Den.part false 1 (a0 x bk) 960=some (.int .i64 x.run.2):=by rw[py (by omega)];rfl
def aim:Den.part false 1 (a0 x bk) 961=some (.int .i64 x.lT):=by rw[py (by omega)];rfl
def ain:Den.part false 1 (a0 x bk) 962=some (.bool x.asks):=by rw[py (by omega)];rfl
def aio:Den.part false 1 (a0 x bk) 963=some bk:=by rw[py (by omega)];rfl
def CL:=gG @ah6<|gG @TT<|gG @ah7<|gG @ah8<|gG @ah9<|gG @aia<|gG @aib<|gG @aic<|gG @aid<|gG @aie<|gG @aif<|gG @aih<|gG @aii<|gG @aij<|gG @aik<|gG @ail<|gG @aim<|gG @ain @aio
def CF{s:bD}{o:Nat}(ho:o+vs.length<=952)(h:aM (bw x.s) o vs=bw s):aM (a0 x bk) o vs=a0 {x with s:=s} bk:=by
 unfold a0;rw[rK (by rw[ep];exact ho),h]
def TV:aM (a0 x bk) 0 (aN t)=a0 (x.t t) bk:=CF (by rw[iA];omega) ary
def aip{w:bO}:aM (a0 x bk) 480 (cQ w)=a0 (x.o w) bk:=CF (by rw[uu];omega) arz
def aiq{k:bo}:aM (a0 x bk) 608 (bZ k)=a0 (x.k k) bk:=CF (by rw[zX];omega) arA
def LV{i:Nat}{b:c8}(h:i<8):aM (a0 x bk) (784+i*19) (cx b)=a0 (x.bx i b) bk:=CF (by rw[zY];omega) (arB h)
def air{i:Nat}{v:Bool}(h:i<8):aM (a0 x bk) (936+i) [.bool v]=a0 {x with s:={x.s with alive:=ar x.s.alive i v}} bk:=CF (by grind) (agt h)
def at3{i:Nat}{v:Bool}(h:i<8):aM (a0 x bk) (944+i) [.bool v]=a0 {x with s:={x.s with born:=ar x.s.born i v}} bk:=CF (by grind) (agu h)
def CG{o:Nat}(ho:952<=o):aM (a0 x bk) o vs=bw x.s++aM ([.int .i64 x.aa]++(bn x.c++(aA x.run++[.int .i64 x.lT,.bool x.asks,bk]))) (o-952) vs:=by
 unfold a0;rw[gX (by rw[ep];exact ho),ep]
theorem ais:aM (a0 x bk) 961 [.int .i64 n]=a0 {x with lT:=n} bk:=by rw[CG (by omega)];rfl
def ait:aM (a0 x bk) 963 [v]=a0 x v:=by rw[CG (by omega)];rfl
def CS:=gG @TV<|gG @aip<|gG @aiq<|gG @ais<|gG @ait @LS
end
abbrev jv(e:Nat):AV:=.dt vN (.int .i64 (e:Nat))
theorem aiu{t:TypeId}:XQ (.dt t v)=some (.dt t v):=rfl
def aiv{X:Ctx}{a:List RV}{R:aU->Prop}{e:Env}{E:AS}:dW X n lo a R (.panic v) ⟨e,[]⟩ E=R (.panic (finish n lo v E).1 (finish n lo v E).2):=by
 simp[dW,dU]
def EP:=gG @aiu @aiv
def Gi(e:Int)(H:List ae)(lo:oN):D X0 (.fn (.func 116) [] []) [.bool true,.int .i64 e] ⟨H,lo⟩=some (.ret (.aw []) ⟨H,lo⟩):=by
 refine aH Fh λN a=>?_
 simp(disch:=omega) only[F1,go_sem,simprocAttr,Fh]
def Ao(e:Nat)(H:List ae)(lo:oN):D X0 (.fn (.func 116) [] []) [.bool false,.int .i64 e] ⟨H,lo⟩=some (.panic (jv e) ⟨H,lo⟩):=by
 refine aH Fh λN a=>?_
 simp(disch:=omega) only[F1,go_sem,simprocAttr,Fh,EP]
def at4(H:List ae)(lo:oN):D X0 (.fn (.func 248) [] []) [.int .i64 0] ⟨H,lo⟩=some (.ret (.aw []) ⟨H,lo⟩):=by
 refine aH FA λN a=>?_
 simp(disch:=omega) only[F1,go_sem,simprocAttr,FA,Gi]
def at5(e:Nat)(b:e≠0)(H:List ae)(lo:oN):D X0 (.fn (.func 248) [] []) [.int .i64 e] ⟨H,lo⟩=some (.panic (jv e) ⟨H,lo⟩):=by
 refine aH FA λN c=>?_
 have a: ¬(e:Int)=0:=by omega
 simp(disch:=omega) only[F1,go_sem,simprocAttr,FA,Ao,a,EP]
def Ap{X:Ctx}{e:Env}{E:AS}{R:aU->Prop}{b c:Nat}{d:Bool}:dW X n lo [.cell a ag m,.cell b d k,.t c] R .ret ⟨e,[]⟩ E=okV (cm X E ag m (e a)) (λv E=>okV (cm X E d k (e b)) (λu E=>oJ n lo R (.aw [v,u,e c]) E) E) E:=by
 simp only[zh,zj,fQ,kp,pQ];cases h:cm X E ag m (e a)with
 |none=>simp[okV,h]
 |some v=>
  cases f:cm X E d k (e b)with
  |none=>simp[okV,h,f]
  |some u=>simp[okV,oJ,h,f]
def at6(b:c8)(i:jb b)(H:List ae)(lo:oN):
  D X0 (.fn (.func 272) [] []) [.agg (cx b)] ⟨H,lo⟩=some (.ret (.aw [.agg (cx (mD b).1),.agg (eO (mD b).2.1),.int .i64 (mD b).2.2]) ⟨H,lo⟩):=by
 refine aH FF λN k=>?_
 have d:mD b=if b.n=0 then(b,z7,if b.closed then 11 else 10)else({b with fr:=mC b 1,n:=b.n-1},b.ring b.fr,0):=rfl
 have e:eO z7=[.int .u8 0,.int .u64 0,.int .u32 0,.bool false]:=rfl;by_cases l:b.n=0
 ·rw[adY l]at d;have a:decide ((b.n:Int)=0)=true:=aet (by omega);cases g:b.closed
  ·rw[g,adU (by simp)]at d;simp only[F1,go_sem,simprocAttr,FF,k,↓zZ,g,↓Ci,a,MB,↓rL,d,e,Ap]
  ·rw[g,adY rfl]at d;simp only[F1,go_sem,simprocAttr,FF,k,↓zZ,g,↓Ci,a,MB,↓rL,d,e,Ap]
 ·rw[adU l]at d;have a: ¬(b.n:Int)=0:=by omega
  have m:=i.n;have j: ∀H lo,D X0 (.fn (.func 306) [] []) [.agg (cx b),.int .i64 1] ⟨H,lo⟩=_:=TR b i.fr 1 (by omega);have h:=i.fr;have f: (b.fr:Int)<4:=by omega
  have hm:=pt (b.ring b.fr);have c:=agn (b:=b) h;have o: ((b.n:Int)-1)=((b.n-1:Nat):Int):=by omega
  rw[hm]at c;simp(disch:=omega) only[F1,go_sem,simprocAttr,FF,k,↓Ci,↓ago,a,MB,↓rL,j,↓c,f,o,art,agp,d,hm,Ap];simp
def at7(b:c8)(H:List ae)(lo:oN):
  D X0 (.fn (.func 273) [] []) [.agg (cx b)] ⟨H,lo⟩=some (.ret (.aw [.agg (cx (wg b).1),.int .i64 (wg b).2]) ⟨H,lo⟩):=by
 refine aH KT λN c=>?_
 have d:wg b=if b.closed then(b,11)else({b with closed:=true},0):=rfl
 cases a:b.closed
 ·simp only[F1,go_sem,simprocAttr,KT,c,↓zZ,a,MB,↓rL,aru,d]
 ·simp only[F1,go_sem,simprocAttr,KT,c,↓zZ,a,MB,↓rL,d]
def aua(b:c8)(N:Nat)(H:List ae)(c:H.length=N)(lo:oN):D X0 (.fn (.func 331) [] []) [.agg (cx b)] ⟨H,lo⟩=some (.ret (.fn (.func 337) [] [.ptr N 0]) ⟨H++[.box (cx b) none],lo⟩):=by
 refine aH Sf λM a=>?_
 obtain rfl:M=N:=by omega
 simp only[go_sem,simprocAttr,Sf,a];rw[Ah (by omega)]
def ya(b:c8):List lA:=(gx b).map λm=>[.agg (eO m)]
def TW(b:c8): (ya b).length=b.n:=by simp[ya,gx]
def aiw{b:c8}(h:j<b.n): (ya b)[j]?=some [.agg (eO (b.ring (mC b j)))]:=by
 unfold ya gx
 grind
def aub(b:c8)(L:jb b)(a:Nat):vI X0 (.fn (.func 337) [] [.ptr a 0]) a [.box (cx b) none] (ya b):=by
 intro S V y I J base M j A W s hP h0 vL g hG lo;have t: ∀i,V.cA i->i<base:=λi hi=>(j i hi).1
 suffices h: ∃x,D X0 (.fn (.func 337) [] [.ptr a 0]) [y] ⟨W,lo⟩=some x/\
   (λx=> ∃d f aj,x=aU.ret (.aw []) ⟨f,aj⟩/\V.P d f/\ (I (ya b).length d\/J d)/\base<=f.length/\
     (∀i,i<base-> ¬V.cA i-> ¬(a<=i/\i<a+[ae.box (cx b) none].length)->f[i]?=W[i]?)/\lD V.c base lo aj none (V.row d)) x by
  obtain⟨x,h1,d,f,aj,rfl,Y,X,U,T,R⟩:=h;exact⟨d,f,aj,h1,Y,X,U,T,R⟩
 refine r7 Si rfl rfl rfl λN hN=>?_
 obtain rfl:N=base:=by omega
 have E:W[a]?=some (.box (cx b) none):=hG 0 (by simp);have ha:=ew E;have B: ¬V.cA a:=λq=>(j a q).2 ⟨by omega,by simp⟩
 have NA:=L.n;simp only[go_sem,simprocAttr,Si,E,↓Ci];refine iq b.n (λk e f aj=> ∃d,I k d/\kx V N W (λi=>a<=i/\i<a+[ae.box (cx b) none].length) d f aj/\f[a]?=some (.box (cx b) none)/\e 0=y/\e 1= .ptr a 0/\e 5= .int .i64 b.n/\e 6= .int .i64 k) 0 (by omega) ?_ ?_
 ·simp only[go_sem,simprocAttr];exact⟨s,h0,⟨hP,by omega,λ_ _ _ _=>rfl,.inl ⟨rfl,g⟩,λr e=>by rw[g]at e;cases e⟩,E⟩
 rintro k hk e W1 z ⟨s1,O,p,w0,Q,e1,P,e6⟩ n hn;simp only[bX,go_sem,simprocAttr,afw,Q,e1,P,e6];refine⟨λh=>?_,λh=>?_⟩
 ·have u:k<b.n:=by omega
  have hx:=aiw u;have v:=TR b L.fr k (by omega);have C:=ah4 b k;have m: (mC b k:Int)<4:=by omega
  have l:=agn (b:=b) C;obtain⟨c,s2,W2,m6,K,p2,H,p4,Z,G⟩:=A k _ s1 hx O W1 p.P p.len z;have w:=p.step p2 H p4 Z;have Ly:N<=n:=by have:=p.len;omega
  have v0:W2[a]?=some (.box (cx b) none):=by rw[H.2 a (by omega) B (λq=>by have:=p.row _ q;omega)];exact w0
  cases c
  ·obtain⟨F,o,f1,f2,f3,f4,f5⟩:=w.fin M t (dS:=lo);simp only[go_sem,simprocAttr,e1,w0,MB,v,m,↓l,K,f1];exact⟨s2,F,o,rfl,f2,.inr G,f3,f4,f5⟩
  ·simp(disch:=omega) only[go_sem,simprocAttr,Q,e1,P,e6,w0,MB,v,m,↓l,K];exact⟨u,s2,G,w,v0⟩
 ·obtain⟨F,o,f1,f2,f3,f4,f5⟩:=p.fin M t (dS:=lo);simp only[go_sem,simprocAttr,f1];exact⟨s1,F,o,rfl,f2,.inl (by rw[TW,show b.n=k by omega];exact O),f3,f4,f5⟩
def aix{N id ak:Nat}{H:List ae}{ty:TypeId}(e:N<=id)(c:H[id]?=some (.row ak sz ty af))(d:n=af.length)(a:b9 af<=N):Den.freeze ⟨H,lo⟩ N (k+4) (.ref id ak sz 0 n true)=some (.sl af true):=by
 subst d;have b: ¬(AV.ref id ak sz 0 af.length true).refs<=N:=by simp only[AV.refs];omega
 rw[Den.freeze,adU b];simp only[c];rw[adY ⟨trivial,trivial,by omega⟩];simp only[amA,afK];rw[OX af a]
def auc(H:List ae)(lo:oN):D X0 (.fn (.func 332) [] []) [.aq] ⟨H,lo⟩=some (.ret .aq ⟨H,lo⟩):=by
 refine aH FM λN b=>?_
 have a:gE 4 .aq none (some (.int .i64 0)) (some (.int .i64 0))=some .aq:=by rfl
 simp(disch:=omega) only[F1,go_sem,simprocAttr,FM,a]
def aud(id ak n:Nat)(H:List ae)(c:id<H.length)(lo:oN):D X0 (.fn (.func 332) [] []) [.ref id ak 4 0 n false] ⟨H,lo⟩=some (.ret (.ref id ak 4 0 n true) ⟨H,lo⟩):=by
 refine aH FM λN d=>?_
 have b:gE 4 (.ref id ak 4 0 n false) none (some (.int .i64 (n:Nat))) (some (.int .i64 (n:Nat)))=some (.ref id ak 4 0 n true):=by simp[gE,gC,mc,me]
 have a: ∀E,gl E .sl (.ref id ak 4 0 n false)=some (.int .i64 n):=λE=>rfl
 simp only[go_sem,simprocAttr,FM,b,a];rw[ju (.inl rfl) (by simp only[AV.refs];omega),aes (by omega)]
structure MSt where
 l:List kI
 row:oN
def mV(H:List ae)(N:Nat):YV MSt:=⟨λs W=>iQ N H W/\SV (N+1) 4 D4 W s.row (s.l.map eO),MSt.row,λi=>i<N+2,N+1⟩
def aue{H:List ae}{N:Nat}: (mV H N).Ok where
 st:=λs W f ⟨e,c⟩ a=>by
  refine⟨λi b=>?_,c.st (a _ (.inl (aw2 _))) λi b=>a i (.inr b)⟩;have:i<N+2:=by omega
  rw[a i (.inl this)];exact e i b
 lt:=λs W r ⟨_,c⟩ d=>c.row d
def auf(b:c8)(hb:jb b)(H:List ae)(lo:oN):
  ∃w,D X0 (.fn (.func 311) [] []) [.agg (cx b)] ⟨H,lo⟩=some (.ret w ⟨H,lo⟩)/\Rv w 4 ((gx b).map eO)/\w.refs=0:=by
 suffices hs: ∃A,D X0 (.fn (.func 311) [] []) [.agg (cx b)] ⟨H,lo⟩=some A/\ (λA=> ∃w,A=aU.ret w ⟨H,lo⟩/\Rv w 4 ((gx b).map eO)/\w.refs=0) A by
  obtain⟨A,h1,w,rfl,h2⟩:=hs;exact⟨w,h1,h2⟩
 refine cE RY λN l=>?_
 have he:=aua b (N+2) (H++[.box (cx b) none,.box [.aq] none]) (by simp[l]) none;have NA:=hb.n;simp only[go_sem,simprocAttr,RY,l,he,↓rL];obtain⟨W0,c⟩: ∃W0,W0=H++[ae.box (cx b) none,.box [.aq] none,.box (cx b) none]:=⟨_,rfl⟩;rw[<-c];have z:W0.length=N+3:=by rw[c];simp[l]
 generalize o: ((((((dq _).set 1 _).set 2 _).set 3 _).set 5 _).set 6 _)=e;have C:e 3= .ptr (N+1) 0:=by rw[<-o];rfl
 have Y: (ao.t 6).get e= .fn (.func 337) [] [.ptr (N+2) 0]:=by rw[<-o];rfl
 clear o;refine Pe (mV H N) aue (ya b) (N+2) [.box (cx b) none] W0 ⟨[],none⟩ (by rw[Y];rfl) (by rw[Y];exact aub b hb (N+2)) (λi a=>?_) (by simp[z]) (λi a=>?_) ⟨?_,?_⟩ rfl
  (λj s=>s.l=(gx b).take j) (λ_ _=>False) rfl (λ_ _ h=>h.elim) ?_ ?_ (λ_ _ _ _ h=>h.elim)
 ·have:i=0:=by simpa using a
  subst this;rw[c,afM,bE l];rfl
 ·have:i<N+2:=a;exact⟨by omega,by omega⟩
 ·rw[c];exact iQ.app l
 ·exact .inl ⟨rfl,rfl,by rw[c,bE l];rfl⟩
 ·intro j y s K T;have Z:j<b.n:=by
   have:=(adg.1 K).1;rwa[TW]at this
  have d:s.l=(gx b).take j:=T;have v: (gx b)[j]?=some (b.ring (mC b j)):=by unfold gx;rw[afU,apW Z];rfl
  rw[aiw Z]at K;cases K;generalize b.ring (mC b j)=m at*;refine⟨rfl,λW hP vL=>?_⟩;obtain⟨n,hn⟩: ∃n,W.length=n:=⟨_,rfl⟩;have hm:=pt m;simp only[go_sem,simprocAttr,hU,hn,hm];refine⟨[.box (eO m) none],rfl,λB Te S=>?_⟩;obtain⟨E,p⟩:=S;have r:B.length=n:=by omega
  have f: ∀i,s.row=some i->N+1<i/\i<n:=by
   intro i a;rcases p with⟨q,_⟩| ⟨id,ak,q,_,I,C,q4⟩
   ·rw[q]at a;cases a
   ·rw[q]at a;cases a;exact⟨I,by have:=ew q4;omega⟩
  have L:SV (N+1) 4 D4 (B++[.box (eO m) none]) s.row (s.l.map eO):=p.st (by rw[adf (by omega)]) λi a=>by
   rw[adf (by have:=f i a;omega)]
  have wY:s.l.length<=4:=by rw[d,afS];have: (gx b).length=b.n:=by simp[gx]
                            omega
  obtain⟨vv,v',W3,U,X,a1,a2,a3,a4,a5,a6,a7⟩:=L.append (bytes:=24) (el:=eO m) (by simp;omega) (by omega) rfl rfl (by rw[afB];unfold room;omega) none;have F: (B++[ae.box (eO m) none]).length=n+1:=by simp[r]
  have t: (B++[ae.box (eO m) none])[n]?=some (.box (eO m) none):=by rw[<-r];simp
  rw[hm]at a1 a2 t⊢;simp only[go_sem,simprocAttr,afu,C,a1,a2,a3,t,D2];refine⟨⟨s.l++[m],X⟩,⟨λi a=>?_,?_⟩,⟨by show B.length<=U.length;omega,λi a hp hr=>?_⟩,.inr ⟨N+1,afA _,by omega,rfl,?_⟩,?_⟩
  ·show U[i]?=_;rw[a6 i (by omega) (by omega) (λq=>by have:=f i q;omega),adf (by omega)];exact E i a
  ·show SV (N+1) 4 D4 U X ((s.l++[m]).map eO);rw[afI];exact a4
  ·have oE: ¬i<N+2:=hp;rw[a6 i (by omega) (by omega) hr,adf a]
  ·rcases a7 with q| ⟨q,J,I⟩
   ·exact .inl q
   ·exact .inr ⟨q,J,by omega⟩
  ·show s.l++[m]=(gx b).take (j+1);rw[d,afX,v];rfl
 ·intro V W' aj T hP hl R mn P;obtain⟨E,p⟩:=hP;have d:V.l=gx b:=by
   have:V.l=(gx b).take (ya b).length:=T;rw[this,TW];exact aes (by simp[gx])
  have g:eH N aj:=by
   rcases P with⟨rfl,_⟩| ⟨q,J,I,rfl⟩
   ·exact .inl rfl
   ·exact .inr ⟨q,by have:N+1<=q:=J;omega,rfl⟩
  rw[d]at p;have h0:b9 ((gx b).map eO)=0:=bB (λ_=>rfl) _;rcases p with⟨c1,c2,c3⟩| ⟨id,ak,c1,c2,c3,c4,G⟩
  ·simp only[go_sem,simprocAttr,C,c3,auc,R,nm];rw[ju g (aeu _)];refine⟨.aq,du rfl ((E.set (by omega)).take l),by rw[aqh.1 c2];exact .aq,rfl⟩
  ·have u:=aud id ak ((gx b).map eO).length W' (ew G);rw[afB]at u c4;have O:W0.length≠id:=by rintro rfl;rw[R]at G;cases G
   simp only[go_sem,simprocAttr,C,c4,u,R,nm];have M: (W'.set W0.length ae.dead)[id]?=some (.row ak 4 D4 ((gx b).map eO)):=by rw[adb O];exact G
   rw[vK g (v':=.sl ((gx b).map eO) true) λk=>by rw[show k+12=(k+8)+4 by omega];exact aix (by omega) M (by simp) (by rw[h0];omega)];exact⟨_,du rfl ((E.set (by omega)).take l),.sl (by intro el Q;obtain⟨x,_,rfl⟩:=afH.1 Q;rfl),h0⟩
theorem aug:cx z8=[.int .u8 0,.int .u64 0,.int .u32 0,.bool false,.int .u8 0,.int .u64 0,.int .u32 0,.bool false,.int .u8 0,.int .u64 0,.int .u32 0,.bool false,.int .u8 0,.int .u64 0,.int .u32 0,.bool false,.int .i64 0,.int .i64 0,.bool true]:=rfl
def auh(b:c8)(d:jb b)(H:List ae)(lo:oN):
  ∃w,D X0 (.fn (.func 276) [] []) [.agg (cx b)] ⟨H,lo⟩=some (.ret (.aw [.agg (cx z8),w]) ⟨H,lo⟩)/\Rv w 4 ((gx b).map eO)/\w.refs=0:=by
 obtain⟨w,e1,e,e3⟩:=auf b d (H++[.box (cx b) none,.box zB none]) none;refine⟨w,?_,e,e3⟩;refine aH RF λM a=>?_
 have c:zB=[.int .u8 0,.int .u64 0,.int .u32 0,.bool false,.int .u8 0,.int .u64 0,.int .u32 0,.bool false,.int .u8 0,.int .u64 0,.int .u32 0,.bool false,.int .u8 0,.int .u64 0,.int .u32 0,.bool false,.int .i64 0,.int .i64 0,.bool false]:=rfl;rw[c]at e1;simp only[go_sem,simprocAttr,RF,a,↓rL,e1];rw[sb (by simp[AV.refs,aK,e3]),m5 a,aug]
def yc:pZ:=λg=>if g=308 then some xH else if g=115 then some xE else none
noncomputable def CH:lA->AS->Option aU:=xc X (D X) Lw yc 307 rI
noncomputable def CI:lA->AS->Option aU:=xc X (D X) Lw yc 275 xG
noncomputable def XA:Ctx:={X with bW:=λf=>if f=307 then some CH else if f=275 then some CI else X.bW f}
theorem DP:Ext X XA where
 dR:=rfl
 fZ:=rfl
 code:=rfl
 bW:=λf=>by
  by_cases b:f=307
  ·subst b;exact .inr ⟨rfl,rfl⟩
  ·by_cases a:f=275
   ·subst a;exact .inr ⟨rfl,rfl⟩
   ·left;show(if f=307 then some CH else if f=275 then some CI else X.bW f)=X.bW f
    grind
def CJ(e:Int)(H:List ae)(lo:oN):D X (.fn (.func 310) [] []) [.bool true,.int .i64 e] ⟨H,lo⟩=some (.ret (.aw []) ⟨H,lo⟩):=by
 refine aH FK λN a=>?_
 simp(disch:=omega) only[F1,go_sem,simprocAttr,FK]
def CK(e:Nat)(H:List ae)(lo:oN):D X (.fn (.func 310) [] []) [.bool false,.int .i64 e] ⟨H,lo⟩=some (.panic (jv e) ⟨H,lo⟩):=by
 refine aH FK λN a=>?_
 simp(disch:=omega) only[F1,go_sem,simprocAttr,FK,EP]
theorem aiz:dy .dt .eX .eX=some true:=rfl
theorem aiA{t:TypeId}:dy .dt (.dt t v) .eX=some false:=rfl
theorem aiB{z:AV}{t:TypeId}:AM z (.dt t v) t true=some (.aw [v,.bool true]):=adY rfl
def LW{K:AS->Prop}{H:List ae}(h:K ⟨H,lo⟩):rn X yc (cf 308|>.get λ_=>.aq) [.ptr p 0] .eX ⟨H,lo⟩ K:=by
 refine Iu (pr:=xH) rfl rfl λn a=>?_
 simp(disch:=omega) only[F1,go_sem,simprocAttr,xH,aiz];exact⟨.inl trivial,.aw [],rfl,by trivial⟩
def wx{K:AS->Prop}{H:List ae}{v0:AV}(e:Nat)(a:H[p]?=some (.box [v0] none))(h:K ⟨H.set p (.box [.int .i64 e] none),lo⟩):rn X yc (cf 308|>.get λ_=>.aq) [.ptr p 0] (jv e) ⟨H,lo⟩ K:=by
 refine Iu (pr:=xH) rfl rfl λn b=>?_
 simp only[F1,go_sem,simprocAttr,xH,aiA,a,aiB];refine⟨.inl trivial,.aw [],rfl,?_⟩;rw[adY (show(AV.aw []).refs<=n from aeu _),aes (by grind)];exact h
def aiC(t:av)(d:bP t)(r:Nat)(e:r<4294967296)(i:t.az r=true)(c:Nat)(j:c<8)(H:List ae)(lo:oN):
  D X (.fn (.func 309) [] []) [.agg (aN t),.int .u32 r,.int .i64 c] ⟨H,lo⟩=some (.ret (.agg (bM (aG t r).1)) ⟨H,lo⟩):=by
 refine aH zS λN f=>?_
 have a:=λH lo=>up dD (r6 t d r e H lo)
 have b: (aG t r).2=0:=by unfold aG;grind
 have h: (c:Int)>=0:=by omega
 have g: (c:Int)<8:=by omega
 simp only[F1,go_sem,simprocAttr,zS,f,a,lV,b,jt,CJ,h,g]
def aiD(t:av)(d:bP t)(r:Nat)(e:r<4294967296)(j:t.az r=true)(c:Nat)(k:8<=c)(H:List ae)(lo:oN):
  D X (.fn (.func 309) [] []) [.agg (aN t),.int .u32 r,.int .i64 c] ⟨H,lo⟩=some (.panic (jv 2) ⟨H,lo⟩):=by
 refine aH zS λN g=>?_
 have a:=λH lo=>up dD (r6 t d r e H lo)
 have b: (aG t r).2=0:=by unfold aG;grind
 have i: (c:Int)>=0:=by omega
 have h: ¬(c:Int)<8:=by omega
 have f: ∀H lo,D X (.fn (.func 310) [] []) [.bool false,.int .i64 2] ⟨H,lo⟩=_:=CK 2;simp only[F1,go_sem,simprocAttr,zS,g,a,lV,b,jt,CJ,f,i,h,EP]
def aui(t:av)(d:bP t)(r:Nat)(e:r<4294967296)(h:t.az r=false)(c:Nat)(H:List ae)(lo:oN):
  D X (.fn (.func 309) [] []) [.agg (aN t),.int .u32 r,.int .i64 c] ⟨H,lo⟩=some (.panic (jv 4) ⟨H,lo⟩):=by
 refine aH zS λN g=>?_
 have a:=λH lo=>up dD (r6 t d r e H lo)
 have b: (aG t r).2=4:=by unfold aG;grind
 have f: ∀H lo,D X (.fn (.func 310) [] []) [.bool false,.int .i64 4] ⟨H,lo⟩=_:=CK 4;simp only[F1,go_sem,simprocAttr,zS,g,a,lV,b,jt,f,EP]
def uW(t:av)(r a to:Nat)(b:Bool):Nat:=
 if t.az r=false\/ (to≠0/\t.az to=false)then 4 else if 8<=a then 2 else if to≠0/\b=false/\kN t to r=false then 5
 else(eu t r {(aG t r).1 with cells:=ar (aG t r).1.cells a to}).2
def auj{r:cP}{v:Nat}(h:i<8):aM (bM r) (4+i) [.int .u32 (v:Nat)]=bM {r with cells:=ar r.cells i v}:=agh h
def auk(t:av)(A:bP t)(U:cu t)(r a to:Nat)(b:Bool)(E:r<4294967296)(s:to<4294967296)(T:a<4294967296)(H:List ae)(lo:oN):
  ∃cs,CH [.agg (aN t),.int .u32 r,.int .i64 a,.int .u32 to,.bool b] ⟨H,lo⟩=some (.ret (.aw [.agg cs,.int .i64 (uW t r a to b)]) ⟨H,lo⟩)/\cs.length=480/\aK cs=0/\
   (uW t r a to b=0->cs=aN (eu t r {(aG t r).1 with cells:=ar (aG t r).1.cells a to}).1):=by
 suffices R: ∃I,CH [.agg (aN t),.int .u32 r,.int .i64 a,.int .u32 to,.bool b] ⟨H,lo⟩=some I/\ (λI=> ∃cs,I=aU.ret (.aw [.agg cs,.int .i64 (uW t r a to b)]) ⟨H,lo⟩/\cs.length=480/\aK cs=0/\
   (uW t r a to b=0->cs=aN (eu t r {(aG t r).1 with cells:=ar (aG t r).1.cells a to}).1)) I by
  obtain⟨I,p,cs,rfl,V⟩:=R;exact⟨cs,p,V⟩
 refine O5 rI rfl rfl λN j=>?_
 have c:=λH lo=>up dD (eU t.b r E H lo)
 have d:=λH lo=>up dD (eU t.b to s H lo)
 have L: ∀h,az t.b h=t.az h:=λh=>rfl
 simp only[L]at c d;have m:=λH lo=>up dD (TA t A U to r s E H lo)
 have F: ∀H lo,D X (.fn (.func 310) [] []) [.bool false,.int .i64 4] ⟨H,lo⟩=_:=CK 4;have O: ∀H lo,D X (.fn (.func 310) [] []) [.bool false,.int .i64 5] ⟨H,lo⟩=_:=CK 5;have z:aK lE=0:=by decide
 have f:uW t r a to b=if t.az r=false\/ (to≠0/\t.az to=false)then 4 else if 8<=a then 2 else if to≠0/\b=false/\kN t to r=false then 5
  else(eu t r {(aG t r).1 with cells:=ar (aG t r).1.cells a to}).2:=rfl
 cases y:t.az r with
 |false=>
  rw[y]at c;rw[adY (.inl y)]at f;simp(disch:=omega) only[go_sem,simprocAttr,rI,j,ku,kr,c,F];refine⟨rfl,?_⟩;rw[oK];refine wx 4 (v0:=.int .i64 0) (by rw[bE j];rfl) ?_;simp(disch:=omega) only[F1,go_sem,simprocAttr,c9];rw[f];exact⟨_,rfl,Cu,z,λh=>by cases h⟩
 |true=>
  rw[y]at c;have K:to=0\/ (¬(to:Int)=0/\t.az to=true)\/ (¬(to:Int)=0/\t.az to=false):=by
   by_cases n:to=0
   ·exact .inl n
   ·cases W:t.az to
    ·exact .inr (.inr ⟨by omega,rfl⟩)
    ·exact .inr (.inl ⟨by omega,rfl⟩)
  by_cases J:to≠0/\t.az to=false
  ·rw[adY (.inr J)]at f;rw[J.2]at d;have n: ¬(to:Int)=0:=by omega
   simp(disch:=omega) only[go_sem,simprocAttr,rI,j,ku,kr,c,n,d,F];refine⟨rfl,?_⟩;rw[oK];refine wx 4 (v0:=.int .i64 0) (by rw[bE j];rfl) ?_;simp(disch:=omega) only[F1,go_sem,simprocAttr,c9];rw[f];exact⟨_,rfl,Cu,z,λh=>by cases h⟩
  ·rw[adU (by rw[y];simpa using J)]at f;have p: ∀H lo,D X (.fn (.func 310) [] []) [.bool true,.int .i64 4] ⟨H,lo⟩=_:=CJ 4;have o:to=0\/ (¬(to:Int)=0/\t.az to=true):=by
    rcases K with h|h|h
    ·exact .inl h
    ·exact .inr h
    ·exact absurd ⟨by omega,h.2⟩ J
   by_cases P:8<=a
   ·rw[adY P]at f;have g:=aiD t A r E y a P;rcases o with rfl| ⟨n,M⟩
    ·simp(disch:=omega) only[go_sem,simprocAttr,rI,j,ku,kr,c,p,g];refine⟨rfl,?_⟩;rw[oK];refine wx 2 (v0:=.int .i64 0) (by rw[bE j];rfl) ?_;simp(disch:=omega) only[F1,go_sem,simprocAttr,c9];rw[f];exact⟨_,rfl,Cu,z,λh=>by cases h⟩
    ·rw[M]at d;simp(disch:=omega) only[go_sem,simprocAttr,rI,j,ku,kr,c,n,d,p,g];refine⟨rfl,?_⟩;rw[oK];refine wx 2 (v0:=.int .i64 0) (by rw[bE j];rfl) ?_;simp(disch:=omega) only[F1,go_sem,simprocAttr,c9];rw[f];exact⟨_,rfl,Cu,z,λh=>by cases h⟩
   ·rw[adU P]at f;have G:a<8:=by omega
    have l: (a:Int)<8:=by omega
    have g:=aiC t A r E y a G;have Q: ∀H lo,D X (.fn (.func 310) [] []) [.bool true,.int .i64 5] ⟨H,lo⟩=_:=CJ 5;have C:=A.get r;generalize S: (aG t r).1=x at*;have q:gh {x with cells:=ar x.cells a to}:=gh.setCells C λi=>by
     by_cases e:i=a
     ·rw[e,cF];exact s
     ·rw[da e];exact C.cells i
    have k:=λH lo=>up dD (TB t A r E {x with cells:=ar x.cells a to} q.rb.1 (by have:=q.rb.2;show x.runs.length<=65;exact ahk this (by omega)) (by have:=q.len;show x.len<4294967296;have:x.len<=2048:=this;omega) H lo)
    have u:=auj (r:=x) (v:=to) G;have w:4+a<=11:=by omega
    rcases o with rfl| ⟨n,M⟩
    ·rw[adU (by simp)]at f;have B:aM (bM x) (4+a) [.int .u32 0]=bM {x with cells:=ar x.cells a 0}:=u;simp(disch:=omega) only[go_sem,simprocAttr,rI,j,ku,kr,c,p,g,jt,Q,l,B,w,k,uS,c9];refine⟨rfl,?_⟩;rw[DY];refine LW ?_;simp(disch:=omega) only[F1,go_sem,simprocAttr];rw[f];exact⟨_,rfl,iA _,xM _,λ_=>rfl⟩
    ·rw[M]at d;cases b with
     |true=>
      rw[adU (by simp)]at f;simp(disch:=omega) only[go_sem,simprocAttr,rI,j,ku,kr,c,n,d,p,g,jt,Q,l,u,w,k,uS,c9];refine⟨rfl,?_⟩;rw[DY];refine LW ?_;simp(disch:=omega) only[F1,go_sem,simprocAttr];rw[f];exact⟨_,rfl,iA _,xM _,λ_=>rfl⟩
     |false=>
      cases ho:kN t to r with
      |true=>
       rw[ho]at m f;rw[adU (by simp)]at f;simp(disch:=omega) only[go_sem,simprocAttr,rI,j,ku,kr,c,n,d,p,g,jt,Q,m,l,u,w,k,uS,c9];refine⟨rfl,?_⟩;rw[DY];refine LW ?_;simp(disch:=omega) only[F1,go_sem,simprocAttr];rw[f];exact⟨_,rfl,iA _,xM _,λ_=>rfl⟩
      |false=>
       rw[ho]at m f;rw[adY ⟨by omega,rfl,rfl⟩]at f;simp(disch:=omega) only[go_sem,simprocAttr,rI,j,ku,kr,c,n,d,p,g,jt,O,m];refine⟨rfl,?_⟩;rw[oK];refine wx 5 (v0:=.int .i64 0) (by rw[bE j];rfl) ?_;simp(disch:=omega) only[F1,go_sem,simprocAttr,c9];rw[f];exact⟨_,rfl,Cu,z,λh=>by cases h⟩
def Gj{X:Ctx}{e:Env}{E:AS}{R:aU->Prop}{b:Nat}{c:Bool}:dW X n lo [.t a,.cell b c k] R .ret ⟨e,[]⟩ E=okV (cm X E c k (e b)) (λu E=>oJ n lo R (.aw [e a,u]) E) E:=by
 simp only[zh,zj,fQ,kp,pQ];cases h:cm X E c k (e b)with
 |none=>simp[okV,h]
 |some v=>simp[okV,oJ,h]
def aul(t:av)(s:bP t)(r a:Nat)(v:r<4294967296)(F:a<4294967296)(H:List ae)(lo:oN):
  CI [.agg (aN t),.int .u32 r,.int .i64 a] ⟨H,lo⟩=some (.ret (.aw [.int .u32 (uz t r a).1,.int .i64 (uz t r a).2]) ⟨H,lo⟩):=by
 suffices G: ∃E,CI [.agg (aN t),.int .u32 r,.int .i64 a] ⟨H,lo⟩=some E/\E=aU.ret (.aw [.int .u32 (uz t r a).1,.int .i64 (uz t r a).2]) ⟨H,lo⟩ by grind
 refine O5 xG rfl rfl λN g=>?_
 have c:uz t r a=if t.az r=false then(0,4)else if 8<=a then(0,2)else if(aG t r).1.cells a=0 then(0,10)else if t.az ((aG t r).1.cells a)=false then(0,4)else((aG t r).1.cells a,0):=rfl
 cases q:t.az r with
 |false=>
  rw[adY q]at c;have b:=aui t s r v q a;simp only[go_sem,simprocAttr,xG,g,ku,kr,b];refine⟨rfl,?_⟩;rw[oK];refine wx 4 (v0:=.int .i64 0) (by rw[bE g];rfl) ?_;simp(disch:=omega) only[F1,go_sem,simprocAttr,c,Gj]
 |true=>
  rw[adU (by rw[q];simp)]at c;by_cases z:8<=a
  ·rw[adY z]at c;have b:=aiD t s r v q a z;simp only[go_sem,simprocAttr,xG,g,ku,kr,b];refine⟨rfl,?_⟩;rw[oK];refine wx 2 (v0:=.int .i64 0) (by rw[bE g];rfl) ?_;simp(disch:=omega) only[F1,go_sem,simprocAttr,c,Gj]
  ·rw[adU z]at c;have l:a<8:=by omega
   have B: (a:Int)<8:=by omega
   have b:=aiC t s r v q a l;have u:=s.get r;generalize(aG t r).1=x at*;have hw:=u.cells a;have d:qV false 8 1 (.agg (arr 8 λi=>[AV.int .u32 (x.cells i)])) (.int .i64 a)=some (.int .u32 (x.cells a)):=
    Sv l (by have:=kH (ag:=false) (m:=1) (n:=8) (k:=1) (i:=a) (o:=0) (f:=λi=>[AV.int .u32 (x.cells i)]) (λ_=>rfl) l (by omega) (by omega);rw[afM]at this;rw[this];rfl)
   have p: ∀H lo,D X (.fn (.func 310) [] []) [.bool false,.int .i64 10] ⟨H,lo⟩=_:=CK 10;have y: ∀H lo,D X (.fn (.func 310) [] []) [.bool false,.int .i64 4] ⟨H,lo⟩=_:=CK 4;have e:=λH lo=>up dD (eU t.b (x.cells a) hw H lo)
   have w: ∀h,az t.b h=t.az h:=λh=>rfl
   simp only[w]at e;by_cases A:x.cells a=0
   ·rw[adY A]at c;have j:decide ((x.cells a:Int)=0)=true:=by simp[A]
    simp only[go_sem,simprocAttr,xG,g,ku,kr,b,↓Ld,d,j,p];refine⟨rfl,?_⟩;rw[oK];refine wx 10 (v0:=.int .i64 0) (by rw[bE g];rfl) ?_;simp(disch:=omega) only[F1,go_sem,simprocAttr,c,Gj]
   ·rw[adU A]at c;have j:decide ((x.cells a:Int)=0)=false:=by simp;omega
    cases C:t.az (x.cells a)with
    |false=>
     rw[C]at e c;rw[adY rfl]at c;simp only[go_sem,simprocAttr,xG,g,ku,kr,b,↓Ld,d,j,e,CJ,y];refine⟨rfl,?_⟩;rw[oK];refine wx 4 (v0:=.int .i64 0) (by rw[bE g];rfl) ?_;simp(disch:=omega) only[F1,go_sem,simprocAttr,c,Gj]
    |true=>
     rw[C]at e c;rw[adU (by simp)]at c;simp only[go_sem,simprocAttr,xG,g,ku,kr,b,↓Ld,d,j,e,CJ];refine⟨rfl,?_⟩;rw[DY];refine LW ?_;simp(disch:=omega) only[F1,go_sem,simprocAttr,c,Gj]
theorem aum{args:lA}{E:AS}{a:AS}(h:CH args E=some (.ret v a)):D XA (.fn (.func 307) [] []) args E=some (.ret v a):=DX rfl h
def aiE(t:av)(r a to:Nat)(b:Bool):mE t r a to b=if uW t r a to b=0 then((eu t r {(aG t r).1 with cells:=ar (aG t r).1.cells a to}).1,0)else(t,uW t r a to b):=by
 unfold mE uW
 grind
def aun(t:av)(l:bP t)(p:cu t)(r a to:Nat)(b:Bool)(m:r<4294967296)(e:to<4294967296)(i:a<4294967296)(H:List ae)(lo:oN):
  D XA (.fn (.func 274) [] []) [.agg (aN t),.int .u32 r,.int .i64 a,.int .u32 to,.bool b] ⟨H,lo⟩=some (.ret (.aw [.agg (aN (mE t r a to b).1),.int .i64 (mE t r a to b).2]) ⟨H,lo⟩):=by
 refine aH KU λN k=>?_
 obtain⟨cs,q,n,f,o⟩:=auk t l p r a to b m e i (H++[.box (aN t) none,.box lE none]) none;have g:=aum q;have d:=aiE t r a to b;by_cases c:uW t r a to b=0
 ·rw[adY c]at d;have h:=o c;subst h;rw[c]at g;simp only[F1,go_sem,simprocAttr,KU,k,g,c9,d]
 ·rw[adU c]at d;have j:decide ((uW t r a to b:Int)=0)=false:=by simp;omega
  simp only[F1,go_sem,simprocAttr,KU,k,g,j,n,f,c9,d]
def aiF{t':av}(a:cu t)(h: ∀x,bI t' x=bI t x\/bI t' x=0):cu t':=by
 have key: ∀n x,(eP t' n x).length<=(aT t x).length:=by
  intro n
  induction n with
  |zero=>simp[eP]
  |succ n b=>
   intro x;simp only[eP];by_cases hu:bI t' x=0
   ·grind
   ·rw[adU hu];have e:bI t' x=bI t x:=(h x).resolve_right hu;rw[e]at hu⊢;rw[uy a,adU hu,afL,afL]
    grind
 intro x;have:=key 32 x;have:=a x;unfold aT at*;omega
theorem aiG(t:av): ∀n x,(eP t n x).length<=(eP t (n+1) x).length
 |0,_=>by simp[eP]
 |n+1,x=>by
  rw[eP,eP];by_cases hu:bI t x=0
  ·grind
  ·rw[adU hu,adU hu,afL,afL];exact Nat.succ_le_succ (aiG t n _)
def oo(b:cO)(h:Nat):Prop:= ∀i,fb h=some i->h/256< (b i).gen\/ (h/256=(b i).gen/\nT b i=false)
def CM(b:cO):oo b 0:=λi e=>by trivial
def TX{h:Nat}(a:az b h=true):oo b h:=by
 intro i e;unfold az at a;rw[e]at a;have:=axU a
 right;rw[this];exact⟨rfl,by unfold nT;grind⟩
def LX{h:Nat}(ho:oo b h):oo (ar b i {b i with dc:=true}) h:=by
 intro j e;by_cases q:j=i
 ·subst q;rcases ho j e with a| ⟨a,c⟩
  ·left;rw[cF];exact a
  ·unfold nT;rw[cF];grind
 ·unfold nT at*;rw[da q];exact ho j e
def aiH{h y:Nat}(ho:oo b h):oo (dN b y).1 h:=by
 unfold dN;split
 ·show oo (ar b (aL y) _) h;intro j e;by_cases q:j=aL y
  ·subst q;unfold nT;rw[cF];unfold oX;have a:=ho _ e
   grind
  ·unfold nT at*;rw[da q];exact ho j e
 omega
def TY{h:Nat}(a:nU b=some i)(d:fC b):az (ar b i {b i with dc:=true}) h=true↔az b h=true\/h=dh i (b i).gen:=by
 obtain⟨i1,i2,i3,_⟩:=rP a;have c:az (ar b i {b i with dc:=true}) (dh i (b i).gen)=true:=by grind [Lh,SU,cF]
 constructor
 ·grind [lS,cF,SR,da]
 ·grind [lS,da]
theorem TZ{y h:Nat}(c:az (dN b y).1 h=true):az b h=true:=by
 unfold dN at c;split at c
 ·obtain⟨j,e,a⟩:=lS.1 c;have a:ar b (aL y) (oX (b (aL y))) j=_:=a;by_cases q:j=aL y
  ·subst q;rw[cF]at a;unfold oX at a
   grind
  ·grind [da,lS]
 omega
def Gk(a:nU b=some i)(c:fC b):az b (dh i (b i).gen)=false:=by grind [Lh,rP]
def aiI(c:nU b=some i)(d:fC b): ¬oo b (dh i (b i).gen):=by
 obtain⟨i1,i2,i3,_⟩:=rP c;intro h;have f:az (ar b i {b i with dc:=true}) (dh i (b i).gen)=true:=(TY c d).2 (.inr rfl);obtain⟨j,e,a⟩:=lS.1 f;have q:j=i:=anF λq=>by
  rw[da q]at a;have:=Gk c d;rw[lS.2 ⟨j,e,a⟩]at this;grind
 subst q;rw[cF]at a;injection a with l
 rcases h j e with k| ⟨_,g⟩
 ·omega
 ·unfold nT at g;grind
def auo(t:av):Prop:= ∀i,oo t.b (t.r i).up
structure eV(t:av):Prop where
 ok:bP t
 tr:cu t
 up:auo t
def eV.same{t':av}(h:eV t)(a:ja t t')(b:bP t'):eV t':=⟨b,a.tree h.tr,λi=>by rw[a.1,a.2];exact h.up i⟩
theorem eV.set(h:eV t){r:cP}(b:gh r):eV (eu t a r).1:=h.same (.set t a r) (h.ok.set b)
theorem eV.drop(h:eV t)(y:Nat):eV (gv t y).1:=by
 refine⟨h.ok.drop y,aiF h.tr λx=>?_,λi=>?_⟩
 ·unfold gv;split
  ·have a: ∀x,az (dN t.b y).1 x=true->t.az x=true:=λx=>TZ
   unfold bI;by_cases q:av.az {b:=(dN t.b y).1,r:=ar t.r (aL y) df} x=true
   ·rw[adY q,adY (a x q)];unfold kJ;by_cases e:aL x=aL y
    ·right
     show(if _ then(ar t.r (aL y) df (aL x)).up else 0)=0;rw[e,cF];split<;>rfl
    ·show(if av.az _ (ar t.r (aL y) df (aL x)).up=true then(ar t.r (aL y) df (aL x)).up else 0)=_\/ (if av.az _ (ar t.r (aL y) df (aL x)).up=true then(ar t.r (aL y) df (aL x)).up else 0)=0;rw[da e];by_cases c:av.az {b:=(dN t.b y).1,r:=ar t.r (aL y) df} (t.r (aL x)).up=true
     ·rw[adY c,adY (a _ c)];omega
     grind
   grind
  grind
 ·unfold gv;split
  ·show oo (dN t.b y).1 (ar t.r (aL y) df i).up;by_cases e:i=aL y
   ·rw[e,cF];exact CM _
   ·rw[da e];exact aiH (h.up i)
  ·exact h.up i
theorem eV.iZ{t:av}(h:eV t): ∀l,eV (iZ t l)
 | []=>h
 |x::xs=>eV.iZ (h.drop x) xs
def eV.aup(h:eV t)(a:Nat):eV (j6 t a).1:=by
 unfold j6;split
 ·exact h
 ·exact h.iZ _
def eV.auq(h:eV t)(a:Nat):eV (kM t a 0).1:=by
 refine⟨h.ok.raise (by omega),aiF h.tr λx=>?_,λi=>?_⟩
 ·unfold kM;split
  ·simp
  ·split
   ·simp
   ·unfold bI;have b: ∀r z,av.az {t with r:=r} z=t.az z:=λ_ _=>rfl
    simp only[b];split
    ·unfold kJ;simp only[b];by_cases e:aL x=aL a
     ·rw[e,cF];grind
     ·rw[da e];omega
    omega
 ·unfold kM;split
  ·exact h.up i
  ·split
   ·omega
   ·show oo t.b (ar t.r (aL a) {t.r (aL a)with up:=0} i).up;by_cases e:i=aL a
    ·rw[e,cF];exact CM _
    ·rw[da e];exact h.up i
def eV.cut(h:eV t)(a:Nat):eV (iT t a).1:=by
 rw[TG];split
 ·exact h
 ·exact(h.same (TF t a _ t) (TE h.ok a _)).auq a
def eV.new(h:eV t)(up n:Nat)(I:up<4294967296):eV (gN t up n).1:=by
 unfold gN;dsimp only;split
 ·exact h
 ·rename_i g;unfold kK at g⊢;split
  ·exact h
  ·rename_i M;rw[adU M]at g;split
   ·exact h
   ·rename_i L;rw[adU L]at g;split
    ·rename_i i f;rw[f]at g;have g: ¬6<=depth t up:=λq=>g ⟨.inl rfl,q⟩
     obtain⟨i1,i2,i3,_⟩:=rP f;have p:=h.ok.b;have d:up=0\/t.az up=true:=by grind
     have a: ∀z,av.az {b:=ar t.b i {t.b i with dc:=true},r:=ar t.r i {df with up:=up,di:=n}} z=true↔t.az z=true\/z=dh i (t.b i).gen:=λz=>TY f p
     have C: ∀z,t.az z=true->aL z≠i:=by
      intro z o q;obtain⟨_,s,_⟩:=z5 o;rw[q]at s;rw[s]at i2;cases i2
     generalize l: ({b:=ar t.b i {t.b i with dc:=true},r:=ar t.r i {df with up:=up,di:=n}}:av)=t' at*;have m: ∀j,(t'.r j).up=if j=i then up else(t.r j).up:=by
      intro j;rw[<-l];show(ar t.r i _ j).up=_;by_cases e:j=i
      ·rw[e,cF,adY rfl]
      ·rw[da e,adU e]
     have v:t'.b=ar t.b i {t.b i with dc:=true}:=by rw[<-l]
     have B:aL (dh i (t.b i).gen)=i:=by
      have:t'.az (dh i (t.b i).gen)=true:=(a _).2 (.inr rfl);have u:=this;unfold av.az at u;obtain⟨j,e,F⟩:=lS.1 u;rw[Cl e];refine anF λq=>?_
      rw[v,da q]at F;have:=Gk f p;rw[lS.2 ⟨j,e,F⟩]at this;cases this
     have hold: ∀z,oo t.b z->(t'.az z=true↔t.az z=true):=λz o=>⟨λq=>by
      rcases(a z).1 q with q|q
      ·exact q
      ·rw[q]at o;exact absurd o (aiI f p),λq=>(a z).2 (.inl q)⟩
     have A: ∀x,x≠dh i (t.b i).gen->bI t' x=bI t x:=by
      intro x A;have e1: (t'.az x=true)=(t.az x=true):=propext ⟨λq=>((a x).1 q).resolve_right A,λq=>(a x).2 (.inl q)⟩;unfold bI;simp only[e1];split
      ·rename_i E;unfold kJ;rw[m,adU (C x E)];simp only[propext (hold _ (h.up (aL x)))]
      ·rfl
     have J:bI t' (dh i (t.b i).gen)=up:=by
      unfold bI;rw[adY ((a _).2 (.inr rfl))];unfold kJ;rw[m,adY B];rcases d with q|q
      ·rw[q];split<;>rfl
      ·rw[adY ((a _).2 (.inl q))]
     have D: ∀x,bI t x≠dh i (t.b i).gen:=by
      intro x q;have o:bI t x≠0:=by rw[q];unfold dh;omega
      have:=(FX o).1;rw[q]at this;have c:=Gk f p;unfold av.az at this;rw[this]at c;cases c
     have w: ∀k x,x≠dh i (t.b i).gen->eP t' k x=eP t k x:=by
      intro k
      induction k with
      |zero=>intro x _;rfl
      |succ k H=>
       intro x y;simp only[eP,A x y];rw[H _ (D x)]
     refine⟨?_,?_,?_⟩
     ·rw[<-l];refine⟨SU p f,λj=>?_⟩;show gh (ar t.r i _ j);by_cases e:j=i
      ·rw[e,cF];exact⟨I,by show n<=64;omega,Cz.len,Cz.cells,Cz.runs,Cz.aI⟩
      ·rw[da e];exact h.ok.r j
     ·intro x;by_cases e:x=dh i (t.b i).gen
      ·rw[e];unfold aT;rw[show(32:Nat)=31+1 from rfl,eP,J];by_cases q:up=0
       ·rw[adY q];simp
       ·rw[adU q,w 31 up (λG=>by
          have:=d.resolve_left q;rw[G]at this;have c:=Gk f p;unfold av.az at this;rw[this]at c;cases c)]
        have E:=d.resolve_left q;unfold depth at g;rw[adY E]at g;have K:=h.tr up;have:eP t 31 up=aT t up:=(SW 31 up (by
         have: (eP t 31 up).length<=(eP t 32 up).length:=aiG t 31 up;unfold aT at K;omega) 32 (by omega)).symm
        rw[this,afL];omega
      ·unfold aT;rw[w 32 x e];exact h.tr x
     ·intro j;rw[m,v];by_cases e:j=i
      ·rw[adY e];rcases d with q|q
       ·rw[q];exact CM _
       ·exact LX (TX q)
      ·rw[adU e];exact LX (h.up j)
    omega
theorem CN(b:cu t){x:Nat}(a:bI t x≠0):aT t x=bI t x::aT t (bI t x):=by rw[uy b,adU a]
def LY(c:cu t){h:Nat}: ∀ (n x:Nat),dep t x<=n->h∈aT t x->dep t h<dep t x:=by
 intro n
 induction n with
 |zero=>intro x b a;unfold dep at b;grind
 |succ n d=>
  intro x b a;by_cases hu:bI t x=0
  ·rw[uy c,adY hu]at a;cases a
  ·grind [Cm,CN]
def aur(d:cu t){h:Nat}: ∀ (n x:Nat),dep t x<=n->h∈aT t x-> ∃c,bI t c=h/\h≠0/\t.az c=true/\ (c=x\/c∈aT t x):=by
 intro n
 induction n with
 |zero=>intro x b a;unfold dep at b;grind
 |succ n e=>
  intro x b a;by_cases hu:bI t x=0
  ·rw[uy d,adY hu]at a;cases a
  ·grind [Cm,CN,FX]
def aiJ(a:cu t)(x:Nat):x∈dO t x:=by rw[SZ a];grind
def aus(i:fC t.b)(a:cu t){x:Nat}: ∀ (n h:Nat),dep t x-dep t h<=n->h∈aT t x->x∈dO t h:=by
 intro n
 induction n with
 |zero=>intro h f b;have:=LY a _ x (afA _) b;omega
 |succ n k=>
  intro h f b;obtain⟨c,l,c0,j,e⟩:=aur a _ x (afA _) b;have d:c∈kids t h:=by
   have g:t.az h=true:=by grind [FX]
   unfold kids;rw[adY g];exact afY.2 ⟨(iE i).2 j,by grind⟩
  rw[SZ a];refine afO _ (apS.2 ⟨c,d,?_⟩);rcases e with rfl|e
  ·exact aiJ a c
  ·have:=Cn a d
   grind
theorem aiK{α:Type}{f:α->Nat}: ∀ (l:List α) (s:Nat),s<=l.foldl (λn x=>max n (f x)) s/\ ∀x∈l,f x<=l.foldl (λn x=>max n (f x)) s
 | [],s=>⟨afA _,by simp⟩
 |a::l,s=>by
  have h:=aiK (f:=f) l (max s (f a))
  grind
theorem LZ{x y:Nat}(c:az b x=true)(a:az b y=true)(e:aL x=aL y):x=y:=by
 obtain⟨_,h,g⟩:=z5 c;obtain⟨_,f,d⟩:=z5 a
 grind
def eV.aut(h:eV t)(a w:Nat)(I:w<4294967296):eV (rN t a w).1:=by
 unfold rN;split
 ·exact h
 ·rename_i M;split
  ·exact h
  ·rename_i F;split
   ·exact h
   ·rename_i L;have c:t.az a=true:=by grind
    have g:t.az w=true:=by grind
    have d:root t a=a:=anF λq=>F (.inl q)
    have A: ¬kN t a w=true:=λq=>F (.inr q)
    have s:a≠w/\a∉aT t w:=by
     unfold kN at A
     grind
    have C:aT t a=[]:=by
     unfold root at d;rw[adY c]at d;cases e:aT t a with
     |nil=>rfl
     |cons b bs=>
      exfalso;have hm:a∈aT t a:=by
       have p:aT t a≠[]:=by rw[e];simp
       rw[List.getLastD_eq_getLast?,List.getLast?_eq_getLast p,ak0]at d;have:=List.getLast_mem p;rw[d]at this;exact this
      have:=LY h.tr _ a (afA _) hm;omega
    unfold kM;split
    ·exact h
    ·split
     ·exact h
     ·have B: ∀z,av.az {t with r:=ar t.r (aL a) {t.r (aL a)with up:=w}} z=t.az z:=λ_=>rfl
      have v:bI {t with r:=ar t.r (aL a) {t.r (aL a)with up:=w}} a=w:=by
       unfold bI kJ;simp only[B];rw[adY c,cF,adY g]
      have u: ∀x,x≠a->bI {t with r:=ar t.r (aL a) {t.r (aL a)with up:=w}} x=bI t x:=by
       intro x H;unfold bI;simp only[B];split
       ·rename_i m;unfold kJ;simp only[B];rw[da λe=>H (LZ m c e)]
       ·rfl
      generalize l: ({t with r:=ar t.r (aL a) {t.r (aL a)with up:=w}}:av)=t' at*;have w0:w≠0:=SS g;have key: ∀n x,(eP t' n x).length<=if x=a\/a∈aT t x then dep t x+1+dep t w else dep t x:=by
       intro n
       induction n with
       |zero=>intro x;simp[eP]
       |succ n D=>
        intro x;rw[eP];by_cases e:x=a
        ·rw[adY (show x=a\/a∈aT t x from .inl e),e,v,adU w0,afL];have:=D w;rw[adU (by rintro(q|q);exact s.1 q.symm;exact s.2 q)]at this;omega
        ·rw[u x e];by_cases hu:bI t x=0
         ·rw[adY hu];simp
         ·rw[adU hu,afL];have K:=Cm h.tr hu;have:=D (bI t x);have j: (x=a\/a∈aT t x)↔(bI t x=a\/a∈aT t (bI t x)):=by
           rw[CN h.tr hu,ag7];constructor
           ·rintro(q|q|q)
            ·exact absurd q e
            ·exact .inl q.symm
            ·exact .inr q
           ·rintro(q|q)
            ·exact .inr (.inl q.symm)
            ·exact .inr (.inr q)
          by_cases q:x=a\/a∈aT t x
          ·rw[adY q];rw[adY (j.1 q)]at this;omega
          ·rw[adU q];rw[adU λG=>q (j.2 G)]at this;omega
      show eV t';refine⟨?_,λx=>?_,λi=>?_⟩
      ·rw[<-l];exact h.ok.ar ((h.ok.r _).LK I)
      ·have E:=key 32 x;unfold aT;split at E
       ·rename_i q;have o:x∈dO t a:=by
         rcases q with q|q
         ·rw[q];exact aiJ h.tr a
         ·exact aus h.ok.b h.tr _ a (afA _) q
        have m:=Co h.ok.b c o;have k:=(aiK (f:=λx=>depth t x-depth t a+1) (dO t a) 0).2 x o;have y:uv t a=(dO t a).foldl (λn x=>max n (depth t x-depth t a+1)) 0:=rfl;rw[<-y]at k;have d1:depth t x=1+dep t x:=by unfold depth;rw[adY m];rfl
        have d2:depth t a=1:=by unfold depth;rw[adY c,C];rfl
        have d3:depth t w=1+dep t w:=by unfold depth;rw[adY g];rfl
        have k:depth t x-depth t a+1<=uv t a:=k;omega
       ·have:=h.tr x;unfold dep at E;omega
      ·have e1:t'.b=t.b:=by rw[<-l]
       have J: (t'.r i).up=(ar t.r (aL a) {t.r (aL a)with up:=w} i).up:=by rw[<-l]
       rw[e1,J];by_cases e:i=aL a
       ·rw[e,cF];exact TX g
       ·rw[da e];exact h.up i
structure kb(k:bo):Prop where
 ok:gY k
 dV: ∀i,oo k.b (k.t i).aT
 ord: ∃L:lN,L.Nodup/\ (∀h∈L,az k.b h=true)/\ (∀h,az k.b h=true->h∈L)/\L.Pairwise (λa b=>(k.t (aL a)).aT≠b)/\ ∀h∈L,(k.t (aL h)).aT≠h
def aiL{k:bo}{h:Nat}(a:az k.b h=true): (cb k h).1=k.t (aL h):=by unfold cb;grind
theorem T0{k:bo}: ∀ {n m h:Nat},n<=m->x5 k n h->x5 k m h
 |0,_,_,_,h=>h.elim
 |n+1,0,_,a,_=>by omega
 |n+1,m+1,_,a,h=>λx b=>T0 (Nat.le_of_succ_le_succ a) (h x b)
theorem L0: ∀ (n:Nat) (l:lN),l.Nodup->(∀x∈l,x<n)->l.length<=n
 |0,[],_,_=>afA _
 |0,x::_,_,h=>by grind [List.mem_cons_self]
 |n+1,l,a,h=>by
  have c:=L0 n (l.erase n) (a.erase n) λx b=>by grind
  grind
def kb.th{k:bo}(h:kb k){x:Nat}(s:az k.b x=true):x5 k 16 x:=by
 obtain⟨L,w,o,e,i,l⟩:=h.ord;have j:L.length<=16:=by
  rw[<-afB (f:=aL)];refine L0 16 _ ?_ λy r=>?_
  ·grind [List.Pairwise.imp_of_mem,LZ]
  ·obtain⟨z,g,rfl⟩:=afH.1 r;exact h.ok.slot (o z g)
 have key: ∀ (n:Nat) (P S:lN) (y:Nat),S.length<=n->L=P++y::S->x5 k (S.length+1) y:=by
  intro n
  induction n with
  |zero=>
   intro P S y m d z g;have b:=afY.1 g;have a:az k.b z=true:=(iE h.ok.b).1 b.1;have c: (k.t (aL z)).aT=y:=by have:=b.2;rw[aiL a]at this;simpa using this
   have t:S=[]:=akU.1 (by omega);subst t;exfalso;have hm:=e z a;rw[d]at hm;rcases aev.1 hm with q|q
   ·rw[d]at i;exact(an8.1 i).2.2 z q y (ahi ..) c
   ·rcases ag7.1 q with q|q
    ·subst q;exact l z (e z a) c
    ·cases q
  |succ n p=>
   intro P S y m d z g;have b:=afY.1 g;have a:az k.b z=true:=(iE h.ok.b).1 b.1;have c: (k.t (aL z)).aT=y:=by have:=b.2;rw[aiL a]at this;simpa using this
   have hm:=e z a;rw[d]at hm;rcases aev.1 hm with q|q
   ·exfalso;rw[d]at i;exact(an8.1 i).2.2 z q y (ahi ..) c
   ·rcases ag7.1 q with q|q
    ·exfalso;subst q;exact l z (e z a) c
    ·obtain⟨v,u,rfl⟩:=ati q;have:=p (P++y::v) u z (by simp at m;omega) (by rw[d];simp);exact T0 (by simp) this
 obtain⟨P,S,rfl⟩:=ati (e x s);refine T0 ?_ (key S.length P S x (afA _) rfl)
 grind
def kb.void{k:bo}(h:kb k)(y:Nat):kb {k with b:=(dN k.b y).1}:=by
 obtain⟨L,f,g,e,d,c⟩:=h.ord;refine⟨ahU h.ok [y],λi=>aiH (h.dV i),L.filter λx=>az (dN k.b y).1 x,f.filter _,λx a=>(afY.1 a).2,λx a=>afY.2 ⟨e x (TZ a),a⟩,d.filter _,λx a=>c x (afY.1 a).1⟩
def kb.aiM{k:bo}(h:kb k)(l:lN):kb (nX k l):=by
 induction l generalizing k with
 |nil=>exact h
 |cons y l a=>exact a (h.void y)
def kb.clear{k:bo}(h:kb k)(r:Nat):kb (Ll k r):=h.aiM _
def kb.ret{k:bo}(h:kb k)(a:Nat):kb (mB k a).1:=by
 unfold mB;split
 ·exact h.aiM _
 omega
def kb.aiN{k:bo}(h:kb k){x:Tok}(F:uU x):kb (lR k x).1:=by
 unfold lR;split
 ·exact h
 ·rename_i hm;have hm:qx k x=0:=anF λq=>hm q
  have g:x.aT=0\/az k.b x.aT=true:=by
   unfold qx at hm;split at hm
   ·omega
   ·have:nV k x.aT=true:=by grind
    unfold nV at this
    grind
  split
  ·rename_i i s;split
   ·rename_i r;obtain⟨i1,i2,i3,_⟩:=rP s;have t:=h.ok.b;have c:=Gk s t;have p:=aiI s t;have f:=λz=>TY (h:=z) s t
    have A: ∀z,az k.b z=true->aL z≠i:=by
     intro z d q;obtain⟨_,o,_⟩:=z5 d;rw[q]at o;rw[o]at i2;cases i2
    have y:aL (dh i (k.b i).gen)=i:=by
     obtain⟨j,e,l⟩:=lS.1 ((f _).2 (.inr rfl));rw[Cl e];refine anF λq=>?_
     rw[da q]at l;rw[lS.2 ⟨j,e,l⟩]at c;cases c
    have v:x.aT≠dh i (k.b i).gen:=by
     intro q;rcases g with e|e
     ·rw[e]at q;unfold dh at q;omega
     ·rw[q,c]at e;cases e
    obtain⟨L,E,u,D,C,B⟩:=h.ord;have w: ∀z∈L,ar k.t i x (aL z)=k.t (aL z):=λz d=>da (A z (u z d))
    refine⟨⟨SU t s,λj l=>?_,λj=>?_⟩,λj=>?_,L++[dh i (k.b i).gen],?_,λz d=>?_,λz d=>?_,?_,λz d=>?_⟩
    ·by_cases e:j=i
     ·rw[e];exact r
     ·have l: (ar k.b i {k.b i with dc:=true} j).dc=true:=l;rw[da e]at l;exact h.ok.lt j l
    ·show uU (ar k.t i x j);by_cases e:j=i
     ·rw[e,cF];exact F
     ·rw[da e];exact h.ok.t j
    ·show oo _ (ar k.t i x j).aT;by_cases e:j=i
     ·rw[e,cF];rcases g with q|q
      ·rw[q];exact CM _
      ·exact LX (TX q)
     ·rw[da e];exact LX (h.dV j)
    ·refine aBl.2 ⟨E,by simp,λa n b m=>?_⟩;rw[afC.1 m];intro q;rw[q]at n;rw[u _ n]at c;cases c
    ·rcases aev.1 d with q|q
     ·exact(f z).2 (.inl (u z q))
     ·exact(f z).2 (.inr (afC.1 q))
    ·rcases(f z).1 d with q|q
     ·exact aev.2 (.inl (D z q))
     ·exact aev.2 (.inr (afC.2 q))
    ·refine an8.2 ⟨?_,by simp,λa n b m=>?_⟩
     ·exact atg (λn _ g=>by show(ar k.t i x (aL _)).aT≠_;rw[w _ n];exact g) C
     ·rw[afC.1 m];show(ar k.t i x (aL a)).aT≠_;rw[w a n];intro q;have:=h.dV (aL a);rw[q]at this;exact p this
    ·rcases aev.1 d with q|q
     ·show(ar k.t i x (aL z)).aT≠_;rw[w z q];exact B z q
     ·rw[afC.1 q];show(ar k.t i x (aL _)).aT≠_;rw[y,cF];exact v
   omega
  omega
structure bm(s:bD):Prop where
 fa:eV s.T
 O:fX s.O
 tok:kb s.K
 bx: ∀i,jb (s.de i)
def bm.T{s:bD}(h:bm s):bP s.T:=h.fa.ok
def bm.tr{s:bD}(h:bm s):cu s.T:=h.fa.tr
def bm.K{s:bD}(h:bm s):gY s.K:=h.tok.ok
theorem bm.th{s:bD}(h:bm s): ∀a,az s.K.b a=true->x5 s.K 16 a:=λ_ b=>h.tok.th b
def bm.wy{s:bD}(h:bm s)(a:eV t):bm {s with T:=t}:=⟨a,h.O,h.tok,h.bx⟩
def bm.uX{s:bD}(h:bm s){o:bO}(ho:fX o):bm {s with O:=o}:=⟨h.fa,ho,h.tok,h.bx⟩
def bm.Aq{s:bD}(h:bm s){k:bo}(a:kb k):bm {s with K:=k}:=⟨h.fa,h.O,a,h.bx⟩
def bm.Ar{s:bD}(h:bm s){i:Nat}{b:c8}(a:jb b):bm {s with de:=ar s.de i b}:=⟨h.fa,h.O,h.tok,λj=>by
 show jb (ar s.de i b j);by_cases e:j=i
 ·rw[e,cF];exact a
 ·rw[da e];exact h.bx j⟩
def bm.L1{s:bD}(h:bm s){a b:Nat->Bool}:bm {s with alive:=a,born:=b}:=⟨h.fa,h.O,h.tok,h.bx⟩
def fX.gM{o:bO}(ho:fX o){r:Nat}(a:r<4294967296):fX (rO o t r aa).1:=ho.LN a ⟨by simp,aoc _ (by omega),by simp⟩
def fX.fly{o:bO}(ho:fX o){r:Nat}(a:r<4294967296):fX (xO o t r).1:=ho.LN a ⟨by simp,by simp,by simp⟩
def fX.freeze{o:bO}(ho:fX o){r:Nat}(a:r<4294967296):fX (Cj o t r aa).1:=ho.LN a ⟨by simp,by simp,An aa⟩
def fX.held{o:bO}(ho:fX o){r:Nat}{b:Bool}(c:r<4294967296):fX (dC o t r aa b).1:=by
 unfold dC;dsimp only;split
 ·omega
 ·split
  ·omega
  ·split
   ·omega
   ·split
    ·omega
    ·split
     ·omega
     ·have a:=ho.of t r;exact ho.LN c ⟨a.kind,a.aa,aBb (n:=8) a.hold (An aa)⟩
section
def lx{args:lA}{E:AS}{r:aU}(h:D X0 v args E=some r):D XA v args E=some r:=wk DP (up dD h)
def ly{args:lA}{E:AS}{r:aU}(h:D X v args E=some r):D XA v args E=some r:=wk DP h
structure iI(c:cq):Prop where
 op:c.op<256
 r:c.r<4294967296
 s:c.s<4294967296
 a:c.a<4294967296
 b:c.b<4294967296
 v:c.v<18446744073709551616
def ez{α:Type}(f:α->AV×AS)(E:AS):R α->aU
 |.ok a=>.ret (f a).1 (f a).2
 |.error e=>.panic (jv e) E
abbrev un(E:AS):Unit->AV×AS:=λ_=>(.aw [],E)
def lZ(b:Bool)(e:Nat)(H:List ae)(lo:oN):D XA (.fn (.func 116) [] []) [.bool b,.int .i64 e] ⟨H,lo⟩=some (ez (un ⟨H,lo⟩) ⟨H,lo⟩ (ask b e)):=by
 cases b
 ·exact lx (Ao e H lo)
 ·exact lx (Gi e H lo)
def ig(e:Nat)(H:List ae)(lo:oN):D XA (.fn (.func 248) [] []) [.int .i64 e] ⟨H,lo⟩=some (ez (un ⟨H,lo⟩) ⟨H,lo⟩ (bg e)):=by
 by_cases h:e=0
 ·subst h;exact lx (at4 H lo)
 ·unfold bg;rw[adU h];exact lx (at5 e h H lo)
def jw{a:List FP}{f:ao}{b:List ao}{d:oN}{e:Env}{c:lN}{Q:bQ}{E:AS}:kF a (.call f b) d [] [] e c Q v E=Q (.panic v) ⟨e,c⟩ E:=by
 have h:Da a (⟨none,d,.call f b⟩,[]) []=true:=by rfl
 simp only[kF,h,aAz]
def take_set{H L:List ae}{N:Nat}{o:ae}(a:H.length=N):List.take N (H.set p o++L)=H.set p o:=by grind
def aDi{H:List ae}{N:Nat}{o:ae}(a:H.length=N):List.take N (H.set p o)=H.set p o:=aes (by grind)
def auv:aN t++List.drop 480 (a0 x bk)=a0 (x.t t) bk:=by
 rw[<-TV];simp[aM,iA]
structure Old(p:Nat)(H:List ae)(v:ae):Prop where
 at':H[p]?=some v
namespace Old
variable{p:Nat}{H:List ae}{v:ae}(h:Old p H v)
include h
theorem lt:p<H.length:=(adg.1 h.at').1
theorem g(B:List ae): (H++B)[p]?=some v:=aZ h.at'
theorem s(B:List ae)(w:ae): (H++B).set p w=H.set p w++B:=aqG _ _ h.lt
theorem g1(w:ae): (H.set p w)[p]?=some w:=by rw[afD h.lt]
theorem g2(w:ae)(B:List ae): (H.set p w++B)[p]?=some w:=aZ (h.g1 w)
theorem s2(w w':ae)(B:List ae): (H.set p w++B).set p w'=H.set p w'++B:=by
 rw[aqG _ _ (by rw[afN];exact h.lt),ak7]
theorem same:H.set p v=H:=qF h.at'
theorem app(B:List ae):Old p (H++B) v:=⟨h.g B⟩
theorem set(w:ae):Old p (H.set p w) w:=⟨h.g1 w⟩
end Old
def auw{x:Nat}(a:k<8):lu .shr (.int .u8 (x:Nat)) (.int .i64 (k:Nat))=some (.int .u8 ((x/2^k:Nat):Int)):=by
 rw[DR,adY (by omega)];have b:IntKind.u8.bits=8:=rfl
 grind
def auy{x:Nat}(c:x<256):dA .and (.int .u8 ((x/2^k:Nat):Int)) (.int .u8 1)=some (.int .u8 ((x/2^k % 2:Nat):Int)):=by
 have a:x/2^k<256:=Nat.lt_of_le_of_lt (Nat.div_le_self _ _) c;have:=LO (b:=1) a (by omega)
 grind
section
variable{x:au}{bk:AV}{p:Nat}{H:List ae}(ho:Old p H (.box (a0 x bk) none))(lo:oN)
include ho
theorem L3(aa:Nat):D XA (.fn (.func 263) [] []) [.ptr p 0,.int .u32 aa] ⟨H,lo⟩=some (ez (un ⟨H,lo⟩) ⟨H,lo⟩ (mF x aa)):=by
 refine aH KP λN f=>?_
 have e:=ho.at';by_cases h:aa<8
 ·have c: (aa:Int)<8:=by omega
  have b:mF x aa=ask (x.s.alive aa) 2:=by unfold mF;simp[h]
  have a: ∀H lo,D XA (.fn (.func 116) [] []) [.bool (x.s.alive aa),.int .i64 2] ⟨H,lo⟩=_:=lZ _ 2;rw[b];cases d:x.s.alive aa<;>rw[d]at a<;>simp(disch:=omega) only[F1,go_sem,simprocAttr,KP,e,c,↓TU h,d,a,ask,ez,EP]
 ·have c: ¬(aa:Int)<8:=by omega
  have b:mF x aa= .error 2:=by unfold mF ask;simp[h]
  have a: ∀H lo,D XA (.fn (.func 116) [] []) [.bool false,.int .i64 2] ⟨H,lo⟩=_:=lZ _ 2;rw[b];simp(disch:=omega) only[F1,go_sem,simprocAttr,KP,c,a,ask,ez,EP]
theorem T1(b:bm x.s)(i:x.aa<8)(h:Nat)(e:h<4294967296)(a:Nat)(d:a<=2):
  D XA (.fn (.func 246) [] []) [.ptr p 0,.int .u32 h,.int .u8 a] ⟨H,lo⟩=some (ez (un ⟨H,lo⟩) ⟨H,lo⟩ (fV x h a)):=by
 refine aH Rs λN g=>?_
 have hm:=λH lo=>ly (at1 x.s.T b.T b.tr x.s.O b.O x.s.K b.K x.aa (by omega) h e a d H lo)
 have c:=ig (xQ x.s.T x.s.O x.s.K x.aa h a);unfold fV;cases f:bg (xQ x.s.T x.s.O x.s.K x.aa h a)<;>rw[f]at c<;>simp only[F1,go_sem,simprocAttr,Rs,g,ho.at',↓CL,hm,c,ez,EP,jw]
theorem L4(b:bm x.s)(h:Nat)(c:h<4294967296):
  D XA (.fn (.func 251) [] []) [.ptr p 0,.int .u32 h] ⟨H,lo⟩=some (ez (λ_=>(.agg (bM (aG x.s.T h).1),⟨H,lo⟩)) ⟨H,lo⟩ (bg (aG x.s.T h).2)):=by
 refine aH Ru λN e=>?_
 have hm:=λH lo=>lx (r6 x.s.T b.T h c H lo)
 have a:=ig (aG x.s.T h).2;cases d:bg (aG x.s.T h).2<;>rw[d]at a<;>simp only[F1,go_sem,simprocAttr,Ru,e,ho.g,↓CL,hm,lV,a,ez,EP]
theorem T2(a:bm x.s)(h:Nat)(d:h<4294967296):
  D XA (.fn (.func 260) [] []) [.ptr p 0,.int .u32 h] ⟨H,lo⟩=some (ez (λ_=>(.aw [],⟨H.set p (.box (a0 (x.t (iT x.s.T h).1) bk) none),lo⟩)) ⟨H,lo⟩ (bg (iT x.s.T h).2)):=by
 refine aH Rz λN c=>?_
 have hm:=λH lo=>ly (atf x.s.T a.T a.tr h d H lo)
 have b:=ig (iT x.s.T h).2;cases e:bg (iT x.s.T h).2<;>rw[e]at b<;>simp only[F1,go_sem,simprocAttr,Rz,c,ho.at',ho.g,ho.s,↓CL,hm,LM,b,ez,EP,CS,c9,take_set c]
theorem L5(a:bm x.s)(h:Nat)(e:h<4294967296)(aa:Nat)(d:aa<256):
  D XA (.fn (.func 249) [] []) [.ptr p 0,.int .u32 h,.int .i64 aa] ⟨H,lo⟩=some (ez (λ_=>(.aw [],⟨H.set p (.box (a0 (x.o (rO x.s.O x.s.T h aa).1) bk) none),lo⟩)) ⟨H,lo⟩ (bg (rO x.s.O x.s.T h aa).2)):=by
 refine aH Rt λN c=>?_
 have hm:=λH lo=>lx (atn x.s.O x.s.T a.T a.tr h e aa d H lo)
 have b:=ig (rO x.s.O x.s.T h aa).2;cases f:bg (rO x.s.O x.s.T h aa).2<;>rw[f]at b<;>simp only[F1,go_sem,simprocAttr,Rt,c,ho.g,ho.s,↓CL,hm,b,ez,EP,CS,gQ,take_set c]
theorem T3(d:bm x.s)(h:Nat)(g:h<4294967296)(r:cP)(e:RB r.runs)(f:r.runs.length<=65)(a:r.len<4294967296):
  D XA (.fn (.func 255) [] []) [.ptr p 0,.int .u32 h,.agg (bM r)] ⟨H,lo⟩=some (ez (λ_=>(.aw [],⟨H.set p (.box (a0 (x.t (eu x.s.T h r).1) bk) none),lo⟩)) ⟨H,lo⟩ (bg (eu x.s.T h r).2)):=by
 refine aH Rx λN c=>?_
 have hm:=λH lo=>lx (TB x.s.T d.T h g r e f a H lo)
 have b:=ig (eu x.s.T h r).2;cases i:bg (eu x.s.T h r).2<;>rw[i]at b<;>simp only[F1,go_sem,simprocAttr,Rx,c,ho.g,ho.s,↓CL,hm,uS,b,ez,EP,CS,c9,take_set c]
theorem Gl(f:bm x.s)(u:x.aa<8)(h:Nat)(o:h<4294967296):
  D XA (.fn (.func 264) [] []) [.ptr p 0,.int .u32 h] ⟨H,lo⟩=some (ez (un ⟨H,lo⟩) ⟨H,lo⟩ (xR x h)):=by
 refine aH Ca λN s=>?_
 have a:=λH lo=>lx (eU x.s.T.b h o H lo)
 have q:az x.s.T.b h=x.s.T.az h:=rfl;rw[q]at a;have d:=λH lo=>lx (CA x.s.O f.O x.s.T f.T f.tr h o H lo)
 have c:=λH lo=>lx (Ai x.s.T f.T f.tr h o H lo)
 have j:=f.O.of x.s.T h;have A:xR x h=ask (x.s.T.az h) 4>>=λ_=>ask (decide (root x.s.T h=h)&&decide ((ca x.s.O x.s.T h).kind=3)) 12>>=λ_=>ask ((ca x.s.O x.s.T h).hold.testBit x.aa) 5:=rfl
 generalize ca x.s.O x.s.T h=w at*;have g: ∀H lo,D XA (.fn (.func 116) [] []) [.bool (x.s.T.az h),.int .i64 4] ⟨H,lo⟩=_:=lZ _ 4;have e: ∀b H lo,D XA (.fn (.func 116) [] []) [.bool b,.int .i64 12] ⟨H,lo⟩=_:=λb=>lZ b 12
 have B: ∀b H lo,D XA (.fn (.func 116) [] []) [.bool b,.int .i64 5] ⟨H,lo⟩=_:=λb=>lZ b 5
 rw[A];cases y:x.s.T.az h with
 |false=>
  rw[y]at a g;simp(disch:=omega) only[F1,go_sem,simprocAttr,Ca,ho.at',↓CL,a,g,ask,ez,EP,Except.bind,bind]
 |true=>
  rw[y]at a g;by_cases n:root x.s.T h=h
  ·have k:decide ((root x.s.T h:Int)=h)=true:=aet (by omega);by_cases t:w.kind=3
   ·have i:decide ((w.kind:Int)=3)=true:=aet (by omega);have m:lu .shr (.int .u8 (w.hold:Nat)) (.int .i64 (x.aa:Nat))=some (.int .u8 ((w.hold/2^x.aa:Nat):Int)):=auw u;have hand:dA .and (.int .u8 ((w.hold/2^x.aa:Nat):Int)) (.int .u8 1)=some (.int .u8 ((w.hold/2^x.aa % 2:Nat):Int)):=auy j.hold;have r:=ah3 j.hold u;have l:decide (((w.hold/2^x.aa % 2:Nat):Int)=1)=w.hold.testBit x.aa:=by rw[<-r];exact afR.2 (by omega)
    cases z:w.hold.testBit x.aa<;>rw[z]at l<;>
     simp only[F1,go_sem,simprocAttr,Ca,s,ho.at',ho.g,↓CL,j0,a,g,d,c,n,t,e,B,m,hand,l,ask,ez,EP,jw,Except.bind,bind]
   ·have i:decide ((w.kind:Int)=3)=false:=aeq (by omega);simp only[F1,go_sem,simprocAttr,Ca,s,ho.at',ho.g,↓CL,j0,a,g,d,c,n,i,t,e,ask,ez,EP,Except.bind,bind]
  ·have k:decide ((root x.s.T h:Int)=h)=false:=aeq (by omega);simp only[F1,go_sem,simprocAttr,Ca,s,ho.at',ho.g,↓CL,j0,a,g,d,c,k,n,e,ask,ez,aho,EP,Except.bind,bind]
end
def aiO(c:cq)(H:List ae)(lo:oN):D XA (.fn (.func 256) [] []) [.agg (bn c)] ⟨H,lo⟩=some (ez (un ⟨H,lo⟩) ⟨H,lo⟩ (ask (decide (1<=c.b)&&decide (c.b<=8)) 2)):=by
 refine aH FC λN e=>?_
 have g: ∀b H lo,D XA (.fn (.func 116) [] []) [.bool b,.int .i64 2] ⟨H,lo⟩=_:=λb=>lZ b 2
 by_cases f:1<=c.b
 ·have a:decide ((c.b:Int)>=1)=true:=aet (by omega);by_cases i:c.b<=8
  ·have d:decide ((c.b:Int)<=8)=true:=aet (by omega);simp only[F1,go_sem,simprocAttr,FC,e,bn,a,d,f,i,g,ask,ez]
  ·have d:decide ((c.b:Int)<=8)=false:=aeq (by omega);simp only[F1,go_sem,simprocAttr,FC,e,bn,a,d,f,i,g,ask,ez,EP]
 ·have a:decide ((c.b:Int)>=1)=false:=aeq (by omega);simp only[F1,go_sem,simprocAttr,FC,e,bn,a,f,g,ask,ez,aho,EP]
def auz(r:cP)(g:r.len<4294967296)(c:cq)(d:iI c)(H:List ae)(lo:oN):
  D XA (.fn (.func 257) [] []) [.agg (bM r),.agg (bn c)] ⟨H,lo⟩=some (ez (un ⟨H,lo⟩) ⟨H,lo⟩ (ask (decide (c.a+c.b<=r.len)) 9)):=by
 refine aH KN λN e=>?_
 have j:=d.a;have i:=d.b;have f: ∀b H lo,D XA (.fn (.func 116) [] []) [.bool b,.int .i64 9] ⟨H,lo⟩=_:=λb=>lZ b 9
 by_cases h:c.a+c.b<=r.len
 ·have a:decide ((c.a:Int)<=(r.len:Int)-c.b)=true:=aet (by omega);simp(disch:=omega) only[F1,go_sem,simprocAttr,KN,e,bn,a,h,f,ask,ez]
 ·have a:decide ((c.a:Int)<=(r.len:Int)-c.b)=false:=aeq (by omega);simp(disch:=omega) only[F1,go_sem,simprocAttr,KN,e,bn,a,h,f,ask,ez,EP]
end
structure ns(x:au):Prop where
 s:bm x.s
 t:x.aa<8
 c:iI x.c
 run:x.run.1<4294967296/\x.run.2<4294967296
def bh(b:List aC)(bk:AV)(p:Nat)(H:List ae)(lo:oN):R (au×bA)->aU->Prop
 |.ok (y,r),a=>y.back=b/\a= .ret (.agg (bF r)) ⟨H.set p (.box (a0 y bk) none),lo⟩
 |.error e,a=> ∃y,a= .panic (jv e) ⟨H.set p (.box (a0 y bk) none),lo⟩
theorem okB{a:α}{f:α->R β}: (Except.ok a>>=f:R β)=f a:=rfl
theorem dj{f:α->R β}: (Except.error e>>=f:R β)= .error e:=rfl
def OL{H:List ae}{N:Nat}(a:H.length=N): (∀p w L,(H.set p w++L)[N]?=L[0]?)/\ (∀p w L k,(H.set p w++L)[N+k]?=L[k]?)/\ (∀p w L o,(H.set p w++L).set N o=H.set p w++L.set 0 o)/\ (∀p w L k o,(H.set p w++L).set (N+k) o=H.set p w++L.set k o)/\
  (∀p w L,List.take N (H.set p w++L)=H.set p w)/\ ∀p w,List.take N (H.set p w)=H.set p w:=by
 have h: ∀p w,(H.set p w).length=N:=λp w=>by grind
 grind
theorem gZ{a:α}: (pure a:R α)= .ok a:=rfl
def ef{K c:AV->AS->Prop}{f:α->AV×AS}{E:AS}{m:R α}:HW K c (some (ez f E m))=((∀a,m= .ok a->K (f a).1 (f a).2)/\ ∀e,m= .error e->c (jv e) E):=by
 apply propext;cases m with
 |ok a=>
  refine⟨λh=>⟨λb e=>?_,λ_ e=>?_⟩,λh=>h.1 a rfl⟩
  ·cases e;exact h
  grind
 |error e=>
  refine⟨λh=>⟨λb q=>?_,λb q=>?_⟩,λh=>h.2 e rfl⟩
  ·cases q
  ·cases q;exact h
def eg{q:Unit->Prop}: (∀a,q a)=q ():=by grind
section
variable{x:au}{bk:AV}{p:Nat}{H:List ae}{lo:oN}(ho:Old p H (.box (a0 x bk) none))(hx:ns x)
include ho
theorem bh.err:bh x.back bk p H lo (.error e) (.panic (jv e) ⟨H,lo⟩):=⟨x,by rw[ho.same]⟩
theorem bh.here(a:v= .agg (bF r)):bh x.back bk p H lo (.ok (x,r)) (.ret v ⟨H,lo⟩):=by
 refine⟨rfl,?_⟩;rw[ho.same,a]
omit ho in
theorem bh.set(a:v= .agg (bF r))(b:y.back=x.back):bh x.back bk p H lo (.ok (y,r)) (.ret v ⟨H.set p (.box (a0 y bk) none),lo⟩):=by
 refine⟨b,?_⟩;rw[a]
omit ho in
theorem As{h w:Nat}(a:fV x h w= .ok ()):bg (aG x.s.T h).2= .ok ():=by
 unfold fV xQ at a;cases b:x.s.T.az h with
 |true=>unfold aG;rw[adY b];rfl
 |false=>rw[adY b]at a;cases a
include hx
theorem M0(h:Nat)(a:h<4294967296)(B:List ae)(lo:oN):D XA (.fn (.func 246) [] []) [.ptr p 0,.int .u32 h,.int .u8 0] ⟨H++B,lo⟩=some (ez (un ⟨H++B,lo⟩) ⟨H++B,lo⟩ (fV x h 0)):=T1 (ho.app B) lo hx.s hx.t h a 0 (by omega)
theorem M1(h:Nat)(a:h<4294967296)(B:List ae)(lo:oN):D XA (.fn (.func 246) [] []) [.ptr p 0,.int .u32 h,.int .u8 1] ⟨H++B,lo⟩=some (ez (un ⟨H++B,lo⟩) ⟨H++B,lo⟩ (fV x h 1)):=T1 (ho.app B) lo hx.s hx.t h a 1 (by omega)
theorem M2(h:Nat)(a:h<4294967296)(B:List ae)(lo:oN):D XA (.fn (.func 246) [] []) [.ptr p 0,.int .u32 h,.int .u8 2] ⟨H++B,lo⟩=some (ez (un ⟨H++B,lo⟩) ⟨H++B,lo⟩ (fV x h 2)):=T1 (ho.app B) lo hx.s hx.t h a 2 (by omega)
omit ho in
theorem Bs(L:List ae)(lo:oN):D XA (.fn (.func 257) [] []) [.agg (bM (aG x.s.T x.c.r).1),.agg (bn x.c)] ⟨L,lo⟩=some (ez (un ⟨L,lo⟩) ⟨L,lo⟩ (ask (decide (x.c.a+x.c.b<=(aG x.s.T x.c.r).1.len)) 9)):=
 auz (aG x.s.T x.c.r).1 (by have:=(hx.s.T.get x.c.r).len;omega) x.c hx.c L lo
end
section
variable{x:au}{bk:AV}{p:Nat}{H:List ae}{lo:oN}(ho:Old p H (.box (a0 x bk) none))(hx:ns x)
include ho hx
theorem auA: ∃a,D XA (.fn (.func 227) [] []) [.ptr p 0] ⟨H,lo⟩=some a/\bh x.back bk p H lo (qy x 0) a:=by
 refine cE Ri λN b=>?_
 simp only[F1,go_sem,simprocAttr,Ri,b,ho.g,↓CL,λB=>aiO x.c (H++B),M0 ho hx x.c.r hx.c.r,λB lo=>L4 (ho.app B) lo hx.s x.c.r hx.c.r,λL=>Bs hx L,ef,eg,EP,jw];have c:=As (x:=x) (h:=x.c.r) (w:=0)
 (repeat' (first| (refine⟨?_,?_⟩)|intro _))<;>first
   | (simp only[qy,gZ,okB,dj, *];first|exact bh.err ho|exact bh.here ho rfl)
   | (exfalso;simp_all)
theorem auB: ∃a,D XA (.fn (.func 228) [] []) [.ptr p 0] ⟨H,lo⟩=some a/\bh x.back bk p H lo (qy x 1) a:=by
 refine cE Rj λN b=>?_
 simp only[F1,go_sem,simprocAttr,Rj,b,ho.g,↓CL,λB=>aiO x.c (H++B),M1 ho hx x.c.r hx.c.r,λB lo=>L4 (ho.app B) lo hx.s x.c.r hx.c.r,λL=>Bs hx L,ef,eg,EP,jw];have c:=As (x:=x) (h:=x.c.r) (w:=1)
 (repeat' (first| (refine⟨?_,?_⟩)|intro _))<;>first
   | (simp only[qy,gZ,okB,dj, *];first|exact bh.err ho|exact bh.here ho rfl)
   | (exfalso;simp_all)
end
theorem auC{args:lA}{E:AS}{a:AS}(h:CI args E=some (.ret v a)):D XA (.fn (.func 275) [] []) args E=some (.ret v a):=DX rfl h
def yd(h: ¬a<8):mF x a= .error 2:=by unfold mF ask;simp[h]
def aiP(h:a<4294967296):min a 8<4294967296:=by omega
section
variable{x:au}{bk:AV}{p:Nat}{H:List ae}{lo:oN}(ho:Old p H (.box (a0 x bk) none))(hx:ns x)
include ho hx
theorem auD: ∃b,D XA (.fn (.func 242) [] []) [.ptr p 0] ⟨H,lo⟩=some b/\bh x.back bk p H lo (uI x) b:=by
 refine cE Rr λN c=>?_
 have a:=λH lo=>auC (aul x.s.T hx.s.T x.c.r (min x.c.a 8) hx.c.r (aiP hx.c.a) H lo)
 have em: ((min x.c.a 8:Nat):Int)=min (x.c.a:Int) 8:=by omega
 simp only[em]at a;simp(disch:=omega) only[F1,go_sem,simprocAttr,Rr,c,ho.g,↓CL,M0 ho hx x.c.r hx.c.r,a,λH=>ig (uz x.s.T x.c.r (min x.c.a 8)).2 H,ef,eg,EP]
 (repeat' (first| (refine⟨?_,?_⟩)|intro _))<;>(simp only[uI,gZ,okB,dj, *];first|exact bh.err ho|exact bh.here ho rfl)
theorem auE: ∃b,D XA (.fn (.func 232) [] []) [.ptr p 0] ⟨H,lo⟩=some b/\bh x.back bk p H lo (uD x) b:=by
 refine cE Rn λN a=>?_
 have c:=λH lo=>ly (atb x.s.T hx.s.T hx.s.tr x.c.r x.c.s hx.c.r hx.c.s H lo)
 simp only[F1,go_sem,simprocAttr,Rn,a,ho.g,ho.s,↓CL,CS,M2 ho hx x.c.r hx.c.r,M1 ho hx x.c.s hx.c.s,c,xZ,λH=>ig (rN x.s.T x.c.r x.c.s).2 H,ef,eg,EP,c9,OL a]
 (repeat' (first| (refine⟨?_,?_⟩)|intro _))<;>(simp only[uD,gZ,okB,dj, *];first|exact bh.err ho|trivial)
theorem auF: ∃d,D XA (.fn (.func 234) [] []) [.ptr p 0] ⟨H,lo⟩=some d/\bh x.back bk p H lo (rT x) d:=by
 refine cE KF λN b=>?_
 have a:=λB lo=>L3 (ho.app B) lo x.c.a
 by_cases c:x.c.a<8
 ·have e:=λH lo=>lx (ahK x.s.O hx.s.O x.s.T hx.s.T hx.s.tr x.c.r hx.c.r x.c.a (by omega) H lo)
  simp(disch:=omega) only[F1,go_sem,simprocAttr,KF,b,ho.g,ho.s,↓CL,CS,a,λB lo=>Gl (ho.app B) lo hx.s hx.t x.c.r hx.c.r,e,λH=>ig (dC x.s.O x.s.T x.c.r x.c.a true).2.2 H,ef,eg,EP,gQ,OL b]
  (repeat' (first| (refine⟨?_,?_⟩)|intro _))<;>(simp only[rT,Cp,gZ,okB,dj, *];first|exact bh.err ho|exact bh.set rfl rfl)
 ·rw[yd c]at a;simp only[F1,go_sem,simprocAttr,KF,b,ho.g,↓CL,a,ez,EP];simp only[rT,dj,yd c];exact bh.err ho
theorem auG: ∃d,D XA (.fn (.func 240) [] []) [.ptr p 0] ⟨H,lo⟩=some d/\bh x.back bk p H lo (uH x) d:=by
 refine cE Rq λN c=>?_
 have e:=λH lo=>lx (at7 (x.s.de x.aa) H lo)
 have i:=hx.t;have h: (x.aa:Int)<8:=by omega
 have g:784+x.aa*19<=945:=by omega
 have f:=λbk=> @LU x bk x.aa hx.t
 have a:=λbk b=> @LV x bk x.aa b hx.t
 simp only[F1,go_sem,simprocAttr,Rq,c,ho.g,ho.s,↓CL,CS,e,h,↓f,a,g,MB,λH=>ig (wg (x.s.de x.aa)).2 H,ef,eg,EP,OL c]
 (repeat' (first| (refine⟨?_,?_⟩)|intro _))<;>(simp only[uH,gZ,okB,dj, *];first|exact bh.err ho|trivial)
theorem auH: ∃f,D XA (.fn (.func 237) [] []) [.ptr p 0] ⟨H,lo⟩=some f/\bh x.back bk p H lo (uG x) f:=by
 refine cE Rp λN e=>?_
 have d:=λH lo=>lx (CB x.s.K hx.s.K x.c.s hx.c.s H lo)
 have c:=hx.s.K.get x.c.s;generalize j:cb x.s.K x.c.s=g at*;have h:=c.to;have he: ((g.1.to:Int)=x.aa)=(g.1.to=x.aa):=propext (by omega);obtain⟨w,a⟩:=ahZ x.s.K hx.s.K x.c.s hx.c.s (hx.s.th x.c.s) (H++[.box [.int .i64 0,.int .u64 0,.int .u32 0] none,.box (fT g.1) none]) none;have a:=ly a;simp only[fT]at a d;have i: ∀b H lo,D XA (.fn (.func 116) [] []) [.bool b,.int .i64 5] ⟨H,lo⟩=_:=λb=>lZ b 5
 simp(disch:=omega) only[F1,go_sem,simprocAttr,Rp,e,ho.g,ho.s,↓CL,CS,d,a,he,i,λH=>ig g.2 H,ef,eg,EP,jw,OL e]
 (repeat' (first| (refine⟨?_,?_⟩)|intro _))<;>(simp only[uG,gZ,okB,dj, *];first|exact bh.err ho|exact bh.set rfl rfl)
theorem auI: ∃g,D XA (.fn (.func 245) [] []) [.ptr p 0] ⟨H,lo⟩=some g/\bh x.back bk p H lo (qz x) g:=by
 refine cE KJ λN c=>?_
 have f: ∀b H lo,D XA (.fn (.func 116) [] []) [.bool b,.int .i64 2] ⟨H,lo⟩=_:=λb=>lZ b 2
 by_cases a:x.c.a<8
 ·have e: (x.c.a:Int)<8:=by omega
  have l: (x.c.a:Int).tmod 8=x.c.a:=Int.tmod_eq_of_lt (by omega) (by omega);have k: (decide (x.c.a<8)&& !x.s.born (x.c.a % 8))= !x.s.born x.c.a:=by rw[aop a];simp[a]
  have j:=λbk=> @at2 x bk x.c.a a
  have s1:=λ (y:au) bk v=> @air y bk x.c.a v a
  have s2:=λ (y:au) bk v=> @at3 y bk x.c.a v a
  have i:936+x.c.a<=963:=by omega
  have h:944+x.c.a<=963:=by omega
  simp only[F1,go_sem,simprocAttr,KJ,c,ho.g,ho.s,ho.g2,ho.s2,↓CL,CS,e,l,i,h,↓j,f,s1,s2,ef,eg,EP,jw,OL c];have d:qz x=ask (!x.s.born x.c.a) 2>>=λ_=>.ok ({x with s:={x.s with alive:=ar x.s.alive x.c.a true,born:=ar x.s.born x.c.a true}},bL):=by unfold qz;rw[k];rfl
  rw[d]
  (repeat' (first| (refine⟨?_,?_⟩)|intro _))<;>(simp only[okB,dj, *];first|exact bh.err ho|exact bh.set rfl rfl)
 ·have e: ¬(x.c.a:Int)<8:=by omega
  have f: ∀H lo,D XA (.fn (.func 116) [] []) [.bool false,.int .i64 2] ⟨H,lo⟩=_:=λH lo=>lx (Ao 2 H lo)
  have d:qz x= .error 2:=by unfold qz;rw[aeq a];rfl
  simp only[F1,go_sem,simprocAttr,KJ,c,ho.g,↓CL,e,f,EP,jw];rw[d];exact bh.err ho
theorem auJ: ∃h,D XA (.fn (.func 241) [] []) [.ptr p 0] ⟨H,lo⟩=some h/\bh x.back bk p H lo (oc x) h:=by
 refine cE KH λN d=>?_
 have b:=λH lo=>lx (CA x.s.O hx.s.O x.s.T hx.s.T hx.s.tr x.c.s hx.c.s H lo)
 have f:=λH lo=>aun x.s.T hx.s.T hx.s.tr x.c.r (min x.c.a 8) x.c.s (decide ((ca x.s.O x.s.T x.c.s).kind=3)) hx.c.r hx.c.s (aiP hx.c.a) H lo
 have em: ((min x.c.a 8:Nat):Int)=min (x.c.a:Int) 8:=by omega
 have c:decide ((ca x.s.O x.s.T x.c.s).kind=3)=decide (((ca x.s.O x.s.T x.c.s).kind:Int)=3):=afR.2 (by omega);simp only[em,c]at f;by_cases e:x.c.s=0
 ·have a:decide ((x.c.s:Int)=0)=true:=aet (by omega);simp(disch:=omega) only[F1,go_sem,simprocAttr,KH,d,ho.g,ho.s,↓CL,CS,M1 ho hx x.c.r hx.c.r,a,b,j0,f,λH=>ig (mE x.s.T x.c.r (min x.c.a 8) x.c.s (decide (((ca x.s.O x.s.T x.c.s).kind:Int)=3))).2 H,ef,eg,EP,OL d,c9];have g:oc x=fV x x.c.r 1>>=λ_=>bg (mE x.s.T x.c.r (min x.c.a 8) x.c.s (decide (((ca x.s.O x.s.T x.c.s).kind:Int)=3))).2>>=λ_=>.ok (x.t (mE x.s.T x.c.r (min x.c.a 8) x.c.s (decide (((ca x.s.O x.s.T x.c.s).kind:Int)=3))).1,bL):=by
   unfold oc;rw[adU (by simpa using e),c];rfl
  rw[g];clear e a c em
  (repeat' (first| (refine⟨?_,?_⟩)|intro _))<;>(simp only[okB,dj, *];first|exact bh.err ho|exact bh.set rfl rfl)
 ·have a:decide ((x.c.s:Int)=0)=false:=aeq (by omega);simp(disch:=omega) only[F1,go_sem,simprocAttr,KH,d,ho.g,ho.s,↓CL,CS,M1 ho hx x.c.r hx.c.r,M0 ho hx x.c.s hx.c.s,a,b,j0,f,λH=>ig (mE x.s.T x.c.r (min x.c.a 8) x.c.s (decide (((ca x.s.O x.s.T x.c.s).kind:Int)=3))).2 H,ef,eg,EP,OL d,c9];have g:oc x=fV x x.c.r 1>>=λ_=>fV x x.c.s 0>>=λ_=>bg (mE x.s.T x.c.r (min x.c.a 8) x.c.s (decide (((ca x.s.O x.s.T x.c.s).kind:Int)=3))).2>>=λ_=>.ok (x.t (mE x.s.T x.c.r (min x.c.a 8) x.c.s (decide (((ca x.s.O x.s.T x.c.s).kind:Int)=3))).1,bL):=by
   unfold oc;rw[adY (by simpa using e),c];rfl
  rw[g];clear e a c em
  (repeat' (first| (refine⟨?_,?_⟩)|intro _))<;>(simp only[okB,dj, *];first|exact bh.err ho|exact bh.set rfl rfl)
end
theorem wz: (x.t t).c=x.c/\ (x.t t).aa=x.aa/\ (x.t t).s.T=t/\ (x.t t).s.O=x.s.O/\ (x.t t).s.K=x.s.K/\ (x.t t).s.de=x.s.de/\ (x.t t).run=x.run:=⟨rfl,rfl,rfl,rfl,rfl,rfl,rfl⟩
theorem L6{t:bO}: (x.o t).c=x.c/\ (x.o t).aa=x.aa/\ (x.o t).s.O=t/\ (x.o t).s.T=x.s.T/\ (x.o t).s.K=x.s.K/\ (x.o t).s.de=x.s.de:=⟨rfl,rfl,rfl,rfl,rfl,rfl⟩
theorem aiQ{b:c8}: (x.bx i b).c=x.c/\ (x.bx i b).aa=x.aa/\ (x.bx i b).s.O=x.s.O/\ (x.bx i b).s.T=x.s.T/\ (x.bx i b).s.K=x.s.K/\ (x.bx i b).s.de=ar x.s.de i b:=⟨rfl,rfl,rfl,rfl,rfl,rfl⟩
section
variable{x:au}{bk:AV}{p:Nat}{H:List ae}{lo:oN}(ho:Old p H (.box (a0 x bk) none))(hx:ns x)
include ho hx
omit ho hx in
theorem bh.nu:bh x.back bk p H lo (.error e) (.panic (jv e) ⟨H.set p (.box (a0 y bk) none),lo⟩):=⟨y,rfl⟩
theorem auK: ∃f,D XA (.fn (.func 231) [] []) [.ptr p 0] ⟨H,lo⟩=some f/\bh x.back bk p H lo (uB x) f:=by
 refine cE Rm λN e=>?_
 have c:=λH lo=>lx (Ai x.s.T hx.s.T hx.s.tr x.c.r hx.c.r H lo)
 have g:decide (root x.s.T x.c.r≠x.c.r)=decide (¬((root x.s.T x.c.r:Nat):Int)=x.c.r):=afR.2 (by omega);have d: ∀b H lo,D XA (.fn (.func 116) [] []) [.bool b,.int .i64 12] ⟨H,lo⟩=_:=λb=>lZ b 12
 have a:bm (x.t (iT x.s.T x.c.r).1).s:=hx.s.wy (hx.s.fa.cut _);have hw:=λB lo=>L5 (x:=x.t (iT x.s.T x.c.r).1) (bk:=bk) ((ho.set _).app B) lo a x.c.r hx.c.r x.aa (by have:=hx.t;omega)
 simp only[F1,go_sem,simprocAttr,Rm,e,ho.g,ho.s,ho.g2,ho.s2,↓CL,M2 ho hx x.c.r hx.c.r,c,d,λB lo=>T2 (ho.app B) lo hx.s x.c.r hx.c.r,hw,wz,ef,eg,EP,jw,OL e]
 (repeat' (first| (refine⟨?_,?_⟩)|intro _))<;>(simp only[uB,uA,mG,wz,gZ,okB,dj, *];first|exact bh.err ho|exact bh.nu|exact bh.set rfl rfl)
theorem auL: ∃c,D XA (.fn (.func 233) [] []) [.ptr p 0] ⟨H,lo⟩=some c/\bh x.back bk p H lo (uE x) c:=by
 refine cE Ro λN b=>?_
 have a:=hx.s.fa.cut x.c.r;have hw:=λH lo=>lx (ato x.s.O (iT x.s.T x.c.r).1 a.ok a.tr x.c.r hx.c.r x.aa (by have:=hx.t;omega) H lo)
 simp only[F1,go_sem,simprocAttr,Ro,b,ho.g,ho.s,ho.g2,ho.s2,↓CL,CS,M2 ho hx x.c.r hx.c.r,λB lo=>T2 (ho.app B) lo hx.s x.c.r hx.c.r,hw,wz,λH=>ig (Cj x.s.O (iT x.s.T x.c.r).1 x.c.r x.aa).2 H,ef,eg,EP,OL b,gQ]
 (repeat' (first| (refine⟨?_,?_⟩)|intro _))<;>(simp only[uE,uA,wz,gZ,okB,dj, *];first|exact bh.err ho|exact bh.nu|exact bh.set rfl rfl)
theorem aiR: ∃t,D XA (.fn (.func 239) [] []) [.ptr p 0] ⟨H,lo⟩=some t/\bh x.back bk p H lo (ni x) t:=by
 refine cE Fx λN h=>?_
 have u:=hx.t;have s: (x.aa:Int)<8:=by omega
 have r:784+x.aa*19<=945:=by omega
 have o:=λbk=> @LU x bk x.aa hx.t
 have d:=λbk b=> @LV x bk x.aa b hx.t
 have f:=λH lo=>lx (at6 (x.s.de x.aa) (hx.s.bx _) H lo)
 have i:=(hx.s.bx x.aa).take;have l:bm (x.bx x.aa (mD (x.s.de x.aa)).1).s:=hx.s.Ar i.1;have m:=i.2.aO;have hw:=λB lo=>L5 (x:=x.bx x.aa (mD (x.s.de x.aa)).1) (bk:=bk) ((ho.set _).app B) lo l (mD (x.s.de x.aa)).2.1.aO m x.aa (by omega)
 generalize n:mD (x.s.de x.aa)=g at*;simp only[pt]at f;have e:N+1+1=N+2:=rfl;by_cases j:g.2.1.aO=0
 ·have a:decide ((g.2.1.aO:Int)=0)=true:=aet (by omega);have k: (g.2.1.aO≠0/\g.2.1.share=false)=False:=aBa λq=>q.1 j
  simp only[F1,go_sem,simprocAttr,Fx,h,ho.g,ho.s,↓CL,CS,f,s,↓o,d,r,e,a,MB,λH=>ig g.2.2 H,ef,eg,EP,OL h];clear j a
  (repeat' (first| (refine⟨?_,?_⟩)|intro _))<;>(simp only[ni,n,k,ai5];simp only[gZ,okB,dj, *];first|exact bh.err ho|exact bh.set rfl rfl)
 ·have a:decide ((g.2.1.aO:Int)=0)=false:=aeq (by omega);cases c:g.2.1.share with
  |true=>
   rw[c]at f;have k: (g.2.1.aO≠0/\g.2.1.share=false)=False:=aBa λq=>by rw[c]at q;cases q.2
   simp only[F1,go_sem,simprocAttr,Fx,h,ho.g,ho.s,↓CL,CS,f,s,↓o,d,r,e,a,MB,λH=>ig g.2.2 H,ef,eg,EP,OL h];clear j a c
   (repeat' (first| (refine⟨?_,?_⟩)|intro _))<;>(simp only[ni,n,k,ai5];simp only[gZ,okB,dj, *];first|exact bh.err ho|exact bh.set rfl rfl)
  |false=>
   rw[c]at f;have k: (g.2.1.aO≠0/\g.2.1.share=false)=True:=aBg ⟨j,c⟩;simp only[F1,go_sem,simprocAttr,Fx,h,ho.g,ho.s,ho.g2,ho.s2,↓CL,CS,f,s,↓o,d,r,e,a,hw,aiQ,MB,λH=>ig g.2.2 H,ef,eg,EP,jw,OL h];clear j a c
   (repeat' (first| (refine⟨?_,?_⟩)|intro _))<;>(simp only[ni,n,k,ag6];simp only[mG,aiQ,gZ,okB,dj, *];first|exact bh.err ho|exact bh.nu|exact bh.set rfl rfl)
end
def auM(c:fC t.b): (kK t a n).2.1<4294967296:=by
 unfold kK;split
 ·simp
 ·split
  ·simp
  ·split
   ·rename_i i b;exact FV (rP b).1 (c i).1
   grind
def aiS(b:fC t.b): (gN t a n).2.1<4294967296:=by
 unfold gN;dsimp only;split
 ·simp
 ·exact auM b
section
variable{x:au}{bk:AV}{p:Nat}{H:List ae}{lo:oN}(ho:Old p H (.box (a0 x bk) none))(hx:ns x)
include ho hx
theorem auN: ∃i,D XA (.fn (.func 225) [] []) [.ptr p 0] ⟨H,lo⟩=some i/\bh x.back bk p H lo (nZ x) i:=by
 refine cE KE λN d=>?_
 have j:=hx.t;have g:=λH lo=>lx (as3 x.s.T hx.s.T hx.s.tr x.c.r (min x.c.a 65) hx.c.r H lo)
 have em: ((min x.c.a 65:Nat):Int)=min (x.c.a:Int) 65:=by omega
 have e:bm (x.t (gN x.s.T x.c.r (min x.c.a 65)).1).s:=hx.s.wy (hx.s.fa.new _ _ hx.c.r);have f: (gN x.s.T x.c.r (min x.c.a 65)).2.1<4294967296:=aiS hx.s.T.b;have hw:=λB lo=>L5 (x:=x.t (gN x.s.T x.c.r (min x.c.a 65)).1) (bk:=bk) ((ho.set _).app B) lo e _ f x.aa (by omega)
 have h:=λH=>ig (gN x.s.T x.c.r (min x.c.a 65)).2.2 H
 have e1:nZ x=(if x.c.r≠0 then fV x x.c.r 1 else .ok ())>>=λ_=>bg (gN x.s.T x.c.r (min x.c.a 65)).2.2>>=λ_=>(if x.c.r=0 then mG (x.t (gN x.s.T x.c.r (min x.c.a 65)).1) (gN x.s.T x.c.r (min x.c.a 65)).2.1 x.aa else .ok (x.t (gN x.s.T x.c.r (min x.c.a 65)).1))>>=λy=>.ok (y,{bL with w:=(gN x.s.T x.c.r (min x.c.a 65)).2.1}):=by
  unfold nZ;by_cases q:x.c.r=0
  ·rw[adU (by simpa using q),adU (by simpa using q)];simp only[adY q];rfl
  ·rw[adY (by simpa using q),adY (by simpa using q)];simp only[adU q];rfl
 simp only[Al,em]at g;generalize gN x.s.T x.c.r (min x.c.a 65)=n at*;rw[e1];by_cases b:x.c.r=0
 ·have a:decide ((x.c.r:Int)=0)=true:=aet (by omega);have c: (x.c.r≠0)=False:=aBa λq=>q b
  have e3: (x.c.r=0)=True:=aBg b;simp only[c,e3,ai5,ag6];simp(disch:=omega) only[F1,go_sem,simprocAttr,KE,d,ho.g,ho.s,ho.g2,ho.s2,↓CL,CS,g,a,h,hw,wz,c9,ef,eg,EP,OL d];clear b a c e3
  (repeat' (first| (refine⟨?_,?_⟩)|intro _))<;>(simp only[mG,wz,gZ,okB,dj, *];first|exact bh.err ho|exact bh.nu|exact bh.set rfl rfl)
 ·have a:decide ((x.c.r:Int)=0)=false:=aeq (by omega);have c: (x.c.r≠0)=True:=aBg b;have e3: (x.c.r=0)=False:=aBa b;simp only[c,e3,ai5,ag6];simp(disch:=omega) only[F1,go_sem,simprocAttr,KE,d,ho.g,ho.s,ho.g2,↓CL,CS,M1 ho hx x.c.r hx.c.r,g,a,h,wz,c9,ef,eg,EP,OL d];clear b a c e3
  (repeat' (first| (refine⟨?_,?_⟩)|intro _))<;>(simp only[okB,dj, *];first|exact bh.err ho|exact bh.nu|exact bh.set rfl rfl)
theorem auO: ∃I,D XA (.fn (.func 236) [] []) [.ptr p 0] ⟨H,lo⟩=some I/\bh x.back bk p H lo (oZ x) I:=by
 refine cE zP λN h=>?_
 have M:=hx.t;have l:=λB lo=>L3 (ho.app B) lo x.c.a
 by_cases G:x.c.a<8
 ·have y: ∀b H lo,D XA (.fn (.func 116) [] []) [.bool b,.int .i64 2] ⟨H,lo⟩=_:=λb=>lZ b 2
  have v: ∀b H lo,D XA (.fn (.func 116) [] []) [.bool b,.int .i64 4] ⟨H,lo⟩=_:=λb=>lZ b 4
  have u: ∀b H lo,D XA (.fn (.func 116) [] []) [.bool b,.int .i64 5] ⟨H,lo⟩=_:=λb=>lZ b 5
  have L:decide (x.c.b<=1)=decide ((x.c.b:Int)<=1):=afR.2 (by omega);have s:decide (x.c.b=1)=decide ((x.c.b:Int)=1):=afR.2 (by omega);have d:=λH lo=>lx (eU x.s.T.b x.c.r hx.c.r H lo)
  have C:az x.s.T.b x.c.r=x.s.T.az x.c.r:=rfl;rw[C]at d;have o:=λH lo=>ly (atC x.s.K hx.s.K ⟨x.c.r,x.aa % 256,x.c.a % 256,decide (x.c.b=1),x.c.s⟩ ⟨hx.c.r,aoc _ (by omega),aoc _ (by omega),hx.c.s⟩ H lo)
  have F:x.aa % 256=x.aa:=aop (by omega);have E:x.c.a % 256=x.c.a:=aop (by omega);simp only[oi,F,E,s]at o;have t:=λH=>ig (lR x.s.K ⟨x.c.r,x.aa,x.c.a,decide ((x.c.b:Int)=1),x.c.s⟩).2.2 H
  have k:=λH lo=>lx (CA x.s.O hx.s.O x.s.T hx.s.T hx.s.tr x.c.r hx.c.r H lo)
  have A:=hx.s.O.of x.s.T x.c.r;have j:=λH lo=>lx (CB x.s.K hx.s.K x.c.s hx.c.s H lo)
  have z:=hx.s.K.get x.c.s;have e1:oZ x=mF x x.c.a>>=λ_=>ask (decide ((x.c.b:Int)<=1)) 2>>=λ_=>ask (x.s.T.az x.c.r) 4>>=λ_=>(if x.c.s=0 then ask (decide ((ca x.s.O x.s.T x.c.r).kind=1)&&decide ((ca x.s.O x.s.T x.c.r).aa=x.aa)) 5 else bg (cb x.s.K x.c.s).2>>=λ_=>ask (decide ((cb x.s.K x.c.s).1.to=x.aa)&&decide ((cb x.s.K x.c.s).1.aO=x.c.r)) 5)>>=λ_=>
    bg (lR x.s.K ⟨x.c.r,x.aa,x.c.a,decide ((x.c.b:Int)=1),x.c.s⟩).2.2>>=λ_=>.ok (x.k (lR x.s.K ⟨x.c.r,x.aa,x.c.a,decide ((x.c.b:Int)=1),x.c.s⟩).1,{bL with w:=(lR x.s.K ⟨x.c.r,x.aa,x.c.a,decide ((x.c.b:Int)=1),x.c.s⟩).2.1}):=by
   unfold oZ;rw[L,s,F,E];by_cases q:x.c.s=0
   ·simp only[adY q];rfl
   ·simp only[adU q];cases mF x x.c.a with
    |error e=>rfl
    |ok _=>
     simp only[okB];cases ask (decide ((x.c.b:Int)<=1)) 2 with
     |error e=>rfl
     |ok _=>
      simp only[okB];cases ask (x.s.T.az x.c.r) 4 with
      |error e=>rfl
      |ok _=>
       simp only[okB];cases bg (cb x.s.K x.c.s).2<;>rfl
  rw[e1];generalize lR x.s.K ⟨x.c.r,x.aa,x.c.a,decide ((x.c.b:Int)=1),x.c.s⟩=g at*;generalize ca x.s.O x.s.T x.c.r=w at*;generalize cb x.s.K x.c.s=tg at*;simp only[j0]at k;by_cases m:x.c.s=0
  ·have c:decide ((x.c.s:Int)=0)=true:=aet (by omega);have e3: (x.c.s=0)=True:=aBg m;simp only[e3,ag6];by_cases f:w.kind=1
   ·have a:decide ((w.kind:Int)=1)=true:=aet (by omega);have r:decide (w.aa=x.aa)=decide ((w.aa:Int)=x.aa):=afR.2 (by omega);have J:=A.aa;simp only[f,r,decide_true,amq];simp(disch:=omega) only[F1,go_sem,simprocAttr,zP,h,ho.g,ho.s,↓CL,CS,l,y,d,v,c,k,a,u,o,t,qH,ef,eg,EP,jw,OL h];clear m c e3 f a r
    (repeat' (first| (refine⟨?_,?_⟩)|intro _))<;>(simp only[okB,dj, *];first|exact bh.err ho|exact bh.nu|exact bh.set rfl rfl)
   ·have a:decide ((w.kind:Int)=1)=false:=aeq (by omega);have i:decide (w.kind=1)=false:=aeq f;simp only[i,aho];simp(disch:=omega) only[F1,go_sem,simprocAttr,zP,h,ho.g,ho.s,↓CL,CS,l,y,d,v,c,k,a,u,o,t,qH,ef,eg,EP,jw,OL h];clear m c e3 f a i
    (repeat' (first| (refine⟨?_,?_⟩)|intro _))<;>(simp only[okB,dj, *];first|exact bh.err ho|exact bh.nu|exact bh.set rfl rfl)
  ·have c:decide ((x.c.s:Int)=0)=false:=aeq (by omega);have e3: (x.c.s=0)=False:=aBa m;simp only[e3,ai5];simp only[fT]at j;have K:=z.to;have n:=λH=>ig tg.2 H
   by_cases f:tg.1.to=x.aa
   ·have a:decide ((tg.1.to:Int)=x.aa)=true:=aet (by omega);have r:decide (tg.1.aO=x.c.r)=decide ((tg.1.aO:Int)=x.c.r):=afR.2 (by omega);have i:decide (tg.1.to=x.aa)=true:=aet f;simp only[i,r,amq];simp(disch:=omega) only[F1,go_sem,simprocAttr,zP,h,ho.g,ho.s,↓CL,CS,l,y,d,v,c,j,n,a,u,o,t,qH,ef,eg,EP,jw,OL h];clear m c e3 f a i r
    (repeat' (first| (refine⟨?_,?_⟩)|intro _))<;>(simp only[okB,dj, *];first|exact bh.err ho|exact bh.nu|exact bh.set rfl rfl)
   ·have a:decide ((tg.1.to:Int)=x.aa)=false:=aeq (by omega);have i:decide (tg.1.to=x.aa)=false:=aeq f;simp only[i,aho];simp(disch:=omega) only[F1,go_sem,simprocAttr,zP,h,ho.g,ho.s,↓CL,CS,l,y,d,v,c,j,n,a,u,o,t,qH,ef,eg,EP,jw,OL h];clear m c e3 f a i
    (repeat' (first| (refine⟨?_,?_⟩)|intro _))<;>(simp only[okB,dj, *];first|exact bh.err ho|exact bh.nu|exact bh.set rfl rfl)
 ·rw[yd G]at l;simp(disch:=omega) only[F1,go_sem,simprocAttr,zP,h,ho.g,↓CL,l,ez,EP];simp only[oZ,dj,yd G];exact bh.err ho
end
section
variable{x:au}{bk:AV}{p:Nat}{H:List ae}{lo:oN}(ho:Old p H (.box (a0 x bk) none))(hx:ns x)
include ho hx
theorem auP: ∃E,D XA (.fn (.func 238) [] []) [.ptr p 0] ⟨H,lo⟩=some E/\bh x.back bk p H lo (mH x) E:=by
 refine cE zQ λN f=>?_
 have G:=hx.t;have l:=λB lo=>L3 (ho.app B) lo x.c.a
 by_cases u:x.c.a<8
 ·have w: (x.c.a:Int)<8:=by omega
  have v:784+x.c.a*19<=945:=by omega
  have t:=λ (y:au) bk=> @LU y bk x.c.a u
  have d:=λ (y:au) bk b=> @LV y bk x.c.a b u
  have z: ∀b H lo,D XA (.fn (.func 116) [] []) [.bool b,.int .i64 2] ⟨H,lo⟩=_:=λb=>lZ b 2
  have i:decide (x.c.b<=1)=decide ((x.c.b:Int)<=1):=afR.2 (by omega);have g:x.aa % 256=x.aa:=aop (by omega);have F:=hx.c.v;by_cases h:x.c.r=0
  ·have a:decide ((x.c.r:Int)=0)=true:=aet (by omega);have j: (x.c.r≠0)=False:=aBa λq=>q h
   have es: (decide (x.c.r≠0)&&decide (x.c.b=1))=false:=by rw[aeq (by simpa using h)];rfl
   have e:=λH lo=>lx (TS (x.s.de x.c.a) (hx.s.bx _) ⟨x.aa,x.c.v,x.c.r,false⟩ H lo)
   simp only[pt]at e;have m:=λH=>ig (nf (x.s.de x.c.a) ⟨x.aa,x.c.v,x.c.r,false⟩).2 H
   simp(disch:=omega) only[F1,go_sem,simprocAttr,zQ,f,ho.g,ho.s,↓CL,CS,l,z,a,w,v,↓t,d,e,m,MB,ef,eg,EP,OL f];simp only[mH,es,afE,ai5,i,g];simp only[j,ai5];clear h a j es i g
   (repeat' (first| (refine⟨?_,?_⟩)|intro _))<;>(simp only[gZ,okB,dj, *];first|exact bh.err ho|exact bh.nu|exact bh.set rfl rfl)
  ·have a:decide ((x.c.r:Int)=0)=false:=aeq (by omega);have j: (x.c.r≠0)=True:=aBg h;by_cases s:x.c.b=1
   ·have c:decide ((x.c.b:Int)=1)=true:=aet (by omega);have es: (decide (x.c.r≠0)&&decide (x.c.b=1))=true:=by rw[aet (by simpa using h),aet s];rfl
    have r:=λH lo=>lx (ahK x.s.O hx.s.O x.s.T hx.s.T hx.s.tr x.c.r hx.c.r x.c.a (by omega) H lo)
    have e:=λH lo=>lx (TS (x.s.de x.c.a) (hx.s.bx _) ⟨x.aa,x.c.v,x.c.r,true⟩ H lo)
    simp only[pt]at e;have m:=λH=>ig (nf (x.s.de x.c.a) ⟨x.aa,x.c.v,x.c.r,true⟩).2 H
    by_cases k: (dC x.s.O x.s.T x.c.r x.c.a true).2.2=0
    ·have k':decide (((dC x.s.O x.s.T x.c.r x.c.a true).2.2:Int)=0)=true:=aet (by omega);simp(disch:=omega) only[F1,go_sem,simprocAttr,zQ,f,ho.g,ho.s,ho.g2,ho.s2,↓CL,CS,l,z,a,c,λB lo=>Gl (ho.app B) lo hx.s hx.t x.c.r hx.c.r,r,k',w,v,↓t,d,e,m,MB,gQ,L6,ef,eg,EP,OL f];simp only[mH,es,ag6,i,g,Cp];have n: ((dC x.s.O x.s.T x.c.r x.c.a true).2.2=0)=True:=aBg k;simp only[n,ag6];clear h a j es i g k k' n s c
     (repeat' (first| (refine⟨?_,?_⟩)|intro _))<;>(simp only[L6,gZ,okB,dj, *];first|exact bh.err ho|exact bh.nu|exact bh.set rfl rfl)
    ·have k':decide (((dC x.s.O x.s.T x.c.r x.c.a true).2.2:Int)=0)=false:=aeq (by omega);simp(disch:=omega) only[F1,go_sem,simprocAttr,zQ,f,ho.g,ho.s,↓CL,CS,l,z,a,c,λB lo=>Gl (ho.app B) lo hx.s hx.t x.c.r hx.c.r,r,k',w,v,↓t,d,e,m,MB,gQ,ef,eg,EP,OL f];simp only[mH,es,ag6,i,g,Cp];have n: ((dC x.s.O x.s.T x.c.r x.c.a true).2.2=0)=False:=aBa k;simp only[n,ai5];clear h a j es i g k k' n s c
     (repeat' (first| (refine⟨?_,?_⟩)|intro _))<;>(simp only[gZ,okB,dj, *];first|exact bh.err ho|exact bh.nu|exact bh.set rfl rfl)
   ·have c:decide ((x.c.b:Int)=1)=false:=aeq (by omega);have es: (decide (x.c.r≠0)&&decide (x.c.b=1))=false:=by rw[aeq s,aqw]
    have o:=hx.s.fa.cut x.c.r;have A:=λH lo=>lx (atp x.s.O (iT x.s.T x.c.r).1 o.ok o.tr x.c.r hx.c.r H lo)
    have C:=λH=>ig (xO x.s.O (iT x.s.T x.c.r).1 x.c.r).2 H
    have e:=λH lo=>lx (TS (x.s.de x.c.a) (hx.s.bx _) ⟨x.aa,x.c.v,x.c.r,false⟩ H lo)
    simp only[pt]at e;have m:=λH=>ig (nf (x.s.de x.c.a) ⟨x.aa,x.c.v,x.c.r,false⟩).2 H
    simp(disch:=omega) only[F1,go_sem,simprocAttr,zQ,f,ho.g,ho.s,ho.g2,ho.s2,↓CL,CS,l,z,a,c,M2 ho hx x.c.r hx.c.r,λB lo=>T2 (ho.app B) lo hx.s x.c.r hx.c.r,A,C,w,v,↓t,d,e,m,MB,gQ,L6,wz,ef,eg,EP,OL f];simp only[mH,es,afE,ai5,i,g];simp only[j,ag6];clear h a j es i g s c
    (repeat' (first| (refine⟨?_,?_⟩)|intro _))<;>(simp only[uA,wz,L6,gZ,okB,dj, *];first|exact bh.err ho|exact bh.nu|exact bh.set rfl rfl)
 ·rw[yd u]at l;simp(disch:=omega) only[F1,go_sem,simprocAttr,zQ,f,ho.g,↓CL,l,ez,EP];simp only[mH,dj,yd u];exact bh.err ho
end
theorem T4{r:cP}{l:List aC}:aM (bM r) 2 [ed l,.int .i64 n]=bM {r with runs:=l,len:=n}:=rfl
def aiT(l:List aC)(r:aC):aI (l++[r])=aI l+r.2:=by unfold aI;simp
def CO{l:List aC}{s:Nat}(h:gy l n s a=some k):k+s<=aI l*32:=by
 unfold gy at h
 grind
section
variable{x:au}{bk:AV}{p:Nat}{H:List ae}{lo:oN}(ho:Old p H (.box (a0 x bk) none))(hx:ns x)
include ho hx
theorem auQ: ∃cr,D XA (.fn (.func 226) [] []) [.ptr p 0] ⟨H,lo⟩=some cr/\bh x.back bk p H lo (ic x) cr:=by
 refine cE zO λN G=>?_
 have ht:=hx.t;have o: ((min x.c.a 129:Nat):Int)=min (x.c.a:Int) 129:=by omega
 have m: ((min x.c.b 9:Nat):Int)=min (x.c.b:Int) 9:=by omega
 have u:min x.c.a 129<2147483648:=by omega
 have F:min x.c.b 9<2147483648:=by omega
 have d:=λH lo=>lx (asX (min x.c.a 129) (min x.c.b 9) u F H lo)
 have T: ∀b H lo,D XA (.fn (.func 116) [] []) [.bool b,.int .i64 2] ⟨H,lo⟩=_:=λb=>lZ b 2
 have W: ∀b H lo,D XA (.fn (.func 116) [] []) [.bool b,.int .i64 6] ⟨H,lo⟩=_:=λb=>lZ b 6
 have E:=M1 ho hx x.c.r hx.c.r;have z:=λB lo=>L4 (ho.app B) lo hx.s x.c.r hx.c.r
 have I:=hx.s.T.get x.c.r;have a:=I.rb;have vJ:=I.len;have J: ∀l:List aC,(ed l).refs=0:=λl=>cY (mz l) (bB (λ_=>rfl) l)
 have hrp:=I.aI;cases C:nh (min x.c.a 129) (min x.c.b 9)with
 |none=>
  rw[C]at d;simp only[o,m]at d;simp(disch:=omega) only[F1,go_sem,simprocAttr,zO,G,ho.g,↓CL,d,T,ask,ez,EP];simp only[ic,C,dj];exact bh.err ho
 |some n=>
  have hn5:n<=5:=by
   unfold nh at C;split at C
   ·cases C;omega
   ·cases C
  have f:=λH lo=>lx (ahy (ed (aG x.s.T x.c.r).1.runs) (aG x.s.T x.c.r).1.len (aG x.s.T x.c.r).1.runs (by omega) (mz _) a.1 (min x.c.a 129) (min x.c.b 9) u F H lo)
  have i:=λH lo=>lx (ahz (ed (aG x.s.T x.c.r).1.runs) (aG x.s.T x.c.r).1.len (aG x.s.T x.c.r).1.runs (by omega) (mz _) a.1 (min x.c.a 129) (min x.c.b 9) u F H lo)
  rw[C]at d;cases O:gy (aG x.s.T x.c.r).1.runs (aG x.s.T x.c.r).1.len (min x.c.a 129) (min x.c.b 9)with
  |some k=>
   have hk:=CO O;have V:wm (aG x.s.T x.c.r).1.runs (aG x.s.T x.c.r).1.len (min x.c.a 129) (min x.c.b 9)=k+min x.c.a 129:=by unfold wm;rw[O]
   have e:=λB lo=>T3 (ho.app B) lo hx.s x.c.r hx.c.r {(aG x.s.T x.c.r).1 with len:=k+min x.c.a 129} a.1 (by have:=a.2;show(aG x.s.T x.c.r).1.runs.length<=65;omega) (by show k+min x.c.a 129<4294967296;omega)
   rw[V,O]at i;simp only[O,xX]at f;generalize hsv:min x.c.a 129=sz at*;generalize hav:min x.c.b 9=al at*;have U:aM (bM (aG x.s.T x.c.r).1) 2 [ed (aG x.s.T x.c.r).1.runs,.int .i64 ((k:Int)+sz)]=bM {(aG x.s.T x.c.r).1 with len:=k+sz}:=by
    rw[<-anW];exact T4
   simp(disch:=omega) only[F1,go_sem,simprocAttr,zO,G,ho.g,ho.s,↓CL,d,T,E,z,f,i,e,U,J,<-o,<-m,jt,ef,eg,EP,jw,OL G];have L:=As (x:=x) (h:=x.c.r) (w:=1)
   (repeat' (first| (refine⟨?_,?_⟩)|intro _))<;>first
     | (simp only[ic,ng,gZ,okB,dj, *];first|exact bh.err ho|exact bh.set rfl rfl)
     | (exfalso;simp_all[ask])
  |none=>
   have A:=λH lo=>lx (Gc (ed (aG x.s.T x.c.r).1.runs) (aG x.s.T x.c.r).1.len (aG x.s.T x.c.r).1.runs (mz _) a.1 H lo)
   have M:=λH lo=>lx (as1 (ed (aG x.s.T x.c.r).1.runs) (aG x.s.T x.c.r).1.len (aG x.s.T x.c.r).1.runs (mz _) a.1 x.run H lo)
   have g:RB ((aG x.s.T x.c.r).1.runs++[x.run]):=⟨by have:=a.2;simp;omega,λy hy=>by
    rcases aev.1 hy with q|q
    ·exact a.1.2 y q
    ·rw[afC.1 q];exact hx.run⟩
   have S: ((aG x.s.T x.c.r).1.runs++[x.run]).length<=65:=by have:=a.2;simp;omega
   have Bp:=aiT (aG x.s.T x.c.r).1.runs x.run;have j:aI (aG x.s.T x.c.r).1.runs*32<4294967296:=by omega
   have R:=λH lo=>lx (ahx (ed ((aG x.s.T x.c.r).1.runs++[x.run])) (aI (aG x.s.T x.c.r).1.runs*32) ((aG x.s.T x.c.r).1.runs++[x.run]) j (mz _) g S H lo)
   have i:=λH lo=>lx (ahz (ed ((aG x.s.T x.c.r).1.runs++[x.run])) (aI (aG x.s.T x.c.r).1.runs*32) ((aG x.s.T x.c.r).1.runs++[x.run]) j (mz _) g (min x.c.a 129) (min x.c.b 9) u F H lo)
   have K:decide (aI (aG x.s.T x.c.r).1.runs+n<=(aG x.s.T x.c.r).1.di)=decide (((aI (aG x.s.T x.c.r).1.runs:Nat):Int)+n<=(aG x.s.T x.c.r).1.di):=afR.2 (by omega);have t:IntKind.i64.wrap ((aI (aG x.s.T x.c.r).1.runs:Nat)+(n:Int))=(aI (aG x.s.T x.c.r).1.runs:Nat)+(n:Int):=wrap_i64 (by omega) (by omega);simp only[O,xX]at f;cases has:x.asks with
   |true=>
    simp(disch:=omega) only[F1,go_sem,simprocAttr,zO,G,ho.g,ho.s,ho.g2,↓CL,CS,d,T,W,E,z,f,A,t,has,<-o,<-m,jt,ef,eg,EP,jw,OL G];have L:=As (x:=x) (h:=x.c.r) (w:=1)
    (repeat' (first| (refine⟨?_,?_⟩)|intro _))<;>first
      | (simp only[ic,gZ,okB,dj,ag6, *];first|exact bh.err ho|exact bh.set rfl rfl)
      | (exfalso;simp_all[ask])
   |false=>
    by_cases Z:x.run.2=n
    ·have r:decide ((x.run.2:Int)=n)=true:=aet (by omega);have Q:wm ((aG x.s.T x.c.r).1.runs++[x.run]) (aI (aG x.s.T x.c.r).1.runs*32) (min x.c.a 129) (min x.c.b 9)<4294967296:=by
      unfold wm;split
      ·rename_i q;have:=CO q;omega
      ·omega
     have P:IntKind.u64.wrap (((gy ((aG x.s.T x.c.r).1.runs++[x.run]) (aI (aG x.s.T x.c.r).1.runs*32) (min x.c.a 129) (min x.c.b 9)).getD 0:Nat):Int)=((gy ((aG x.s.T x.c.r).1.runs++[x.run]) (aI (aG x.s.T x.c.r).1.runs*32) (min x.c.a 129) (min x.c.b 9)).getD 0:Nat):=by
      cases q:gy ((aG x.s.T x.c.r).1.runs++[x.run]) (aI (aG x.s.T x.c.r).1.runs*32) (min x.c.a 129) (min x.c.b 9)with
      |none=>rfl
      |some k=>have:=CO q;exact wrap_u64 (by simp) (by simp;omega)
     have e1:ic x=fV x x.c.r 1>>=λ_=>bg (aG x.s.T x.c.r).2>>=λ_=>ask (decide (((aI (aG x.s.T x.c.r).1.runs:Nat):Int)+n<=(aG x.s.T x.c.r).1.di)) 6>>=λ_=>ask (qw ((aG x.s.T x.c.r).1.runs++[x.run]) (aI (aG x.s.T x.c.r).1.runs*32)) 2>>=λ_=>
       ng {s:=x.s,aa:=x.aa,c:=x.c,run:=x.run,lT:=n,asks:=false,back:=x.back} x.c.r {(aG x.s.T x.c.r).1 with runs:=(aG x.s.T x.c.r).1.runs++[x.run],len:=wm ((aG x.s.T x.c.r).1.runs++[x.run]) (aI (aG x.s.T x.c.r).1.runs*32) (min x.c.a 129) (min x.c.b 9)}>>=λy=>
       .ok (y,{bL with v:=(gy ((aG x.s.T x.c.r).1.runs++[x.run]) (aI (aG x.s.T x.c.r).1.runs*32) (min x.c.a 129) (min x.c.b 9)).getD 0}):=by
      unfold ic;simp only[C,O,K,has,Z,decide_true,amq,afE,ai5,gZ,okB];rfl
     have e:=λB lo=>T3 (x:={s:=x.s,aa:=x.aa,c:=x.c,run:=x.run,lT:=n,asks:=false,back:=x.back}) (bk:=bk) ((ho.set _).app B) lo hx.s x.c.r hx.c.r
      {(aG x.s.T x.c.r).1 with runs:=(aG x.s.T x.c.r).1.runs++[x.run],len:=wm ((aG x.s.T x.c.r).1.runs++[x.run]) (aI (aG x.s.T x.c.r).1.runs*32) (min x.c.a 129) (min x.c.b 9)} g S Q
     simp(disch:=omega) only[F1,go_sem,simprocAttr,zO,G,ho.g,ho.s,ho.g2,ho.s2,↓CL,CS,d,T,W,E,z,f,A,M,t,has,J,r,R,i,e,P,T4,<-o,<-m,jt,ef,eg,EP,jw,OL G];have L:=As (x:=x) (h:=x.c.r) (w:=1);rw[e1];clear e Q P r e1 R i M A K t j
     (repeat' (first| (refine⟨?_,?_⟩)|intro _))<;>first
       | (simp only[ng,gZ,okB,dj, *];first|exact bh.err ho|exact bh.nu|exact bh.set rfl rfl)
       | (exfalso;simp_all[ask])
    ·have r:decide ((x.run.2:Int)=n)=false:=aeq (by omega);have e1:ic x=fV x x.c.r 1>>=λ_=>bg (aG x.s.T x.c.r).2>>=λ_=>ask (decide (((aI (aG x.s.T x.c.r).1.runs:Nat):Int)+n<=(aG x.s.T x.c.r).1.di)) 6>>=λ_=>.error 2:=by
      unfold ic;simp only[C,O,K,has,aeq Z,aho,afE,ai5,gZ,okB];rfl
     have Y: ∀H lo,D XA (.fn (.func 116) [] []) [.bool false,.int .i64 2] ⟨H,lo⟩=_:=λH lo=>lx (Ao 2 H lo)
     have X: ∀H lo,D XA (.fn (.func 116) [] []) [.bool true,.int .i64 2] ⟨H,lo⟩=_:=λH lo=>lx (Gi 2 H lo)
     simp(disch:=omega) only[F1,go_sem,simprocAttr,zO,G,ho.g,ho.s,ho.g2,↓CL,CS,d,Y,X,W,E,z,f,A,M,t,has,J,r,T4,<-o,<-m,jt,ef,eg,EP,jw,OL G];have L:=As (x:=x) (h:=x.c.r) (w:=1);rw[e1]
     (repeat' (first| (refine⟨?_,?_⟩)|intro _))<;>first
       | (simp only[okB,dj, *];first|exact bh.err ho|exact bh.nu|exact bh.set rfl rfl)
       | (exfalso;simp_all[ask])
end
structure bT(p:Nat)(H H':List ae):Prop where
 len:H.length<=H'.length
 low: ∀i,i<p->H'[i]?=H[i]?
 box: ∀i o,i≠p->(∀a d,o≠ .row a 2 eZ d)->H[i]?=some o->H'[i]?=some o
theorem bT.refl(p:Nat)(H:List ae):bT p H H:=⟨afA _,λ_ _=>rfl,λ_ _ _ _ h=>h⟩
theorem bT.trans{A B C:List ae}(h:bT p A B)(g:bT p B C):bT p A C:=
 ⟨ahk h.len g.len,λi a=>(g.low i a).trans (h.low i a),λi o a ho b=>g.box i o a ho (h.box i o a ho b)⟩
def bT.app(p:Nat)(H L:List ae)(a:p<H.length):bT p H (H++L):=⟨by simp,λi b=>adf (by omega),λi o _ _ h=>aZ h⟩
theorem bT.set(p:Nat)(H:List ae)(o:ae):bT p H (H.set p o):=⟨by simp,λi a=>adb (by omega),λi w a _ h=>by grind⟩
theorem bT.take{N:Nat}{A B:List ae}(h:bT p A B)(d:A.length=N)(c:p<N):bT p A (B.take N):=⟨by rw[afS];have:=h.len;omega,λi a=>by rw[afT (by omega)];exact h.low i a,λi o a ho b=>by
 have:=(adg.1 b).1;rw[afT (by omega)];exact h.box i o a ho b⟩
def bT.own{N:Nat}{A B:List ae}{ty:TypeId}(h:bT p A B)(ho:aQ N A v sz ty af)(k:p<N)(j:sz≠2):aQ N B v sz ty af:=by
 obtain⟨i,b⟩:=ho;refine⟨i,?_⟩;rcases b with b| ⟨id,ak,g,f,c⟩
 ·grind
 ·exact .inr ⟨id,ak,g,f,h.box id _ (by omega) (λa d e=>by grind) c⟩
def aiU{E:AS}(l:List aC):Den.elems E 2 (ed l)=some (l.map aA):=by
 unfold ed;split
 ·rename_i h;rw[aCj.1 h];rfl
 ·exact aqk (by simp[SP])
structure At(p:Nat)(x:au)(bk:AV)(H:List ae):Prop where
 box:H[p]?=some (.box (a0 x bk) none)
 own:aQ (p+1) H bk 2 eZ (x.back.map aA)
def wA(Q:Prop)(p:Nat)(H H':List ae)(lo aj:oN):Prop:=(aj=lo/\H'.length=H.length/\Q)\/aj=cJ lo p
def aiV(l:lN): ∀x:au,(l.foldl gO x).s.T=x.s.T:=by
 induction l with
 |nil=>simp
 |cons h l a=>intro x;exact a _
def T5(l:lN): ∀x:au,bm x.s->bm (l.foldl gO x).s:=by
 induction l with
 |nil=>simp
 |cons h l b=>intro x a;exact b _ (a.Aq (a.tok.clear h))
def aiW(l:lN): ∀x:au,bP x.s.T->(l.foldl gO x).back.length<=x.back.length+64*l.length:=by
 induction l with
 |nil=>simp
 |cons h l b=>
  intro x a;have e:=b (gO x h) a;have d: (gO x h).back.length=x.back.length+(aG x.s.T h).1.runs.length:=by simp[gO]
  have c:=(a.get h).rb.2
  grind
def auR{x:au}{l:lN}{k:Nat}(h:k<l.length): (l.take (k+1)).foldl gO x=gO ((l.take k).foldl gO x) (l.getD k default):=by grind [List.take_add_one,List.getElem?_eq_getElem,getD_eq]
def wB{H:List ae}(a:p<n):finish n lo v ⟨H,some p⟩=(v,⟨H,cJ lo p⟩):=by
 unfold finish;rw[adU (by grind)];rfl
def T6{H:List ae}(K:At p x bk H)(c:bm x.s)(h:Nat)(hh:h<4294967296)(hB:x.back.length+64*(under x.s.T h).length<=4294967296)(lo:oN):
  ∃a H' aj,D XA (.fn (.func 258) [] []) [.ptr p 0,.int .u32 h] ⟨H,lo⟩=some (.ret (.aw []) ⟨H',aj⟩)/\At p (gi x h) a H'/\bT p H H'/\wA (a=bk\/a= .aq) p H H' lo aj:=by
 suffices c: ∃S,D XA (.fn (.func 258) [] []) [.ptr p 0,.int .u32 h] ⟨H,lo⟩=some S/\ (λS=> ∃a H' aj,S=aU.ret (.aw []) ⟨H',aj⟩/\At p (gi x h) a H'/\bT p H H'/\wA (a=bk\/a= .aq) p H H' lo aj) S by
  obtain⟨S,h1,a,H',aj,rfl,h2⟩:=c;exact⟨a,H',aj,h1,h2⟩
 refine cE Ry λN X=>?_
 have f:p<N:=by rw[<-X];exact(adg.1 K.box).1
 obtain⟨v,J,L7,V,Z,u3⟩:=LC x.s.T c.T c.tr h hh N H X none;have V:=ly V;have hul:=F9 c.tr h;have b:=(jJ Z L7).bS;have hbp:=K.box;obtain⟨W0,m⟩: ∃W0,W0=H++J:=⟨_,rfl⟩;rw[<-m]at V Z b;have w0:W0[p]?=some (.box (a0 x bk) none):=by rw[m];exact aZ K.box
 have mn:bT p H W0:=by rw[m];exact bT.app p H J (by omega)
 simp only[↓R1,Zz,go_sem,simprocAttr,Ry,hbp,↓CL,V,b];refine iq (under x.s.T h).length (λk e U aj=> ∃a,U[p]?=some (.box (a0 (((under x.s.T h).take k).foldl gO x) a) none)/\aQ (p+1) U a 2 eZ ((((under x.s.T h).take k).foldl gO x).back.map aA)/\bT p H U/\aQ N U v 1 bY ((under x.s.T h).map hC)/\
  ((eH N aj/\aQ (p+1) (U.take N) a 2 eZ ((((under x.s.T h).take k).foldl gO x).back.map aA)/\ (a=bk\/a= .aq))\/aj=some p)/\e 0= .ptr p 0/\e 1= .int .u32 h/\e 15=v/\e 16= .int .i64 (under x.s.T h).length/\e 17= .int .i64 k) 0 (by omega) ?_ ?_
 ·simp only[↓apO,Zz,go_sem,simprocAttr];refine⟨bk,w0,by rw[m];exact K.own.ext,mn,Z,.inl ⟨eH.of u3,?_,.inl rfl⟩⟩;rw[m,aof X];exact K.own
 rintro k hk e T u ⟨a,E,p1,F,p3,p4,e0,e1,Q,P,O⟩ n hn;have jL:=T5 ((under x.s.T h).take k) x c;have d:=aiV ((under x.s.T h).take k) x;have DK:=aiW ((under x.s.T h).take k) x c.T;rw[afS]at DK;have OR:= @auR x (under x.s.T h) k;generalize hy: ((under x.s.T h).take k).foldl gO x=y at*;have A:Old p T (.box (a0 y a) none):=⟨E⟩;simp only[bX,↓R1,Zz,go_sem,simprocAttr,afh,E,↓CL,e0,e1,Q,P,O];refine⟨λhc=>?_,λhc=>?_⟩
 ·have B:k< (under x.s.T h).length:=by omega
  have hr:=jJ p3 u;have hg:=λH lo=>lx (r6 y.s.T (by rw[d];exact c.T) ((under x.s.T h).getD k default) (fU (LD c.T (fx B))) H lo)
  simp(disch:=omega) only[↓R1,↓MP,Zz,afy,go_sem,simprocAttr,hr.cp,hr.c7,↓pH,hn,E,A.g,↓CL,hg,lV,aiU,e0];have vJ:=(c.T.get ((under x.s.T h).getD k default)).rb.2;rw[d];generalize hR: (aG x.s.T ((under x.s.T h).getD k default)).1=R at*;refine⟨by omega,?_⟩;obtain⟨v',Y,q1,q2,q3,q4,q5⟩:=aQ.adi (bytes:=16) (ys:=R.runs.map aA) (lo:=u) (aQ.ext (L:=[ae.box (bM R) none]) p1) (by simp[hn];have:=F.len;omega) (by omega) (by intro el qY;obtain⟨r,_,rfl⟩:=afH.1 qY;rfl) (bB (λ_=>rfl) _) (by
   unfold room;simp only[afB];omega)
  have z:Y[p]?=some (.box (a0 y a) none):=by rw[q4 p (by omega)];exact A.g _
  have s:Old p Y (.box (a0 y a) none):=⟨z⟩;have ml:=λH lo=>ly (atE y.s.K jL.K ((under x.s.T h).getD k default) H lo)
  have hvt:v'.ck=false/\v'.cells=[v']:=by
   rcases q2.2 with⟨rfl,_⟩| ⟨_,_,_,rfl,_⟩<;>exact⟨rfl,rfl⟩
  rw[q1];simp(disch:=omega) only[↓apO,↓R1,Zz,afz,go_sem,simprocAttr,hvt,z,s.g1,↓CL,CS,ml,e0,e1,Q,P,O];rw[ak7,OR B];have l: (gO y ((under x.s.T h).getD k default)).back.map aA=y.back.map aA++R.runs.map aA:=by
   rw[<-afI];unfold gO;rw[d,hR]
  have f2:bT p (T++[ae.box (bM R) none]) Y:=⟨q3,λi hi=>q4 i (by omega),λi o _ ho hg=>q5 i o ho hg⟩;have f3:=(bT.app p T [ae.box (bM R) none] (by have:=F.len;omega)).trans (f2.trans (bT.set p Y (.box (a0 (gO y ((under x.s.T h).getD k default)) v') none)));refine⟨B,v',s.g1 _,?_,F.trans f3,f3.own p3 f (by omega),?_⟩
  ·rw[l];exact aQ.nq q2 z
  ·by_cases W:v'.refs<=p+1
   ·rw[adY W];have g:v'= .aq/\y.back.map aA++R.runs.map aA=[]:=by
     rcases q2.2 with q| ⟨id,ak,i1,i2,_⟩
     ·exact q
     ·rw[i2]at W;simp only[AV.refs]at W;omega
    rcases p4 with⟨G,_⟩|G
    ·refine .inl ⟨G,?_,.inr g.1⟩;rw[l,g.1,g.2];exact aQ.aq
    ·exact .inr G
   ·rw[adU W]
    right
    rcases p4 with⟨rfl| ⟨j,hj,rfl⟩,_⟩|rfl
    ·rfl
    ·exact ahl some (aqe (show p<=j by omega))
    ·exact ahl some (azC p)
 ·obtain rfl:k=(under x.s.T h).length:=by omega
  have M:bP y.s.T:=by rw[d];exact c.T
  obtain⟨w,C⟩:=asL y.s.T M (by rw[d];exact c.tr) h hh T u;have C:=ly C;have I:=A.set (.box (a0 (y.t (j6 y.s.T h).1) a) none);have e2:gi x h=y.t (j6 y.s.T h).1:=by
   unfold gi;rw[afK]at hy;rw[hy]
  simp only[↓R1,Zz,go_sem,simprocAttr,E,CS,C];rw[e2];rw[auv];have t:=F.trans (bT.set p T (.box (a0 (y.t (j6 y.s.T h).1) a) none));rcases p4 with⟨G,l2,l3⟩|rfl
  ·rw[ju G (aeu _)];refine⟨a,_,lo,rfl,⟨?_,?_⟩,t.take X f,.inl ⟨rfl,by rw[afS,afN];have:=F.len;omega,l3⟩⟩
   ·rw[afT f];exact I.at'
   ·rw[List.take_set];exact aQ.nq l2 (by rw[afT f];exact E)
  ·rw[wB f];exact⟨a,_,_,rfl,⟨I.at',aQ.nq p1 E⟩,t,.inr rfl⟩
abbrev Au(p:Nat)(H H':List ae)(lo aj:oN):Prop:=wA True p H H' lo aj
def uY(p:Nat)(H:List ae)(lo:oN):R (au×bA)->aU->Prop
 |.ok (y,r),a=> ∃b H' aj,a= .ret (.agg (bF r)) ⟨H',aj⟩/\At p y b H'/\bT p H H'/\Au p H H' lo aj
 |.error e,a=> ∃H' aj,a= .panic (jv e) ⟨H',aj⟩/\bT p H H'/\Au p H H' lo aj
def bh.c{H:List ae}(ha:At p x bk H){m:R (au×bA)}{c:aU}(h:bh x.back bk p H lo m c):uY p H lo m c:=by
 cases m with
 |ok a=>
  obtain⟨f,b⟩:=h;have d:=(adg.1 ha.box).1;exact⟨bk,_,lo,b,⟨by grind,by rw[f];exact aQ.nq ha.own ha.box⟩,bT.set _ _ _,.inl ⟨rfl,by simp,trivial⟩⟩
 |error e=>
  obtain⟨y,b⟩:=h;exact⟨_,lo,b,bT.set _ _ _,.inl ⟨rfl,by simp,trivial⟩⟩
def uY.err{H:List ae}:uY p H lo (.error e) (.panic (jv e) ⟨H,lo⟩):=⟨H,lo,rfl,bT.refl _ _,.inl ⟨rfl,rfl,trivial⟩⟩
theorem auU{N:Nat}{H B W:List ae}(r:H.length=N)(b:p<N)(l: ∀o∈B,∃cs tg,o=ae.box cs tg)(f:At p y bk W)(k:bT p (H++B) W)(i:W.length=(H++B).length):At p y bk (W.take N):=by
 refine⟨by rw[afT b];exact f.box,f.own.1,?_⟩;rcases f.own.2 with q| ⟨id,ak,n,m,h⟩
 ·grind
 ·by_cases j:id<N
  ·grind
  ·have c:=(adg.1 h).1;rw[i,aer]at c;have g: (H++B)[id]?=some B[id-N]:=by grind
   obtain⟨cs,tg,ho⟩:=l _ (ar6 (show id-N<B.length by omega));rw[ho]at g;have:=k.box id _ (by omega) (λa d e=>by cases e) g
   grind
def T7{N:Nat}{H B W:List ae}(b:bT p (H++B) W)(a:p<H.length):bT p H W:=(bT.app p H B a).trans b
def aiX{N:Nat}{H W:List ae}(e:H.length=N)(d:p<N)(b:bT p H W)(o:ae):bT p H (W.set N o):=
 ⟨by rw[afN];exact b.len,λi a=>by rw[adb (by omega)];exact b.low i a,λi w a hw c=>by
   have:=(adg.1 c).1;rw[adb (by omega)];exact b.box i w a hw c⟩
def Av{N:Nat}{H B W:List ae}{aj:oN}(i:H.length=N)(a:p<N)(n: ∀o∈B,∃cs tg,o=ae.box cs tg)(h:At p y bk W)(l:bT p (H++B) W)(d: (aj=none/\ (W.length=(H++B).length\/ (bk= .aq/\y.back=[]))/\Q)\/aj=cJ none p)(j:v.refs<=N)
  {cs:lA}  (g:W[N]?=some (.box cs tg)) (o:ae):
  ∃f b,finish N lo v ⟨W.set N o,aj⟩=(v,⟨f,b⟩)/\At p y bk f/\bT p H f/\wA Q p H f lo b:=by
 have c:=aiX i a (T7 (N:=N) l (by omega)) o;rcases d with⟨rfl,d,k⟩|rfl
 ·refine⟨_,lo,ju (.inl rfl) j,?_,c.take i a,.inl ⟨rfl,?_,k⟩⟩
  ·have:At p y bk (W.take N):=by
     rcases d with d| ⟨rfl,m⟩
     ·grind [auU]
     ·exact⟨by rw[afT a];exact h.box,by rw[m];exact aQ.aq⟩
   have e: (W.set N o).take N=W.take N:=by rw[List.take_set];exact List.set_eq_of_length_le (by grind)
   grind
  grind
 ·refine⟨_,cJ lo p,?_,⟨?_,aQ.nq h.own g⟩,c,.inr rfl⟩
  ·have:cJ none p=some p:=rfl;rw[this];exact wB a
  ·rw[adb (by omega)];exact h.box
def L8{N:Nat}{H B W:List ae}{aj:oN}(g:H.length=N)(c:p<N)(h:bT p (H++B) W)(f:aj=none\/aj=cJ none p)(e:v.refs<=N):
  ∃d b,finish N lo v ⟨W,aj⟩=(v,⟨d,b⟩)/\bT p H d/\Au p H d lo b:=by
 have a:=T7 (N:=N) h (by omega);rcases f with rfl|rfl
 ·refine⟨_,lo,ju (.inl rfl) e,a.take g c,.inl ⟨rfl,?_,trivial⟩⟩;rw[afS];have:=a.len;omega
 ·refine⟨_,cJ lo p,?_,a,.inr rfl⟩;exact wB c
def CP{cs:lA}: ∀o∈[ae.box cs tg],∃cs tg,o=ae.box cs tg:=by simp
section
variable{x:au}{bk:AV}{p:Nat}{H:List ae}(lo:oN)(ha:At p x bk H)(hx:ns x)
include ha hx
theorem auV(j:x.back.length+64*(under x.s.T x.c.r).length<=4294967296): ∃h,D XA (.fn (.func 230) [] []) [.ptr p 0] ⟨H,lo⟩=some h/\uY p H lo (rS x) h:=by
 refine cE Rl λN f=>?_
 have ho:Old p H (.box (a0 x bk) none):=⟨ha.box⟩;have c:p<N:=by rw[<-f];exact ho.lt
 obtain⟨l,W,aj,g1,g2,g,k⟩:=T6 (bk:=bk) (H:=H++[.box [.int .i64 0,.int .u64 0,.int .u32 0] none]) ⟨ho.g _,ha.own.ext⟩ hx.s x.c.r hx.c.r j none;have b:W[N]?=some (.box [.int .i64 0,.int .u64 0,.int .u32 0] none):=g.box N _ (by omega) (λa d e=>by cases e) (by grind);simp only[F1,go_sem,simprocAttr,Rl,f,ho.g,↓CL,M2 ho hx x.c.r hx.c.r,g1,b,cG b,ef,eg,EP];obtain⟨m,i,f1,f2,f3,f4⟩:=Av (v:=.agg [.int .i64 0,.int .u64 0,.int .u32 0]) (lo:=lo) f c CP g2 g (k.imp (λq=>⟨q.1,.inl q.2.1,trivial⟩) id) (aeu _) b (.box [.int .i64 0,.int .u64 0,.int .u32 0] none);rw[f1]
 (repeat' (first| (refine⟨?_,?_⟩)|intro _))
 ·simp only[rS,gZ,okB, *];exact⟨_,_,_,rfl,f2,f3,f4⟩
 ·simp only[rS,dj, *];exact .err
theorem auW(hB:x.back.length<=4294967296): ∃S,D XA (.fn (.func 229) [] []) [.ptr p 0] ⟨H,lo⟩=some S/\uY p H lo (rR x) S:=by
 refine cE Rk λN k=>?_
 have ho:Old p H (.box (a0 x bk) none):=⟨ha.box⟩;have m:p<N:=by rw[<-k];exact ho.lt
 have G:=λB lo=>L4 (ho.app B) lo hx.s x.c.r hx.c.r
 have F:=(hx.s.T.get x.c.r);have Y:=As (x:=x) (h:=x.c.r) (w:=1);have e0:rR x=fV x x.c.r 1>>=λ_=>bg (aG x.s.T x.c.r).2>>=λ_=>ng {x with back:=x.back++(aG x.s.T x.c.r).1.runs} x.c.r {df with up:=0,di:=(aG x.s.T x.c.r).1.di}>>=λy=>.ok (y,bL):=rfl
 rw[e0];generalize hR: (aG x.s.T x.c.r).1=R at*;obtain⟨v',c,V,z,U,P,u⟩:=aQ.adi (bytes:=16) (ys:=R.runs.map aA) (lo:=none) (aQ.ext (L:=[ae.box [.int .i64 0,.int .u64 0,.int .u32 0] none,.box (bM R) none]) ha.own) (by simp[k];omega) (by omega) (by intro el J;obtain⟨r,_,rfl⟩:=afH.1 J;rfl) (bB (λ_=>rfl) _) (by
  have:=F.rb.2;unfold room;simp only[afB];omega)
 have C:v'.ck=false/\v'.cells=[v']:=by
  rcases z.2 with⟨rfl,_⟩| ⟨_,_,_,rfl,_⟩<;>exact⟨rfl,rfl⟩
 have j:c[p]?=some (.box (a0 x bk) none):=by rw[P p (by omega)];exact ho.g _
 have b:Old p c (.box (a0 x bk) none):=⟨j⟩;have w0:c[N]?=some (.box [.int .i64 0,.int .u64 0,.int .u32 0] none):=u N _ (λa d e=>by cases e) (by rw[dB k];rfl);have w1:c[N+1]?=some (.box (bM R) none):=u (N+1) _ (λa d e=>by cases e) (by rw[bE k];rfl);have n:=b.set (.box (a0 {x with back:=x.back++R.runs} v') none);have f:=λlo=>T3 (x:={x with back:=x.back++R.runs}) (bk:=v') n lo hx.s x.c.r hx.c.r {df with up:=0,di:=R.di} ⟨by simp[df],by simp[df]⟩ (by simp[df]) (by simp[df])
 have K:a0 {x with back:=x.back++R.runs} v'=a0 x v':=rfl;rw[K]at f;have M:N<c.length:=(adg.1 w0).1;have E: ∀A B o,(((c.set p A).set p B).set N o)[N]?=some o:=λA B o=>afD (by simp only[afN];exact M)
 have I:p≠N:=by omega
 have X:p≠N+1:=by omega
 simp(disch:=omega) only[F1,go_sem,simprocAttr,Rk,k,ho.g,↓CL,CS,M1 ho hx x.c.r hx.c.r,G,jt,aiU,V,C,j,w0,w1,b.g1,E,f,agQ,ef,eg,EP,jw];have s: (if v'.refs<=p+1 then none else cJ none p)=none/\ (v'= .aq/\x.back++R.runs=[])\/ (if v'.refs<=p+1 then none else cJ none p)=cJ none p:=by
  by_cases t:v'.refs<=p+1
  ·rw[adY t];refine .inl ⟨rfl,?_⟩;rcases z.2 with⟨T,O⟩| ⟨id,ak,i1,i2,_⟩
   ·refine⟨T,?_⟩;rw[<-afI]at O;exact aqh.1 O
   ·rw[i2]at t;simp only[AV.refs]at t;omega
  ·rw[adU t];exact .inr rfl
 have f0:bT p (H++[ae.box [.int .i64 0,.int .u64 0,.int .u32 0] none,.box (bM R) none]) c:=⟨U,λi hi=>P i (by omega),λi o _ ho Z=>u i o ho Z⟩;have f1:=f0.trans (bT.set p c (.box (a0 x v') none));generalize Q: (if v'.refs<=p+1 then none else cJ none p)=aj at*
 (repeat' (first| (refine⟨?_,?_⟩)|intro _))
 ·rename_i g l m3;have hA:At p (({x with back:=x.back++R.runs}:au).t (eu x.s.T x.c.r {df with up:=0,di:=R.di}).1) v' ((c.set p (.box (a0 x v') none)).set p (.box (a0 (({x with back:=x.back++R.runs}:au).t (eu x.s.T x.c.r {df with up:=0,di:=R.di}).1) v') none)):=
   ⟨by rw[ak7];exact b.g1 _,by rw[ak7];show aQ _ _ _ _ _ (List.map aA (x.back++R.runs));rw[afI];exact aQ.nq z j⟩
  have f2:=f1.trans (bT.set p (c.set p (.box (a0 x v') none)) (.box (a0 (({x with back:=x.back++R.runs}:au).t (eu x.s.T x.c.r {df with up:=0,di:=R.di}).1) v') none));obtain⟨H3,W,g1,g2,g3,g4⟩:=Av (v:=.agg [.int .i64 0,.int .u64 0,.int .u32 0]) (lo:=lo) k m (B:=[ae.box [.int .i64 0,.int .u64 0,.int .u32 0] none,.box (bM R) none]) (by simp) hA f2 (s.imp (λq=>⟨q.1,.inr q.2,trivial⟩) id) (aeu _)
   (by rw[ak7,adb I];exact w0) (.box [.int .i64 0,.int .u64 0,.int .u32 0] none)
  rw[g1];simp only[ng,gZ,okB,g,l,m3];exact⟨_,_,_,rfl,g2,g3,g4⟩
 ·rename_i g l e m3;obtain⟨E1,l1,e1,e2,e3⟩:=L8 (v:=jv e) (lo:=lo) k m f1 (s.imp And.left id) (aeu _);rw[e1];simp only[ng,gZ,okB,dj,g,l,m3];exact⟨_,_,rfl,e2,e3⟩
 ·rename_i g e l;simp only[okB,dj,g,l];exact .err
 ·rename_i e g;simp only[dj,g];exact .err
end
def auX{N:Nat}{H B W:List ae}{aj:oN}(g:H.length=N)(d:p<N)(i: ∀o∈B,∃cs tg,o=ae.box cs tg)(j:At p y bk W)(h:bT p (H++B) W)(f: (aj=none/\ (W.length=(H++B).length\/ (bk= .aq/\y.back=[]))/\Q)\/aj=cJ none p)(e:v.refs<=N)
  {cs:lA}  (b:W[N]?=some (.box cs tg)):
  ∃c a,finish N lo v ⟨W,aj⟩=(v,⟨c,a⟩)/\At p y bk c/\bT p H c/\wA Q p H c lo a:=by
 have:=Av (v:=v) (lo:=lo) g d i j h f e b (.box cs tg);rwa[qF b]at this
def auY(bk:AV)(p:Nat)(H:List ae)(lo:oN):R au->aU->Prop
 |.ok y,b=> ∃a H' aj,b= .ret (.aw []) ⟨H',aj⟩/\At p y a H'/\bT p H H'/\wA (a=bk\/a= .aq) p H H' lo aj
 |.error e,b=>b= .panic (jv e) ⟨H,lo⟩
section
variable{x:au}{bk:AV}{p:Nat}{H:List ae}(lo:oN)(ha:At p x bk H)(hs:bm x.s)
include ha hs
theorem aiY(h:Nat)(n:h<4294967296)(aa:Nat)(I:aa<256)(J:x.back.length+64*(under x.s.T h).length<=4294967296):
  ∃A,D XA (.fn (.func 266) [] []) [.ptr p 0,.int .u32 h,.int .i64 aa] ⟨H,lo⟩=some A/\auY bk p H lo (jH x h aa) A:=by
 refine cE KQ λN f=>?_
 have ho:Old p H (.box (a0 x bk) none):=⟨ha.box⟩;have k:p<N:=by rw[<-f];exact ho.lt
 have y:=λH lo=>lx (att x.s.O hs.O x.s.T hs.T hs.tr h n aa I H lo)
 have w:=λH=>ig (dC x.s.O x.s.T h aa false).2.2 H
 have L:jH x h aa=bg (dC x.s.O x.s.T h aa false).2.2>>=λ_=>.ok (if(dC x.s.O x.s.T h aa false).2.1=0 then gi (x.o (dC x.s.O x.s.T h aa false).1) h else x.o (dC x.s.O x.s.T h aa false).1):=rfl
 have l:fX (dC x.s.O x.s.T h aa false).1:=hs.O.held n;rw[L];have i:=ahL hs.O (t:=x.s.T) (r:=h) (aa:=aa) (hold:=false);generalize dC x.s.O x.s.T h aa false=g at*;have s: ∀v,(H++[ae.box (cQ g.1) none]).set p v=H.set p v++[ae.box (cQ g.1) none]:=λv=>ho.s _ _
 have u:At p (x.o g.1) bk (H.set p (.box (a0 (x.o g.1) bk) none)++[ae.box (cQ g.1) none]):=⟨ho.g2 _ _,aQ.ext (aQ.nq ha.own ha.box)⟩;obtain⟨M,W,aj,g1,g2,z,K⟩:=T6 u (hs.uX l) h n J none;have f1:bT p (H++[ae.box (cQ g.1) none]) (H.set p (.box (a0 (x.o g.1) bk) none)++[ae.box (cQ g.1) none]):=by rw[<-s];exact bT.set _ _ _
 by_cases j:g.2.1=0
 ·have c:decide ((Gg g.2.1:Int)=0)=true:=aet (by rw[j];rfl);simp only[F1,go_sem,simprocAttr,KQ,f,ho.g,ho.s,↓CL,CS,y,w,c,g1,ef,eg,EP,gQ];have o:W[N]?=some (.box (cQ g.1) none):=z.box N _ (by omega) (λa d e=>by cases e) (by rw[(OL f).1];rfl);have m: (H.set p (.box (a0 (x.o g.1) bk) none)++[ae.box (cQ g.1) none]).length=(H++[ae.box (cQ g.1) none]).length:=by simp
  obtain⟨O,B,G,F,E,C⟩:=auX (v:=.aw []) (lo:=lo) f k CP g2 (f1.trans z) (K.imp (λq=>⟨q.1,.inl (q.2.1.trans m),q.2.2⟩) id) (aeu _) o;rw[G]
  (repeat' (first| (refine⟨?_,?_⟩)|intro _))
  ·rename_i b;simp only[b,okB,adY j];exact⟨_,_,_,rfl,F,E,C⟩
  ·rename_i e b;simp only[b,dj];rfl
 ·have c:decide ((Gg g.2.1:Int)=0)=false:=aeq (by
    have:=mt (ats _ i).1 j;omega)
  simp only[F1,go_sem,simprocAttr,KQ,f,ho.g,ho.s,↓CL,CS,y,w,c,ef,eg,EP,gQ,OL f]
  (repeat' (first| (refine⟨?_,?_⟩)|intro _))
  ·rename_i b;simp only[b,okB,adU j];exact⟨bk,_,lo,rfl,⟨ho.g1 _,aQ.nq ha.own ha.box⟩,bT.set _ _ _,.inl ⟨rfl,by simp,.inl rfl⟩⟩
  ·rename_i e b;simp only[b,dj];rfl
end
section
variable{x:au}{bk:AV}{p:Nat}{H:List ae}(lo:oN)(ha:At p x bk H)(hx:ns x)
include ha hx
theorem auZ(l:x.back.length+64*(under x.s.T x.c.r).length<=4294967296): ∃g,D XA (.fn (.func 235) [] []) [.ptr p 0] ⟨H,lo⟩=some g/\uY p H lo (uF x) g:=by
 refine cE KG λN f=>?_
 have ho:Old p H (.box (a0 x bk) none):=⟨ha.box⟩;have h:p<N:=by rw[<-f];exact ho.lt
 have s:=hx.t;obtain⟨g,g1,g2⟩:=aiY (bk:=bk) (H:=H++[.box [.int .i64 0,.int .u64 0,.int .u32 0] none]) none ⟨ho.g _,ha.own.ext⟩ hx.s x.c.r hx.c.r x.aa (by omega) l;have n:uF x=xR x x.c.r>>=λ_=>jH x x.c.r x.aa>>=λy=>.ok (y,bL):=rfl
 rw[n];cases i:jH x x.c.r x.aa with
 |error e=>
  rw[i]at g2;have g2:g=_:=g2;rw[g2]at g1;simp only[F1,go_sem,simprocAttr,KG,f,ho.g,↓CL,λB lo=>Gl (ho.app B) lo hx.s hx.t x.c.r hx.c.r,g1,ef,eg,EP,jw]
  (repeat' (first| (refine⟨?_,?_⟩)|intro _))
  ·rename_i b;simp only[b,okB,dj];exact .err
  ·rename_i o b;simp only[b,dj];exact .err
 |ok y=>
  rw[i]at g2;obtain⟨r,W,aj,rfl,g2,j,m⟩:=g2;have c:W[N]?=some (.box [.int .i64 0,.int .u64 0,.int .u32 0] none):=j.box N _ (by omega) (λa d e=>by cases e) (by rw[dB f];rfl);simp only[F1,go_sem,simprocAttr,KG,f,ho.g,↓CL,λB lo=>Gl (ho.app B) lo hx.s hx.t x.c.r hx.c.r,g1,c,cG c,ef,eg,EP];obtain⟨t,k,f1,f2,f3,f4⟩:=Av (v:=.agg [.int .i64 0,.int .u64 0,.int .u32 0]) (lo:=lo) f h CP g2 j (m.imp (λq=>⟨q.1,.inl q.2.1,trivial⟩) id) (aeu _) c (.box [.int .i64 0,.int .u64 0,.int .u32 0] none);rw[f1]
  (repeat' (first| (refine⟨?_,?_⟩)|intro _))
  ·rename_i b;simp only[b,okB];exact⟨_,_,_,rfl,f2,f3,f4⟩
  ·rename_i o b;simp only[b,dj];exact .err
end
def au0(d:cu t): ∀ (n x:Nat),dep t x<=n->k∈aT t x-> ∀c∈aT t k,c∈aT t x:=by
 intro n
 induction n with
 |zero=>intro x b a;unfold dep at b;grind
 |succ n e=>
  intro x b a c f;by_cases hu:bI t x=0
  ·rw[uy d,adY hu]at a;cases a
  ·grind [Cm,CN]
def T8(d:cu t){x:Nat}: ∀n c,x∈iB t n c->x=c\/c∈aT t x:=by
 intro n
 induction n with
 |zero=>intro c h;left;simpa[iB]using h
 |succ n e=>
  intro c h;rcases ag7.1 h with h|h
  ·omega
  ·right
   obtain⟨k,f,a⟩:=apS.1 h;obtain⟨g1,g2,_⟩:=Lk f;have b:c∈aT t k:=by rw[CN d (x:=k) (by rw[g2];exact SS g1),g2];grind
   rcases e k a with rfl|a
   ·omega
   ·exact au0 d _ x (afA _) a c b
def au1(f:cu t): ∀ (n x a b:Nat),dep t x<=n->a∈x::aT t x->b∈x::aT t x->dep t a=dep t b->a=b:=by
 intro n
 induction n with
 |zero=>
  intro x a b g d e _;unfold dep at g
  grind
 |succ n i=>
  intro x a b g d e he;have lt: ∀c∈aT t x,dep t c<dep t x:=λc h=>LY f _ x (afA _) h
  rcases ag7.1 d with rfl|d
  ·grind
  ·rcases ag7.1 e with rfl|e
   ·grind
   ·by_cases hu:bI t x=0
    ·rw[uy f,adY hu]at d;cases d
    ·have j:=Cm f hu;rw[CN f hu]at d e
     grind
def aiZ(b:cO): (ba b).Nodup:=by
 refine List.Pairwise.map _ (λi j c=>?_) (atg (S:=λi j=>i<32/\j<32/\i≠j) (λe d a=>⟨?_,?_,a⟩) (ayW.filter _))
 ·unfold dh;omega
 ·grind
 grind
def au2(t:av)(h:Nat): (kids t h).Nodup:=by
 unfold kids;split
 ·exact(aiZ _).filter _
 grind
def au3(a:cu t): ∀n h,(iB t n h).Nodup:=by
 intro n
 induction n with
 |zero=>simp[iB]
 |succ n g=>
  intro h;refine axI.2 ⟨λhm=>?_,?_⟩
  ·obtain⟨k,j,b⟩:=apS.1 hm;have o:=Cn a j;rcases T8 a n k b with e|e
   ·grind
   ·have:=LY a _ h (afA _) e;omega
  ·refine List.pairwise_flatMap.2 ⟨λk _=>g k,atg (λr p d x b y i e=>?_) (au2 t h)⟩;subst e;have m:=T8 a n _ b;have l:=T8 a n _ i;have f: ∀c,(x=c\/c∈aT t x)->c∈x::aT t x:=λc q=>q.elim (λe=>by grind) (afO _)
   exact d (au1 a _ x _ _ (afA _) (f _ m) (f _ l) (by grind [Cn]))
def T9(a:cu t)(h:Nat): (under t h).Nodup:=by
 unfold under;split
 ·exact au3 a 32 h
 grind
theorem Ua: ∀ (l m:lN),l.Nodup->(∀z∈l,z∈m)->l.length<=m.length
 | [],_,_,_=>aeu _
 |a::l,m,c,h=>by
  obtain⟨e,d⟩:=axI.1 c;have:=Ua l (m.erase a) d λz b=>(List.mem_erase_of_ne λq=>by grind).2 (h z (afO _ b))
  grind
def ai0{y z:Nat}(c:az b z=true)(d:az b y=true)(a:z≠y):az (dN b y).1 z=true:=by
 obtain⟨j,e,f⟩:=lS.1 c;unfold dN;rw[adY d];refine lS.2 ⟨j,e,?_⟩;show ar b (aL y) _ j=_;rw[da λq=>a (LZ c d (by rw[Cl e];exact q))];exact f
def au4(g:fC b){y:Nat}(c:az b y=true): (ba (dN b y).1).length+1<=(ba b).length:=by
 have d:=aiZ (dN b y).1;have i:y∉ba (dN b y).1:=λhm=>by
  have f:=(iE (FW g y)).1 hm;obtain⟨j,e,a⟩:=lS.1 f;unfold dN at a;rw[adY c]at a;have a:ar b (aL y) (oX (b (aL y))) j=_:=a;rw[Cl e,cF]at a;unfold oX at a
  grind
 have h: ∀z∈y::ba (dN b y).1,z∈ba b:=λz k=>by grind [iE,TZ,FW]
 have:=Ua _ _ (axI.2 ⟨i,d⟩) h;omega
theorem ai1: ∀ (l:lN) (t:av),fC t.b->l.Nodup->(∀z∈l,t.az z=true)->(ba (iZ t l).b).length+l.length<=(ba t.b).length
 | [],t,_,_,_=>by simp[iZ]
 |y::l,t,d,h,c=>by
  have a:az t.b y=true:=c y (ahi ..);have e: (gv t y).1={b:=(dN t.b y).1,r:=ar t.r (aL y) df}:=by
   unfold gv;grind
  have f: (gv t y).1.b=(dN t.b y).1:=by rw[e]
  have i:=ai1 l (gv t y).1 (by rw[f];exact FW d y) (axI.1 h).2 λz g=>by
   show az (gv t y).1.b z=true;rw[f];exact ai0 (c z (afO _ g)) a λq=>by grind
  have j:=au4 d a;have k:iZ t (y::l)=iZ (gv t y).1 l:=rfl
  grind
def au5(h:eV t)(a:Nat): (under t a).length<=(ba t.b).length:=
 Ua _ _ (T9 h.tr a) λz b=>(iE h.ok.b).2 (LD h.ok b)
def au6(h:eV t)(a:Nat): (ba (j6 t a).1.b).length+(under t a).length<=(ba t.b).length:=by
 unfold j6;split
 ·grind
 ·exact ai1 (under t a) t h.ok.b (T9 h.tr a) λz b=>LD h.ok b
def fo(x:au):Nat:=x.back.length+64*(ba x.s.T.b).length
def Ub(a:bm x.s)(h:Nat):fo (gi x h)<=fo x:=by
 have d:=aiW (under x.s.T h) x a.T;have c:=aiV (under x.s.T h) x;have b:=au6 a.fa h;have e1: (gi x h).back=((under x.s.T h).foldl gO x).back:=rfl;have e: (gi x h).s.T=(j6 ((under x.s.T h).foldl gO x).s.T h).1:=rfl;unfold fo
 grind
def Uc(a:bm x.s)(h:Nat):x.back.length+64*(under x.s.T h).length<=fo x:=by
 have:=au5 a.fa h;unfold fo;omega
def Ud(b:bm x.s)(h:Nat):bm (gi x h).s:=by
 have a:=T5 (under x.s.T h) x b;exact a.wy (a.fa.aup h)
structure LI(bk:AV)(p N:Nat)(H:List ae)(y:au)(oq:AV)(W:List ae)(lo:oN):Prop where
 at':At p y oq W
 fr:bT p H W
 ok:bm y.s
 fo:fo y<=2048
 lo: (eH N lo/\ (oq=bk\/oq= .aq))\/lo=some p
section
variable{bk:AV}{p N:Nat}{H:List ae}{y:au}{oq:AV}{W:List ae}{m6:oN}(pA:p<N)(h:LI bk p N H y oq W m6)
include h
theorem LI.dV:Old p W (.box (a0 y oq) none):=⟨h.at'.box⟩
theorem LI.app(L:List ae):LI bk p N H y oq (W++L) m6:=⟨⟨aZ h.at'.box,h.at'.own.ext⟩,h.fr.trans (bT.app p W L (adg.1 h.at'.box).1),h.ok,h.fo,h.lo⟩
theorem LI.set{z:au}(a:bm z.s)(b:z.back=y.back)(c: (ba z.s.T.b).length<=(ba y.s.T.b).length):LI bk p N H z oq (W.set p (.box (a0 z oq) none)) m6:=
 ⟨⟨by rw[afD h.dV.lt],by rw[b];exact aQ.nq h.at'.own h.at'.box⟩,h.fr.trans (bT.set _ _ _),a,by have:=h.fo;unfold Go.Proofs.YteplichagkpciaaGreatDoor.fo at*;grind,h.lo⟩
include pA
theorem LI.next{z:au}{a:AV}{c:List ae}{b:oN}(k:At p z a c)(i:bT p W c)(g:wA (a=oq\/a= .aq) p W c m6 b)(e:bm z.s)(f:Go.Proofs.YteplichagkpciaaGreatDoor.fo z<=Go.Proofs.YteplichagkpciaaGreatDoor.fo y):LI bk p N H z a c b:=by
 refine⟨k,h.fr.trans i,e,ahk f h.fo,?_⟩;rcases g with⟨rfl,_,q⟩|rfl
 ·rcases h.lo with⟨d,l⟩|d
  ·grind
  grind
 ·right
  rcases h.lo with⟨rfl| ⟨j,m,rfl⟩,_⟩|rfl
  ·rfl
  ·exact ahl some (aqe (show p<=j by omega))
  ·exact ahl some (azC p)
theorem LI.gone(a:Nat)(f:a<4294967296): ∃c d b,D XA (.fn (.func 258) [] []) [.ptr p 0,.int .u32 a] ⟨W,m6⟩=some (.ret (.aw []) ⟨d,b⟩)/\LI bk p N H (gi y a) c d b/\bT p W d:=by
 obtain⟨c,d,b,g1,g2,e,g⟩:=T6 h.at' h.ok a f (by have:=Uc h.ok a;have:=h.fo;omega) m6;exact⟨c,d,b,g1,h.next pA g2 e g (Ud h.ok a) (Ub h.ok a),e⟩
theorem LI.done(k:H.length=N)(i:At p x bk H)(j:v.refs<=N):
  ∃b a,finish N lo v ⟨W,m6⟩=(v,⟨b,a⟩)/\At p y oq b/\bT p H b/\wA (oq=bk\/oq= .aq) p H b lo a:=by
 rcases h.lo with⟨f,d⟩|rfl
 ·refine⟨_,lo,ju f j,⟨by rw[afT pA];exact h.at'.box,h.at'.own.1,?_⟩,h.fr.take k pA,.inl ⟨rfl,by rw[afS];have:=h.fr.len;omega,d⟩⟩;rcases h.at'.own.2 with q| ⟨id,ak,s,r,o⟩
  ·grind
  ·rcases d with rfl|rfl
   ·rcases i.own.2 with⟨e,_⟩| ⟨g,c,n,m,l⟩
    ·grind
    grind
   grind
 ·exact⟨_,cJ lo p,wB pA,h.at',h.fr,.inr rfl⟩
theorem LI.err(e:H.length=N)(d:v.refs<=N): ∃b a,finish N lo v ⟨W,m6⟩=(v,⟨b,a⟩)/\bT p H b/\Au p H b lo a:=by
 rcases h.lo with⟨c,f⟩|rfl
 ·exact⟨_,lo,ju c d,h.fr.take e pA,.inl ⟨rfl,by rw[afS];have:=h.fr.len;omega,trivial⟩⟩
 ·exact⟨_,cJ lo p,wB pA,h.fr,.inr rfl⟩
end
theorem ai2{I:Nat->Env->List ae->oN->Prop}{Q:bQ}{a:Fr}{E:AS}:Bi k m I Q (.panic v) a E=Q (.panic v) a E:=rfl
instance:Inhabited kI:=⟨z7⟩
def au7(bk:AV)(p:Nat)(H:List ae)(lo:oN):R au->aU->Prop
 |.ok y,b=> ∃a H' aj,b= .ret (.aw []) ⟨H',aj⟩/\At p y a H'/\bT p H H'/\wA (a=bk\/a= .aq) p H H' lo aj
 |.error e,b=> ∃H' aj,b= .panic (jv e) ⟨H',aj⟩/\bT p H H'/\Au p H H' lo aj
def Aw(y:au)(m:kI):R au:=if m.aO=0\/m.share=true then pure y else if y.s.alive m.fr then mG y m.aO m.fr else pure (gi y m.aO)
def sc(x:au)(aa:Nat):au:={x.bx aa z8 with s:={(x.bx aa z8).s with alive:=ar (x.bx aa z8).s.alive aa false}}
def L9(y:au)(aa:Nat):R au:=
 ((ba y.s.T.b).filter λh=>decide (root y.s.T h=h)&&decide ((ca y.s.O y.s.T h).kind=3)&& (decide (aa<8)&&oY (ca y.s.O y.s.T h).hold aa)).foldlM (λy h=>jH y h aa) y
def Ue(y:au)(aa:Nat):R au:=do
 let y:=((ba y.s.T.b).filter λh=>decide (root y.s.T h=h)&&decide ((ca y.s.O y.s.T h).kind=1)&&decide ((ca y.s.O y.s.T h).aa=aa)).foldl gi y
 ((ba y.s.T.b).filter λh=>decide (root y.s.T h=h)&&decide ((ca y.s.O y.s.T h).kind=3)&& (decide (aa<8)&&oY (ca y.s.O y.s.T h).hold aa)).foldlM (λy h=>jH y h aa) y
def Ma(y:au)(aa:Nat):R au:=do
 let y:=(we y.s.K aa).foldl (λy h=>y.k (mB y.s.K h).1) y
 let y:=((ba y.s.T.b).filter λh=>decide (root y.s.T h=h)&&decide ((ca y.s.O y.s.T h).kind=1)&&decide ((ca y.s.O y.s.T h).aa=aa)).foldl gi y
 ((ba y.s.T.b).filter λh=>decide (root y.s.T h=h)&&decide ((ca y.s.O y.s.T h).kind=3)&& (decide (aa<8)&&oY (ca y.s.O y.s.T h).hold aa)).foldlM (λy h=>jH y h aa) y
theorem Uf(x:au)(aa:Nat):mI x aa=(gx (x.s.de aa)).foldlM Aw (sc x aa)>>=λy=>Ma y aa:=rfl
def foldlM_succ[Inhabited β]{f:α->β->R α}{l:List β}{a:α}(h:k<l.length): (l.take (k+1)).foldlM f a=((l.take k).foldlM f a>>=λy=>f y (l.getD k default)):=by grind [List.take_add_one,List.getElem?_eq_getElem,List.foldlM_append]
def ai3{f:α->β->R α}{l:List β}{a:α}(h: (l.take k).foldlM f a= .error e):l.foldlM f a= .error e:=by
 rw[<-ai7 k l,List.foldlM_append,h];rfl
def Ax(y:au)(h:Nat):au:=y.k (mB y.s.K h).1
def foldl_succ{f:α->Nat->α}{l:lN}{a:α}(h:k<l.length): (l.take (k+1)).foldl f a=f ((l.take k).foldl f a) (l.getD k default):=by grind [List.take_add_one,List.getElem?_eq_getElem,getD_eq]
def au8{z:au}{h:Nat}(hs:bm y.s)(d:h<4294967296)(b:jH y h aa= .ok z):bm z.s/\fo z<=fo y:=by
 have f:jH y h aa=bg (dC y.s.O y.s.T h aa false).2.2>>=λ_=>.ok (if(dC y.s.O y.s.T h aa false).2.1=0 then gi (y.o (dC y.s.O y.s.T h aa false).1) h else y.o (dC y.s.O y.s.T h aa false).1):=rfl
 rw[f]at b;have a:bm (y.o (dC y.s.O y.s.T h aa false).1).s:=hs.uX (hs.O.held d);cases c:bg (dC y.s.O y.s.T h aa false).2.2 with
 |error e=>rw[c]at b;cases b
 |ok _=>
  rw[c]at b;cases b;split
  ·exact⟨Ud a h,Ub a h⟩
  ·exact⟨a,afA _⟩
section
variable{x:au}{bk:AV}{p:Nat}{H:List ae}(lo:oN)(ha:At p x bk H)(hs:bm x.s)
include ha hs
theorem ai4(aa:Nat)(ht:aa<8)(hp:fo x<=2048):
  ∃cr,D XA (.fn (.func 218) [] []) [.ptr p 0,.int .i64 aa] ⟨H,lo⟩=some cr/\au7 bk p H lo (mI x aa) cr:=by
 refine cE Rh λN hN=>?_
 have ho:Old p H (.box (a0 x bk) none):=⟨ha.box⟩;have O:p<N:=by rw[<-hN];exact ho.lt
 obtain⟨w,d1,d2,d3⟩:=auh (x.s.de aa) (hs.bx aa) H none;have d1:=lx d1;have c1: (aa:Int)<8:=by omega
 have c2:784+aa*19<=945:=by omega
 have c3:936+aa<=963:=by omega
 have hb:=λ (y:au) bk=> @LU y bk aa ht
 have hsb:=λ (y:au) bk b=> @LV y bk aa b ht
 have hsa:=λ (y:au) bk v=> @air y bk aa v ht
 have J:=λE=>(show Rd E w 4 ((gx (x.s.de aa)).map eO)from d2 E).bS
 have hbl: (gx (x.s.de aa)).length<=4:=by have:=(hs.bx aa).n;simp[gx];omega
 have hml: ∀m∈gx (x.s.de aa),uV m:=λm hm=>by
  obtain⟨i,_,rfl⟩:=afH.1 hm;exact(hs.bx aa).ring _
 rw[Uf];generalize hl:gx (x.s.de aa)=l at*;simp only[go_sem,simprocAttr,Rh,hN,ho.at',ho.g,ho.s,ho.g2,ho.s2,CS,c1,c2,c3,↓hb,hsb,hsa,d1,J,MB];have Gm:bm (sc x aa).s:=(hs.Ar jb.gone).L1;have au9:LI bk p N H (sc x aa) bk (H.set p (.box (a0 (sc x aa) bk) none)) none:=LI.set ⟨ha,bT.refl _ _,hs,hp,.inl ⟨.inl rfl,.inl rfl⟩⟩ Gm rfl (afA _);refine iq l.length (λk e W' aj=> ∃y I,(l.take k).foldlM Aw (sc x aa)= .ok y/\LI bk p N H y I W' aj/\e 0= .ptr p 0/\e 1= .int .i64 aa/\e 38=w/\e 39= .int .i64 l.length/\e 40= .int .i64 k) 0 (by omega) ?_ ?_
 ·simp only[go_sem,simprocAttr];exact⟨sc x aa,bk,rfl,au9.app _⟩
 rintro k hk e U s ⟨y,A,y1,d,C,B,r,o,j⟩ n hn;simp only[bX,go_sem,simprocAttr,afg,d.dV.at',↓CL,C,B,r,o,j];refine⟨λW=>?_,λW=>?_⟩
 ·have g:k<l.length:=by omega
  have F:=(show Rd ⟨U,s⟩ w 4 (l.map eO)from d2 _);have c:=foldlM_succ (f:=Aw) (a:=sc x aa) g;rw[y1,okB]at c;have hmo:uV (l.getD k default):=by
   exact hml _ (by simp[List.getD,g])
  have Ug:=hmo.aO;have hmf:=hmo.fr;have L2:=d.app [ae.box (eO (l.getD k default)) none];have pX:=d.dV;have mn:=λ (z:au) bk=> @TU z bk (l.getD k default).fr hmf
  have c4: ((l.getD k default).fr:Int)<8:=by omega
  have e1:Aw y (l.getD k default)=if(l.getD k default).aO=0\/ (l.getD k default).share=true then .ok y else if y.s.alive (l.getD k default).fr then mG y (l.getD k default).aO (l.getD k default).fr else .ok (gi y (l.getD k default).aO):=rfl
  rw[e1]at c;by_cases h0: (l.getD k default).aO=0
  ·have S:decide (((l.getD k default).aO:Int)=0)=true:=aet (by omega);rw[adY (.inl h0)]at c;simp(disch:=omega) only[go_sem,simprocAttr,F.cp,F.c7,pt,S,hn,C,B,r,o,j];exact⟨by omega,g,y,A,c,L2⟩
  ·have S:decide (((l.getD k default).aO:Int)=0)=false:=aeq (by omega);cases G: (l.getD k default).share with
   |true=>
    rw[adY (.inr G)]at c;rw[pt,G]at L2;simp(disch:=omega) only[go_sem,simprocAttr,F.cp,F.c7,pt,S,G,hn,C,B,r,o,j];exact⟨by omega,g,y,A,c,L2⟩
   |false=>
    rw[adU (by rintro(q|q);exact h0 q;rw[G]at q;cases q)]at c;rw[pt,G]at L2;cases Y:y.s.alive (l.getD k default).fr with
    |false=>
     rw[Y,adU (by simp)]at c;obtain⟨T,W2,Q,g1,g2,Z⟩:=L2.gone O (l.getD k default).aO Ug;simp(disch:=omega) only[go_sem,simprocAttr,F.cp,F.c7,pt,S,G,Y,pX.g,c4,↓mn,g1,hn,C,B,r,o,j];exact⟨by omega,g,_,T,c,g2⟩
    |true=>
     rw[Y,adY rfl]at c;have hw:=L5 (ho:=L2.dV) (lo:=s) L2.ok (l.getD k default).aO Ug (l.getD k default).fr (by omega);simp(disch:=omega) only[go_sem,simprocAttr,F.cp,F.c7,pt,S,G,Y,pX.g,pX.s,c4,↓mn,hw,ai2,ef,eg,EP,hn,C,B,r,o,j];refine⟨by omega,λm1=>⟨g,_,A,?_,(d.set (z:=y.o (rO y.s.O y.s.T (l.getD k default).aO (l.getD k default).fr).1) (d.ok.uX (d.ok.O.gM Ug)) rfl (afA _)).app _⟩,λe' m1=>?_⟩
     ·rw[c];unfold mG;rw[m1];rfl
     ·obtain⟨H2,Q,g1,g2,Z⟩:=LI.err (v:=jv e') (lo:=lo) O L2 hN (aeu _);have c: (l.take (k+1)).foldlM Aw (sc x aa)= .error e':=by rw[c];unfold mG;rw[m1];rfl
      rw[ai3 c,dj];rw[g1];exact⟨_,_,rfl,g2,Z⟩
 ·obtain rfl:k=l.length:=by omega
  rw[afK]at y1;rw[y1,okB];clear hsa hsb hb d1 J hml;have ai9:=d.ok;obtain⟨wt,t1,t2,t3⟩:=atz y.s.K ai9.K aa U s;have t1:=ly t1;have Uh:=λE=>(show Rd E wt 1 ((we y.s.K aa).map hC)from t2 E).bS
  simp only[go_sem,simprocAttr,t1,Uh];have e1:Ma y aa=Ue ((we y.s.K aa).foldl Ax y) aa:=rfl;rw[e1];have K: (we y.s.K aa).length<=32:=ahk (akZ _ _) (mA _);generalize Bb:we y.s.K aa=M at*;have u: ∀z∈M,z<4294967296:=λz hz=>by
   rw[<-Bb]at hz;exact fU ((iE ai9.K.b).1 (afY.1 hz).1)
  refine iq M.length (λk e W' aj=> ∃I,LI bk p N H ((M.take k).foldl Ax y) I W' aj/\e 0= .ptr p 0/\e 1= .int .i64 aa/\e 80=wt/\e 81= .int .i64 M.length/\e 82= .int .i64 k) 0 (by omega) ?_ ?_
  ·simp only[go_sem,simprocAttr,C,B];exact⟨A,d⟩
  clear d y1 hk C B r o j W t1 d2 d3;rintro k hk e U s ⟨A,d,C,B,r,o,j⟩ n hn;simp only[bX,go_sem,simprocAttr,aff,d.dV.at',↓CL,C,B,r,o,j];refine⟨λW=>?_,λW=>?_⟩
  ·have g:k<M.length:=by omega
   have F:=(show Rd ⟨U,s⟩ wt 1 (M.map hC)from t2 _);have c:=foldl_succ (f:=Ax) (a:=y) g;have P:=u (M.getD k default) (by simp[List.getD,g]);obtain⟨w',L⟩:=ahZ ((M.take k).foldl Ax y).s.K d.ok.K (M.getD k default) P (d.ok.th _) U s;have L:=ly L;simp(disch:=omega) only[go_sem,simprocAttr,F.cp,F.c7,↓pH,d.dV.at',↓CL,CS,L,C,B,r,o,j];rw[c];exact⟨by omega,g,A,d.set (z:=Ax ((M.take k).foldl Ax y) (M.getD k default)) (d.ok.Aq (d.ok.tok.ret _)) rfl (afA _)⟩
  ·obtain rfl:k=M.length:=by omega
   simp only[afK]at d⊢;clear Bb K u Uh t2 hk W;generalize M.foldl Ax y=z at*;obtain⟨wr,L,r2,r3⟩:=atS z.s.O d.ok.O z.s.T d.ok.T d.ok.tr aa U s;have L:=ly L;have R:=λE=>(show Rd E wr 1 ((ka z.s.O z.s.T (qI aa)).map hC)from r2 E).bS
   simp only[go_sem,simprocAttr,L,R];have e1:Ue z aa=L9 ((ka z.s.O z.s.T (qI aa)).foldl gi z) aa:=by
    have: (λh=>decide (root z.s.T h=h)&&decide ((ca z.s.O z.s.T h).kind=1)&&decide ((ca z.s.O z.s.T h).aa=aa))=x7 z.s.O z.s.T (qI aa):=by funext h;simp[x7,qI,Bool.and_assoc]
    unfold Ue ka L9;rw[this]
   rw[e1];have K: (ka z.s.O z.s.T (qI aa)).length<=32:=ahk (akZ _ _) (mA _);have u: ∀a∈ka z.s.O z.s.T (qI aa),a<4294967296:=λa ha=>fU ((iE d.ok.T.b).1 (afY.1 ha).1)
   generalize ka z.s.O z.s.T (qI aa)=X at*;refine iq X.length (λk e W' aj=> ∃I,LI bk p N H ((X.take k).foldl gi z) I W' aj/\e 0= .ptr p 0/\e 1= .int .i64 aa/\e 117=wr/\e 118= .int .i64 X.length/\e 119= .int .i64 k) 0 (by omega) ?_ ?_
   ·simp only[go_sem,simprocAttr,C,B];exact⟨A,d⟩
   clear d C B r o j L e1 R;rintro k hk e U s ⟨A,d,C,B,r,o,j⟩ n hn;simp only[bX,go_sem,simprocAttr,afe,d.dV.at',↓CL,C,B,r,o,j];refine⟨λW=>?_,λW=>?_⟩
   ·have g:k<X.length:=by omega
    have F:=(show Rd ⟨U,s⟩ wr 1 (X.map hC)from r2 _);have c:=foldl_succ (f:=gi) (a:=z) g;have P:=u (X.getD k default) (by simp[List.getD,g]);obtain⟨T,W2,Q,g1,g2,Z⟩:=d.gone O (X.getD k default) P;simp(disch:=omega) only[go_sem,simprocAttr,F.cp,F.c7,↓pH,g1,C,B,r,o,j];rw[c];exact⟨by omega,g,T,g2⟩
   ·obtain rfl:k=X.length:=by omega
    simp only[afK]at d⊢;clear K u r2 hk W;generalize X.foldl gi z=t at*;obtain⟨wh,L,r2,r3⟩:=atT t.s.O d.ok.O t.s.T d.ok.T d.ok.tr aa (by omega) U s;have L:=ly L;have R:=λE=>(show Rd E wh 1 ((ka t.s.O t.s.T (po aa)).map hC)from r2 E).bS
    simp only[go_sem,simprocAttr,L,R];have e1:L9 t aa=(ka t.s.O t.s.T (po aa)).foldlM (λy h=>jH y h aa) t:=by
     have: (λh=>decide (root t.s.T h=h)&&decide ((ca t.s.O t.s.T h).kind=3)&& (decide (aa<8)&&oY (ca t.s.O t.s.T h).hold aa))=x7 t.s.O t.s.T (po aa):=by funext h;simp[x7,po,Bool.and_assoc]
     unfold ka L9;rw[this]
    rw[e1];have K: (ka t.s.O t.s.T (po aa)).length<=32:=ahk (akZ _ _) (mA _);have u: ∀a∈ka t.s.O t.s.T (po aa),a<4294967296:=λa ha=>fU ((iE d.ok.T.b).1 (afY.1 ha).1)
    generalize ka t.s.O t.s.T (po aa)=V at*;refine iq V.length (λk e W' aj=> ∃y I,(V.take k).foldlM (λy h=>jH y h aa) t= .ok y/\LI bk p N H y I W' aj/\e 0= .ptr p 0/\e 1= .int .i64 aa/\e 140=wh/\e 141= .int .i64 V.length/\e 142= .int .i64 k) 0 (by omega) ?_ ?_
    ·simp only[go_sem,simprocAttr,C,B];exact⟨t,A,rfl,d⟩
    clear d C B r o j L e1 R;rintro k hk e U s ⟨y,A,y1,d,C,B,r,o,j⟩ n hn;simp only[bX,go_sem,simprocAttr,afd,r,o,j];refine⟨λW=>?_,λW=>?_⟩
    ·have g:k<V.length:=by omega
     have F:=(show Rd ⟨U,s⟩ wh 1 (V.map hC)from r2 _);have c:=foldlM_succ (f:=λy h=>jH y h aa) (a:=t) g;rw[y1,okB]at c;have P:=u (V.getD k default) (by simp[List.getD,g]);obtain⟨cr,g1,g2⟩:=aiY s d.at' d.ok (V.getD k default) P aa (by omega) (by have:=Uc d.ok (V.getD k default);have:=d.fo;omega);cases Dr:jH y (V.getD k default) aa with
     |ok z3=>
      rw[Dr]at g2 c;obtain⟨T,W2,Q,rfl,g2,Z,g4⟩:=g2;have hd:=au8 d.ok P Dr;simp(disch:=omega) only[go_sem,simprocAttr,F.cp,F.c7,↓pH,g1,C,B,r,o,j];exact⟨by omega,g,z3,T,c,d.next O g2 Z g4 hd.1 hd.2⟩
     |error e'=>
      rw[Dr]at g2 c;have g2:cr=_:=g2;rw[g2]at g1;simp(disch:=omega) only[go_sem,simprocAttr,F.cp,F.c7,↓pH,g1,ai2,EP,C,B];refine⟨by omega,?_⟩;obtain⟨H2,Q,g1,g2,Z⟩:=LI.err (v:=jv e') (lo:=lo) O d hN (aeu _);rw[ai3 c,g1];exact⟨_,_,rfl,g2,Z⟩
    ·obtain rfl:k=V.length:=by omega
     rw[afK]at y1;rw[y1];obtain⟨H2,Q,g1,g2,Z,g4⟩:=d.done O (v:=.aw []) (lo:=lo) hN ha (aeu _);rw[g1];exact⟨_,_,_,rfl,g2,Z,g4⟩
end
section
variable{x:au}{bk:AV}{p:Nat}{H:List ae}(lo:oN)(ha:At p x bk H)(hx:ns x)
include ha hx
theorem avb(l:fo x<=2048): ∃j,D XA (.fn (.func 243) [] []) [.ptr p 0] ⟨H,lo⟩=some j/\uY p H lo (mI x x.aa>>=λy=>.ok (y,bL)) j:=by
 refine cE KI λN f=>?_
 have ho:Old p H (.box (a0 x bk) none):=⟨ha.box⟩;have c:p<N:=by rw[<-f];exact ho.lt
 obtain⟨j,g1,g2⟩:=ai4 (bk:=bk) (H:=H++[.box [.int .i64 0,.int .u64 0,.int .u32 0] none]) none ⟨ho.g _,ha.own.ext⟩ hx.s x.aa hx.t l;cases k:mI x x.aa with
 |error e=>
  rw[k]at g2;obtain⟨W,aj,rfl,g,i⟩:=g2;simp only[go_sem,simprocAttr,KI,f,ho.g,↓CL,g1,EP];obtain⟨n,h,f1,f2,f3⟩:=L8 (v:=jv e) (lo:=lo) f c g (i.imp And.left id) (aeu _);rw[f1,dj];exact⟨_,_,rfl,f2,f3⟩
 |ok y=>
  rw[k]at g2;obtain⟨m,W,aj,rfl,g2,g,i⟩:=g2;have b:W[N]?=some (.box [.int .i64 0,.int .u64 0,.int .u32 0] none):=g.box N _ (by omega) (λa d e=>by cases e) (by grind);simp only[go_sem,simprocAttr,KI,f,ho.g,↓CL,g1,b,cG b];obtain⟨n,h,f1,f2,f3,f4⟩:=Av (v:=.agg [.int .i64 0,.int .u64 0,.int .u32 0]) (lo:=lo) f c CP g2 g (i.imp (λq=>⟨q.1,.inl q.2.1,trivial⟩) id) (aeu _) b (.box [.int .i64 0,.int .u64 0,.int .u32 0] none);rw[f1,okB];exact⟨_,_,_,rfl,f2,f3,f4⟩
theorem avc(o:fo x<=2048): ∃m,D XA (.fn (.func 244) [] []) [.ptr p 0] ⟨H,lo⟩=some m/\uY p H lo (wi x) m:=by
 refine cE Fy λN f=>?_
 have ho:Old p H (.box (a0 x bk) none):=⟨ha.box⟩;have g:p<N:=by rw[<-f];exact ho.lt
 have r:wi x=mF x x.c.a>>=λ_=>mI x x.c.a>>=λy=>.ok (y,bL):=rfl
 have h:=λB lo=>L3 (ho.app B) lo x.c.a
 rw[r];by_cases k:x.c.a<8
 ·obtain⟨m,g1,g2⟩:=ai4 (bk:=bk) (H:=H++[.box [.int .i64 0,.int .u64 0,.int .u32 0] none]) none ⟨ho.g _,ha.own.ext⟩ hx.s x.c.a k o;cases n:mI x x.c.a with
  |error e=>
   rw[n]at g2;obtain⟨W,aj,rfl,i,l⟩:=g2;simp(disch:=omega) only[F1,go_sem,simprocAttr,Fy,f,ho.g,↓CL,h,g1,ef,eg,EP];obtain⟨u,j,f1,f2,f3⟩:=L8 (v:=jv e) (lo:=lo) f g i (l.imp And.left id) (aeu _);rw[f1]
   (repeat' (first| (refine⟨?_,?_⟩)|intro _))
   ·rename_i b;rw[b,okB,dj];exact⟨_,_,rfl,f2,f3⟩
   ·rename_i s b;rw[b,dj];exact .err
  |ok y=>
   rw[n]at g2;obtain⟨t,W,aj,rfl,g2,i,l⟩:=g2;have c:W[N]?=some (.box [.int .i64 0,.int .u64 0,.int .u32 0] none):=i.box N _ (by omega) (λa d e=>by cases e) (by rw[dB f];rfl);simp(disch:=omega) only[F1,go_sem,simprocAttr,Fy,f,ho.g,↓CL,h,g1,c,cG c,ef,eg,EP];obtain⟨u,j,f1,f2,f3,f4⟩:=Av (v:=.agg [.int .i64 0,.int .u64 0,.int .u32 0]) (lo:=lo) f g CP g2 i (l.imp (λq=>⟨q.1,.inl q.2.1,trivial⟩) id) (aeu _) c (.box [.int .i64 0,.int .u64 0,.int .u32 0] none);rw[f1]
   (repeat' (first| (refine⟨?_,?_⟩)|intro _))
   ·rename_i b;rw[b,okB,okB];exact⟨_,_,_,rfl,f2,f3,f4⟩
   ·rename_i s b;rw[b,dj];exact .err
 ·rw[yd k]at h;simp only[F1,go_sem,simprocAttr,Fy,f,ho.g,↓CL,h,ez,EP];rw[yd k,dj];exact .err
end
def sd:Nat->oN
 |1=>some 225|2=>some 226|3=>some 227|4=>some 228|5=>some 229
 |6=>some 230|7=>some 231|8=>some 232|9=>some 233|10=>some 234
 |11=>some 235|12=>some 236|13=>some 237|14=>some 238|15=>some 239
 |16=>some 239|17=>some 240|18=>some 241|19=>some 242|20=>some 243
 |21=>some 244|22=>some 245|_=>none
def avd{H:List ae}(lo:oN)(d:At p x bk H)(b:ns x)(j:fo x<=2048){f:Nat}(g:sd x.c.op=some f):
  ∃c,D XA (.fn (.func f) [] []) [.ptr p 0] ⟨H,lo⟩=some c/\uY p H lo (ie x) c:=by
 have ho:Old p H (.box (a0 x bk) none):=⟨d.box⟩;have hB: ∀a,x.back.length+64*(under x.s.T a).length<=4294967296:=λa=>by have:=Uc b.s a;omega
 have i:x.back.length<=4294967296:=by have:=hB 0;omega
 have ex: ∀ {f:Nat} {m:R (au×bA)},(∃c,D XA (.fn (.func f) [] []) [.ptr p 0] ⟨H,lo⟩=some c/\bh x.back bk p H lo m c)-> ∃c,D XA (.fn (.func f) [] []) [.ptr p 0] ⟨H,lo⟩=some c/\uY p H lo m c:=λh=>by
  obtain⟨c,l,k⟩:=h;exact⟨c,l,k.c d⟩
 unfold sd at g;unfold ie;split at g<;>(try cases g)<;>(rename_i e;simp only[e])
 ·exact ex (auN ho b)
 ·exact ex (auQ ho b)
 ·exact ex (auA ho b)
 ·exact ex (auB ho b)
 ·exact auW lo d b i
 ·exact auV lo d b (hB _)
 ·exact ex (auK ho b)
 ·exact ex (auE ho b)
 ·exact ex (auL ho b)
 ·exact ex (auF ho b)
 ·exact auZ lo d b (hB _)
 ·exact ex (auO ho b)
 ·exact ex (auH ho b)
 ·exact ex (auP ho b)
 ·exact ex (aiR ho b)
 ·exact ex (aiR ho b)
 ·exact ex (auG ho b)
 ·exact ex (auJ ho b)
 ·exact ex (auD ho b)
 ·exact avb lo d b j
 ·exact avc lo d b j
 ·exact ex (auI ho b)
def ave(h:sd x.c.op=none):ie x= .error 2:=by
 unfold sd at h;unfold ie
 grind
noncomputable def Gn:lA->AS->Option aU:=xc XA (D XA) Lw yc 91 xD
def avf(p:Nat)(H:List ae)(lo:oN):R (au×bA)->aU->Prop
 |.ok (y,r),a=> ∃b H' aj,a= .ret (.agg (bF r)) ⟨H',aj⟩/\At p y b H'/\bT p H H'/\Au p H H' lo aj
 |.error e,a=> ∃H' aj,a= .ret (.agg (bF {bL with e:=e})) ⟨H',aj⟩/\bT p H H'/\Au p H H' lo aj
def avg{K:AS->Prop}{H:List ae}(h:K ⟨H,lo⟩):rn XA yc (.fn (.func 115) [] [.ptr q 0]) [] .eX ⟨H,lo⟩ K:=by
 refine Iu (pr:=xE) rfl rfl λn a=>?_
 simp(disch:=omega) only[F1,go_sem,simprocAttr,xE,aiz];exact⟨.inl trivial,.aw [],rfl,by trivial⟩
def Mb{K:AS->Prop}{H:List ae}{a b c:AV}(e:Nat)(d:H[q]?=some (.box [a,b,c] none))(h:K ⟨H.set q (.box [.int .i64 e,.int .u64 0,.int .u32 0] none),lo⟩):rn XA yc (.fn (.func 115) [] [.ptr q 0]) [] (jv e) ⟨H,lo⟩ K:=by
 refine Iu (pr:=xE) rfl rfl λn f=>?_
 simp only[F1,go_sem,simprocAttr,xE,aiA,d,aiB];refine⟨.inl trivial,.aw [],rfl,?_⟩;rw[adY (show(AV.aw []).refs<=n from aeu _),aes (by grind)];exact h
def aja{H:List ae}(lo:oN)(J:At p x bk H)(K:bm x.s)(P:iI x.c)(M:x.run.1<4294967296/\x.run.2<4294967296)(T:x.aa<4294967296)(O:fo x<=2048)
  (o: ∀E,jz XA.fZ E .int .dx (.mb vO) (.int .u8 x.c.op) true=some (match sd x.c.op with|some f=>.aw [.fn (.func f) [] [],.bool true]|none=>.aw [.dx,.bool false])):
  ∃G,Gn [.ptr p 0] ⟨H,lo⟩=some G/\avf p H lo (iF x) G:=by
 refine O5 xD rfl rfl λN g=>?_
 have ho:Old p H (.box (a0 x bk) none):=⟨J.box⟩;have m:p<N:=by rw[<-g];exact ho.lt
 have c: ∀b H lo,D XA (.fn (.func 116) [] []) [.bool b,.int .i64 12] ⟨H,lo⟩=_:=λb=>lZ b 12
 by_cases w:x.aa<8
 ·have s: (x.aa:Int)<8:=by omega
  have c0: (x.aa:Int)>=0:=by omega
  have hand:dA .and (.int .i64 (x.aa:Nat)) (.int .i64 7)=some (.int .i64 (x.aa:Nat)):=by
   rcases(show x.aa=0\/x.aa=1\/x.aa=2\/x.aa=3\/x.aa=4\/x.aa=5\/x.aa=6\/x.aa=7 by omega)with h|h|h|h|h|h|h|h<;>rw[h]<;>rfl
  have n: ∀E,cm XA E false 1 (.dR vO)=some (.mb vO):=λE=>rfl
  have i:=λbk=> @TU x bk x.aa w
  cases l:x.s.alive x.aa with
  |false=>
   rw[l]at i;have c: ∀H lo,D XA (.fn (.func 116) [] []) [.bool false,.int .i64 12] ⟨H,lo⟩=_:=λH lo=>lx (Ao 12 H lo)
   simp only[go_sem,simprocAttr,xD,g,ku,kr,ho.g,↓CL,s,c0,hand,↓i,c,jw];refine⟨rfl,?_⟩;rw[oK];refine Mb 12 (by rw[dB g];rfl) ?_;have u:iF x= .error 12:=by
    have: (decide (x.aa<8)&&x.s.alive x.aa)=false:=by rw[l,aqw]
    unfold iF;rw[this];rfl
   simp(disch:=omega) only[F1,go_sem,simprocAttr];rw[u];exact⟨_,_,rfl,bT.refl _ _,.inl ⟨rfl,rfl,trivial⟩⟩
  |true=>
   rw[l]at i;have c: ∀H lo,D XA (.fn (.func 116) [] []) [.bool true,.int .i64 12] ⟨H,lo⟩=_:=λH lo=>lx (Gi 12 H lo)
   have u:iF x=ie x:=by
    have: (decide (x.aa<8)&&x.s.alive x.aa)=true:=by rw[l,aet w];rfl
    unfold iF;rw[this];rfl
   rw[u];cases k:sd x.c.op with
   |none=>
    rw[k]at o;have z: ∀H lo,D XA (.fn (.func 116) [] []) [.bool false,.int .i64 2] ⟨H,lo⟩=_:=λH lo=>lx (Ao 2 H lo)
    simp only at o;simp only[go_sem,simprocAttr,xD,g,ku,kr,ho.g,↓CL,s,c0,hand,↓i,c,n,o,z];refine⟨rfl,?_⟩;rw[oK];refine Mb 2 (by rw[dB g];rfl) ?_;simp(disch:=omega) only[F1,go_sem,simprocAttr];rw[ave k];exact⟨_,_,rfl,bT.refl _ _,.inl ⟨rfl,rfl,trivial⟩⟩
   |some f=>
    rw[k]at o;simp only at o;have z: ∀H lo,D XA (.fn (.func 116) [] []) [.bool true,.int .i64 2] ⟨H,lo⟩=_:=λH lo=>lx (Gi 2 H lo)
    obtain⟨G,g1,g2⟩:=avd (bk:=bk) (H:=H++[.box [.int .i64 0,.int .u64 0,.int .u32 0] none]) none ⟨ho.g _,J.own.ext⟩ ⟨K,w,P,M⟩ O k;cases I:ie x with
    |error e=>
     rw[I]at g2;obtain⟨W,aj,rfl,t,F⟩:=g2;have j:W[N]?=some (.box [.int .i64 0,.int .u64 0,.int .u32 0] none):=t.box N _ (by omega) (λa d e=>by cases e) (by rw[dB g];rfl);simp only[go_sem,simprocAttr,xD,g,ku,kr,ho.g,↓CL,s,c0,hand,↓i,c,n,o,z,g1];refine⟨rfl,?_⟩;rw[oK];refine Mb e j ?_;simp only[go_sem,simprocAttr,cG j];have Q:bT p (H++[]) (W.set N (.box [.int .i64 (e:Nat),.int .u64 0,.int .u32 0] none)):=by
      rw[afW];exact aiX g m (T7 (N:=N) t (by omega)) _
     obtain⟨S,A,f1,f2,f3⟩:=L8 (v:=.agg [.int .i64 (e:Nat),.int .u64 0,.int .u32 0]) (lo:=lo) g m Q (F.imp And.left id) (aeu _);rw[f1];exact⟨_,_,rfl,f2,f3⟩
    |ok a=>
     rw[I]at g2;obtain⟨y,r⟩:=a;obtain⟨R,W,aj,rfl,g2,t,F⟩:=g2;have j:W[N]?=some (.box [.int .i64 0,.int .u64 0,.int .u32 0] none):=t.box N _ (by omega) (λa d e=>by cases e) (by rw[dB g];rfl);simp only[go_sem,simprocAttr,xD,g,ku,kr,ho.g,↓CL,s,c0,hand,↓i,c,n,o,z,g1,j];refine⟨rfl,rfl,?_⟩;rw[DY];refine avg ?_;have L:List.drop (bF r).length [AV.int .i64 0,.int .u64 0,.int .u32 0]=[]:=rfl;have B:List.take 3 (bF r)=bF r:=rfl;have C: (bF r).length=3:=rfl;simp only[go_sem,simprocAttr,cG j,B,C];obtain⟨S,A,f1,f2,f3,f4⟩:=Av (v:=.agg (bF r)) (lo:=lo) g m CP g2 t (F.imp (λq=>⟨q.1,.inl q.2.1,trivial⟩) id) (aeu _) j (.box (bF r) none);rw[adY (show aK (bF r)<=N+1 from aeu _),f1];exact⟨_,_,_,rfl,f2,f3,f4⟩
 ·have s: ¬(x.aa:Int)<8:=by omega
  have c0: (x.aa:Int)>=0:=by omega
  have c: ∀H lo,D XA (.fn (.func 116) [] []) [.bool false,.int .i64 12] ⟨H,lo⟩=_:=λH lo=>lx (Ao 12 H lo)
  simp only[go_sem,simprocAttr,xD,g,ku,kr,ho.g,↓CL,s,c0,c,jw];refine⟨rfl,?_⟩;rw[oK];refine Mb 12 (by rw[dB g];rfl) ?_;have u:iF x= .error 12:=by
   have: (decide (x.aa<8)&&x.s.alive x.aa)=false:=by rw[aeq w];rfl
   unfold iF;rw[this];rfl
  simp(disch:=omega) only[F1,go_sem,simprocAttr];rw[u];exact⟨_,_,rfl,bT.refl _ _,.inl ⟨rfl,rfl,trivial⟩⟩
noncomputable def XB:Ctx:={XA with bW:=λf=>if f=91 then some Gn else XA.bW f}
theorem ajb:Ext XA XB where
 dR:=rfl
 fZ:=rfl
 code:=rfl
 bW:=λf=>by
  by_cases a:f=91
  ·subst a;exact .inr ⟨rfl,rfl⟩
  ·left;show(if f=91 then some Gn else XA.bW f)=XA.bW f
   grind
theorem Mc{args:lA}{E:AS}{a:AS}(h:Gn args E=some (.ret v a)):D XB (.fn (.func 91) [] []) args E=some (.ret v a):=DX rfl h
def NE{α:Type}(m:R α):Prop:=m≠ .error 0
theorem NE.ok{a:α}:NE (.ok a:R α):=by intro h;cases h
theorem NE.pure{a:α}:NE (Pure.pure a:R α):=by intro h;cases h
def NE.err(a:e≠0):NE (.error e:R α):=by intro h;grind
def NE.bind{m:R α}{f:α->R β}(b:NE m)(c: ∀a,NE (f a)):NE (m>>=f):=by
 cases m with
 |error e=>intro h;cases h;exact b rfl
 |ok a=>exact c a
def NE.ask{b:Bool}(a:e≠0):NE (ask b e):=by
 unfold Go.Proofs.YteplichagkpciaaGreatDoor.ask;split
 ·exact NE.ok
 ·exact NE.err a
def NE.bg:NE (bg e):=by
 unfold Go.Proofs.YteplichagkpciaaGreatDoor.bg;split
 ·exact NE.ok
 ·exact NE.err ‹_›
theorem NE.foldlM{α β:Type}{f:α->β->R α}(h: ∀a b,NE (f a b)): ∀ (l:List β) (a:α),NE (l.foldlM f a)
 | [],_=>NE.pure
 |b::l,a=>NE.bind (h a b) λa=>NE.foldlM h l a
def kR{h w:Nat}:NE (fV x h w):=NE.bg
def kS{t:Nat}:NE (mF x t):=NE.ask (by decide)
def jM{h t:Nat}:NE (mG x h t):=by(repeat (first|rfl|exact NE.pure|exact NE.bg|rfl|rfl|rfl|rfl|rfl| (refine NE.bind ?_ λ_=>?_)|rfl|split|rfl))
def kT{h:Nat}{r:cP}:NE (ng x h r):=by(repeat (first|rfl|exact NE.pure|exact NE.bg|rfl|rfl|rfl|rfl|rfl| (refine NE.bind ?_ λ_=>?_)|rfl|split|rfl))
def kW{h:Nat}:NE (uA x h):=by(repeat (first|rfl|exact NE.pure|exact NE.bg|rfl|rfl|rfl|rfl|rfl| (refine NE.bind ?_ λ_=>?_)|rfl|split|rfl))
def kX{h:Nat}:NE (xR x h):=by(repeat (first|rfl|rfl|rfl|exact NE.ask (by decide)|rfl|rfl|rfl|rfl| (refine NE.bind ?_ λ_=>?_)|rfl|split|rfl))
def jN{h t:Nat}:NE (jH x h t):=by unfold jH;(repeat (first|rfl|exact NE.pure|exact NE.bg|rfl|rfl|rfl|rfl|rfl| (refine NE.bind ?_ λ_=>?_)| (refine NE.foldlM (λ_ _=>?_) _ _)|split|dsimp only))
def kc{t:Nat}:NE (mI x t):=by
 have b:= @jM;have a:= @jN;unfold mI;(repeat (first|exact NE.ok|exact NE.pure|exact NE.bg|exact NE.ask (by decide)|exact NE.err (by decide)|exact kR|exact kS|assumption| (refine NE.bind ?_ λ_=>?_)| (refine NE.foldlM (λ_ _=>?_) _ _)|split|dsimp only))
 all_goals first|exact jM|exact jN
def avh{t:Nat}:NE (qy x t):=by(repeat (first|rfl|exact NE.pure|exact NE.bg|exact NE.ask (by decide)|rfl|rfl|rfl|rfl| (refine NE.bind ?_ λ_=>?_)|rfl|split|rfl))
def avi(x:au):NE (nZ x):=by
 unfold nZ;(repeat (first|exact NE.ok|exact NE.pure|exact NE.bg|exact NE.ask (by decide)|exact NE.err (by decide)|exact kR|exact kS|assumption| (refine NE.bind ?_ λ_=>?_)| (refine NE.foldlM (λ_ _=>?_) _ _)|split|dsimp only))
 all_goals first|exact jM|exact kT|exact kW|exact kX|exact jN|exact kc
def avj(x:au):NE (ic x):=by
 unfold ic;(repeat (first|exact NE.ok|exact NE.pure|exact NE.bg|exact NE.ask (by decide)|exact NE.err (by decide)|exact kR|exact kS|assumption| (refine NE.bind ?_ λ_=>?_)| (refine NE.foldlM (λ_ _=>?_) _ _)|split|dsimp only))
 all_goals first|exact jM|exact kT|exact kW|exact kX|exact jN|exact kc
def avk(x:au):NE (rR x):=by
 unfold rR;(repeat (first|exact NE.ok|exact NE.pure|exact NE.bg|exact NE.ask (by decide)|exact NE.err (by decide)|exact kR|exact kS|assumption| (refine NE.bind ?_ λ_=>?_)| (refine NE.foldlM (λ_ _=>?_) _ _)|split|dsimp only))
 all_goals first|exact jM|exact kT|exact kW|exact kX|exact jN|exact kc
def avl(x:au):NE (rS x):=by
 unfold rS;(repeat (first|rfl|exact NE.pure|rfl|rfl|rfl|exact kR|exact kS|assumption| (refine NE.bind ?_ λ_=>?_)| (refine NE.foldlM (λ_ _=>?_) _ _)|split|dsimp only))
 all_goals first|exact jM|exact kT|exact kW|exact kX|exact jN|exact kc
def avm(x:au):NE (uB x):=by
 unfold uB;(repeat (first|exact NE.ok|exact NE.pure|exact NE.bg|exact NE.ask (by decide)|exact NE.err (by decide)|exact kR|exact kS|assumption| (refine NE.bind ?_ λ_=>?_)| (refine NE.foldlM (λ_ _=>?_) _ _)|split|dsimp only))
 all_goals first|exact jM|exact kT|exact kW|exact kX|exact jN|exact kc
def avn(x:au):NE (uD x):=by
 unfold uD;(repeat (first|exact NE.ok|exact NE.pure|exact NE.bg|exact NE.ask (by decide)|exact NE.err (by decide)|exact kR|exact kS|assumption| (refine NE.bind ?_ λ_=>?_)| (refine NE.foldlM (λ_ _=>?_) _ _)|split|dsimp only))
 all_goals first|exact jM|exact kT|exact kW|exact kX|exact jN|exact kc
def avo(x:au):NE (uE x):=by
 unfold uE;(repeat (first|exact NE.ok|exact NE.pure|exact NE.bg|exact NE.ask (by decide)|exact NE.err (by decide)|exact kR|exact kS|assumption| (refine NE.bind ?_ λ_=>?_)| (refine NE.foldlM (λ_ _=>?_) _ _)|split|dsimp only))
 all_goals first|exact jM|exact kT|exact kW|exact kX|exact jN|exact kc
def avp(x:au):NE (rT x):=by
 unfold rT;(repeat (first|rfl|exact NE.pure|exact NE.bg|exact NE.ask (by decide)|exact NE.err (by decide)|exact kR|exact kS|assumption| (refine NE.bind ?_ λ_=>?_)| (refine NE.foldlM (λ_ _=>?_) _ _)|split|dsimp only))
 all_goals first|exact jM|exact kT|exact kW|exact kX|exact jN|exact kc
def avq(x:au):NE (oZ x):=by
 unfold oZ;(repeat (first|exact NE.ok|exact NE.pure|exact NE.bg|exact NE.ask (by decide)|exact NE.err (by decide)|exact kR|exact kS|assumption| (refine NE.bind ?_ λ_=>?_)| (refine NE.foldlM (λ_ _=>?_) _ _)|split|dsimp only))
 all_goals first|exact jM|exact kT|exact kW|exact kX|exact jN|exact kc
def avr(x:au):NE (uG x):=by
 unfold uG;(repeat (first|exact NE.ok|exact NE.pure|exact NE.bg|exact NE.ask (by decide)|exact NE.err (by decide)|exact kR|exact kS|assumption| (refine NE.bind ?_ λ_=>?_)| (refine NE.foldlM (λ_ _=>?_) _ _)|split|dsimp only))
 all_goals first|exact jM|exact kT|exact kW|exact kX|exact jN|exact kc
def avs(x:au):NE (mH x):=by
 unfold mH;(repeat (first|exact NE.ok|exact NE.pure|exact NE.bg|exact NE.ask (by decide)|exact NE.err (by decide)|exact kR|exact kS|assumption| (refine NE.bind ?_ λ_=>?_)| (refine NE.foldlM (λ_ _=>?_) _ _)|split|dsimp only))
 all_goals first|exact jM|exact kT|exact kW|exact kX|exact jN|exact kc
def avt(x:au):NE (ni x):=by
 unfold ni;(repeat (first|exact NE.ok|exact NE.pure|exact NE.bg|exact NE.ask (by decide)|exact NE.err (by decide)|exact kR|exact kS|assumption| (refine NE.bind ?_ λ_=>?_)| (refine NE.foldlM (λ_ _=>?_) _ _)|split|dsimp only))
 all_goals first|exact jM|exact kT|exact kW|exact kX|exact jN|exact kc
def avu(x:au):NE (uH x):=by
 unfold uH;(repeat (first|rfl|exact NE.pure|exact NE.bg|exact NE.ask (by decide)|exact NE.err (by decide)|exact kR|exact kS|assumption| (refine NE.bind ?_ λ_=>?_)| (refine NE.foldlM (λ_ _=>?_) _ _)|split|dsimp only))
 all_goals first|exact jM|exact kT|exact kW|exact kX|exact jN|exact kc
def avv(x:au):NE (oc x):=by
 unfold oc;(repeat (first|exact NE.ok|exact NE.pure|exact NE.bg|exact NE.ask (by decide)|exact NE.err (by decide)|exact kR|exact kS|assumption| (refine NE.bind ?_ λ_=>?_)| (refine NE.foldlM (λ_ _=>?_) _ _)|split|dsimp only))
 all_goals first|exact jM|exact kT|exact kW|exact kX|exact jN|exact kc
def avw(x:au):NE (uI x):=by
 unfold uI;(repeat (first|exact NE.ok|exact NE.pure|exact NE.bg|exact NE.ask (by decide)|exact NE.err (by decide)|exact kR|exact kS|assumption| (refine NE.bind ?_ λ_=>?_)| (refine NE.foldlM (λ_ _=>?_) _ _)|split|dsimp only))
 all_goals first|exact jM|exact kT|exact kW|exact kX|exact jN|exact kc
def avx(x:au):NE (qz x):=by
 unfold qz;(repeat (first|rfl|exact NE.pure|rfl|exact NE.ask (by decide)|rfl|rfl|rfl|rfl| (refine NE.bind ?_ λ_=>?_)| (refine NE.foldlM (λ_ _=>?_) _ _)|split|dsimp only))
 all_goals first|exact jM|exact kT|exact kW|exact kX|exact jN|exact kc
def avy(x:au):NE (uF x):=by
 unfold uF;(repeat (first|exact NE.ok|exact NE.pure|exact NE.bg|exact NE.ask (by decide)|exact NE.err (by decide)|exact kR|exact kS|assumption| (refine NE.bind ?_ λ_=>?_)| (refine NE.foldlM (λ_ _=>?_) _ _)|split|dsimp only))
 all_goals first|exact jM|exact kT|exact kW|exact kX|exact jN|exact kc
def avz(x:au):NE (wi x):=by
 unfold wi;(repeat (first|exact NE.ok|exact NE.pure|exact NE.bg|exact NE.ask (by decide)|exact NE.err (by decide)|exact kR|exact kS|assumption| (refine NE.bind ?_ λ_=>?_)| (refine NE.foldlM (λ_ _=>?_) _ _)|split|dsimp only))
 all_goals first|exact jM|exact kT|exact kW|exact kX|exact jN|exact kc
def avA(x:au):NE (ie x):=by
 unfold ie;split<;>first|exact avi x|exact avj x|exact avh|exact avk x|exact avl x|exact avm x|exact avn x|exact avo x|exact avp x|exact avy x|exact avq x|exact avr x|exact avs x|exact avt x|exact avu x|exact avv x|exact avw x|exact avz x|exact avx x|exact NE.err (by decide)|exact NE.bind kc λ_=>NE.pure
def Ui(h:iF x= .error e):e≠0:=by
 intro he;subst he;exact NE.bind (NE.ask (by decide)) (λ_=>avA x) h
def EZ(m:R (au×bA)):Prop:= ∀a,m= .ok a->a.2.e=0
theorem EZ.ok{a:au×bA}(h:a.2.e=0):EZ (.ok a):=by intro b c;grind
theorem EZ.pure{a:au×bA}(h:a.2.e=0):EZ (Pure.pure a:R (au×bA)):=by intro b c;cases c;exact h
def EZ.err:EZ (.error e):=by intro b a;cases a
def EZ.bind{m:R α}{f:α->R (au×bA)}(c: ∀a,EZ (f a)):EZ (m>>=f):=by
 cases m with
 |error e=>intro b d;cases d
 |ok a=>exact c a
def avB(x:au):EZ (nZ x):=by unfold nZ;(repeat (first|rfl|exact EZ.pure rfl|rfl|rfl| (refine EZ.bind λ_=>?_)|split|rfl))
def avC(x:au):EZ (ic x):=by unfold ic;(repeat (first|rfl|exact EZ.pure rfl|rfl|rfl| (refine EZ.bind λ_=>?_)|split|simp))
def avD(x:au):EZ (rR x):=by(repeat (first|rfl|exact EZ.pure rfl|rfl|rfl| (refine EZ.bind λ_=>?_)|split|rfl))
def avE(x:au):EZ (rS x):=by(repeat (first|rfl|exact EZ.pure rfl|rfl|rfl| (refine EZ.bind λ_=>?_)|split|rfl))
def avF(x:au):EZ (uB x):=by(repeat (first|rfl|exact EZ.pure rfl|rfl|rfl| (refine EZ.bind λ_=>?_)|split|rfl))
def avG(x:au):EZ (uD x):=by(repeat (first|rfl|exact EZ.pure rfl|rfl|rfl| (refine EZ.bind λ_=>?_)|split|rfl))
def avH(x:au):EZ (uE x):=by(repeat (first|rfl|exact EZ.pure rfl|rfl|rfl| (refine EZ.bind λ_=>?_)|split|rfl))
def avI(x:au):EZ (rT x):=by(repeat (first|rfl|exact EZ.pure rfl|rfl|rfl| (refine EZ.bind λ_=>?_)|split|rfl))
def avJ(x:au):EZ (oZ x):=by(repeat (first|rfl|exact EZ.pure rfl|rfl|rfl| (refine EZ.bind λ_=>?_)|split|rfl))
def avK(x:au):EZ (uG x):=by(repeat (first|rfl|exact EZ.pure rfl|rfl|rfl| (refine EZ.bind λ_=>?_)|split|rfl))
def avL(x:au):EZ (mH x):=by(repeat (first|rfl|exact EZ.pure rfl|rfl|rfl| (refine EZ.bind λ_=>?_)|split|simp))
def avM(x:au):EZ (ni x):=by(repeat (first|rfl|exact EZ.pure rfl|rfl|rfl| (refine EZ.bind λ_=>?_)|split|simp))
def avN(x:au):EZ (uH x):=by(repeat (first|rfl|exact EZ.pure rfl|rfl|rfl| (refine EZ.bind λ_=>?_)|split|rfl))
def avO(x:au):EZ (oc x):=by(repeat (first|rfl|exact EZ.pure rfl|rfl|rfl| (refine EZ.bind λ_=>?_)|split|rfl))
def avP(x:au):EZ (uI x):=by(repeat (first|rfl|exact EZ.pure rfl|rfl|rfl| (refine EZ.bind λ_=>?_)|split|rfl))
def avQ(x:au):EZ (qz x):=by(repeat (first|rfl|exact EZ.pure rfl|rfl|rfl| (refine EZ.bind λ_=>?_)|split|rfl))
def avR(x:au):EZ (uF x):=by(repeat (first|rfl|exact EZ.pure rfl|rfl|rfl| (refine EZ.bind λ_=>?_)|split|rfl))
def avS(x:au):EZ (wi x):=by(repeat (first|rfl|exact EZ.pure rfl|rfl|rfl| (refine EZ.bind λ_=>?_)|split|rfl))
def avT{t:Nat}:EZ (qy x t):=by(repeat (first|rfl|exact EZ.pure rfl|rfl|rfl| (refine EZ.bind λ_=>?_)|split|rfl))
def avU(x:au):EZ (ie x):=by
 unfold ie;split<;>first|exact avB x|exact avC x|exact avT|exact avD x|exact avE x|exact avF x|exact avG x|exact avH x|exact avI x|exact avR x|exact avJ x|exact avK x|exact avL x|exact avM x|exact avN x|exact avO x|exact avP x|exact avS x|exact avQ x|exact EZ.err|exact EZ.bind λ_=>EZ.pure rfl
def Md(h:iF x= .ok (y,r)):r.e=0:=(show EZ (iF x)from EZ.bind λ_=>avU x) _ h
theorem Uj(s:bD)(aa:Nat)(c:cq)(run:aC):ds s aa c run=match iF ⟨s,aa,c,run,0,false,[]⟩with
  |.ok (y,r)=>(y.s,r,y.back)
  |.error e=>(s,{bL with e:=e},[]):=by
 unfold ds;cases h:iF ⟨s,aa,c,run,0,false,[]⟩with
 |error e=>rfl
 |ok a=>exact adY (Md h)
theorem ajc{t:Nat}:aM (a0 x bk) 952 [.int .i64 t]=a0 {x with aa:=t} bk:=by rw[CG (by omega)];rfl
theorem ajd{c:cq}:aM (a0 x bk) 953 (bn c)=a0 {x with c:=c} bk:=by rw[CG (by omega)];rfl
theorem aje{r:aC}:aM (a0 x bk) 959 (aA r)=a0 {x with run:=r} bk:=by rw[CG (by omega)];rfl
theorem ajf{s:bD}:bw s++List.drop 952 IF=a0 ⟨s,0,mM,(0,0),0,false,[]⟩ .aq:=rfl
def ajg:IF.length=964:=by decide
def Uk:nE.length=952:=by decide
def ajh:List.drop 952 nE=[]:=ahp (by rw[Uk];omega)
def Me{s:bD}:List.take 952 (bw s)=bw s:=aes (by rw[ep];omega)
theorem Ul{s:bD}:List.drop 952 (bw s)=[]:=by rfl
theorem Gp{c:cq}: (bn c).length=6:=rfl
theorem Mf{c:cq}:List.take 6 (bn c)=bn c:=rfl
theorem ye:List.take 3 (bF r)=bF r:=rfl
theorem uZ: (bF r).length=3:=rfl
def DZ:=gG @ajc<|gG @ajd<|gG @aje<|gG @ajf<|gG @ajg<|gG @Uk<|gG @ajh<|gG @Me<|gG @Ul<|gG @Gp<|gG @Mf<|gG @ye<|gG @uZ<|gG @ep @LS
def Um(s:bD)(S:bm s)(aa:Nat)(R:aa<4294967296)(c:cq)(V:iI c)(run:aC)(T:run.1<4294967296/\run.2<4294967296)
  (Y: ∀E,jz XA.fZ E .int .dx (.mb vO) (.int .u8 c.op) true=some (match sd c.op with|some f=>.aw [.fn (.func f) [] [],.bool true]|none=>.aw [.dx,.bool false])) (H:List ae) (lo:oN):
  ∃v,D XB (.fn (.func 54) [] []) [.agg (bw s),.int .i64 aa,.agg (bn c),.agg (aA run)] ⟨H,lo⟩=some (.ret (.aw [.agg (bw (ds s aa c run).1),.agg (bF (ds s aa c run).2.1),v]) ⟨H,lo⟩)/\Rv v 2 ((ds s aa c run).2.2.map aA):=by
 suffices j: ∃u,D XB (.fn (.func 54) [] []) [.agg (bw s),.int .i64 aa,.agg (bn c),.agg (aA run)] ⟨H,lo⟩=some u/\ (λu=> ∃v,u=aU.ret (.aw [.agg (bw (ds s aa c run).1),.agg (bF (ds s aa c run).2.1),v]) ⟨H,lo⟩/\Rv v 2 ((ds s aa c run).2.2.map aA)) u by
  obtain⟨u,h1,v,rfl,Z⟩:=j;exact⟨v,h1,Z⟩
 refine cE Fa λN h=>?_
 obtain⟨x,j⟩: ∃x:au,x=⟨s,aa,c,run,0,false,[]⟩:=⟨_,rfl⟩;obtain⟨L,b⟩: ∃L:List ae,L=[.box (bw s) none,.box (bn c) none,.box (aA run) none,.box nE none,.box [.int .i64 0,.int .u64 0,.int .u32 0] none,.box (a0 x .aq) none]:=⟨_,rfl⟩;have K:At (N+5) x .aq (H++L):=⟨by rw[bE h,b];rfl,by rw[j];exact aQ.aq⟩;obtain⟨u,g1,g2⟩:=aja (x:=x) none K (by rw[j];exact S) (by rw[j];exact V) (by rw[j];exact T) (by rw[j];exact R) (by rw[j];unfold fo;have:=mA s.T.b;simp;omega) (by rw[j];exact Y);have m:ds s aa c run=match iF x with
  |.ok (y,r)=>if r.e=0 then(y.s,r,y.back)else(s,r,[])
  |.error e=>(s,{bL with e:=e},[]):=by rw[j];rfl
 rw[b,j]at g1;have rest: ∀W:List ae,bT (N+5) (H++L) W-> ∀cs bs A B:lA,(∀i,i<N->(((W++[ae.box cs none]).set (N+3) (ae.box A none)).set (N+4) (ae.box B none))[i]?=H[i]?):=by
  intro W g cs bs A B i hi;have U:=g.len;simp at U;rw[adb (by omega),adb (by omega),adf (by omega),g.low i (by omega),adf (by omega)]
 cases J:iF x with
 |error e=>
  rw[J]at g2 m;obtain⟨W,aj,rfl,g,F⟩:=g2;have g1:=Mc g1;have w0:W[N]?=some (.box (bw s) none):=g.box N _ (by omega) (λa d e=>by cases e) (by rw[dB h,b];rfl);have w1:W[N+3]?=some (.box nE none):=g.box (N+3) _ (by omega) (λa d e=>by cases e) (by rw[bE h,b];rfl);have G:W[N+4]?=some (.box [.int .i64 0,.int .u64 0,.int .u32 0] none):=g.box (N+4) _ (by omega) (λa d e=>by cases e) (by rw[bE h,b];rfl);have I:=λL=>aZ (L:=L) w0
  have p:=λL=>aZ (L:=L) w1
  have n:=λL=>aZ (L:=L) G
  have z:=λL o=>cG (o:=o) (p L)
  have w:=λL o o'=>cG (o:=o') ((adb (by omega:N+3≠N+4)).trans (n L): ((W++L).set (N+3) o)[N+4]?=_)
  have he:=Ui J;have k: ¬((e:Nat):Int)=0:=by omega
  obtain⟨M,C⟩: ∃M,W.length=M:=⟨_,rfl⟩;have l: (M !=N+3)=true:=by
   have:=g.len;rw[b]at this;simp at this;simp;omega
  simp(disch:=omega) only[go_sem,simprocAttr,Fa,h,DZ,g1,C,I,p,n,z,w,k,bF,l,ath,Ap,oW];rw[ju (eH.le (N:=N+5) ?_ (by omega)) ?_]
  ·rw[m];exact⟨_,du rfl (lW h (rest W g _ [] _ _)),.aq⟩
  ·exact F.elim (λq=>.inl q.1) λq=>.inr ⟨N+5,afA _,q⟩
  ·simp[AV.refs,aK,oW]
 |ok a=>
  obtain⟨y,r⟩:=a;rw[J]at g2 m;obtain⟨oq,W,aj,rfl,g2,g,F⟩:=g2;have m:ds s aa c run=if r.e=0 then(y.s,r,y.back)else(s,r,[]):=m
  have g1:=Mc g1;have w0:W[N]?=some (.box (bw s) none):=g.box N _ (by omega) (λa d e=>by cases e) (by rw[dB h,b];rfl);have w1:W[N+3]?=some (.box nE none):=g.box (N+3) _ (by omega) (λa d e=>by cases e) (by rw[bE h,b];rfl);have G:W[N+4]?=some (.box [.int .i64 0,.int .u64 0,.int .u32 0] none):=g.box (N+4) _ (by omega) (λa d e=>by cases e) (by rw[bE h,b];rfl);have I:=λL=>aZ (L:=L) w0
  have p:=λL=>aZ (L:=L) w1
  have n:=λL=>aZ (L:=L) G
  have Q:=λL=>aZ (L:=L) g2.box
  have z:=λL o=>cG (o:=o) (p L)
  have w:=λL o o'=>cG (o:=o') ((adb (by omega:N+3≠N+4)).trans (n L): ((W++L).set (N+3) o)[N+4]?=_)
  obtain⟨M,C⟩: ∃M,W.length=M:=⟨_,rfl⟩;have X:N+6<=M:=by
   have:=g.len;rw[b]at this;simp at this;omega
  have l: (M !=N+3)=true:=by simp;omega
  have P: (M !=N+4)=true:=by simp;omega
  by_cases t:r.e=0
  ·rw[adY t]at m;have k: ((r.e:Nat):Int)=0:=by omega
   simp(disch:=omega) only[go_sem,simprocAttr,Fa,h,DZ,↓CL,g1,C,p,n,z,w,Q,k,bF,l,ath,Ap,oW];have O:=aQ.nq (o:=.box (bF r) none) (aQ.nq (o:=.box (bw y.s) none) (aQ.ext (L:=[ae.box (bF r) none]) (aQ.le g2.own (show N<=N+5+1 by omega))) (p _)) ((adb (by omega:N+3≠N+4)).trans (n _));have er: [AV.int .i64 0,AV.int .u64 (r.v:Nat),AV.int .u32 (r.w:Nat)]=bF r:=by unfold bF;rw[t];rfl
   rw[er];refine⟨by simp,by simp,?_⟩;rw[vK (eH.le (N:=N+5) ?_ (by omega)) (Fz.aw (d:=11) (ir.cons ((Fz.low (d:=0) ?_).mono (by omega)) (ir.cons ((Fz.low (d:=0) ?_).mono (by omega)) (ir.cons ((Fz.own (d:=0) O ?_).mono (by omega)) ir.nil))))]
   ·rw[m];refine⟨_,du rfl (lW h (rest W g _ [] _ _)),?_⟩;exact aQ.sR O
   ·exact F.elim (λq=>.inl q.1) λq=>.inr ⟨N+5,afA _,q⟩
   ·simp[AV.refs,oW]
   ·exact aeu _
   ·rw[bB (λx=>rfl)];exact aeu _
  ·rw[adU t]at m;have k: ¬((r.e:Nat):Int)=0:=by omega
   simp(disch:=omega) only[go_sem,simprocAttr,Fa,h,DZ,g1,C,I,p,n,z,w,k,bF,l,ath,Ap,oW];rw[ju (eH.le (N:=N+5) ?_ (by omega)) ?_]
   ·rw[m];exact⟨_,du rfl (lW h (rest W g _ [] _ _)),.aq⟩
   ·exact F.elim (λq=>.inl q.1) λq=>.inr ⟨N+5,afA _,q⟩
   ·simp[AV.refs,aK,oW]
def lz{args:lA}{E:AS}{r:aU}(h:D X0 v args E=some r):D XB v args E=some r:=wk ajb (lx h)
def lX{args:lA}{E:AS}{r:aU}(h:D X v args E=some r):D XB v args E=some r:=wk ajb (ly h)
theorem aji{b:Bool}:aM (a0 x bk) 962 [.bool b]=a0 {x with asks:=b} bk:=by rw[CG (by omega)];rfl
theorem ajj{c:cq}: (bn c)[0]?=some (.int .u8 c.op):=rfl
theorem ajk{c:cq}: (bn c)[1]?=some (.int .u32 c.r):=rfl
theorem ajl{c:cq}: (bn c)[2]?=some (.int .u32 c.s):=rfl
theorem ajm{c:cq}: (bn c)[3]?=some (.int .u32 c.a):=rfl
theorem ajn{c:cq}: (bn c)[4]?=some (.int .u32 c.b):=rfl
theorem ajo{c:cq}: (bn c)[5]?=some (.int .u64 c.v):=rfl
def gz:=gG @ajj<|gG @ajk<|gG @ajl<|gG @ajm<|gG @ajn @ajo
def SL:=gG @Lf<|gG @SM<|gG @SN<|gG @SI @SJ
def Un(s:bD)(t:bm s)(aa:Nat)(p:aa<4294967296)(c:cq)(v:iI c)
  (w: ∀E,jz XA.fZ E .int .dx (.mb vO) (.int .u8 c.op) true=some (match sd c.op with|some f=>.aw [.fn (.func f) [] [],.bool true]|none=>.aw [.dx,.bool false])) (H:List ae) (lo:oN):
  D XB (.fn (.func 53) [] []) [.agg (bw s),.int .i64 aa,.agg (bn c)] ⟨H,lo⟩=some (.ret (.int .i64 (dY s aa c:Nat)) ⟨H,lo⟩):=by
 refine aH E9 λN j=>?_
 obtain⟨x,b⟩: ∃x:au,x=⟨s,aa,c,(0,0),0,true,[]⟩:=⟨_,rfl⟩;by_cases z:c.op=2
 ·have l: (c.op:Int)=2:=by omega
  obtain⟨L,m⟩: ∃L:List ae,L=[.box (bw s) none,.box (bn c) none,.box (a0 x .aq) none]:=⟨_,rfl⟩;have n:At (N+2) x .aq (H++L):=⟨by grind,by rw[b];exact aQ.aq⟩;obtain⟨C,g1,g2⟩:=aja (x:=x) none n (by rw[b];exact t) (by rw[b];exact v) (by rw[b];exact⟨show 0<4294967296 by omega,show 0<4294967296 by omega⟩) (by rw[b];exact p) (by rw[b];unfold fo;have:=mA s.T.b;simp;omega) (by rw[b];exact w);have k:dY s aa c=match iF x with
   |.ok (y,_)=>y.lT
   |.error e=>0:=by rw[b];unfold dY;rw[adU (by omega)];rfl
  rw[m,b]at g1;have rest: ∀W:List ae,bT (N+2) (H++L) W->W.take N=H:=by
   intro W g;refine lW j λi B=>?_
   rw[g.low i (by omega),adf (by omega)]
  cases h:iF x with
  |error e=>
   rw[h]at g2 k;obtain⟨W,aj,rfl,g,o⟩:=g2;have g1:=Mc g1;have he:=Ui h;have d: ¬((e:Nat):Int)=0:=by omega
   simp only[go_sem,simprocAttr,E9,j,DZ,gz,aji,l,g1,bF,d];rw[ju (eH.le (N:=N+2) (o.elim (λq=>.inl q.1) λq=>.inr ⟨N+2,afA _,q⟩) (by omega)) (aeu _),k,rest W g];rfl
  |ok a=>
   obtain⟨y,r⟩:=a;rw[h]at g2 k;obtain⟨A,W,aj,rfl,g2,g,o⟩:=g2;have g1:=Mc g1;have u:=Md h;have d: ((r.e:Nat):Int)=0:=by omega
   simp only[go_sem,simprocAttr,E9,j,DZ,gz,↓CL,aji,l,g1,bF,d,g2.box];rw[ju (eH.le (N:=N+2) (o.elim (λq=>.inl q.1) λq=>.inr ⟨N+2,afA _,q⟩) (by omega)) (aeu _),k,rest W g]
 ·have l: ¬(c.op:Int)=2:=by omega
  simp only[F1,go_sem,simprocAttr,E9,j,DZ,gz,l];rw[show dY s aa c=0 by unfold dY;rw[adY z]];rfl
def ij(n:Nat):lA:=[.int .i64 n]
def avV(H:List ae)(lo:oN):D X0 (.fn (.func 177) [] []) [.aq] ⟨H,lo⟩=some (.ret .aq ⟨H,lo⟩):=by
 refine aH Fu λN b=>?_
 have a:gE 1 .aq none (some (.int .i64 0)) (some (.int .i64 0))=some .aq:=by rfl
 simp(disch:=omega) only[F1,go_sem,simprocAttr,Fu,a]
def avW(id ak n:Nat)(H:List ae)(c:id<H.length)(lo:oN):D X0 (.fn (.func 177) [] []) [.ref id ak 1 0 n false] ⟨H,lo⟩=some (.ret (.ref id ak 1 0 n true) ⟨H,lo⟩):=by
 refine aH Fu λN d=>?_
 have b:gE 1 (.ref id ak 1 0 n false) none (some (.int .i64 (n:Nat))) (some (.int .i64 (n:Nat)))=some (.ref id ak 1 0 n true):=by simp[gE,gC,mc,me]
 have a: ∀E,gl E .sl (.ref id ak 1 0 n false)=some (.int .i64 n):=λE=>rfl
 simp only[go_sem,simprocAttr,Fu,b,a];rw[ju (.inl rfl) (by simp only[AV.refs];omega),aes (by omega)]
def avX(s:bD)(Q:bm s)(c:cq)(l:iI c)(H:List ae)(lo:oN):
  ∃v,D XB (.fn (.func 156) [] []) [.agg (bw s),.agg (bn c)] ⟨H,lo⟩=some (.ret (.aw [v,.int .i64 (iG s c).2]) ⟨H,lo⟩)/\Rv v 1 ((iG s c).1.map ij):=by
 suffices W: ∃x,D XB (.fn (.func 156) [] []) [.agg (bw s),.agg (bn c)] ⟨H,lo⟩=some x/\ (λx=> ∃v,x=aU.ret (.aw [v,.int .i64 (iG s c).2]) ⟨H,lo⟩/\Rv v 1 ((iG s c).1.map ij)) x by
  obtain⟨x,w,v,rfl,z⟩:=W;exact⟨v,w,z⟩
 refine cE Fp λN p=>?_
 have b:=λH lo=>lz (r6 s.T Q.T c.r l.r H lo)
 have o:=Q.T.get c.r;simp only[lV]at b;generalize R: (aG s.T c.r).1=r at*;generalize he: (aG s.T c.r).2=e at*;have hb:=l.b;have ha:=l.a;have X:=l.op;have y:=o.len;by_cases Y:e=0
 ·have c0:decide ((e:Int)=0)=true:=aet (by omega);by_cases w: (c.op≠3/\c.op≠4)\/c.b<1\/8<c.b
  ·have f:iG s c=([],2):=by unfold iG;rw[he,adU (by omega),adY w]
   rw[f];simp only[↓apO,↓R1,Zz,go_sem,simprocAttr,Fp,p,b,c0,gz,↓SL];refine w8 25 (.bool true) [3,4,5,6] rfl rfl ?_ λf=>?_
   ·simp(disch:=omega) only[R4,↓R1,Zz,go_sem,simprocAttr,gz]
    (repeat' (first|apply And.intro|intro _))
    all_goals(try(refine ahl AV.bool (aoo.2 ?_);simp[];try(intros;omega)))
    all_goals first|trivial|omega
   ·simp(disch:=omega) only[F1,↓R1,Zz,go_sem,simprocAttr];exact⟨.aq,rfl,.aq⟩
  ·simp only[↓R1,Zz,go_sem,simprocAttr,Fp,p,b,c0,gz,↓SL];refine w8 25 (.bool false) [3,4,5,6] rfl rfl ?_ λe1=>?_
   ·simp(disch:=omega) only[R4,↓R1,Zz,go_sem,simprocAttr,gz]
    (repeat' (first|apply And.intro|intro _))
    all_goals(try(refine ahl AV.bool (aoo.2 ?_);simp[];try(intros;omega)))
    all_goals first|trivial|omega
   ·by_cases z:r.len<c.a+c.b
    ·have O: (r.len:Int)-c.b<c.a:=by omega
     have f:iG s c=([],9):=by unfold iG;rw[he,adU (by omega),adU w,R,adY z]
     rw[f];simp(disch:=omega) only[F1,↓apO,↓R1,↓MP,Zz,go_sem,simprocAttr,gz,O];exact⟨.aq,rfl,.aq⟩
    ·have O: ¬(r.len:Int)-c.b<c.a:=by omega
     have f:iG s c=((List.range c.b).map λi=>(kO r.runs 0 (c.a+i)).getD 0,0):=by unfold iG;rw[he,adU (by omega),adU w,R,adU z]
     rw[f];simp(disch:=omega) only[↓apO,↓R1,↓MP,Zz,go_sem,simprocAttr,gz,O];obtain⟨B,hB⟩: ∃B:List ae,B=[.box (bw s) none,.box (bn c) none,.box (bM r) none]:=⟨_,rfl⟩;have M: (H++B).length=N+3:=by rw[hB];simp[p]
     rw[<-hB];refine iq c.b (λk e H' aj=>aj=none/\ (H++B)<+:H'/\ (∃v,e 8=v/\aQ (N+3) H' v 1 p9 ((List.range k).map λi=>ij ((kO r.runs 0 (c.a+i)).getD 0)))/\e 3= .ptr (N+1) 0/\e 6= .ptr (N+2) 0/\e 58= .int .i64 c.b/\e 59= .int .i64 k) 0 (by omega) ?_ ?_
     ·simp only[↓apO,Zz,go_sem,simprocAttr];exact⟨aqz,_,rfl,aQ.aq⟩
     rintro k hk e H' aj ⟨rfl,⟨L,rfl⟩,⟨v,S,a⟩,U,T,u,t⟩ n hn;have C: (B++L)[1]?=some (.box (bn c) none):=by rw[hB];rfl
     have A: (B++L)[2]?=some (.box (bM r) none):=by rw[hB];rfl
     simp only[adV]at a;simp only[bX,↓R1,Zz,go_sem,simprocAttr,ae0,T,S,u,t];refine⟨λl=>?_,λl=>?_⟩
     ·have J:k<c.b:=by omega
      have m:=λH lo=>lz (as2 (ed r.runs) r.len r.runs (mz r.runs) o.rb.1 (c.a+k) (by omega) H lo)
      simp only[LJ,anW]at m;have E:List.take 2 (List.drop 2 (bM r))=[ed r.runs,.int .i64 r.len]:=rfl;simp(disch:=omega) only[↓R1,Zz,go_sem,simprocAttr,U,S,C,A,gz,E,m];refine rm (H0:=H++B) (ys:=[ij ((kO r.runs 0 (c.a+k)).getD 0)]) a ⟨L,adV _ _ _⟩ M (by omega) (by intro el K;rw[afC.1 K];rfl) rfl (by rw[afB,auS];show(k+1)*8<=room;unfold room;omega) λv' H2 g I=>?_
      simp(disch:=omega) only[↓apO,↓R1,Zz,go_sem,simprocAttr,U,T,u,t];refine⟨J,I,v',rfl,?_⟩
      (try rw[aog]);rw[afI]
      exact g
     ·obtain rfl:k=c.b:=by omega
      have G:b9 ((List.range c.b).map λi=>ij ((kO r.runs 0 (c.a+i)).getD 0))=0:=bB (λ_=>rfl) _;have F: (H++(B++L)).take N=H:=by rw[<-p];simp
      rw[awm];rcases a.2 with⟨rfl,q⟩| ⟨id,ak,Z,rfl,P⟩
      ·have h:=λH lo=>lz (avV H lo)
       simp(disch:=omega) only[F1,↓R1,Zz,go_sem,simprocAttr,h];refine⟨.aq,rfl,?_⟩;have V: ((List.range c.b).map λi=>ij ((kO r.runs 0 (c.a+i)).getD 0))=[]:=q;exact(ahl (Rv .aq 1) V).mpr .aq
      ·have h:=λn=>lz (avW id ak n (H++(B++L)) (ew P) none)
       simp only[↓R1,Zz,go_sem,simprocAttr,h];rw[vK (.inl rfl) (Fz.aw (d:=11) (ir.cons (a':=.sl ((List.range c.b).map λi=>ij ((kO r.runs 0 (c.a+i)).getD 0)) true) (λj=>?_) (ir.cons ((Fz.low (d:=0) (aeu _)).mono (by omega)) ir.nil)))]
       ·exact⟨_,du rfl F,Rv.sl a.1⟩
       ·rw[show j+10=(j+6)+4 by omega];exact aix (by omega) P (by simp) (by rw[G];omega)
 ·have c0:decide ((e:Int)=0)=false:=aeq (by omega);have f:iG s c=([],e):=by unfold iG;rw[he,adY Y]
  rw[f];simp only[F1,↓R1,Zz,go_sem,simprocAttr,Fp,p,b,c0,gz,↓SL];exact⟨.aq,rfl,.aq⟩
def fF(l:fD):lA:=[.int .u8 l.has,.int .i64 l.n]++arr 8 λi=>[.int .u8 (l.wait i)]
theorem Ay(l:fD): (fF l).length=10:=rfl
theorem Gq(l:fD):aK (fF l)=0:=rfl
def cZ(m:Marks):lA:=arr 32 λi=>fF (m i)
theorem eh(m:Marks): (cZ m).length=320:=by rfl
theorem ke(m:Marks):aK (cZ m)=0:=by rfl
structure iJ(l:fD):Prop where
 has:l.has<=8
 n:l.n<=8
 lt: ∀i,l.wait i<8
 inj: ∀i j,i<l.n->j<l.n->l.wait i=l.wait j->i=j
def u9(f:Nat->Nat)(x n:Nat):oN:=(List.range n).find? λi=>decide (f i=x)
def Az(o:oN):Int:=match o with|some i=>i|none=> -1
def avY{x:Nat}(h:u9 f x k=none):u9 f x (k+1)=if f k=x then some k else none:=by
 unfold u9 at*;rw[aog,List.find?_append,h]
 grind
def avZ{x:Nat}(h:u9 f x k=some j): ∀n,k<=n->u9 f x n=some j:=by
 intro n a;obtain⟨m,rfl⟩:=Nat.exists_eq_add_of_le a;unfold u9 at*;rw[List.range_add,List.find?_append,h];rfl
def ajp{x:Nat}(h:u9 f x n=some i):i<n/\f i=x:=by
 unfold u9 at h
 grind
def av0(f:Nat->Nat)(x n M off:Nat)(s:n<2147483648)(H:List ae)(cs:lA)(h:H[M]?=some (.box cs none))(r: ∀i,i<n->cs[off+i]?=some (.int .u8 (f i)))(lo:oN):
  D X0 (.fn (.func 181) [] []) [.fA M 1 off n,.int .u8 x] ⟨H,lo⟩=some (.ret (.int .i64 (Az (u9 f x n))) ⟨H,lo⟩):=by
 refine aH Q3 λN v=>?_
 simp only[go_sem,simprocAttr,Q3];refine eG n (λk e H'=>H'=H/\u9 f x k=none/\e 0= .fA M 1 off n/\e 1= .int .u8 x/\e 7= .int .i64 n/\e 8= .int .i64 k) 0 (by omega) ?_ ?_
 ·trivial
 rintro k t e H' ⟨rfl,g,p,o,l,j⟩ m hm;simp(disch:=omega) only[bX,F1,go_sem,simprocAttr,ae3,p,o,l,j];refine⟨λq=>?_,λq=>?_⟩
 ·have b:k<n:=by omega
  have c:=r k b;have u:kn 1 (.fA M 1 off n) (.int .i64 k)=some (.ptr M (off+k)):=by
   rw[O3,adY ⟨by omega,by omega,rfl⟩];simp
  have d:=avY g;by_cases e1:f k=x
  ·have a: ((x:Nat):Int)=f k:=by omega
   rw[adY e1]at d;simp(disch:=omega) only[F1,go_sem,simprocAttr,h,c,a];rw[avZ d n (by omega)];exact⟨by omega,rfl⟩
  ·have a: ¬((x:Nat):Int)=f k:=by omega
   rw[adU e1]at d;simp(disch:=omega) only[go_sem,simprocAttr,p,o,l,j,h,c,a];exact⟨by omega,b,d⟩
 ·obtain rfl:k=n:=by omega
  rw[g];rfl
theorem ajq(n:Nat):IntKind.wrap .u8 (n:Int)=((n % 256:Nat):Int):=by rfl
def ajr(l:fD)(b:iJ l)(aa:Nat)(f:aa<4294967296)(H:List ae)(lo:oN):
  D X0 (.fn (.func 162) [] []) [.agg (fF l),.int .i64 aa] ⟨H,lo⟩=some (.ret (.int .i64 (Az (rU l aa))) ⟨H,lo⟩):=by
 refine aH QT λN c=>?_
 have g:=b.n;have a:=λlo=>av0 l.wait (aa % 256) l.n N 2 (by omega) (H++[.box (fF l) none]) (fF l) (by grind) (λi a=>by
  rcases(show i=0\/i=1\/i=2\/i=3\/i=4\/i=5\/i=6\/i=7 by omega)with h|h|h|h|h|h|h|h<;>subst h<;>rfl) lo
 have hw:=ajq aa;have e: (fF l)[1]?=some (.int .i64 l.n):=rfl;have d: (0:Int)<=l.n/\ (l.n:Int)<=8:=by omega
 simp only[F1,go_sem,simprocAttr,QT,c,e,hw,a,d];rfl
def ajs(l:fD)(i:Nat):fD:={l with wait:=λj=>if i<=j/\j<7 then l.wait (j+1)else l.wait j}
def av1{X:Ctx}{id off:Nat}{k:IntKind}{a:Int}:qT X n sz (.ptr id off) (some (.int k a)) none=if 0<=a/\a<=n then some (.fA id sz (off+a.toNat*sz) (n-a.toNat))else none:=by
 simp only[qT,gC,mc]
 grind
def av2{H:List ae}{N:Nat}(h:H[N]?=some (.box (fF l) none))(a:i<8):
  sy ⟨H,lo⟩ 1 (.fA N 1 (2+i) (8-i)) (.fA N 1 (2+(i+1)) (7-i))=some (.int .i64 (7-i:Nat),⟨H.set N (.box (fF (ajs l i)) none),lo⟩):=by
 rcases(show i=0\/i=1\/i=2\/i=3\/i=4\/i=5\/i=6\/i=7 by omega)with q|q|q|q|q|q|q|q<;>subst q<;>
  (simp only[sy,C8,Den.elems,h];rfl)
def av3(a:k<8):aM (fF l) (2+k) [.int .u8 0]=fF {l with wait:=ar l.wait k 0}:=by
 rcases(show k=0\/k=1\/k=2\/k=3\/k=4\/k=5\/k=6\/k=7 by omega)with q|q|q|q|q|q|q|q<;>subst q<;>rfl
def av4{v:Nat}(a:k<8):aM (fF l) (2+k) [.int .u8 v]=fF {l with wait:=ar l.wait k v}:=by
 rcases(show k=0\/k=1\/k=2\/k=3\/k=4\/k=5\/k=6\/k=7 by omega)with q|q|q|q|q|q|q|q<;>subst q<;>rfl
def ajt(l:fD)(s:iJ l)(aa:Nat)(t:aa<4294967296)(H:List ae)(lo:oN):
  D X0 (.fn (.func 147) [] []) [.agg (fF l),.int .i64 aa] ⟨H,lo⟩=some (.ret (.agg (fF (xT l aa))) ⟨H,lo⟩):=by
 refine aH Ko λN r=>?_
 have a:=λH lo=>ajr l s aa t H lo
 have v:=s.n;have b: ∀l:fD,List.take 10 (fF l)=fF l:=λ_=>rfl
 unfold xT;cases p:rU l aa with
 |none=>
  rw[p]at a;simp only[Az]at a;simp only[F1,go_sem,simprocAttr,Ko,r,a,b,Ay,Gq]
 |some i=>
  rw[p]at a;simp only[Az]at a;have u:=(ajp p).1;have o: ¬((i:Nat):Int)<0:=by omega
  have m: (0:Int)<=i/\ (i:Int)<=8:=by omega
  have k: (0:Int)<=(i:Int)+1/\ (i:Int)+1<=8:=by omega
  have e: ((i:Int)+1).toNat=i+1:=by omega
  have j: ∀l:fD,(fF l)[1]?=some (.int .i64 l.n):=λ_=>rfl
  have f: ∀ (l:fD) (n:Nat),aM (fF l) 1 [.int .i64 n]=fF {l with n:=n}:=λ_ _=>rfl
  have c: (l.n:Int)-1=((l.n-1:Nat):Int):=by omega
  have g:l.n-1<8:=by omega
  have d:=λl:fD=>av3 (l:=l) g
  have h: (ajs l i).n=l.n:=rfl;have q:=λB lo=>av2 (H:=H++(.box (fF l) none::B)) (lo:=lo) (N:=N) (l:=l) (by rw[dB r];rfl) (show i<8 by omega)
  simp(disch:=omega) only[F1,go_sem,simprocAttr,Ko,r,a,b,Ay,Gq,av1,o,m,k,e,q,h,j,f,c,d];exact⟨by omega,by omega,rfl⟩
def se{m:Marks}:Den.part true 320 (cZ m) 0=some (.agg (cZ m)):=FQ (eh m)
def yf{m:Marks}(h:i<32):Den.part true 10 (cZ m) (i*10)=some (.agg (fF (m i))):=kH (k:=10) (o:=0) (f:=λi=>fF (m i)) (λ_=>rfl) h (by omega) (by omega)
def wD{m:Marks}(h:i<32):Den.part false 1 (cZ m) (i*10)=some (.int .u8 (m i).has):=kH (k:=10) (o:=0) (f:=λi=>fF (m i)) (λ_=>rfl) h (by omega) (by omega)
def Gr{m:Marks}(h:i<32):Den.part false 1 (cZ m) (i*10+1)=some (.int .i64 (m i).n):=kH (k:=10) (o:=1) (f:=λi=>fF (m i)) (λ_=>rfl) h (by omega) (by omega)
def CQ{m:Marks}{o:Nat}(h:i<32)(ho:o+vs.length<=10)(a:aM (fF (m i)) o vs=fF l):aM (cZ m) (i*10+o) vs=cZ (ar m i l):=by
 unfold cZ;rw[nR (k:=10) (f:=λi=>fF (m i)) (λ_=>rfl) h ho,a,oS fF]
def Uo(i aa:Nat)(H:List ae)(lo:oN):D X0 (.fn (.func 139) [] []) [.int .i64 i,.int .i64 aa] ⟨H,lo⟩=some (.ret (.bool (jo i aa)) ⟨H,lo⟩):=by
 refine aH Km λN d=>?_
 have b: (i:Int)>=0:=by omega
 have c: (aa:Int)>=0:=by omega
 by_cases f:i<32
 ·have a: (i:Int)<32:=by omega
  have e:jo i aa=decide ((aa:Int)<8):=by unfold jo;grind
  rw[e];simp(disch:=omega) only[F1,go_sem,simprocAttr,Km,b,c,a]
 ·have a: ¬(i:Int)<32:=by omega
  have e:jo i aa=false:=by unfold jo;grind
  rw[e];simp(disch:=omega) only[F1,go_sem,simprocAttr,Km,b,a]
def aju(d:iJ l)(g:aa<8)(h:rU l aa=none):l.n<8:=by
 have k:=d.n;by_cases e:l.n=8
 ·have p: ∀i,i<8->l.wait i≠aa:=by
    unfold rU at h
    grind
  have j: ((List.range 8).map l.wait++[aa]).Nodup:=by
   rw[aBl];refine⟨?_,by simp,?_⟩
   ·rw[axJ,aBk];refine atg (λ {a b} c m f he=>f ?_) (axJ.1 (ayW (n:=8)));exact d.inj a b (by grind) (by grind) he
   grind
  have o:=L0 8 _ j (by
   intro a c;rcases aev.1 c with c|c
   ·obtain⟨i,_,rfl⟩:=afH.1 c;exact d.lt i
   ·rw[afC.1 c];exact g)
  grind
 ·omega
def av5(m:Marks)(E: ∀i,iJ (m i))(a aa:Nat)(P:aa<4294967296)(H:List ae)(lo:oN):
  D X0 (.fn (.func 153) [] []) [.agg (cZ m),.int .i64 a,.int .i64 aa] ⟨H,lo⟩=some (.ret (.aw [.agg (cZ (iU m a aa).1),.bool (iU m a aa).2]) ⟨H,lo⟩):=by
 refine aH uq λN u=>?_
 have s:qb.length=320:=by decide
 have d:List.drop 320 qb=[]:=ahp (by rw[s];omega);have W:List.take 320 (cZ m)=cZ m:=aes (by rw[eh];omega);have b:=λH lo=>Uo a aa H lo
 have T: ∀m:Marks,(AV.aw [.agg (cZ m),.bool false]).refs<=N:=λm=>by simp[AV.refs,aK,ke]
 cases r:jo a aa with
 |false=>
  rw[r]at b;have t:iU m a aa=(m,false):=by unfold iU;rw[adY r]
  rw[t];simp only[F1,go_sem,simprocAttr,uq,u,b,↓se,eh,ke,s,d]
 |true=>
  rw[r]at b;have c:a<32/\aa<8:=by unfold jo at r;simpa using r
  have L: ¬jo a aa=false:=by rw[r];simp
  obtain⟨c,X⟩:=c;have f: (0:Int)<=a/\ (a:Int)<32:=by omega
  have p:=λH lo=>ajr (m a) (E a) aa P H lo
  have w:=λH lo=>ajt (m a) (E a) aa P H lo
  have F:a*10+10<=320:=by omega
  have S:=(E a).has;have V:=(E a).n;have G:a*10<=319:=by omega
  by_cases M: (m a).has=aa+1
  ·have e: (((m a).has:Nat):Int)=(aa:Int)+1:=by omega
   have t:iU m a aa=(m,true):=by unfold iU;rw[adU L,adY M]
   rw[t];simp only[F1,go_sem,simprocAttr,uq,u,b,f,p,↓yf c,↓wD c,e,↓se,eh,ke,s,d]
  ·have e:decide ((((m a).has:Nat):Int)=(aa:Int)+1)=false:=aeq (by omega);have A: ∀ (m:Marks) (l:fD),aM (cZ m) (a*10) (fF l)=cZ (ar m a l):=λm l=>CQ (o:=0) c (by rw[Ay];omega) rfl
   have z: ∀m:Marks,aM (cZ m) (a*10) [.int .u8 ((aa:Int)+1)]=cZ (ar m a {m a with has:=aa+1}):=λm=>CQ (o:=0) c (by simp) rfl
   have y: ∀m':Marks,aM (cZ m') (a*10+1) [.int .i64 (((m a).n:Int)+1)]=cZ (ar m' a {m' a with n:=(m a).n+1}):=λm'=>CQ c (by simp) rfl
   have I:a*10<=318:=by omega
   have Q: ∀m:Marks,List.take 320 (cZ m)=cZ m:=λm=>aes (by rw[eh];omega)
   by_cases K: (m a).has=0/\ ((m a).n=0\/rU (m a) aa=some 0)
   ·have t:iU m a aa=(ar m a {xT (m a) aa with has:=aa+1},true):=by unfold iU;rw[adU L,adU M,adY K]
    rw[t];have J:decide ((((m a).has:Nat):Int)=0)=true:=aet (by omega);have hw:IntKind.wrap .u8 ((aa:Int)+1)=((aa+1:Nat):Int):=by rw[wrap_u8 (by omega) (by omega)];rfl
    by_cases Y: (m a).n=0
    ·have g:decide ((((m a).n:Nat):Int)=0)=true:=aet (by omega);simp(disch:=omega) only[F1,go_sem,simprocAttr,uq,u,b,f,p,w,↓yf c,↓wD c,↓Gr c,e,J,g,hw,A,z,cF,rJ,↓se,eh,ke,s,d,Ay,Gq,F,G]
    ·have g:decide ((((m a).n:Nat):Int)=0)=false:=aeq (by omega);have O:rU (m a) aa=some 0:=K.2.resolve_left Y;rw[O]at p;simp only[Az]at p;simp(disch:=omega) only[F1,go_sem,simprocAttr,uq,u,b,f,p,w,↓yf c,↓wD c,↓Gr c,e,J,g,hw,A,z,cF,rJ,↓se,eh,ke,s,d,Ay,Gq,F,G]
   ·have Z: ∀h:Nat,decide ((h:Int)=0)=decide (h=0):=λh=>afR.2 (by omega)
    cases v:rU (m a) aa with
    |none=>
     have U:=aju (E a) X v;have C: ((m a).n:Int)<8:=by omega
     have B:a*10+2+(m a).n<=319:=by omega
     have t:iU m a aa=(ar m a {m a with n:=(m a).n+1,wait:=ar (m a).wait (m a).n aa},false):=by unfold iU;rw[adU L,adU M,adU K,adY v]
     rw[t];rw[v]at p;simp only[Az]at p;have x: ∀ (m':Marks),(m' a).n=(m a).n->aM (cZ m') (a*10+2+(m a).n) [.int .u8 aa]=cZ (ar m' a {m' a with wait:=ar (m' a).wait (m a).n aa}):=λm' h=>(ahl (λo=>aM (cZ m') o _) (akl _ _ _)).trans (CQ c (by simp;omega) (av4 U))
     by_cases J: (m a).has=0
     ·have k:decide ((((m a).has:Nat):Int)=0)=true:=aet (by omega);have g:decide ((((m a).n:Nat):Int)=0)=false:=aeq (by omega);simp(disch:=omega) only[F1,go_sem,simprocAttr,uq,u,b,f,p,↓yf c,↓wD c,↓Gr c,e,k,g,C,B,I,y,x,cF,rJ,↓se,eh,ke,s,d]
     ·have k:decide ((((m a).has:Nat):Int)=0)=false:=aeq (by omega);simp(disch:=omega) only[F1,go_sem,simprocAttr,uq,u,b,f,p,↓yf c,↓wD c,↓Gr c,e,k,C,B,I,y,x,cF,rJ,↓se,eh,ke,s,d]
    |some j=>
     have t:iU m a aa=(m,false):=by unfold iU;rw[adU L,adU M,adU K,adU (by rw[v];simp)]
     rw[t];rw[v]at p;simp only[Az]at p;have R: ¬((j:Nat):Int)<0:=by omega
     by_cases J: (m a).has=0
     ·have k:decide ((((m a).has:Nat):Int)=0)=true:=aet (by omega);have g:decide ((((m a).n:Nat):Int)=0)=false:=aeq (by omega);have O:decide (((j:Nat):Int)=0)=false:=aeq (λq=>K ⟨J,.inr (by rw[v];congr 1;omega)⟩);simp(disch:=omega) only[F1,go_sem,simprocAttr,uq,u,b,f,p,↓yf c,↓wD c,↓Gr c,e,k,g,O,R,↓se,eh,ke,s,d]
     ·have k:decide ((((m a).has:Nat):Int)=0)=false:=aeq (by omega);simp(disch:=omega) only[F1,go_sem,simprocAttr,uq,u,b,f,p,↓yf c,↓wD c,e,k,R,↓se,eh,ke,s,d]
def Mg(m:Marks)(a aa:Nat):Marks:=if jo a aa then ar m a (Cq (m a) aa)else m
def av6(m:Marks)(r: ∀i,iJ (m i))(a aa:Nat)(s:aa<4294967296)(H:List ae)(lo:oN):
  D X0 (.fn (.func 146) [] []) [.agg (cZ m),.int .i64 a,.int .i64 aa] ⟨H,lo⟩=some (.ret (.agg (cZ (Mg m a aa))) ⟨H,lo⟩):=by
 refine aH Fo λN l=>?_
 have g:qb.length=320:=by rfl
 have d:List.drop 320 qb=[]:=ahp (by omega);have q: ∀m:Marks,List.take 320 (cZ m)=cZ m:=λm=>aes (by rw[eh];omega)
 have b:=λH lo=>Uo a aa H lo
 unfold Mg;cases c:jo a aa with
 |false=>
  rw[c]at b;simp only[F1,go_sem,simprocAttr,Fo,l,b,↓se,eh,ke,g,d]
  try rfl
 |true=>
  rw[c]at b;obtain⟨j,t⟩:a<32/\aa<8:=by unfold jo at c;simpa using c
  have f: (0:Int)<=a/\ (a:Int)<32:=by omega
  have k:a*10<=319:=by omega
  have n:=(r a).has;simp only[ag6];unfold Cq;by_cases p: (m a).has=aa+1
  ·have e: (((m a).has:Nat):Int)=(aa:Int)+1:=by omega
   have h:aM (cZ m) (a*10) [.int .u8 0]=cZ (ar m a {m a with has:=0}):=CQ (o:=0) j (by simp) rfl;rw[adY p];simp only[F1,go_sem,simprocAttr,Fo,l,b,f,↓wD j,e,h,k,↓se,eh,ke,g,d]
  ·have e: ¬(((m a).has:Nat):Int)=(aa:Int)+1:=by omega
   rw[adU p,nb];simp(disch:=omega) only[F1,go_sem,simprocAttr,Fo,l,b,f,↓wD j,e,↓se,eh,ke,g,d]
def qJ(m:Marks)(aa k:Nat):Marks:=λi=>if i<k then rV m aa i else m i
def av7(m:Marks)(a:aa<8)(b:k<32):qJ m aa (k+1)=ar (qJ m aa k) k (xT (Cq (m k) aa) aa):=by
 funext i
 unfold qJ ar;by_cases e:i=k
 ·subst e;rw[adY (by omega),adY rfl];unfold rV;rw[adY (by unfold jo;grind)]
 grind
def av8(m:Marks)(aa:Nat):qJ m aa 32=rV m aa:=by
 funext i
 unfold qJ;by_cases h:i<32
 ·grind
 ·rw[adU h];unfold rV;rw[adU (by unfold jo;grind)]
def av9(m:Marks)(k:Nat)(a: ¬aa<8):qJ m aa k=m:=by
 funext i
 unfold qJ rV;split
 ·rw[adU (by unfold jo;grind)]
 ·rfl
def ajv(h:iJ l)(aa:Nat):iJ (Cq l aa):=by
 unfold Cq;split
 ·exact⟨by simp,h.n,h.lt,h.inj⟩
 omega
def awa(h:iJ l)(n:i<l.n):iJ (S3 l i):=by
 have m:=h.n;have f:=h.lt;unfold S3;refine⟨h.has,by grind,λj=>?_,λa b k g c=>?_⟩
 ·show(if j=l.n-1 then 0 else if i<=j/\j<7 then l.wait (j+1)else l.wait j)<8
  grind
 ·have e:a<l.n-1:=k;have d:b<l.n-1:=g;simp only[ar,adU (show a≠l.n-1 by omega),adU (show b≠l.n-1 by omega)]at c;have key: ∀j,j<l.n-1->(if i<=j/\j<7 then l.wait (j+1)else l.wait j)=l.wait (if i<=j then j+1 else j):=by grind
  rw[key a e,key b d]at c;have:=h.inj _ _ (by grind) (by grind) c
  grind
def ajw(h:iJ l)(aa:Nat):iJ (xT l aa):=by
 unfold xT;split
 ·exact h
 ·rename_i i a;exact awa h (ajp a).1
def Up{m:Marks}(a: ∀i,iJ (m i))(aa:Nat): ∀i,iJ (rV m aa i):=by
 intro i;unfold rV;split
 ·exact ajw (ajv (a i) aa) aa
 grind
def awb{m:Marks}(a: ∀i,iJ (m i))(aa k:Nat): ∀i,iJ (qJ m aa k i):=by
 intro i;unfold qJ;split
 ·exact Up a aa i
 grind
def awc{m:Marks}(g: ∀i,iJ (m i))(c:Nat): ∀i,iJ ((iU m c aa).1 i):=by
 unfold iU;split
 ·omega
 rename_i h;obtain⟨v,p⟩:c<32/\aa<8:=by unfold jo at h;grind
 split
 ·omega
 split
 ·intro i;show iJ (ar _ _ _ _);unfold ar;split
  ·have:=ajw (g c) aa;exact⟨by show aa+1<=8;omega,this.n,this.lt,this.inj⟩
  grind
 split
 ·rename_i f;intro i;show iJ (ar _ _ _ _);unfold ar;split
  ·have w:=aju (g c) p f;have k:=g c;have e: ∀j,j< (m c).n->(m c).wait j≠aa:=by
    intro j q he;unfold rU at f;rw[aBc]at f;have:=f j (alI.2 q);simp at this;omega
   refine⟨k.has,by show(m c).n+1<=8;omega,λj=>?_,λa b u s l=>?_⟩
   ·show(if j=(m c).n then aa else(m c).wait j)<8;split
    ·exact p
    ·exact k.lt j
   ·have t:a< (m c).n+1:=u;have r:b< (m c).n+1:=s;have d: (if a=(m c).n then aa else(m c).wait a)=(if b=(m c).n then aa else(m c).wait b):=l;by_cases o:a=(m c).n<;>by_cases n:b=(m c).n
    ·omega
    ·rw[adY o,adU n]at d;exact absurd d.symm (e b (by omega))
    ·rw[adU o,adY n]at d;exact absurd d (e a (by omega))
    ·rw[adU o,adU n]at d;exact k.inj a b (by omega) (by omega) d
  ·exact g i
 omega
def awd(m:Marks)(z: ∀i,iJ (m i))(aa:Nat)(y:aa<4294967296)(H:List ae)(lo:oN):
  D X0 (.fn (.func 133) [] []) [.agg (cZ m),.int .i64 aa] ⟨H,lo⟩=some (.ret (.agg (cZ (rV m aa))) ⟨H,lo⟩):=by
 refine aH QG λN E=>?_
 have x:qb.length=320:=by rfl
 have j:List.drop 320 qb=[]:=ahp (by rw[x];omega);have f: ∀m:Marks,List.take 320 (cZ m)=cZ m:=λm=>aes (by rw[eh];omega)
 have g: ∀m:Marks,List.drop 320 (cZ m)=[]:=λm=>ahp (by rw[eh];omega)
 simp only[go_sem,simprocAttr,QG,E];refine eG 32 (λk e H'=>H'=H++[.box (cZ (qJ m aa k)) none,.box qb none]/\e 1= .int .i64 aa/\e 2= .ptr N 0/\e 4= .ptr (N+1) 0/\e 6= .int .i64 k) 0 (by omega) ?_ ?_
 ·simp only[go_sem,simprocAttr];rfl
 rintro k G e H' ⟨rfl,w,v,u,t⟩ n F;simp(disch:=omega) only[bX,go_sem,simprocAttr,aeW,w,v,u,t];refine⟨λC=>?_,λC=>?_⟩
 ·have d:k<32:=by omega
  have h: (0:Int)<=k/\ (k:Int)<32:=by omega
  have r:k*10+10<=320:=by omega
  have a:=λH lo=>av6 _ (awb z aa k) k aa y H lo
  have b:=λH lo=>Uo k aa H lo
  have s:qJ m aa k k=m k:=by unfold qJ;rw[adU (by omega)]
  by_cases A:aa<8
  ·have c:jo k aa=true:=by unfold jo;simp;omega
   have B:=av7 m A d;unfold Mg at a;rw[c,s,adY rfl]at a;rw[c]at b;have p:=λH lo=>ajt _ (ajv (z k) aa) aa y H lo
   have q: ∀ (m:Marks) (l:fD),aM (cZ m) (k*10) (fF l)=cZ (ar m k l):=λm l=>CQ (o:=0) d (by rw[Ay];omega) rfl
   simp(disch:=omega) only[go_sem,simprocAttr,w,v,u,t,b,a,h,r,↓yf d,p,q,cF,rJ,eh,ke,Ay,Gq,f,g,afW];rw[B];exact⟨d,rfl⟩
  ·have c:jo k aa=false:=by unfold jo;simp;omega
   unfold Mg at a;rw[c,adU (by simp)]at a;rw[c]at b;simp only[av9 m _ A]at a⊢;simp(disch:=omega) only[go_sem,simprocAttr,w,v,u,t,b,a,h,eh,ke,f,g,afW];exact d
 ·obtain rfl:k=32:=by omega
  rw[av8];simp(disch:=omega) only[F1,go_sem,simprocAttr,eh,ke,x,j,f]
noncomputable def Gs:lA->AS->Option aU:=oL XB (D XB) Lw 166 Ku
def CR(args:lA)(E:AS):Option aU:=match args with
 | [.aq,.int .i64 n]=>if n=0 then some (.ret .aq E)else if 0<n/\n<=1024 then some (.ret (.ref E.heap.length 0 2 0 0 false) (E.push (.row 0 2 eZ [])))else none
 |_=>none
noncomputable def XC:Ctx:={XB with bW:=λf=>if f=166 then some Gs else if f=192 then some CR else XB.bW f}
theorem Uq:Ext XB XC where
 dR:=rfl
 fZ:=rfl
 code:=rfl
 bW:=λf=>by
  by_cases b:f=166
  ·subst b;exact .inr ⟨rfl,rfl⟩
  ·by_cases a:f=192
   ·subst a;exact .inr ⟨rfl,rfl⟩
   ·left;show(if f=166 then some Gs else if f=192 then some CR else XB.bW f)=XB.bW f
    grind
section
variable{v:AV}{args:lA}{E:AS}{r:aU}
def cB(h:D XB v args E=some r):D XC v args E=some r:=wk Uq h
def cX(h:D X v args E=some r):D XC v args E=some r:=wk Uq (lX h)
def c0(h:D X0 v args E=some r):D XC v args E=some r:=wk Uq (lz h)
end
def awe{X:Ctx}{f:FuncId}{p:lA->AS->Option aU}{args a:lA}{E:AS}{b:aU}(c:X.bW f=some p)(h:p (args++a) E=some b):D X (.fn (.func f) [] a) args E=some b:=by
 refine HT ?_;simp only[Go.Den.step,c,ahm];exact h
def Ur{s:bD}(f:bm s){c:cq}(l:iI c){b:Nat}{H:List ae}(n:H[a]?=some (.box (bw s) none))(m:H[b]?=some (.box (bn c) none))(N:Nat)(o:H.length=N)(lo:oN):
  ∃v J aj,D XC (.fn (.func 166) [] [.ptr a 0,.ptr b 0]) [] ⟨H,lo⟩=some (.ret v ⟨H++J,aj⟩)/\aQ N (H++J) v 1 bY ((under s.T c.r).map hC)/\ (aj=lo\/ ∃j,N<=j/\aj=cJ lo j):=by
 suffices i: ∃d,Gs [.ptr a 0,.ptr b 0] ⟨H,lo⟩=some d/\ (λd=> ∃v J aj,d=aU.ret v ⟨H++J,aj⟩/\aQ N (H++J) v 1 bY ((under s.T c.r).map hC)/\ (aj=lo\/ ∃j,N<=j/\aj=cJ lo j)) d by
  obtain⟨d,t,v,J,aj,rfl,q⟩:=i;exact⟨v,J,aj,awe (p:=Gs) rfl t,q⟩
 refine xe (X:=XB) Ku rfl λM u=>?_
 obtain⟨v,J,aj,e,h,g⟩:=LC s.T f.T f.tr c.r l.r N H o none;have e:=lX e;simp only[go_sem,simprocAttr,Ku,n,m,↓SL,gz,e,sV];refine⟨_,_,_,rfl,h,?_⟩;rcases g with rfl| ⟨j,k,rfl⟩
 ·exact .inl rfl
 ·exact .inr ⟨j,k,rfl⟩
def awf(n:Nat)(c:n<=1024)(H:List ae)(lo:oN):
  D XC (.fn (.func 192) [] []) [.aq,.int .i64 n] ⟨H,lo⟩=some (.ret (if n=0 then .aq else .ref H.length 0 2 0 0 false) ⟨H++(if n=0 then[]else[.row 0 2 eZ []]),lo⟩):=by
 refine DX (p:=CR) rfl ?_;unfold CR;by_cases h:n=0
 ·grind
 ·have b: ¬((n:Nat):Int)=0:=by omega
  have a: (0:Int)<n/\ (n:Int)<=1024:=by omega
  simp only[adU h,adU b,adY a];rfl
abbrev VR:=AV×List aC
def fK(l:List VR):List aC:=l.flatMap (·.2)
def AA(x:VR):lA:=[x.1]
def Mh{l:List VR}(h:k<l.length):fK (l.take (k+1))=fK (l.take k)++(l.getD k default).2:=by
 unfold fK;rw[afX,ak1,afQ,aep h];simp
def awg{N:Nat}{H:List ae}{bytes:Nat}{ty:TypeId}(h:aQ N H v sz ty af)(a:0<sz)(d:af.length*bytes<=room):dJ ⟨H,lo⟩ ty sz bytes v []=some (v,⟨H,lo⟩):=by
 unfold dJ;rw[adY ⟨a,rfl⟩];rcases h.2 with⟨rfl,_⟩| ⟨id,ak,c,rfl,b⟩
 ·rfl
 grind
def awh(l:List VR)(hl:l.length<=3)(P: ∀x∈l,x.2.length<=64)(H:List ae)(R: ∀x∈l,Rd ⟨H,none⟩ x.1 2 (x.2.map aA))(lo:oN):
  D XC (.fn (.func 186) [] []) [.sl (l.map AA) true] ⟨H,lo⟩=some (.ret (ed (fK l)) ⟨H,lo⟩):=by
 refine aH Q7 λN X=>?_
 have s:Rv (.sl (l.map AA) true) 1 (l.map AA):=.sl (by intro el d;obtain⟨x,_,rfl⟩:=afH.1 d;rfl);have y: ∀k,(fK (l.take k)).length<=64*k:=by
  intro k
  induction k with
  |zero=>simp[fK]
  |succ k ih=>
   by_cases h:k<l.length
   ·rw[Mh h,aer];have:=P _ (fx h);omega
   ·rw[aes (by omega)];rw[aes (by omega)]at ih;omega
 generalize(AV.sl (l.map AA) true)=V at*;simp only[go_sem,simprocAttr,Q7,s.bS];refine eG l.length (λk e H'=>H'=H/\e 0=V/\e 3= .int .i64 (fK (l.take k)).length/\e 9=V/\e 10= .int .i64 l.length/\e 11= .int .i64 k) 0 (by omega) ?_ ?_
 ·simp only[go_sem,simprocAttr];rfl
 rintro k hk e H' ⟨rfl,h0,O,Y,B,A⟩ n hn;simp only[bX,go_sem,simprocAttr,ae6,O,Y,B,A];refine⟨λK=>?_,λK=>?_⟩
 ·have a:k<l.length:=by omega
  have j:=(R _ (fx a)).bS;have w:=y (k+1);have U:=y k;rw[Mh a,aer]at w;have u: ((fK (l.take k)).length:Int)+(l.getD k default).2.length=((fK (l.take (k+1))).length:Nat):=by rw[Mh a,aer];omega
  have I: ¬(((fK (l.take (k+1))).length:Nat):Int)<0:=by omega
  have g: (AA (l.getD k default))[0]?=some (l.getD k default).1:=rfl;have T:=y (k+1);simp(disch:=omega) only[go_sem,simprocAttr,h0,O,Y,B,A,s.cp,s.c7,g,j,u,I];exact⟨by omega,a⟩
 ·obtain rfl:k=l.length:=by omega
  have c:fK (l.take l.length)=fK l:=by rw[afK]
  rw[c]at O;have M:=awf (fK l).length (by have:=y l.length;rw[c]at this;omega);simp only[go_sem,simprocAttr,c,h0,M,s.bS];obtain⟨v0,t⟩: ∃v0,v0=(if(fK l).length=0 then .aq else AV.ref H'.length 0 2 0 0 false):=⟨_,rfl⟩;obtain⟨W0,z⟩: ∃W0,W0=H'++(if(fK l).length=0 then[]else[ae.row 0 2 eZ []]):=⟨_,rfl⟩;rw[<-t,<-z];have F:aQ N W0 v0 2 eZ ([].map aA)/\ ((fK l).length=0->v0= .aq)/\H'<+:W0:=by
   rw[t,z];by_cases h: (fK l).length=0
   ·rw[adY h,adY h];exact⟨aQ.aq,λ_=>rfl,by simp⟩
   ·rw[adU h,adU h];exact⟨⟨by simp,.inr ⟨H'.length,0,by omega,rfl,by simp⟩⟩,λq=>absurd q h,aqx _ _⟩
  refine eG l.length (λk e W=>(∃v,e 6=v/\aQ N W v 2 eZ ((fK (l.take k)).map aA)/\ ((fK l).length=0->v= .aq))/\H'<+:W/\e 25=V/\e 26= .int .i64 l.length/\e 27= .int .i64 k) 0 (by omega) ?_ ?_
  ·simp only[go_sem,simprocAttr];exact⟨⟨_,rfl,F.1,F.2.1⟩,F.2.2⟩
  rintro k hk e W ⟨⟨v,Z,r,f⟩,b,p,o,m⟩ n hn;simp only[bX,F1,go_sem,simprocAttr,ae5,Z,p,o,m];refine⟨λK=>?_,λK=>?_⟩
  ·have a:k<l.length:=by omega
   have j:=Rd.mono (aj:=none) (R _ (fx a)) b;have g: (AA (l.getD k default))[0]?=some (l.getD k default).1:=rfl;have d:=j.eq;have w:=y k;have hzk:=P _ (fx a);have C:=Mh a;simp(disch:=omega) only[go_sem,simprocAttr,Z,s.cp,s.c7,g,d];generalize sQ: (l.getD k default).2=rr at*;by_cases Q:rr=[]
   ·subst Q;rw[afW]at C;rw[asC,awg r (by omega) (by rw[afB];unfold room;omega)];simp(disch:=omega) only[go_sem,simprocAttr,p,o,m];rw[C];exact⟨by omega,a,⟨v,rfl,r,f⟩,b⟩
   ·have J: ¬(fK l).length=0:=by
      intro q;have q2:fK l=[]:=akU.1 q;have:fK l=fK (l.take (k+1))++fK (l.drop (k+1)):=by
       unfold fK;rw[<-ak1,ai7]
      rw[C]at this;rw[q2]at this;simp[Q]at this
    refine⟨by omega,?_⟩;refine rm (bytes:=16) (ys:=rr.map aA) r b X (by omega) (by intro el d;obtain⟨x,_,rfl⟩:=afH.1 d;rfl) (bB (λ_=>rfl) _) (by rw[afB,afB];unfold room;omega) λv' W2 E G=>?_
    simp(disch:=omega) only[go_sem,simprocAttr,p,o,m];rw[C,afI];exact⟨a,⟨v',rfl,E,λq=>absurd q J⟩,G⟩
  ·obtain rfl:k=l.length:=by omega
   rw[c]at r;have S:=r.OY (lo:=lo) (by rw[bB (λ_=>rfl)];omega);rw[Bg]at S;rw[S];refine du ?_ (lW X λi hi=>?_)
   ·unfold ed;by_cases h: (fK l).length=0
    ·rw[f h,akU.1 h];rfl
    ·have h1: (fK l).isEmpty=false:=by
       cases hq:fK l with
       |nil=>rw[hq]at h;exact absurd rfl h
       |cons=>rfl
     rw[h1];rcases r.2 with⟨_,q⟩| ⟨id,ak,_,rfl,_⟩
     ·rw[aqh]at q;rw[q]at h;exact absurd rfl h
     ·rfl
   ·obtain⟨L,rfl⟩:=b;rw[adf (by omega)]
def awi(x y:aC)(c:x.1+x.2<4294967296)(b:y.1+y.2<4294967296)(p:Nat)(H:List ae)(lo:oN)(d:H[p]?=some (.box (aA x) none)):
  D X0 (.fn (.func 185) [] [.ptr p 0]) [.agg (aA y)] ⟨H,lo⟩=some (.ret (.bool (holds y x)) ⟨H,lo⟩):=by
 refine fB Q6 λN e=>?_
 have a: ∀L,(H++L)[p]?=some (.box (aA x) none):=λL=>aZ d
 simp only[F1,go_sem,simprocAttr,Q6,e,a,agW y x b c]
def awj{l:List aC}(b:Rv v 2 (l.map aA))(d:l≠[]): ∃c,v= .sl (l.map aA) c:=by
 obtain⟨e,a,f⟩:=b ⟨[],none⟩;cases v<;>simp only[]at e
 ·simp only[Den.elems]at a;simp_all
 ·simp only[Den.elems]at a
  grind
 ·trivial
def awk(b: ∀el∈af,el.length=sz){c:Bool}(f:i<=af.length): ∃w,gE sz (.sl af c) none (some (.int .i64 i)) none=some w/\Rv w sz (af.take i):=by
 refine⟨.sl (af.take i) (c&&i==af.length),?_,.sl λel a=>b el (aiy a)⟩;have d:gC af.length none (some (.int .i64 i))=some (0,i):=by
  have e: (i:Int)<=af.length:=by omega
  simp[gC,mc,e]
 simp only[gE,d,me]
 grind
def ajx(b: ∀el∈af,el.length=sz){c:Bool}(g:i<=af.length): ∃w,gE sz (.sl af c) (some (.int .i64 i)) none none=some w/\Rv w sz (af.drop i):=by
 refine⟨.sl (af.drop i) (c&&af.length==af.length),?_,.sl λel a=>b el (aou a)⟩;have d:gC af.length (some (.int .i64 i)) none=some (i,af.length):=by
  have f: (i:Int)<=af.length:=by omega
  simp[gC,mc,f]
 have e:af.all (λel=>el.length==sz)=true:=by grind
 simp only[gE,d,me];rw[adY e,aes (by simp)]
def ajy(l:List aC): ∀el∈l.map aA,el.length=2:=by intro el a;obtain⟨x,_,rfl⟩:=afH.1 a;rfl
def Us(v:AV)(l:List aC)(x:aC):AV:=match nj l x with
 |some a=>.aw [.agg [ed a],.bool true]
 |none=>.aw [.agg [v],.bool false]
def qK{E:AS}(h:Rd E v sz af):v.ck=false/\v.cells=[v]:=by
 have a:=h.kind;cases v<;>simp only[]at a<;>exact⟨rfl,rfl⟩
def awl(v:AV)(l:List aC)(E:Rv v 2 (l.map aA))(G:Af l)(x:aC)(Tb:x.1<4294967296)(Tc:x.2<4294967296)(H:List ae)(lo:oN):
  D XC (.fn (.func 174) [] []) [.agg [v],.int .i64 (x.1:Nat),.int .i64 (x.2:Nat)] ⟨H,lo⟩=some (.ret (Us v l x) ⟨H,lo⟩):=by
 refine aH Ft λN p=>?_
 have hm:=λH lo=>c0 (S7 x Tb Tc H lo)
 have hr:aA x=[.int .i64 (x.1:Nat),.int .i64 (x.2:Nat)]:=rfl;rw[hr]at hm;have F:v.refs=0:=cY E (bB (λ_=>rfl) l);unfold Us;cases f:j5 x with
 |false=>
  have e0:nj l x=none:=by unfold nj;rw[adY f]
  rw[e0];rw[f]at hm;simp only[F1,go_sem,simprocAttr,Ft,p,hm,F]
 |true=>
  rw[f]at hm;have hx:1<=x.2/\x.1+x.2<=64:=by simpa[j5]using f
  have d:=λH lo h=>c0 (agR v (.fn (.func 185) [] [.ptr (N+2) 0]) l E (by have:=G.1;omega) (λy=>holds y x) H lo h)
  have d:=d (H++[.box [v] none,.box [.aq] none,.box (aA x) none]) none (λy Z=>awi x y (by omega) (by have:=G.2 y Z;omega) (N+2) _ none (by rw[bE p];rfl));rw[hr]at d;have e1:nj l x=match l.findIdx? λy=>holds y x with
   |none=>none
   |some i=>some (l.take i++((if(l.getD i (0,0)).1<x.1 then[((l.getD i (0,0)).1,x.1- (l.getD i (0,0)).1)]else[])++(if x.1+x.2< (l.getD i (0,0)).1+(l.getD i (0,0)).2 then[(x.1+x.2,(l.getD i (0,0)).1+(l.getD i (0,0)).2- (x.1+x.2))]else[]))++l.drop (i+1)):=by
   unfold nj;rw[adU (by rw[f];simp)];rfl
  rw[e1];unfold j9 at d;cases hi:l.findIdx? (λy=>holds y x)with
  |none=>
   rw[hi]at d;simp only at d;simp only[F1,go_sem,simprocAttr,Ft,p,hm,d,F]
  |some i=>
   rw[hi]at d;simp only at d⊢;have I:i<l.length:=by
    obtain⟨h,_⟩:=ap7.1 hi;exact h
   have hi0: ¬((i:Nat):Int)<0:=by omega
   have Bo:=G.1;have Mi:=λl=>cY (mz l) (bB (g:=aA) (λ_=>rfl) l)
   have gd:l.getD i (0,0)=l.getD i default:=rfl;rw[gd];have hyb:=G.2 _ (fx I);have aDq:=E.cp (k:=.i64) (a:=i);obtain⟨c,hvc⟩:=awj E (by rintro rfl;simp at I);obtain⟨w1,s1,U⟩:=awk (c:=c) (ajy l) (i:=i) (by rw[afB];omega);obtain⟨R,s2,T⟩:=ajx (c:=c) (ajy l) (i:=i+1) (by rw[afB];omega);rw[<-hvc]at s1 s2;rw[<-List.map_take]at U;rw[<-List.map_drop]at T;generalize Z:l.getD i default=y at*;obtain⟨B,hB⟩: ∃B:List ae,B=[.box [v] none,.box [.aq] none,.box (aA x) none,.box (aA y) none]:=⟨_,rfl⟩;have O: (H++B).length=N+4:=by rw[hB];simp[p]
   have iP: ∀W,(H++B)<+:W->W[N]?=some (.box [v] none)/\W[N+1]?=some (.box [.aq] none)/\W[N+2]?=some (.box (aA x) none)/\W[N+3]?=some (.box (aA y) none):=by
    rintro W ⟨L,rfl⟩;rw[hB,adV];refine⟨by rw[dB p];rfl,by rw[bE p];rfl,by rw[bE p];rfl,by rw[bE p];rfl⟩
   have DJ: (aA x)[0]?=some (.int .i64 x.1):=rfl;have wZ: (aA y)[0]?=some (.int .i64 y.1):=rfl;have hex:=λH lo=>c0 (Cv x (by omega) H lo)
   have J:=λH lo=>c0 (Cv y (by omega) H lo)
   have tx:List.take 2 (aA x)=aA x:=rfl;have ty:List.take 2 (aA y)=aA y:=rfl;have dz: ∀r:aC,List.drop 2 (aA r)=[]:=λ_=>rfl
   have lx: ∀r:aC,(aA r).length=2:=λ_=>rfl
   have bl: ∀a b:Nat,[AV.int .i64 (a:Int),AV.int .i64 (b:Int)]=aA (a,b):=λ_ _=>rfl
   simp(disch:=omega) only[go_sem,simprocAttr,Ft,p,hm,d,hi0,E.cp,E.c7,Z,lx];refine⟨by omega,?_⟩;refine aaO (λe W aj=>aj=none/\ (H++B)<+:W/\aQ (N+4) W (e 12) 2 eZ ((if y.1<x.1 then[(y.1,x.1-y.1)]else[]).map aA)/\e 3= .ptr N 0/\e 6= .ptr (N+1) 0/\e 8= .ptr (N+2) 0/\e 10= .int .i64 i/\e 11= .ptr (N+3) 0) ?_ ?_
   ·simp(disch:=omega) only[bX,go_sem,simprocAttr];refine⟨λa=>?_,λa=>?_⟩
    ·have V: (x.1:Int)-y.1=((x.1-y.1:Nat):Int):=by omega
     simp only[go_sem,simprocAttr,V];refine rm (N:=N+4) (H0:=H++B) (af:=[]) (bytes:=16) (ys:=[aA (y.1,x.1-y.1)]) aQ.aq (by rw[hB];exact aqz) O (by omega) (by intro el t;rw[afC.1 t];rfl) rfl (by simp[room]) λv' W2 Y X=>?_
     simp only[go_sem,simprocAttr,H9];rw[adY (by omega)];exact⟨X,Y⟩
    ·simp only[go_sem,simprocAttr,H9];rw[adU (by omega)];exact⟨by rw[hB];exact aqz,aQ.aq⟩
   ·rintro e W aj ⟨rfl,s,q,e3,e6,e8,n,m⟩;obtain⟨C,M⟩: ∃C,C=(if y.1<x.1 then[(y.1,x.1-y.1)]else[]):=⟨_,rfl⟩;have aDr:C.length<=1:=by rw[M];split<;>simp
    rw[<-M]at q⊢;obtain⟨g0,g1,g2,Q⟩:=iP W s;simp only[go_sem,simprocAttr,g2,Q,e8,m,hex,J];refine aaO (λe W aj=>aj=none/\ (H++B)<+:W/\aQ (N+4) W (e 12) 2 eZ ((C++(if x.1+x.2<y.1+y.2 then[(x.1+x.2,y.1+y.2- (x.1+x.2))]else[])).map aA)/\e 3= .ptr N 0/\e 6= .ptr (N+1) 0/\e 8= .ptr (N+2) 0/\e 10= .int .i64 i/\e 11= .ptr (N+3) 0) ?_ ?_
    ·simp only[bX,go_sem,simprocAttr];refine⟨λa=>?_,λa=>?_⟩
     ·have V: (y.1:Int)+y.2- ((x.1:Int)+x.2)=((y.1+y.2- (x.1+x.2):Nat):Int):=by omega
      have q2: (x.1:Int)+x.2=((x.1+x.2:Nat):Int):=by omega
      simp(disch:=omega) only[go_sem,simprocAttr,g2,Q,e8,m,hex,J,V];rw[q2];refine rm (H0:=H++B) (bytes:=16) (ys:=[aA (x.1+x.2,y.1+y.2- (x.1+x.2))]) q s O (by omega) (by intro el t;rw[afC.1 t];rfl) rfl (by rw[afB];simp[room];omega) λv' W2 Y X=>?_
      simp only[go_sem,simprocAttr,H9,e3,e6,e8,n,m];rw[adY (by omega),afI];exact⟨X,Y⟩
     ·simp only[go_sem,simprocAttr,H9,e3,e6,e8,n,m];rw[adU (by omega),afW];exact⟨s,q⟩
    ·clear g0 g1 g2 Q s q e3 e6 e8 n m e W;rintro e W aj ⟨rfl,s,q,e3,e6,e8,n,m⟩;obtain⟨P,A⟩: ∃P,P=C++(if x.1+x.2<y.1+y.2 then[(x.1+x.2,y.1+y.2- (x.1+x.2))]else[]):=⟨_,rfl⟩;have aDs:P.length<=2:=by rw[A];split<;>simp<;>omega
     rw[<-A]at q;generalize hw:e 12=w at*;obtain⟨g0,g1,g2,Q⟩:=iP W s;have u:=λlo=>awh [(w1,l.take i),(w,P),(R,l.drop (i+1))] (by simp) (by have:=G.1;simp;omega) W (by
      intro z hz;simp only[ag7,List.not_mem_nil,or_false]at hz;rcases hz with rfl|rfl|rfl
      ·exact U _
      ·exact q.rd
      ·exact T _) lo
     have K:fK [(w1,l.take i),(w,P),(R,l.drop (i+1))]=l.take i++(C++((if x.1+x.2<y.1+y.2 then[(x.1+x.2,y.1+y.2- (x.1+x.2))]else[])++l.drop (i+1))):=by simp[fK,A]
     rw[K]at u;generalize(l.take i++(C++((if x.1+x.2<y.1+y.2 then[(x.1+x.2,y.1+y.2- (x.1+x.2))]else[])++l.drop (i+1))))=LL at*;obtain⟨t7,t8⟩:=qK (mz LL ⟨[],none⟩);have pn:W.take N=H:=lW p λj hj=>by
      obtain⟨L,rfl⟩:=s;rw[adV,adf (by omega)]
     have vE: ∀o,(W.set (N+1) o).take N=H:=λo=>by rw[aqg (by omega),pn]
     simp only[ak9,asC,AA]at u;obtain⟨t1,t2⟩:=qK (U ⟨[],none⟩);obtain⟨t3,t4⟩:=qK (T ⟨[],none⟩);obtain⟨t5,t6⟩:=qK (q.rd (lo:=none));have S:gE 2 v (some (.int .i64 ((i:Int)+1))) none none=some R:=s2;simp(disch:=omega) only[F1,go_sem,simprocAttr,g0,g1,e3,e6,n,hw,s1,S,t1,t2,t3,t4,t5,t6,t7,t8,cG g1,vE,u,Mi]
abbrev vc(a b:aC):Prop:=a.1+a.2<b.1
structure dP(l:List aC):Prop where
 pw:l.Pairwise vc
 bd: ∀x∈l,1<=x.2/\x.1+x.2<=64
def dP.ok{l:List aC}(h:dP l):Af l:=by
 refine⟨?_,λx c=>(h.bd x c).2⟩;have f: (l.map (·.1)).Nodup:=by
  rw[axJ,aBk];refine h.pw.imp λ {a b} d he=>?_
  omega
 have:=L0 64 _ f (by
  intro a e;obtain⟨x,c,rfl⟩:=afH.1 e;have:=h.bd x c;omega)
 grind
def dP.nil:dP []:=⟨.nil,by simp⟩
def dP.app{a b:List aC}(e:dP a)(d:dP b)(c: ∀x∈a,∀y∈b,vc x y):dP (a++b):=
 ⟨an8.2 ⟨e.pw,d.pw,c⟩,λx f=>(aev.1 f).elim (e.bd x) (d.bd x)⟩
def dP.one{x:aC}(c:1<=x.2)(b:x.1+x.2<=64):dP [x]:=⟨List.pairwise_singleton _ _,λy a=>by grind⟩
def awo: ∀ (l:List aC) (x:aC) (put:Bool) (out k:List aC),1<=x.2->x.1+x.2<=64->dP l->dP out->(∀a∈out,∀b∈l,vc a b)->(put=false-> ∀a∈out,vc a x)->(put=true-> ∀b∈l,vc x b)->
  gu x put out l=some k->dP k:=by
 intro l
 induction l with
 |nil=>
  intro x put out k s r _ ho _ p _ h;unfold gu at h;cases h;cases put with
  |true=>grind
  |false=>exact ho.app (dP.one s r) λa d b e=>by rw[afC.1 e];exact p rfl a d
 |cons y ys t=>
  intro x put out k s r A ho j p w h;have i:=ak8.1 A.pw;have g:dP ys:=⟨i.2,λz B=>A.bd z (afO _ B)⟩;have u:=A.bd y (ahi ..);have m: ∀a∈out,vc a y:=λa d=>j a d y (ahi ..)
  unfold gu at h;split at h
  ·rename_i c;refine t x put (out++[y]) k s r g (ho.app (dP.one u.1 u.2) λa d b e=>by rw[afC.1 e];exact m a d) ?_ ?_ (λq b e=>w q b (afO _ e)) h
   ·intro a d b e;rcases aev.1 d with d|d
    ·exact j a d b (afO _ e)
    ·rw[afC.1 d];exact i.1 b e
   ·intro q a d;rcases aev.1 d with d|d
    ·exact p q a d
    ·rw[afC.1 d];exact c
  ·split at h
   ·rename_i c;have v:dP (out++(if put then[]else[x])):=by
     cases put with
     |true=>simpa using ho
     |false=>
      refine ho.app (dP.one s r) λa d b e=>?_
      have:b=x:=by simpa using e
      rw[this];exact p rfl a d
    have o: ∀a∈out++(if put then[]else[x]),vc a y:=by
     intro a d;rcases aev.1 d with d|d
     ·exact m a d
     ·cases put with
      |true=>simp at d
      |false=>
       have:a=x:=by simpa using d
       rw[this];exact c
    refine t x true (out++(if put then[]else[x])++[y]) k s r g (v.app (dP.one u.1 u.2) λa d b e=>by rw[afC.1 e];exact o a d) ?_ (λq=>by cases q) ?_ h
    ·intro a d b e;have n:vc y b:=i.1 b e;rcases aev.1 d with d|d
     ·have:=o a d;have D:y.1+y.2<b.1:=n;have C:a.1+a.2<y.1:=this;show a.1+a.2<b.1;omega
     ·rw[afC.1 d];exact n
    ·intro _ b e;have D:y.1+y.2<b.1:=i.1 b e;have C:x.1+x.2<y.1:=c;show x.1+x.2<b.1;omega
   ·split at h
    ·rename_i G F E;have f:put=false:=by
      cases put with
      |false=>rfl
      |true=>
       have:x.1+x.2<y.1:=w rfl y (ahi ..);omega
     refine t (y.1,y.2+x.2) put out k (by show 1<=y.2+x.2;omega) (by show y.1+(y.2+x.2)<=64;omega) g ho (λa d b e=>j a d b (afO _ e)) (λ_ a d=>m a d) (λq=>by rw[f]at q;cases q) h
    ·split at h
     ·rename_i G F E H;have f:put=false:=by
       cases put with
       |false=>rfl
       |true=>
        have:x.1+x.2<y.1:=w rfl y (ahi ..);omega
      refine t (x.1,x.2+y.2) put out k (by show 1<=x.2+y.2;omega) (by show x.1+(x.2+y.2)<=64;omega) g ho (λa d b e=>j a d b (afO _ e)) (λq a d=>p q a d) (λq=>by rw[f]at q;cases q) h
     ·cases h
theorem dP.gM{l a:List aC}{x:aC}(h:dP l)(b:gM l x=some a):dP a:=by
 unfold Go.Proofs.YteplichagkpciaaGreatDoor.gM at b;split at b
 ·rename_i hm;have c:1<=x.2/\x.1+x.2<=64:=by simpa[j5]using hm
  exact awo l x false [] a c.1 c.2 h dP.nil (by simp) (λ_=>by simp) (λq=>by cases q) b
 grind
theorem dP.take{l s:List aC}{x:aC}(h:dP l)(j:nj l x=some s):dP s:=by
 unfold nj at j;split at j
 ·cases j
 rename_i hm;have J:1<=x.2/\x.1+x.2<=64:=by simpa[j5]using hm
 split at j
 ·cases j
 rename_i i E;cases j;obtain⟨m,g,_⟩:=ap7.1 E;have p:l.getD i (0,0)=l[i]:=by simp[afQ,aep m]
 rw[p];have d:l=l.take i++(l[i]::l.drop (i+1)):=by rw[<-anc m,ai7]
 generalize I:l[i]=y at*;generalize l.take i=A at*;generalize l.drop (i+1)=B at*;have k:=h.pw;have e:=h.bd;rw[d]at k e;obtain⟨w,v,r⟩:=an8.1 k;obtain⟨u,t⟩:=ak8.1 v;have C:=e y (by simp);have F:x=y\/ (y.1<=x.1/\x.1+x.2<=y.1+y.2):=by simpa using g
 have D:y.1<=x.1/\x.1+x.2<=y.1+y.2:=by
  rcases F with rfl|q
  ·exact⟨afA _,afA _⟩
  ·exact q
 have H:dP A:=⟨w,λz o=>e z (by simp[o])⟩;have hB:dP B:=⟨t,λz o=>e z (by simp[o])⟩;have G:dP ((if y.1<x.1 then[(y.1,x.1-y.1)]else[])++(if x.1+x.2<y.1+y.2 then[(x.1+x.2,y.1+y.2- (x.1+x.2))]else[])):=by
  refine dP.app ?_ ?_ ?_
  ·split
   ·exact dP.one (by show 1<=x.1-y.1;omega) (by show y.1+(x.1-y.1)<=64;omega)
   ·exact dP.nil
  ·split
   ·exact dP.one (by show 1<=y.1+y.2- (x.1+x.2);omega) (by show x.1+x.2+(y.1+y.2- (x.1+x.2))<=64;omega)
   ·exact dP.nil
  ·intro a c b f;split at c<;>split at f<;>simp at c f;rw[c,f];show y.1+(x.1-y.1)<x.1+x.2;omega
 have n: ∀a∈((if y.1<x.1 then[(y.1,x.1-y.1)]else[])++(if x.1+x.2<y.1+y.2 then[(x.1+x.2,y.1+y.2- (x.1+x.2))]else[])),y.1<=a.1/\a.1+a.2<=y.1+y.2:=by
  intro a c;rcases aev.1 c with c|c
  ·split at c
   ·rw[afC.1 c];exact⟨afA _,by show y.1+(x.1-y.1)<=_;omega⟩
   ·cases c
  ·split at c
   ·rw[afC.1 c];exact⟨by show y.1<=x.1+x.2;omega,by show x.1+x.2+(y.1+y.2- (x.1+x.2))<=_;omega⟩
   ·cases c
 refine(H.app G λa c b f=>?_).app hB λa c b f=>?_
 ·have L:a.1+a.2<y.1:=r a c y (by simp);have:=n b f;show a.1+a.2<b.1;omega
 ·have K:y.1+y.2<b.1:=u b f;rcases aev.1 c with c|c
  ·exact r a c b (by simp[f])
  ·have:=n a c;show a.1+a.2<b.1;omega
def qL(f:Nat->Nat):lA:=arr 32 λj=>[.int .u8 (f j)]
theorem Ut(f:Nat->Nat): (qL f).length=32:=by rfl
def nv(p:cy):AV:=if p.free.isEmpty then .aq else .sl (p.free.map aA) p.cD
def sf(p:cy):Rv (nv p) 2 (p.free.map aA):=by
 unfold nv;split
 ·rename_i h;rw[aCj.1 h];exact .aq
 ·exact .sl (by intro el h;obtain⟨x,_,rfl⟩:=afH.1 h;rfl)
def b8(p:cy):lA:=[.int .i64 p.n,nv p]++arr 64 λi=>qL (p.bytes i)
def yg(p:cy): (b8 p).length=2050:=by
 unfold b8;rw[aer,Cg (k:=32) (λi=>Ut (p.bytes i))];rfl
structure fh(p:cy):Prop where
 n:p.n<=64
 free:dP p.free
 bytes: ∀i j,p.bytes i j<256
theorem Uu{p:cy}:Den.part false 1 (b8 p) 0=some (.int .i64 p.n):=rfl
def yh{p:cy}:Den.part true 1 (b8 p) 1=some (.agg [nv p]):=by
 unfold b8;rw[nc (by simp) (by omega)];rfl
def awp{p:cy}(b:i<64)(a:j<32):Den.part false 1 (b8 p) (2+i*32+j)=some (.int .u8 (p.bytes i j)):=by
 unfold b8;rw[jZ (by grind),show 2+i*32+j- [AV.int .i64 p.n,nv p].length=i*32+j by grind,kH (k:=32) (f:=λi=>qL (p.bytes i)) (λi=>Ut _) b (by omega) (by omega)];have:=kH (ag:=false) (m:=1) (n:=32) (k:=1) (i:=j) (o:=0) (f:=λj=>[AV.int .u8 (p.bytes i j)]) (λ_=>rfl) a (by omega) (by omega);rw[Nat.mul_one,afM]at this;exact this
theorem ajz{p:cy}{l:List aC}:aM (b8 p) 1 [ed l]=b8 {p with free:=l,cD:=false}:=by rfl
theorem ajA{p:cy}:aM (b8 p) 1 [nv p]=b8 p:=by rfl
def ajB{p:cy}{o:Nat}(a:i<64)(ho:o+vs.length<=32)(b:aM (qL (p.bytes i)) o vs=qL f):aM (b8 p) (2+i*32+o) vs=b8 {p with bytes:=ar p.bytes i f}:=by
 unfold b8;rw[gX (by grind),show 2+i*32+o- [AV.int .i64 p.n,nv p].length=i*32+o by grind,nR (k:=32) (f:=λi=>qL (p.bytes i)) (λi=>Ut _) a ho,b,oS qL];rfl
def awq{p:cy}{v:Nat}(b:i<64)(a:j<32):aM (b8 p) (2+i*32+j) [.int .u8 v]=b8 {p with bytes:=ar p.bytes i (ar (p.bytes i) j v)}:=by
 refine ajB b (by grind) ?_;unfold qL;have:=nR (n:=32) (k:=1) (i:=j) (o:=0) (vs:=[AV.int .u8 v]) (f:=λj=>[AV.int .u8 (p.bytes i j)]) (λ_=>rfl) a (by simp);rw[Nat.mul_one,afM]at this;rw[this];have e:aM [AV.int .u8 (p.bytes i j)] 0 [AV.int .u8 v]=[AV.int .u8 v]:=rfl;rw[e,oS (λx:Nat=>[AV.int .u8 x])]
def awr{p:cy}{H:List ae}(a:i<64)(h:H[q]?=some (.box (b8 p) none)):
  sA ⟨H,lo⟩ [.int .u8 0] (.fA q 1 (2+i*32) 32)=some ⟨H.set q (.box (b8 {p with bytes:=ar p.bytes i λ_=>0}) none),lo⟩:=by
 have e:aM (b8 p) (2+i*32) (List.replicate 32 [AV.int .u8 0]).flatten=b8 {p with bytes:=ar p.bytes i λ_=>0}:=by
  have:=ajB (p:=p) (i:=i) (o:=0) (vs:=(List.replicate 32 [AV.int .u8 0]).flatten) (f:=λ_=>0) a (by decide) (by rfl);omega
 simp only[sA,h,AS.set];rw[adY ⟨rfl,by rw[yg];omega,rfl⟩,e];simp
def ajC{X:Ctx}{id off:Nat}:qT X n sz (.ptr id off) none none=some (.fA id sz off n):=by
 simp[qT,gC,mc]
def aws{p:cy}{H:List ae}(c:i<64)(h:H[q]?=some (.box (b8 p) none))(lo:oN):
  D X0 (.fn (.func 175) [] []) [.ptr q (2+i*32)] ⟨H,lo⟩=some (.ret (.aw []) ⟨H.set q (.box (b8 {p with bytes:=ar p.bytes i λ_=>0}) none),lo⟩):=by
 refine aH QY λN d=>?_
 have b:=λlo=>awr (lo:=lo) c h
 have a: ∀o,(H.set q o).take N=H.set q o:=λo=>aes (by grind)
 simp only[F1,go_sem,simprocAttr,QY,ajC,b,a]
theorem wE{o:Nat}:dy .ptr (.ptr q o) .eB=some false:=rfl
def Uv{p:cy}(k:fh p){H:List ae}(m:i<2147483648)(h:H[q]?=some (.box (b8 p) none)){fv:AV}{H':List ae}(r:H'.length=H.length)
  (n:gj p i=0->i<64->D X0 fv [.ptr q (2+i*32)] ⟨H,none⟩=some (.ret (.aw []) ⟨H',none⟩)) (lo:oN):
  D X0 (.fn (.func 118) [] []) [.ptr q 0,.int .i64 i,fv] ⟨H,lo⟩=some (.ret (.int .i64 (gj p i)) ⟨if gj p i=0 then H' else H,lo⟩):=by
 have ho:Old q H (.box (b8 p) none):=⟨h⟩;refine aH Fi λN s=>?_
 have o:=k.n;have c: ¬((i:Nat):Int)<0:=by omega
 have a:=agX (nv p) p.free (sf _) k.free.ok i m;have f:uP p.free i=F0 p.free i:=rfl;rw[f]at a;by_cases l:p.n<=i
 ·have b: (i:Int)>=p.n:=by omega
  have d:gj p i=2:=by unfold gj;grind
  rw[d];simp(disch:=omega) only[F1,go_sem,simprocAttr,Fi,wE,c,h,↓Uu,b]
 ·have b: ¬(i:Int)>=p.n:=by omega
  cases g:F0 p.free i with
  |true=>
   rw[g]at a;have d:gj p i=12:=by unfold gj;rw[adU l,adY g]
   rw[d];simp(disch:=omega) only[F1,go_sem,simprocAttr,Fi,wE,c,h,↓Uu,↓yh,b,a]
  |false=>
   rw[g]at a;have d:gj p i=0:=by unfold gj;rw[adU l,g];rfl
   rw[d];have j:=n d (by omega);have e: (0:Int)<=i/\ (i:Int)<64:=by omega
   simp(disch:=omega) only[F1,go_sem,simprocAttr,Fi,wE,c,h,↓Uu,↓yh,b,a,e,j]
theorem Gt{E:AS}{o:Nat}:oH E (.ptr i o) tg=some (.ptr E.heap.length 0,E.push (.box [.ptr i o] tg)):=rfl
theorem ajD{E:AS}{f:Fn}{bs cs:lA}:oH E (.fn f bs cs) tg=some (.ptr E.heap.length 0,E.push (.box [.fn f bs cs] tg)):=rfl
theorem ajE(n:Nat): ((n:Nat):Int).tdiv 32=((n/32:Nat):Int):=by rfl
theorem awt(n:Nat): ((n:Nat):Int).tmod 32=((n % 32:Nat):Int):=by rfl
section
variable{p:cy}(hp:fh p){i q:Nat}{H:List ae}(h:H[q]?=some (.box (b8 p) none))(lo:oN)
include hp h
theorem awu(e:i<2147483648):D X0 (.fn (.func 155) [] []) [.ptr q 0,.int .i64 i] ⟨H,lo⟩=some (.ret (.int .i64 (gj p i)) ⟨H.set q (.box (b8 (od p i)) none),lo⟩):=by
 have ho:Old q H (.box (b8 p) none):=⟨h⟩;refine aH Kq λN g=>?_
 have a:=λlo=>Uv hp e h (fv:=.fn (.func 175) [] []) (H':=H.set q (.box (b8 (od p i)) none)) (by simp) (λd c=>by
  rw[aws c h];unfold od;grind) lo
 have b: ∀o,(H.set q o).take N=H.set q o:=λo=>aes (by grind)
 by_cases d:gj p i=0
 ·rw[d]at a;simp only[F1,go_sem,simprocAttr,Kq,a,b]
  grind
 ·simp only[adU d]at a;have f:od p i=p:=by unfold od;grind
  rw[f,qF h];simp(disch:=omega) only[F1,go_sem,simprocAttr,Kq,a]
theorem awv(t:i<64){b:Nat}(r:H[a]?=some (.box [.ptr q 0] none))(n:H[b]?=some (.box [.int .i64 i] none))(v:AV):
  D X0 (.fn (.func 119) [] [.ptr a 0,.ptr b 0]) [v] ⟨H,lo⟩=some (.ret (.aw []) ⟨H.set q (.box (b8 (Cr p i)) none),lo⟩):=by
 refine fB Kh λN s=>?_
 have f: ∀H lo,D X0 (.fn (.func 120) [] []) [.agg [nv p],.int .i64 i,.int .i64 1] ⟨H,lo⟩=some (.ret (qC (nv p) p.free (i,1)) ⟨H,lo⟩):=λH lo=>ag5 (nv p) p.free (sf _) hp.free.ok (i,1) (by omega) (by simp) H lo
 have c: ∀o,(H.set q o).take N=H.set q o:=λo=>aes (by grind)
 unfold qC at f;have j:= @ajz p;have d:= @ajA p;have k:=λl=>cY (mz l) (bB (g:=aA) (λ_=>rfl) l)
 have m:=cY (sf p) (bB (g:=aA) (λ_=>rfl) _);unfold Cr;cases e:gM p.free (i,1)with
 |some l=>
  simp only[e]at f⊢;simp only[F1,go_sem,simprocAttr,Kh,s,r,n,h,↓yh,f,j,c,yg,k]
 |none=>
  simp only[e]at f⊢;simp only[F1,go_sem,simprocAttr,Kh,s,r,n,h,↓yh,f,d,c,yg,m]
theorem aww(g:i<2147483648):D X0 (.fn (.func 93) [] []) [.ptr q 0,.int .i64 i] ⟨H,lo⟩=some (.ret (.int .i64 (gj p i)) ⟨H.set q (.box (b8 (mJ p i)) none),lo⟩):=by
 have ho:Old q H (.box (b8 p) none):=⟨h⟩;refine aH Kc λN e=>?_
 have f:q<N:=by grind
 obtain⟨B,hB⟩: ∃B:List ae,B=[.box [.ptr q 0] none,.box [.int .i64 i] none]:=⟨_,rfl⟩;have a:=λlo=>Uv hp g (aZ (L:=B) h) (fv:=.fn (.func 119) [] [.ptr N 0,.ptr (N+1) 0]) (H':=(H++B).set q (.box (b8 (mJ p i)) none)) (by simp) (λc d=>by
  rw[awv hp (aZ (L:=B) h) none d (by grind) (by grind)];unfold mJ;grind) lo
 have b: ∀o,((H++B).set q o).take N=H.set q o:=λo=>by grind
 rw[hB]at a b;by_cases c:gj p i=0
 ·rw[c]at a;simp only[ag6]at a;simp only[F1,go_sem,simprocAttr,Kc,Gt,e,a,b];rw[c];rfl
 ·simp only[adU c]at a;have j:mJ p i=p:=by unfold mJ;rw[adU c]
  rw[j,qF h];simp only[F1,go_sem,simprocAttr,Kc,Gt,e,a]
theorem ajF{at':Nat}(r:at'<68719476736){f:Fn}{cs:lA}{H':List ae}(o:H'.length=H.length)
  (m: ∀L,gj p (at'/32)=0->at'/32<64->D X0 (.fn f [] cs) [.ptr q (2+at'/32*32+at' % 32)] ⟨H++L,none⟩=some (.ret (.aw []) ⟨H'++L,none⟩)):
  D X0 (.fn (.func 178) [] []) [.ptr q 0,.int .i64 at',.fn f [] cs] ⟨H,lo⟩=some (.ret (.int .i64 (gj p (at'/32))) ⟨if gj p (at'/32)=0 then H' else H,lo⟩):=by
 have ho:Old q H (.box (b8 p) none):=⟨h⟩;refine aH KA λN g=>?_
 have l:q<N:=by rw[<-g];exact ho.lt
 have n:H'.length=N:=by omega
 have e:gj p (at'/32)=0->at'/32<64->D X0 (.fn (.func 187) [] [.ptr (N+1) 0,.ptr N 0]) [.ptr q (2+at'/32*32)] ⟨H++[.box [.int .i64 at'] none,.box [.fn f [] cs] none],none⟩=some (.ret (.aw []) ⟨H'++[.box [.int .i64 at'] none,.box [.fn f [] cs] none],none⟩):=by
  intro b j;refine fB Q8 λM k=>?_
  have d:=m [.box [.int .i64 at'] none,.box [.fn f [] cs] none] b j;simp(disch:=omega) only[F1,go_sem,simprocAttr,Q8,awt,k,d];exact⟨by omega,du rfl (aes (by simp at k⊢;omega))⟩
 have a:=λlo=>Uv hp (i:=at'/32) (by omega) (aZ (L:=[.box [.int .i64 at'] none,.box [.fn f [] cs] none]) h) (H':=H'++[.box [.int .i64 at'] none,.box [.fn f [] cs] none]) (by simp;omega) e lo
 have c: ¬((at':Nat):Int)<0:=by omega
 by_cases b:gj p (at'/32)=0
 ·rw[b]at a;simp only[ag6]at a;simp(disch:=omega) only[F1,go_sem,simprocAttr,KA,ajD,wE,ajE,g,c,a];rw[b,adY rfl];rfl
 ·simp only[adU b]at a;simp(disch:=omega) only[F1,go_sem,simprocAttr,KA,ajD,wE,ajE,g,c,a];rw[adU b]
theorem awx{at':Nat}(k:at'<68719476736):D X0 (.fn (.func 161) [] []) [.ptr q 0,.int .i64 at'] ⟨H,lo⟩=some (.ret (.aw [.int .u8 (uK p at'),.int .i64 (gj p (at'/32))]) ⟨H,lo⟩):=by
 have ho:Old q H (.box (b8 p) none):=⟨h⟩;refine aH Ks λN d=>?_
 have g:q<N:=by grind
 have a:=λlo=>ajF hp (aZ (L:=[.box [.int .u8 0] none]) h) lo k (f:=.func 180) (cs:=[.ptr N 0]) (H':=H++[.box [.int .u8 (p.bytes (at'/32) (at' % 32))] none]) (by simp) (λL c b=>by
  refine fB Q2 λM l=>?_
  have j: ∀L,(H++L)[q]?=some (.box (b8 p) none):=λL=>aZ h
  have e:=awp (p:=p) b (show at' % 32<32 by omega);simp(disch:=omega) only[F1,go_sem,simprocAttr,Q2,j,↓e];exact du rfl (aes (by simp at l⊢;omega)))
 unfold uK;by_cases c:gj p (at'/32)=0
 ·rw[c]at a⊢;simp only[ag6]at a⊢;simp only[F1,go_sem,simprocAttr,Ks,d,a,p7]
 ·simp only[adU c]at a⊢;simp only[F1,go_sem,simprocAttr,Ks,d,a,p7]
theorem awy{at' b:Nat}(m:at'<68719476736):D X0 (.fn (.func 159) [] []) [.ptr q 0,.int .i64 at',.int .u8 b] ⟨H,lo⟩=some (.ret (.int .i64 (gj p (at'/32))) ⟨H.set q (.box (b8 (mK p at' b)) none),lo⟩):=by
 have ho:Old q H (.box (b8 p) none):=⟨h⟩;refine aH Kr λN d=>?_
 have k:q<N:=by grind
 have a:=λlo=>ajF hp (aZ (L:=[.box [.int .u8 b] none]) h) lo m (f:=.func 179) (cs:=[.ptr N 0]) (H':=(H++[ae.box [.int .u8 b] none]).set q (.box (b8 {p with bytes:=ar p.bytes (at'/32) (ar (p.bytes (at'/32)) (at' % 32) b)}) none)) (by simp) (λL g e=>by
  refine fB Q0 λM n=>?_
  have l: ∀L,(H++L)[q]?=some (.box (b8 p) none):=λL=>aZ h
  have j:=awq (p:=p) (v:=b) e (show at' % 32<32 by omega);simp(disch:=omega) only[F1,go_sem,simprocAttr,Q0,l,j,yg]
  grind)
 unfold mK;have c: ∀L o,((H++L).set q o).take N=H.set q o:=λL o=>by
  rw[aqG _ _ (by omega),m5 (by simp[d])]
 by_cases g:gj p (at'/32)=0
 ·rw[g]at a⊢;simp only[ag6]at a⊢;simp only[F1,go_sem,simprocAttr,Kr,d,a,c]
 ·simp only[adU g]at a⊢;rw[qF h];simp only[F1,go_sem,simprocAttr,Kr,d,a]
theorem awz(w:n<=1024):D XC (.fn (.func 154) [] []) [.ptr q 0,.int .i64 n] ⟨H,lo⟩=some (.ret (.aw [.int .i64 (fW p n).2.1,.int .i64 (fW p n).2.2]) ⟨H.set q (.box (b8 (fW p n).1) none),lo⟩):=by
 have ho:Old q H (.box (b8 p) none):=⟨h⟩;refine aH B8 λN y=>?_
 have u:q<N:=by grind
 have k:=λl=>cY (mz l) (bB (g:=aA) (λ_=>rfl) l)
 have j:= @ajz p;have e:= @ajA p;have m:=cY (sf p) (bB (g:=aA) (λ_=>rfl) _);have c: ∀o,(H.set q o).take N=H.set q o:=λo=>aes (by grind)
 by_cases s:n<1
 ·have a: ((n:Nat):Int)<1:=by omega
  have v:fW p n=(p,0,2):=by unfold fW;rw[adY s]
  rw[v,qF h];simp(disch:=omega) only[F1,go_sem,simprocAttr,B8,wE,a]
 ·have a: ¬((n:Nat):Int)<1:=by omega
  have b:=λH lo=>c0 (arZ (nv p) p.free (sf _) hp.free.ok n H lo)
  unfold Ls at b;have e1:fW p n=match p.free.find? (fits n)with
   |none=>(p,0,6)
   |some x=>(match nj p.free (x.1,n)with|some l=>{p with free:=l,cD:=false}|none=>p,x.1,0):=by unfold fW;rw[adU s];rfl
  rw[e1];cases f:p.free.find? (fits n)with
  |none=>
   simp only[f]at b⊢;rw[qF h];simp(disch:=omega) only[F1,go_sem,simprocAttr,B8,wE,a,h,↓yh,b]
  |some x=>
   simp only[f]at b⊢;have t:=hp.free.bd x (aqc f);have d:=λH lo=>awl (nv p) p.free (sf _) hp.free.ok (x.1,n) (by simp;omega) (by simp;omega) H lo
   unfold Us at d;cases r:nj p.free (x.1,n)with
   |none=>
    simp only[r]at d⊢;simp only[F1,go_sem,simprocAttr,B8,wE,a,h,↓yh,b,d,e,c,yg,m]
   |some l=>
    simp only[r]at d⊢;simp only[F1,go_sem,simprocAttr,B8,wE,a,h,↓yh,b,d,j,c,yg,k]
end
def pC(a:Nat):Prop:= ∀E,jz XA.fZ E .int .dx (.mb vO) (.int .u8 a) true=some (match sd a with|some f=>.aw [.fn (.func f) [] [],.bool true]|none=>.aw [.dx,.bool false])
theorem sg{r:bA}:aK (bF r)=0:=rfl
def ajG(s:bD)(g:bm s)(aa:Nat)(f:aa<4294967296)(c:cq)(i:iI c)(k:pC c.op)(H:List ae)(lo:oN):
  D XC (.fn (.func 110) [] []) [.agg (bw s),.int .i64 aa,.agg (bn c)] ⟨H,lo⟩=some (.ret (.int .i64 (o5 s aa c)) ⟨H,lo⟩):=by
 refine aH Kg λN j=>?_
 have h:=λH lo=>cB (Un s g aa f c i k H lo)
 unfold o5;by_cases l:0<dY s aa c
 ·have a: ((dY s aa c:Nat):Int)>0:=by omega
  rw[adY l];simp only[F1,go_sem,simprocAttr,Kg,j,DZ,h,a]
 ·have a: ¬((dY s aa c:Nat):Int)>0:=by omega
  rw[adU l];obtain⟨v,d1,d2⟩:=Um s g aa f c i (0,0) ⟨show 0<4294967296 by omega,show 0<4294967296 by omega⟩ k (H++[.box (bw s) none,.box (bn c) none]) none;have d1:=cB d1;have b:aA (0,0)=[.int .i64 0,.int .i64 0]:=rfl;rw[b]at d1;generalize ds s aa c (0,0)=d at*;have e: (bF d.2.1)[0]?=some (.int .i64 d.2.1.e):=rfl;simp only[F1,go_sem,simprocAttr,Kg,j,DZ,h,a,d1,e,oW,sg]
def awA(s:bD)(f:bm s)(aa:Nat)(e:aa<4294967296)(c:cq)(h:iI c)(i:pC c.op)(H:List ae)(lo:oN):
  D XC (.fn (.func 76) [] []) [.agg (bw s),.int .i64 aa,.agg (bn c)] ⟨H,lo⟩=some (.ret (.bool (Lm s aa c)) ⟨H,lo⟩):=by
 refine aH J9 λN b=>?_
 have g:=ajG s f aa e c h i;unfold Lm;by_cases d:c.op=15
 ·have a: (c.op:Int)=15:=by omega
  have j:decide (o5 s aa c=10)=decide (((o5 s aa c:Nat):Int)=10):=afR.2 (by omega);rw[aet d,amq,j];simp only[F1,go_sem,simprocAttr,J9,b,DZ,gz,a,g]
 ·have a: ¬(c.op:Int)=15:=by omega
  rw[aeq d,aho];simp only[F1,go_sem,simprocAttr,J9,b,gz,a]
def Gu(s:bD)(h:Nat):AV:=if s.T.az h then .sl [hC h] true else .aq
def ajH(s:bD)(g:bm s)(h:Nat)(f:h<4294967296)(H:List ae)(lo:oN):
  D XC (.fn (.func 165) [] []) [.agg (bw s),.int .u32 h] ⟨H,lo⟩=some (.ret (Gu s h) ⟨H,lo⟩):=by
 refine aH Kt λN d=>?_
 have b:=λH lo=>c0 (eU s.T.b h f H lo)
 have c:az s.T.b h=s.T.az h:=rfl;rw[c]at b;unfold Gu;have a:Den.part true 96 (bw s) 0=some (.agg (bU s.T.b)):=by rfl
 cases e:s.T.az h with
 |true=>
  rw[e]at b;simp only[F1,go_sem,simprocAttr,Kt,d,↓a,b];rfl
 |false=>
  rw[e]at b;simp only[F1,go_sem,simprocAttr,Kt,d,↓a,b]
def AB(s:bD)(h:Nat):Rv (Gu s h) 1 ((o6 s h).map hC):=by
 unfold Gu o6;split
 ·exact .sl (by intro el a;rw[afC.1 a];rfl)
 ·exact .aq
def awB(l:lN)(p:l.length<2147483648)(v:AV)(H:List ae)(b:Rd ⟨H,none⟩ v 1 (l.map hC))(x:Nat)(lo:oN):
  D X0 (.fn (.func 184) [] []) [v,.int .u32 x] ⟨H,lo⟩=some (.ret (.int .i64 (j9 (λy=>decide (y=x)) l)) ⟨H,lo⟩):=by
 refine aH Q5 λN t=>?_
 simp only[go_sem,simprocAttr,Q5,b.bS];refine eG l.length (λk e H'=>H'=H/\ (∀j,j<k->decide (l.getD j default=x)=false)/\e 0=v/\e 1= .int .u32 x/\e 7= .int .i64 l.length/\e 8= .int .i64 k) 0 (by omega) ?_ ?_
 ·simp only[go_sem,simprocAttr];omega
 rintro k r e H' ⟨rfl,f,n,i,h,g⟩ m hm;simp(disch:=omega) only[bX,F1,go_sem,simprocAttr,ae4,n,i,h,g];refine⟨λo=>?_,λo=>?_⟩
 ·have c:k<l.length:=by omega
  have d: ∀y,(hC y)[0]?=some (.int .u32 y):=λ_=>rfl
  by_cases e1:l.getD k default=x
  ·have a: ((x:Nat):Int)=(l.getD k default:Nat):=by omega
   simp(disch:=omega) only[F1,go_sem,simprocAttr,b.cp,b.c7,d,a];rw[Ad c f (aet e1)];exact⟨by omega,rfl⟩
  ·have a: ¬((x:Nat):Int)=(l.getD k default:Nat):=by omega
   simp(disch:=omega) only[go_sem,simprocAttr,n,i,h,g,b.cp,b.c7,d,a];refine⟨by omega,c,λj s=>?_⟩;rcases(show j<k\/j=k by omega)with q|rfl
   ·exact f j q
   ·exact aeq e1
 ·obtain rfl:k=l.length:=by omega
  rw[Ae f]
def awC(l:lN)(b:l.length<2147483648)(v:AV)(H:List ae)(a:Rd ⟨H,none⟩ v 1 (l.map hC))(x:Nat)(lo:oN):
  D X0 (.fn (.func 169) [] []) [v,.int .u32 x] ⟨H,lo⟩=some (.ret (.bool (l.contains x)) ⟨H,lo⟩):=by
 refine aH QW λN c=>?_
 simp(disch:=omega) only[F1,go_sem,simprocAttr,QW,awB l b v H a x none,Ac]
 grind
section
variable{s:bD}(hs:bm s){c:cq}(hc:iI c){a b:Nat}{H:List ae}(ha:H[a]?=some (.box (bw s) none))(hb:H[b]?=some (.box (bn c) none))(lo:oN)
include hs hc ha hb
theorem ajI:D XC (.fn (.func 164) [] [.ptr a 0,.ptr b 0]) [] ⟨H,lo⟩=some (.ret (Gu s c.r) ⟨H,lo⟩):=by
 refine fB QV λN e=>?_
 have d:=cY (AB s c.r) (bB (λ_=>rfl) _);simp(disch:=omega) only[F1,go_sem,simprocAttr,QV,ha,hb,↓SL,gz,ajH s hs c.r hc.r,d]
theorem awD{u:Nat}(p:H[u]?=some (.box [.fn (.func 166) [] [.ptr a 0,.ptr b 0]] none)):
  ∃v,D XC (.fn (.func 168) [] [.ptr u 0,.ptr a 0,.ptr b 0]) [] ⟨H,lo⟩=some (.ret v ⟨H,lo⟩)/\Rv v 1 ((if under s.T c.r=[]\/s.T.az c.s=false then[]else if(under s.T c.r).contains c.s then under s.T c.r else under s.T c.r++[c.s]).map hC):=by
 suffices E: ∃o,D XC (.fn (.func 168) [] [.ptr u 0,.ptr a 0,.ptr b 0]) [] ⟨H,lo⟩=some o/\ (λo=> ∃v,o=aU.ret v ⟨H,lo⟩/\Rv v 1 ((if under s.T c.r=[]\/s.T.az c.s=false then[]else if(under s.T c.r).contains c.s then under s.T c.r else under s.T c.r++[c.s]).map hC)) o by
  obtain⟨o,M,v,rfl,K⟩:=E;exact⟨v,M,K⟩
 refine r7 B9 rfl rfl rfl λN q=>?_
 obtain⟨v,J,aj,g1,g2,O⟩:=Ur hs hc ha hb N q none;have e:=λH lo=>c0 (eU s.T.b c.s hc.s H lo)
 have z:az s.T.b c.s=s.T.az c.s:=rfl;rw[z]at e;have k:Den.part true 96 (bw s) 0=some (.agg (bU s.T.b)):=by rw[<-wv (x:=⟨s,0,mM,(0,0),0,false,[]⟩) (bk:=.aq) (by omega) (by omega)];exact TT
 have F:=F9 hs.tr c.r;have G:=jJ g2 aj;have d:=G.bS;have w:=λL=>aZ (L:=L) ha
 have t:=λL=>aZ (L:=L) hb
 have h:=λlo=>c0 (awC (under s.T c.r) (by omega) v (H++J) (jJ g2 none) c.s lo)
 have f:eH N aj:=eH.of O;have j: (H++J).take N=H:=by rw[<-q];simp
 have y:=bB (g:=hC) (λ_=>rfl) (under s.T c.r);by_cases r:under s.T c.r=[]
 ·have n: ((under s.T c.r).length:Int)=0:=by rw[r];rfl
  rw[adY (.inl r)];simp only[go_sem,simprocAttr,B9,p,g1,d,n];rw[ju f (aeu _),j];exact⟨_,rfl,.aq⟩
 ·have n: ¬((under s.T c.r).length:Int)=0:=by
    have:=aAQ.2 r;omega
  cases B:s.T.az c.s with
  |false=>
   rw[B]at e;rw[adY (.inr rfl)];simp only[go_sem,simprocAttr,B9,p,g1,d,n,w,t,↓k,gz,e];rw[ju f (aeu _),j];exact⟨_,rfl,.aq⟩
  |true=>
   rw[B]at e;rw[adU (by simp[r])];cases m: (under s.T c.r).contains c.s with
   |true=>
    rw[m]at h;rw[adY rfl];simp only[go_sem,simprocAttr,B9,p,g1,d,n,w,t,↓k,gz,e,h];rw[Ga f g2 (by rw[y];omega),j];exact⟨_,rfl,aQ.sR g2⟩
   |false=>
    rw[m]at h;rw[adU (by simp)];simp only[go_sem,simprocAttr,B9,p,g1,d,n,w,t,↓k,gz,e,h];refine rm (H0:=H) (ys:=[[.int .u32 c.s]]) g2 (aqx _ _) q (by omega) (by intro el A;rw[afC.1 A];rfl) rfl (by unfold room;simp;omega) λv' W C I=>?_
    simp only[go_sem,simprocAttr];have l:aQ N W v' 1 bY ((under s.T c.r++[c.s]).map hC):=by rw[afI];exact C
    rw[Ga f l (by rw[bB (λ_=>rfl)];omega)];refine⟨_,du rfl (lW q λi P=>?_),aQ.sR l⟩;obtain⟨L,rfl⟩:=I;rw[adf (by omega)]
theorem awE: ∃v,D XC (.fn (.func 170) [] [.ptr a 0,.ptr b 0]) [] ⟨H,lo⟩=some (.ret v ⟨H,lo⟩)/\Rv v 1 ((if(cb s.K c.s).2=0 then o6 s (cb s.K c.s).1.aO else[]).map hC):=by
 suffices n: ∃g,D XC (.fn (.func 170) [] [.ptr a 0,.ptr b 0]) [] ⟨H,lo⟩=some g/\ (λg=> ∃v,g=aU.ret v ⟨H,lo⟩/\Rv v 1 ((if(cb s.K c.s).2=0 then o6 s (cb s.K c.s).1.aO else[]).map hC)) g by grind
 refine r7 Kv rfl rfl rfl λN k=>?_
 have j:=λH lo=>c0 (CB s.K hs.K c.s hc.s H lo)
 have m:=λL=>aZ (L:=L) ha
 have f: ∀t:Tok,(fT t).length=5:=λ_=>rfl
 have e: ∀t:Tok,aK (fT t)=0:=λ_=>rfl
 have h: ∀t:Tok,(fT t)[0]?=some (.int .u32 t.aO):=λ_=>rfl
 by_cases l: (cb s.K c.s).2=0
 ·have d: (((cb s.K c.s).2:Nat):Int)=0:=by omega
  have ho:=ajH s hs (cb s.K c.s).1.aO (hs.K.get c.s).aO;have i:=cY (AB s (cb s.K c.s).1.aO) (bB (λ_=>rfl) _);rw[adY l];simp only[F1,go_sem,simprocAttr,Kv,k,ha,hb,↓SL,gz,m,f,e,h,j,d,ho,i];exact⟨_,rfl,AB s _⟩
 ·have d: ¬(((cb s.K c.s).2:Nat):Int)=0:=by omega
  rw[adU l];simp only[F1,go_sem,simprocAttr,Kv,k,ha,hb,↓SL,gz,f,e,j,d];exact⟨_,rfl,.aq⟩
theorem awF{u:Nat}(l:H[u]?=some (.box [.fn (.func 166) [] [.ptr a 0,.ptr b 0]] none))(h:H[i]?=some (.box [.fn (.func 164) [] [.ptr a 0,.ptr b 0]] none)):
  ∃v,D XC (.fn (.func 172) [] [.ptr b 0,.ptr i 0,.ptr u 0]) [] ⟨H,lo⟩=some (.ret v ⟨H,lo⟩)/\Rv v 1 ((if c.b=1 then o6 s c.r else under s.T c.r).map hC):=by
 suffices n: ∃e,D XC (.fn (.func 172) [] [.ptr b 0,.ptr i 0,.ptr u 0]) [] ⟨H,lo⟩=some e/\ (λe=> ∃v,e=aU.ret v ⟨H,lo⟩/\Rv v 1 ((if c.b=1 then o6 s c.r else under s.T c.r).map hC)) e by grind
 refine r7 Kx rfl rfl rfl λN j=>?_
 by_cases k:c.b=1
 ·have d: (c.b:Int)=1:=by omega
  have g:=cY (AB s c.r) (bB (λ_=>rfl) _);rw[adY k];simp(disch:=omega) only[F1,go_sem,simprocAttr,Kx,hb,h,gz,d,ajI hs hc ha hb,g];exact⟨_,rfl,AB s _⟩
 ·have d: ¬(c.b:Int)=1:=by omega
  obtain⟨v,J,aj,g1,g2,m⟩:=Ur hs hc ha hb N j none;have f: (H++J).take N=H:=by rw[<-j];simp
  rw[adU k];simp only[go_sem,simprocAttr,Kx,hb,l,gz,d,g1];rw[Ga (eH.of m) g2 (by rw[bB (λ_=>rfl)];omega),f];exact⟨_,rfl,aQ.sR g2⟩
end
abbrev fy(N:Nat):AV:=.fn (.func 164) [] [.ptr N 0,.ptr (N+1) 0]
abbrev l0(N:Nat):AV:=.fn (.func 166) [] [.ptr N 0,.ptr (N+1) 0]
abbrev Mj(N:Nat):AV:=.fn (.func 168) [] [.ptr (N+3) 0,.ptr N 0,.ptr (N+1) 0]
abbrev Mk(N:Nat):AV:=.fn (.func 170) [] [.ptr N 0,.ptr (N+1) 0]
abbrev Ml(N:Nat):AV:=.fn (.func 172) [] [.ptr (N+1) 0,.ptr (N+2) 0,.ptr (N+3) 0]
def awG(N:Nat):List (AV×AV):=[(.int .u8 1,fy N),(.int .u8 2,fy N),(.int .u8 3,fy N),(.int .u8 4,fy N),(.int .u8 5,fy N),(.int .u8 10,fy N),(.int .u8 12,fy N),(.int .u8 18,fy N),(.int .u8 19,fy N),(.int .u8 6,l0 N),(.int .u8 7,l0 N),(.int .u8 9,l0 N),(.int .u8 11,l0 N),(.int .u8 8,Mj N),(.int .u8 13,Mk N),(.int .u8 14,Ml N)]
def ot(N k:Nat):List (AV×AV):=(awG N).take k
theorem awH(N:Nat):ae.map []= .map (ot N 0):=rfl
def mS{N:Nat}{H:List ae}(d:H.length=N)(B:List ae)(f:B.length=4){key:Int}(i:v.refs<=N+5)(h:mf (.int .u8 key) v (ot N k)=some (ot N (k+1)))(lo:oN):
  mY ⟨H++(B++[.map (ot N k)]),lo⟩ .int (.mp (N+4)) (.int .u8 key) v=some ⟨H++(B++[.map (ot N (k+1))]),lo⟩:=by
 simp only[mY,lj,ag6];have e: (H++(B++[ae.map (ot N k)]))[N+4]?=some (.map (ot N k)):=by grind
 simp only[e,h];have g: (H++(B++[ae.map (ot N k)])).set (N+4) (.map (ot N (k+1)))=H++(B++[.map (ot N (k+1))]):=by
  rw[aoq _ _ (by omega),aoq _ _ (by omega)];simp[d,f]
 simp only[AS.set,g]
 grind
def Gv(N d:Nat):Option AV:=
 if[1,2,3,4,5,10,12,18,19].contains d then some (fy N)
 else if[6,7,9,11].contains d then some (l0 N)
 else if d=8 then some (Mj N)else if d=13 then some (Mk N)else if d=14 then some (Ml N)else none
def awI(N d:Nat):eC (.int .u8 d) (ot N 16)=some (Gv N d):=by
 have key: ∀ (es:List (Nat×AV)),eC (.int .u8 d) (es.map λx=>(.int .u8 (x.1:Nat),x.2))=some ((es.find? λx=>decide (x.1=d)).map (·.2)):=by
  intro es
  induction es with
  |nil=>rfl
  |cons x xs j=>
   simp only[ak9,eC,pO,ag6,List.find?_cons]
   grind
 have e:ot N 16=[(1,fy N),(2,fy N),(3,fy N),(4,fy N),(5,fy N),(10,fy N),(12,fy N),(18,fy N),(19,fy N),(6,l0 N),(7,l0 N),(9,l0 N),(11,l0 N),(8,Mj N),(13,Mk N),(14,Ml N)].map λx:Nat×AV=>(.int .u8 (x.1:Nat),x.2):=rfl
 rw[e,key];by_cases h:d<=19
 ·rcases(show d=0\/d=1\/d=2\/d=3\/d=4\/d=5\/d=6\/d=7\/d=8\/d=9\/d=10\/d=11\/d=12\/d=13\/d=14\/d=15\/d=16\/d=17\/d=18\/d=19 by omega)with q|q|q|q|q|q|q|q|q|q|q|q|q|q|q|q|q|q|q|q<;>subst q<;>rfl
 ·have hc: ∀l:lN,l.all (λk=>decide (k<=19))=true->l.contains d=false:=by
    intro l g;rw[Bool.eq_false_iff];intro hm;have:=afP.1 g d (by simpa using hm);simp at this;omega
  have f: ∀l:List (Nat×AV),(l.map (·.1)).all (λk=>decide (k<=19))=true->l.find? (λx=>decide (x.1=d))=none:=by
   intro l g;rw[aBc];intro x i;have:=afP.1 g x.1 (List.mem_map_of_mem i);simp at this⊢;omega
  rw[f _ rfl];unfold Gv;rw[hc _ rfl,hc _ rfl,adU (by simp),adU (by simp),adU (by omega),adU (by omega),adU (by omega)];rfl
def awJ{s:bD}(hs:bm s){c:cq}(hc:iI c)(H:List ae)(lo:oN):
  ∃v,D XC (.fn (.func 152) [] []) [.agg (bw s),.agg (bn c)] ⟨H,lo⟩=some (.ret v ⟨H,lo⟩)/\Rv v 1 ((uJ s c).map hC):=by
 suffices X: ∃r,D XC (.fn (.func 152) [] []) [.agg (bw s),.agg (bn c)] ⟨H,lo⟩=some r/\ (λr=> ∃v,r=aU.ret v ⟨H,lo⟩/\Rv v 1 ((uJ s c).map hC)) r by
  obtain⟨r,h1,v,rfl,Z⟩:=X;exact⟨v,h1,Z⟩
 refine cE QP λN d=>?_
 have V:N<=N+1:=by omega
 have U:N<=N+2:=by omega
 have Y: (fy N).refs=N+2:=by simp[AV.refs,aK]
 have P: (l0 N).refs=N+2:=by simp[AV.refs,aK]
 obtain⟨B,hB⟩: ∃B:List ae,B=[.box (bw s) none,.box (bn c) none,.box [fy N] none,.box [l0 N] none]:=⟨_,rfl⟩;have hm:=awH N;have G:=mS (k:=0) (key:=1) (v:=fy N) d B (by rw[hB];rfl) (by simp[AV.refs,aK]) rfl;have F:=mS (k:=1) (key:=2) (v:=fy N) d B (by rw[hB];rfl) (by simp[AV.refs,aK]) rfl;have C:=mS (k:=2) (key:=3) (v:=fy N) d B (by rw[hB];rfl) (by simp[AV.refs,aK]) rfl;have A:=mS (k:=3) (key:=4) (v:=fy N) d B (by rw[hB];rfl) (by simp[AV.refs,aK]) rfl;have z:=mS (k:=4) (key:=5) (v:=fy N) d B (by rw[hB];rfl) (by simp[AV.refs,aK]) rfl;have y:=mS (k:=5) (key:=10) (v:=fy N) d B (by rw[hB];rfl) (by simp[AV.refs,aK]) rfl;have x:=mS (k:=6) (key:=12) (v:=fy N) d B (by rw[hB];rfl) (by simp[AV.refs,aK]) rfl;have w:=mS (k:=7) (key:=18) (v:=fy N) d B (by rw[hB];rfl) (by simp[AV.refs,aK]) rfl;have p8:=mS (k:=8) (key:=19) (v:=fy N) d B (by rw[hB];rfl) (by simp[AV.refs,aK]) rfl;have u:=mS (k:=9) (key:=6) (v:=l0 N) d B (by rw[hB];rfl) (by simp[AV.refs,aK]) rfl;have o:=mS (k:=10) (key:=7) (v:=l0 N) d B (by rw[hB];rfl) (by simp[AV.refs,aK]) rfl;have n:=mS (k:=11) (key:=9) (v:=l0 N) d B (by rw[hB];rfl) (by simp[AV.refs,aK]) rfl;have m:=mS (k:=12) (key:=11) (v:=l0 N) d B (by rw[hB];rfl) (by simp[AV.refs,aK]) rfl;have l:=mS (k:=13) (key:=8) (v:=Mj N) d B (by rw[hB];rfl) (by simp[AV.refs,aK]) rfl;have j:=mS (k:=14) (key:=13) (v:=Mk N) d B (by rw[hB];rfl) (by simp[AV.refs,aK]) rfl;have i:=mS (k:=15) (key:=14) (v:=Ml N) d B (by rw[hB];rfl) (by simp[AV.refs,aK]) rfl;rw[hB]at G F C A z y x w p8 u o n m l j i;simp only[ahq,ahm]at G F C A z y x w p8 u o n m l j i;simp only[go_sem,simprocAttr,QP,d,V,U,hm,Y,P,gz,G,F,C,A,z,y,x,w,p8,u,o,n,m,l,j,i];have O: ∀E:AS,E.heap[N+4]?=some (.map (ot N 16))->jz XC.fZ E .int .dx (.mp (N+4)) (.int .u8 c.op) true=some (match Gv N c.op with|some v=>.aw [v,.bool true]|none=>.aw [.dx,.bool false]):=by
  intro E h;simp only[jz,lj,ag6,mapOf,h,awI];cases Gv N c.op<;>rfl
 rw[O _ (by rw[bE d];rfl)];obtain⟨W,g⟩: ∃W,W=H++[.box (bw s) none,.box (bn c) none,.box [fy N] none,.box [l0 N] none,.map (ot N 16)]:=⟨_,rfl⟩;have w0:W[N]?=some (.box (bw s) none):=by rw[g,dB d];rfl
 have w1:W[N+1]?=some (.box (bn c) none):=by rw[g,bE d];rfl
 have T:W[N+2]?=some (.box [fy N] none):=by rw[g,bE d];rfl
 have R:W[N+3]?=some (.box [l0 N] none):=by rw[g,bE d];rfl
 have wt: ∀L,(W++L).take N=H:=λL=>by rw[g,adV,m5 d]
 have e:W.take N=H:=by rw[g,m5 d]
 have Q:W.length=N+5:=by rw[g];simp[d]
 rw[<-g];unfold uJ Gv;by_cases p: [1,2,3,4,5,10,12,18,19].contains c.op
 ·simp only[p,ag6];have K:=cY (AB s c.r) (bB (λ_=>rfl) _);simp only[F1,go_sem,simprocAttr,ajI hs hc w0 w1,K,e];exact⟨_,rfl,AB s _⟩
 ·by_cases q: [6,7,9,11].contains c.op
  ·obtain⟨v,J,aj,g1,g2,g3⟩:=Ur hs hc w0 w1 (N+5) Q none;simp only[p,q,ag6,ai5,afE];simp only[go_sem,simprocAttr,g1];rw[Ga (eH.le (eH.of g3) (by omega)) (aQ.le (M:=N) g2 (by omega)) (by rw[bB (λ_=>rfl)];omega),wt];exact⟨_,rfl,aQ.sR g2⟩
  ·by_cases t:c.op=8
   ·obtain⟨v,g1,g2⟩:=awD hs hc w0 w1 none R;have f:=cY g2 (bB (λ_=>rfl) _);simp only[adU p,adU q,adY t];simp only[F1,go_sem,simprocAttr,g1,f,e];exact⟨_,rfl,g2⟩
   ·by_cases I:c.op=13
    ·obtain⟨v,g1,g2⟩:=awE hs hc w0 w1 none;have f:=cY g2 (bB (λ_=>rfl) _);simp only[adU p,adU q,adU t,adY I];simp only[F1,go_sem,simprocAttr,g1,f,e];exact⟨_,rfl,g2⟩
    ·by_cases S:c.op=14
     ·obtain⟨v,g1,g2⟩:=awF hs hc w0 w1 none R T;have f:=cY g2 (bB (λ_=>rfl) _);simp only[adU p,adU q,adU t,adU I,adY S];simp only[F1,go_sem,simprocAttr,g1,f,e];exact⟨_,rfl,g2⟩
     ·simp only[p,q,t,I,S,ai5,afE];simp only[F1,go_sem,simprocAttr,e];exact⟨_,rfl,.aq⟩
def bp(x:Core)(q:Nat)(qv:AV):lA:=bw x.S++([.ptr q 0]++(cZ x.M++[qv]))
section
variable{x:Core}{q:Nat}{qv:AV}
def vd: (bp x q qv).length=1274:=by simp only[bp,aer,ep,eh];rfl
def Mm:aK (bp x q qv)=max (q+1) qv.refs:=by
 simp only[bp,FO,oW,ke];simp[aK,AV.refs]
def Mo:Den.part true 952 (bp x q qv) 0=some (.agg (bw x.S)):=by exact wa (ep _) (by omega)
def Uw{o:Nat}(ho:952<=o):Den.part ag m (bp x q qv) o=Den.part ag m ([.ptr q 0]++(cZ x.M++[qv])) (o-952):=by
 unfold bp;rw[jZ (by rw[ep];exact ho),ep]
def Ux:Den.part false 1 (bp x q qv) 952=some (.ptr q 0):=by rw[Uw (by omega)];rfl
def ajJ:Den.part true 320 (bp x q qv) 953=some (.agg (cZ x.M)):=by
 rw[Uw (by omega),jZ (by simp)];exact wa (eh _) (by omega)
def Uy:Den.part false 1 (bp x q qv) 1273=some qv:=by
 rw[Uw (by omega),jZ (by simp),jZ (by rw[eh];simp),eh];rfl
def ajK{s:bD}:aM (bp x q qv) 0 (bw s)=bp {x with S:=s} q qv:=by
 unfold bp;rw[rK (by rw[ep,ep];omega),nQ (by rw[ep,ep])]
def ajL{m:Marks}:aM (bp x q qv) 953 (cZ m)=bp {x with M:=m} q qv:=by
 unfold bp;rw[gX (by rw[ep];omega),ep,gX (by simp),rK (by rw[eh];simp[eh])];have:953-952- [AV.ptr q 0].length=0:=rfl;rw[this,nQ (by rw[eh,eh])]
def ajM:aM (bp x q qv) 1273 [v]=bp x q v:=by
 unfold bp;rw[gX (by rw[ep];omega),ep,gX (by simp),gX (by rw[eh];simp),eh];rfl
theorem aDt{P:cy}:bp {x with P:=P} q qv=bp x q qv:=rfl
theorem awK{Q:lN}:bp {x with Q:=Q} q qv=bp x q qv:=rfl
def yj: (bp x q qv)[952]?=some (.ptr q 0):=Ux
def Gw: (bp x q qv)[1273]?=some qv:=Uy
def KL:=gG @Mo<|gG @Ux<|gG @ajJ<|gG @Uy<|gG @yj @Gw
def KS:=gG @ajK<|gG @ajL<|gG @ajM @vd
end
def dk(N:Nat)(H:List ae)(v:AV)(sz:Nat)(ty:TypeId)(af:List lA):Prop:=
 (∀el∈af,el.length=sz)/\ ((v= .aq/\af=[])\/ ∃id ak off all,N<=id/\v= .ref id ak sz off af.length false/\H[id]?=some (.row ak sz ty all)/\off+af.length<=all.length/\ (all.drop off).take af.length=af)
theorem dk.aq{N:Nat}{H:List ae}{ty:TypeId}:dk N H .aq sz ty []:=⟨by simp,.inl ⟨rfl,rfl⟩⟩
section
variable{N:Nat}{H H':List ae}{v:AV}{sz:Nat}{ty:TypeId}{af:List lA}
def dk.rd(h:dk N H v sz ty af):Rd ⟨H,lo⟩ v sz af:=by
 obtain⟨c,b⟩:=h;rcases b with⟨rfl,rfl⟩| ⟨id,ak,off,all,e,rfl,a,f,d⟩
 ·exact .aq
 ·refine⟨trivial,?_,c⟩;simp only[elems,a,aAz]
  grind
def dk.oC(h:dk N H v sz ty af)(b: ∀ (id ak:Nat) (all:List lA),H[id]?=some (ae.row ak sz ty all)->H'[id]?=some (ae.row ak sz ty all)):dk N H' v sz ty af:=by
 obtain⟨a,c⟩:=h;refine⟨a,?_⟩
 grind
def dk.app(h:dk N H v sz ty af)(L:List ae):dk N (H++L) v sz ty af:=h.oC λ_ _ _ a=>aZ a
theorem dk.set(h:dk N H v sz ty af){cs:lA}(b:H[p]?=some (.box cs tg))(o:ae):dk N (H.set p o) v sz ty af:=h.oC λid _ _ a=>by grind
theorem dk.take{H0:List ae}{a:List lA}(h:dk N H v sz ty af)(e:dk N H0 v sz ty a)(k:H0.length=n):dk N (H.take n) v sz ty af:=by
 obtain⟨d,b⟩:=h;refine⟨d,?_⟩;rcases b with b| ⟨id,ak,off,all,o,g,j,l,i⟩
 ·grind
 ·rcases e.2 with⟨q,_⟩| ⟨c,_,_,_,_,q,f,_⟩
  ·grind
  grind
def dk.tail{a:lA}{bytes:Nat}(h:dk N H v sz ty (a::af)): ∃w,gE sz v (some (.int .i64 1)) none none=some w/\dk N H w sz ty af/\w.ck=false/\w.cells=[w]/\w.refs=v.refs:=by
 obtain⟨i,c⟩:=h;rcases c with⟨_,c⟩| ⟨id,ak,off,all,f,rfl,e,k,j⟩
 ·grind
 ·refine⟨.ref id ak sz (off+1) af.length false,?_,⟨λel d=>i el (afO _ d),.inr ⟨id,ak,off+1,all,f,rfl,e,by grind,?_⟩⟩,rfl,rfl,rfl⟩
  ·have g:gC (a::af).length (some (.int .i64 1)) none=some (1,af.length+1):=by
     have: (1:Int)<=af.length+1:=by omega
     simp[gC,mc,this]
   simp only[gE,g,me]
   grind
  ·have: (all.drop off).take (af.length+1)=a::af:=by omega
   have c:all.drop (off+1)=(all.drop off).drop 1:=by simp
   rw[c];generalize all.drop off=l at this;cases l with
   |nil=>grind
   |cons b l=>grind
def dk.append{bytes:Nat}{y:lA}(h:dk N H v sz ty af)(s:N<=H.length)(j:0<sz)(u:y.length=sz)(l:aK y=0)(r: (af.length+1)*bytes<=room):
  ∃v' H',dJ ⟨H,lo⟩ ty sz bytes v [y]=some (v',⟨H',lo⟩)/\dk N H' v' sz ty (af++[y])/\H.length<=H'.length/\ (∀i,i<N->H'[i]?=H[i]?)/\ (∀ (i:Nat) (o:ae),(∀a d,o≠ae.row a sz ty d)->H[i]?=some o->H'[i]?=some o)/\v'.ck=false/\v'.cells=[v']/\N<v'.refs:=by
 have f:0<sz/\ [y].all (λel=>el.length==sz)=true:=⟨j,by grind⟩;obtain⟨z,t⟩:=h;have g: ∀el∈af++[y],el.length=sz:=by grind
 rcases t with⟨rfl,rfl⟩| ⟨id,ak,off,all,n,rfl,b,w,k⟩
 ·refine⟨.ref H.length 0 sz 0 1 false,H++[.row 0 sz ty [y]],?_,⟨g,.inr ⟨H.length,0,0,[y],s,rfl,by simp,by simp,by simp⟩⟩,by simp,λi p=>adf (by omega),λi o _ ho=>aZ ho,rfl,rfl,by simp only[AV.refs];omega⟩;unfold dJ;rw[adY f];simp only[aqB];rw[adU (by omega),adY (by omega)];rfl
 ·have c:=ew b;refine⟨.ref id (ak+1) sz 0 (af.length+1) false,H.set id (.row (ak+1) sz ty (af++[y])),?_,⟨g,.inr ⟨id,ak+1,0,af++[y],n,by simp,by simp[c],by simp,aes (by simp)⟩⟩,by simp,λi p=>adb (by omega),λi o ho e=>?_,rfl,rfl,by simp only[AV.refs];omega⟩
  ·unfold dJ;rw[adY f];simp only[b,aqB];rw[adY ⟨trivial,trivial,trivial,trivial,by omega,r⟩,adU (by omega)];have:b9 [y]=0:=by simp[b9,l]
   simp[AS.set,this,k]
  ·rw[adb];exact e;rintro rfl;rw[b]at e;cases e;exact ho _ _ rfl
end
def Mu(o:ae):Prop:= ∃a d,o= .row a 1 p9 d
structure Fq(m:Nat)(S:lN)(H H':List ae):Prop where
 len:H.length<=H'.length
 low: ∀i,i<m->H'[i]?=H[i]?
 box: ∀i o,i∉S-> ¬Mu o->H[i]?=some o->H'[i]?=some o
section
variable{m:Nat}{S T:lN}{A B C H W:List ae}
theorem Fq.refl:Fq m S A A:=⟨afA _,λ_ _=>rfl,λ_ _ _ _ h=>h⟩
theorem Fq.trans(h:Fq m S A B)(g:Fq m S B C):Fq m S A C:=⟨ahk h.len g.len,λi a=>(g.low i a).trans (h.low i a),λi o a ho b=>g.box i o a ho (h.box i o a ho b)⟩
def Fq.mono(h:Fq m S A B)(a: ∀i∈S,i∈T):Fq m T A B:=⟨h.len,h.low,λi o b ho c=>h.box i o (λq=>b (a i q)) ho c⟩
theorem Fq.set(b:p∈S)(c:m<=p)(o:ae):Fq m S A (A.set p o):=⟨by simp,λi a=>adb (by omega),λi w a _ h=>by grind⟩
def Fq.app(L:List ae)(a:m<=A.length):Fq m S A (A++L):=⟨by simp,λi b=>adf (by omega),λi o _ _ h=>aZ h⟩
def Fq.pre{L:List ae}(h:Fq m S (H++L) W)(a:m<=H.length):Fq m S H W:=(Fq.app L a).trans h
theorem Fq.take{N:Nat}(h:Fq m S A B)(d:A.length=N)(c:m<=N):Fq m S A (B.take N):=⟨by rw[afS];have:=h.len;omega,λi a=>by rw[afT (by omega)];exact h.low i a,λi o a ho b=>by
 have:=ew b;rw[afT (by omega)];exact h.box i o a ho b⟩
def Fq.own{cs:lA}(h:Fq m S A B)(b:p∉S)(c:A[p]?=some (.box cs tg)):B[p]?=some (.box cs tg):=h.box p _ b (λq=>by obtain⟨a,d,q⟩:=q;cases q) c
end
def gA(Q:Prop)(B:Nat)(H H':List ae)(lo aj:oN):Prop:=(aj=lo/\H'.length=H.length/\Q)\/ ∃j,j<=B/\aj=cJ lo j
def awL{b:Nat}:cJ (cJ lo a) b=cJ lo (min a b):=by
 cases lo with
 |none=>exact ahl some (Nat.min_comm b a)
 |some c=>show some (min b (min a c))=some (min (min a b) c);grind
theorem gA.same{B:Nat}{H:List ae}(h:Q):gA Q B H H lo lo:=.inl ⟨rfl,rfl,h⟩
section
variable{m N B:Nat}{S:lN}{H L W H2:List ae}{lo m6:oN}{Q:Prop}{v:AV}
def Mp(h:H.length=N)(k:B<N)(e:m<=N)(i:Fq m S (H++L) W)(f:gA Q B (H++L) W none m6)(d:v.refs<=N):
  ∃H2 a,finish N lo v ⟨W,m6⟩=(v,⟨H2,a⟩)/\Fq m S H H2/\gA Q B H H2 lo a/\ (H2=W\/ (H2=W.take N/\Q)):=by
 have b:=i.pre (by omega);rcases f with⟨rfl,l,c⟩| ⟨j,g,rfl⟩
 ·refine⟨W.take N,lo,ju (.inl rfl) d,b.take h e,.inl ⟨rfl,?_,c⟩,.inr ⟨rfl,c⟩⟩
  grind
 ·refine⟨W,cJ lo j,?_,b,.inr ⟨j,g,rfl⟩,.inl rfl⟩;have:cJ none j=some j:=rfl;exact wB (by omega)
def Mr{o:ae}(h:H2=W\/ (H2=W.take N/\Q))(b:i<N)(a:W[i]?=some o):H2[i]?=some o:=by grind
def dk.pD{ty:TypeId}{v v':AV}{a:List lA}(h:dk n W v' sz ty af)(c:H2=W\/ (H2=W.take N/\Q))(b:Q->v'=v)(e:dk n H v sz ty a)(d:H.length=N):dk n H2 v' sz ty af:=by
 rcases c with rfl| ⟨rfl,q⟩
 ·exact h
 ·have:=b q;subst this;exact h.take e d
end
structure dQ(m p q:Nat)(x:Core)(qv:AV)(H:List ae):Prop where
 mp:m<=p
 mq:m<=q
 qp:q<p
 box:H[p]?=some (.box (bp x q qv) none)
 fY:H[q]?=some (.box (b8 x.P) none)
 jc:dk (p+1) H qv 1 p9 (x.Q.map ij)
section
variable{m p q:Nat}{x:Core}{qv:AV}{H:List ae}
def dQ.lt(h:dQ m p q x qv H):p<H.length:=ew h.box
theorem dQ.app(h:dQ m p q x qv H)(L:List ae):dQ m p q x qv (H++L):=⟨h.mp,h.mq,h.qp,aZ h.box,aZ h.fY,h.jc.app L⟩
theorem dQ.set(h:dQ m p q x qv H){cs:lA}(c:H[i]?=some (.box cs tg))(b:i≠p)(a:i≠q)(o:ae):dQ m p q x qv (H.set i o):=
 ⟨h.mp,h.mq,h.qp,(adb b).trans h.box,(adb a).trans h.fY,h.jc.set c o⟩
theorem dQ.pD{W H2 H0:List ae}{N:Nat}{a:AV}{d:Core}(h:dQ m p q x qv W)(b:H2=W\/ (H2=W.take N/\Q))(e:Q->qv=a)(c:dQ m p q d a H0)(f:H0.length=N):dQ m p q x qv H2:=
 have g:=c.lt
 ⟨h.mp,h.mq,h.qp,Mr b (by omega) h.box,Mr b (by have:=h.qp;omega) h.fY,dk.pD h.jc b e c.jc f⟩
def dQ.ajN(h:dQ m p q x qv H)(M:Marks):dQ m p q {x with M:=M} qv (H.set p (.box (bp {x with M:=M} q qv) none)):=
 ⟨h.mp,h.mq,h.qp,cG h.box,(adb (by have:=h.qp;omega)).trans h.fY,h.jc.set h.box _⟩
def dQ.ajO(h:dQ m p q x qv H)(s:bD):dQ m p q {x with S:=s} qv (H.set p (.box (bp {x with S:=s} q qv) none)):=
 ⟨h.mp,h.mq,h.qp,cG h.box,(adb (by have:=h.qp;omega)).trans h.fY,h.jc.set h.box _⟩
def dQ.Gx(h:dQ m p q x qv H)(P:cy):dQ m p q {x with P:=P} qv (H.set q (.box (b8 P) none)):=
 ⟨h.mp,h.mq,h.qp,(adb (by have:=h.qp;omega)).trans h.box,cG h.fY,h.jc.set h.fY _⟩
def dQ.fp(h:dQ m p q x qv H)(o:ae):Fq m [p,q] H (H.set p o):=Fq.set (by simp) h.mp o
def dQ.fq(h:dQ m p q x qv H)(o:ae):Fq m [p,q] H (H.set q o):=Fq.set (by simp) h.mq o
end
def Uz(m p q:Nat)(H:List ae)(lo:oN)(b:Core)(qv:AV)(r:AV)(c:aU):Prop:=
 ∃a H' aj,c= .ret r ⟨H',aj⟩/\dQ m p q b a H'/\Fq m [p,q] H H'/\gA (a=qv) p H H' lo aj
def jx(x:Core)(r:aC)(k:Nat):Core:={x with Q:=x.Q++(fg r).take k}
def ajP(x:Core)(r:aC):jx x r r.2=ch x r:=by
 unfold jx ch;rw[aes (by simp[fg])]
def ajQ{r:aC}(h:k<r.2): (fg r).take (k+1)=(fg r).take k++[r.1+k]:=by
 rw[afX];simp[fg,h]
def UA{x:Core}{H:List ae}(l:dQ m p q x qv H)(r:aC)(X:r.1<4294967296/\r.2<4294967296)(hQ:x.Q.length<17179869184)(lo:oN):
  ∃K,D XC (.fn (.func 132) [] []) [.ptr p 0,.agg (aA r)] ⟨H,lo⟩=some K/\Uz m p q H lo (ch x r) qv (.aw []) K:=by
 refine cE QF λN s=>?_
 have C:p<N:=by rw[<-s];exact l.lt
 have h1: (aA r)[1]?=some (.int .i64 r.2):=rfl;simp only[go_sem,simprocAttr,QF,s];refine iq r.2 (λk e W aj=> ∃c,e 0= .ptr p 0/\e 3= .ptr N 0/\e 6= .int .i64 r.2/\e 7= .int .i64 k/\dQ m p q (jx x r k) c W/\W[N]?=some (.box (aA r) none)/\Fq m [p,q] (H++[.box (aA r) none]) W/\gA (c=qv) p (H++[.box (aA r) none]) W none aj) 0 (by omega) ?_ ?_
 ·refine⟨qv,?_⟩;simp(disch:=omega) only[go_sem,simprocAttr];refine⟨?_,Fq.refl,gA.same trivial⟩;have:=l.app [.box (aA r) none];unfold jx;simpa using this
 rintro k Z e W aj ⟨c,J,e3,e6,e7,b,hw,I,g⟩ n Y;have h0: (aA r)[0]?=some (.int .i64 r.1):=rfl;simp only[bX,go_sem,simprocAttr,aeV,J,e6,e7];refine⟨λO=>?_,λO=>?_⟩
 ·have E:k<r.2:=by omega
  have V:=(qK (b.jc.rd (lo:=none)));simp(disch:=omega) only[go_sem,simprocAttr,e3,b.box,hw,↓KL];have h: (x.Q++(fg r).take k).length<=x.Q.length+r.2:=by simp[fg];omega
  have M:=b.lt;obtain⟨v',W',g1,g2,g3,U,t,T,R,g8⟩:=dk.append (bytes:=8) (lo:=aj) (y:=[.int .i64 ((r.1:Int)+k)]) b.jc (by omega) (by omega) rfl rfl (by rw[afB];show((x.Q++(fg r).take k).length+1)*8<=room;unfold room;omega);have z: ∀cs tg,∀a d,ae.box cs tg≠ .row a 1 p9 d:=λ_ _ _ _ e=>by cases e
  have f:=t p _ (z _ _) b.box;have u:=t q _ (z _ _) b.fY;have w:=t N _ (z _ _) hw;have F: ¬v'.refs<=p+1:=by omega
  rw[g1];simp(disch:=omega) only[go_sem,simprocAttr,J,e3,e6,e7,f,KS,T,R,F];refine⟨by omega,v',?_⟩;refine⟨?_,w,?_,?_⟩
  ·refine⟨b.mp,b.mq,b.qp,by rw[awK];exact cG f,(adb (by have:=b.qp;omega)).trans u,?_⟩;have: (jx x r (k+1)).Q.map ij=(jx x r k).Q.map ij++[[.int .i64 ((r.1:Int)+k)]]:=by
    unfold jx;rw[ajQ E,<-adV,afI];rfl
   rw[this];exact g2.set f _
  ·refine I.trans ⟨by simp;omega,λi G=>?_,λi o G ho P=>?_⟩
   ·rw[adb (by have:=b.mp;omega)];exact U i (by have:=b.mp;omega)
   ·rw[adb (by rintro rfl;simp at G)];exact t i o (λa d e=>ho ⟨a,d,e⟩) P
  ·rcases g with⟨rfl,_,_⟩| ⟨j,hj,rfl⟩
   ·exact .inr ⟨p,afA _,rfl⟩
   ·exact .inr ⟨min j p,by omega,awL⟩
 ·obtain rfl:k=r.2:=by omega
  have hm:=l.mp;obtain⟨H2,A,f1,f2,f3,f4⟩:=Mp (lo:=lo) s C (by omega) I g (v:=.aw []) (aeu _);rw[f1];rw[ajP]at b;exact⟨c,H2,A,rfl,b.pD f4 id l s,f2,f3⟩
def bN(c:Call)(rv:AV):lA:=[.int .i64 c.aa]++(bn c.c++([.bool c.checked,rv]++(aA c.run++[.int .i64 c.fw])))
theorem awM(c:Call)(rv:AV):bN c rv=[.int .i64 c.aa,.int .u8 c.c.op,.int .u32 c.c.r,.int .u32 c.c.s,.int .u32 c.c.a,.int .u32 c.c.b,.int .u64 c.c.v,.bool c.checked,rv,.int .i64 c.run.1,.int .i64 c.run.2,.int .i64 c.fw]:=rfl
structure fS(c:Call):Prop where
 aa:c.aa<4294967296
 jd:iI c.c
 aW: ∀h∈c.aW,h<4294967296
 run:c.run.1<65536/\c.run.2<65536
 fw:c.fw<65536
structure jO(x:Core):Prop where
 S:bm x.S
 P:fh x.P
 M: ∀i,iJ (x.M i)
 Q: ∀k∈x.Q,k<2147483648
 Ql:x.Q.length<8589934592
def ajR{x:Core}{H:List ae}(b:dQ m p q x qv H)(l:jO x)(c:Call)(n:fS c)(rv:AV)(r:rv.refs=0)(lo:oN):
  ∃k,D XC (.fn (.func 97) [] []) [.ptr p 0,.agg (bN c rv)] ⟨H,lo⟩=some k/\Uz m p q H lo (o7 x c) qv (.aw []) k:=by
 refine cE Qk λN d=>?_
 have f:p<N:=by rw[<-d];exact b.lt
 have z:=n.run;obtain⟨k,g1,a,W,aj,rfl,g2,o,y⟩:=UA (b.app [.box (bN c rv) none]) c.run ⟨by omega,by omega⟩ (by have:=l.Ql;omega) none;have h:Den.part true 2 (bN c rv) 9=some (.agg (aA c.run)):=rfl;have i: (bN c rv)[0]?=some (.int .i64 c.aa):=rfl;have j:N∉[p,q]:=by have:=b.qp;simp;omega
 have wn:W[N]?=some (.box (bN c rv) none):=o.own j (by rw[dB d];rfl);have t:=λH lo=>c0 (awd x.M l.M c.aa n.aa H lo)
 have w: (ch x c.run).M=x.M:=rfl;have g:=λm=>eh m
 simp only[go_sem,simprocAttr,Qk,d,↓h,g1,g2.box,wn,i,↓KL,KS,w,t,g,ke];have u:=o.trans (g2.fp (.box (bp {ch x c.run with M:=rV x.M c.aa} q a) none));have s:gA (a=qv) p (H++[.box (bN c rv) none]) (W.set p (.box (bp {ch x c.run with M:=rV x.M c.aa} q a) none)) none aj:=y.elim (λq=>.inl ⟨q.1,by rw[afN];exact q.2.1,q.2.2⟩) .inr;obtain⟨H2,e,f1,f2,f3,f4⟩:=Mp (lo:=lo) d f (by have:=b.mp;omega) u s (v:=.aw []) (aeu _);rw[f1];exact⟨a,H2,e,rfl,(g2.ajN _).pD f4 id b d,f2,f3⟩
def awN{x:Core}{H:List ae}(c:dQ m p q x qv H)(t:jO x)(lo:oN):
  ∃y,D XC (.fn (.func 59) [] []) [.ptr p 0] ⟨H,lo⟩=some y/\Uz m p q H lo (iV x).1 qv (.bool (iV x).2) y:=by
 have ho:Old p H (.box (bp x q qv) none):=⟨c.box⟩;refine cE J6 λN r=>?_
 have h:p<N:=by rw[<-r];exact c.lt
 have b:=(c.jc.rd (lo:=none)).bS;unfold iV;have E:Fq m [p,q] (H++[]) H:=by rw[afW];exact Fq.refl
 cases n:x.Q with
 |nil=>
  rw[n]at b;simp(disch:=omega) only[F1,go_sem,simprocAttr,J6,c.box,↓KL,b];exact⟨qv,H,lo,rfl,c,Fq.refl,gA.same rfl⟩
 |cons a l=>
  have d:=c.jc;rw[n]at b d;rw[ak9]at d;have G: ¬((l.length:Nat):Int)+1=0:=by omega
  have k:kn 1 qv (.int .i64 0)=some (gg qv 0 0):=by
   rw[(d.rd (lo:=none)).addr,adY ⟨by omega,by simp⟩];rfl
  have i:cm XC ⟨H,none⟩ false 1 (gg qv 0 0)=some (.int .i64 a):=(d.rd (lo:=none)).load (by simp);obtain⟨w,s1,s2,B,A,z⟩:=dk.tail (bytes:=8) d;have F:=λlo=>c0 (aww t.P c.fY lo (t.Q a (by rw[n];simp)))
  have j: (FP.rd p 952 1).ok (pY 1 (gg qv 0 0))=true:=by
   rcases d.2 with⟨_,e⟩| ⟨_,_,_,_,_,rfl,_⟩
   ·cases e
   ·rfl
  have s: ∀o,(H.set q o)[p]?=some (.box (bp x q qv) none):=λo=>(adb (by have:=c.qp;omega)).trans c.box
  have C:p+1<w.refs:=by
   rw[z];rcases d.2 with⟨_,e⟩| ⟨id,_,_,_,J,rfl,_⟩
   ·cases e
   ·simp only[AV.refs];omega
  have f: ¬w.refs<=p+1:=by omega
  simp only[go_sem,simprocAttr,J6,r,c.box,↓KL,b,G,k,i,F,j,s,s1,B,A,KS,f];have u:=(c.fq (.box (b8 (mJ x.P a)) none)).trans ((c.Gx (mJ x.P a)).fp (.box (bp x q w) none));have hm:=c.mp;obtain⟨I,g,f1,f2,f3,f4⟩:=Mp (m:=m) (N:=N) (lo:=lo) (Q:=False) (L:=[]) r h (by omega) (by rw[afW];exact u) (.inr ⟨p,afA _,rfl⟩) (v:=.bool true) (aeu _);rw[f1];have f5:I=(H.set q (.box (b8 (mJ x.P a)) none)).set p (.box (bp x q w) none):=f4.elim id λe=>e.2.elim
  rw[f5];refine⟨w,_,g,rfl,⟨c.mp,c.mq,c.qp,cG (s _),(adb (by have:=c.qp;omega)).trans (cG c.fY),?_⟩,u,?_⟩
  ·exact(s2.set c.fY _).set (s _) _
  ·rw[f5]at f3;exact f3.elim (λe=>e.2.2.elim) .inr
def dZ(st:bG)(p:Nat)(rv:AV):lA:=[.ptr p 0]++(bN st.c rv++(bF st.r++[.bool st.ended]))
section
variable{st:bG}{p:Nat}{rv:AV}
theorem UB: (dZ st p rv).length=17:=rfl
theorem ajS: (dZ st p rv)[0]?=some (.ptr p 0):=rfl
theorem ajT: (dZ st p rv)[1]?=some (.int .i64 st.c.aa):=rfl
theorem ajU: (dZ st p rv)[8]?=some (.bool st.c.checked):=rfl
theorem ajV: (dZ st p rv)[9]?=some rv:=rfl
theorem ajW: (dZ st p rv)[10]?=some (.int .i64 st.c.run.1):=rfl
theorem ajX: (dZ st p rv)[11]?=some (.int .i64 st.c.run.2):=rfl
theorem ajY: (dZ st p rv)[12]?=some (.int .i64 st.c.fw):=rfl
theorem ajZ: (dZ st p rv)[16]?=some (.bool st.ended):=rfl
theorem UC:Den.part true 12 (dZ st p rv) 1=some (.agg (bN st.c rv)):=rfl
theorem aj0:Den.part true 6 (dZ st p rv) 2=some (.agg (bn st.c.c)):=rfl
theorem aj1:Den.part true 2 (dZ st p rv) 10=some (.agg (aA st.c.run)):=rfl
theorem aj2:Den.part true 3 (dZ st p rv) 13=some (.agg (bF st.r)):=rfl
theorem aj3{b:Bool}:aM (dZ st p rv) 8 [.bool b]=dZ {st with c:={st.c with checked:=b}} p rv:=rfl
theorem aj4:aM (dZ st p rv) 9 [v]=dZ st p v:=rfl
theorem aj5{r:aC}:aM (dZ st p rv) 10 (aA r)=dZ {st with c:={st.c with run:=r}} p rv:=rfl
theorem aj6:aM (dZ st p rv) 12 [.int .i64 n]=dZ {st with c:={st.c with fw:=n}} p rv:=rfl
theorem aj7:aM (dZ st p rv) 13 (bF r)=dZ {st with r:=r} p rv:=rfl
theorem aj8{b:Bool}:aM (dZ st p rv) 16 [.bool b]=dZ {st with ended:=b} p rv:=rfl
def UD(c:Call)(h:rv.refs=0):aK (bN c rv)=0:=by rw[awM];simp[aK,AV.refs,h]
def PL:=gG @ajS<|gG @ajT<|gG @ajU<|gG @ajV<|gG @ajW<|gG @ajX<|gG @ajY<|gG @ajZ<|gG @UC<|gG @aj0<|gG @aj1 @aj2
def PS:=gG @aj3<|gG @aj4<|gG @aj5<|gG @aj6<|gG @aj7<|gG @aj8 @UB
end
structure dp(m p q s:Nat)(st:bG)(qv rv:AV)(H:List ae):Prop where
 co:dQ m p q st.x qv H
 ps:p<s
 box:H[s]?=some (.box (dZ st p rv) none)
 aW:Rv rv 1 (st.c.aW.map hC)
section
variable{m p q s:Nat}{st:bG}{qv rv:AV}{H:List ae}
def dp.lt(h:dp m p q s st qv rv H):s<H.length:=ew h.box
theorem dp.rz(h:dp m p q s st qv rv H):rv.refs=0:=cY h.aW (bB (λ_=>rfl) _)
theorem dp.app(h:dp m p q s st qv rv H)(L:List ae):dp m p q s st qv rv (H++L):=⟨h.co.app L,h.ps,aZ h.box,h.aW⟩
theorem dp.set(h:dp m p q s st qv rv H){qM:bG}{sh:AV}(a:qM.x=st.x)(b:Rv sh 1 (qM.c.aW.map hC)):dp m p q s qM qv sh (H.set s (.box (dZ qM p sh) none)):=
 ⟨a ▸ h.co.set h.box (by have:=h.ps;omega) (by have:=h.ps;have:=h.co.qp;omega) _,h.ps,cG h.box,b⟩
def dp.fs(h:dp m p q s st qv rv H)(o:ae):Fq m [p,q,s] H (H.set s o):=Fq.set (by simp) (by have:=h.ps;have:=h.co.mp;omega) o
def dp.sn(h:dp m p q s st qv rv H):s∉[p,q]:=by have:=h.ps;have:=h.co.qp;grind
def dp.ai{W:List ae}{b:Core}{a:AV}(h:dp m p q s st qv rv H)(d:dQ m p q b a W)(c:Fq m [p,q] H W):dp m p q s {st with x:=b} a rv W:=
 ⟨d,h.ps,c.own h.sn h.box,h.aW⟩
def Fq.m3{H W:List ae}(h:Fq m [p,q] H W):Fq m [p,q,s] H W:=h.mono (by simp)
theorem dp.pD{W d H0:List ae}{N:Nat}{a c:AV}{b:bG}(h:dp m p q s st qv rv W)(e:d=W\/ (d=W.take N/\Q))(i:Q->qv=a)(g:dp m p q s b a c H0)(f:H0.length=N):dp m p q s st qv rv d:=
 ⟨h.co.pD e i g.co f,h.ps,Mr e (by rw[<-f];exact g.lt) h.box,h.aW⟩
end
def eI(m p q s:Nat)(H:List ae)(lo:oN)(qM:bG)(qv:AV)(r:AV)(b:aU):Prop:=
 ∃a sh H' aj,b= .ret r ⟨H',aj⟩/\dp m p q s qM a sh H'/\Fq m [p,q,s] H H'/\gA (a=qv) p H H' lo aj
structure qN(st:bG):Prop where
 x:jO st.x
 c:fS st.c
def eI.fin{s N:Nat}{d st:bG}{a e rv:AV}{H L W:List ae}{b:oN}(c:dp m p q s d a e H)(g:H.length=N)(h:dp m p q s st qv rv W)(k:Fq m [p,q,s] (H++L) W)(j:gA (qv=a) p (H++L) W none b)(i:v.refs<=N):
  eI m p q s H lo st a v (.ret (finish N lo v ⟨W,b⟩).1 (finish N lo v ⟨W,b⟩).2):=by
 have r:=c.lt;have o:=c.ps;have n:=c.co.mp;obtain⟨l,f,f1,f2,f3,f4⟩:=Mp (m:=m) (N:=N) (lo:=lo) g (by omega) (by omega) k j i;rw[f1];exact⟨qv,rv,l,f,rfl,h.pD f4 id c g,f2,f3⟩
def UE{s:Nat}{st:bG}{rv:AV}{H:List ae}(a:dp m p q s st qv rv H)(e:qN st)(r:bA)(lo:oN):
  ∃d,D XC (.fn (.func 151) [] []) [.ptr s 0,.agg (bF r)] ⟨H,lo⟩=some d/\eI m p q s H lo (o8 st r) qv (.aw []) d:=by
 refine cE QO λN g=>?_
 have h:=(a.app [.box (bF r) none]).set (qM:={st with r:=r,ended:=true}) (sh:=rv) rfl a.aW;have k:=(a.app [.box (bF r) none]).fs (.box (dZ {st with r:=r,ended:=true} p rv) none);obtain⟨d,g1,b,W,aj,rfl,g2,i,l⟩:=ajR h.co e.x st.c e.c rv a.rz none;have f:=λL=>aZ (L:=L) a.box
 have c:=λL o=>cG (o:=o) (f L)
 simp only[go_sem,simprocAttr,QO,g,f,PL,PS,ye,uZ,sg,c,ak7,↓UC,g1];have j:gA (b=qv) p (H++[.box (bF r) none]) W none aj:=l.elim (λq=>.inl ⟨q.1,by grind,q.2.2⟩) .inr;exact eI.fin a g (h.ai g2 i) (k.trans i.m3) j (aeu _)
end Go.Proofs.YteplichagkpciaaGreatDoor
