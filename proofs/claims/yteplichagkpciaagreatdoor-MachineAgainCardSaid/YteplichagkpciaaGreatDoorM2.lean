/- What functions do; conditions as stated. -/
import Derived.Test.YteplichagkpciaaGreatDoorM1
set_option linter.all false
set_option maxRecDepth 10000
set_option maxHeartbeats 1000000
namespace Go.Proofs.YteplichagkpciaaGreatDoor
open Go Go.Den
variable{t:aw}{n a p k e sz r i aa:Nat}{v bk:AV}{lo:oN}{x y:aB}{b:cP}{m:Marks}{α β:Type}{l:eV}
def aqT:=@List.Pairwise.imp_of_mem
def au2:=@List.nodup_iff_pairwise_ne
def awV:=@List.nodup_cons
def axx:=@eq_false
def wR(o:bJ)(t:aw)(p:Ow->Bool)(h:Nat):Bool:=decide (root t h=h)&&p (b0 o t h)
def jC(o:bJ)(t:aw)(p:Ow->Bool):lN:=(bn t.b).filter (wR o t p)
def wS(o:bJ)(t:aw)(p:Ow->Bool)(n:Nat):lN:=((bn t.b).take n).filter (wR o t p)
def arY{o:bJ}{p:Ow->Bool}(h:n< (bn t.b).length):wS o t p (n+1)=if wR o t p ((bn t.b).getD n default)then wS o t p n++[(bn t.b).getD n default]else wS o t p n:=by
 unfold wS;rw[aex,acJ h,aoJ,getD_eq h]
 grind
def arZ{o:bJ}{p:Ow->Bool}: (wS o t p n).length<=n:=afI (af0 _ _) (by grind)
def agD(o:bJ)(ho:fF o)(t:aw)(z:bL t)(V:cp t)(fv:AV)(p:Ow->Bool)(N:Nat)(H:List ae)(A:H.length=N)
  (hf: ∀x L,wN x->D X fv [.agg (jx x)] ⟨H++L,none⟩=some (.ret (.bool (p x)) ⟨H++L,none⟩)) (lo:oN):
  ∃w,D X (.fn (.func 278) [] []) [.agg (cJ o),.agg (aK t),fv] ⟨H,lo⟩=some (.ret w ⟨H,lo⟩)/\Rv w 1 ((jC o t p).map hC)/\w.refs=0:=by
 suffices hs: ∃E,D X (.fn (.func 278) [] []) [.agg (cJ o),.agg (aK t),fv] ⟨H,lo⟩=some E/\ (λE=> ∃w,E=aT.ret w ⟨H,lo⟩/\Rv w 1 ((jC o t p).map hC)/\w.refs=0) E by
  obtain⟨E,h1,w,rfl,h2⟩:=hs;exact⟨w,h1,h2⟩
 refine cH Qo λM W=>?_
 obtain rfl:M=N:=by rw[<-W,A]
 obtain⟨v,J,e1,G⟩:=afP t.b z.b (M+2) (H++[.box (cJ o) none,.box (aK t) none]) (by simp[A]) none;have y:D X (.fn (.func 19) [] []) [.agg (bY t.b)] ⟨H++[.box (cJ o) none,.box (aK t) none],none⟩=some _:=sw (p:=m4) rfl e1;have b:=(lE G none).bK;have rC:=mR t.b;rw[acF]at y G b;obtain⟨q,u⟩: ∃q,q=[ae.box (cJ o) none,.box (aK t) none]++J:=⟨_,rfl⟩;have Y: ∀L,(H++(q++L))[M]?=some (.box (cJ o) none):=λL=>by rw[di A,u];rfl
 have g1: ∀L,(H++(q++L))[M+1]?=some (.box (aK t) none):=λL=>by rw[bE A,u];rfl
 rw[<-u]at y G b;simp only[go_sem,simprocAttr,Qo,W,y,b];refine ek (bn t.b).length (λn e H'=> ∃L,H'=H++(q++L)/\ (∃B,e 7=B/\aR (M+q.length) H' B 1 bZ ((wS o t p n).map hC))/\e 2=fv/\e 3= .ptr M 0/\e 4= .ptr (M+1) 0/\e 12=v/\e 13= .int .i64 (bn t.b).length/\e 14= .int .i64 n) 0 (by omega) ?_ ?_
 ·simp only[go_sem,simprocAttr];exact⟨[],by simp,_,rfl,aR.an⟩
 rintro n hn e H' ⟨L,rfl,⟨B,e7,a⟩,O,K,I,m,l,k⟩ n' Gc;simp only[cg,go_sem,simprocAttr,ad0,e7,m,l,k];refine⟨λhc=>?_,λhc=>?_⟩
 ·have f:n< (bn t.b).length:=by omega
  have Q:=(jg z.b).1 (fE f);have d:=arY (o:=o) (p:=p) f;have g:Rd ⟨H++(q++L),none⟩ v 1 ((bn t.b).map hC):=lE (by have:=G.ext (L:=L);rwa[acF]at this) none;have F:=g.cS (X:=X) (off:=0) (n:=1) (agg:=false) f;rw[pH]at F;have rB:=arZ (o:=o) (t:=t) (p:=p) (n:=n);generalize(bn t.b).getD n default=h at*;have T:=gi Q;have r:=λH lo=>up dj (zb t z V h T H lo)
  have C:=λH lo=>up dj (Bz o ho t z V h T H lo)
  have i:=hf (b0 o t h) (q++L) (ho.of t h);have c:wR o t p h=(decide (root t h=h)&&p (b0 o t h)):=rfl;have U: ∀aj:oN,True:=λ_=>trivial
  by_cases Z:root t h=h
  ·have j:decide ((root t h:Int)=(h:Nat))=true:=ac5 (by omega);rw[ac5 Z,aha]at c;cases S:p (b0 o t h)
   ·rw[S]at i c;rw[c,acz (by simp)]at d;simp(disch:=omega) only[go_sem,simprocAttr,O,K,I,e7,m,l,k,g.cG,F,Y,g1,r,C,j,i];exact⟨by omega,f,L,rfl,B,rfl,by rw[d];exact a⟩
   ·rw[S]at i c;rw[c,acE rfl]at d;simp only[go_sem,simprocAttr,O,K,I,e7,g.cG,F,Y,g1,r,C,j,i];refine⟨by omega,oA (H0:=H++q) (ys:=[[.int .u32 (h:Nat)]]) a ⟨_,acF _ _ _⟩ (by simp[A]) (by omega) (by intro el R;rw[ada.1 R];rfl) rfl (by unfold room;simp;omega) λv' H2 s P=>?_⟩;obtain⟨L2,rfl⟩:=P;simp(disch:=omega) only[go_sem,simprocAttr,O,K,I,m,l,k];refine⟨f,L2,by simp,v',rfl,?_⟩;rw[d,aeq];rwa[acF]at s
  ·have j: ¬((root t h:Nat):Int)=(h:Nat):=by omega
   rw[acK Z,afH]at c;rw[c,acz (by simp)]at d;simp(disch:=omega) only[go_sem,simprocAttr,O,K,I,e7,m,l,k,g.cG,F,g1,r,j];exact⟨by omega,f,L,rfl,B,rfl,by rw[d];exact a⟩
 ·obtain rfl:n=(bn t.b).length:=by omega
  have z:wS o t p (bn t.b).length=jC o t p:=by unfold wS jC;rw[aeo]
  rw[z]at a;have h0:bT ((jC o t p).map hC)=0:=bp (λ_=>rfl) _;rw[aR.Hd (aR.le a (by omega)) (by omega)];refine⟨_,de rfl (lh A),a.qd,cq a.qd h0⟩
def pn(aa:Nat)(x:Ow):Bool:=decide (x.kind=1)&&decide (x.aa=aa)
def nV(aa:Nat)(x:Ow):Bool:=decide (x.kind=3)&& (decide (aa<8)&&nO x.hold aa)
theorem BC(x:Ow):jx x=[.int .u8 x.kind,.int .u8 x.aa,.int .u8 x.hold]:=rfl
def ar0(aa:Nat)(x:Ow)(d:wN x)(q:Nat)(H:List ae)(e:H[q]?=some (.box [.int .i64 (aa:Nat)] none))(lo:oN):
  D X (.fn (.func 312) [] [.ptr q 0]) [.agg (jx x)] ⟨H,lo⟩=some (.ret (.bool (pn aa x)) ⟨H,lo⟩):=by
 refine fe JS λN b=>?_
 have f: ∀L,(H++L)[q]?=_:=λL=>bf e
 have:=d.aa;by_cases c:x.kind=1
 ·have a: (x.kind:Int)=1:=by omega
  simp(disch:=omega) only[F1,go_sem,simprocAttr,JS,b,BC,f,a];refine de (afW AV.bool ?_) rfl;unfold pn;grind
 ·have a: ¬(x.kind:Int)=1:=by omega
  simp only[F1,go_sem,simprocAttr,JS,b,BC,a];unfold pn;grind
def ar1(aa:Nat)(k:aa<256)(x:Ow)(h:wN x)(q:Nat)(H:List ae)(i:H[q]?=some (.box [.int .i64 (aa:Nat)] none))(lo:oN):
  D X (.fn (.func 279) [] [.ptr q 0]) [.agg (jx x)] ⟨H,lo⟩=some (.ret (.bool (nV aa x)) ⟨H,lo⟩):=by
 refine fe Eu λN e=>?_
 have f: ∀L,(H++L)[q]?=_:=λL=>bf i
 have j:=λH lo=>up dj (Ss aa (by omega) H lo)
 have hand:=Kz h.hold (zg aa);have d:=agk (x:=x.hold) (aa:=aa);by_cases c:x.kind=3
 ·have b: (x.kind:Int)=3:=by omega
  have c0: (aa:Int)>=0:=by omega
  by_cases g:aa<8
  ·have a: (aa:Int)<8:=by omega
   simp only[F1,go_sem,simprocAttr,Eu,e,BC,f,b,c0,a,j,hand,d];unfold nV;rw[ac5 c,ac5 g];rfl
  ·have a: ¬(aa:Int)<8:=by omega
   simp only[F1,go_sem,simprocAttr,Eu,e,BC,f,b,c0,a];unfold nV;rw[ac5 c,acK g];rfl
 ·have b: ¬(x.kind:Int)=3:=by omega
  simp only[F1,go_sem,simprocAttr,Eu,e,BC,b];unfold nV;rw[acK c];rfl
def ar2(o:bJ)(ho:fF o)(t:aw)(c:bL t)(d:cp t)(aa:Nat)(H:List ae)(lo:oN):
  ∃w,D X (.fn (.func 277) [] []) [.agg (cJ o),.agg (aK t),.int .i64 aa] ⟨H,lo⟩=some (.ret w ⟨H,lo⟩)/\Rv w 1 ((jC o t (pn aa)).map hC)/\w.refs=0:=by
 obtain⟨N,f⟩: ∃N,H.length=N:=⟨_,rfl⟩;obtain⟨w,e1,e,e3⟩:=agD o ho t c d (.fn (.func 312) [] [.ptr (N+2) 0]) (pn aa) (N+3) (H++[.box (cJ o) none,.box (aK t) none,.box [.int .i64 aa] none]) (by grind)
  (λx L b=>ar0 aa x b (N+2) _ (by simp_all) none) none
 refine⟨w,?_,e,e3⟩;refine aH Qn λM a=>?_
 obtain rfl:M=N:=by omega
 simp only[go_sem,simprocAttr,Qn,a,e1];rw[wO e3,lh a]
def ar3(o:bJ)(ho:fF o)(t:aw)(d:bL t)(e:cp t)(aa:Nat)(a:aa<256)(H:List ae)(lo:oN):
  ∃w,D X (.fn (.func 213) [] []) [.agg (cJ o),.agg (aK t),.int .i64 aa] ⟨H,lo⟩=some (.ret w ⟨H,lo⟩)/\Rv w 1 ((jC o t (nV aa)).map hC)/\w.refs=0:=by
 obtain⟨N,g⟩: ∃N,H.length=N:=⟨_,rfl⟩;obtain⟨w,e1,f,e3⟩:=agD o ho t d e (.fn (.func 279) [] [.ptr (N+2) 0]) (nV aa) (N+3) (H++[.box (cJ o) none,.box (aK t) none,.box [.int .i64 aa] none]) (by grind)
  (λx L c=>ar1 aa a x c (N+2) _ (by simp_all) none) none
 refine⟨w,?_,f,e3⟩;refine aH PX λM b=>?_
 obtain rfl:M=N:=by omega
 simp only[go_sem,simprocAttr,PX,b,e1];rw[wO e3,lh b]
theorem agE(a b:Int):oo (.int .u8 a) (.int .u8 b)=some (decide (a=b)):=by rfl
def KB{a b:Int}{es:List (AV×AV)}:dU (.int .u8 a) ((.int .u8 b,v)::es)=if a=b then some (some v)else dU (.int .u8 a) es:=by
 simp only[dU,agE]
 grind
theorem agF{a:Int}{v:AV}: ∀ {es:List (AV×AV)},(∀e∈es,∃j:Int,e.1= .int .u8 j/\a≠j)->k6 (.int .u8 a) v es=some (es++[(.int .u8 a,v)])
 | [],_=>rfl
 | (k,u)::es,h=>by
   obtain⟨j,c,b⟩:=h _ (ahM ..);subst c;simp only[k6,agE,b,ayC];rw[agF λe he=>h e (aew _ he)];rfl
def Sw{H:List ae}(b:H.length=p){a:Int}{es:List (AV×AV)}(h: ∀e∈es,∃j:Int,e.1= .int .u8 j/\a≠j)(c:v.refs<=p+1):
  lJ ⟨H++[.map es],lo⟩ .int (.mp p) (.int .u8 a) v=some ⟨H++[.map (es++[(.int .u8 a,v)])],lo⟩:=by
 unfold lJ;rw[acE (show kf .int (.int .u8 a)=true from rfl)];simp only[di b,aos,agF h];simp only[AS.set];simp_all
def Sx{gm:Nat->Option (List (AV×AV))}{H:List ae}{id:Nat}{es:List (AV×AV)}{a:Int}{z:AV}{r:Option AV}(h:H[id]?=some (.map es))(b:dU (.int .u8 a) es=some r):
  iV gm ⟨H,lo⟩ .int z (.mp id) (.int .u8 a) true=some (match r with|some v=>.av [v,.bool true]|none=>.av [z,.bool false]):=by
 unfold iV;rw[acE (show kf .int (.int .u8 a)=true from rfl)];simp only[mapOf,h,b]
 grind
section
variable(T:aw)(hT:bL T)(wT:cp T)(O:bJ)(K:bh)(hK:gB K)(h:Nat)(hh:h<4294967296)(pw ph:Nat)(H:List ae)(hw:H[pw]?=some (.box (gh T O K) none))(ox:H[ph]?=some (.box [.int .u32 h] none))(lo:oN)
include hT wT hK hh hw ox
omit hT wT hh in
theorem ar4:D X (.fn (.func 314) [] [.ptr pw 0,.ptr ph 0]) [] ⟨H,lo⟩=some (.ret (.bool (wu K h 0)) ⟨H,lo⟩):=by
 refine fe QF λN b=>?_
 have a: ∀H lo,D X (.fn (.func 315) [] []) [.agg (bS K),.int .u32 h,.int .u32 0] ⟨H,lo⟩=_:=ags K hK h 0 (by omega);simp(disch:=omega) only[F1,go_sem,simprocAttr,QF,b,hw,ox,↓qC,a]
omit hT wT hh in
theorem ar5:D X (.fn (.func 316) [] [.ptr pw 0,.ptr ph 0]) [] ⟨H,lo⟩=some (.ret (.bool (yI K h 0)) ⟨H,lo⟩):=by
 refine fe QG λN b=>?_
 have a: ∀H lo,D X (.fn (.func 317) [] []) [.agg (bS K),.int .u32 h,.int .u32 0] ⟨H,lo⟩=_:=agt K hK h 0 (by omega);simp(disch:=omega) only[F1,go_sem,simprocAttr,QG,b,hw,ox,↓qC,a]
omit hT wT hh ox in
theorem ar6(x:Nat):D X (.fn (.func 320) [] [.ptr pw 0]) [.int .u32 x] ⟨H,lo⟩=some (.ret (.bool (decide (0< (mS K x).length))) ⟨H,lo⟩):=by
 refine fe QJ λN a=>?_
 obtain⟨w,e1,b,e3⟩:=Su K hK x H none;simp(disch:=omega) only[F1,go_sem,simprocAttr,QJ,a,hw,↓qC,e1,b.bK];exact de (afW AV.bool (aev.2 (by omega))) rfl
theorem ar7:D X (.fn (.func 318) [] [.ptr pw 0,.ptr ph 0]) [] ⟨H,lo⟩=some (.ret (.bool (!((under T h).any λx=>decide (0< (mS K x).length)))) ⟨H,lo⟩):=by
 refine fe QH λN b=>?_
 obtain⟨v,J,a,e,d,c⟩:=Kq T hT wT h hh N H b none;have f:=afB dj v (.fn (.func 320) [] [.ptr pw 0]) (under T h) (H++J) d.rd (by have:=EX wT h;omega) (λx=>decide (0< (mS K x).length)) a (λx _=>ar6 T O K hK pw (H++J) (bf hw) none x);simp only[go_sem,simprocAttr,QH,hw,ox,↓oS,e,f];rw[iQ (dX.of c) (ac7 _),lh b]
end
def ar8(T:aw)(hT:bL T)(wT:cp T)(O:bJ)(K:bh)(hK:gB K)(h:Nat)(hh:h<4294967296)(b:Nat)(t:b<=2)(H:List ae)(lo:oN):
  D X (.fn (.func 215) [] []) [.agg (gh T O K),.int .u32 h,.int .u8 b] ⟨H,lo⟩=some (.ret (.bool (EO T K h b)) ⟨H,lo⟩):=by
 refine aH Ek λN i=>?_
 obtain⟨o,l⟩: ∃o,o=H++[ae.box (gh T O K) none,.box [.int .u32 h] none]:=⟨_,rfl⟩;have g:o.length=N+2:=by rw[l];simp[i]
 have m: ∀f,(AV.fn (.func f) [] [.ptr N 0,.ptr (N+1) 0]).refs<=N+2+1:=λf=>by simp only[AV.refs,aI];omega
 have k:=Sw g (a:=0) (es:=[]) (lo:=none) (by simp) (m 314);have j:=Sw g (a:=1) (es:=[(.int .u8 0,.fn (.func 314) [] [.ptr N 0,.ptr (N+1) 0])]) (lo:=none) (by simp) (m 316);have m3:=Sw g (a:=2) (es:=[(.int .u8 0,.fn (.func 314) [] [.ptr N 0,.ptr (N+1) 0]),(.int .u8 1,.fn (.func 316) [] [.ptr N 0,.ptr (N+1) 0])]) (lo:=none) (by simp) (m 318);rw[l]at k j m3;simp only[acF,af3,afY]at k j m3;obtain⟨e,c⟩: ∃e,e=H++[ae.box (gh T O K) none,.box [.int .u32 h] none,.map [(.int .u8 0,.fn (.func 314) [] [.ptr N 0,.ptr (N+1) 0]),(.int .u8 1,.fn (.func 316) [] [.ptr N 0,.ptr (N+1) 0]),(.int .u8 2,.fn (.func 318) [] [.ptr N 0,.ptr (N+1) 0])]]:=⟨_,rfl⟩;have n:e[N]?=some (.box (gh T O K) none):=by rw[c,di i];rfl
 have g1:e[N+1]?=some (.box [.int .u32 h] none):=by rw[c,bE i];rfl
 have g2:e[N+2]?=some (.map [(.int .u8 0,.fn (.func 314) [] [.ptr N 0,.ptr (N+1) 0]),(.int .u8 1,.fn (.func 316) [] [.ptr N 0,.ptr (N+1) 0]),(.int .u8 2,.fn (.func 318) [] [.ptr N 0,.ptr (N+1) 0])]):=by rw[c,bE i];rfl
 have s:=ar4 O K hK h N (N+1) e (T:=T) n g1 none;have q:=ar5 O K hK h N (N+1) e (T:=T) n g1 none;have p:=ar7 T hT wT O K hK h hh N (N+1) e n g1 none;have hw:b=0\/b=1\/b=2:=by omega
 rcases hw with rfl|rfl|rfl
 ·have d:=Sx (gm:=X.fG) (lo:=none) (a:=0) (z:=.dg) g2 (r:=some _) (by simp only[KB,aeE];rfl);rw[c]at s d;simp only[F1,go_sem,simprocAttr,Ek,i,k,j,m3,d,s];rfl
 ·have d:=Sx (gm:=X.fG) (lo:=none) (a:=1) (z:=.dg) g2 (r:=some (.fn (.func 316) [] [.ptr N 0,.ptr (N+1) 0])) (by simp[KB]);rw[c]at q d;simp only[F1,go_sem,simprocAttr,Ek,i,k,j,m3,d,q];rfl
 ·have d:=Sx (gm:=X.fG) (lo:=none) (a:=2) (z:=.dg) g2 (r:=some (.fn (.func 318) [] [.ptr N 0,.ptr (N+1) 0])) (by simp[KB]);rw[c]at p d;simp only[F1,go_sem,simprocAttr,Ek,i,k,j,m3,d,p];rfl
def KC(K:bh)(aa h a t:Nat):Bool:=decide ((ch K t).1.to=aa)&& ((decide (a=0)&&wu K h t)|| (decide (a=1)&& (ch K t).1.mu&&yI K h t))
def ar9(T:aw)(O:bJ)(K:bh)(n:gB K)(aa h a t:Nat)(y:t<4294967296)(o p r q:Nat)(H:List ae)(i:H[o]?=some (.box (gh T O K) none))(v:H[p]?=some (.box [.int .i64 aa] none))
  (A:H[r]?=some (.box [.int .u8 a] none)) (z:H[q]?=some (.box [.int .u32 h] none)) (lo:oN):
  D X (.fn (.func 333) [] [.ptr o 0,.ptr p 0,.ptr r 0,.ptr q 0]) [.int .u32 t] ⟨H,lo⟩=some (.ret (.bool (KC K aa h a t)) ⟨H,lo⟩):=by
 refine fe wb λN j=>?_
 have g1: ∀L,(H++L)[o]?=_:=λL=>bf i
 have g2: ∀L,(H++L)[p]?=_:=λL=>bf v
 have l: ∀L,(H++L)[r]?=_:=λL=>bf A
 have B: ∀L,(H++L)[q]?=_:=λL=>bf z
 have b:=λH lo=>up dj (BA K n t y H lo)
 have m:=ags K n h t y;have u:=agt K n h t y;have s:=n.get t;have c:KC K aa h a t=(decide ((ch K t).1.to=aa)&& ((decide (a=0)&&wu K h t)|| (decide (a=1)&& (ch K t).1.mu&&yI K h t))):=rfl;generalize I: (ch K t).1=x at*;have w:=m6 x;rw[w]at b;have G:=s.to;by_cases F:x.to=aa
 ·have d:decide ((x.to:Int)=aa)=true:=ac5 (by omega);rw[ac5 F,aha]at c;by_cases E:a=0
  ·have f:decide ((a:Int)=0)=true:=ac5 (by omega);have e:decide ((a:Int)=1)=false:=acK (by omega);rw[ac5 E,acK (by omega: ¬a=1),aha,afH,afH,Bool.or_false]at c;cases k:wu K h t
   ·rw[k]at m c;simp(disch:=omega) only[F1,go_sem,simprocAttr,wb,j,i,g1,g2,l,B,↓qC,b,d,f,e,m,c]
   ·rw[k]at m c;simp(disch:=omega) only[F1,go_sem,simprocAttr,wb,j,i,g1,g2,l,B,↓qC,b,d,f,m,c]
  ·have f: ¬(a:Int)=0:=by omega
   rw[acK E,afH,ars]at c;by_cases C:a=1
   ·have e:decide ((a:Int)=1)=true:=ac5 (by omega);rw[ac5 C,aha]at c;cases g:x.mu
    ·rw[g,afH]at c;simp(disch:=omega) only[F1,go_sem,simprocAttr,wb,j,i,g2,l,↓qC,b,d,f,e,g,c]
    ·rw[g,aha]at c;simp(disch:=omega) only[F1,go_sem,simprocAttr,wb,j,i,g1,g2,l,B,↓qC,b,d,f,e,g,u,c]
   ·have e: ¬(a:Int)=1:=by omega
    rw[acK C,afH,afH]at c;simp(disch:=omega) only[F1,go_sem,simprocAttr,wb,j,i,g2,l,↓qC,b,d,f,e,c]
 ·have d: ¬(x.to:Int)=aa:=by omega
  rw[acK F,afH]at c;simp(disch:=omega) only[F1,go_sem,simprocAttr,wb,j,i,g2,↓qC,b,d,c]
def asa(T:aw)(O:bJ)(K:bh)(f:gB K)(aa h a:Nat)(H:List ae)(lo:oN):
  D X (.fn (.func 313) [] []) [.agg (gh T O K),.int .i64 aa,.int .u32 h,.int .u8 a] ⟨H,lo⟩=some (.ret (.bool (ER K aa h a)) ⟨H,lo⟩):=by
 refine aH QE λN e=>?_
 obtain⟨d,b⟩: ∃d,d=H++[ae.box (gh T O K) none,.box [.int .i64 aa] none,.box [.int .u32 h] none,.box [.int .u8 a] none]:=⟨_,rfl⟩;have k:d[N]?=some (.box (gh T O K) none):=by rw[b,di e];rfl
 have g1:d[N+1]?=some (.box [.int .i64 aa] none):=by rw[b,bE e];rfl
 have g2:d[N+2]?=some (.box [.int .u32 h] none):=by rw[b,bE e];rfl
 have j:d[N+3]?=some (.box [.int .u8 a] none):=by rw[b,bE e];rfl
 obtain⟨w,e1,l,e3⟩:=Su K f h d none;have c: (mS K h).length<2^40:=by
  have:=mR K.b;have: (mS K h).length<=_:=af0 _ _;omega
 have g:=afB dj w (.fn (.func 333) [] [.ptr N 0,.ptr (N+1) 0,.ptr (N+3) 0,.ptr (N+2) 0]) (mS K h) d (l _) c (KC K aa h a) none
  (λt i=>ar9 T O K f aa h a t (gi ((jg f.b).1 (aey.1 i).1)) N (N+1) (N+3) (N+2) d k g1 j g2 none)
 have m:ER K aa h a=(mS K h).any (KC K aa h a):=rfl;rw[b]at e1 g;simp only[F1,go_sem,simprocAttr,QE,e,↓qC,e1,g,m]
def agG{x:Nat}(a:x<256)(b:k<8):decide ((x/2^k) % 2=1)=x.testBit k:=by grind
def asb(T:aw)(M:bL T)(v:cp T)(O:bJ)(P:fF O)(K:bh)(Q:gB K)(aa:Nat)(S:aa<256)(h:Nat)(F:h<4294967296)(c:Nat)(B:c<=2)(H:List ae)(lo:oN):
  D X (.fn (.func 283) [] []) [.agg (gh T O K),.int .i64 aa,.int .u32 h,.int .u8 c] ⟨H,lo⟩=some (.ret (.int .i64 (wx T O K aa h c:Nat)) ⟨H,lo⟩):=by
 refine aH mM λN n=>?_
 have g:=λH lo=>up dj (ew T.b h F H lo)
 have G: ∀h,az T.b h=T.az h:=λh=>rfl
 simp only[G]at g;have k:=λH lo=>up dj (Bz O P T M v h F H lo)
 have m:=ar8 T M v O K Q h F c B;have hle:=asa T O K Q aa h c;have s:=P.of T h;have a:Den.part true 96 (gh T O K) 0=some (.agg (bY T.b)):=by
  have e:gh T O K=bY T.b++(wg T.r++(cJ O++bS K)):=by simp[gh,aK]
  rw[e];exact wk (nL _) (by omega)
 have d:Den.part true 784 (gh T O K) 0=some (.agg (gh T O K)):=EE (kJ _ _ _);have f:wx T O K aa h c=if T.az h=false then 4
  else if(b0 O T h).kind=3 then(if c=0/\aa<8/\ (b0 O T h).hold.testBit aa=true then 0 else 5)
  else if(b0 O T h).kind=1 then(if((b0 O T h).aa=aa/\EO T K h c=true)\/ER K aa h c=true then 0 else 5)
  else 5:=rfl
 generalize V:b0 O T h=x at*;have C:=BC x;rw[C]at k;cases z:T.az h with
 |false=>
  rw[acE z]at f;rw[z]at g;simp only[F1,go_sem,simprocAttr,mM,n,↓a,g,f]
 |true=>
  rw[acz (by rw[z];simp)]at f;rw[z]at g;by_cases J:x.kind=3
  ·have j:decide ((x.kind:Int)=3)=true:=ac5 (by omega);rw[acE J]at f;by_cases w:c=0
   ·have i: (c:Int)=0:=by omega
    have c0: (aa:Int)>=0:=by omega
    by_cases I:aa<8
    ·have r: (aa:Int)<8:=by omega
     have t:kn .shr (.int .u8 (x.hold:Nat)) (.int .i64 (aa:Nat))=some (.int .u8 ((x.hold/2^aa:Nat):Int)):=by
      rw[CQ,acE (by omega)];have U:IntKind.u8.bits=8:=rfl;rw[U,ayr,aon (by omega)]
      congr 2
      rw[Int.fdiv_eq_ediv_of_nonneg _ (Int.le_of_lt (Int.pow_pos (by decide)))];simp
     have E:x.hold/2^aa<256:=Nat.lt_of_le_of_lt (Nat.div_le_self _ _) s.hold;have hand:dh .and (.int .u8 ((x.hold/2^aa:Nat):Int)) (.int .u8 1)=some (.int .u8 ((x.hold/2^aa % 2:Nat):Int)):=by
      have:=Kz (b:=1) E (by omega);have e:x.hold/2^aa&&&1=x.hold/2^aa % 2:=Nat.and_one_is_mod _;rw[e]at this;exact this
     have p:=agG s.hold I;cases A:x.hold.testBit aa
     ·rw[A,acz (by simp)]at f;rw[A]at p;have o: ¬((x.hold/2^aa % 2:Nat):Int)=1:=by
       have:=of_decide_eq_false p;omega
      simp only[F1,go_sem,simprocAttr,mM,n,↓a,↓oT,↓oS,g,k,j,i,c0,r,t,hand,o,f]
     ·rw[A,acE ⟨w,I,rfl⟩]at f;rw[A]at p;have o:decide (((x.hold/2^aa % 2:Nat):Int)=1)=true:=by
       have:=aoR p;exact ac5 (by omega)
      simp only[F1,go_sem,simprocAttr,mM,n,↓a,↓oT,↓oS,g,k,j,i,c0,r,t,hand,o,f]
    ·have r: ¬(aa:Int)<8:=by omega
     rw[acz (λq=>I q.2.1)]at f;simp only[F1,go_sem,simprocAttr,mM,n,↓a,↓oT,↓oS,g,k,j,i,c0,r,f]
   ·have i: ¬(c:Int)=0:=by omega
    rw[acz (λq=>w q.1)]at f;simp only[F1,go_sem,simprocAttr,mM,n,↓a,↓oT,↓oS,g,k,j,i,f]
  ·have j: ¬(x.kind:Int)=3:=by omega
   rw[acz J]at f;by_cases L:x.kind=1
   ·have l:decide ((x.kind:Int)=1)=true:=ac5 (by omega);rw[acE L]at f;have R:=s.aa;cases y:ER K aa h c<;>by_cases w:x.aa=aa
    ·have i:decide ((x.aa:Int)=aa)=true:=ac5 (by omega);rw[y]at hle f;cases u:EO T K h c
     ·rw[u]at m f;rw[acz (by simp)]at f;simp(disch:=omega) only[F1,go_sem,simprocAttr,mM,n,↓a,↓oT,↓oS,↓d,g,k,j,l,i,m,hle,f]
     ·rw[u]at m f;rw[acE (.inl ⟨w,rfl⟩)]at f;simp(disch:=omega) only[F1,go_sem,simprocAttr,mM,n,↓a,↓oT,↓oS,↓d,g,k,j,l,i,m,f]
    ·have i: ¬(x.aa:Int)=aa:=by omega
     rw[y]at hle f;rw[acz (by simp[w])]at f;simp(disch:=omega) only[F1,go_sem,simprocAttr,mM,n,↓a,↓oT,↓oS,↓d,g,k,j,l,i,hle,f]
    ·have i:decide ((x.aa:Int)=aa)=true:=ac5 (by omega);rw[y]at hle f;rw[acE (.inr rfl)]at f;cases u:EO T K h c
     ·rw[u]at m;simp(disch:=omega) only[F1,go_sem,simprocAttr,mM,n,↓a,↓oT,↓oS,↓d,g,k,j,l,i,m,hle,f]
     ·rw[u]at m;simp(disch:=omega) only[F1,go_sem,simprocAttr,mM,n,↓a,↓oT,↓oS,↓d,g,k,j,l,i,m,f]
    ·have i: ¬(x.aa:Int)=aa:=by omega
     rw[y]at hle f;rw[acE (.inr rfl)]at f;simp(disch:=omega) only[F1,go_sem,simprocAttr,mM,n,↓a,↓oT,↓oS,↓d,g,k,j,l,i,hle,f]
   ·have l: ¬(x.kind:Int)=1:=by omega
    rw[acz L]at f;simp only[F1,go_sem,simprocAttr,mM,n,↓a,↓oT,↓oS,g,k,j,l,f]
structure uP(m:j0):Prop where
 fr:m.fr<8
 word:m.word<18446744073709551616
 aN:m.aN<4294967296
structure iR(b:cP):Prop where
 fr:b.fr<4
 n:b.n<=4
 ring: ∀i,uP (b.ring i)
def Sy:uP yL:=⟨by trivial,by trivial,by trivial⟩
def iR.gone:iR yM:=⟨by trivial,by trivial,λ_=>Sy⟩
def iR.close(h:iR b):iR (uE b).1:=by
 unfold uE;split
 ·exact h
 ·exact⟨h.fr,h.n,h.ring⟩
def iR.put(h:iR b){m:j0}(a:uP m):iR (nP b m).1:=by
 unfold nP;split
 ·exact h
 ·split
  ·exact h
  ·refine⟨h.fr,by have:=h.n;grind,λi=>?_⟩;show uP (aq b.ring (lr b b.n) m i);by_cases e:i=lr b b.n
   ·rw[e,cu];exact a
   ·rw[cy e];exact h.ring i
def iR.take(h:iR b):iR (l9 b).1/\uP (l9 b).2.1:=by
 unfold l9;split
 ·exact⟨h,Sy⟩
 ·exact⟨⟨amw _ (by omega),by have:=h.n;grind,h.ring⟩,h.ring _⟩
def agH(b:cP)(i:Nat):lr b i<4:=amw _ (by omega)
def zB:lA:=[.int .u8 0,.int .u64 0,.int .u32 0,.bool false,.int .u8 0,.int .u64 0,.int .u32 0,.bool false,.int .u8 0,.int .u64 0,.int .u32 0,.bool false,.int .u8 0,.int .u64 0,.int .u32 0,.bool false,.int .i64 0,.int .i64 0,.bool false]
theorem agI:List.take 19 (cA b)=cA b:=by rfl
def MB:=gG @agI<|gG @yB @aeN
theorem nW(m:j0):eo m=[.int .u8 m.fr,.int .u64 m.word,.int .u32 m.aN,.bool m.share]:=rfl
def Sz(b:cP)(d:b.fr<4)(i:Nat)(c:i<1000)(H:List ae)(lo:oN):D X0 (.fn (.func 306) [] []) [.agg (cA b),.int .i64 i] ⟨H,lo⟩=some (.ret (.int .i64 (lr b i:Nat)) ⟨H,lo⟩):=by
 refine aH QC λN a=>?_
 have e: ((b.fr:Int)+i).tmod 4=(lr b i:Nat):=by rfl
 simp(disch:=omega) only[F1,go_sem,simprocAttr,QC,a,↓ae4,e]
def SA(b:cP)(l:iR b)(m:j0)(H:List ae)(lo:oN):
  D X0 (.fn (.func 271) [] []) [.agg (cA b),.agg (eo m)] ⟨H,lo⟩=some (.ret (.av [.agg (cA (nP b m).1),.int .i64 (nP b m).2]) ⟨H,lo⟩):=by
 refine aH Es λN j=>?_
 have e:nP b m=if b.closed then(b,11)else if b.n=4 then(b,7)else({b with ring:=aq b.ring (lr b b.n) m,n:=b.n+1},0):=rfl
 have hm:=nW m;cases f:b.closed
 ·rw[f,acz (by simp)]at e;by_cases k:b.n=4
  ·rw[acE k]at e;have d:decide ((b.n:Int)=4)=true:=ac5 (by omega);simp only[F1,go_sem,simprocAttr,Es,j,hm,↓yE,f,↓Bd,d,MB,↓qB,e]
  ·rw[acz k]at e;have d: ¬(b.n:Int)=4:=by omega
   have p:=l.n;have i:=Sz b l.fr b.n (by omega);have h:=agH b b.n;have a:=apB (b:=b) (x:=m) h;rw[hm]at a;have g: ∀c,aM (cA ⟨aq b.ring (lr b b.n) m,b.fr,b.n,c⟩) 17 [.int .i64 ((b.n:Int)+1)]=cA ⟨aq b.ring (lr b b.n) m,b.fr,b.n+1,c⟩:=λc=>ae5 (x:=b.n+1)
   have o: (N+1 !=N)=true:=by simp
   simp(disch:=omega) only[F1,go_sem,simprocAttr,Es,j,hm,↓yE,f,↓Bd,d,MB,↓qB,i,a,g,e];exact⟨by omega,by omega⟩
 ·rw[f,acE rfl]at e;simp only[F1,go_sem,simprocAttr,Es,j,hm,↓yE,f,MB,↓qB,e]
def aZ(x:aB)(bk:AV):lA:=bz x.s++([.int .i64 x.aa]++(bg x.c++(aA x.run++[.int .i64 x.ma,.bool x.asks,bk])))
def KD(x:aB)(bk:AV): (aZ x bk).length=964:=by simp only[aZ,ac6,dY];rfl
section
variable{x:aB}{bk:AV}
theorem uQ{ag:Bool}{m o:Nat}(ho:o+m<=952)(a:0<m):Den.part ag m (aZ x bk) o=Den.part ag m (bz x.s) o:=by
 unfold aZ;exact nI (by rw[dY];exact ho) a
def nX{ag:Bool}{m o:Nat}(ho:952<=o):Den.part ag m (aZ x bk) o=Den.part ag m ([.int .i64 x.aa]++(bg x.c++(aA x.run++[.int .i64 x.ma,.bool x.asks,bk]))) (o-952):=by
 unfold aZ;rw[jZ (by rw[dY];exact ho),dY]
def agJ:Den.part true 480 (aZ x bk) 0=some (.agg (aK x.s.T)):=by grind [uQ,Ro]
theorem SB:Den.part true 96 (aZ x bk) 0=some (.agg (bY x.s.T.b)):=by rfl
def agK:Den.part true 128 (aZ x bk) 480=some (.agg (cJ x.s.O)):=by grind [uQ,J5]
def agL:Den.part true 176 (aZ x bk) 608=some (.agg (bS x.s.K)):=by grind [uQ,J6]
def agM:Den.part true 784 (aZ x bk) 0=some (.agg (gh x.s.T x.s.O x.s.K)):=by grind [uQ,Rm]
def agN:Den.part true 952 (aZ x bk) 0=some (.agg (bz x.s)):=by grind [uQ,Rn]
def KE{i:Nat}(h:i<8):Den.part true 19 (aZ x bk) (784+i*19)=some (.agg (cA (x.s.cY i))):=by grind [uQ,apF]
def SC{i:Nat}(h:i<8):Den.part false 1 (aZ x bk) (936+i)=some (.bool (x.s.alive i)):=by grind [uQ,Rp]
def asc{i:Nat}(h:i<8):Den.part false 1 (aZ x bk) (944+i)=some (.bool (x.s.born i)):=by grind [uQ,apH]
def agO:Den.part false 1 (aZ x bk) 952=some (.int .i64 x.aa):=by rw[nX (by omega)];rfl
def agP:Den.part false 1 (aZ x bk) 953=some (.int .u8 x.c.op):=by rw[nX (by omega)];rfl
def agQ:Den.part false 1 (aZ x bk) 954=some (.int .u32 x.c.r):=by rw[nX (by omega)];rfl
def agR:Den.part false 1 (aZ x bk) 955=some (.int .u32 x.c.s):=by rw[nX (by omega)];rfl
def agS:Den.part false 1 (aZ x bk) 956=some (.int .u32 x.c.a):=by rw[nX (by omega)];rfl
def agT:Den.part false 1 (aZ x bk) 957=some (.int .u32 x.c.b):=by rw[nX (by omega)];rfl
def agU:Den.part false 1 (aZ x bk) 958=some (.int .u64 x.c.v):=by rw[nX (by omega)];rfl
def agV:Den.part true 6 (aZ x bk) 953=some (.agg (bg x.c)):=by rw[nX (by omega)];rfl
def agW:Den.part true 2 (aZ x bk) 959=some (.agg (aA x.run)):=by rw[nX (by omega)];rfl
def agX:Den.part false 1 (aZ x bk) 960=some (.int .i64 x.run.2):=by rw[nX (by omega)];rfl
def agY:Den.part false 1 (aZ x bk) 961=some (.int .i64 x.ma):=by rw[nX (by omega)];rfl
def agZ:Den.part false 1 (aZ x bk) 962=some (.bool x.asks):=by rw[nX (by omega)];rfl
def ag0:Den.part false 1 (aZ x bk) 963=some bk:=by rw[nX (by omega)];rfl
def CL:=gG @agJ<|gG @SB<|gG @agK<|gG @agL<|gG @agM<|gG @agN<|gG @agO<|gG @agP<|gG @agQ<|gG @agR<|gG @agS<|gG @agT<|gG @agU<|gG @agV<|gG @agW<|gG @agX<|gG @agY<|gG @agZ @ag0
def BD{s:bF}{o:Nat}{vs:lA}(ho:o+vs.length<=952)(h:aM (bz x.s) o vs=bz s):aM (aZ x bk) o vs=aZ {x with s:=s} bk:=by
 unfold aZ;rw[qA (by rw[dY];exact ho),h]
def SD:aM (aZ x bk) 0 (aK t)=aZ (x.t t) bk:=BD (by rw[iv];omega) apI
def ag1{w:bJ}:aM (aZ x bk) 480 (cJ w)=aZ (x.o w) bk:=BD (by rw[sc];omega) apJ
def ag2{k:bh}:aM (aZ x bk) 608 (bS k)=aZ (x.k k) bk:=BD (by rw[yA];omega) apK
def KF{i:Nat}{b:cP}(h:i<8):aM (aZ x bk) (784+i*19) (cA b)=aZ (x.bx i b) bk:=BD (by rw[yB];omega) (apL h)
def ag3{i:Nat}{v:Bool}(h:i<8):aM (aZ x bk) (936+i) [.bool v]=aZ {x with s:={x.s with alive:=aq x.s.alive i v}} bk:=BD (by grind) (ae8 h)
def asd{i:Nat}{v:Bool}(h:i<8):aM (aZ x bk) (944+i) [.bool v]=aZ {x with s:={x.s with born:=aq x.s.born i v}} bk:=BD (by grind) (ae9 h)
def BE{o:Nat}{vs:lA}(ho:952<=o):aM (aZ x bk) o vs=bz x.s++aM ([.int .i64 x.aa]++(bg x.c++(aA x.run++[.int .i64 x.ma,.bool x.asks,bk]))) (o-952) vs:=by
 unfold aZ;rw[gx (by rw[dY];exact ho),dY]
theorem ag4:aM (aZ x bk) 961 [.int .i64 n]=aZ {x with ma:=n} bk:=by rw[BE (by omega)];rfl
def ag5:aM (aZ x bk) 963 [v]=aZ x v:=by rw[BE (by omega)];rfl
def CS:=gG @SD<|gG @ag1<|gG @ag2<|gG @ag4<|gG @ag5 @KD
end
abbrev iS(e:Nat):AV:=.c8 qg (.int .i64 (e:Nat))
theorem ag6{t:TypeId}:Wk (.c8 t v)=some (.c8 t v):=rfl
def ag7{X:Ctx}{a:List RV}{R:aT->Prop}{e:Env}{E:AS}:dE X n lo a R (.panic v) ⟨e,[]⟩ E=R (.panic (finish n lo v E).1 (finish n lo v E).2):=by
 simp[dE,dC]
def EP:=gG @ag6 @ag7
def E6(e:Int)(H:List ae)(lo:oN):D X0 (.fn (.func 116) [] []) [.bool true,.int .i64 e] ⟨H,lo⟩=some (.ret (.av []) ⟨H,lo⟩):=by
 refine aH Ea λN a=>?_
 simp(disch:=omega) only[F1,go_sem,simprocAttr,Ea]
def zh(e:Nat)(H:List ae)(lo:oN):D X0 (.fn (.func 116) [] []) [.bool false,.int .i64 e] ⟨H,lo⟩=some (.panic (iS e) ⟨H,lo⟩):=by
 refine aH Ea λN a=>?_
 simp(disch:=omega) only[F1,go_sem,simprocAttr,Ea,EP]
def ase(H:List ae)(lo:oN):D X0 (.fn (.func 248) [] []) [.int .i64 0] ⟨H,lo⟩=some (.ret (.av []) ⟨H,lo⟩):=by
 refine aH En λN a=>?_
 simp(disch:=omega) only[F1,go_sem,simprocAttr,En,E6]
def asf(e:Nat)(b:e≠0)(H:List ae)(lo:oN):D X0 (.fn (.func 248) [] []) [.int .i64 e] ⟨H,lo⟩=some (.panic (iS e) ⟨H,lo⟩):=by
 refine aH En λN c=>?_
 have a: ¬(e:Int)=0:=by omega
 simp(disch:=omega) only[F1,go_sem,simprocAttr,En,zh,a,EP]
def zi{X:Ctx}{e:Env}{E:AS}{R:aT->Prop}{b c m:Nat}{ag d:Bool}:dE X n lo [.cell a ag m,.cell b d k,.t c] R .ret ⟨e,[]⟩ E=okV (bW X E ag m (e a)) (λv E=>okV (bW X E d k (e b)) (λu E=>nv n lo R (.av [v,u,e c]) E) E) E:=by
 simp only[xP,xR,fA,jO,oq];cases h:bW X E ag m (e a)with
 |none=>simp[okV,h]
 |some v=>
  cases f:bW X E d k (e b)with
  |none=>simp[okV,h,f]
  |some u=>simp[okV,nv,h,f]
def asg(b:cP)(i:iR b)(H:List ae)(lo:oN):
  D X0 (.fn (.func 272) [] []) [.agg (cA b)] ⟨H,lo⟩=some (.ret (.av [.agg (cA (l9 b).1),.agg (eo (l9 b).2.1),.int .i64 (l9 b).2.2]) ⟨H,lo⟩):=by
 refine aH Et λN k=>?_
 have d:l9 b=if b.n=0 then(b,yL,if b.closed then 11 else 10)else({b with fr:=lr b 1,n:=b.n-1},b.ring b.fr,0):=rfl
 have e:eo yL=[.int .u8 0,.int .u64 0,.int .u32 0,.bool false]:=rfl;by_cases l:b.n=0
 ·rw[acE l]at d;have a:decide ((b.n:Int)=0)=true:=ac5 (by omega);cases g:b.closed
  ·rw[g,acz (by simp)]at d;simp only[F1,go_sem,simprocAttr,Et,k,↓yE,g,↓Bd,a,MB,↓qB,d,e,zi]
  ·rw[g,acE rfl]at d;simp only[F1,go_sem,simprocAttr,Et,k,↓yE,g,↓Bd,a,MB,↓qB,d,e,zi]
 ·rw[acz l]at d;have a: ¬(b.n:Int)=0:=by omega
  have m:=i.n;have j: ∀H lo,D X0 (.fn (.func 306) [] []) [.agg (cA b),.int .i64 1] ⟨H,lo⟩=_:=Sz b i.fr 1 (by omega);have h:=i.fr;have f: (b.fr:Int)<4:=by omega
  have hm:=nW (b.ring b.fr);have c:=ae3 (b:=b) h;have o: ((b.n:Int)-1)=((b.n-1:Nat):Int):=by omega
  rw[hm]at c;simp(disch:=omega) only[F1,go_sem,simprocAttr,Et,k,↓Bd,↓ae4,a,MB,↓qB,j,↓c,f,o,apC,ae5,d,hm,zi];simp
def ash(b:cP)(H:List ae)(lo:oN):
  D X0 (.fn (.func 273) [] []) [.agg (cA b)] ⟨H,lo⟩=some (.ret (.av [.agg (cA (uE b).1),.int .i64 (uE b).2]) ⟨H,lo⟩):=by
 refine aH JL λN c=>?_
 have d:uE b=if b.closed then(b,11)else({b with closed:=true},0):=rfl
 cases a:b.closed
 ·simp only[F1,go_sem,simprocAttr,JL,c,↓yE,a,MB,↓qB,apD,d]
 ·simp only[F1,go_sem,simprocAttr,JL,c,↓yE,a,MB,↓qB,d]
def asi(b:cP)(N:Nat)(H:List ae)(c:H.length=N)(lo:oN):D X0 (.fn (.func 331) [] []) [.agg (cA b)] ⟨H,lo⟩=some (.ret (.fn (.func 337) [] [.ptr N 0]) ⟨H++[.box (cA b) none],lo⟩):=by
 refine aH QQ λM a=>?_
 obtain rfl:M=N:=by omega
 simp only[go_sem,simprocAttr,QQ,a];rw[Bu (by omega)]
def wU(b:cP):List lA:=(fS b).map λm=>[.agg (eo m)]
def SE(b:cP): (wU b).length=b.n:=by simp[wU,fS]
def ag8{j:Nat}(h:j<b.n): (wU b)[j]?=some [.agg (eo (b.ring (lr b j)))]:=by
 unfold wU fS
 grind
def asj(b:cP)(L:iR b)(a:Nat):s7 X0 (.fn (.func 337) [] [.ptr a 0]) a [.box (cA b) none] (wU b):=by
 intro S V y I J base M j A W s hP h0 vG g hG lo;have t: ∀i,V.dp i->i<base:=λi hi=>(j i hi).1
 suffices h: ∃x,D X0 (.fn (.func 337) [] [.ptr a 0]) [y] ⟨W,lo⟩=some x/\
   (λx=> ∃d f aj,x=aT.ret (.av []) ⟨f,aj⟩/\V.P d f/\ (I (wU b).length d\/J d)/\base<=f.length/\
     (∀i,i<base-> ¬V.dp i-> ¬(a<=i/\i<a+[ae.box (cA b) none].length)->f[i]?=W[i]?)/\kq V.c base lo aj none (V.row d)) x by
  obtain⟨x,h1,d,f,aj,rfl,Y,X,U,T,R⟩:=h;exact⟨d,f,aj,h1,Y,X,U,T,R⟩
 refine wE QT rfl rfl rfl λN hN=>?_
 obtain rfl:N=base:=by omega
 have E:W[a]?=some (.box (cA b) none):=hG 0 (by simp);have ha:=dM E;have B: ¬V.dp a:=λq=>(j a q).2 ⟨by omega,by simp⟩
 have Mc:=L.n;simp only[go_sem,simprocAttr,QT,E,↓Bd];refine iJ b.n (λk e f aj=> ∃d,I k d/\jR V N W (λi=>a<=i/\i<a+[ae.box (cA b) none].length) d f aj/\f[a]?=some (.box (cA b) none)/\e 0=y/\e 1= .ptr a 0/\e 5= .int .i64 b.n/\e 6= .int .i64 k) 0 (by omega) ?_ ?_
 ·simp only[go_sem,simprocAttr];exact⟨s,h0,⟨hP,by omega,λ_ _ _ _=>rfl,.inl ⟨rfl,g⟩,λr e=>by rw[g]at e;cases e⟩,E⟩
 rintro k hk e W1 z ⟨s1,O,p,w0,Q,e1,P,e6⟩ n hn;simp only[cg,go_sem,simprocAttr,aec,Q,e1,P,e6];refine⟨λh=>?_,λh=>?_⟩
 ·have u:k<b.n:=by omega
  have hx:=ag8 u;have v:=Sz b L.fr k (by omega);have C:=agH b k;have m: (lr b k:Int)<4:=by omega
  have l:=ae3 (b:=b) C;obtain⟨c,s2,W2,mm,K,p2,H,p4,Z,G⟩:=A k _ s1 hx O W1 p.P p.len z;have w:=p.step p2 H p4 Z;have R5:N<=n:=by have:=p.len;omega
  have v0:W2[a]?=some (.box (cA b) none):=by rw[H.2 a (by omega) B (λq=>by have:=p.row _ q;omega)];exact w0
  cases c
  ·obtain⟨F,o,f1,f2,f3,f4,f5⟩:=w.fin M t (dB:=lo);simp only[go_sem,simprocAttr,e1,w0,MB,v,m,↓l,K,f1];exact⟨s2,F,o,rfl,f2,.inr G,f3,f4,f5⟩
  ·simp(disch:=omega) only[go_sem,simprocAttr,Q,e1,P,e6,w0,MB,v,m,↓l,K];exact⟨u,s2,G,w,v0⟩
 ·obtain⟨F,o,f1,f2,f3,f4,f5⟩:=p.fin M t (dB:=lo);simp only[go_sem,simprocAttr,f1];exact⟨s1,F,o,rfl,f2,.inl (by rw[SE,show b.n=k by omega];exact O),f3,f4,f5⟩
def ag9{N id ai:Nat}{H:List ae}{ty:TypeId}{af:List lA}(e:N<=id)(c:H[id]?=some (.row ai sz ty af))(d:n=af.length)(a:bT af<=N):Den.freeze ⟨H,lo⟩ N (k+4) (.ref id ai sz 0 n true)=some (.sl af true):=by
 subst d;have b: ¬(AV.ref id ai sz 0 af.length true).refs<=N:=by simp only[AV.refs];omega
 rw[Den.freeze,acz b];simp only[c];rw[acE ⟨trivial,trivial,by omega⟩];simp only[aks,aeo];rw[Ny af a]
def asl(H:List ae)(lo:oN):D X0 (.fn (.func 332) [] []) [.an] ⟨H,lo⟩=some (.ret .an ⟨H,lo⟩):=by
 refine aH EB λN b=>?_
 have a:fZ 4 .an none (some (.int .i64 0)) (some (.int .i64 0))=some .an:=by rfl
 simp(disch:=omega) only[F1,go_sem,simprocAttr,EB,a]
def asm(id ai n:Nat)(H:List ae)(c:id<H.length)(lo:oN):D X0 (.fn (.func 332) [] []) [.ref id ai 4 0 n false] ⟨H,lo⟩=some (.ret (.ref id ai 4 0 n true) ⟨H,lo⟩):=by
 refine aH EB λN d=>?_
 have b:fZ 4 (.ref id ai 4 0 n false) none (some (.int .i64 (n:Nat))) (some (.int .i64 (n:Nat)))=some (.ref id ai 4 0 n true):=by simp[fZ,fY,k0,k5]
 have a: ∀E,fb E .sl (.ref id ai 4 0 n false)=some (.int .i64 n):=λE=>rfl
 simp only[go_sem,simprocAttr,EB,b,a];rw[iQ (.inl rfl) (by simp only[AV.refs];omega),ac4 (by omega)]
structure MSt where
 l:List j0
 row:oN
def mV(H:List ae)(N:Nat):YV MSt:=⟨λs W=>jb N H W/\SV (N+1) 4 C0 W s.row (s.l.map eo),MSt.row,λi=>i<N+2,N+1⟩
def asn{H:List ae}{N:Nat}: (mV H N).Ok where
 st:=λs W f ⟨e,c⟩ a=>by
  refine⟨λi b=>?_,c.st (a _ (.inl (asD _))) λi b=>a i (.inr b)⟩;have:i<N+2:=by omega
  rw[a i (.inl this)];exact e i b
 lt:=λs W r ⟨_,c⟩ d=>c.row d
def aso(b:cP)(hb:iR b)(H:List ae)(lo:oN):
  ∃w,D X0 (.fn (.func 311) [] []) [.agg (cA b)] ⟨H,lo⟩=some (.ret w ⟨H,lo⟩)/\Rv w 4 ((fS b).map eo)/\w.refs=0:=by
 suffices hs: ∃B,D X0 (.fn (.func 311) [] []) [.agg (cA b)] ⟨H,lo⟩=some B/\ (λB=> ∃w,B=aT.ret w ⟨H,lo⟩/\Rv w 4 ((fS b).map eo)/\w.refs=0) B by
  obtain⟨B,h1,w,rfl,h2⟩:=hs;exact⟨w,h1,h2⟩
 refine cH QD λN l=>?_
 have he:=asi b (N+2) (H++[.box (cA b) none,.box [.an] none]) (by simp[l]) none;have Mc:=hb.n;simp only[go_sem,simprocAttr,QD,l,he,↓qB];obtain⟨p,c⟩: ∃p,p=H++[ae.box (cA b) none,.box [.an] none,.box (cA b) none]:=⟨_,rfl⟩;rw[<-c];have A:p.length=N+3:=by rw[c];simp[l]
 generalize o: ((((((c9 _).set 1 _).set 2 _).set 3 _).set 5 _).set 6 _)=e;have E:e 3= .ptr (N+1) 0:=by rw[<-o];rfl
 have Z: (ao.t 6).get e= .fn (.func 337) [] [.ptr (N+2) 0]:=by rw[<-o];rfl
 clear o;refine NP (mV H N) asn (wU b) (N+2) [.box (cA b) none] p ⟨[],none⟩ (by rw[Z];rfl) (by rw[Z];exact asj b hb (N+2)) (λi a=>?_) (by simp[A]) (λi a=>?_) ⟨?_,?_⟩ rfl
  (λj s=>s.l=(fS b).take j) (λ_ _=>False) rfl (λ_ _ h=>h.elim) ?_ ?_ (λ_ _ _ _ h=>h.elim)
 ·have:i=0:=by simpa using a
  subst this;rw[c,aem,bE l];rfl
 ·have:i<N+2:=a;exact⟨by omega,by omega⟩
 ·rw[c];exact jb.app l
 ·exact .inl ⟨rfl,rfl,by rw[c,bE l];rfl⟩
 ·intro j y s L U;have hj:j<b.n:=by
   have:=(abQ.1 L).1;rwa[SE]at this
  have d:s.l=(fS b).take j:=U;have z: (fS b)[j]?=some (b.ring (lr b j)):=by unfold fS;rw[aeA,an8 hj];rfl
  rw[ag8 hj]at L;cases L;generalize b.ring (lr b j)=m at*;refine⟨rfl,λW hP vG=>?_⟩;obtain⟨n,hn⟩: ∃n,W.length=n:=⟨_,rfl⟩;have hm:=nW m;simp only[go_sem,simprocAttr,gT,hn,hm];refine⟨[.box (eo m) none],rfl,λC hW2 T=>?_⟩;obtain⟨F,r⟩:=T;have t:C.length=n:=by omega
  have f: ∀i,s.row=some i->N+1<i/\i<n:=by
   intro i a;rcases r with⟨q,_⟩| ⟨id,ai,q,_,J,E,q4⟩
   ·rw[q]at a;cases a
   ·rw[q]at a;cases a;exact⟨J,by have:=dM q4;omega⟩
  have M:SV (N+1) 4 C0 (C++[.box (eo m) none]) s.row (s.l.map eo):=r.st (by rw[abP (by omega)]) λi a=>by
   rw[abP (by have:=f i a;omega)]
  have vx:s.l.length<=4:=by rw[d,aeD];have: (fS b).length=b.n:=by simp[fS]
                            omega
  obtain⟨vv,v',W3,V,Y,a1,a2,a3,a4,a5,a6,a7⟩:=M.append (bytes:=24) (el:=eo m) (by simp;omega) (by omega) rfl rfl (by rw[aej];unfold room;omega) none;have G: (C++[ae.box (eo m) none]).length=n+1:=by simp[t]
  have u: (C++[ae.box (eo m) none])[n]?=some (.box (eo m) none):=by rw[<-t];simp
  rw[hm]at a1 a2 u⊢;simp only[go_sem,simprocAttr,aea,E,a1,a2,a3,u,CX];refine⟨⟨s.l++[m],Y⟩,⟨λi a=>?_,?_⟩,⟨by show C.length<=V.length;omega,λi a hp hr=>?_⟩,.inr ⟨N+1,aeg _,by omega,rfl,?_⟩,?_⟩
  ·show V[i]?=_;rw[a6 i (by omega) (by omega) (λq=>by have:=f i q;omega),abP (by omega)];exact F i a
  ·show SV (N+1) 4 C0 V Y ((s.l++[m]).map eo);rw[aeq];exact a4
  ·have nm: ¬i<N+2:=hp;rw[a6 i (by omega) (by omega) hr,abP a]
  ·rcases a7 with q| ⟨q,K,J⟩
   ·exact .inl q
   ·exact .inr ⟨q,K,by omega⟩
  ·show s.l++[m]=(fS b).take (j+1);rw[d,aex,z];rfl
 ·intro X W' aj U hP hl S oC Q;obtain⟨F,r⟩:=hP;have d:X.l=fS b:=by
   have:X.l=(fS b).take (wU b).length:=U;rw[this,SE];exact ac4 (by simp[fS])
  have g:dX N aj:=by
   rcases Q with⟨rfl,_⟩| ⟨q,K,J,rfl⟩
   ·exact .inl rfl
   ·exact .inr ⟨q,by have:N+1<=q:=K;omega,rfl⟩
  rw[d]at r;have h0:bT ((fS b).map eo)=0:=bp (λ_=>rfl) _;rcases r with⟨c1,c2,c3⟩| ⟨id,ai,c1,c2,c3,c4,I⟩
  ·simp only[go_sem,simprocAttr,E,c3,asl,S,mj];rw[iQ g (ac7 _)];refine⟨.an,de rfl ((F.set (by omega)).take l),by rw[aoq.1 c2];exact .an,rfl⟩
  ·have v:=asm id ai ((fS b).map eo).length W' (dM I);rw[aej]at v c4;have P:p.length≠id:=by rintro rfl;rw[S]at I;cases I
   simp only[go_sem,simprocAttr,E,c4,v,S,mj];have O: (W'.set p.length ae.dead)[id]?=some (.row ai 4 C0 ((fS b).map eo)):=by rw[abN P];exact I
   rw[s8 g (v':=.sl ((fS b).map eo) true) λk=>by rw[show k+12=(k+8)+4 by omega];exact ag9 (by omega) O (by simp) (by rw[h0];omega)];exact⟨_,de rfl ((F.set (by omega)).take l),.sl (by intro el R;obtain⟨x,_,rfl⟩:=ael.1 R;rfl),h0⟩
theorem asp:cA yM=[.int .u8 0,.int .u64 0,.int .u32 0,.bool false,.int .u8 0,.int .u64 0,.int .u32 0,.bool false,.int .u8 0,.int .u64 0,.int .u32 0,.bool false,.int .u8 0,.int .u64 0,.int .u32 0,.bool false,.int .i64 0,.int .i64 0,.bool true]:=rfl
def asq(b:cP)(d:iR b)(H:List ae)(lo:oN):
  ∃w,D X0 (.fn (.func 276) [] []) [.agg (cA b)] ⟨H,lo⟩=some (.ret (.av [.agg (cA yM),w]) ⟨H,lo⟩)/\Rv w 4 ((fS b).map eo)/\w.refs=0:=by
 obtain⟨w,e1,e,e3⟩:=aso b d (H++[.box (cA b) none,.box zB none]) none;refine⟨w,?_,e,e3⟩;refine aH Qm λM a=>?_
 have c:zB=[.int .u8 0,.int .u64 0,.int .u32 0,.bool false,.int .u8 0,.int .u64 0,.int .u32 0,.bool false,.int .u8 0,.int .u64 0,.int .u32 0,.bool false,.int .u8 0,.int .u64 0,.int .u32 0,.bool false,.int .i64 0,.int .i64 0,.bool false]:=rfl;rw[c]at e1;simp only[go_sem,simprocAttr,Qm,a,↓qB,e1];rw[wO (by simp[AV.refs,aI,e3]),lh a,asp]
def wV:oz:=λg=>if g=308 then some wa else if g=115 then some v7 else none
noncomputable def BF:lA->AS->Option aT:=vD X (D X) Lw wV 307 qz
noncomputable def BG:lA->AS->Option aT:=vD X (D X) Lw wV 275 v9
noncomputable def XA:Ctx:={X with bU:=λf=>if f=307 then some BF else if f=275 then some BG else X.bU f}
theorem CO:Ext X XA where
 dy:=rfl
 fG:=rfl
 code:=rfl
 bU:=λf=>by
  by_cases b:f=307
  ·subst b;exact .inr ⟨rfl,rfl⟩
  ·by_cases a:f=275
   ·subst a;exact .inr ⟨rfl,rfl⟩
   ·left;show(if f=307 then some BF else if f=275 then some BG else X.bU f)=X.bU f
    grind
def BH(e:Int)(H:List ae)(lo:oN):D X (.fn (.func 310) [] []) [.bool true,.int .i64 e] ⟨H,lo⟩=some (.ret (.av []) ⟨H,lo⟩):=by
 refine aH Ez λN a=>?_
 simp(disch:=omega) only[F1,go_sem,simprocAttr,Ez]
def BI(e:Nat)(H:List ae)(lo:oN):D X (.fn (.func 310) [] []) [.bool false,.int .i64 e] ⟨H,lo⟩=some (.panic (iS e) ⟨H,lo⟩):=by
 refine aH Ez λN a=>?_
 simp(disch:=omega) only[F1,go_sem,simprocAttr,Ez,EP]
theorem ahb:dA .c8 .eC .eC=some true:=rfl
theorem ahc{t:TypeId}:dA .c8 (.c8 t v) .eC=some false:=rfl
theorem ahd{z:AV}{t:TypeId}:zF z (.c8 t v) t true=some (.av [v,.bool true]):=acE rfl
def KG{K:AS->Prop}{H:List ae}(h:K ⟨H,lo⟩):qe X wV (cf 308|>.get λ_=>.an) [.ptr p 0] .eC ⟨H,lo⟩ K:=by
 refine Hf (pr:=wa) rfl rfl λn a=>?_
 simp(disch:=omega) only[F1,go_sem,simprocAttr,wa,ahb];exact⟨.inl trivial,.av [],rfl,by trivial⟩
def uR{K:AS->Prop}{H:List ae}{v0:AV}(e:Nat)(a:H[p]?=some (.box [v0] none))(h:K ⟨H.set p (.box [.int .i64 e] none),lo⟩):qe X wV (cf 308|>.get λ_=>.an) [.ptr p 0] (iS e) ⟨H,lo⟩ K:=by
 refine Hf (pr:=wa) rfl rfl λn b=>?_
 simp only[F1,go_sem,simprocAttr,wa,ahc,a,ahd];refine⟨.inl trivial,.av [],rfl,?_⟩;rw[acE (show(AV.av []).refs<=n from ac7 _),ac4 (by grind)];exact h
def ahe(t:aw)(d:bL t)(r:Nat)(e:r<4294967296)(i:t.az r=true)(c:Nat)(j:c<8)(H:List ae)(lo:oN):
  D X (.fn (.func 309) [] []) [.agg (aK t),.int .u32 r,.int .i64 c] ⟨H,lo⟩=some (.ret (.agg (bR (aL t r).1)) ⟨H,lo⟩):=by
 refine aH yw λN f=>?_
 have a:=λH lo=>up dj (uJ t d r e H lo)
 have b: (aL t r).2=0:=by unfold aL;grind
 have h: (c:Int)>=0:=by omega
 have g: (c:Int)<8:=by omega
 simp only[F1,go_sem,simprocAttr,yw,f,a,m0,b,kb,BH,h,g]
def ahf(t:aw)(d:bL t)(r:Nat)(e:r<4294967296)(j:t.az r=true)(c:Nat)(k:8<=c)(H:List ae)(lo:oN):
  D X (.fn (.func 309) [] []) [.agg (aK t),.int .u32 r,.int .i64 c] ⟨H,lo⟩=some (.panic (iS 2) ⟨H,lo⟩):=by
 refine aH yw λN g=>?_
 have a:=λH lo=>up dj (uJ t d r e H lo)
 have b: (aL t r).2=0:=by unfold aL;grind
 have i: (c:Int)>=0:=by omega
 have h: ¬(c:Int)<8:=by omega
 have f: ∀H lo,D X (.fn (.func 310) [] []) [.bool false,.int .i64 2] ⟨H,lo⟩=_:=BI 2;simp only[F1,go_sem,simprocAttr,yw,g,a,m0,b,kb,BH,f,i,h,EP]
def asr(t:aw)(d:bL t)(r:Nat)(e:r<4294967296)(h:t.az r=false)(c:Nat)(H:List ae)(lo:oN):
  D X (.fn (.func 309) [] []) [.agg (aK t),.int .u32 r,.int .i64 c] ⟨H,lo⟩=some (.panic (iS 4) ⟨H,lo⟩):=by
 refine aH yw λN g=>?_
 have a:=λH lo=>up dj (uJ t d r e H lo)
 have b: (aL t r).2=4:=by unfold aL;grind
 have f: ∀H lo,D X (.fn (.func 310) [] []) [.bool false,.int .i64 4] ⟨H,lo⟩=_:=BI 4;simp only[F1,go_sem,simprocAttr,yw,g,a,m0,b,kb,f,EP]
def sD(t:aw)(r a to:Nat)(b:Bool):Nat:=
 if t.az r=false\/ (to≠0/\t.az to=false)then 4 else if 8<=a then 2 else if to≠0/\b=false/\j7 t to r=false then 5
 else(fD t r {(aL t r).1 with cells:=aq (aL t r).1.cells a to}).2
def ass{r:df}{v:Nat}(h:i<8):aM (bR r) (4+i) [.int .u32 (v:Nat)]=bR {r with cells:=aq r.cells i v}:=aeX h
def ast(t:aw)(A:bL t)(U:cp t)(r a to:Nat)(b:Bool)(E:r<4294967296)(s:to<4294967296)(T:a<4294967296)(H:List ae)(lo:oN):
  ∃cs,BF [.agg (aK t),.int .u32 r,.int .i64 a,.int .u32 to,.bool b] ⟨H,lo⟩=some (.ret (.av [.agg cs,.int .i64 (sD t r a to b)]) ⟨H,lo⟩)/\cs.length=480/\aI cs=0/\
   (sD t r a to b=0->cs=aK (fD t r {(aL t r).1 with cells:=aq (aL t r).1.cells a to}).1):=by
 suffices R: ∃I,BF [.agg (aK t),.int .u32 r,.int .i64 a,.int .u32 to,.bool b] ⟨H,lo⟩=some I/\ (λI=> ∃cs,I=aT.ret (.av [.agg cs,.int .i64 (sD t r a to b)]) ⟨H,lo⟩/\cs.length=480/\aI cs=0/\
   (sD t r a to b=0->cs=aK (fD t r {(aL t r).1 with cells:=aq (aL t r).1.cells a to}).1)) I by
  obtain⟨I,p,cs,rfl,V⟩:=R;exact⟨cs,p,V⟩
 refine ND qz rfl rfl λN j=>?_
 have c:=λH lo=>up dj (ew t.b r E H lo)
 have d:=λH lo=>up dj (ew t.b to s H lo)
 have L: ∀h,az t.b h=t.az h:=λh=>rfl
 simp only[L]at c d;have m:=λH lo=>up dj (Sj t A U to r s E H lo)
 have F: ∀H lo,D X (.fn (.func 310) [] []) [.bool false,.int .i64 4] ⟨H,lo⟩=_:=BI 4;have O: ∀H lo,D X (.fn (.func 310) [] []) [.bool false,.int .i64 5] ⟨H,lo⟩=_:=BI 5;have z:aI ku=0:=by decide
 have f:sD t r a to b=if t.az r=false\/ (to≠0/\t.az to=false)then 4 else if 8<=a then 2 else if to≠0/\b=false/\j7 t to r=false then 5
  else(fD t r {(aL t r).1 with cells:=aq (aL t r).1.cells a to}).2:=rfl
 cases y:t.az r with
 |false=>
  rw[y]at c;rw[acE (.inl y)]at f;simp(disch:=omega) only[go_sem,simprocAttr,qz,j,jQ,jP,c,F];refine⟨rfl,?_⟩;rw[nw];refine uR 4 (v0:=.int .i64 0) (by rw[bE j];rfl) ?_;simp(disch:=omega) only[F1,go_sem,simprocAttr,cR];rw[f];exact⟨_,rfl,Br,z,λh=>by cases h⟩
 |true=>
  rw[y]at c;have K:to=0\/ (¬(to:Int)=0/\t.az to=true)\/ (¬(to:Int)=0/\t.az to=false):=by
   by_cases n:to=0
   ·exact .inl n
   ·cases W:t.az to
    ·exact .inr (.inr ⟨by omega,rfl⟩)
    ·exact .inr (.inl ⟨by omega,rfl⟩)
  by_cases J:to≠0/\t.az to=false
  ·rw[acE (.inr J)]at f;rw[J.2]at d;have n: ¬(to:Int)=0:=by omega
   simp(disch:=omega) only[go_sem,simprocAttr,qz,j,jQ,jP,c,n,d,F];refine⟨rfl,?_⟩;rw[nw];refine uR 4 (v0:=.int .i64 0) (by rw[bE j];rfl) ?_;simp(disch:=omega) only[F1,go_sem,simprocAttr,cR];rw[f];exact⟨_,rfl,Br,z,λh=>by cases h⟩
  ·rw[acz (by rw[y];simpa using J)]at f;have p: ∀H lo,D X (.fn (.func 310) [] []) [.bool true,.int .i64 4] ⟨H,lo⟩=_:=BH 4;have o:to=0\/ (¬(to:Int)=0/\t.az to=true):=by
    rcases K with h|h|h
    ·exact .inl h
    ·exact .inr h
    ·exact absurd ⟨by omega,h.2⟩ J
   by_cases P:8<=a
   ·rw[acE P]at f;have g:=ahf t A r E y a P;rcases o with rfl| ⟨n,M⟩
    ·simp(disch:=omega) only[go_sem,simprocAttr,qz,j,jQ,jP,c,p,g];refine⟨rfl,?_⟩;rw[nw];refine uR 2 (v0:=.int .i64 0) (by rw[bE j];rfl) ?_;simp(disch:=omega) only[F1,go_sem,simprocAttr,cR];rw[f];exact⟨_,rfl,Br,z,λh=>by cases h⟩
    ·rw[M]at d;simp(disch:=omega) only[go_sem,simprocAttr,qz,j,jQ,jP,c,n,d,p,g];refine⟨rfl,?_⟩;rw[nw];refine uR 2 (v0:=.int .i64 0) (by rw[bE j];rfl) ?_;simp(disch:=omega) only[F1,go_sem,simprocAttr,cR];rw[f];exact⟨_,rfl,Br,z,λh=>by cases h⟩
   ·rw[acz P]at f;have G:a<8:=by omega
    have l: (a:Int)<8:=by omega
    have g:=ahe t A r E y a G;have Q: ∀H lo,D X (.fn (.func 310) [] []) [.bool true,.int .i64 5] ⟨H,lo⟩=_:=BH 5;have C:=A.get r;generalize S: (aL t r).1=x at*;have q:fR {x with cells:=aq x.cells a to}:=fR.setCells C λi=>by
     by_cases e:i=a
     ·rw[e,cu];exact s
     ·rw[cy e];exact C.cells i
    have k:=λH lo=>up dj (Sk t A r E {x with cells:=aq x.cells a to} q.rb.1 (by have:=q.rb.2;show x.runs.length<=65;exact afI this (by omega)) (by have:=q.len;show x.len<4294967296;have:x.len<=2048:=this;omega) H lo)
    have u:=ass (r:=x) (v:=to) G;have w:4+a<=11:=by omega
    rcases o with rfl| ⟨n,M⟩
    ·rw[acz (by simp)]at f;have B:aM (bR x) (4+a) [.int .u32 0]=bR {x with cells:=aq x.cells a 0}:=u;simp(disch:=omega) only[go_sem,simprocAttr,qz,j,jQ,jP,c,p,g,kb,Q,l,B,w,k,sy,cR];refine⟨rfl,?_⟩;rw[CW];refine KG ?_;simp(disch:=omega) only[F1,go_sem,simprocAttr];rw[f];exact⟨_,rfl,iv _,wj _,λ_=>rfl⟩
    ·rw[M]at d;cases b with
     |true=>
      rw[acz (by simp)]at f;simp(disch:=omega) only[go_sem,simprocAttr,qz,j,jQ,jP,c,n,d,p,g,kb,Q,l,u,w,k,sy,cR];refine⟨rfl,?_⟩;rw[CW];refine KG ?_;simp(disch:=omega) only[F1,go_sem,simprocAttr];rw[f];exact⟨_,rfl,iv _,wj _,λ_=>rfl⟩
     |false=>
      cases ho:j7 t to r with
      |true=>
       rw[ho]at m f;rw[acz (by simp)]at f;simp(disch:=omega) only[go_sem,simprocAttr,qz,j,jQ,jP,c,n,d,p,g,kb,Q,m,l,u,w,k,sy,cR];refine⟨rfl,?_⟩;rw[CW];refine KG ?_;simp(disch:=omega) only[F1,go_sem,simprocAttr];rw[f];exact⟨_,rfl,iv _,wj _,λ_=>rfl⟩
      |false=>
       rw[ho]at m f;rw[acE ⟨by omega,rfl,rfl⟩]at f;simp(disch:=omega) only[go_sem,simprocAttr,qz,j,jQ,jP,c,n,d,p,g,kb,O,m];refine⟨rfl,?_⟩;rw[nw];refine uR 5 (v0:=.int .i64 0) (by rw[bE j];rfl) ?_;simp(disch:=omega) only[F1,go_sem,simprocAttr,cR];rw[f];exact⟨_,rfl,Br,z,λh=>by cases h⟩
def E7{X:Ctx}{e:Env}{E:AS}{R:aT->Prop}{b:Nat}{c:Bool}:dE X n lo [.t a,.cell b c k] R .ret ⟨e,[]⟩ E=okV (bW X E c k (e b)) (λu E=>nv n lo R (.av [e a,u]) E) E:=by
 simp only[xP,xR,fA,jO,oq];cases h:bW X E c k (e b)with
 |none=>simp[okV,h]
 |some v=>simp[okV,nv,h]
def asu(t:aw)(s:bL t)(r a:Nat)(v:r<4294967296)(F:a<4294967296)(H:List ae)(lo:oN):
  BG [.agg (aK t),.int .u32 r,.int .i64 a] ⟨H,lo⟩=some (.ret (.av [.int .u32 (si t r a).1,.int .i64 (si t r a).2]) ⟨H,lo⟩):=by
 suffices G: ∃E,BG [.agg (aK t),.int .u32 r,.int .i64 a] ⟨H,lo⟩=some E/\E=aT.ret (.av [.int .u32 (si t r a).1,.int .i64 (si t r a).2]) ⟨H,lo⟩ by grind
 refine ND v9 rfl rfl λN g=>?_
 have c:si t r a=if t.az r=false then(0,4)else if 8<=a then(0,2)else if(aL t r).1.cells a=0 then(0,10)else if t.az ((aL t r).1.cells a)=false then(0,4)else((aL t r).1.cells a,0):=rfl
 cases q:t.az r with
 |false=>
  rw[acE q]at c;have b:=asr t s r v q a;simp only[go_sem,simprocAttr,v9,g,jQ,jP,b];refine⟨rfl,?_⟩;rw[nw];refine uR 4 (v0:=.int .i64 0) (by rw[bE g];rfl) ?_;simp(disch:=omega) only[F1,go_sem,simprocAttr,c,E7]
 |true=>
  rw[acz (by rw[q];simp)]at c;by_cases z:8<=a
  ·rw[acE z]at c;have b:=ahf t s r v q a z;simp only[go_sem,simprocAttr,v9,g,jQ,jP,b];refine⟨rfl,?_⟩;rw[nw];refine uR 2 (v0:=.int .i64 0) (by rw[bE g];rfl) ?_;simp(disch:=omega) only[F1,go_sem,simprocAttr,c,E7]
  ·rw[acz z]at c;have l:a<8:=by omega
   have B: (a:Int)<8:=by omega
   have b:=ahe t s r v q a l;have u:=s.get r;generalize(aL t r).1=x at*;have hw:=u.cells a;have d:pM false 8 1 (.agg (arr 8 λi=>[AV.int .u32 (x.cells i)])) (.int .i64 a)=some (.int .u32 (x.cells a)):=
    Q8 l (by have:=kI (ag:=false) (m:=1) (n:=8) (k:=1) (i:=a) (o:=0) (f:=λi=>[AV.int .u32 (x.cells i)]) (λ_=>rfl) l (by omega) (by omega);rw[aem]at this;rw[this];rfl)
   have p: ∀H lo,D X (.fn (.func 310) [] []) [.bool false,.int .i64 10] ⟨H,lo⟩=_:=BI 10;have y: ∀H lo,D X (.fn (.func 310) [] []) [.bool false,.int .i64 4] ⟨H,lo⟩=_:=BI 4;have e:=λH lo=>up dj (ew t.b (x.cells a) hw H lo)
   have w: ∀h,az t.b h=t.az h:=λh=>rfl
   simp only[w]at e;by_cases A:x.cells a=0
   ·rw[acE A]at c;have j:decide ((x.cells a:Int)=0)=true:=by simp[A]
    simp only[go_sem,simprocAttr,v9,g,jQ,jP,b,↓J3,d,j,p];refine⟨rfl,?_⟩;rw[nw];refine uR 10 (v0:=.int .i64 0) (by rw[bE g];rfl) ?_;simp(disch:=omega) only[F1,go_sem,simprocAttr,c,E7]
   ·rw[acz A]at c;have j:decide ((x.cells a:Int)=0)=false:=by simp;omega
    cases C:t.az (x.cells a)with
    |false=>
     rw[C]at e c;rw[acE rfl]at c;simp only[go_sem,simprocAttr,v9,g,jQ,jP,b,↓J3,d,j,e,BH,y];refine⟨rfl,?_⟩;rw[nw];refine uR 4 (v0:=.int .i64 0) (by rw[bE g];rfl) ?_;simp(disch:=omega) only[F1,go_sem,simprocAttr,c,E7]
    |true=>
     rw[C]at e c;rw[acz (by simp)]at c;simp only[go_sem,simprocAttr,v9,g,jQ,jP,b,↓J3,d,j,e,BH];refine⟨rfl,?_⟩;rw[CW];refine KG ?_;simp(disch:=omega) only[F1,go_sem,simprocAttr,c,E7]
theorem asv{args:lA}{E:AS}{a:AS}(h:BF args E=some (.ret v a)):D XA (.fn (.func 307) [] []) args E=some (.ret v a):=CV rfl h
def ahg(t:aw)(r a to:Nat)(b:Bool):mW t r a to b=if sD t r a to b=0 then((fD t r {(aL t r).1 with cells:=aq (aL t r).1.cells a to}).1,0)else(t,sD t r a to b):=by
 unfold mW sD
 grind
def asw(t:aw)(l:bL t)(p:cp t)(r a to:Nat)(b:Bool)(m:r<4294967296)(e:to<4294967296)(i:a<4294967296)(H:List ae)(lo:oN):
  D XA (.fn (.func 274) [] []) [.agg (aK t),.int .u32 r,.int .i64 a,.int .u32 to,.bool b] ⟨H,lo⟩=some (.ret (.av [.agg (aK (mW t r a to b).1),.int .i64 (mW t r a to b).2]) ⟨H,lo⟩):=by
 refine aH JM λN k=>?_
 obtain⟨cs,q,n,f,o⟩:=ast t l p r a to b m e i (H++[.box (aK t) none,.box ku none]) none;have g:=asv q;have d:=ahg t r a to b;by_cases c:sD t r a to b=0
 ·rw[acE c]at d;have h:=o c;subst h;rw[c]at g;simp only[F1,go_sem,simprocAttr,JM,k,g,cR,d]
 ·rw[acz c]at d;have j:decide ((sD t r a to b:Int)=0)=false:=by simp;omega
  simp only[F1,go_sem,simprocAttr,JM,k,g,j,n,f,cR,d]
def ahh{a:aw}(b:cp t)(h: ∀x,bH a x=bH t x\/bH a x=0):cp a:=by
 have key: ∀n x,(eu a n x).length<=(aS t x).length:=by
  intro n
  induction n with
  |zero=>simp[eu]
  |succ n c=>
   intro x;simp only[eu];by_cases hu:bH a x=0
   ·grind
   ·rw[acz hu];have e:bH a x=bH t x:=(h x).resolve_right hu;rw[e]at hu⊢;rw[sh b,acz hu,aep,aep]
    grind
 intro x;have:=key 32 x;have:=b x;unfold aS at*;omega
theorem ahi(t:aw): ∀n x,(eu t n x).length<=(eu t (n+1) x).length
 |0,_=>by simp[eu]
 |n+1,x=>by
  rw[eu,eu];by_cases hu:bH t x=0
  ·grind
  ·rw[acz hu,acz hu,aep,aep];exact Nat.succ_le_succ (ahi t n _)
def m8(b:cM)(h:Nat):Prop:= ∀i,eF h=some i->h/256< (b i).gen\/ (h/256=(b i).gen/\mO b i=false)
def BJ(b:cM):m8 b 0:=λi e=>by trivial
def SF{b:cM}{h:Nat}(a:az b h=true):m8 b h:=by
 intro i e;unfold az at a;rw[e]at a;have:=aoR a
 right;rw[this];exact⟨rfl,by unfold mO;grind⟩
def KH{b:cM}{h:Nat}(ho:m8 b h):m8 (aq b i {b i with eJ:=true}) h:=by
 intro j e;by_cases q:j=i
 ·subst q;rcases ho j e with a| ⟨a,c⟩
  ·left;rw[cu];exact a
  ·unfold mO;rw[cu];grind
 ·unfold mO at*;rw[cy q];exact ho j e
def ahj{b:cM}{h y:Nat}(ho:m8 b h):m8 (ep b y).1 h:=by
 unfold ep;split
 ·show m8 (aq b (aO y) _) h;intro j e;by_cases q:j=aO y
  ·subst q;unfold mO;rw[cu];unfold qD;have a:=ho _ e
   grind
  ·unfold mO at*;rw[cy q];exact ho j e
 omega
def SG{b:cM}{h:Nat}(a:mP b=some i)(d:gO b):az (aq b i {b i with eJ:=true}) h=true↔az b h=true\/h=c7 i (b i).gen:=by
 obtain⟨i1,i2,i3,_⟩:=sg a;have c:az (aq b i {b i with eJ:=true}) (c7 i (b i).gen)=true:=by grind [Ru,Rw,cu]
 constructor
 ·grind [kO,cu,Rs,cy]
 ·grind [kO,cy]
theorem SH{b:cM}{y h:Nat}(c:az (ep b y).1 h=true):az b h=true:=by
 unfold ep at c;split at c
 ·obtain⟨j,e,a⟩:=kO.1 c;have a:aq b (aO y) (qD (b (aO y))) j=_:=a;by_cases q:j=aO y
  ·subst q;rw[cu]at a;unfold qD at a
   grind
  ·grind [cy,kO]
 omega
def E8{b:cM}(a:mP b=some i)(c:gO b):az b (c7 i (b i).gen)=false:=by grind [Ru,sg]
def ahk{b:cM}(c:mP b=some i)(d:gO b): ¬m8 b (c7 i (b i).gen):=by
 obtain⟨i1,i2,i3,_⟩:=sg c;intro h;have f:az (aq b i {b i with eJ:=true}) (c7 i (b i).gen)=true:=(SG c d).2 (.inr rfl);obtain⟨j,e,a⟩:=kO.1 f;have q:j=i:=alO λq=>by
  rw[cy q]at a;have:=E8 c d;rw[kO.2 ⟨j,e,a⟩]at this;grind
 subst q;rw[cu]at a;injection a with l
 rcases h j e with k| ⟨_,g⟩
 ·omega
 ·unfold mO at g;grind
def asx(t:aw):Prop:= ∀i,m8 t.b (t.r i).up
structure ez(t:aw):Prop where
 ok:bL t
 tr:cp t
 up:asx t
def ez.same{a:aw}(h:ez t)(b:iE t a)(c:bL a):ez a:=⟨c,b.tree h.tr,λi=>by rw[b.1,b.2];exact h.up i⟩
theorem ez.set(h:ez t){r:df}(b:fR r):ez (fD t a r).1:=h.same (.set t a r) (h.ok.set b)
theorem ez.drop(h:ez t)(y:Nat):ez (kM t y).1:=by
 refine⟨h.ok.drop y,ahh h.tr λx=>?_,λi=>?_⟩
 ·unfold kM;split
  ·have a: ∀x,az (ep t.b y).1 x=true->t.az x=true:=λx=>SH
   unfold bH;by_cases q:aw.az {b:=(ep t.b y).1,r:=aq t.r (aO y) dG} x=true
   ·rw[acE q,acE (a x q)];unfold j6;by_cases e:aO x=aO y
    ·right
     show(if _ then(aq t.r (aO y) dG (aO x)).up else 0)=0;rw[e,cu];split<;>rfl
    ·show(if aw.az _ (aq t.r (aO y) dG (aO x)).up=true then(aq t.r (aO y) dG (aO x)).up else 0)=_\/ (if aw.az _ (aq t.r (aO y) dG (aO x)).up=true then(aq t.r (aO y) dG (aO x)).up else 0)=0;rw[cy e];by_cases c:aw.az {b:=(ep t.b y).1,r:=aq t.r (aO y) dG} (t.r (aO x)).up=true
     ·rw[acE c,acE (a _ c)];omega
     grind
   grind
  grind
 ·unfold kM;split
  ·show m8 (ep t.b y).1 (aq t.r (aO y) dG i).up;by_cases e:i=aO y
   ·rw[e,cu];exact BJ _
   ·rw[cy e];exact ahj (h.up i)
  ·exact h.up i
theorem ez.kc{t:aw}(h:ez t): ∀l,ez (kc t l)
 | []=>h
 |x::xs=>ez.kc (h.drop x) xs
def ez.asy(h:ez t)(a:Nat):ez (lq t a).1:=by
 unfold lq;split
 ·exact h
 ·exact h.kc _
def ez.asz(h:ez t)(a:Nat):ez (lp t a 0).1:=by
 refine⟨h.ok.raise (by omega),ahh h.tr λx=>?_,λi=>?_⟩
 ·unfold lp;split
  ·simp
  ·split
   ·simp
   ·unfold bH;have b: ∀r z,aw.az {t with r:=r} z=t.az z:=λ_ _=>rfl
    simp only[b];split
    ·unfold j6;simp only[b];by_cases e:aO x=aO a
     ·rw[e,cu];grind
     ·rw[cy e];omega
    omega
 ·unfold lp;split
  ·exact h.up i
  ·split
   ·omega
   ·show m8 t.b (aq t.r (aO a) {t.r (aO a)with up:=0} i).up;by_cases e:i=aO a
    ·rw[e,cu];exact BJ _
    ·rw[cy e];exact h.up i
def ez.cut(h:ez t)(a:Nat):ez (jf t a).1:=by
 rw[Sp];split
 ·exact h
 ·exact(h.same (So t a _ t) (Sn h.ok a _)).asz a
def ez.new(h:ez t)(up n:Nat)(J:up<4294967296):ez (hY t up n).1:=by
 unfold hY;dsimp only;split
 ·exact h
 ·rename_i l;unfold ln at l⊢;split
  ·exact h
  ·rename_i N;rw[acz N]at l;split
   ·exact h
   ·rename_i M;rw[acz M]at l;split
    ·rename_i i g;rw[g]at l;have l: ¬6<=depth t up:=λq=>l ⟨.inl rfl,q⟩
     obtain⟨i1,i2,i3,_⟩:=sg g;have s:=h.ok.b;have d:up=0\/t.az up=true:=by grind
     have a: ∀z,aw.az {b:=aq t.b i {t.b i with eJ:=true},r:=aq t.r i {dG with up:=up,du:=n}} z=true↔t.az z=true\/z=c7 i (t.b i).gen:=λz=>SG g s
     have D: ∀z,t.az z=true->aO z≠i:=by
      intro z p q;obtain⟨_,u,_⟩:=Bf p;rw[q]at u;rw[u]at i2;cases i2
     generalize m: ({b:=aq t.b i {t.b i with eJ:=true},r:=aq t.r i {dG with up:=up,du:=n}}:aw)=f at*;have o: ∀j,(f.r j).up=if j=i then up else(t.r j).up:=by
      intro j;rw[<-m];show(aq t.r i _ j).up=_;by_cases e:j=i
      ·rw[e,cu,acE rfl]
      ·rw[cy e,acz e]
     have w:f.b=aq t.b i {t.b i with eJ:=true}:=by rw[<-m]
     have C:aO (c7 i (t.b i).gen)=i:=by
      have:f.az (c7 i (t.b i).gen)=true:=(a _).2 (.inr rfl);have v:=this;unfold aw.az at v;obtain⟨j,e,G⟩:=kO.1 v;rw[EI e];refine alO λq=>?_
      rw[w,cy q]at G;have:=E8 g s;rw[kO.2 ⟨j,e,G⟩]at this;cases this
     have hold: ∀z,m8 t.b z->(f.az z=true↔t.az z=true):=λz p=>⟨λq=>by
      rcases(a z).1 q with q|q
      ·exact q
      ·rw[q]at p;exact absurd p (ahk g s),λq=>(a z).2 (.inl q)⟩
     have B: ∀x,x≠c7 i (t.b i).gen->bH f x=bH t x:=by
      intro x B;have e1: (f.az x=true)=(t.az x=true):=propext ⟨λq=>((a x).1 q).resolve_right B,λq=>(a x).2 (.inl q)⟩;unfold bH;simp only[e1];split
      ·rename_i F;unfold j6;rw[o,acz (D x F)];simp only[propext (hold _ (h.up (aO x)))]
      ·rfl
     have K:bH f (c7 i (t.b i).gen)=up:=by
      unfold bH;rw[acE ((a _).2 (.inr rfl))];unfold j6;rw[o,acE C];rcases d with q|q
      ·rw[q];split<;>rfl
      ·rw[acE ((a _).2 (.inl q))]
     have E: ∀x,bH t x≠c7 i (t.b i).gen:=by
      intro x q;have p:bH t x≠0:=by rw[q];unfold c7;omega
      have:=(EM p).1;rw[q]at this;have c:=E8 g s;unfold aw.az at this;rw[this]at c;cases c
     have y: ∀k x,x≠c7 i (t.b i).gen->eu f k x=eu t k x:=by
      intro k
      induction k with
      |zero=>intro x _;rfl
      |succ k I=>
       intro x A;simp only[eu,B x A];rw[I _ (E x)]
     refine⟨?_,?_,?_⟩
     ·rw[<-m];refine⟨Rw s g,λj=>?_⟩;show fR (aq t.r i _ j);by_cases e:j=i
      ·rw[e,cu];exact⟨J,by show n<=64;omega,By.len,By.cells,By.runs,By.aU⟩
      ·rw[cy e];exact h.ok.r j
     ·intro x;by_cases e:x=c7 i (t.b i).gen
      ·rw[e];unfold aS;rw[show(32:Nat)=31+1 from rfl,eu,K];by_cases q:up=0
       ·rw[acE q];simp
       ·rw[acz q,y 31 up (λH=>by
          have:=d.resolve_left q;rw[H]at this;have c:=E8 g s;unfold aw.az at this;rw[this]at c;cases c)]
        have F:=d.resolve_left q;unfold depth at l;rw[acE F]at l;have L:=h.tr up;have:eu t 31 up=aS t up:=(Rx 31 up (by
         have: (eu t 31 up).length<=(eu t 32 up).length:=ahi t 31 up;unfold aS at L;omega) 32 (by omega)).symm
        rw[this,aep];omega
      ·unfold aS;rw[y 32 x e];exact h.tr x
     ·intro j;rw[o,w];by_cases e:j=i
      ·rw[acE e];rcases d with q|q
       ·rw[q];exact BJ _
       ·exact KH (SF q)
      ·rw[acz e];exact KH (h.up j)
    omega
theorem BK(b:cp t){x:Nat}(a:bH t x≠0):aS t x=bH t x::aS t (bH t x):=by rw[sh b,acz a]
def KI(c:cp t){h:Nat}: ∀ (n x:Nat),dep t x<=n->h∈aS t x->dep t h<dep t x:=by
 intro n
 induction n with
 |zero=>intro x b a;unfold dep at b;grind
 |succ n d=>
  intro x b a;by_cases hu:bH t x=0
  ·rw[sh c,acE hu]at a;cases a
  ·grind [Bg,BK]
def asA(d:cp t){h:Nat}: ∀ (n x:Nat),dep t x<=n->h∈aS t x-> ∃c,bH t c=h/\h≠0/\t.az c=true/\ (c=x\/c∈aS t x):=by
 intro n
 induction n with
 |zero=>intro x b a;unfold dep at b;grind
 |succ n e=>
  intro x b a;by_cases hu:bH t x=0
  ·rw[sh d,acE hu]at a;cases a
  ·grind [Bg,BK,EM]
def ahl(a:cp t)(x:Nat):x∈dw t x:=by rw[Rz a];grind
def asB(i:gO t.b)(a:cp t){x:Nat}: ∀ (n h:Nat),dep t x-dep t h<=n->h∈aS t x->x∈dw t h:=by
 intro n
 induction n with
 |zero=>intro h f b;have:=KI a _ x (aeg _) b;omega
 |succ n k=>
  intro h f b;obtain⟨c,l,c0,j,e⟩:=asA a _ x (aeg _) b;have d:c∈kids t h:=by
   have g:t.az h=true:=by grind [EM]
   unfold kids;rw[acE g];exact aey.2 ⟨(jg i).2 j,by grind⟩
  rw[Rz a];refine aew _ (aoa.2 ⟨c,d,?_⟩);rcases e with rfl|e
  ·exact ahl a c
  ·have:=Bh a d
   grind
theorem ahm{α:Type}{f:α->Nat}: ∀ (l:List α) (s:Nat),s<=l.foldl (λn x=>max n (f x)) s/\ ∀x∈l,f x<=l.foldl (λn x=>max n (f x)) s
 | [],s=>⟨aeg _,by simp⟩
 |a::l,s=>by
  have h:=ahm (f:=f) l (max s (f a))
  grind
theorem SI{b:cM}{x y:Nat}(c:az b x=true)(a:az b y=true)(e:aO x=aO y):x=y:=by
 obtain⟨_,h,g⟩:=Bf c;obtain⟨_,f,d⟩:=Bf a
 grind
def ez.asC(h:ez t)(a w:Nat)(J:w<4294967296):ez (uD t a w).1:=by
 unfold uD;split
 ·exact h
 ·rename_i N;split
  ·exact h
  ·rename_i G;split
   ·exact h
   ·rename_i M;have c:t.az a=true:=by grind
    have g:t.az w=true:=by grind
    have d:root t a=a:=alO λq=>G (.inl q)
    have B: ¬j7 t a w=true:=λq=>G (.inr q)
    have s:a≠w/\a∉aS t w:=by
     unfold j7 at B
     grind
    have D:aS t a=[]:=by
     unfold root at d;rw[acE c]at d;cases e:aS t a with
     |nil=>rfl
     |cons b bs=>
      exfalso;have hm:a∈aS t a:=by
       have p:aS t a≠[]:=by rw[e];simp
       rw[List.getLastD_eq_getLast?,List.getLast?_eq_getLast p,ahL]at d;have:=List.getLast_mem p;rw[d]at this;exact this
      have:=KI h.tr _ a (aeg _) hm;omega
    unfold lp;split
    ·exact h
    ·split
     ·exact h
     ·have C: ∀z,aw.az {t with r:=aq t.r (aO a) {t.r (aO a)with up:=w}} z=t.az z:=λ_=>rfl
      have y:bH {t with r:=aq t.r (aO a) {t.r (aO a)with up:=w}} a=w:=by
       unfold bH j6;simp only[C];rw[acE c,cu,acE g]
      have v: ∀x,x≠a->bH {t with r:=aq t.r (aO a) {t.r (aO a)with up:=w}} x=bH t x:=by
       intro x I;unfold bH;simp only[C];split
       ·rename_i m;unfold j6;simp only[C];rw[cy λe=>I (SI m c e)]
       ·rfl
      generalize l: ({t with r:=aq t.r (aO a) {t.r (aO a)with up:=w}}:aw)=u at*;have w0:w≠0:=Rt g;have key: ∀n x,(eu u n x).length<=if x=a\/a∈aS t x then dep t x+1+dep t w else dep t x:=by
       intro n
       induction n with
       |zero=>intro x;simp[eu]
       |succ n E=>
        intro x;rw[eu];by_cases e:x=a
        ·rw[acE (show x=a\/a∈aS t x from .inl e),e,y,acz w0,aep];have:=E w;rw[acz (by rintro(q|q);exact s.1 q.symm;exact s.2 q)]at this;omega
        ·rw[v x e];by_cases hu:bH t x=0
         ·rw[acE hu];simp
         ·rw[acz hu,aep];have L:=Bg h.tr hu;have:=E (bH t x);have j: (x=a\/a∈aS t x)↔(bH t x=a\/a∈aS t (bH t x)):=by
           rw[BK h.tr hu,aeB];constructor
           ·rintro(q|q|q)
            ·exact absurd q e
            ·exact .inl q.symm
            ·exact .inr q
           ·rintro(q|q)
            ·exact .inr (.inl q.symm)
            ·exact .inr (.inr q)
          by_cases q:x=a\/a∈aS t x
          ·rw[acE q];rw[acE (j.1 q)]at this;omega
          ·rw[acz q];rw[acz λH=>q (j.2 H)]at this;omega
      show ez u;refine⟨?_,λx=>?_,λi=>?_⟩
      ·rw[<-l];exact h.ok.aq ((h.ok.r _).Kw J)
      ·have F:=key 32 x;unfold aS;split at F
       ·rename_i q;have o:x∈dw t a:=by
         rcases q with q|q
         ·rw[q];exact ahl h.tr a
         ·exact asB h.ok.b h.tr _ a (aeg _) q
        have m:=EN h.ok.b c o;have k:=(ahm (f:=λx=>depth t x-depth t a+1) (dw t a) 0).2 x o;have A:sd t a=(dw t a).foldl (λn x=>max n (depth t x-depth t a+1)) 0:=rfl;rw[<-A]at k;have d1:depth t x=1+dep t x:=by unfold depth;rw[acE m];rfl
        have d2:depth t a=1:=by unfold depth;rw[acE c,D];rfl
        have d3:depth t w=1+dep t w:=by unfold depth;rw[acE g];rfl
        have k:depth t x-depth t a+1<=sd t a:=k;omega
       ·have:=h.tr x;unfold dep at F;omega
      ·have e1:u.b=t.b:=by rw[<-l]
       have K: (u.r i).up=(aq t.r (aO a) {t.r (aO a)with up:=w} i).up:=by rw[<-l]
       rw[e1,K];by_cases e:i=aO a
       ·rw[e,cu];exact SF g
       ·rw[cy e];exact h.up i
structure jD(k:bh):Prop where
 ok:gB k
 dD: ∀i,m8 k.b (k.t i).aS
 ord: ∃L:lN,L.Nodup/\ (∀h∈L,az k.b h=true)/\ (∀h,az k.b h=true->h∈L)/\L.Pairwise (λa b=>(k.t (aO a)).aS≠b)/\ ∀h∈L,(k.t (aO h)).aS≠h
def ahn{k:bh}{h:Nat}(a:az k.b h=true): (ch k h).1=k.t (aO h):=by unfold ch;grind
theorem SJ{k:bh}: ∀ {n m h:Nat},n<=m->wP k n h->wP k m h
 |0,_,_,_,h=>h.elim
 |n+1,0,_,a,_=>by omega
 |n+1,m+1,_,a,h=>λx b=>SJ (Nat.le_of_succ_le_succ a) (h x b)
theorem KJ: ∀ (n:Nat) (l:lN),l.Nodup->(∀x∈l,x<n)->l.length<=n
 |0,[],_,_=>aeg _
 |0,x::_,_,h=>by grind [List.mem_cons_self]
 |n+1,l,a,h=>by
  have c:=KJ n (l.erase n) (a.erase n) λx b=>by grind
  grind
def jD.th{k:bh}(h:jD k){x:Nat}(s:az k.b x=true):wP k 16 x:=by
 obtain⟨L,w,o,e,i,l⟩:=h.ord;have j:L.length<=16:=by
  rw[<-aej (f:=aO)];refine KJ 16 _ ?_ λy r=>?_
  ·grind [List.Pairwise.imp_of_mem,SI]
  ·obtain⟨z,g,rfl⟩:=ael.1 r;exact h.ok.slot (o z g)
 have key: ∀ (n:Nat) (P S:lN) (y:Nat),S.length<=n->L=P++y::S->wP k (S.length+1) y:=by
  intro n
  induction n with
  |zero=>
   intro P S y m d z g;have b:=aey.1 g;have a:az k.b z=true:=(jg h.ok.b).1 b.1;have c: (k.t (aO z)).aS=y:=by have:=b.2;rw[ahn a]at this;simpa using this
   have t:S=[]:=ahK.1 (by omega);subst t;exfalso;have hm:=e z a;rw[d]at hm;rcases ac8.1 hm with q|q
   ·rw[d]at i;exact(al5.1 i).2.2 z q y (ahM ..) c
   ·rcases aeB.1 q with q|q
    ·subst q;exact l z (e z a) c
    ·cases q
  |succ n p=>
   intro P S y m d z g;have b:=aey.1 g;have a:az k.b z=true:=(jg h.ok.b).1 b.1;have c: (k.t (aO z)).aS=y:=by have:=b.2;rw[ahn a]at this;simpa using this
   have hm:=e z a;rw[d]at hm;rcases ac8.1 hm with q|q
   ·exfalso;rw[d]at i;exact(al5.1 i).2.2 z q y (ahM ..) c
   ·rcases aeB.1 q with q|q
    ·exfalso;subst q;exact l z (e z a) c
    ·obtain⟨v,u,rfl⟩:=avF q;have:=p (P++y::v) u z (by simp at m;omega) (by rw[d];simp);exact SJ (by simp) this
 obtain⟨P,S,rfl⟩:=avF (e x s);refine SJ ?_ (key S.length P S x (aeg _) rfl)
 grind
def jD.void{k:bh}(h:jD k)(y:Nat):jD {k with b:=(ep k.b y).1}:=by
 obtain⟨L,f,g,e,d,c⟩:=h.ord;refine⟨agx h.ok [y],λi=>ahj (h.dD i),L.filter λx=>az (ep k.b y).1 x,f.filter _,λx a=>(aey.1 a).2,λx a=>aey.2 ⟨e x (SH a),a⟩,d.filter _,λx a=>c x (aey.1 a).1⟩
def jD.aho{k:bh}(h:jD k)(l:lN):jD (mT k l):=by
 induction l generalizing k with
 |nil=>exact h
 |cons y l a=>exact a (h.void y)
def jD.clear{k:bh}(h:jD k)(r:Nat):jD (J9 k r):=h.aho _
def jD.ret{k:bh}(h:jD k)(a:Nat):jD (l8 k a).1:=by
 unfold l8;split
 ·exact h.aho _
 omega
def jD.ahp{k:bh}(h:jD k){x:Tok}(F:sB x):jD (kN k x).1:=by
 unfold kN;split
 ·exact h
 ·rename_i hm;have hm:oW k x=0:=alO λq=>hm q
  have g:x.aS=0\/az k.b x.aS=true:=by
   unfold oW at hm;split at hm
   ·omega
   ·have:mQ k x.aS=true:=by grind
    unfold mQ at this
    grind
  split
  ·rename_i i s;split
   ·rename_i r;obtain⟨i1,i2,i3,_⟩:=sg s;have t:=h.ok.b;have c:=E8 s t;have p:=ahk s t;have f:=λz=>SG (h:=z) s t
    have A: ∀z,az k.b z=true->aO z≠i:=by
     intro z d q;obtain⟨_,o,_⟩:=Bf d;rw[q]at o;rw[o]at i2;cases i2
    have y:aO (c7 i (k.b i).gen)=i:=by
     obtain⟨j,e,l⟩:=kO.1 ((f _).2 (.inr rfl));rw[EI e];refine alO λq=>?_
     rw[cy q]at l;rw[kO.2 ⟨j,e,l⟩]at c;cases c
    have v:x.aS≠c7 i (k.b i).gen:=by
     intro q;rcases g with e|e
     ·rw[e]at q;unfold c7 at q;omega
     ·rw[q,c]at e;cases e
    obtain⟨L,E,u,D,C,B⟩:=h.ord;have w: ∀z∈L,aq k.t i x (aO z)=k.t (aO z):=λz d=>cy (A z (u z d))
    refine⟨⟨Rw t s,λj l=>?_,λj=>?_⟩,λj=>?_,L++[c7 i (k.b i).gen],?_,λz d=>?_,λz d=>?_,?_,λz d=>?_⟩
    ·by_cases e:j=i
     ·rw[e];exact r
     ·have l: (aq k.b i {k.b i with eJ:=true} j).eJ=true:=l;rw[cy e]at l;exact h.ok.lt j l
    ·show sB (aq k.t i x j);by_cases e:j=i
     ·rw[e,cu];exact F
     ·rw[cy e];exact h.ok.t j
    ·show m8 _ (aq k.t i x j).aS;by_cases e:j=i
     ·rw[e,cu];rcases g with q|q
      ·rw[q];exact BJ _
      ·exact KH (SF q)
     ·rw[cy e];exact KH (h.dD j)
    ·refine List.nodup_append.2 ⟨E,by simp,λa n b m=>?_⟩;rw[ada.1 m];intro q;rw[q]at n;rw[u _ n]at c;cases c
    ·rcases ac8.1 d with q|q
     ·exact(f z).2 (.inl (u z q))
     ·exact(f z).2 (.inr (ada.1 q))
    ·rcases(f z).1 d with q|q
     ·exact ac8.2 (.inl (D z q))
     ·exact ac8.2 (.inr (ada.2 q))
    ·refine al5.2 ⟨?_,by simp,λa n b m=>?_⟩
     ·exact aqT (λn _ g=>by show(aq k.t i x (aO _)).aS≠_;rw[w _ n];exact g) C
     ·rw[ada.1 m];show(aq k.t i x (aO a)).aS≠_;rw[w a n];intro q;have:=h.dD (aO a);rw[q]at this;exact p this
    ·rcases ac8.1 d with q|q
     ·show(aq k.t i x (aO z)).aS≠_;rw[w z q];exact B z q
     ·rw[ada.1 q];show(aq k.t i x (aO _)).aS≠_;rw[y,cu];exact v
   omega
  omega
structure bm(s:bF):Prop where
 gv:ez s.T
 O:fF s.O
 tok:jD s.K
 bx: ∀i,iR (s.cY i)
def bm.T{s:bF}(h:bm s):bL s.T:=h.gv.ok
def bm.tr{s:bF}(h:bm s):cp s.T:=h.gv.tr
def bm.K{s:bF}(h:bm s):gB s.K:=h.tok.ok
theorem bm.th{s:bF}(h:bm s): ∀a,az s.K.b a=true->wP s.K 16 a:=λ_ b=>h.tok.th b
def bm.uS{s:bF}(h:bm s)(a:ez t):bm {s with T:=t}:=⟨a,h.O,h.tok,h.bx⟩
def bm.uT{s:bF}(h:bm s){o:bJ}(ho:fF o):bm {s with O:=o}:=⟨h.gv,ho,h.tok,h.bx⟩
def bm.BL{s:bF}(h:bm s){k:bh}(a:jD k):bm {s with K:=k}:=⟨h.gv,h.O,a,h.bx⟩
def bm.BM{s:bF}(h:bm s){i:Nat}(a:iR b):bm {s with cY:=aq s.cY i b}:=⟨h.gv,h.O,h.tok,λj=>by
 show iR (aq s.cY i b j);by_cases e:j=i
 ·rw[e,cu];exact a
 ·rw[cy e];exact h.bx j⟩
def bm.SN{s:bF}(h:bm s){a b:Nat->Bool}:bm {s with alive:=a,born:=b}:=⟨h.gv,h.O,h.tok,h.bx⟩
def fF.iw{o:bJ}(ho:fF o)(a:r<4294967296):fF (qE o t r aa).1:=ho.Ky a ⟨by simp,amw _ (by omega),by simp⟩
def fF.fly{o:bJ}(ho:fF o)(a:r<4294967296):fF (wo o t r).1:=ho.Ky a ⟨by simp,by simp,by simp⟩
def fF.freeze{o:bJ}(ho:fF o)(a:r<4294967296):fF (yG o t r aa).1:=ho.Ky a ⟨by simp,by simp,zg aa⟩
def fF.held{o:bJ}(ho:fF o){b:Bool}(c:r<4294967296):fF (dv o t r aa b).1:=by
 unfold dv;dsimp only;split
 ·omega
 ·split
  ·omega
  ·split
   ·omega
   ·split
    ·omega
    ·split
     ·omega
     ·have a:=ho.of t r;exact ho.Ky c ⟨a.kind,a.aa,axy (n:=8) a.hold (zg aa)⟩
section
def lx{args:lA}{E:AS}{r:aT}(h:D X0 v args E=some r):D XA v args E=some r:=wH CO (up dj h)
def ly{args:lA}{E:AS}{r:aT}(h:D X v args E=some r):D XA v args E=some r:=wH CO h
structure jE(c:cz):Prop where
 op:c.op<256
 r:c.r<4294967296
 s:c.s<4294967296
 a:c.a<4294967296
 b:c.b<4294967296
 v:c.v<18446744073709551616
def dS{α:Type}(f:α->AV×AS)(E:AS):R α->aT
 |.ok a=>.ret (f a).1 (f a).2
 |.error e=>.panic (iS e) E
abbrev un(E:AS):Unit->AV×AS:=λ_=>(.av [],E)
def kW(b:Bool)(e:Nat)(H:List ae)(lo:oN):D XA (.fn (.func 116) [] []) [.bool b,.int .i64 e] ⟨H,lo⟩=some (dS (un ⟨H,lo⟩) ⟨H,lo⟩ (ask b e)):=by
 cases b
 ·exact lx (zh e H lo)
 ·exact lx (E6 e H lo)
def gQ(e:Nat)(H:List ae)(lo:oN):D XA (.fn (.func 248) [] []) [.int .i64 e] ⟨H,lo⟩=some (dS (un ⟨H,lo⟩) ⟨H,lo⟩ (cC e)):=by
 by_cases h:e=0
 ·subst h;exact lx (ase H lo)
 ·unfold cC;rw[acz h];exact lx (asf e h H lo)
def iT{a:List FP}{f:ao}{b:List ao}{d:oN}{e:Env}{c:lN}{Q:bQ}{E:AS}:kF a (.call f b) d [] [] e c Q v E=Q (.panic v) ⟨e,c⟩ E:=by
 have h:Ca a (⟨none,d,.call f b⟩,[]) []=true:=by rfl
 simp only[kF,h,axg]
def take_set{H L:List ae}{N:Nat}{o:ae}(a:H.length=N):List.take N (H.set p o++L)=H.set p o:=by grind
def azu{H:List ae}{N:Nat}{o:ae}(a:H.length=N):List.take N (H.set p o)=H.set p o:=ac4 (by grind)
def asE:aK t++List.drop 480 (aZ x bk)=aZ (x.t t) bk:=by
 rw[<-SD];simp[aM,iv]
structure Old(p:Nat)(H:List ae)(v:ae):Prop where
 at':H[p]?=some v
namespace Old
variable{p:Nat}{H:List ae}{v:ae}(h:Old p H v)
include h
theorem lt:p<H.length:=(abQ.1 h.at').1
theorem g(B:List ae): (H++B)[p]?=some v:=bf h.at'
theorem s(B:List ae)(w:ae): (H++B).set p w=H.set p w++B:=aqc _ _ h.lt
theorem g1(w:ae): (H.set p w)[p]?=some w:=by rw[ac9 h.lt]
theorem g2(w:ae)(B:List ae): (H.set p w++B)[p]?=some w:=bf (h.g1 w)
theorem s2(w w':ae)(B:List ae): (H.set p w++B).set p w'=H.set p w'++B:=by
 rw[aqc _ _ (by rw[aen];exact h.lt),ajO]
theorem same:H.set p v=H:=o9 h.at'
theorem app(B:List ae):Old p (H++B) v:=⟨h.g B⟩
theorem set(w:ae):Old p (H.set p w) w:=⟨h.g1 w⟩
end Old
def asF{x:Nat}(a:k<8):kn .shr (.int .u8 (x:Nat)) (.int .i64 (k:Nat))=some (.int .u8 ((x/2^k:Nat):Int)):=by
 rw[CQ,acE (by omega)];have b:IntKind.u8.bits=8:=rfl
 grind
def asG{x:Nat}(c:x<256):dh .and (.int .u8 ((x/2^k:Nat):Int)) (.int .u8 1)=some (.int .u8 ((x/2^k % 2:Nat):Int)):=by
 have a:x/2^k<256:=Nat.lt_of_le_of_lt (Nat.div_le_self _ _) c;have:=Kz (b:=1) a (by omega)
 grind
section
variable{x:aB}{bk:AV}{p:Nat}{H:List ae}(ho:Old p H (.box (aZ x bk) none))(lo:oN)
include ho
theorem KK(aa:Nat):D XA (.fn (.func 263) [] []) [.ptr p 0,.int .u32 aa] ⟨H,lo⟩=some (dS (un ⟨H,lo⟩) ⟨H,lo⟩ (mb x aa)):=by
 refine aH JI λN f=>?_
 have e:=ho.at';by_cases h:aa<8
 ·have c: (aa:Int)<8:=by omega
  have b:mb x aa=ask (x.s.alive aa) 2:=by unfold mb;simp[h]
  have a: ∀H lo,D XA (.fn (.func 116) [] []) [.bool (x.s.alive aa),.int .i64 2] ⟨H,lo⟩=_:=kW _ 2;rw[b];cases d:x.s.alive aa<;>rw[d]at a<;>simp(disch:=omega) only[F1,go_sem,simprocAttr,JI,e,c,↓SC h,d,a,ask,dS,EP]
 ·have c: ¬(aa:Int)<8:=by omega
  have b:mb x aa= .error 2:=by unfold mb ask;simp[h]
  have a: ∀H lo,D XA (.fn (.func 116) [] []) [.bool false,.int .i64 2] ⟨H,lo⟩=_:=kW _ 2;rw[b];simp(disch:=omega) only[F1,go_sem,simprocAttr,JI,c,a,ask,dS,EP]
theorem SO(b:bm x.s)(i:x.aa<8)(h:Nat)(e:h<4294967296)(a:Nat)(d:a<=2):
  D XA (.fn (.func 246) [] []) [.ptr p 0,.int .u32 h,.int .u8 a] ⟨H,lo⟩=some (dS (un ⟨H,lo⟩) ⟨H,lo⟩ (fK x h a)):=by
 refine aH Qb λN g=>?_
 have hm:=λH lo=>ly (asb x.s.T b.T b.tr x.s.O b.O x.s.K b.K x.aa (by omega) h e a d H lo)
 have c:=gQ (wx x.s.T x.s.O x.s.K x.aa h a);unfold fK;cases f:cC (wx x.s.T x.s.O x.s.K x.aa h a)<;>rw[f]at c<;>simp only[F1,go_sem,simprocAttr,Qb,g,ho.at',↓CL,hm,c,dS,EP,iT]
theorem KM(b:bm x.s)(h:Nat)(c:h<4294967296):
  D XA (.fn (.func 251) [] []) [.ptr p 0,.int .u32 h] ⟨H,lo⟩=some (dS (λ_=>(.agg (bR (aL x.s.T h).1),⟨H,lo⟩)) ⟨H,lo⟩ (cC (aL x.s.T h).2)):=by
 refine aH Qd λN e=>?_
 have hm:=λH lo=>lx (uJ x.s.T b.T h c H lo)
 have a:=gQ (aL x.s.T h).2;cases d:cC (aL x.s.T h).2<;>rw[d]at a<;>simp only[F1,go_sem,simprocAttr,Qd,e,ho.g,↓CL,hm,m0,a,dS,EP]
theorem SP(a:bm x.s)(h:Nat)(d:h<4294967296):
  D XA (.fn (.func 260) [] []) [.ptr p 0,.int .u32 h] ⟨H,lo⟩=some (dS (λ_=>(.av [],⟨H.set p (.box (aZ (x.t (jf x.s.T h).1) bk) none),lo⟩)) ⟨H,lo⟩ (cC (jf x.s.T h).2)):=by
 refine aH Qh λN c=>?_
 have hm:=λH lo=>ly (aro x.s.T a.T a.tr h d H lo)
 have b:=gQ (jf x.s.T h).2;cases e:cC (jf x.s.T h).2<;>rw[e]at b<;>simp only[F1,go_sem,simprocAttr,Qh,c,ho.at',ho.g,ho.s,↓CL,hm,Kx,b,dS,EP,CS,cR,take_set c]
theorem KN(a:bm x.s)(h:Nat)(e:h<4294967296)(aa:Nat)(d:aa<256):
  D XA (.fn (.func 249) [] []) [.ptr p 0,.int .u32 h,.int .i64 aa] ⟨H,lo⟩=some (dS (λ_=>(.av [],⟨H.set p (.box (aZ (x.o (qE x.s.O x.s.T h aa).1) bk) none),lo⟩)) ⟨H,lo⟩ (cC (qE x.s.O x.s.T h aa).2)):=by
 refine aH Qc λN c=>?_
 have hm:=λH lo=>lx (ary x.s.O x.s.T a.T a.tr h e aa d H lo)
 have b:=gQ (qE x.s.O x.s.T h aa).2;cases f:cC (qE x.s.O x.s.T h aa).2<;>rw[f]at b<;>simp only[F1,go_sem,simprocAttr,Qc,c,ho.g,ho.s,↓CL,hm,b,dS,EP,CS,gl,take_set c]
theorem SQ(d:bm x.s)(h:Nat)(g:h<4294967296)(r:df)(e:RB r.runs)(f:r.runs.length<=65)(a:r.len<4294967296):
  D XA (.fn (.func 255) [] []) [.ptr p 0,.int .u32 h,.agg (bR r)] ⟨H,lo⟩=some (dS (λ_=>(.av [],⟨H.set p (.box (aZ (x.t (fD x.s.T h r).1) bk) none),lo⟩)) ⟨H,lo⟩ (cC (fD x.s.T h r).2)):=by
 refine aH Qf λN c=>?_
 have hm:=λH lo=>lx (Sk x.s.T d.T h g r e f a H lo)
 have b:=gQ (fD x.s.T h r).2;cases i:cC (fD x.s.T h r).2<;>rw[i]at b<;>simp only[F1,go_sem,simprocAttr,Qf,c,ho.g,ho.s,↓CL,hm,sy,b,dS,EP,CS,cR,take_set c]
theorem E9(f:bm x.s)(u:x.aa<8)(h:Nat)(o:h<4294967296):
  D XA (.fn (.func 264) [] []) [.ptr p 0,.int .u32 h] ⟨H,lo⟩=some (dS (un ⟨H,lo⟩) ⟨H,lo⟩ (yP x h)):=by
 refine aH A5 λN s=>?_
 have a:=λH lo=>lx (ew x.s.T.b h o H lo)
 have q:az x.s.T.b h=x.s.T.az h:=rfl;rw[q]at a;have d:=λH lo=>lx (Bz x.s.O f.O x.s.T f.T f.tr h o H lo)
 have c:=λH lo=>lx (zb x.s.T f.T f.tr h o H lo)
 have j:=f.O.of x.s.T h;have A:yP x h=ask (x.s.T.az h) 4>>=λ_=>ask (decide (root x.s.T h=h)&&decide ((b0 x.s.O x.s.T h).kind=3)) 12>>=λ_=>ask ((b0 x.s.O x.s.T h).hold.testBit x.aa) 5:=rfl
 generalize b0 x.s.O x.s.T h=w at*;have g: ∀H lo,D XA (.fn (.func 116) [] []) [.bool (x.s.T.az h),.int .i64 4] ⟨H,lo⟩=_:=kW _ 4;have e: ∀b H lo,D XA (.fn (.func 116) [] []) [.bool b,.int .i64 12] ⟨H,lo⟩=_:=λb=>kW b 12
 have B: ∀b H lo,D XA (.fn (.func 116) [] []) [.bool b,.int .i64 5] ⟨H,lo⟩=_:=λb=>kW b 5
 rw[A];cases y:x.s.T.az h with
 |false=>
  rw[y]at a g;simp(disch:=omega) only[F1,go_sem,simprocAttr,A5,ho.at',↓CL,a,g,ask,dS,EP,Except.bind,bind]
 |true=>
  rw[y]at a g;by_cases n:root x.s.T h=h
  ·have k:decide ((root x.s.T h:Int)=h)=true:=ac5 (by omega);by_cases t:w.kind=3
   ·have i:decide ((w.kind:Int)=3)=true:=ac5 (by omega);have m:kn .shr (.int .u8 (w.hold:Nat)) (.int .i64 (x.aa:Nat))=some (.int .u8 ((w.hold/2^x.aa:Nat):Int)):=asF u;have hand:dh .and (.int .u8 ((w.hold/2^x.aa:Nat):Int)) (.int .u8 1)=some (.int .u8 ((w.hold/2^x.aa % 2:Nat):Int)):=asG j.hold;have r:=agG j.hold u;have l:decide (((w.hold/2^x.aa % 2:Nat):Int)=1)=w.hold.testBit x.aa:=by rw[<-r];exact aev.2 (by omega)
    cases z:w.hold.testBit x.aa<;>rw[z]at l<;>
     simp only[F1,go_sem,simprocAttr,A5,s,ho.at',ho.g,↓CL,jx,a,g,d,c,n,t,e,B,m,hand,l,ask,dS,EP,iT,Except.bind,bind]
   ·have i:decide ((w.kind:Int)=3)=false:=acK (by omega);simp only[F1,go_sem,simprocAttr,A5,s,ho.at',ho.g,↓CL,jx,a,g,d,c,n,i,t,e,ask,dS,EP,Except.bind,bind]
  ·have k:decide ((root x.s.T h:Int)=h)=false:=acK (by omega);simp only[F1,go_sem,simprocAttr,A5,s,ho.at',ho.g,↓CL,jx,a,g,d,c,k,n,e,ask,dS,afH,EP,Except.bind,bind]
end
def ahq(c:cz)(H:List ae)(lo:oN):D XA (.fn (.func 256) [] []) [.agg (bg c)] ⟨H,lo⟩=some (dS (un ⟨H,lo⟩) ⟨H,lo⟩ (ask (decide (1<=c.b)&&decide (c.b<=8)) 2)):=by
 refine aH Ep λN e=>?_
 have g: ∀b H lo,D XA (.fn (.func 116) [] []) [.bool b,.int .i64 2] ⟨H,lo⟩=_:=λb=>kW b 2
 by_cases f:1<=c.b
 ·have a:decide ((c.b:Int)>=1)=true:=ac5 (by omega);by_cases i:c.b<=8
  ·have d:decide ((c.b:Int)<=8)=true:=ac5 (by omega);simp only[F1,go_sem,simprocAttr,Ep,e,bg,a,d,f,i,g,ask,dS]
  ·have d:decide ((c.b:Int)<=8)=false:=acK (by omega);simp only[F1,go_sem,simprocAttr,Ep,e,bg,a,d,f,i,g,ask,dS,EP]
 ·have a:decide ((c.b:Int)>=1)=false:=acK (by omega);simp only[F1,go_sem,simprocAttr,Ep,e,bg,a,f,g,ask,dS,afH,EP]
def asH(r:df)(g:r.len<4294967296)(c:cz)(d:jE c)(H:List ae)(lo:oN):
  D XA (.fn (.func 257) [] []) [.agg (bR r),.agg (bg c)] ⟨H,lo⟩=some (dS (un ⟨H,lo⟩) ⟨H,lo⟩ (ask (decide (c.a+c.b<=r.len)) 9)):=by
 refine aH JG λN e=>?_
 have j:=d.a;have i:=d.b;have f: ∀b H lo,D XA (.fn (.func 116) [] []) [.bool b,.int .i64 9] ⟨H,lo⟩=_:=λb=>kW b 9
 by_cases h:c.a+c.b<=r.len
 ·have a:decide ((c.a:Int)<=(r.len:Int)-c.b)=true:=ac5 (by omega);simp(disch:=omega) only[F1,go_sem,simprocAttr,JG,e,bg,a,h,f,ask,dS]
 ·have a:decide ((c.a:Int)<=(r.len:Int)-c.b)=false:=acK (by omega);simp(disch:=omega) only[F1,go_sem,simprocAttr,JG,e,bg,a,h,f,ask,dS,EP]
end
structure mo(x:aB):Prop where
 s:bm x.s
 t:x.aa<8
 c:jE x.c
 run:x.run.1<4294967296/\x.run.2<4294967296
def bb(b:List aF)(bk:AV)(p:Nat)(H:List ae)(lo:oN):R (aB×bB)->aT->Prop
 |.ok (y,r),a=>y.back=b/\a= .ret (.agg (bD r)) ⟨H.set p (.box (aZ y bk) none),lo⟩
 |.error e,a=> ∃y,a= .panic (iS e) ⟨H.set p (.box (aZ y bk) none),lo⟩
theorem okB{a:α}{f:α->R β}: (Except.ok a>>=f:R β)=f a:=rfl
theorem cX{f:α->R β}: (Except.error e>>=f:R β)= .error e:=rfl
def OL{H:List ae}{N:Nat}(a:H.length=N): (∀p w L,(H.set p w++L)[N]?=L[0]?)/\ (∀p w L k,(H.set p w++L)[N+k]?=L[k]?)/\ (∀p w L o,(H.set p w++L).set N o=H.set p w++L.set 0 o)/\ (∀p w L k o,(H.set p w++L).set (N+k) o=H.set p w++L.set k o)/\
  (∀p w L,List.take N (H.set p w++L)=H.set p w)/\ ∀p w,List.take N (H.set p w)=H.set p w:=by
 have h: ∀p w,(H.set p w).length=N:=λp w=>by grind
 grind
theorem gC{a:α}: (pure a:R α)= .ok a:=rfl
def dN{K c:AV->AS->Prop}{f:α->AV×AS}{E:AS}{m:R α}:GG K c (some (dS f E m))=((∀a,m= .ok a->K (f a).1 (f a).2)/\ ∀e,m= .error e->c (iS e) E):=by
 apply propext;cases m with
 |ok a=>
  refine⟨λh=>⟨λb e=>?_,λ_ e=>?_⟩,λh=>h.1 a rfl⟩
  ·cases e;exact h
  grind
 |error e=>
  refine⟨λh=>⟨λb q=>?_,λb q=>?_⟩,λh=>h.2 e rfl⟩
  ·cases q
  ·cases q;exact h
def dO{q:Unit->Prop}: (∀a,q a)=q ():=by grind
section
variable{x:aB}{bk:AV}{p:Nat}{H:List ae}{lo:oN}(ho:Old p H (.box (aZ x bk) none))(hx:mo x)
include ho
theorem bb.err:bb x.back bk p H lo (.error e) (.panic (iS e) ⟨H,lo⟩):=⟨x,by rw[ho.same]⟩
theorem bb.here{r:bB}(a:v= .agg (bD r)):bb x.back bk p H lo (.ok (x,r)) (.ret v ⟨H,lo⟩):=by
 refine⟨rfl,?_⟩;rw[ho.same,a]
omit ho in
theorem bb.set{r:bB}(a:v= .agg (bD r))(b:y.back=x.back):bb x.back bk p H lo (.ok (y,r)) (.ret v ⟨H.set p (.box (aZ y bk) none),lo⟩):=by
 refine⟨b,?_⟩;rw[a]
omit ho in
theorem zj{h w:Nat}(a:fK x h w= .ok ()):cC (aL x.s.T h).2= .ok ():=by
 unfold fK wx at a;cases b:x.s.T.az h with
 |true=>unfold aL;rw[acE b];rfl
 |false=>rw[acE b]at a;cases a
include hx
theorem M0(h:Nat)(a:h<4294967296)(B:List ae)(lo:oN):D XA (.fn (.func 246) [] []) [.ptr p 0,.int .u32 h,.int .u8 0] ⟨H++B,lo⟩=some (dS (un ⟨H++B,lo⟩) ⟨H++B,lo⟩ (fK x h 0)):=SO (ho.app B) lo hx.s hx.t h a 0 (by omega)
theorem M1(h:Nat)(a:h<4294967296)(B:List ae)(lo:oN):D XA (.fn (.func 246) [] []) [.ptr p 0,.int .u32 h,.int .u8 1] ⟨H++B,lo⟩=some (dS (un ⟨H++B,lo⟩) ⟨H++B,lo⟩ (fK x h 1)):=SO (ho.app B) lo hx.s hx.t h a 1 (by omega)
theorem M2(h:Nat)(a:h<4294967296)(B:List ae)(lo:oN):D XA (.fn (.func 246) [] []) [.ptr p 0,.int .u32 h,.int .u8 2] ⟨H++B,lo⟩=some (dS (un ⟨H++B,lo⟩) ⟨H++B,lo⟩ (fK x h 2)):=SO (ho.app B) lo hx.s hx.t h a 2 (by omega)
omit ho in
theorem Bs(L:List ae)(lo:oN):D XA (.fn (.func 257) [] []) [.agg (bR (aL x.s.T x.c.r).1),.agg (bg x.c)] ⟨L,lo⟩=some (dS (un ⟨L,lo⟩) ⟨L,lo⟩ (ask (decide (x.c.a+x.c.b<=(aL x.s.T x.c.r).1.len)) 9)):=
 asH (aL x.s.T x.c.r).1 (by have:=(hx.s.T.get x.c.r).len;omega) x.c hx.c L lo
end
section
variable{x:aB}{bk:AV}{p:Nat}{H:List ae}{lo:oN}(ho:Old p H (.box (aZ x bk) none))(hx:mo x)
include ho hx
theorem asI: ∃a,D XA (.fn (.func 227) [] []) [.ptr p 0] ⟨H,lo⟩=some a/\bb x.back bk p H lo (uF x 0) a:=by
 refine cH P0 λN b=>?_
 simp only[F1,go_sem,simprocAttr,P0,b,ho.g,↓CL,λB=>ahq x.c (H++B),M0 ho hx x.c.r hx.c.r,λB lo=>KM (ho.app B) lo hx.s x.c.r hx.c.r,λL=>Bs hx L,dN,dO,EP,iT];have c:=zj (x:=x) (h:=x.c.r) (w:=0)
 (repeat' (first| (refine⟨?_,?_⟩)|intro _))<;>first
   | (simp only[uF,gC,okB,cX, *];first|exact bb.err ho|exact bb.here ho rfl)
   | (exfalso;simp_all)
theorem asJ: ∃a,D XA (.fn (.func 228) [] []) [.ptr p 0] ⟨H,lo⟩=some a/\bb x.back bk p H lo (uF x 1) a:=by
 refine cH P2 λN b=>?_
 simp only[F1,go_sem,simprocAttr,P2,b,ho.g,↓CL,λB=>ahq x.c (H++B),M1 ho hx x.c.r hx.c.r,λB lo=>KM (ho.app B) lo hx.s x.c.r hx.c.r,λL=>Bs hx L,dN,dO,EP,iT];have c:=zj (x:=x) (h:=x.c.r) (w:=1)
 (repeat' (first| (refine⟨?_,?_⟩)|intro _))<;>first
   | (simp only[uF,gC,okB,cX, *];first|exact bb.err ho|exact bb.here ho rfl)
   | (exfalso;simp_all)
end
theorem asK{args:lA}{E:AS}{a:AS}(h:BG args E=some (.ret v a)):D XA (.fn (.func 275) [] []) args E=some (.ret v a):=CV rfl h
def wW(h: ¬a<8):mb x a= .error 2:=by unfold mb ask;simp[h]
def ahr(h:a<4294967296):min a 8<4294967296:=by omega
section
variable{x:aB}{bk:AV}{p:Nat}{H:List ae}{lo:oN}(ho:Old p H (.box (aZ x bk) none))(hx:mo x)
include ho hx
theorem asL: ∃b,D XA (.fn (.func 242) [] []) [.ptr p 0] ⟨H,lo⟩=some b/\bb x.back bk p H lo (Bo x) b:=by
 refine cH Qa λN c=>?_
 have a:=λH lo=>asK (asu x.s.T hx.s.T x.c.r (min x.c.a 8) hx.c.r (ahr hx.c.a) H lo)
 have em: ((min x.c.a 8:Nat):Int)=min (x.c.a:Int) 8:=by omega
 simp only[em]at a;simp(disch:=omega) only[F1,go_sem,simprocAttr,Qa,c,ho.g,↓CL,M0 ho hx x.c.r hx.c.r,a,λH=>gQ (si x.s.T x.c.r (min x.c.a 8)).2 H,dN,dO,EP]
 (repeat' (first| (refine⟨?_,?_⟩)|intro _))<;>(simp only[Bo,gC,okB,cX, *];first|exact bb.err ho|exact bb.here ho rfl)
theorem asM: ∃b,D XA (.fn (.func 232) [] []) [.ptr p 0] ⟨H,lo⟩=some b/\bb x.back bk p H lo (Bj x) b:=by
 refine cH P6 λN a=>?_
 have c:=λH lo=>ly (arj x.s.T hx.s.T hx.s.tr x.c.r x.c.s hx.c.r hx.c.s H lo)
 simp only[F1,go_sem,simprocAttr,P6,a,ho.g,ho.s,↓CL,CS,M2 ho hx x.c.r hx.c.r,M1 ho hx x.c.s hx.c.s,c,wL,λH=>gQ (uD x.s.T x.c.r x.c.s).2 H,dN,dO,EP,cR,OL a]
 (repeat' (first| (refine⟨?_,?_⟩)|intro _))<;>(simp only[Bj,gC,okB,cX, *];first|exact bb.err ho|trivial)
theorem asN: ∃d,D XA (.fn (.func 234) [] []) [.ptr p 0] ⟨H,lo⟩=some d/\bb x.back bk p H lo (yT x) d:=by
 refine cH Jz λN b=>?_
 have a:=λB lo=>KK (ho.app B) lo x.c.a
 by_cases c:x.c.a<8
 ·have e:=λH lo=>lx (agn x.s.O hx.s.O x.s.T hx.s.T hx.s.tr x.c.r hx.c.r x.c.a (by omega) H lo)
  simp(disch:=omega) only[F1,go_sem,simprocAttr,Jz,b,ho.g,ho.s,↓CL,CS,a,λB lo=>E9 (ho.app B) lo hx.s hx.t x.c.r hx.c.r,e,λH=>gQ (dv x.s.O x.s.T x.c.r x.c.a true).2.2 H,dN,dO,EP,gl,OL b]
  (repeat' (first| (refine⟨?_,?_⟩)|intro _))<;>(simp only[yT,yS,gC,okB,cX, *];first|exact bb.err ho|exact bb.set rfl rfl)
 ·rw[wW c]at a;simp only[F1,go_sem,simprocAttr,Jz,b,ho.g,↓CL,a,dS,EP];simp only[yT,cX,wW c];exact bb.err ho
theorem asO: ∃d,D XA (.fn (.func 240) [] []) [.ptr p 0] ⟨H,lo⟩=some d/\bb x.back bk p H lo (Bn x) d:=by
 refine cH P9 λN c=>?_
 have e:=λH lo=>lx (ash (x.s.cY x.aa) H lo)
 have i:=hx.t;have h: (x.aa:Int)<8:=by omega
 have g:784+x.aa*19<=945:=by omega
 have f:=λbk=> @KE x bk x.aa hx.t
 have a:=λbk b=> @KF x bk x.aa b hx.t
 simp only[F1,go_sem,simprocAttr,P9,c,ho.g,ho.s,↓CL,CS,e,h,↓f,a,g,MB,λH=>gQ (uE (x.s.cY x.aa)).2 H,dN,dO,EP,OL c]
 (repeat' (first| (refine⟨?_,?_⟩)|intro _))<;>(simp only[Bn,gC,okB,cX, *];first|exact bb.err ho|trivial)
theorem asP: ∃f,D XA (.fn (.func 237) [] []) [.ptr p 0] ⟨H,lo⟩=some f/\bb x.back bk p H lo (Bm x) f:=by
 refine cH P8 λN e=>?_
 have d:=λH lo=>lx (BA x.s.K hx.s.K x.c.s hx.c.s H lo)
 have c:=hx.s.K.get x.c.s;generalize j:ch x.s.K x.c.s=g at*;have h:=c.to;have he: ((g.1.to:Int)=x.aa)=(g.1.to=x.aa):=propext (by omega);obtain⟨w,a⟩:=agC x.s.K hx.s.K x.c.s hx.c.s (hx.s.th x.c.s) (H++[.box [.int .i64 0,.int .u64 0,.int .u32 0] none,.box (fC g.1) none]) none;have a:=ly a;simp only[fC]at a d;have i: ∀b H lo,D XA (.fn (.func 116) [] []) [.bool b,.int .i64 5] ⟨H,lo⟩=_:=λb=>kW b 5
 simp(disch:=omega) only[F1,go_sem,simprocAttr,P8,e,ho.g,ho.s,↓CL,CS,d,a,he,i,λH=>gQ g.2 H,dN,dO,EP,iT,OL e]
 (repeat' (first| (refine⟨?_,?_⟩)|intro _))<;>(simp only[Bm,gC,okB,cX, *];first|exact bb.err ho|exact bb.set rfl rfl)
theorem asQ: ∃g,D XA (.fn (.func 245) [] []) [.ptr p 0] ⟨H,lo⟩=some g/\bb x.back bk p H lo (uH x) g:=by
 refine cH JD λN c=>?_
 have f: ∀b H lo,D XA (.fn (.func 116) [] []) [.bool b,.int .i64 2] ⟨H,lo⟩=_:=λb=>kW b 2
 by_cases a:x.c.a<8
 ·have e: (x.c.a:Int)<8:=by omega
  have l: (x.c.a:Int).tmod 8=x.c.a:=Int.tmod_eq_of_lt (by omega) (by omega);have k: (decide (x.c.a<8)&& !x.s.born (x.c.a % 8))= !x.s.born x.c.a:=by rw[amo a];simp[a]
  have j:=λbk=> @asc x bk x.c.a a
  have s1:=λ (y:aB) bk v=> @ag3 y bk x.c.a v a
  have s2:=λ (y:aB) bk v=> @asd y bk x.c.a v a
  have i:936+x.c.a<=963:=by omega
  have h:944+x.c.a<=963:=by omega
  simp only[F1,go_sem,simprocAttr,JD,c,ho.g,ho.s,ho.g2,ho.s2,↓CL,CS,e,l,i,h,↓j,f,s1,s2,dN,dO,EP,iT,OL c];have d:uH x=ask (!x.s.born x.c.a) 2>>=λ_=>.ok ({x with s:={x.s with alive:=aq x.s.alive x.c.a true,born:=aq x.s.born x.c.a true}},bO):=by unfold uH;rw[k];rfl
  rw[d]
  (repeat' (first| (refine⟨?_,?_⟩)|intro _))<;>(simp only[okB,cX, *];first|exact bb.err ho|exact bb.set rfl rfl)
 ·have e: ¬(x.c.a:Int)<8:=by omega
  have f: ∀H lo,D XA (.fn (.func 116) [] []) [.bool false,.int .i64 2] ⟨H,lo⟩=_:=λH lo=>lx (zh 2 H lo)
  have d:uH x= .error 2:=by unfold uH;rw[acK a];rfl
  simp only[F1,go_sem,simprocAttr,JD,c,ho.g,↓CL,e,f,EP,iT];rw[d];exact bb.err ho
theorem asS: ∃h,D XA (.fn (.func 241) [] []) [.ptr p 0] ⟨H,lo⟩=some h/\bb x.back bk p H lo (sk x) h:=by
 refine cH JB λN d=>?_
 have b:=λH lo=>lx (Bz x.s.O hx.s.O x.s.T hx.s.T hx.s.tr x.c.s hx.c.s H lo)
 have f:=λH lo=>asw x.s.T hx.s.T hx.s.tr x.c.r (min x.c.a 8) x.c.s (decide ((b0 x.s.O x.s.T x.c.s).kind=3)) hx.c.r hx.c.s (ahr hx.c.a) H lo
 have em: ((min x.c.a 8:Nat):Int)=min (x.c.a:Int) 8:=by omega
 have c:decide ((b0 x.s.O x.s.T x.c.s).kind=3)=decide (((b0 x.s.O x.s.T x.c.s).kind:Int)=3):=aev.2 (by omega);simp only[em,c]at f;by_cases e:x.c.s=0
 ·have a:decide ((x.c.s:Int)=0)=true:=ac5 (by omega);simp(disch:=omega) only[F1,go_sem,simprocAttr,JB,d,ho.g,ho.s,↓CL,CS,M1 ho hx x.c.r hx.c.r,a,b,jx,f,λH=>gQ (mW x.s.T x.c.r (min x.c.a 8) x.c.s (decide (((b0 x.s.O x.s.T x.c.s).kind:Int)=3))).2 H,dN,dO,EP,OL d,cR];have g:sk x=fK x x.c.r 1>>=λ_=>cC (mW x.s.T x.c.r (min x.c.a 8) x.c.s (decide (((b0 x.s.O x.s.T x.c.s).kind:Int)=3))).2>>=λ_=>.ok (x.t (mW x.s.T x.c.r (min x.c.a 8) x.c.s (decide (((b0 x.s.O x.s.T x.c.s).kind:Int)=3))).1,bO):=by
   unfold sk;rw[acz (by simpa using e),c];rfl
  rw[g];clear e a c em
  (repeat' (first| (refine⟨?_,?_⟩)|intro _))<;>(simp only[okB,cX, *];first|exact bb.err ho|exact bb.set rfl rfl)
 ·have a:decide ((x.c.s:Int)=0)=false:=acK (by omega);simp(disch:=omega) only[F1,go_sem,simprocAttr,JB,d,ho.g,ho.s,↓CL,CS,M1 ho hx x.c.r hx.c.r,M0 ho hx x.c.s hx.c.s,a,b,jx,f,λH=>gQ (mW x.s.T x.c.r (min x.c.a 8) x.c.s (decide (((b0 x.s.O x.s.T x.c.s).kind:Int)=3))).2 H,dN,dO,EP,OL d,cR];have g:sk x=fK x x.c.r 1>>=λ_=>fK x x.c.s 0>>=λ_=>cC (mW x.s.T x.c.r (min x.c.a 8) x.c.s (decide (((b0 x.s.O x.s.T x.c.s).kind:Int)=3))).2>>=λ_=>.ok (x.t (mW x.s.T x.c.r (min x.c.a 8) x.c.s (decide (((b0 x.s.O x.s.T x.c.s).kind:Int)=3))).1,bO):=by
   unfold sk;rw[acE (by simpa using e),c];rfl
  rw[g];clear e a c em
  (repeat' (first| (refine⟨?_,?_⟩)|intro _))<;>(simp only[okB,cX, *];first|exact bb.err ho|exact bb.set rfl rfl)
end
theorem uU: (x.t t).c=x.c/\ (x.t t).aa=x.aa/\ (x.t t).s.T=t/\ (x.t t).s.O=x.s.O/\ (x.t t).s.K=x.s.K/\ (x.t t).s.cY=x.s.cY/\ (x.t t).run=x.run:=⟨rfl,rfl,rfl,rfl,rfl,rfl,rfl⟩
theorem KO{t:bJ}: (x.o t).c=x.c/\ (x.o t).aa=x.aa/\ (x.o t).s.O=t/\ (x.o t).s.T=x.s.T/\ (x.o t).s.K=x.s.K/\ (x.o t).s.cY=x.s.cY:=⟨rfl,rfl,rfl,rfl,rfl,rfl⟩
theorem ahs: (x.bx i b).c=x.c/\ (x.bx i b).aa=x.aa/\ (x.bx i b).s.O=x.s.O/\ (x.bx i b).s.T=x.s.T/\ (x.bx i b).s.K=x.s.K/\ (x.bx i b).s.cY=aq x.s.cY i b:=⟨rfl,rfl,rfl,rfl,rfl,rfl⟩
section
variable{x:aB}{bk:AV}{p:Nat}{H:List ae}{lo:oN}(ho:Old p H (.box (aZ x bk) none))(hx:mo x)
include ho hx
omit ho hx in
theorem bb.mq:bb x.back bk p H lo (.error e) (.panic (iS e) ⟨H.set p (.box (aZ y bk) none),lo⟩):=⟨y,rfl⟩
theorem asT: ∃f,D XA (.fn (.func 231) [] []) [.ptr p 0] ⟨H,lo⟩=some f/\bb x.back bk p H lo (Bi x) f:=by
 refine cH P5 λN e=>?_
 have c:=λH lo=>lx (zb x.s.T hx.s.T hx.s.tr x.c.r hx.c.r H lo)
 have g:decide (root x.s.T x.c.r≠x.c.r)=decide (¬((root x.s.T x.c.r:Nat):Int)=x.c.r):=aev.2 (by omega);have d: ∀b H lo,D XA (.fn (.func 116) [] []) [.bool b,.int .i64 12] ⟨H,lo⟩=_:=λb=>kW b 12
 have a:bm (x.t (jf x.s.T x.c.r).1).s:=hx.s.uS (hx.s.gv.cut _);have hw:=λB lo=>KN (x:=x.t (jf x.s.T x.c.r).1) (bk:=bk) ((ho.set _).app B) lo a x.c.r hx.c.r x.aa (by have:=hx.t;omega)
 simp only[F1,go_sem,simprocAttr,P5,e,ho.g,ho.s,ho.g2,ho.s2,↓CL,M2 ho hx x.c.r hx.c.r,c,d,λB lo=>SP (ho.app B) lo hx.s x.c.r hx.c.r,hw,uU,dN,dO,EP,iT,OL e]
 (repeat' (first| (refine⟨?_,?_⟩)|intro _))<;>(simp only[Bi,wy,mX,uU,gC,okB,cX, *];first|exact bb.err ho|exact bb.mq|exact bb.set rfl rfl)
theorem asU: ∃c,D XA (.fn (.func 233) [] []) [.ptr p 0] ⟨H,lo⟩=some c/\bb x.back bk p H lo (Bk x) c:=by
 refine cH P7 λN b=>?_
 have a:=hx.s.gv.cut x.c.r;have hw:=λH lo=>lx (arz x.s.O (jf x.s.T x.c.r).1 a.ok a.tr x.c.r hx.c.r x.aa (by have:=hx.t;omega) H lo)
 simp only[F1,go_sem,simprocAttr,P7,b,ho.g,ho.s,ho.g2,ho.s2,↓CL,CS,M2 ho hx x.c.r hx.c.r,λB lo=>SP (ho.app B) lo hx.s x.c.r hx.c.r,hw,uU,λH=>gQ (yG x.s.O (jf x.s.T x.c.r).1 x.c.r x.aa).2 H,dN,dO,EP,OL b,gl]
 (repeat' (first| (refine⟨?_,?_⟩)|intro _))<;>(simp only[Bk,wy,uU,gC,okB,cX, *];first|exact bb.err ho|exact bb.mq|exact bb.set rfl rfl)
theorem aht: ∃t,D XA (.fn (.func 239) [] []) [.ptr p 0] ⟨H,lo⟩=some t/\bb x.back bk p H lo (sj x) t:=by
 refine cH El λN h=>?_
 have u:=hx.t;have s: (x.aa:Int)<8:=by omega
 have r:784+x.aa*19<=945:=by omega
 have o:=λbk=> @KE x bk x.aa hx.t
 have d:=λbk b=> @KF x bk x.aa b hx.t
 have f:=λH lo=>lx (asg (x.s.cY x.aa) (hx.s.bx _) H lo)
 have i:=(hx.s.bx x.aa).take;have l:bm (x.bx x.aa (l9 (x.s.cY x.aa)).1).s:=hx.s.BM i.1;have m:=i.2.aN;have hw:=λB lo=>KN (x:=x.bx x.aa (l9 (x.s.cY x.aa)).1) (bk:=bk) ((ho.set _).app B) lo l (l9 (x.s.cY x.aa)).2.1.aN m x.aa (by omega)
 generalize n:l9 (x.s.cY x.aa)=g at*;simp only[nW]at f;have e:N+1+1=N+2:=rfl;by_cases j:g.2.1.aN=0
 ·have a:decide ((g.2.1.aN:Int)=0)=true:=ac5 (by omega);have k: (g.2.1.aN≠0/\g.2.1.share=false)=False:=axx λq=>q.1 j
  simp only[F1,go_sem,simprocAttr,El,h,ho.g,ho.s,↓CL,CS,f,s,↓o,d,r,e,a,MB,λH=>gQ g.2.2 H,dN,dO,EP,OL h];clear j a
  (repeat' (first| (refine⟨?_,?_⟩)|intro _))<;>(simp only[sj,n,k,ahz];simp only[gC,okB,cX, *];first|exact bb.err ho|exact bb.set rfl rfl)
 ·have a:decide ((g.2.1.aN:Int)=0)=false:=acK (by omega);cases c:g.2.1.share with
  |true=>
   rw[c]at f;have k: (g.2.1.aN≠0/\g.2.1.share=false)=False:=axx λq=>by rw[c]at q;cases q.2
   simp only[F1,go_sem,simprocAttr,El,h,ho.g,ho.s,↓CL,CS,f,s,↓o,d,r,e,a,MB,λH=>gQ g.2.2 H,dN,dO,EP,OL h];clear j a c
   (repeat' (first| (refine⟨?_,?_⟩)|intro _))<;>(simp only[sj,n,k,ahz];simp only[gC,okB,cX, *];first|exact bb.err ho|exact bb.set rfl rfl)
  |false=>
   rw[c]at f;have k: (g.2.1.aN≠0/\g.2.1.share=false)=True:=axz ⟨j,c⟩;simp only[F1,go_sem,simprocAttr,El,h,ho.g,ho.s,ho.g2,ho.s2,↓CL,CS,f,s,↓o,d,r,e,a,hw,ahs,MB,λH=>gQ g.2.2 H,dN,dO,EP,iT,OL h];clear j a c
   (repeat' (first| (refine⟨?_,?_⟩)|intro _))<;>(simp only[sj,n,k,aeE];simp only[mX,ahs,gC,okB,cX, *];first|exact bb.err ho|exact bb.mq|exact bb.set rfl rfl)
end
def asV(c:gO t.b): (ln t a n).2.1<4294967296:=by
 unfold ln;split
 ·simp
 ·split
  ·simp
  ·split
   ·rename_i i b;exact EJ (sg b).1 (c i).1
   grind
def ahu(b:gO t.b): (hY t a n).2.1<4294967296:=by
 unfold hY;dsimp only;split
 ·simp
 ·exact asV b
section
variable{x:aB}{bk:AV}{p:Nat}{H:List ae}{lo:oN}(ho:Old p H (.box (aZ x bk) none))(hx:mo x)
include ho hx
theorem asW: ∃i,D XA (.fn (.func 225) [] []) [.ptr p 0] ⟨H,lo⟩=some i/\bb x.back bk p H lo (wz x) i:=by
 refine cH Jy λN d=>?_
 have j:=hx.t;have g:=λH lo=>lx (ara x.s.T hx.s.T hx.s.tr x.c.r (min x.c.a 65) hx.c.r H lo)
 have em: ((min x.c.a 65:Nat):Int)=min (x.c.a:Int) 65:=by omega
 have e:bm (x.t (hY x.s.T x.c.r (min x.c.a 65)).1).s:=hx.s.uS (hx.s.gv.new _ _ hx.c.r);have f: (hY x.s.T x.c.r (min x.c.a 65)).2.1<4294967296:=ahu hx.s.T.b;have hw:=λB lo=>KN (x:=x.t (hY x.s.T x.c.r (min x.c.a 65)).1) (bk:=bk) ((ho.set _).app B) lo e _ f x.aa (by omega)
 have h:=λH=>gQ (hY x.s.T x.c.r (min x.c.a 65)).2.2 H
 have e1:wz x=(if x.c.r≠0 then fK x x.c.r 1 else .ok ())>>=λ_=>cC (hY x.s.T x.c.r (min x.c.a 65)).2.2>>=λ_=>(if x.c.r=0 then mX (x.t (hY x.s.T x.c.r (min x.c.a 65)).1) (hY x.s.T x.c.r (min x.c.a 65)).2.1 x.aa else .ok (x.t (hY x.s.T x.c.r (min x.c.a 65)).1))>>=λy=>.ok (y,{bO with w:=(hY x.s.T x.c.r (min x.c.a 65)).2.1}):=by
  unfold wz;by_cases q:x.c.r=0
  ·rw[acz (by simpa using q),acz (by simpa using q)];simp only[acE q];rfl
  ·rw[acE (by simpa using q),acE (by simpa using q)];simp only[acz q];rfl
 simp only[zf,em]at g;generalize hY x.s.T x.c.r (min x.c.a 65)=n at*;rw[e1];by_cases b:x.c.r=0
 ·have a:decide ((x.c.r:Int)=0)=true:=ac5 (by omega);have c: (x.c.r≠0)=False:=axx λq=>q b
  have e3: (x.c.r=0)=True:=axz b;simp only[c,e3,ahz,aeE];simp(disch:=omega) only[F1,go_sem,simprocAttr,Jy,d,ho.g,ho.s,ho.g2,ho.s2,↓CL,CS,g,a,h,hw,uU,cR,dN,dO,EP,OL d];clear b a c e3
  (repeat' (first| (refine⟨?_,?_⟩)|intro _))<;>(simp only[mX,uU,gC,okB,cX, *];first|exact bb.err ho|exact bb.mq|exact bb.set rfl rfl)
 ·have a:decide ((x.c.r:Int)=0)=false:=acK (by omega);have c: (x.c.r≠0)=True:=axz b;have e3: (x.c.r=0)=False:=axx b;simp only[c,e3,ahz,aeE];simp(disch:=omega) only[F1,go_sem,simprocAttr,Jy,d,ho.g,ho.s,ho.g2,↓CL,CS,M1 ho hx x.c.r hx.c.r,g,a,h,uU,cR,dN,dO,EP,OL d];clear b a c e3
  (repeat' (first| (refine⟨?_,?_⟩)|intro _))<;>(simp only[okB,cX, *];first|exact bb.err ho|exact bb.mq|exact bb.set rfl rfl)
theorem asX: ∃I,D XA (.fn (.func 236) [] []) [.ptr p 0] ⟨H,lo⟩=some I/\bb x.back bk p H lo (uG x) I:=by
 refine cH yt λN h=>?_
 have M:=hx.t;have l:=λB lo=>KK (ho.app B) lo x.c.a
 by_cases G:x.c.a<8
 ·have y: ∀b H lo,D XA (.fn (.func 116) [] []) [.bool b,.int .i64 2] ⟨H,lo⟩=_:=λb=>kW b 2
  have v: ∀b H lo,D XA (.fn (.func 116) [] []) [.bool b,.int .i64 4] ⟨H,lo⟩=_:=λb=>kW b 4
  have u: ∀b H lo,D XA (.fn (.func 116) [] []) [.bool b,.int .i64 5] ⟨H,lo⟩=_:=λb=>kW b 5
  have L:decide (x.c.b<=1)=decide ((x.c.b:Int)<=1):=aev.2 (by omega);have s:decide (x.c.b=1)=decide ((x.c.b:Int)=1):=aev.2 (by omega);have d:=λH lo=>lx (ew x.s.T.b x.c.r hx.c.r H lo)
  have C:az x.s.T.b x.c.r=x.s.T.az x.c.r:=rfl;rw[C]at d;have o:=λH lo=>ly (arN x.s.K hx.s.K ⟨x.c.r,x.aa % 256,x.c.a % 256,decide (x.c.b=1),x.c.s⟩ ⟨hx.c.r,amw _ (by omega),amw _ (by omega),hx.c.s⟩ H lo)
  have F:x.aa % 256=x.aa:=amo (by omega);have E:x.c.a % 256=x.c.a:=amo (by omega);simp only[m6,F,E,s]at o;have t:=λH=>gQ (kN x.s.K ⟨x.c.r,x.aa,x.c.a,decide ((x.c.b:Int)=1),x.c.s⟩).2.2 H
  have k:=λH lo=>lx (Bz x.s.O hx.s.O x.s.T hx.s.T hx.s.tr x.c.r hx.c.r H lo)
  have A:=hx.s.O.of x.s.T x.c.r;have j:=λH lo=>lx (BA x.s.K hx.s.K x.c.s hx.c.s H lo)
  have z:=hx.s.K.get x.c.s;have e1:uG x=mb x x.c.a>>=λ_=>ask (decide ((x.c.b:Int)<=1)) 2>>=λ_=>ask (x.s.T.az x.c.r) 4>>=λ_=>(if x.c.s=0 then ask (decide ((b0 x.s.O x.s.T x.c.r).kind=1)&&decide ((b0 x.s.O x.s.T x.c.r).aa=x.aa)) 5 else cC (ch x.s.K x.c.s).2>>=λ_=>ask (decide ((ch x.s.K x.c.s).1.to=x.aa)&&decide ((ch x.s.K x.c.s).1.aN=x.c.r)) 5)>>=λ_=>
    cC (kN x.s.K ⟨x.c.r,x.aa,x.c.a,decide ((x.c.b:Int)=1),x.c.s⟩).2.2>>=λ_=>.ok (x.k (kN x.s.K ⟨x.c.r,x.aa,x.c.a,decide ((x.c.b:Int)=1),x.c.s⟩).1,{bO with w:=(kN x.s.K ⟨x.c.r,x.aa,x.c.a,decide ((x.c.b:Int)=1),x.c.s⟩).2.1}):=by
   unfold uG;rw[L,s,F,E];by_cases q:x.c.s=0
   ·simp only[acE q];rfl
   ·simp only[acz q];cases mb x x.c.a with
    |error e=>rfl
    |ok _=>
     simp only[okB];cases ask (decide ((x.c.b:Int)<=1)) 2 with
     |error e=>rfl
     |ok _=>
      simp only[okB];cases ask (x.s.T.az x.c.r) 4 with
      |error e=>rfl
      |ok _=>
       simp only[okB];cases cC (ch x.s.K x.c.s).2<;>rfl
  rw[e1];generalize kN x.s.K ⟨x.c.r,x.aa,x.c.a,decide ((x.c.b:Int)=1),x.c.s⟩=g at*;generalize b0 x.s.O x.s.T x.c.r=w at*;generalize ch x.s.K x.c.s=tg at*;simp only[jx]at k;by_cases m:x.c.s=0
  ·have c:decide ((x.c.s:Int)=0)=true:=ac5 (by omega);have e3: (x.c.s=0)=True:=axz m;simp only[e3,aeE];by_cases f:w.kind=1
   ·have a:decide ((w.kind:Int)=1)=true:=ac5 (by omega);have r:decide (w.aa=x.aa)=decide ((w.aa:Int)=x.aa):=aev.2 (by omega);have J:=A.aa;simp only[f,r,decide_true,aha];simp(disch:=omega) only[F1,go_sem,simprocAttr,yt,h,ho.g,ho.s,↓CL,CS,l,y,d,v,c,k,a,u,o,t,pc,dN,dO,EP,iT,OL h];clear m c e3 f a r
    (repeat' (first| (refine⟨?_,?_⟩)|intro _))<;>(simp only[okB,cX, *];first|exact bb.err ho|exact bb.mq|exact bb.set rfl rfl)
   ·have a:decide ((w.kind:Int)=1)=false:=acK (by omega);have i:decide (w.kind=1)=false:=acK f;simp only[i,afH];simp(disch:=omega) only[F1,go_sem,simprocAttr,yt,h,ho.g,ho.s,↓CL,CS,l,y,d,v,c,k,a,u,o,t,pc,dN,dO,EP,iT,OL h];clear m c e3 f a i
    (repeat' (first| (refine⟨?_,?_⟩)|intro _))<;>(simp only[okB,cX, *];first|exact bb.err ho|exact bb.mq|exact bb.set rfl rfl)
  ·have c:decide ((x.c.s:Int)=0)=false:=acK (by omega);have e3: (x.c.s=0)=False:=axx m;simp only[e3,ahz];simp only[fC]at j;have K:=z.to;have n:=λH=>gQ tg.2 H
   by_cases f:tg.1.to=x.aa
   ·have a:decide ((tg.1.to:Int)=x.aa)=true:=ac5 (by omega);have r:decide (tg.1.aN=x.c.r)=decide ((tg.1.aN:Int)=x.c.r):=aev.2 (by omega);have i:decide (tg.1.to=x.aa)=true:=ac5 f;simp only[i,r,aha];simp(disch:=omega) only[F1,go_sem,simprocAttr,yt,h,ho.g,ho.s,↓CL,CS,l,y,d,v,c,j,n,a,u,o,t,pc,dN,dO,EP,iT,OL h];clear m c e3 f a i r
    (repeat' (first| (refine⟨?_,?_⟩)|intro _))<;>(simp only[okB,cX, *];first|exact bb.err ho|exact bb.mq|exact bb.set rfl rfl)
   ·have a:decide ((tg.1.to:Int)=x.aa)=false:=acK (by omega);have i:decide (tg.1.to=x.aa)=false:=acK f;simp only[i,afH];simp(disch:=omega) only[F1,go_sem,simprocAttr,yt,h,ho.g,ho.s,↓CL,CS,l,y,d,v,c,j,n,a,u,o,t,pc,dN,dO,EP,iT,OL h];clear m c e3 f a i
    (repeat' (first| (refine⟨?_,?_⟩)|intro _))<;>(simp only[okB,cX, *];first|exact bb.err ho|exact bb.mq|exact bb.set rfl rfl)
 ·rw[wW G]at l;simp(disch:=omega) only[F1,go_sem,simprocAttr,yt,h,ho.g,↓CL,l,dS,EP];simp only[uG,cX,wW G];exact bb.err ho
end
section
variable{x:aB}{bk:AV}{p:Nat}{H:List ae}{lo:oN}(ho:Old p H (.box (aZ x bk) none))(hx:mo x)
include ho hx
theorem asY: ∃E,D XA (.fn (.func 238) [] []) [.ptr p 0] ⟨H,lo⟩=some E/\bb x.back bk p H lo (qG x) E:=by
 refine cH yu λN f=>?_
 have G:=hx.t;have l:=λB lo=>KK (ho.app B) lo x.c.a
 by_cases u:x.c.a<8
 ·have w: (x.c.a:Int)<8:=by omega
  have v:784+x.c.a*19<=945:=by omega
  have t:=λ (y:aB) bk=> @KE y bk x.c.a u
  have d:=λ (y:aB) bk b=> @KF y bk x.c.a b u
  have z: ∀b H lo,D XA (.fn (.func 116) [] []) [.bool b,.int .i64 2] ⟨H,lo⟩=_:=λb=>kW b 2
  have i:decide (x.c.b<=1)=decide ((x.c.b:Int)<=1):=aev.2 (by omega);have g:x.aa % 256=x.aa:=amo (by omega);have F:=hx.c.v;by_cases h:x.c.r=0
  ·have a:decide ((x.c.r:Int)=0)=true:=ac5 (by omega);have j: (x.c.r≠0)=False:=axx λq=>q h
   have es: (decide (x.c.r≠0)&&decide (x.c.b=1))=false:=by rw[acK (by simpa using h)];rfl
   have e:=λH lo=>lx (SA (x.s.cY x.c.a) (hx.s.bx _) ⟨x.aa,x.c.v,x.c.r,false⟩ H lo)
   simp only[nW]at e;have m:=λH=>gQ (nP (x.s.cY x.c.a) ⟨x.aa,x.c.v,x.c.r,false⟩).2 H
   simp(disch:=omega) only[F1,go_sem,simprocAttr,yu,f,ho.g,ho.s,↓CL,CS,l,z,a,w,v,↓t,d,e,m,MB,dN,dO,EP,OL f];simp only[qG,es,aek,ahz,i,g];simp only[j,ahz];clear h a j es i g
   (repeat' (first| (refine⟨?_,?_⟩)|intro _))<;>(simp only[gC,okB,cX, *];first|exact bb.err ho|exact bb.mq|exact bb.set rfl rfl)
  ·have a:decide ((x.c.r:Int)=0)=false:=acK (by omega);have j: (x.c.r≠0)=True:=axz h;by_cases s:x.c.b=1
   ·have c:decide ((x.c.b:Int)=1)=true:=ac5 (by omega);have es: (decide (x.c.r≠0)&&decide (x.c.b=1))=true:=by rw[ac5 (by simpa using h),ac5 s];rfl
    have r:=λH lo=>lx (agn x.s.O hx.s.O x.s.T hx.s.T hx.s.tr x.c.r hx.c.r x.c.a (by omega) H lo)
    have e:=λH lo=>lx (SA (x.s.cY x.c.a) (hx.s.bx _) ⟨x.aa,x.c.v,x.c.r,true⟩ H lo)
    simp only[nW]at e;have m:=λH=>gQ (nP (x.s.cY x.c.a) ⟨x.aa,x.c.v,x.c.r,true⟩).2 H
    by_cases k: (dv x.s.O x.s.T x.c.r x.c.a true).2.2=0
    ·have k':decide (((dv x.s.O x.s.T x.c.r x.c.a true).2.2:Int)=0)=true:=ac5 (by omega);simp(disch:=omega) only[F1,go_sem,simprocAttr,yu,f,ho.g,ho.s,ho.g2,ho.s2,↓CL,CS,l,z,a,c,λB lo=>E9 (ho.app B) lo hx.s hx.t x.c.r hx.c.r,r,k',w,v,↓t,d,e,m,MB,gl,KO,dN,dO,EP,OL f];simp only[qG,es,aeE,i,g,yS];have n: ((dv x.s.O x.s.T x.c.r x.c.a true).2.2=0)=True:=axz k;simp only[n,aeE];clear h a j es i g k k' n s c
     (repeat' (first| (refine⟨?_,?_⟩)|intro _))<;>(simp only[KO,gC,okB,cX, *];first|exact bb.err ho|exact bb.mq|exact bb.set rfl rfl)
    ·have k':decide (((dv x.s.O x.s.T x.c.r x.c.a true).2.2:Int)=0)=false:=acK (by omega);simp(disch:=omega) only[F1,go_sem,simprocAttr,yu,f,ho.g,ho.s,↓CL,CS,l,z,a,c,λB lo=>E9 (ho.app B) lo hx.s hx.t x.c.r hx.c.r,r,k',w,v,↓t,d,e,m,MB,gl,dN,dO,EP,OL f];simp only[qG,es,aeE,i,g,yS];have n: ((dv x.s.O x.s.T x.c.r x.c.a true).2.2=0)=False:=axx k;simp only[n,ahz];clear h a j es i g k k' n s c
     (repeat' (first| (refine⟨?_,?_⟩)|intro _))<;>(simp only[gC,okB,cX, *];first|exact bb.err ho|exact bb.mq|exact bb.set rfl rfl)
   ·have c:decide ((x.c.b:Int)=1)=false:=acK (by omega);have es: (decide (x.c.r≠0)&&decide (x.c.b=1))=false:=by rw[acK s,aoI]
    have o:=hx.s.gv.cut x.c.r;have A:=λH lo=>lx (arA x.s.O (jf x.s.T x.c.r).1 o.ok o.tr x.c.r hx.c.r H lo)
    have C:=λH=>gQ (wo x.s.O (jf x.s.T x.c.r).1 x.c.r).2 H
    have e:=λH lo=>lx (SA (x.s.cY x.c.a) (hx.s.bx _) ⟨x.aa,x.c.v,x.c.r,false⟩ H lo)
    simp only[nW]at e;have m:=λH=>gQ (nP (x.s.cY x.c.a) ⟨x.aa,x.c.v,x.c.r,false⟩).2 H
    simp(disch:=omega) only[F1,go_sem,simprocAttr,yu,f,ho.g,ho.s,ho.g2,ho.s2,↓CL,CS,l,z,a,c,M2 ho hx x.c.r hx.c.r,λB lo=>SP (ho.app B) lo hx.s x.c.r hx.c.r,A,C,w,v,↓t,d,e,m,MB,gl,KO,uU,dN,dO,EP,OL f];simp only[qG,es,aek,ahz,i,g];simp only[j,aeE];clear h a j es i g s c
    (repeat' (first| (refine⟨?_,?_⟩)|intro _))<;>(simp only[wy,uU,KO,gC,okB,cX, *];first|exact bb.err ho|exact bb.mq|exact bb.set rfl rfl)
 ·rw[wW u]at l;simp(disch:=omega) only[F1,go_sem,simprocAttr,yu,f,ho.g,↓CL,l,dS,EP];simp only[qG,cX,wW u];exact bb.err ho
end
theorem SR{r:df}{l:List aF}:aM (bR r) 2 [en l,.int .i64 n]=bR {r with runs:=l,len:=n}:=rfl
def ahv(l:List aF)(r:aF):aU (l++[r])=aU l+r.2:=by unfold aU;simp
def BN{l:List aF}{s:Nat}(h:gP l n s a=some k):k+s<=aU l*32:=by
 unfold gP at h
 grind
section
variable{x:aB}{bk:AV}{p:Nat}{H:List ae}{lo:oN}(ho:Old p H (.box (aZ x bk) none))(hx:mo x)
include ho hx
theorem asZ: ∃cr,D XA (.fn (.func 226) [] []) [.ptr p 0] ⟨H,lo⟩=some cr/\bb x.back bk p H lo (mc x) cr:=by
 refine cH yr λN G=>?_
 have ht:=hx.t;have o: ((min x.c.a 129:Nat):Int)=min (x.c.a:Int) 129:=by omega
 have m: ((min x.c.b 9:Nat):Int)=min (x.c.b:Int) 9:=by omega
 have u:min x.c.a 129<2147483648:=by omega
 have F:min x.c.b 9<2147483648:=by omega
 have d:=λH lo=>lx (aq3 (min x.c.a 129) (min x.c.b 9) u F H lo)
 have T: ∀b H lo,D XA (.fn (.func 116) [] []) [.bool b,.int .i64 2] ⟨H,lo⟩=_:=λb=>kW b 2
 have W: ∀b H lo,D XA (.fn (.func 116) [] []) [.bool b,.int .i64 6] ⟨H,lo⟩=_:=λb=>kW b 6
 have E:=M1 ho hx x.c.r hx.c.r;have z:=λB lo=>KM (ho.app B) lo hx.s x.c.r hx.c.r
 have I:=hx.s.T.get x.c.r;have a:=I.rb;have xS:=I.len;have J: ∀l:List aF,(en l).refs=0:=λl=>cq (mN l) (bp (λ_=>rfl) l)
 have hrp:=I.aU;cases C:oX (min x.c.a 129) (min x.c.b 9)with
 |none=>
  rw[C]at d;simp only[o,m]at d;simp(disch:=omega) only[F1,go_sem,simprocAttr,yr,G,ho.g,↓CL,d,T,ask,dS,EP];simp only[mc,C,cX];exact bb.err ho
 |some n=>
  have hn5:n<=5:=by
   unfold oX at C;split at C
   ·cases C;omega
   ·cases C
  have f:=λH lo=>lx (agb (en (aL x.s.T x.c.r).1.runs) (aL x.s.T x.c.r).1.len (aL x.s.T x.c.r).1.runs (by omega) (mN _) a.1 (min x.c.a 129) (min x.c.b 9) u F H lo)
  have i:=λH lo=>lx (agc (en (aL x.s.T x.c.r).1.runs) (aL x.s.T x.c.r).1.len (aL x.s.T x.c.r).1.runs (by omega) (mN _) a.1 (min x.c.a 129) (min x.c.b 9) u F H lo)
  rw[C]at d;cases O:gP (aL x.s.T x.c.r).1.runs (aL x.s.T x.c.r).1.len (min x.c.a 129) (min x.c.b 9)with
  |some k=>
   have hk:=BN O;have V:uL (aL x.s.T x.c.r).1.runs (aL x.s.T x.c.r).1.len (min x.c.a 129) (min x.c.b 9)=k+min x.c.a 129:=by unfold uL;rw[O]
   have e:=λB lo=>SQ (ho.app B) lo hx.s x.c.r hx.c.r {(aL x.s.T x.c.r).1 with len:=k+min x.c.a 129} a.1 (by have:=a.2;show(aL x.s.T x.c.r).1.runs.length<=65;omega) (by show k+min x.c.a 129<4294967296;omega)
   rw[V,O]at i;simp only[O,wJ]at f;generalize hsv:min x.c.a 129=sz at*;generalize hav:min x.c.b 9=al at*;have U:aM (bR (aL x.s.T x.c.r).1) 2 [en (aL x.s.T x.c.r).1.runs,.int .i64 ((k:Int)+sz)]=bR {(aL x.s.T x.c.r).1 with len:=k+sz}:=by
    rw[<-amj];exact SR
   simp(disch:=omega) only[F1,go_sem,simprocAttr,yr,G,ho.g,ho.s,↓CL,d,T,E,z,f,i,e,U,J,<-o,<-m,kb,dN,dO,EP,iT,OL G];have L:=zj (x:=x) (h:=x.c.r) (w:=1)
   (repeat' (first| (refine⟨?_,?_⟩)|intro _))<;>first
     | (simp only[mc,nQ,gC,okB,cX, *];first|exact bb.err ho|exact bb.set rfl rfl)
     | (exfalso;simp_all[ask])
  |none=>
   have A:=λH lo=>lx (Kt (en (aL x.s.T x.c.r).1.runs) (aL x.s.T x.c.r).1.len (aL x.s.T x.c.r).1.runs (mN _) a.1 H lo)
   have M:=λH lo=>lx (aq7 (en (aL x.s.T x.c.r).1.runs) (aL x.s.T x.c.r).1.len (aL x.s.T x.c.r).1.runs (mN _) a.1 x.run H lo)
   have g:RB ((aL x.s.T x.c.r).1.runs++[x.run]):=⟨by have:=a.2;simp;omega,λy hy=>by
    rcases ac8.1 hy with q|q
    ·exact a.1.2 y q
    ·rw[ada.1 q];exact hx.run⟩
   have S: ((aL x.s.T x.c.r).1.runs++[x.run]).length<=65:=by have:=a.2;simp;omega
   have CZ:=ahv (aL x.s.T x.c.r).1.runs x.run;have j:aU (aL x.s.T x.c.r).1.runs*32<4294967296:=by omega
   have R:=λH lo=>lx (aga (en ((aL x.s.T x.c.r).1.runs++[x.run])) (aU (aL x.s.T x.c.r).1.runs*32) ((aL x.s.T x.c.r).1.runs++[x.run]) j (mN _) g S H lo)
   have i:=λH lo=>lx (agc (en ((aL x.s.T x.c.r).1.runs++[x.run])) (aU (aL x.s.T x.c.r).1.runs*32) ((aL x.s.T x.c.r).1.runs++[x.run]) j (mN _) g (min x.c.a 129) (min x.c.b 9) u F H lo)
   have K:decide (aU (aL x.s.T x.c.r).1.runs+n<=(aL x.s.T x.c.r).1.du)=decide (((aU (aL x.s.T x.c.r).1.runs:Nat):Int)+n<=(aL x.s.T x.c.r).1.du):=aev.2 (by omega);have t:IntKind.i64.wrap ((aU (aL x.s.T x.c.r).1.runs:Nat)+(n:Int))=(aU (aL x.s.T x.c.r).1.runs:Nat)+(n:Int):=wrap_i64 (by omega) (by omega);simp only[O,wJ]at f;cases has:x.asks with
   |true=>
    simp(disch:=omega) only[F1,go_sem,simprocAttr,yr,G,ho.g,ho.s,ho.g2,↓CL,CS,d,T,W,E,z,f,A,t,has,<-o,<-m,kb,dN,dO,EP,iT,OL G];have L:=zj (x:=x) (h:=x.c.r) (w:=1)
    (repeat' (first| (refine⟨?_,?_⟩)|intro _))<;>first
      | (simp only[mc,gC,okB,cX,aeE, *];first|exact bb.err ho|exact bb.set rfl rfl)
      | (exfalso;simp_all[ask])
   |false=>
    by_cases Z:x.run.2=n
    ·have r:decide ((x.run.2:Int)=n)=true:=ac5 (by omega);have Q:uL ((aL x.s.T x.c.r).1.runs++[x.run]) (aU (aL x.s.T x.c.r).1.runs*32) (min x.c.a 129) (min x.c.b 9)<4294967296:=by
      unfold uL;split
      ·rename_i q;have:=BN q;omega
      ·omega
     have P:IntKind.u64.wrap (((gP ((aL x.s.T x.c.r).1.runs++[x.run]) (aU (aL x.s.T x.c.r).1.runs*32) (min x.c.a 129) (min x.c.b 9)).getD 0:Nat):Int)=((gP ((aL x.s.T x.c.r).1.runs++[x.run]) (aU (aL x.s.T x.c.r).1.runs*32) (min x.c.a 129) (min x.c.b 9)).getD 0:Nat):=by
      cases q:gP ((aL x.s.T x.c.r).1.runs++[x.run]) (aU (aL x.s.T x.c.r).1.runs*32) (min x.c.a 129) (min x.c.b 9)with
      |none=>rfl
      |some k=>have:=BN q;exact wrap_u64 (by simp) (by simp;omega)
     have e1:mc x=fK x x.c.r 1>>=λ_=>cC (aL x.s.T x.c.r).2>>=λ_=>ask (decide (((aU (aL x.s.T x.c.r).1.runs:Nat):Int)+n<=(aL x.s.T x.c.r).1.du)) 6>>=λ_=>ask (oV ((aL x.s.T x.c.r).1.runs++[x.run]) (aU (aL x.s.T x.c.r).1.runs*32)) 2>>=λ_=>
       nQ {s:=x.s,aa:=x.aa,c:=x.c,run:=x.run,ma:=n,asks:=false,back:=x.back} x.c.r {(aL x.s.T x.c.r).1 with runs:=(aL x.s.T x.c.r).1.runs++[x.run],len:=uL ((aL x.s.T x.c.r).1.runs++[x.run]) (aU (aL x.s.T x.c.r).1.runs*32) (min x.c.a 129) (min x.c.b 9)}>>=λy=>
       .ok (y,{bO with v:=(gP ((aL x.s.T x.c.r).1.runs++[x.run]) (aU (aL x.s.T x.c.r).1.runs*32) (min x.c.a 129) (min x.c.b 9)).getD 0}):=by
      unfold mc;simp only[C,O,K,has,Z,decide_true,aha,aek,ahz,gC,okB];rfl
     have e:=λB lo=>SQ (x:={s:=x.s,aa:=x.aa,c:=x.c,run:=x.run,ma:=n,asks:=false,back:=x.back}) (bk:=bk) ((ho.set _).app B) lo hx.s x.c.r hx.c.r
      {(aL x.s.T x.c.r).1 with runs:=(aL x.s.T x.c.r).1.runs++[x.run],len:=uL ((aL x.s.T x.c.r).1.runs++[x.run]) (aU (aL x.s.T x.c.r).1.runs*32) (min x.c.a 129) (min x.c.b 9)} g S Q
     simp(disch:=omega) only[F1,go_sem,simprocAttr,yr,G,ho.g,ho.s,ho.g2,ho.s2,↓CL,CS,d,T,W,E,z,f,A,M,t,has,J,r,R,i,e,P,SR,<-o,<-m,kb,dN,dO,EP,iT,OL G];have L:=zj (x:=x) (h:=x.c.r) (w:=1);rw[e1];clear e Q P r e1 R i M A K t j
     (repeat' (first| (refine⟨?_,?_⟩)|intro _))<;>first
       | (simp only[nQ,gC,okB,cX, *];first|exact bb.err ho|exact bb.mq|exact bb.set rfl rfl)
       | (exfalso;simp_all[ask])
    ·have r:decide ((x.run.2:Int)=n)=false:=acK (by omega);have e1:mc x=fK x x.c.r 1>>=λ_=>cC (aL x.s.T x.c.r).2>>=λ_=>ask (decide (((aU (aL x.s.T x.c.r).1.runs:Nat):Int)+n<=(aL x.s.T x.c.r).1.du)) 6>>=λ_=>.error 2:=by
      unfold mc;simp only[C,O,K,has,acK Z,afH,aek,ahz,gC,okB];rfl
     have Y: ∀H lo,D XA (.fn (.func 116) [] []) [.bool false,.int .i64 2] ⟨H,lo⟩=_:=λH lo=>lx (zh 2 H lo)
     have X: ∀H lo,D XA (.fn (.func 116) [] []) [.bool true,.int .i64 2] ⟨H,lo⟩=_:=λH lo=>lx (E6 2 H lo)
     simp(disch:=omega) only[F1,go_sem,simprocAttr,yr,G,ho.g,ho.s,ho.g2,↓CL,CS,d,Y,X,W,E,z,f,A,M,t,has,J,r,SR,<-o,<-m,kb,dN,dO,EP,iT,OL G];have L:=zj (x:=x) (h:=x.c.r) (w:=1);rw[e1]
     (repeat' (first| (refine⟨?_,?_⟩)|intro _))<;>first
       | (simp only[okB,cX, *];first|exact bb.err ho|exact bb.mq|exact bb.set rfl rfl)
       | (exfalso;simp_all[ask])
end
structure bP(p:Nat)(H H':List ae):Prop where
 len:H.length<=H'.length
 low: ∀i,i<p->H'[i]?=H[i]?
 box: ∀i o,i≠p->(∀a d,o≠ .row a 2 fg d)->H[i]?=some o->H'[i]?=some o
theorem bP.refl(p:Nat)(H:List ae):bP p H H:=⟨aeg _,λ_ _=>rfl,λ_ _ _ _ h=>h⟩
theorem bP.trans{A B C:List ae}(h:bP p A B)(g:bP p B C):bP p A C:=
 ⟨afI h.len g.len,λi a=>(g.low i a).trans (h.low i a),λi o a ho b=>g.box i o a ho (h.box i o a ho b)⟩
def bP.app(p:Nat)(H L:List ae)(a:p<H.length):bP p H (H++L):=⟨by simp,λi b=>abP (by omega),λi o _ _ h=>bf h⟩
theorem bP.set(p:Nat)(H:List ae)(o:ae):bP p H (H.set p o):=⟨by simp,λi a=>abN (by omega),λi w a _ h=>by grind⟩
theorem bP.take{N:Nat}{A B:List ae}(h:bP p A B)(d:A.length=N)(c:p<N):bP p A (B.take N):=⟨by rw[aeD];have:=h.len;omega,λi a=>by rw[aez (by omega)];exact h.low i a,λi o a ho b=>by
 have:=(abQ.1 b).1;rw[aez (by omega)];exact h.box i o a ho b⟩
def bP.own{N:Nat}{A B:List ae}{ty:TypeId}{af:List lA}(h:bP p A B)(ho:aR N A v sz ty af)(k:p<N)(j:sz≠2):aR N B v sz ty af:=by
 obtain⟨i,b⟩:=ho;refine⟨i,?_⟩;rcases b with b| ⟨id,ai,g,f,c⟩
 ·grind
 ·exact .inr ⟨id,ai,g,f,h.box id _ (by omega) (λa d e=>by grind) c⟩
def ahw{E:AS}(l:List aF):Den.elems E 2 (en l)=some (l.map aA):=by
 unfold en;split
 ·rename_i h;rw[ayS.1 h];rfl
 ·exact aou (by simp[Rq])
structure At(p:Nat)(x:aB)(bk:AV)(H:List ae):Prop where
 box:H[p]?=some (.box (aZ x bk) none)
 own:aR (p+1) H bk 2 fg (x.back.map aA)
def uV(Q:Prop)(p:Nat)(H H':List ae)(lo aj:oN):Prop:=(aj=lo/\H'.length=H.length/\Q)\/aj=cK lo p
def ahx(l:lN): ∀x:aB,(l.foldl iN x).s.T=x.s.T:=by
 induction l with
 |nil=>simp
 |cons h l a=>intro x;exact a _
def SS(l:lN): ∀x:aB,bm x.s->bm (l.foldl iN x).s:=by
 induction l with
 |nil=>simp
 |cons h l b=>intro x a;exact b _ (a.BL (a.tok.clear h))
def ahy(l:lN): ∀x:aB,bL x.s.T->(l.foldl iN x).back.length<=x.back.length+64*l.length:=by
 induction l with
 |nil=>simp
 |cons h l b=>
  intro x a;have e:=b (iN x h) a;have d: (iN x h).back.length=x.back.length+(aL x.s.T h).1.runs.length:=by simp[iN]
  have c:=(a.get h).rb.2
  grind
def as0{x:aB}{l:lN}{k:Nat}(h:k<l.length): (l.take (k+1)).foldl iN x=iN ((l.take k).foldl iN x) (l.getD k default):=by grind [List.take_add_one,List.getElem?_eq_getElem,getD_eq]
def uW{H:List ae}(a:p<n):finish n lo v ⟨H,some p⟩=(v,⟨H,cK lo p⟩):=by
 unfold finish;rw[acz (by grind)];rfl
def SU{H:List ae}(K:At p x bk H)(c:bm x.s)(h:Nat)(hh:h<4294967296)(hB:x.back.length+64*(under x.s.T h).length<=4294967296)(lo:oN):
  ∃a H' aj,D XA (.fn (.func 258) [] []) [.ptr p 0,.int .u32 h] ⟨H,lo⟩=some (.ret (.av []) ⟨H',aj⟩)/\At p (gy x h) a H'/\bP p H H'/\uV (a=bk\/a= .an) p H H' lo aj:=by
 suffices c: ∃S,D XA (.fn (.func 258) [] []) [.ptr p 0,.int .u32 h] ⟨H,lo⟩=some S/\ (λS=> ∃a H' aj,S=aT.ret (.av []) ⟨H',aj⟩/\At p (gy x h) a H'/\bP p H H'/\uV (a=bk\/a= .an) p H H' lo aj) S by
  obtain⟨S,h1,a,H',aj,rfl,h2⟩:=c;exact⟨a,H',aj,h1,h2⟩
 refine cH Qg λN X=>?_
 have f:p<N:=by rw[<-X];exact(abQ.1 K.box).1
 obtain⟨v,J,lo1,V,u2,u3⟩:=Kq x.s.T c.T c.tr h hh N H X none;have V:=ly V;have hul:=EX c.tr h;have b:=(lE u2 lo1).bK;have hbp:=K.box;obtain⟨Y,m⟩: ∃Y,Y=H++J:=⟨_,rfl⟩;rw[<-m]at V u2 b;have w0:Y[p]?=some (.box (aZ x bk) none):=by rw[m];exact bf K.box
 have oC:bP p H Y:=by rw[m];exact bP.app p H J (by omega)
 simp only[↓R1,Zz,go_sem,simprocAttr,Qg,hbp,↓CL,V,b];refine iJ (under x.s.T h).length (λk e U aj=> ∃a,U[p]?=some (.box (aZ (((under x.s.T h).take k).foldl iN x) a) none)/\aR (p+1) U a 2 fg ((((under x.s.T h).take k).foldl iN x).back.map aA)/\bP p H U/\aR N U v 1 bZ ((under x.s.T h).map hC)/\
  ((dX N aj/\aR (p+1) (U.take N) a 2 fg ((((under x.s.T h).take k).foldl iN x).back.map aA)/\ (a=bk\/a= .an))\/aj=some p)/\e 0= .ptr p 0/\e 1= .int .u32 h/\e 15=v/\e 16= .int .i64 (under x.s.T h).length/\e 17= .int .i64 k) 0 (by omega) ?_ ?_
 ·simp only[↓anZ,Zz,go_sem,simprocAttr];refine⟨bk,w0,by rw[m];exact K.own.ext,oC,u2,.inl ⟨dX.of u3,?_,.inl rfl⟩⟩;rw[m,anW X];exact K.own
 rintro k hk e T u ⟨a,E,p1,F,p3,p4,e0,e1,Q,P,O⟩ n hn;have jl:=SS ((under x.s.T h).take k) x c;have d:=ahx ((under x.s.T h).take k) x;have Gx:=ahy ((under x.s.T h).take k) x c.T;rw[aeD]at Gx;have Ns:= @as0 x (under x.s.T h) k;generalize hy: ((under x.s.T h).take k).foldl iN x=y at*;have A:Old p T (.box (aZ y a) none):=⟨E⟩;simp only[cg,↓R1,Zz,go_sem,simprocAttr,adX,E,↓CL,e0,e1,Q,P,O];refine⟨λhc=>?_,λhc=>?_⟩
 ·have B:k< (under x.s.T h).length:=by omega
  have hr:=lE p3 u;have hg:=λH lo=>lx (uJ y.s.T (by rw[d];exact c.T) ((under x.s.T h).getD k default) (gi (Kr c.T (fE B))) H lo)
  simp(disch:=omega) only[↓R1,↓MP,Zz,aee,go_sem,simprocAttr,hr.cG,hr.cS,↓pH,hn,E,A.g,↓CL,hg,m0,ahw,e0];have xS:=(c.T.get ((under x.s.T h).getD k default)).rb.2;rw[d];generalize hR: (aL x.s.T ((under x.s.T h).getD k default)).1=R at*;refine⟨by omega,?_⟩;obtain⟨v',Z,q1,q2,q3,q4,q5⟩:=aR.abS (bytes:=16) (ys:=R.runs.map aA) (lo:=u) (aR.ext (L:=[ae.box (bR R) none]) p1) (by simp[hn];have:=F.len;omega) (by omega) (by intro el pT;obtain⟨r,_,rfl⟩:=ael.1 pT;rfl) (bp (λ_=>rfl) _) (by
   unfold room;simp only[aej];omega)
  have z:Z[p]?=some (.box (aZ y a) none):=by rw[q4 p (by omega)];exact A.g _
  have s:Old p Z (.box (aZ y a) none):=⟨z⟩;have ov:=λH lo=>ly (arP y.s.K jl.K ((under x.s.T h).getD k default) H lo)
  have hvt:v'.cm=false/\v'.cells=[v']:=by
   rcases q2.2 with⟨rfl,_⟩| ⟨_,_,_,rfl,_⟩<;>exact⟨rfl,rfl⟩
  rw[q1];simp(disch:=omega) only[↓anZ,↓R1,Zz,aef,go_sem,simprocAttr,hvt,z,s.g1,↓CL,CS,ov,e0,e1,Q,P,O];rw[ajO,Ns B];have l: (iN y ((under x.s.T h).getD k default)).back.map aA=y.back.map aA++R.runs.map aA:=by
   rw[<-aeq];unfold iN;rw[d,hR]
  have f2:bP p (T++[ae.box (bR R) none]) Z:=⟨q3,λi hi=>q4 i (by omega),λi o _ ho hg=>q5 i o ho hg⟩;have f3:=(bP.app p T [ae.box (bR R) none] (by have:=F.len;omega)).trans (f2.trans (bP.set p Z (.box (aZ (iN y ((under x.s.T h).getD k default)) v') none)));refine⟨B,v',s.g1 _,?_,F.trans f3,f3.own p3 f (by omega),?_⟩
  ·rw[l];exact aR.m5 q2 z
  ·by_cases W:v'.refs<=p+1
   ·rw[acE W];have g:v'= .an/\y.back.map aA++R.runs.map aA=[]:=by
     rcases q2.2 with q| ⟨id,ai,i1,i2,_⟩
     ·exact q
     ·rw[i2]at W;simp only[AV.refs]at W;omega
    rcases p4 with⟨G,_⟩|G
    ·refine .inl ⟨G,?_,.inr g.1⟩;rw[l,g.1,g.2];exact aR.an
    ·exact .inr G
   ·rw[acz W]
    right
    rcases p4 with⟨rfl| ⟨j,hj,rfl⟩,_⟩|rfl
    ·rfl
    ·exact afW some (aon (show p<=j by omega))
    ·exact afW some (awp p)
 ·obtain rfl:k=(under x.s.T h).length:=by omega
  have M:bL y.s.T:=by rw[d];exact c.T
  obtain⟨w,C⟩:=aqR y.s.T M (by rw[d];exact c.tr) h hh T u;have C:=ly C;have I:=A.set (.box (aZ (y.t (lq y.s.T h).1) a) none);have e2:gy x h=y.t (lq y.s.T h).1:=by
   unfold gy;rw[aeo]at hy;rw[hy]
  simp only[↓R1,Zz,go_sem,simprocAttr,E,CS,C];rw[e2];rw[asE];have t:=F.trans (bP.set p T (.box (aZ (y.t (lq y.s.T h).1) a) none));rcases p4 with⟨G,l2,l3⟩|rfl
  ·rw[iQ G (ac7 _)];refine⟨a,_,lo,rfl,⟨?_,?_⟩,t.take X f,.inl ⟨rfl,by rw[aeD,aen];have:=F.len;omega,l3⟩⟩
   ·rw[aez f];exact I.at'
   ·rw[List.take_set];exact aR.m5 l2 (by rw[aez f];exact E)
  ·rw[uW f];exact⟨a,_,_,rfl,⟨I.at',aR.m5 p1 E⟩,t,.inr rfl⟩
abbrev zk(p:Nat)(H H':List ae)(lo aj:oN):Prop:=uV True p H H' lo aj
def sE(p:Nat)(H:List ae)(lo:oN):R (aB×bB)->aT->Prop
 |.ok (y,r),a=> ∃b H' aj,a= .ret (.agg (bD r)) ⟨H',aj⟩/\At p y b H'/\bP p H H'/\zk p H H' lo aj
 |.error e,a=> ∃H' aj,a= .panic (iS e) ⟨H',aj⟩/\bP p H H'/\zk p H H' lo aj
def bb.c{H:List ae}(ha:At p x bk H){m:R (aB×bB)}{c:aT}(h:bb x.back bk p H lo m c):sE p H lo m c:=by
 cases m with
 |ok a=>
  obtain⟨f,b⟩:=h;have d:=(abQ.1 ha.box).1;exact⟨bk,_,lo,b,⟨by grind,by rw[f];exact aR.m5 ha.own ha.box⟩,bP.set _ _ _,.inl ⟨rfl,by simp,trivial⟩⟩
 |error e=>
  obtain⟨y,b⟩:=h;exact⟨_,lo,b,bP.set _ _ _,.inl ⟨rfl,by simp,trivial⟩⟩
def sE.err{H:List ae}:sE p H lo (.error e) (.panic (iS e) ⟨H,lo⟩):=⟨H,lo,rfl,bP.refl _ _,.inl ⟨rfl,rfl,trivial⟩⟩
theorem as3{N:Nat}{H B W:List ae}(r:H.length=N)(b:p<N)(l: ∀o∈B,∃cs tg,o=ae.box cs tg)(f:At p y bk W)(k:bP p (H++B) W)(i:W.length=(H++B).length):At p y bk (W.take N):=by
 refine⟨by rw[aez b];exact f.box,f.own.1,?_⟩;rcases f.own.2 with q| ⟨id,ai,n,m,h⟩
 ·grind
 ·by_cases j:id<N
  ·grind
  ·have c:=(abQ.1 h).1;rw[i,ac6]at c;have g: (H++B)[id]?=some B[id-N]:=by grind
   obtain⟨cs,tg,ho⟩:=l _ (as1 (show id-N<B.length by omega));rw[ho]at g;have:=k.box id _ (by omega) (λa d e=>by cases e) g
   grind
def SW{N:Nat}{H B W:List ae}(b:bP p (H++B) W)(a:p<H.length):bP p H W:=(bP.app p H B a).trans b
def ahA{N:Nat}{H W:List ae}(e:H.length=N)(d:p<N)(b:bP p H W)(o:ae):bP p H (W.set N o):=
 ⟨by rw[aen];exact b.len,λi a=>by rw[abN (by omega)];exact b.low i a,λi w a hw c=>by
   have:=(abQ.1 c).1;rw[abN (by omega)];exact b.box i w a hw c⟩
def zl{N:Nat}{H B W:List ae}{aj:oN}{Q:Prop}(i:H.length=N)(a:p<N)(n: ∀o∈B,∃cs tg,o=ae.box cs tg)(h:At p y bk W)(l:bP p (H++B) W)(d: (aj=none/\ (W.length=(H++B).length\/ (bk= .an/\y.back=[]))/\Q)\/aj=cK none p)(j:v.refs<=N)
  {cs:lA} {tg:Option TypeId} (g:W[N]?=some (.box cs tg)) (o:ae):
  ∃f b,finish N lo v ⟨W.set N o,aj⟩=(v,⟨f,b⟩)/\At p y bk f/\bP p H f/\uV Q p H f lo b:=by
 have c:=ahA i a (SW (N:=N) l (by omega)) o;rcases d with⟨rfl,d,k⟩|rfl
 ·refine⟨_,lo,iQ (.inl rfl) j,?_,c.take i a,.inl ⟨rfl,?_,k⟩⟩
  ·have:At p y bk (W.take N):=by
     rcases d with d| ⟨rfl,m⟩
     ·grind [as3]
     ·exact⟨by rw[aez a];exact h.box,by rw[m];exact aR.an⟩
   have e: (W.set N o).take N=W.take N:=by rw[List.take_set];exact List.set_eq_of_length_le (by grind)
   grind
  grind
 ·refine⟨_,cK lo p,?_,⟨?_,aR.m5 h.own g⟩,c,.inr rfl⟩
  ·have:cK none p=some p:=rfl;rw[this];exact uW a
  ·rw[abN (by omega)];exact h.box
def KP{N:Nat}{H B W:List ae}{aj:oN}(g:H.length=N)(c:p<N)(h:bP p (H++B) W)(f:aj=none\/aj=cK none p)(e:v.refs<=N):
  ∃d b,finish N lo v ⟨W,aj⟩=(v,⟨d,b⟩)/\bP p H d/\zk p H d lo b:=by
 have a:=SW (N:=N) h (by omega);rcases f with rfl|rfl
 ·refine⟨_,lo,iQ (.inl rfl) e,a.take g c,.inl ⟨rfl,?_,trivial⟩⟩;rw[aeD];have:=a.len;omega
 ·refine⟨_,cK lo p,?_,a,.inr rfl⟩;exact uW c
def BO{cs:lA}{tg:Option TypeId}: ∀o∈[ae.box cs tg],∃cs tg,o=ae.box cs tg:=by simp
section
variable{x:aB}{bk:AV}{p:Nat}{H:List ae}(lo:oN)(ha:At p x bk H)(hx:mo x)
include ha hx
theorem as4(j:x.back.length+64*(under x.s.T x.c.r).length<=4294967296): ∃h,D XA (.fn (.func 230) [] []) [.ptr p 0] ⟨H,lo⟩=some h/\sE p H lo (yO x) h:=by
 refine cH P4 λN f=>?_
 have ho:Old p H (.box (aZ x bk) none):=⟨ha.box⟩;have c:p<N:=by rw[<-f];exact ho.lt
 obtain⟨l,W,aj,g1,g2,g,k⟩:=SU (bk:=bk) (H:=H++[.box [.int .i64 0,.int .u64 0,.int .u32 0] none]) ⟨ho.g _,ha.own.ext⟩ hx.s x.c.r hx.c.r j none;have b:W[N]?=some (.box [.int .i64 0,.int .u64 0,.int .u32 0] none):=g.box N _ (by omega) (λa d e=>by cases e) (by grind);simp only[F1,go_sem,simprocAttr,P4,f,ho.g,↓CL,M2 ho hx x.c.r hx.c.r,g1,b,cT b,dN,dO,EP];obtain⟨m,i,f1,f2,f3,f4⟩:=zl (v:=.agg [.int .i64 0,.int .u64 0,.int .u32 0]) (lo:=lo) f c BO g2 g (k.imp (λq=>⟨q.1,.inl q.2.1,trivial⟩) id) (ac7 _) b (.box [.int .i64 0,.int .u64 0,.int .u32 0] none);rw[f1]
 (repeat' (first| (refine⟨?_,?_⟩)|intro _))
 ·simp only[yO,gC,okB, *];exact⟨_,_,_,rfl,f2,f3,f4⟩
 ·simp only[yO,cX, *];exact .err
theorem as5(hB:x.back.length<=4294967296): ∃S,D XA (.fn (.func 229) [] []) [.ptr p 0] ⟨H,lo⟩=some S/\sE p H lo (yN x) S:=by
 refine cH P3 λN k=>?_
 have ho:Old p H (.box (aZ x bk) none):=⟨ha.box⟩;have m:p<N:=by rw[<-k];exact ho.lt
 have G:=λB lo=>KM (ho.app B) lo hx.s x.c.r hx.c.r
 have F:=(hx.s.T.get x.c.r);have Y:=zj (x:=x) (h:=x.c.r) (w:=1);have e0:yN x=fK x x.c.r 1>>=λ_=>cC (aL x.s.T x.c.r).2>>=λ_=>nQ {x with back:=x.back++(aL x.s.T x.c.r).1.runs} x.c.r {dG with up:=0,du:=(aL x.s.T x.c.r).1.du}>>=λy=>.ok (y,bO):=rfl
 rw[e0];generalize hR: (aL x.s.T x.c.r).1=R at*;obtain⟨v',c,V,z,U,P,u⟩:=aR.abS (bytes:=16) (ys:=R.runs.map aA) (lo:=none) (aR.ext (L:=[ae.box [.int .i64 0,.int .u64 0,.int .u32 0] none,.box (bR R) none]) ha.own) (by simp[k];omega) (by omega) (by intro el J;obtain⟨r,_,rfl⟩:=ael.1 J;rfl) (bp (λ_=>rfl) _) (by
  have:=F.rb.2;unfold room;simp only[aej];omega)
 have C:v'.cm=false/\v'.cells=[v']:=by
  rcases z.2 with⟨rfl,_⟩| ⟨_,_,_,rfl,_⟩<;>exact⟨rfl,rfl⟩
 have j:c[p]?=some (.box (aZ x bk) none):=by rw[P p (by omega)];exact ho.g _
 have b:Old p c (.box (aZ x bk) none):=⟨j⟩;have w0:c[N]?=some (.box [.int .i64 0,.int .u64 0,.int .u32 0] none):=u N _ (λa d e=>by cases e) (by rw[di k];rfl);have w1:c[N+1]?=some (.box (bR R) none):=u (N+1) _ (λa d e=>by cases e) (by rw[bE k];rfl);have n:=b.set (.box (aZ {x with back:=x.back++R.runs} v') none);have f:=λlo=>SQ (x:={x with back:=x.back++R.runs}) (bk:=v') n lo hx.s x.c.r hx.c.r {dG with up:=0,du:=R.du} ⟨by simp[dG],by simp[dG]⟩ (by simp[dG]) (by simp[dG])
 have K:aZ {x with back:=x.back++R.runs} v'=aZ x v':=rfl;rw[K]at f;have M:N<c.length:=(abQ.1 w0).1;have E: ∀A B o,(((c.set p A).set p B).set N o)[N]?=some o:=λA B o=>ac9 (by simp only[aen];exact M)
 have I:p≠N:=by omega
 have X:p≠N+1:=by omega
 simp(disch:=omega) only[F1,go_sem,simprocAttr,P3,k,ho.g,↓CL,CS,M1 ho hx x.c.r hx.c.r,G,kb,ahw,V,C,j,w0,w1,b.g1,E,f,afw,dN,dO,EP,iT];have s: (if v'.refs<=p+1 then none else cK none p)=none/\ (v'= .an/\x.back++R.runs=[])\/ (if v'.refs<=p+1 then none else cK none p)=cK none p:=by
  by_cases t:v'.refs<=p+1
  ·rw[acE t];refine .inl ⟨rfl,?_⟩;rcases z.2 with⟨T,O⟩| ⟨id,ai,i1,i2,_⟩
   ·refine⟨T,?_⟩;rw[<-aeq]at O;exact aoq.1 O
   ·rw[i2]at t;simp only[AV.refs]at t;omega
  ·rw[acz t];exact .inr rfl
 have f0:bP p (H++[ae.box [.int .i64 0,.int .u64 0,.int .u32 0] none,.box (bR R) none]) c:=⟨U,λi hi=>P i (by omega),λi o _ ho Z=>u i o ho Z⟩;have f1:=f0.trans (bP.set p c (.box (aZ x v') none));generalize Q: (if v'.refs<=p+1 then none else cK none p)=aj at*
 (repeat' (first| (refine⟨?_,?_⟩)|intro _))
 ·rename_i g l m3;have hA:At p (({x with back:=x.back++R.runs}:aB).t (fD x.s.T x.c.r {dG with up:=0,du:=R.du}).1) v' ((c.set p (.box (aZ x v') none)).set p (.box (aZ (({x with back:=x.back++R.runs}:aB).t (fD x.s.T x.c.r {dG with up:=0,du:=R.du}).1) v') none)):=
   ⟨by rw[ajO];exact b.g1 _,by rw[ajO];show aR _ _ _ _ _ (List.map aA (x.back++R.runs));rw[aeq];exact aR.m5 z j⟩
  have f2:=f1.trans (bP.set p (c.set p (.box (aZ x v') none)) (.box (aZ (({x with back:=x.back++R.runs}:aB).t (fD x.s.T x.c.r {dG with up:=0,du:=R.du}).1) v') none));obtain⟨H3,W,g1,g2,g3,g4⟩:=zl (v:=.agg [.int .i64 0,.int .u64 0,.int .u32 0]) (lo:=lo) k m (B:=[ae.box [.int .i64 0,.int .u64 0,.int .u32 0] none,.box (bR R) none]) (by simp) hA f2 (s.imp (λq=>⟨q.1,.inr q.2,trivial⟩) id) (ac7 _)
   (by rw[ajO,abN I];exact w0) (.box [.int .i64 0,.int .u64 0,.int .u32 0] none)
  rw[g1];simp only[nQ,gC,okB,g,l,m3];exact⟨_,_,_,rfl,g2,g3,g4⟩
 ·rename_i g l e m3;obtain⟨E1,l1,e1,e2,e3⟩:=KP (v:=iS e) (lo:=lo) k m f1 (s.imp And.left id) (ac7 _);rw[e1];simp only[nQ,gC,okB,cX,g,l,m3];exact⟨_,_,rfl,e2,e3⟩
 ·rename_i g e l;simp only[okB,cX,g,l];exact .err
 ·rename_i e g;simp only[cX,g];exact .err
end
def as6{N:Nat}{H B W:List ae}{aj:oN}{Q:Prop}(g:H.length=N)(d:p<N)(i: ∀o∈B,∃cs tg,o=ae.box cs tg)(j:At p y bk W)(h:bP p (H++B) W)(f: (aj=none/\ (W.length=(H++B).length\/ (bk= .an/\y.back=[]))/\Q)\/aj=cK none p)(e:v.refs<=N)
  {cs:lA} {tg:Option TypeId} (b:W[N]?=some (.box cs tg)):
  ∃c a,finish N lo v ⟨W,aj⟩=(v,⟨c,a⟩)/\At p y bk c/\bP p H c/\uV Q p H c lo a:=by
 have:=zl (v:=v) (lo:=lo) g d i j h f e b (.box cs tg);rwa[o9 b]at this
def as7(bk:AV)(p:Nat)(H:List ae)(lo:oN):R aB->aT->Prop
 |.ok y,b=> ∃a H' aj,b= .ret (.av []) ⟨H',aj⟩/\At p y a H'/\bP p H H'/\uV (a=bk\/a= .an) p H H' lo aj
 |.error e,b=>b= .panic (iS e) ⟨H,lo⟩
section
variable{x:aB}{bk:AV}{p:Nat}{H:List ae}(lo:oN)(ha:At p x bk H)(hs:bm x.s)
include ha hs
theorem ahB(h:Nat)(n:h<4294967296)(aa:Nat)(I:aa<256)(J:x.back.length+64*(under x.s.T h).length<=4294967296):
  ∃A,D XA (.fn (.func 266) [] []) [.ptr p 0,.int .u32 h,.int .i64 aa] ⟨H,lo⟩=some A/\as7 bk p H lo (kQ x h aa) A:=by
 refine cH JJ λN f=>?_
 have ho:Old p H (.box (aZ x bk) none):=⟨ha.box⟩;have k:p<N:=by rw[<-f];exact ho.lt
 have y:=λH lo=>lx (arE x.s.O hs.O x.s.T hs.T hs.tr h n aa I H lo)
 have w:=λH=>gQ (dv x.s.O x.s.T h aa false).2.2 H
 have L:kQ x h aa=cC (dv x.s.O x.s.T h aa false).2.2>>=λ_=>.ok (if(dv x.s.O x.s.T h aa false).2.1=0 then gy (x.o (dv x.s.O x.s.T h aa false).1) h else x.o (dv x.s.O x.s.T h aa false).1):=rfl
 have l:fF (dv x.s.O x.s.T h aa false).1:=hs.O.held n;rw[L];have i:=ago hs.O (t:=x.s.T) (r:=h) (aa:=aa) (hold:=false);generalize dv x.s.O x.s.T h aa false=g at*;have s: ∀v,(H++[ae.box (cJ g.1) none]).set p v=H.set p v++[ae.box (cJ g.1) none]:=λv=>ho.s _ _
 have u:At p (x.o g.1) bk (H.set p (.box (aZ (x.o g.1) bk) none)++[ae.box (cJ g.1) none]):=⟨ho.g2 _ _,aR.ext (aR.m5 ha.own ha.box)⟩;obtain⟨M,W,aj,g1,g2,z,K⟩:=SU u (hs.uT l) h n J none;have f1:bP p (H++[ae.box (cJ g.1) none]) (H.set p (.box (aZ (x.o g.1) bk) none)++[ae.box (cJ g.1) none]):=by rw[<-s];exact bP.set _ _ _
 by_cases j:g.2.1=0
 ·have c:decide ((E5 g.2.1:Int)=0)=true:=ac5 (by rw[j];rfl);simp only[F1,go_sem,simprocAttr,JJ,f,ho.g,ho.s,↓CL,CS,y,w,c,g1,dN,dO,EP,gl];have o:W[N]?=some (.box (cJ g.1) none):=z.box N _ (by omega) (λa d e=>by cases e) (by rw[(OL f).1];rfl);have m: (H.set p (.box (aZ (x.o g.1) bk) none)++[ae.box (cJ g.1) none]).length=(H++[ae.box (cJ g.1) none]).length:=by simp
  obtain⟨O,B,G,F,E,C⟩:=as6 (v:=.av []) (lo:=lo) f k BO g2 (f1.trans z) (K.imp (λq=>⟨q.1,.inl (q.2.1.trans m),q.2.2⟩) id) (ac7 _) o;rw[G]
  (repeat' (first| (refine⟨?_,?_⟩)|intro _))
  ·rename_i b;simp only[b,okB,acE j];exact⟨_,_,_,rfl,F,E,C⟩
  ·rename_i e b;simp only[b,cX];rfl
 ·have c:decide ((E5 g.2.1:Int)=0)=false:=acK (by
    have:=mt (arD _ i).1 j;omega)
  simp only[F1,go_sem,simprocAttr,JJ,f,ho.g,ho.s,↓CL,CS,y,w,c,dN,dO,EP,gl,OL f]
  (repeat' (first| (refine⟨?_,?_⟩)|intro _))
  ·rename_i b;simp only[b,okB,acz j];exact⟨bk,_,lo,rfl,⟨ho.g1 _,aR.m5 ha.own ha.box⟩,bP.set _ _ _,.inl ⟨rfl,by simp,.inl rfl⟩⟩
  ·rename_i e b;simp only[b,cX];rfl
end
section
variable{x:aB}{bk:AV}{p:Nat}{H:List ae}(lo:oN)(ha:At p x bk H)(hx:mo x)
include ha hx
theorem as8(l:x.back.length+64*(under x.s.T x.c.r).length<=4294967296): ∃g,D XA (.fn (.func 235) [] []) [.ptr p 0] ⟨H,lo⟩=some g/\sE p H lo (Bl x) g:=by
 refine cH JA λN f=>?_
 have ho:Old p H (.box (aZ x bk) none):=⟨ha.box⟩;have h:p<N:=by rw[<-f];exact ho.lt
 have s:=hx.t;obtain⟨g,g1,g2⟩:=ahB (bk:=bk) (H:=H++[.box [.int .i64 0,.int .u64 0,.int .u32 0] none]) none ⟨ho.g _,ha.own.ext⟩ hx.s x.c.r hx.c.r x.aa (by omega) l;have n:Bl x=yP x x.c.r>>=λ_=>kQ x x.c.r x.aa>>=λy=>.ok (y,bO):=rfl
 rw[n];cases i:kQ x x.c.r x.aa with
 |error e=>
  rw[i]at g2;have g2:g=_:=g2;rw[g2]at g1;simp only[F1,go_sem,simprocAttr,JA,f,ho.g,↓CL,λB lo=>E9 (ho.app B) lo hx.s hx.t x.c.r hx.c.r,g1,dN,dO,EP,iT]
  (repeat' (first| (refine⟨?_,?_⟩)|intro _))
  ·rename_i b;simp only[b,okB,cX];exact .err
  ·rename_i o b;simp only[b,cX];exact .err
 |ok y=>
  rw[i]at g2;obtain⟨r,W,aj,rfl,g2,j,m⟩:=g2;have c:W[N]?=some (.box [.int .i64 0,.int .u64 0,.int .u32 0] none):=j.box N _ (by omega) (λa d e=>by cases e) (by rw[di f];rfl);simp only[F1,go_sem,simprocAttr,JA,f,ho.g,↓CL,λB lo=>E9 (ho.app B) lo hx.s hx.t x.c.r hx.c.r,g1,c,cT c,dN,dO,EP];obtain⟨t,k,f1,f2,f3,f4⟩:=zl (v:=.agg [.int .i64 0,.int .u64 0,.int .u32 0]) (lo:=lo) f h BO g2 j (m.imp (λq=>⟨q.1,.inl q.2.1,trivial⟩) id) (ac7 _) c (.box [.int .i64 0,.int .u64 0,.int .u32 0] none);rw[f1]
  (repeat' (first| (refine⟨?_,?_⟩)|intro _))
  ·rename_i b;simp only[b,okB];exact⟨_,_,_,rfl,f2,f3,f4⟩
  ·rename_i o b;simp only[b,cX];exact .err
end
def as9(d:cp t): ∀ (n x:Nat),dep t x<=n->k∈aS t x-> ∀c∈aS t k,c∈aS t x:=by
 intro n
 induction n with
 |zero=>intro x b a;unfold dep at b;grind
 |succ n e=>
  intro x b a c f;by_cases hu:bH t x=0
  ·rw[sh d,acE hu]at a;cases a
  ·grind [Bg,BK]
def SX(d:cp t){x:Nat}: ∀n c,x∈hU t n c->x=c\/c∈aS t x:=by
 intro n
 induction n with
 |zero=>intro c h;left;simpa[hU]using h
 |succ n e=>
  intro c h;rcases aeB.1 h with h|h
  ·omega
  ·right
   obtain⟨k,f,a⟩:=aoa.1 h;obtain⟨g1,g2,_⟩:=J8 f;have b:c∈aS t k:=by rw[BK d (x:=k) (by rw[g2];exact Rt g1),g2];grind
   rcases e k a with rfl|a
   ·omega
   ·exact as9 d _ x (aeg _) a c b
def ata(f:cp t): ∀ (n x a b:Nat),dep t x<=n->a∈x::aS t x->b∈x::aS t x->dep t a=dep t b->a=b:=by
 intro n
 induction n with
 |zero=>
  intro x a b g d e _;unfold dep at g
  grind
 |succ n i=>
  intro x a b g d e he;have lt: ∀c∈aS t x,dep t c<dep t x:=λc h=>KI f _ x (aeg _) h
  rcases aeB.1 d with rfl|d
  ·grind
  ·rcases aeB.1 e with rfl|e
   ·grind
   ·by_cases hu:bH t x=0
    ·rw[sh f,acE hu]at d;cases d
    ·have j:=Bg f hu;rw[BK f hu]at d e
     grind
def ahC(b:cM): (bn b).Nodup:=by
 refine List.Pairwise.map _ (λi j c=>?_) (aqT (S:=λi j=>i<32/\j<32/\i≠j) (λe d a=>⟨?_,?_,a⟩) (List.nodup_range.filter _))
 ·unfold c7;omega
 ·grind
 grind
def atb(t:aw)(h:Nat): (kids t h).Nodup:=by
 unfold kids;split
 ·exact(ahC _).filter _
 grind
def atc(a:cp t): ∀n h,(hU t n h).Nodup:=by
 intro n
 induction n with
 |zero=>simp[hU]
 |succ n g=>
  intro h;refine awV.2 ⟨λhm=>?_,?_⟩
  ·obtain⟨k,j,b⟩:=aoa.1 hm;have o:=Bh a j;rcases SX a n k b with e|e
   ·grind
   ·have:=KI a _ h (aeg _) e;omega
  ·refine List.pairwise_flatMap.2 ⟨λk _=>g k,aqT (λr p d x b y i e=>?_) (atb t h)⟩;subst e;have m:=SX a n _ b;have l:=SX a n _ i;have f: ∀c,(x=c\/c∈aS t x)->c∈x::aS t x:=λc q=>q.elim (λe=>by grind) (aew _)
   exact d (ata a _ x _ _ (aeg _) (f _ m) (f _ l) (by grind [Bh]))
def ahD(a:cp t)(h:Nat): (under t h).Nodup:=by
 unfold under;split
 ·exact atc a 32 h
 grind
theorem SY: ∀ (l m:lN),l.Nodup->(∀z∈l,z∈m)->l.length<=m.length
 | [],_,_,_=>ac7 _
 |a::l,m,c,h=>by
  obtain⟨e,d⟩:=awV.1 c;have:=SY l (m.erase a) d λz b=>(List.mem_erase_of_ne λq=>by grind).2 (h z (aew _ b))
  grind
def atd{b:cM}{y z:Nat}(c:az b z=true)(d:az b y=true)(a:z≠y):az (ep b y).1 z=true:=by
 obtain⟨j,e,f⟩:=kO.1 c;unfold ep;rw[acE d];refine kO.2 ⟨j,e,?_⟩;show aq b (aO y) _ j=_;rw[cy λq=>a (SI c d (by rw[EI e];exact q))];exact f
def ate{b:cM}(g:gO b){y:Nat}(c:az b y=true): (bn (ep b y).1).length+1<=(bn b).length:=by
 have d:=ahC (ep b y).1;have i:y∉bn (ep b y).1:=λhm=>by
  have f:=(jg (EL g y)).1 hm;obtain⟨j,e,a⟩:=kO.1 f;unfold ep at a;rw[acE c]at a;have a:aq b (aO y) (qD (b (aO y))) j=_:=a;rw[EI e,cu]at a;unfold qD at a
  grind
 have h: ∀z∈y::bn (ep b y).1,z∈bn b:=λz k=>by grind [jg,SH,EL]
 have:=SY _ _ (awV.2 ⟨i,d⟩) h;omega
theorem ahE: ∀ (l:lN) (t:aw),gO t.b->l.Nodup->(∀z∈l,t.az z=true)->(bn (kc t l).b).length+l.length<=(bn t.b).length
 | [],t,_,_,_=>by simp[kc]
 |y::l,t,d,h,c=>by
  have a:az t.b y=true:=c y (ahM ..);have e: (kM t y).1={b:=(ep t.b y).1,r:=aq t.r (aO y) dG}:=by
   unfold kM;grind
  have f: (kM t y).1.b=(ep t.b y).1:=by rw[e]
  have i:=ahE l (kM t y).1 (by rw[f];exact EL d y) (awV.1 h).2 λz g=>by
   show az (kM t y).1.b z=true;rw[f];exact atd (c z (aew _ g)) a λq=>by grind
  have j:=ate d a;have k:kc t (y::l)=kc (kM t y).1 l:=rfl
  grind
def atf(h:ez t)(a:Nat): (under t a).length<=(bn t.b).length:=
 SY _ _ (ahD h.tr a) λz b=>(jg h.ok.b).2 (Kr h.ok b)
def atg(h:ez t)(a:Nat): (bn (lq t a).1.b).length+(under t a).length<=(bn t.b).length:=by
 unfold lq;split
 ·grind
 ·exact ahE (under t a) t h.ok.b (ahD h.tr a) λz b=>Kr h.ok b
def eK(x:aB):Nat:=x.back.length+64*(bn x.s.T.b).length
def SZ(a:bm x.s)(h:Nat):eK (gy x h)<=eK x:=by
 have d:=ahy (under x.s.T h) x a.T;have c:=ahx (under x.s.T h) x;have b:=atg a.gv h;have e1: (gy x h).back=((under x.s.T h).foldl iN x).back:=rfl;have e: (gy x h).s.T=(lq ((under x.s.T h).foldl iN x).s.T h).1:=rfl;unfold eK
 grind
def S0(a:bm x.s)(h:Nat):x.back.length+64*(under x.s.T h).length<=eK x:=by
 have:=atf a.gv h;unfold eK;omega
def S1(b:bm x.s)(h:Nat):bm (gy x h).s:=by
 have a:=SS (under x.s.T h) x b;exact a.uS (a.gv.asy h)
structure LI(bk:AV)(p N:Nat)(H:List ae)(y:aB)(m9:AV)(W:List ae)(lo:oN):Prop where
 at':At p y m9 W
 fr:bP p H W
 ok:bm y.s
 eK:eK y<=2048
 lo: (dX N lo/\ (m9=bk\/m9= .an))\/lo=some p
section
variable{bk:AV}{p N:Nat}{H:List ae}{y:aB}{m9:AV}{W:List ae}{mm:oN}(nY:p<N)(h:LI bk p N H y m9 W mm)
include h
theorem LI.dD:Old p W (.box (aZ y m9) none):=⟨h.at'.box⟩
theorem LI.app(L:List ae):LI bk p N H y m9 (W++L) mm:=⟨⟨bf h.at'.box,h.at'.own.ext⟩,h.fr.trans (bP.app p W L (abQ.1 h.at'.box).1),h.ok,h.eK,h.lo⟩
theorem LI.set{z:aB}(a:bm z.s)(b:z.back=y.back)(c: (bn z.s.T.b).length<=(bn y.s.T.b).length):LI bk p N H z m9 (W.set p (.box (aZ z m9) none)) mm:=
 ⟨⟨by rw[ac9 h.dD.lt],by rw[b];exact aR.m5 h.at'.own h.at'.box⟩,h.fr.trans (bP.set _ _ _),a,by have:=h.eK;unfold Go.Proofs.YteplichagkpciaaGreatDoor.eK at*;grind,h.lo⟩
include nY
theorem LI.next{z:aB}{a:AV}{c:List ae}{b:oN}(k:At p z a c)(i:bP p W c)(g:uV (a=m9\/a= .an) p W c mm b)(e:bm z.s)(f:Go.Proofs.YteplichagkpciaaGreatDoor.eK z<=Go.Proofs.YteplichagkpciaaGreatDoor.eK y):LI bk p N H z a c b:=by
 refine⟨k,h.fr.trans i,e,afI f h.eK,?_⟩;rcases g with⟨rfl,_,q⟩|rfl
 ·rcases h.lo with⟨d,l⟩|d
  ·grind
  grind
 ·right
  rcases h.lo with⟨rfl| ⟨j,m,rfl⟩,_⟩|rfl
  ·rfl
  ·exact afW some (aon (show p<=j by omega))
  ·exact afW some (awp p)
theorem LI.gone(a:Nat)(f:a<4294967296): ∃c d b,D XA (.fn (.func 258) [] []) [.ptr p 0,.int .u32 a] ⟨W,mm⟩=some (.ret (.av []) ⟨d,b⟩)/\LI bk p N H (gy y a) c d b/\bP p W d:=by
 obtain⟨c,d,b,g1,g2,e,g⟩:=SU h.at' h.ok a f (by have:=S0 h.ok a;have:=h.eK;omega) mm;exact⟨c,d,b,g1,h.next nY g2 e g (S1 h.ok a) (SZ h.ok a),e⟩
theorem LI.done(k:H.length=N)(i:At p x bk H)(j:v.refs<=N):
  ∃b a,finish N lo v ⟨W,mm⟩=(v,⟨b,a⟩)/\At p y m9 b/\bP p H b/\uV (m9=bk\/m9= .an) p H b lo a:=by
 rcases h.lo with⟨f,d⟩|rfl
 ·refine⟨_,lo,iQ f j,⟨by rw[aez nY];exact h.at'.box,h.at'.own.1,?_⟩,h.fr.take k nY,.inl ⟨rfl,by rw[aeD];have:=h.fr.len;omega,d⟩⟩;rcases h.at'.own.2 with q| ⟨id,ai,s,r,o⟩
  ·grind
  ·rcases d with rfl|rfl
   ·rcases i.own.2 with⟨e,_⟩| ⟨g,c,n,m,l⟩
    ·grind
    grind
   grind
 ·exact⟨_,cK lo p,uW nY,h.at',h.fr,.inr rfl⟩
theorem LI.err(e:H.length=N)(d:v.refs<=N): ∃b a,finish N lo v ⟨W,mm⟩=(v,⟨b,a⟩)/\bP p H b/\zk p H b lo a:=by
 rcases h.lo with⟨c,f⟩|rfl
 ·exact⟨_,lo,iQ c d,h.fr.take e nY,.inl ⟨rfl,by rw[aeD];have:=h.fr.len;omega,trivial⟩⟩
 ·exact⟨_,cK lo p,uW nY,h.fr,.inr rfl⟩
end
theorem ahF{m:Nat}{I:Nat->Env->List ae->oN->Prop}{Q:bQ}{a:Fr}{E:AS}:Ac k m I Q (.panic v) a E=Q (.panic v) a E:=rfl
instance:Inhabited j0:=⟨yL⟩
def ath(bk:AV)(p:Nat)(H:List ae)(lo:oN):R aB->aT->Prop
 |.ok y,b=> ∃a H' aj,b= .ret (.av []) ⟨H',aj⟩/\At p y a H'/\bP p H H'/\uV (a=bk\/a= .an) p H H' lo aj
 |.error e,b=> ∃H' aj,b= .panic (iS e) ⟨H',aj⟩/\bP p H H'/\zk p H H' lo aj
def BP(y:aB)(m:j0):R aB:=if m.aN=0\/m.share=true then pure y else if y.s.alive m.fr then mX y m.aN m.fr else pure (gy y m.aN)
def uX(x:aB)(aa:Nat):aB:={x.bx aa yM with s:={(x.bx aa yM).s with alive:=aq (x.bx aa yM).s.alive aa false}}
def KQ(y:aB)(aa:Nat):R aB:=
 ((bn y.s.T.b).filter λh=>decide (root y.s.T h=h)&&decide ((b0 y.s.O y.s.T h).kind=3)&& (decide (aa<8)&&nO (b0 y.s.O y.s.T h).hold aa)).foldlM (λy h=>kQ y h aa) y
def S2(y:aB)(aa:Nat):R aB:=do
 let y:=((bn y.s.T.b).filter λh=>decide (root y.s.T h=h)&&decide ((b0 y.s.O y.s.T h).kind=1)&&decide ((b0 y.s.O y.s.T h).aa=aa)).foldl gy y
 ((bn y.s.T.b).filter λh=>decide (root y.s.T h=h)&&decide ((b0 y.s.O y.s.T h).kind=3)&& (decide (aa<8)&&nO (b0 y.s.O y.s.T h).hold aa)).foldlM (λy h=>kQ y h aa) y
def S3(y:aB)(aa:Nat):R aB:=do
 let y:=(wq y.s.K aa).foldl (λy h=>y.k (l8 y.s.K h).1) y
 let y:=((bn y.s.T.b).filter λh=>decide (root y.s.T h=h)&&decide ((b0 y.s.O y.s.T h).kind=1)&&decide ((b0 y.s.O y.s.T h).aa=aa)).foldl gy y
 ((bn y.s.T.b).filter λh=>decide (root y.s.T h=h)&&decide ((b0 y.s.O y.s.T h).kind=3)&& (decide (aa<8)&&nO (b0 y.s.O y.s.T h).hold aa)).foldlM (λy h=>kQ y h aa) y
theorem ahG(x:aB)(aa:Nat):oY x aa=(fS (x.s.cY aa)).foldlM BP (uX x aa)>>=λy=>S3 y aa:=rfl
def foldlM_succ[Inhabited β]{f:α->β->R α}{l:List β}{a:α}(h:k<l.length): (l.take (k+1)).foldlM f a=((l.take k).foldlM f a>>=λy=>f y (l.getD k default)):=by grind [List.take_add_one,List.getElem?_eq_getElem,List.foldlM_append]
def ahH{f:α->β->R α}{l:List β}{a:α}(h: (l.take k).foldlM f a= .error e):l.foldlM f a= .error e:=by
 rw[<-amx k l,List.foldlM_append,h];rfl
def zm(y:aB)(h:Nat):aB:=y.k (l8 y.s.K h).1
def foldl_succ{f:α->Nat->α}{l:lN}{a:α}(h:k<l.length): (l.take (k+1)).foldl f a=f ((l.take k).foldl f a) (l.getD k default):=by grind [List.take_add_one,List.getElem?_eq_getElem,getD_eq]
def ati{z:aB}{h:Nat}(hs:bm y.s)(d:h<4294967296)(b:kQ y h aa= .ok z):bm z.s/\eK z<=eK y:=by
 have f:kQ y h aa=cC (dv y.s.O y.s.T h aa false).2.2>>=λ_=>.ok (if(dv y.s.O y.s.T h aa false).2.1=0 then gy (y.o (dv y.s.O y.s.T h aa false).1) h else y.o (dv y.s.O y.s.T h aa false).1):=rfl
 rw[f]at b;have a:bm (y.o (dv y.s.O y.s.T h aa false).1).s:=hs.uT (hs.O.held d);cases c:cC (dv y.s.O y.s.T h aa false).2.2 with
 |error e=>rw[c]at b;cases b
 |ok _=>
  rw[c]at b;cases b;split
  ·exact⟨S1 a h,SZ a h⟩
  ·exact⟨a,aeg _⟩
section
variable{x:aB}{bk:AV}{p:Nat}{H:List ae}(lo:oN)(ha:At p x bk H)(hs:bm x.s)
include ha hs
theorem ahI(aa:Nat)(ht:aa<8)(hp:eK x<=2048):
  ∃cr,D XA (.fn (.func 218) [] []) [.ptr p 0,.int .i64 aa] ⟨H,lo⟩=some cr/\ath bk p H lo (oY x aa) cr:=by
 refine cH PZ λN hN=>?_
 have ho:Old p H (.box (aZ x bk) none):=⟨ha.box⟩;have O:p<N:=by rw[<-hN];exact ho.lt
 obtain⟨w,d1,d2,d3⟩:=asq (x.s.cY aa) (hs.bx aa) H none;have d1:=lx d1;have c1: (aa:Int)<8:=by omega
 have c2:784+aa*19<=945:=by omega
 have c3:936+aa<=963:=by omega
 have hb:=λ (y:aB) bk=> @KE y bk aa ht
 have hsb:=λ (y:aB) bk b=> @KF y bk aa b ht
 have hsa:=λ (y:aB) bk v=> @ag3 y bk aa v ht
 have J:=λE=>(show Rd E w 4 ((fS (x.s.cY aa)).map eo)from d2 E).bK
 have hbl: (fS (x.s.cY aa)).length<=4:=by have:=(hs.bx aa).n;simp[fS];omega
 have hml: ∀m∈fS (x.s.cY aa),uP m:=λm hm=>by
  obtain⟨i,_,rfl⟩:=ael.1 hm;exact(hs.bx aa).ring _
 rw[ahG];generalize hl:fS (x.s.cY aa)=l at*;simp only[go_sem,simprocAttr,PZ,hN,ho.at',ho.g,ho.s,ho.g2,ho.s2,CS,c1,c2,c3,↓hb,hsb,hsa,d1,J,MB];have hs0:bm (uX x aa).s:=(hs.BM iR.gone).SN;have atk:LI bk p N H (uX x aa) bk (H.set p (.box (aZ (uX x aa) bk) none)) none:=LI.set ⟨ha,bP.refl _ _,hs,hp,.inl ⟨.inl rfl,.inl rfl⟩⟩ hs0 rfl (aeg _);refine iJ l.length (λk e W' aj=> ∃y I,(l.take k).foldlM BP (uX x aa)= .ok y/\LI bk p N H y I W' aj/\e 0= .ptr p 0/\e 1= .int .i64 aa/\e 38=w/\e 39= .int .i64 l.length/\e 40= .int .i64 k) 0 (by omega) ?_ ?_
 ·simp only[go_sem,simprocAttr];exact⟨uX x aa,bk,rfl,atk.app _⟩
 rintro k hk e U s ⟨y,A,y1,d,C,B,r,o,j⟩ n hn;simp only[cg,go_sem,simprocAttr,adW,d.dD.at',↓CL,C,B,r,o,j];refine⟨λW=>?_,λW=>?_⟩
 ·have g:k<l.length:=by omega
  have F:=(show Rd ⟨U,s⟩ w 4 (l.map eo)from d2 _);have c:=foldlM_succ (f:=BP) (a:=uX x aa) g;rw[y1,okB]at c;have hmo:uP (l.getD k default):=by
   exact hml _ (by simp[List.getD,g])
  have S4:=hmo.aN;have hmf:=hmo.fr;have L2:=d.app [ae.box (eo (l.getD k default)) none];have oy:=d.dD;have oC:=λ (z:aB) bk=> @SC z bk (l.getD k default).fr hmf
  have c4: ((l.getD k default).fr:Int)<8:=by omega
  have e1:BP y (l.getD k default)=if(l.getD k default).aN=0\/ (l.getD k default).share=true then .ok y else if y.s.alive (l.getD k default).fr then mX y (l.getD k default).aN (l.getD k default).fr else .ok (gy y (l.getD k default).aN):=rfl
  rw[e1]at c;by_cases h0: (l.getD k default).aN=0
  ·have S:decide (((l.getD k default).aN:Int)=0)=true:=ac5 (by omega);rw[acE (.inl h0)]at c;simp(disch:=omega) only[go_sem,simprocAttr,F.cG,F.cS,nW,S,hn,C,B,r,o,j];exact⟨by omega,g,y,A,c,L2⟩
  ·have S:decide (((l.getD k default).aN:Int)=0)=false:=acK (by omega);cases G: (l.getD k default).share with
   |true=>
    rw[acE (.inr G)]at c;rw[nW,G]at L2;simp(disch:=omega) only[go_sem,simprocAttr,F.cG,F.cS,nW,S,G,hn,C,B,r,o,j];exact⟨by omega,g,y,A,c,L2⟩
   |false=>
    rw[acz (by rintro(q|q);exact h0 q;rw[G]at q;cases q)]at c;rw[nW,G]at L2;cases Y:y.s.alive (l.getD k default).fr with
    |false=>
     rw[Y,acz (by simp)]at c;obtain⟨T,W2,Q,g1,g2,Z⟩:=L2.gone O (l.getD k default).aN S4;simp(disch:=omega) only[go_sem,simprocAttr,F.cG,F.cS,nW,S,G,Y,oy.g,c4,↓oC,g1,hn,C,B,r,o,j];exact⟨by omega,g,_,T,c,g2⟩
    |true=>
     rw[Y,acE rfl]at c;have hw:=KN (ho:=L2.dD) (lo:=s) L2.ok (l.getD k default).aN S4 (l.getD k default).fr (by omega);simp(disch:=omega) only[go_sem,simprocAttr,F.cG,F.cS,nW,S,G,Y,oy.g,oy.s,c4,↓oC,hw,ahF,dN,dO,EP,hn,C,B,r,o,j];refine⟨by omega,λm1=>⟨g,_,A,?_,(d.set (z:=y.o (qE y.s.O y.s.T (l.getD k default).aN (l.getD k default).fr).1) (d.ok.uT (d.ok.O.iw S4)) rfl (aeg _)).app _⟩,λe' m1=>?_⟩
     ·rw[c];unfold mX;rw[m1];rfl
     ·obtain⟨H2,Q,g1,g2,Z⟩:=LI.err (v:=iS e') (lo:=lo) O L2 hN (ac7 _);have c: (l.take (k+1)).foldlM BP (uX x aa)= .error e':=by rw[c];unfold mX;rw[m1];rfl
      rw[ahH c,cX];rw[g1];exact⟨_,_,rfl,g2,Z⟩
 ·obtain rfl:k=l.length:=by omega
  rw[aeo]at y1;rw[y1,okB];clear hsa hsb hb d1 J hml;have ahN:=d.ok;obtain⟨wt,t1,t2,t3⟩:=arK y.s.K ahN.K aa U s;have t1:=ly t1;have S5:=λE=>(show Rd E wt 1 ((wq y.s.K aa).map hC)from t2 E).bK
  simp only[go_sem,simprocAttr,t1,S5];have e1:S3 y aa=S2 ((wq y.s.K aa).foldl zm y) aa:=rfl;rw[e1];have K: (wq y.s.K aa).length<=32:=afI (af0 _ _) (mR _);generalize z5:wq y.s.K aa=M at*;have u: ∀z∈M,z<4294967296:=λz hz=>by
   rw[<-z5]at hz;exact gi ((jg ahN.K.b).1 (aey.1 hz).1)
  refine iJ M.length (λk e W' aj=> ∃I,LI bk p N H ((M.take k).foldl zm y) I W' aj/\e 0= .ptr p 0/\e 1= .int .i64 aa/\e 80=wt/\e 81= .int .i64 M.length/\e 82= .int .i64 k) 0 (by omega) ?_ ?_
  ·simp only[go_sem,simprocAttr,C,B];exact⟨A,d⟩
  clear d y1 hk C B r o j W t1 d2 d3;rintro k hk e U s ⟨A,d,C,B,r,o,j⟩ n hn;simp only[cg,go_sem,simprocAttr,adV,d.dD.at',↓CL,C,B,r,o,j];refine⟨λW=>?_,λW=>?_⟩
  ·have g:k<M.length:=by omega
   have F:=(show Rd ⟨U,s⟩ wt 1 (M.map hC)from t2 _);have c:=foldl_succ (f:=zm) (a:=y) g;have P:=u (M.getD k default) (by simp[List.getD,g]);obtain⟨w',L⟩:=agC ((M.take k).foldl zm y).s.K d.ok.K (M.getD k default) P (d.ok.th _) U s;have L:=ly L;simp(disch:=omega) only[go_sem,simprocAttr,F.cG,F.cS,↓pH,d.dD.at',↓CL,CS,L,C,B,r,o,j];rw[c];exact⟨by omega,g,A,d.set (z:=zm ((M.take k).foldl zm y) (M.getD k default)) (d.ok.BL (d.ok.tok.ret _)) rfl (aeg _)⟩
  ·obtain rfl:k=M.length:=by omega
   simp only[aeo]at d⊢;clear z5 K u S5 t2 hk W;generalize M.foldl zm y=z at*;obtain⟨wr,L,r2,r3⟩:=ar2 z.s.O d.ok.O z.s.T d.ok.T d.ok.tr aa U s;have L:=ly L;have R:=λE=>(show Rd E wr 1 ((jC z.s.O z.s.T (pn aa)).map hC)from r2 E).bK
   simp only[go_sem,simprocAttr,L,R];have e1:S2 z aa=KQ ((jC z.s.O z.s.T (pn aa)).foldl gy z) aa:=by
    have: (λh=>decide (root z.s.T h=h)&&decide ((b0 z.s.O z.s.T h).kind=1)&&decide ((b0 z.s.O z.s.T h).aa=aa))=wR z.s.O z.s.T (pn aa):=by funext h;simp[wR,pn,Bool.and_assoc]
    unfold S2 jC KQ;rw[this]
   rw[e1];have K: (jC z.s.O z.s.T (pn aa)).length<=32:=afI (af0 _ _) (mR _);have u: ∀a∈jC z.s.O z.s.T (pn aa),a<4294967296:=λa ha=>gi ((jg d.ok.T.b).1 (aey.1 ha).1)
   generalize jC z.s.O z.s.T (pn aa)=X at*;refine iJ X.length (λk e W' aj=> ∃I,LI bk p N H ((X.take k).foldl gy z) I W' aj/\e 0= .ptr p 0/\e 1= .int .i64 aa/\e 117=wr/\e 118= .int .i64 X.length/\e 119= .int .i64 k) 0 (by omega) ?_ ?_
   ·simp only[go_sem,simprocAttr,C,B];exact⟨A,d⟩
   clear d C B r o j L e1 R;rintro k hk e U s ⟨A,d,C,B,r,o,j⟩ n hn;simp only[cg,go_sem,simprocAttr,adU,d.dD.at',↓CL,C,B,r,o,j];refine⟨λW=>?_,λW=>?_⟩
   ·have g:k<X.length:=by omega
    have F:=(show Rd ⟨U,s⟩ wr 1 (X.map hC)from r2 _);have c:=foldl_succ (f:=gy) (a:=z) g;have P:=u (X.getD k default) (by simp[List.getD,g]);obtain⟨T,W2,Q,g1,g2,Z⟩:=d.gone O (X.getD k default) P;simp(disch:=omega) only[go_sem,simprocAttr,F.cG,F.cS,↓pH,g1,C,B,r,o,j];rw[c];exact⟨by omega,g,T,g2⟩
   ·obtain rfl:k=X.length:=by omega
    simp only[aeo]at d⊢;clear K u r2 hk W;generalize X.foldl gy z=t at*;obtain⟨wh,L,r2,r3⟩:=ar3 t.s.O d.ok.O t.s.T d.ok.T d.ok.tr aa (by omega) U s;have L:=ly L;have R:=λE=>(show Rd E wh 1 ((jC t.s.O t.s.T (nV aa)).map hC)from r2 E).bK
    simp only[go_sem,simprocAttr,L,R];have e1:KQ t aa=(jC t.s.O t.s.T (nV aa)).foldlM (λy h=>kQ y h aa) t:=by
     have: (λh=>decide (root t.s.T h=h)&&decide ((b0 t.s.O t.s.T h).kind=3)&& (decide (aa<8)&&nO (b0 t.s.O t.s.T h).hold aa))=wR t.s.O t.s.T (nV aa):=by funext h;simp[wR,nV,Bool.and_assoc]
     unfold jC KQ;rw[this]
    rw[e1];have K: (jC t.s.O t.s.T (nV aa)).length<=32:=afI (af0 _ _) (mR _);have u: ∀a∈jC t.s.O t.s.T (nV aa),a<4294967296:=λa ha=>gi ((jg d.ok.T.b).1 (aey.1 ha).1)
    generalize jC t.s.O t.s.T (nV aa)=V at*;refine iJ V.length (λk e W' aj=> ∃y I,(V.take k).foldlM (λy h=>kQ y h aa) t= .ok y/\LI bk p N H y I W' aj/\e 0= .ptr p 0/\e 1= .int .i64 aa/\e 140=wh/\e 141= .int .i64 V.length/\e 142= .int .i64 k) 0 (by omega) ?_ ?_
    ·simp only[go_sem,simprocAttr,C,B];exact⟨t,A,rfl,d⟩
    clear d C B r o j L e1 R;rintro k hk e U s ⟨y,A,y1,d,C,B,r,o,j⟩ n hn;simp only[cg,go_sem,simprocAttr,adT,r,o,j];refine⟨λW=>?_,λW=>?_⟩
    ·have g:k<V.length:=by omega
     have F:=(show Rd ⟨U,s⟩ wh 1 (V.map hC)from r2 _);have c:=foldlM_succ (f:=λy h=>kQ y h aa) (a:=t) g;rw[y1,okB]at c;have P:=u (V.getD k default) (by simp[List.getD,g]);obtain⟨cr,g1,g2⟩:=ahB s d.at' d.ok (V.getD k default) P aa (by omega) (by have:=S0 d.ok (V.getD k default);have:=d.eK;omega);cases Cp:kQ y (V.getD k default) aa with
     |ok z3=>
      rw[Cp]at g2 c;obtain⟨T,W2,Q,rfl,g2,Z,g4⟩:=g2;have hd:=ati d.ok P Cp;simp(disch:=omega) only[go_sem,simprocAttr,F.cG,F.cS,↓pH,g1,C,B,r,o,j];exact⟨by omega,g,z3,T,c,d.next O g2 Z g4 hd.1 hd.2⟩
     |error e'=>
      rw[Cp]at g2 c;have g2:cr=_:=g2;rw[g2]at g1;simp(disch:=omega) only[go_sem,simprocAttr,F.cG,F.cS,↓pH,g1,ahF,EP,C,B];refine⟨by omega,?_⟩;obtain⟨H2,Q,g1,g2,Z⟩:=LI.err (v:=iS e') (lo:=lo) O d hN (ac7 _);rw[ahH c,g1];exact⟨_,_,rfl,g2,Z⟩
    ·obtain rfl:k=V.length:=by omega
     rw[aeo]at y1;rw[y1];obtain⟨H2,Q,g1,g2,Z,g4⟩:=d.done O (v:=.av []) (lo:=lo) hN ha (ac7 _);rw[g1];exact⟨_,_,_,rfl,g2,Z,g4⟩
end
section
variable{x:aB}{bk:AV}{p:Nat}{H:List ae}(lo:oN)(ha:At p x bk H)(hx:mo x)
include ha hx
theorem atm(l:eK x<=2048): ∃j,D XA (.fn (.func 243) [] []) [.ptr p 0] ⟨H,lo⟩=some j/\sE p H lo (oY x x.aa>>=λy=>.ok (y,bO)) j:=by
 refine cH JC λN f=>?_
 have ho:Old p H (.box (aZ x bk) none):=⟨ha.box⟩;have c:p<N:=by rw[<-f];exact ho.lt
 obtain⟨j,g1,g2⟩:=ahI (bk:=bk) (H:=H++[.box [.int .i64 0,.int .u64 0,.int .u32 0] none]) none ⟨ho.g _,ha.own.ext⟩ hx.s x.aa hx.t l;cases k:oY x x.aa with
 |error e=>
  rw[k]at g2;obtain⟨W,aj,rfl,g,i⟩:=g2;simp only[go_sem,simprocAttr,JC,f,ho.g,↓CL,g1,EP];obtain⟨n,h,f1,f2,f3⟩:=KP (v:=iS e) (lo:=lo) f c g (i.imp And.left id) (ac7 _);rw[f1,cX];exact⟨_,_,rfl,f2,f3⟩
 |ok y=>
  rw[k]at g2;obtain⟨m,W,aj,rfl,g2,g,i⟩:=g2;have b:W[N]?=some (.box [.int .i64 0,.int .u64 0,.int .u32 0] none):=g.box N _ (by omega) (λa d e=>by cases e) (by grind);simp only[go_sem,simprocAttr,JC,f,ho.g,↓CL,g1,b,cT b];obtain⟨n,h,f1,f2,f3,f4⟩:=zl (v:=.agg [.int .i64 0,.int .u64 0,.int .u32 0]) (lo:=lo) f c BO g2 g (i.imp (λq=>⟨q.1,.inl q.2.1,trivial⟩) id) (ac7 _) b (.box [.int .i64 0,.int .u64 0,.int .u32 0] none);rw[f1,okB];exact⟨_,_,_,rfl,f2,f3,f4⟩
theorem atn(o:eK x<=2048): ∃m,D XA (.fn (.func 244) [] []) [.ptr p 0] ⟨H,lo⟩=some m/\sE p H lo (Bp x) m:=by
 refine cH Em λN f=>?_
 have ho:Old p H (.box (aZ x bk) none):=⟨ha.box⟩;have g:p<N:=by rw[<-f];exact ho.lt
 have r:Bp x=mb x x.c.a>>=λ_=>oY x x.c.a>>=λy=>.ok (y,bO):=rfl
 have h:=λB lo=>KK (ho.app B) lo x.c.a
 rw[r];by_cases k:x.c.a<8
 ·obtain⟨m,g1,g2⟩:=ahI (bk:=bk) (H:=H++[.box [.int .i64 0,.int .u64 0,.int .u32 0] none]) none ⟨ho.g _,ha.own.ext⟩ hx.s x.c.a k o;cases n:oY x x.c.a with
  |error e=>
   rw[n]at g2;obtain⟨W,aj,rfl,i,l⟩:=g2;simp(disch:=omega) only[F1,go_sem,simprocAttr,Em,f,ho.g,↓CL,h,g1,dN,dO,EP];obtain⟨u,j,f1,f2,f3⟩:=KP (v:=iS e) (lo:=lo) f g i (l.imp And.left id) (ac7 _);rw[f1]
   (repeat' (first| (refine⟨?_,?_⟩)|intro _))
   ·rename_i b;rw[b,okB,cX];exact⟨_,_,rfl,f2,f3⟩
   ·rename_i s b;rw[b,cX];exact .err
  |ok y=>
   rw[n]at g2;obtain⟨t,W,aj,rfl,g2,i,l⟩:=g2;have c:W[N]?=some (.box [.int .i64 0,.int .u64 0,.int .u32 0] none):=i.box N _ (by omega) (λa d e=>by cases e) (by rw[di f];rfl);simp(disch:=omega) only[F1,go_sem,simprocAttr,Em,f,ho.g,↓CL,h,g1,c,cT c,dN,dO,EP];obtain⟨u,j,f1,f2,f3,f4⟩:=zl (v:=.agg [.int .i64 0,.int .u64 0,.int .u32 0]) (lo:=lo) f g BO g2 i (l.imp (λq=>⟨q.1,.inl q.2.1,trivial⟩) id) (ac7 _) c (.box [.int .i64 0,.int .u64 0,.int .u32 0] none);rw[f1]
   (repeat' (first| (refine⟨?_,?_⟩)|intro _))
   ·rename_i b;rw[b,okB,okB];exact⟨_,_,_,rfl,f2,f3,f4⟩
   ·rename_i s b;rw[b,cX];exact .err
 ·rw[wW k]at h;simp only[F1,go_sem,simprocAttr,Em,f,ho.g,↓CL,h,dS,EP];rw[wW k,cX];exact .err
end
def qU:Nat->oN
 |1=>some 225|2=>some 226|3=>some 227|4=>some 228|5=>some 229
 |6=>some 230|7=>some 231|8=>some 232|9=>some 233|10=>some 234
 |11=>some 235|12=>some 236|13=>some 237|14=>some 238|15=>some 239
 |16=>some 239|17=>some 240|18=>some 241|19=>some 242|20=>some 243
 |21=>some 244|22=>some 245|_=>none
def ato{H:List ae}(lo:oN)(d:At p x bk H)(b:mo x)(j:eK x<=2048){f:Nat}(g:qU x.c.op=some f):
  ∃c,D XA (.fn (.func f) [] []) [.ptr p 0] ⟨H,lo⟩=some c/\sE p H lo (lu x) c:=by
 have ho:Old p H (.box (aZ x bk) none):=⟨d.box⟩;have hB: ∀a,x.back.length+64*(under x.s.T a).length<=4294967296:=λa=>by have:=S0 b.s a;omega
 have i:x.back.length<=4294967296:=by have:=hB 0;omega
 have ex: ∀ {f:Nat} {m:R (aB×bB)},(∃c,D XA (.fn (.func f) [] []) [.ptr p 0] ⟨H,lo⟩=some c/\bb x.back bk p H lo m c)-> ∃c,D XA (.fn (.func f) [] []) [.ptr p 0] ⟨H,lo⟩=some c/\sE p H lo m c:=λh=>by
  obtain⟨c,l,k⟩:=h;exact⟨c,l,k.c d⟩
 unfold qU at g;unfold lu;split at g<;>(try cases g)<;>(rename_i e;simp only[e])
 ·exact ex (asW ho b)
 ·exact ex (asZ ho b)
 ·exact ex (asI ho b)
 ·exact ex (asJ ho b)
 ·exact as5 lo d b i
 ·exact as4 lo d b (hB _)
 ·exact ex (asT ho b)
 ·exact ex (asM ho b)
 ·exact ex (asU ho b)
 ·exact ex (asN ho b)
 ·exact as8 lo d b (hB _)
 ·exact ex (asX ho b)
 ·exact ex (asP ho b)
 ·exact ex (asY ho b)
 ·exact ex (aht ho b)
 ·exact ex (aht ho b)
 ·exact ex (asO ho b)
 ·exact ex (asS ho b)
 ·exact ex (asL ho b)
 ·exact atm lo d b j
 ·exact atn lo d b j
 ·exact ex (asQ ho b)
def atp(h:qU x.c.op=none):lu x= .error 2:=by
 unfold qU at h;unfold lu
 grind
noncomputable def Fa:lA->AS->Option aT:=vD XA (D XA) Lw wV 91 v5
def atq(p:Nat)(H:List ae)(lo:oN):R (aB×bB)->aT->Prop
 |.ok (y,r),a=> ∃b H' aj,a= .ret (.agg (bD r)) ⟨H',aj⟩/\At p y b H'/\bP p H H'/\zk p H H' lo aj
 |.error e,a=> ∃H' aj,a= .ret (.agg (bD {bO with e:=e})) ⟨H',aj⟩/\bP p H H'/\zk p H H' lo aj
def atr{K:AS->Prop}{H:List ae}{q:Nat}(h:K ⟨H,lo⟩):qe XA wV (.fn (.func 115) [] [.ptr q 0]) [] .eC ⟨H,lo⟩ K:=by
 refine Hf (pr:=v7) rfl rfl λn a=>?_
 simp(disch:=omega) only[F1,go_sem,simprocAttr,v7,ahb];exact⟨.inl trivial,.av [],rfl,by trivial⟩
def KR{K:AS->Prop}{H:List ae}{q:Nat}{a b c:AV}(e:Nat)(d:H[q]?=some (.box [a,b,c] none))(h:K ⟨H.set q (.box [.int .i64 e,.int .u64 0,.int .u32 0] none),lo⟩):qe XA wV (.fn (.func 115) [] [.ptr q 0]) [] (iS e) ⟨H,lo⟩ K:=by
 refine Hf (pr:=v7) rfl rfl λn f=>?_
 simp only[F1,go_sem,simprocAttr,v7,ahc,d,ahd];refine⟨.inl trivial,.av [],rfl,?_⟩;rw[acE (show(AV.av []).refs<=n from ac7 _),ac4 (by grind)];exact h
def ahO{H:List ae}(lo:oN)(J:At p x bk H)(K:bm x.s)(P:jE x.c)(M:x.run.1<4294967296/\x.run.2<4294967296)(T:x.aa<4294967296)(O:eK x<=2048)
  (o: ∀E,iV XA.fG E .int .dg (.kZ ub) (.int .u8 x.c.op) true=some (match qU x.c.op with|some f=>.av [.fn (.func f) [] [],.bool true]|none=>.av [.dg,.bool false])):
  ∃G,Fa [.ptr p 0] ⟨H,lo⟩=some G/\atq p H lo (jh x) G:=by
 refine ND v5 rfl rfl λN g=>?_
 have ho:Old p H (.box (aZ x bk) none):=⟨J.box⟩;have m:p<N:=by rw[<-g];exact ho.lt
 have c: ∀b H lo,D XA (.fn (.func 116) [] []) [.bool b,.int .i64 12] ⟨H,lo⟩=_:=λb=>kW b 12
 by_cases w:x.aa<8
 ·have s: (x.aa:Int)<8:=by omega
  have c0: (x.aa:Int)>=0:=by omega
  have hand:dh .and (.int .i64 (x.aa:Nat)) (.int .i64 7)=some (.int .i64 (x.aa:Nat)):=by
   rcases(show x.aa=0\/x.aa=1\/x.aa=2\/x.aa=3\/x.aa=4\/x.aa=5\/x.aa=6\/x.aa=7 by omega)with h|h|h|h|h|h|h|h<;>rw[h]<;>rfl
  have n: ∀E,bW XA E false 1 (.dy ub)=some (.kZ ub):=λE=>rfl
  have i:=λbk=> @SC x bk x.aa w
  cases l:x.s.alive x.aa with
  |false=>
   rw[l]at i;have c: ∀H lo,D XA (.fn (.func 116) [] []) [.bool false,.int .i64 12] ⟨H,lo⟩=_:=λH lo=>lx (zh 12 H lo)
   simp only[go_sem,simprocAttr,v5,g,jQ,jP,ho.g,↓CL,s,c0,hand,↓i,c,iT];refine⟨rfl,?_⟩;rw[nw];refine KR 12 (by rw[di g];rfl) ?_;have u:jh x= .error 12:=by
    have: (decide (x.aa<8)&&x.s.alive x.aa)=false:=by rw[l,aoI]
    unfold jh;rw[this];rfl
   simp(disch:=omega) only[F1,go_sem,simprocAttr];rw[u];exact⟨_,_,rfl,bP.refl _ _,.inl ⟨rfl,rfl,trivial⟩⟩
  |true=>
   rw[l]at i;have c: ∀H lo,D XA (.fn (.func 116) [] []) [.bool true,.int .i64 12] ⟨H,lo⟩=_:=λH lo=>lx (E6 12 H lo)
   have u:jh x=lu x:=by
    have: (decide (x.aa<8)&&x.s.alive x.aa)=true:=by rw[l,ac5 w];rfl
    unfold jh;rw[this];rfl
   rw[u];cases k:qU x.c.op with
   |none=>
    rw[k]at o;have z: ∀H lo,D XA (.fn (.func 116) [] []) [.bool false,.int .i64 2] ⟨H,lo⟩=_:=λH lo=>lx (zh 2 H lo)
    simp only at o;simp only[go_sem,simprocAttr,v5,g,jQ,jP,ho.g,↓CL,s,c0,hand,↓i,c,n,o,z];refine⟨rfl,?_⟩;rw[nw];refine KR 2 (by rw[di g];rfl) ?_;simp(disch:=omega) only[F1,go_sem,simprocAttr];rw[atp k];exact⟨_,_,rfl,bP.refl _ _,.inl ⟨rfl,rfl,trivial⟩⟩
   |some f=>
    rw[k]at o;simp only at o;have z: ∀H lo,D XA (.fn (.func 116) [] []) [.bool true,.int .i64 2] ⟨H,lo⟩=_:=λH lo=>lx (E6 2 H lo)
    obtain⟨G,g1,g2⟩:=ato (bk:=bk) (H:=H++[.box [.int .i64 0,.int .u64 0,.int .u32 0] none]) none ⟨ho.g _,J.own.ext⟩ ⟨K,w,P,M⟩ O k;cases I:lu x with
    |error e=>
     rw[I]at g2;obtain⟨W,aj,rfl,t,F⟩:=g2;have j:W[N]?=some (.box [.int .i64 0,.int .u64 0,.int .u32 0] none):=t.box N _ (by omega) (λa d e=>by cases e) (by rw[di g];rfl);simp only[go_sem,simprocAttr,v5,g,jQ,jP,ho.g,↓CL,s,c0,hand,↓i,c,n,o,z,g1];refine⟨rfl,?_⟩;rw[nw];refine KR e j ?_;simp only[go_sem,simprocAttr,cT j];have Q:bP p (H++[]) (W.set N (.box [.int .i64 (e:Nat),.int .u64 0,.int .u32 0] none)):=by
      rw[aeC];exact ahA g m (SW (N:=N) t (by omega)) _
     obtain⟨S,A,f1,f2,f3⟩:=KP (v:=.agg [.int .i64 (e:Nat),.int .u64 0,.int .u32 0]) (lo:=lo) g m Q (F.imp And.left id) (ac7 _);rw[f1];exact⟨_,_,rfl,f2,f3⟩
    |ok a=>
     rw[I]at g2;obtain⟨y,r⟩:=a;obtain⟨R,W,aj,rfl,g2,t,F⟩:=g2;have j:W[N]?=some (.box [.int .i64 0,.int .u64 0,.int .u32 0] none):=t.box N _ (by omega) (λa d e=>by cases e) (by rw[di g];rfl);simp only[go_sem,simprocAttr,v5,g,jQ,jP,ho.g,↓CL,s,c0,hand,↓i,c,n,o,z,g1,j];refine⟨rfl,rfl,?_⟩;rw[CW];refine atr ?_;have L:List.drop (bD r).length [AV.int .i64 0,.int .u64 0,.int .u32 0]=[]:=rfl;have B:List.take 3 (bD r)=bD r:=rfl;have C: (bD r).length=3:=rfl;simp only[go_sem,simprocAttr,cT j,B,C];obtain⟨S,A,f1,f2,f3,f4⟩:=zl (v:=.agg (bD r)) (lo:=lo) g m BO g2 t (F.imp (λq=>⟨q.1,.inl q.2.1,trivial⟩) id) (ac7 _) j (.box (bD r) none);rw[acE (show aI (bD r)<=N+1 from ac7 _),f1];exact⟨_,_,_,rfl,f2,f3,f4⟩
 ·have s: ¬(x.aa:Int)<8:=by omega
  have c0: (x.aa:Int)>=0:=by omega
  have c: ∀H lo,D XA (.fn (.func 116) [] []) [.bool false,.int .i64 12] ⟨H,lo⟩=_:=λH lo=>lx (zh 12 H lo)
  simp only[go_sem,simprocAttr,v5,g,jQ,jP,ho.g,↓CL,s,c0,c,iT];refine⟨rfl,?_⟩;rw[nw];refine KR 12 (by rw[di g];rfl) ?_;have u:jh x= .error 12:=by
   have: (decide (x.aa<8)&&x.s.alive x.aa)=false:=by rw[acK w];rfl
   unfold jh;rw[this];rfl
  simp(disch:=omega) only[F1,go_sem,simprocAttr];rw[u];exact⟨_,_,rfl,bP.refl _ _,.inl ⟨rfl,rfl,trivial⟩⟩
noncomputable def XB:Ctx:={XA with bU:=λf=>if f=91 then some Fa else XA.bU f}
theorem ahP:Ext XA XB where
 dy:=rfl
 fG:=rfl
 code:=rfl
 bU:=λf=>by
  by_cases a:f=91
  ·subst a;exact .inr ⟨rfl,rfl⟩
  ·left;show(if f=91 then some Fa else XA.bU f)=XA.bU f
   grind
theorem KT{args:lA}{E:AS}{a:AS}(h:Fa args E=some (.ret v a)):D XB (.fn (.func 91) [] []) args E=some (.ret v a):=CV rfl h
def NE{α:Type}(m:R α):Prop:= ∀e,m= .error e->e≠0/\e<13
theorem NE.ok{a:α}:NE (.ok a:R α):=by intro e h;cases h
theorem NE.pure{a:α}:NE (Pure.pure a:R α):=NE.ok
def NE.err(a:e≠0/\e<13):NE (.error e:R α):=by intro e h;grind
def NE.bind{m:R α}{f:α->R β}(b:NE m)(c: ∀a,NE (f a)):NE (m>>=f):=by
 cases m with
 |error e=>intro e h;cases h;exact b _ rfl
 |ok a=>exact c a
def NE.ask{b:Bool}(a:e≠0/\e<13):NE (ask b e):=by
 unfold Go.Proofs.YteplichagkpciaaGreatDoor.ask;split
 ·exact NE.ok
 ·exact NE.err a
def NE.cC(a:e<13):NE (cC e):=by
 unfold Go.Proofs.YteplichagkpciaaGreatDoor.cC;split
 ·exact NE.ok
 ·exact NE.err ⟨‹_›,a⟩
theorem NE.foldlM{α β:Type}{f:α->β->R α}(h: ∀a b,NE (f a b)): ∀ (l:List β) (a:α),NE (l.foldlM f a)
 | [],_=>NE.ok
 |b::l,a=>NE.bind (h a b) λa=>NE.foldlM h l a
def ahQ(h: (n+1).ble 13=true):n<13:=anV h
def ats{h:Nat}: (aL t h).2<13:=by unfold aL;grind
def att{k:bh}{h:Nat}: (ch k h).2<13:=by unfold ch;grind
def atu{T:aw}{O:bJ}{K:bh}{b c:Nat}:wx T O K a b c<13:=by unfold wx;grind
def KU{o:bJ}{x:Ow}: (fQ o t r a x).2<13:=by unfold fQ;grind
def ahR{o:bJ}{b:Bool}: (dv o t r a b).2.2<13:=by unfold dv;repeat' (first|simp|exact KU|split)
def atv{o:bJ}: (wo o t r).2<13:=KU
def atw{o:bJ}: (yG o t r a).2<13:=KU
def atx{h t:Nat}: (yS x h t).2<13:=ahR
def ahS{h:Nat}{r:df}: (fD t h r).2<13:=by unfold fD;grind
def ahT{h u:Nat}: (lp t h u).2<13:=by unfold lp;grind
def aty{h:Nat}: (jf t h).2<13:=by unfold jf;split;exact ahQ rfl;exact ahT
def atz{h u:Nat}: (uD t h u).2<13:=by unfold uD;repeat' (first|exact ahQ rfl|exact ahT|split)
def atA{h u:Nat}: (hY t h u).2.2<13:=by unfold hY ln;grind
def atB{k:bh}{x:Tok}: (kN k x).2.2<13:=by unfold kN oW;grind
def atC{x:j0}: (nP b x).2<13:=by unfold nP;grind
def atD: (l9 b).2.2<13:=by unfold l9;grind
def atE: (uE b).2<13:=by unfold uE;grind
def atF{b c:Nat}{f:Bool}: (mW t a b c f).2<13:=by unfold mW;repeat' (first|simp|exact ahS|split)
def atG{b:Nat}: (si t a b).2<13:=by unfold si;grind
def atH{h w:Nat}:NE (fK x h w):=NE.cC atu
def atI{t:Nat}:NE (mb x t):=NE.ask (by decide)
def ahU{h t:Nat}:NE (mX x h t):=NE.bind (NE.cC KU) λ_=>NE.ok
def atJ{h:Nat}{r:df}:NE (nQ x h r):=NE.bind (NE.cC ahS) λ_=>NE.ok
def atK{h:Nat}:NE (wy x h):=NE.bind (NE.cC aty) λ_=>NE.ok
def atL{h:Nat}:NE (yP x h):=NE.bind (NE.ask (by decide)) λ_=>NE.bind (NE.ask (by decide)) λ_=>NE.ask (by decide)
def ahV{h t:Nat}:NE (kQ x h t):=NE.bind (NE.cC ahR) λ_=>NE.ok
def atM{t:Nat}:NE (oY x t):=by
 unfold oY
 repeat with_reducible (first| (refine NE.bind ?_ λ_=>?_)| (refine NE.foldlM (λ_ _=>?_) _ _)|exact ahU|exact ahV|exact NE.pure|split|rfl)
def atN(x:aB):NE (lu x):=by
 unfold lu;split
 all_goals try(first|unfold wz|unfold mc|unfold uF|unfold yN|unfold yO|unfold Bi|unfold Bj|unfold Bk|unfold yT|unfold Bl|unfold uG|unfold Bm|unfold qG|unfold sj|unfold Bn|unfold sk|unfold Bo|unfold Bp|unfold uH)
 all_goals repeat with_reducible (first| (refine NE.bind ?_ λ_=>?_)|exact NE.pure|exact NE.err (by decide)|exact NE.ask (by decide)|exact atH|exact atI|exact ahU|exact atJ|exact atK|exact atL|exact ahV|exact atM| (refine NE.cC ?_;first|exact ats|exact atA|exact atz|exact atv|exact atw|exact atx|exact att|exact atB|exact atC|exact atD|exact atE|exact atF|exact atG)|split|dsimp only)
def ahW(h:jh x= .error e):e≠0/\e<13:=NE.bind (NE.ask (by decide)) (λ_=>atN x) _ h
def ahX(h:jh x= .error e):e≠0:=(ahW h).1
def EZ(m:R (aB×bB)):Prop:= ∀a,m= .ok a->a.2.e=0
theorem EZ.ok{a:aB×bB}(h:a.2.e=0):EZ (.ok a):=by intro b c;grind
theorem EZ.pure{a:aB×bB}(h:a.2.e=0):EZ (Pure.pure a:R (aB×bB)):=EZ.ok h
def EZ.err:EZ (.error e):=by intro b a;cases a
def EZ.bind{m:R α}{f:α->R (aB×bB)}(c: ∀a,EZ (f a)):EZ (m>>=f):=by
 cases m with
 |error e=>intro b d;cases d
 |ok a=>exact c a
def atO(x:aB):EZ (lu x):=by
 unfold lu;split
 all_goals try(first|unfold wz|unfold mc|unfold uF|unfold yN|unfold yO|unfold Bi|unfold Bj|unfold Bk|unfold yT|unfold Bl|unfold uG|unfold Bm|unfold qG|unfold sj|unfold Bn|unfold sk|unfold Bo|unfold Bp|unfold uH)
 all_goals repeat with_reducible (first| (refine EZ.bind λ_=>?_)|exact EZ.pure rfl|exact EZ.err|split|dsimp only)
def S6{r:bB}(h:jh x= .ok (y,r)):r.e=0:=(show EZ (jh x)from EZ.bind λ_=>atO x) _ h
theorem atP(s:bF)(aa:Nat)(c:cz)(run:aF):db s aa c run=match jh ⟨s,aa,c,run,0,false,[]⟩with
  |.ok (y,r)=>(y.s,r,y.back)
  |.error e=>(s,{bO with e:=e},[]):=by
 unfold db;cases h:jh ⟨s,aa,c,run,0,false,[]⟩with
 |error e=>rfl
 |ok a=>exact acE (S6 h)
theorem ahY{t:Nat}:aM (aZ x bk) 952 [.int .i64 t]=aZ {x with aa:=t} bk:=by rw[BE (by omega)];rfl
theorem ahZ{c:cz}:aM (aZ x bk) 953 (bg c)=aZ {x with c:=c} bk:=by rw[BE (by omega)];rfl
theorem ah0{r:aF}:aM (aZ x bk) 959 (aA r)=aZ {x with run:=r} bk:=by rw[BE (by omega)];rfl
theorem ah1{s:bF}:bz s++List.drop 952 Hl=aZ ⟨s,0,mi,(0,0),0,false,[]⟩ .an:=rfl
def ah2:Hl.length=964:=by decide
def S7:mC.length=952:=by decide
def ah3:List.drop 952 mC=[]:=afL (by rw[S7];omega)
def KV{s:bF}:List.take 952 (bz s)=bz s:=ac4 (by rw[dY];omega)
theorem S8{s:bF}:List.drop 952 (bz s)=[]:=by rfl
theorem Fb{c:cz}: (bg c).length=6:=rfl
theorem KW{c:cz}:List.take 6 (bg c)=bg c:=rfl
theorem wX{r:bB}:List.take 3 (bD r)=bD r:=rfl
theorem sF{r:bB}: (bD r).length=3:=rfl
def DZ:=gG @ahY<|gG @ahZ<|gG @ah0<|gG @ah1<|gG @ah2<|gG @S7<|gG @ah3<|gG @KV<|gG @S8<|gG @Fb<|gG @KW<|gG @wX<|gG @sF<|gG @dY @KD
def S9(s:bF)(S:bm s)(aa:Nat)(R:aa<4294967296)(c:cz)(V:jE c)(run:aF)(T:run.1<4294967296/\run.2<4294967296)
  (Y: ∀E,iV XA.fG E .int .dg (.kZ ub) (.int .u8 c.op) true=some (match qU c.op with|some f=>.av [.fn (.func f) [] [],.bool true]|none=>.av [.dg,.bool false])) (H:List ae) (lo:oN):
  ∃v,D XB (.fn (.func 54) [] []) [.agg (bz s),.int .i64 aa,.agg (bg c),.agg (aA run)] ⟨H,lo⟩=some (.ret (.av [.agg (bz (db s aa c run).1),.agg (bD (db s aa c run).2.1),v]) ⟨H,lo⟩)/\Rv v 2 ((db s aa c run).2.2.map aA):=by
 suffices j: ∃u,D XB (.fn (.func 54) [] []) [.agg (bz s),.int .i64 aa,.agg (bg c),.agg (aA run)] ⟨H,lo⟩=some u/\ (λu=> ∃v,u=aT.ret (.av [.agg (bz (db s aa c run).1),.agg (bD (db s aa c run).2.1),v]) ⟨H,lo⟩/\Rv v 2 ((db s aa c run).2.2.map aA)) u by
  obtain⟨u,h1,v,rfl,Z⟩:=j;exact⟨v,h1,Z⟩
 refine cH D4 λN h=>?_
 obtain⟨x,j⟩: ∃x:aB,x=⟨s,aa,c,run,0,false,[]⟩:=⟨_,rfl⟩;obtain⟨L,b⟩: ∃L:List ae,L=[.box (bz s) none,.box (bg c) none,.box (aA run) none,.box mC none,.box [.int .i64 0,.int .u64 0,.int .u32 0] none,.box (aZ x .an) none]:=⟨_,rfl⟩;have K:At (N+5) x .an (H++L):=⟨by rw[bE h,b];rfl,by rw[j];exact aR.an⟩;obtain⟨u,g1,g2⟩:=ahO (x:=x) none K (by rw[j];exact S) (by rw[j];exact V) (by rw[j];exact T) (by rw[j];exact R) (by rw[j];unfold eK;have:=mR s.T.b;simp;omega) (by rw[j];exact Y);have m:db s aa c run=match jh x with
  |.ok (y,r)=>if r.e=0 then(y.s,r,y.back)else(s,r,[])
  |.error e=>(s,{bO with e:=e},[]):=by rw[j];rfl
 rw[b,j]at g1;have rest: ∀W:List ae,bP (N+5) (H++L) W-> ∀cs bs A B:lA,(∀i,i<N->(((W++[ae.box cs none]).set (N+3) (ae.box A none)).set (N+4) (ae.box B none))[i]?=H[i]?):=by
  intro W g cs bs A B i hi;have U:=g.len;simp at U;rw[abN (by omega),abN (by omega),abP (by omega),g.low i (by omega),abP (by omega)]
 cases J:jh x with
 |error e=>
  rw[J]at g2 m;obtain⟨W,aj,rfl,g,F⟩:=g2;have g1:=KT g1;have w0:W[N]?=some (.box (bz s) none):=g.box N _ (by omega) (λa d e=>by cases e) (by rw[di h,b];rfl);have w1:W[N+3]?=some (.box mC none):=g.box (N+3) _ (by omega) (λa d e=>by cases e) (by rw[bE h,b];rfl);have G:W[N+4]?=some (.box [.int .i64 0,.int .u64 0,.int .u32 0] none):=g.box (N+4) _ (by omega) (λa d e=>by cases e) (by rw[bE h,b];rfl);have I:=λL=>bf (L:=L) w0
  have p:=λL=>bf (L:=L) w1
  have n:=λL=>bf (L:=L) G
  have z:=λL o=>cT (o:=o) (p L)
  have w:=λL o o'=>cT (o:=o') ((abN (by omega:N+3≠N+4)).trans (n L): ((W++L).set (N+3) o)[N+4]?=_)
  have he:=ahX J;have k: ¬((e:Nat):Int)=0:=by omega
  obtain⟨M,C⟩: ∃M,W.length=M:=⟨_,rfl⟩;have l: (M !=N+3)=true:=by
   have:=g.len;rw[b]at this;simp at this;simp;omega
  simp(disch:=omega) only[go_sem,simprocAttr,D4,h,DZ,g1,C,I,p,n,z,w,k,bD,l,aq9,zi,nM];rw[iQ (dX.le (N:=N+5) ?_ (by omega)) ?_]
  ·rw[m];exact⟨_,de rfl (kS h (rest W g _ [] _ _)),.an⟩
  ·exact F.elim (λq=>.inl q.1) λq=>.inr ⟨N+5,aeg _,q⟩
  ·simp[AV.refs,aI,nM]
 |ok a=>
  obtain⟨y,r⟩:=a;rw[J]at g2 m;obtain⟨m9,W,aj,rfl,g2,g,F⟩:=g2;have m:db s aa c run=if r.e=0 then(y.s,r,y.back)else(s,r,[]):=m
  have g1:=KT g1;have w0:W[N]?=some (.box (bz s) none):=g.box N _ (by omega) (λa d e=>by cases e) (by rw[di h,b];rfl);have w1:W[N+3]?=some (.box mC none):=g.box (N+3) _ (by omega) (λa d e=>by cases e) (by rw[bE h,b];rfl);have G:W[N+4]?=some (.box [.int .i64 0,.int .u64 0,.int .u32 0] none):=g.box (N+4) _ (by omega) (λa d e=>by cases e) (by rw[bE h,b];rfl);have I:=λL=>bf (L:=L) w0
  have p:=λL=>bf (L:=L) w1
  have n:=λL=>bf (L:=L) G
  have Q:=λL=>bf (L:=L) g2.box
  have z:=λL o=>cT (o:=o) (p L)
  have w:=λL o o'=>cT (o:=o') ((abN (by omega:N+3≠N+4)).trans (n L): ((W++L).set (N+3) o)[N+4]?=_)
  obtain⟨M,C⟩: ∃M,W.length=M:=⟨_,rfl⟩;have X:N+6<=M:=by
   have:=g.len;rw[b]at this;simp at this;omega
  have l: (M !=N+3)=true:=by simp;omega
  have P: (M !=N+4)=true:=by simp;omega
  by_cases t:r.e=0
  ·rw[acE t]at m;have k: ((r.e:Nat):Int)=0:=by omega
   simp(disch:=omega) only[go_sem,simprocAttr,D4,h,DZ,↓CL,g1,C,p,n,z,w,Q,k,bD,l,aq9,zi,nM];have O:=aR.m5 (o:=.box (bD r) none) (aR.m5 (o:=.box (bz y.s) none) (aR.ext (L:=[ae.box (bD r) none]) (aR.le g2.own (show N<=N+5+1 by omega))) (p _)) ((abN (by omega:N+3≠N+4)).trans (n _));have er: [AV.int .i64 0,AV.int .u64 (r.v:Nat),AV.int .u32 (r.w:Nat)]=bD r:=by unfold bD;rw[t];rfl
   rw[er];refine⟨by simp,by simp,?_⟩;rw[s8 (dX.le (N:=N+5) ?_ (by omega)) (Fz.av (d:=11) (gV.cons ((Fz.low (d:=0) ?_).mono (by omega)) (gV.cons ((Fz.low (d:=0) ?_).mono (by omega)) (gV.cons ((Fz.own (d:=0) O ?_).mono (by omega)) gV.nil))))]
   ·rw[m];refine⟨_,de rfl (kS h (rest W g _ [] _ _)),?_⟩;exact aR.qd O
   ·exact F.elim (λq=>.inl q.1) λq=>.inr ⟨N+5,aeg _,q⟩
   ·simp[AV.refs,nM]
   ·exact ac7 _
   ·rw[bp (λx=>rfl)];exact ac7 _
  ·rw[acz t]at m;have k: ¬((r.e:Nat):Int)=0:=by omega
   simp(disch:=omega) only[go_sem,simprocAttr,D4,h,DZ,g1,C,I,p,n,z,w,k,bD,l,aq9,zi,nM];rw[iQ (dX.le (N:=N+5) ?_ (by omega)) ?_]
   ·rw[m];exact⟨_,de rfl (kS h (rest W g _ [] _ _)),.an⟩
   ·exact F.elim (λq=>.inl q.1) λq=>.inr ⟨N+5,aeg _,q⟩
   ·simp[AV.refs,aI,nM]
def lz{args:lA}{E:AS}{r:aT}(h:D X0 v args E=some r):D XB v args E=some r:=wH ahP (lx h)
def lX{args:lA}{E:AS}{r:aT}(h:D X v args E=some r):D XB v args E=some r:=wH ahP (ly h)
theorem ah4{b:Bool}:aM (aZ x bk) 962 [.bool b]=aZ {x with asks:=b} bk:=by rw[BE (by omega)];rfl
theorem ah5{c:cz}: (bg c)[0]?=some (.int .u8 c.op):=rfl
theorem ah6{c:cz}: (bg c)[1]?=some (.int .u32 c.r):=rfl
theorem ah7{c:cz}: (bg c)[2]?=some (.int .u32 c.s):=rfl
theorem ah8{c:cz}: (bg c)[3]?=some (.int .u32 c.a):=rfl
theorem ah9{c:cz}: (bg c)[4]?=some (.int .u32 c.b):=rfl
theorem aia{c:cz}: (bg c)[5]?=some (.int .u64 c.v):=rfl
def fU:=gG @ah5<|gG @ah6<|gG @ah7<|gG @ah8<|gG @ah9 @aia
def SL:=gG @Ro<|gG @J5<|gG @J6<|gG @Rm @Rn
def Ta(s:bF)(t:bm s)(aa:Nat)(p:aa<4294967296)(c:cz)(v:jE c)
  (w: ∀E,iV XA.fG E .int .dg (.kZ ub) (.int .u8 c.op) true=some (match qU c.op with|some f=>.av [.fn (.func f) [] [],.bool true]|none=>.av [.dg,.bool false])) (H:List ae) (lo:oN):
  D XB (.fn (.func 53) [] []) [.agg (bz s),.int .i64 aa,.agg (bg c)] ⟨H,lo⟩=some (.ret (.int .i64 (eU s aa c:Nat)) ⟨H,lo⟩):=by
 refine aH D3 λN j=>?_
 obtain⟨x,b⟩: ∃x:aB,x=⟨s,aa,c,(0,0),0,true,[]⟩:=⟨_,rfl⟩;by_cases z:c.op=2
 ·have l: (c.op:Int)=2:=by omega
  obtain⟨L,m⟩: ∃L:List ae,L=[.box (bz s) none,.box (bg c) none,.box (aZ x .an) none]:=⟨_,rfl⟩;have n:At (N+2) x .an (H++L):=⟨by grind,by rw[b];exact aR.an⟩;obtain⟨C,g1,g2⟩:=ahO (x:=x) none n (by rw[b];exact t) (by rw[b];exact v) (by rw[b];exact⟨show 0<4294967296 by omega,show 0<4294967296 by omega⟩) (by rw[b];exact p) (by rw[b];unfold eK;have:=mR s.T.b;simp;omega) (by rw[b];exact w);have k:eU s aa c=match jh x with
   |.ok (y,_)=>y.ma
   |.error e=>0:=by rw[b];unfold eU;rw[acz (by omega)];rfl
  rw[m,b]at g1;have rest: ∀W:List ae,bP (N+2) (H++L) W->W.take N=H:=by
   intro W g;refine kS j λi B=>?_
   rw[g.low i (by omega),abP (by omega)]
  cases h:jh x with
  |error e=>
   rw[h]at g2 k;obtain⟨W,aj,rfl,g,o⟩:=g2;have g1:=KT g1;have he:=ahX h;have d: ¬((e:Nat):Int)=0:=by omega
   simp only[go_sem,simprocAttr,D3,j,DZ,fU,ah4,l,g1,bD,d];rw[iQ (dX.le (N:=N+2) (o.elim (λq=>.inl q.1) λq=>.inr ⟨N+2,aeg _,q⟩) (by omega)) (ac7 _),k,rest W g];rfl
  |ok a=>
   obtain⟨y,r⟩:=a;rw[h]at g2 k;obtain⟨A,W,aj,rfl,g2,g,o⟩:=g2;have g1:=KT g1;have u:=S6 h;have d: ((r.e:Nat):Int)=0:=by omega
   simp only[go_sem,simprocAttr,D3,j,DZ,fU,↓CL,ah4,l,g1,bD,d,g2.box];rw[iQ (dX.le (N:=N+2) (o.elim (λq=>.inl q.1) λq=>.inr ⟨N+2,aeg _,q⟩) (by omega)) (ac7 _),k,rest W g]
 ·have l: ¬(c.op:Int)=2:=by omega
  simp only[F1,go_sem,simprocAttr,D3,j,DZ,fU,l];rw[show eU s aa c=0 by unfold eU;rw[acE z]];rfl
def gE(n:Nat):lA:=[.int .i64 n]
def atQ(H:List ae)(lo:oN):D X0 (.fn (.func 177) [] []) [.an] ⟨H,lo⟩=some (.ret .an ⟨H,lo⟩):=by
 refine aH Ei λN b=>?_
 have a:fZ 1 .an none (some (.int .i64 0)) (some (.int .i64 0))=some .an:=by rfl
 simp(disch:=omega) only[F1,go_sem,simprocAttr,Ei,a]
def atS(id ai n:Nat)(H:List ae)(c:id<H.length)(lo:oN):D X0 (.fn (.func 177) [] []) [.ref id ai 1 0 n false] ⟨H,lo⟩=some (.ret (.ref id ai 1 0 n true) ⟨H,lo⟩):=by
 refine aH Ei λN d=>?_
 have b:fZ 1 (.ref id ai 1 0 n false) none (some (.int .i64 (n:Nat))) (some (.int .i64 (n:Nat)))=some (.ref id ai 1 0 n true):=by simp[fZ,fY,k0,k5]
 have a: ∀E,fb E .sl (.ref id ai 1 0 n false)=some (.int .i64 n):=λE=>rfl
 simp only[go_sem,simprocAttr,Ei,b,a];rw[iQ (.inl rfl) (by simp only[AV.refs];omega),ac4 (by omega)]
def atT(s:bF)(Q:bm s)(c:cz)(l:jE c)(H:List ae)(lo:oN):
  ∃v,D XB (.fn (.func 156) [] []) [.agg (bz s),.agg (bg c)] ⟨H,lo⟩=some (.ret (.av [v,.int .i64 (gz s c).2]) ⟨H,lo⟩)/\Rv v 1 ((gz s c).1.map gE):=by
 suffices W: ∃x,D XB (.fn (.func 156) [] []) [.agg (bz s),.agg (bg c)] ⟨H,lo⟩=some x/\ (λx=> ∃v,x=aT.ret (.av [v,.int .i64 (gz s c).2]) ⟨H,lo⟩/\Rv v 1 ((gz s c).1.map gE)) x by
  obtain⟨x,w,v,rfl,z⟩:=W;exact⟨v,w,z⟩
 refine cH Ef λN p=>?_
 have b:=λH lo=>lz (uJ s.T Q.T c.r l.r H lo)
 have o:=Q.T.get c.r;simp only[m0]at b;generalize R: (aL s.T c.r).1=r at*;generalize he: (aL s.T c.r).2=e at*;have hb:=l.b;have ha:=l.a;have X:=l.op;have y:=o.len;by_cases Y:e=0
 ·have c0:decide ((e:Int)=0)=true:=ac5 (by omega);by_cases w: (c.op≠3/\c.op≠4)\/c.b<1\/8<c.b
  ·have f:gz s c=([],2):=by unfold gz;rw[he,acz (by omega),acE w]
   rw[f];simp only[↓anZ,↓R1,Zz,go_sem,simprocAttr,Ef,p,b,c0,fU,↓SL];refine vz 25 (.bool true) [3,4,5,6] rfl rfl ?_ λf=>?_
   ·simp(disch:=omega) only[R4,↓R1,Zz,go_sem,simprocAttr,fU]
    (repeat' (first|apply And.intro|intro _))
    all_goals(try(refine afW AV.bool (amm.2 ?_);simp[];try(intros;omega)))
    all_goals first|trivial|omega
   ·simp(disch:=omega) only[F1,↓R1,Zz,go_sem,simprocAttr];exact⟨.an,rfl,.an⟩
  ·simp only[↓R1,Zz,go_sem,simprocAttr,Ef,p,b,c0,fU,↓SL];refine vz 25 (.bool false) [3,4,5,6] rfl rfl ?_ λe1=>?_
   ·simp(disch:=omega) only[R4,↓R1,Zz,go_sem,simprocAttr,fU]
    (repeat' (first|apply And.intro|intro _))
    all_goals(try(refine afW AV.bool (amm.2 ?_);simp[];try(intros;omega)))
    all_goals first|trivial|omega
   ·by_cases z:r.len<c.a+c.b
    ·have O: (r.len:Int)-c.b<c.a:=by omega
     have f:gz s c=([],9):=by unfold gz;rw[he,acz (by omega),acz w,R,acE z]
     rw[f];simp(disch:=omega) only[F1,↓anZ,↓R1,↓MP,Zz,go_sem,simprocAttr,fU,O];exact⟨.an,rfl,.an⟩
    ·have O: ¬(r.len:Int)-c.b<c.a:=by omega
     have f:gz s c=((List.range c.b).map λi=>(j8 r.runs 0 (c.a+i)).getD 0,0):=by unfold gz;rw[he,acz (by omega),acz w,R,acz z]
     rw[f];simp(disch:=omega) only[↓anZ,↓R1,↓MP,Zz,go_sem,simprocAttr,fU,O];obtain⟨B,hB⟩: ∃B:List ae,B=[.box (bz s) none,.box (bg c) none,.box (bR r) none]:=⟨_,rfl⟩;have M: (H++B).length=N+3:=by rw[hB];simp[p]
     rw[<-hB];refine iJ c.b (λk e H' aj=>aj=none/\ (H++B)<+:H'/\ (∃v,e 8=v/\aR (N+3) H' v 1 kr ((List.range k).map λi=>gE ((j8 r.runs 0 (c.a+i)).getD 0)))/\e 3= .ptr (N+1) 0/\e 6= .ptr (N+2) 0/\e 58= .int .i64 c.b/\e 59= .int .i64 k) 0 (by omega) ?_ ?_
     ·simp only[↓anZ,Zz,go_sem,simprocAttr];exact⟨aoN,_,rfl,aR.an⟩
     rintro k hk e H' aj ⟨rfl,⟨L,rfl⟩,⟨v,S,a⟩,U,T,u,t⟩ n hn;have C: (B++L)[1]?=some (.box (bg c) none):=by rw[hB];rfl
     have A: (B++L)[2]?=some (.box (bR r) none):=by rw[hB];rfl
     simp only[acF]at a;simp only[cg,↓R1,Zz,go_sem,simprocAttr,adG,T,S,u,t];refine⟨λl=>?_,λl=>?_⟩
     ·have J:k<c.b:=by omega
      have m:=λH lo=>lz (aq8 (en r.runs) r.len r.runs (mN r.runs) o.rb.1 (c.a+k) (by omega) H lo)
      simp only[Kv,amj]at m;have E:List.take 2 (List.drop 2 (bR r))=[en r.runs,.int .i64 r.len]:=rfl;simp(disch:=omega) only[↓R1,Zz,go_sem,simprocAttr,U,S,C,A,fU,E,m];refine oA (H0:=H++B) (ys:=[gE ((j8 r.runs 0 (c.a+k)).getD 0)]) a ⟨L,acF _ _ _⟩ M (by omega) (by intro el K;rw[ada.1 K];rfl) rfl (by rw[aej,List.length_range];show(k+1)*8<=room;unfold room;omega) λv' H2 g I=>?_
      simp(disch:=omega) only[↓anZ,↓R1,Zz,go_sem,simprocAttr,U,T,u,t];refine⟨J,I,v',rfl,?_⟩
      (try rw[an7]);rw[aeq]
      exact g
     ·obtain rfl:k=c.b:=by omega
      have G:bT ((List.range c.b).map λi=>gE ((j8 r.runs 0 (c.a+i)).getD 0))=0:=bp (λ_=>rfl) _;have F: (H++(B++L)).take N=H:=by rw[<-p];simp
      rw[ayR];rcases a.2 with⟨rfl,q⟩| ⟨id,ai,Z,rfl,P⟩
      ·have h:=λH lo=>lz (atQ H lo)
       simp(disch:=omega) only[F1,↓R1,Zz,go_sem,simprocAttr,h];refine⟨.an,rfl,?_⟩;have V: ((List.range c.b).map λi=>gE ((j8 r.runs 0 (c.a+i)).getD 0))=[]:=q;exact(afW (Rv .an 1) V).mpr .an
      ·have h:=λn=>lz (atS id ai n (H++(B++L)) (dM P) none)
       simp only[↓R1,Zz,go_sem,simprocAttr,h];rw[s8 (.inl rfl) (Fz.av (d:=11) (gV.cons (a':=.sl ((List.range c.b).map λi=>gE ((j8 r.runs 0 (c.a+i)).getD 0)) true) (λj=>?_) (gV.cons ((Fz.low (d:=0) (ac7 _)).mono (by omega)) gV.nil)))]
       ·exact⟨_,de rfl F,Rv.sl a.1⟩
       ·rw[show j+10=(j+6)+4 by omega];exact ag9 (by omega) P (by simp) (by rw[G];omega)
 ·have c0:decide ((e:Int)=0)=false:=acK (by omega);have f:gz s c=([],e):=by unfold gz;rw[he,acE Y]
  rw[f];simp only[F1,↓R1,Zz,go_sem,simprocAttr,Ef,p,b,c0,fU,↓SL];exact⟨.an,rfl,.an⟩
def fi(l:eV):lA:=[.int .u8 l.has,.int .i64 l.n]++arr 8 λi=>[.int .u8 (l.wait i)]
theorem zn(l:eV): (fi l).length=10:=rfl
theorem Fc(l:eV):aI (fi l)=0:=rfl
def ck(m:Marks):lA:=arr 32 λi=>fi (m i)
theorem dI(m:Marks): (ck m).length=320:=by rfl
theorem jF(m:Marks):aI (ck m)=0:=by rfl
structure gF(l:eV):Prop where
 has:l.has<=8
 n:l.n<=8
 lt: ∀i,l.wait i<8
 inj: ∀i j,i<l.n->j<l.n->l.wait i=l.wait j->i=j
def sG(f:Nat->Nat)(x n:Nat):oN:=(List.range n).find? λi=>decide (f i=x)
def zo(o:oN):Int:=match o with|some i=>i|none=> -1
def atU{f:Nat->Nat}{x:Nat}(h:sG f x k=none):sG f x (k+1)=if f k=x then some k else none:=by
 unfold sG at*;rw[an7,List.find?_append,h]
 grind
def atV{f:Nat->Nat}{x:Nat}{j:Nat}(h:sG f x k=some j): ∀n,k<=n->sG f x n=some j:=by
 intro n a;obtain⟨m,rfl⟩:=Nat.exists_eq_add_of_le a;unfold sG at*;rw[List.range_add,List.find?_append,h];rfl
def aib{f:Nat->Nat}{x:Nat}(h:sG f x n=some i):i<n/\f i=x:=by
 unfold sG at h
 grind
def atW(f:Nat->Nat)(x n M off:Nat)(s:n<2147483648)(H:List ae)(cs:lA)(h:H[M]?=some (.box cs none))(r: ∀i,i<n->cs[off+i]?=some (.int .u8 (f i)))(lo:oN):
  D X0 (.fn (.func 181) [] []) [.fa M 1 off n,.int .u8 x] ⟨H,lo⟩=some (.ret (.int .i64 (zo (sG f x n))) ⟨H,lo⟩):=by
 refine aH PJ λN v=>?_
 simp only[go_sem,simprocAttr,PJ];refine ek n (λk e H'=>H'=H/\sG f x k=none/\e 0= .fa M 1 off n/\e 1= .int .u8 x/\e 7= .int .i64 n/\e 8= .int .i64 k) 0 (by omega) ?_ ?_
 ·trivial
 rintro k t e H' ⟨rfl,g,p,o,l,j⟩ m hm;simp(disch:=omega) only[cg,F1,go_sem,simprocAttr,adJ,p,o,l,j];refine⟨λq=>?_,λq=>?_⟩
 ·have b:k<n:=by omega
  have c:=r k b;have u:iG 1 (.fa M 1 off n) (.int .i64 k)=some (.ptr M (off+k)):=by
   rw[NB,acE ⟨by omega,by omega,rfl⟩];simp
  have d:=atU g;by_cases e1:f k=x
  ·have a: ((x:Nat):Int)=f k:=by omega
   rw[acE e1]at d;simp(disch:=omega) only[F1,go_sem,simprocAttr,h,c,a];rw[atV d n (by omega)];exact⟨by omega,rfl⟩
  ·have a: ¬((x:Nat):Int)=f k:=by omega
   rw[acz e1]at d;simp(disch:=omega) only[go_sem,simprocAttr,p,o,l,j,h,c,a];exact⟨by omega,b,d⟩
 ·obtain rfl:k=n:=by omega
  rw[g];rfl
theorem aic(n:Nat):IntKind.wrap .u8 (n:Int)=((n % 256:Nat):Int):=by rfl
def aid(l:eV)(b:gF l)(aa:Nat)(f:aa<4294967296)(H:List ae)(lo:oN):
  D X0 (.fn (.func 162) [] []) [.agg (fi l),.int .i64 aa] ⟨H,lo⟩=some (.ret (.int .i64 (zo (qH l aa))) ⟨H,lo⟩):=by
 refine aH Py λN c=>?_
 have g:=b.n;have a:=λlo=>atW l.wait (aa % 256) l.n N 2 (by omega) (H++[.box (fi l) none]) (fi l) (by grind) (λi a=>by
  rcases(show i=0\/i=1\/i=2\/i=3\/i=4\/i=5\/i=6\/i=7 by omega)with h|h|h|h|h|h|h|h<;>subst h<;>rfl) lo
 have hw:=aic aa;have e: (fi l)[1]?=some (.int .i64 l.n):=rfl;have d: (0:Int)<=l.n/\ (l.n:Int)<=8:=by omega
 simp only[F1,go_sem,simprocAttr,Py,c,e,hw,a,d];rfl
def aie(l:eV)(i:Nat):eV:={l with wait:=λj=>if i<=j/\j<7 then l.wait (j+1)else l.wait j}
def atX{X:Ctx}{id off:Nat}{k:IntKind}{a:Int}:pK X n sz (.ptr id off) (some (.int k a)) none=if 0<=a/\a<=n then some (.fa id sz (off+a.toNat*sz) (n-a.toNat))else none:=by
 simp only[pK,fY,k0]
 grind
def atY{H:List ae}{N:Nat}(h:H[N]?=some (.box (fi l) none))(a:i<8):
  ri ⟨H,lo⟩ 1 (.fa N 1 (2+i) (8-i)) (.fa N 1 (2+(i+1)) (7-i))=some (.int .i64 (7-i:Nat),⟨H.set N (.box (fi (aie l i)) none),lo⟩):=by
 rcases(show i=0\/i=1\/i=2\/i=3\/i=4\/i=5\/i=6\/i=7 by omega)with q|q|q|q|q|q|q|q<;>subst q<;>
  (simp only[ri,B8,Den.elems,h];rfl)
def atZ(a:k<8):aM (fi l) (2+k) [.int .u8 0]=fi {l with wait:=aq l.wait k 0}:=by
 rcases(show k=0\/k=1\/k=2\/k=3\/k=4\/k=5\/k=6\/k=7 by omega)with q|q|q|q|q|q|q|q<;>subst q<;>rfl
def at0{v:Nat}(a:k<8):aM (fi l) (2+k) [.int .u8 v]=fi {l with wait:=aq l.wait k v}:=by
 rcases(show k=0\/k=1\/k=2\/k=3\/k=4\/k=5\/k=6\/k=7 by omega)with q|q|q|q|q|q|q|q<;>subst q<;>rfl
def aif(l:eV)(s:gF l)(aa:Nat)(t:aa<4294967296)(H:List ae)(lo:oN):
  D X0 (.fn (.func 147) [] []) [.agg (fi l),.int .i64 aa] ⟨H,lo⟩=some (.ret (.agg (fi (sr l aa))) ⟨H,lo⟩):=by
 refine aH Ji λN r=>?_
 have a:=λH lo=>aid l s aa t H lo
 have v:=s.n;have b: ∀l:eV,List.take 10 (fi l)=fi l:=λ_=>rfl
 unfold sr;cases p:qH l aa with
 |none=>
  rw[p]at a;simp only[zo]at a;simp only[F1,go_sem,simprocAttr,Ji,r,a,b,zn,Fc]
 |some i=>
  rw[p]at a;simp only[zo]at a;have u:=(aib p).1;have o: ¬((i:Nat):Int)<0:=by omega
  have m: (0:Int)<=i/\ (i:Int)<=8:=by omega
  have k: (0:Int)<=(i:Int)+1/\ (i:Int)+1<=8:=by omega
  have e: ((i:Int)+1).toNat=i+1:=by omega
  have j: ∀l:eV,(fi l)[1]?=some (.int .i64 l.n):=λ_=>rfl
  have f: ∀ (l:eV) (n:Nat),aM (fi l) 1 [.int .i64 n]=fi {l with n:=n}:=λ_ _=>rfl
  have c: (l.n:Int)-1=((l.n-1:Nat):Int):=by omega
  have g:l.n-1<8:=by omega
  have d:=λl:eV=>atZ (l:=l) g
  have h: (aie l i).n=l.n:=rfl;have q:=λB lo=>atY (H:=H++(.box (fi l) none::B)) (lo:=lo) (N:=N) (l:=l) (by rw[di r];rfl) (show i<8 by omega)
  simp(disch:=omega) only[F1,go_sem,simprocAttr,Ji,r,a,b,zn,Fc,atX,o,m,k,e,q,h,j,f,c,d];exact⟨by omega,by omega,rfl⟩
def qV:Den.part true 320 (ck m) 0=some (.agg (ck m)):=EE (dI m)
def wY(h:i<32):Den.part true 10 (ck m) (i*10)=some (.agg (fi (m i))):=kI (k:=10) (o:=0) (f:=λi=>fi (m i)) (λ_=>rfl) h (by omega) (by omega)
def qW(h:i<32):Den.part false 1 (ck m) (i*10)=some (.int .u8 (m i).has):=kI (k:=10) (o:=0) (f:=λi=>fi (m i)) (λ_=>rfl) h (by omega) (by omega)
def Fe(h:i<32):Den.part false 1 (ck m) (i*10+1)=some (.int .i64 (m i).n):=kI (k:=10) (o:=1) (f:=λi=>fi (m i)) (λ_=>rfl) h (by omega) (by omega)
def BQ{o:Nat}{vs:lA}(h:i<32)(ho:o+vs.length<=10)(a:aM (fi (m i)) o vs=fi l):aM (ck m) (i*10+o) vs=ck (aq m i l):=by
 unfold ck;rw[nK (k:=10) (f:=λi=>fi (m i)) (λ_=>rfl) h ho,a,oQ fi]
def KX(i aa:Nat)(H:List ae)(lo:oN):D X0 (.fn (.func 139) [] []) [.int .i64 i,.int .i64 aa] ⟨H,lo⟩=some (.ret (.bool (gA i aa)) ⟨H,lo⟩):=by
 refine aH Jg λN d=>?_
 have b: (i:Int)>=0:=by omega
 have c: (aa:Int)>=0:=by omega
 by_cases f:i<32
 ·have a: (i:Int)<32:=by omega
  have e:gA i aa=decide ((aa:Int)<8):=by unfold gA;grind
  rw[e];simp(disch:=omega) only[F1,go_sem,simprocAttr,Jg,b,c,a]
 ·have a: ¬(i:Int)<32:=by omega
  have e:gA i aa=false:=by unfold gA;grind
  rw[e];simp(disch:=omega) only[F1,go_sem,simprocAttr,Jg,b,a]
def aih(d:gF l)(g:aa<8)(h:qH l aa=none):l.n<8:=by
 have k:=d.n;by_cases e:l.n=8
 ·have p: ∀i,i<8->l.wait i≠aa:=by
    unfold qH at h
    grind
  have j: ((List.range 8).map l.wait++[aa]).Nodup:=by
   rw[List.nodup_append];refine⟨?_,by simp,?_⟩
   ·rw[au2,ax2];refine aqT (λ {a b} c m f he=>f ?_) (au2.1 (List.nodup_range (n:=8)));exact d.inj a b (by grind) (by grind) he
   grind
  have o:=KJ 8 _ j (by
   intro a c;rcases ac8.1 c with c|c
   ·obtain⟨i,_,rfl⟩:=ael.1 c;exact d.lt i
   ·rw[ada.1 c];exact g)
  grind
 ·omega
def at1(m:Marks)(E: ∀i,gF (m i))(a aa:Nat)(P:aa<4294967296)(H:List ae)(lo:oN):
  D X0 (.fn (.func 153) [] []) [.agg (ck m),.int .i64 a,.int .i64 aa] ⟨H,lo⟩=some (.ret (.av [.agg (ck (ia m a aa).1),.bool (ia m a aa).2]) ⟨H,lo⟩):=by
 refine aH r0 λN u=>?_
 have s:oD.length=320:=by decide
 have d:List.drop 320 oD=[]:=afL (by rw[s];omega);have W:List.take 320 (ck m)=ck m:=ac4 (by rw[dI];omega);have b:=λH lo=>KX a aa H lo
 have T: ∀m:Marks,(AV.av [.agg (ck m),.bool false]).refs<=N:=λm=>by simp[AV.refs,aI,jF]
 cases r:gA a aa with
 |false=>
  rw[r]at b;have t:ia m a aa=(m,false):=by unfold ia;rw[acE r]
  rw[t];simp only[F1,go_sem,simprocAttr,r0,u,b,↓qV,dI,jF,s,d]
 |true=>
  rw[r]at b;have c:a<32/\aa<8:=by unfold gA at r;simpa using r
  have L: ¬gA a aa=false:=by rw[r];simp
  obtain⟨c,X⟩:=c;have f: (0:Int)<=a/\ (a:Int)<32:=by omega
  have p:=λH lo=>aid (m a) (E a) aa P H lo
  have w:=λH lo=>aif (m a) (E a) aa P H lo
  have F:a*10+10<=320:=by omega
  have S:=(E a).has;have V:=(E a).n;have G:a*10<=319:=by omega
  by_cases M: (m a).has=aa+1
  ·have e: (((m a).has:Nat):Int)=(aa:Int)+1:=by omega
   have t:ia m a aa=(m,true):=by unfold ia;rw[acz L,acE M]
   rw[t];simp only[F1,go_sem,simprocAttr,r0,u,b,f,p,↓wY c,↓qW c,e,↓qV,dI,jF,s,d]
  ·have e:decide ((((m a).has:Nat):Int)=(aa:Int)+1)=false:=acK (by omega);have A: ∀ (m:Marks) (l:eV),aM (ck m) (a*10) (fi l)=ck (aq m a l):=λm l=>BQ (o:=0) c (by rw[zn];omega) rfl
   have z: ∀m:Marks,aM (ck m) (a*10) [.int .u8 ((aa:Int)+1)]=ck (aq m a {m a with has:=aa+1}):=λm=>BQ (o:=0) c (by simp) rfl
   have y: ∀m':Marks,aM (ck m') (a*10+1) [.int .i64 (((m a).n:Int)+1)]=ck (aq m' a {m' a with n:=(m a).n+1}):=λm'=>BQ c (by simp) rfl
   have I:a*10<=318:=by omega
   have Q: ∀m:Marks,List.take 320 (ck m)=ck m:=λm=>ac4 (by rw[dI];omega)
   by_cases K: (m a).has=0/\ ((m a).n=0\/qH (m a) aa=some 0)
   ·have t:ia m a aa=(aq m a {sr (m a) aa with has:=aa+1},true):=by unfold ia;rw[acz L,acz M,acE K]
    rw[t];have J:decide ((((m a).has:Nat):Int)=0)=true:=ac5 (by omega);have hw:IntKind.wrap .u8 ((aa:Int)+1)=((aa+1:Nat):Int):=by rw[wrap_u8 (by omega) (by omega)];rfl
    by_cases Y: (m a).n=0
    ·have g:decide ((((m a).n:Nat):Int)=0)=true:=ac5 (by omega);simp(disch:=omega) only[F1,go_sem,simprocAttr,r0,u,b,f,p,w,↓wY c,↓qW c,↓Fe c,e,J,g,hw,A,z,cu,r9,↓qV,dI,jF,s,d,zn,Fc,F,G]
    ·have g:decide ((((m a).n:Nat):Int)=0)=false:=acK (by omega);have O:qH (m a) aa=some 0:=K.2.resolve_left Y;rw[O]at p;simp only[zo]at p;simp(disch:=omega) only[F1,go_sem,simprocAttr,r0,u,b,f,p,w,↓wY c,↓qW c,↓Fe c,e,J,g,hw,A,z,cu,r9,↓qV,dI,jF,s,d,zn,Fc,F,G]
   ·have Z: ∀h:Nat,decide ((h:Int)=0)=decide (h=0):=λh=>aev.2 (by omega)
    cases v:qH (m a) aa with
    |none=>
     have U:=aih (E a) X v;have C: ((m a).n:Int)<8:=by omega
     have B:a*10+2+(m a).n<=319:=by omega
     have t:ia m a aa=(aq m a {m a with n:=(m a).n+1,wait:=aq (m a).wait (m a).n aa},false):=by unfold ia;rw[acz L,acz M,acz K,acE v]
     rw[t];rw[v]at p;simp only[zo]at p;have x: ∀ (m':Marks),(m' a).n=(m a).n->aM (ck m') (a*10+2+(m a).n) [.int .u8 aa]=ck (aq m' a {m' a with wait:=aq (m' a).wait (m a).n aa}):=λm' h=>(afW (λo=>aM (ck m') o _) (alL _ _ _)).trans (BQ c (by simp;omega) (at0 U))
     by_cases J: (m a).has=0
     ·have k:decide ((((m a).has:Nat):Int)=0)=true:=ac5 (by omega);have g:decide ((((m a).n:Nat):Int)=0)=false:=acK (by omega);simp(disch:=omega) only[F1,go_sem,simprocAttr,r0,u,b,f,p,↓wY c,↓qW c,↓Fe c,e,k,g,C,B,I,y,x,cu,r9,↓qV,dI,jF,s,d]
     ·have k:decide ((((m a).has:Nat):Int)=0)=false:=acK (by omega);simp(disch:=omega) only[F1,go_sem,simprocAttr,r0,u,b,f,p,↓wY c,↓qW c,↓Fe c,e,k,C,B,I,y,x,cu,r9,↓qV,dI,jF,s,d]
    |some j=>
     have t:ia m a aa=(m,false):=by unfold ia;rw[acz L,acz M,acz K,acz (by rw[v];simp)]
     rw[t];rw[v]at p;simp only[zo]at p;have R: ¬((j:Nat):Int)<0:=by omega
     by_cases J: (m a).has=0
     ·have k:decide ((((m a).has:Nat):Int)=0)=true:=ac5 (by omega);have g:decide ((((m a).n:Nat):Int)=0)=false:=acK (by omega);have O:decide (((j:Nat):Int)=0)=false:=acK (λq=>K ⟨J,.inr (by rw[v];congr 1;omega)⟩);simp(disch:=omega) only[F1,go_sem,simprocAttr,r0,u,b,f,p,↓wY c,↓qW c,↓Fe c,e,k,g,O,R,↓qV,dI,jF,s,d]
     ·have k:decide ((((m a).has:Nat):Int)=0)=false:=acK (by omega);simp(disch:=omega) only[F1,go_sem,simprocAttr,r0,u,b,f,p,↓wY c,↓qW c,e,k,R,↓qV,dI,jF,s,d]
end Go.Proofs.YteplichagkpciaaGreatDoor
