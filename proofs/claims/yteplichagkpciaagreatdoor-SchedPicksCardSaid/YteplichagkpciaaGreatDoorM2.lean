/- What functions do; conditions as stated. -/
import Derived.Test.YteplichagkpciaaGreatDoorM1
import Derived.Test.YteplichagkpciaaGreatDoorD2
set_option linter.all false
set_option maxRecDepth 10000
set_option maxHeartbeats 1000000
namespace Go.Proofs.YteplichagkpciaaGreatDoor
open Go Go.Den
variable{t:aw}{n a p k e j sz i aa q:Nat}{v bk:AV}{lo:oN}{x y:ar}{b:cM}{m:Marks}{vs:lA}{af:List lA}{r:bF}{α β:Type}{l:fw}{tg:Option TypeId}{f:Nat->Nat}
def asR:=@of_decide_eq_true
def atQ:=@List.take_set_of_le
def aun:=@List.Pairwise.imp_of_mem
def auR:=@List.nodup_iff_pairwise_ne
def azx:=@List.nodup_cons
def aB6:=@eq_false
def x5(o:bQ)(t:aw)(p:Ow->Bool)(h:Nat):Bool:=decide (root t h=h)&&p (ch o t h)
def jR(o:bQ)(t:aw)(p:Ow->Bool):lN:=(bo t.b).filter (x5 o t p)
def x6(o:bQ)(t:aw)(p:Ow->Bool)(n:Nat):lN:=((bo t.b).take n).filter (x5 o t p)
def ayc{o:bQ}{p:Ow->Bool}(h:n< (bo t.b).length):x6 o t p (n+1)=if x5 o t p ((bo t.b).getD n default)then x6 o t p n++[(bo t.b).getD n default]else x6 o t p n:=by
 unfold x6;rw[ajN,abe h,auo,getD_eq h]
 grind
def ayd{o:bQ}{p:Ow->Bool}: (x6 o t p n).length<=n:=ajU (ajZ _ _) (by grind)
def al5(o:bQ)(ho:fN o)(t:aw)(z:bR t)(V:cu t)(fv:AV)(p:Ow->Bool)(N:Nat)(H:List ae)(A:H.length=N)
  (hf: ∀x L,xY x->D X fv [.agg (jN x)] ⟨H++L,none⟩=some (.ret (.bool (p x)) ⟨H++L,none⟩)) (lo:oN):
  ∃w,D X (.fn (.func KQ) [] []) [.agg (cN o),.agg (aI t),fv] ⟨H,lo⟩=some (.ret w ⟨H,lo⟩)/\Rv w 1 ((jR o t p).map hC)/\w.refs=0:=by
 suffices hs: ∃E,D X (.fn (.func KQ) [] []) [.agg (cN o),.agg (aI t),fv] ⟨H,lo⟩=some E/\ (λE=> ∃w,E=aS.ret w ⟨H,lo⟩/\Rv w 1 ((jR o t p).map hC)/\w.refs=0) E by
  obtain⟨E,h1,w,rfl,h2⟩:=hs;exact⟨w,h1,h2⟩
 refine cE VF λM W=>?_
 obtain rfl:M=N:=by rw[<-W,A]
 obtain⟨v,J,e1,G⟩:=alg t.b z.b (M+2) (H++[.box (cN o) none,.box (aI t) none]) (by simp[A]) none;have y:D X (.fn (.func ke) [] []) [.agg (ca t.b)] ⟨H++[.box (cN o) none,.box (aI t) none],none⟩=some _:=uy (p:=nQ) rfl e1;have b:=(lG G none).bD;have sL:=nA t.b;rw[aaS]at y G b;obtain⟨q,u⟩: ∃q,q=[ae.box (cN o) none,.box (aI t) none]++J:=⟨_,rfl⟩;have Y: ∀L,(H++(q++L))[M]?=some (.box (cN o) none):=λL=>by rw[dn A,u];rfl
 have g1: ∀L,(H++(q++L))[M+1]?=some (.box (aI t) none):=λL=>by rw[bw A,u];rfl
 rw[<-u]at y G b;simp only[go_sem,simprocAttr,VF,W,y,b];refine dB (bo t.b).length (λn e H'=> ∃L,H'=H++(q++L)/\ (∃B,e 7=B/\aN (M+q.length) H' B 1 cg ((x6 o t p n).map hC))/\e 2=fv/\e 3= .ptr M 0/\e 4= .ptr (M+1) 0/\e 12=v/\e 13= .int .i64 (bo t.b).length/\e 14= .int .i64 n) 0 (by omega) ?_ ?_
 ·simp only[go_sem,simprocAttr];exact⟨[],by simp,_,rfl,aN.ai⟩
 rintro n hn e H' ⟨L,rfl,⟨B,e7,a⟩,O,K,I,m,l,k⟩ n' IK;simp only[bO,go_sem,simprocAttr,ajl,e7,m,l,k];refine⟨λhc=>?_,λhc=>?_⟩
 ·have f:n< (bo t.b).length:=by omega
  have Q:=(jt z.b).1 (eV f);have d:=ayc (o:=o) (p:=p) f;have g:Rd ⟨H++(q++L),none⟩ v 1 ((bo t.b).map hC):=lG (by have:=G.ext (L:=L);rwa[aaS]at this) none;have F:=g.cp (X:=X) (off:=0) (n:=1) (agg:=false) f;rw[pH]at F;have nc:=ayd (o:=o) (t:=t) (p:=p) (n:=n);generalize(bo t.b).getD n default=h at*;have T:=gn Q;have r:=λH lo=>up dt (Am t z V h T H lo)
  have C:=λH lo=>up dt (Dg o ho t z V h T H lo)
  have i:=hf (ch o t h) (q++L) (ho.of t h);have c:x5 o t p h=(decide (root t h=h)&&p (ch o t h)):=rfl;have U: ∀ak:oN,True:=λ_=>trivial
  by_cases Z:root t h=h
  ·have j:decide ((root t h:Int)=(h:Nat))=true:=abj (by omega);rw[abj Z,aoC]at c;cases S:p (ch o t h)
   ·rw[S]at i c;rw[c,aaH (by simp)]at d;simp(disch:=omega) only[go_sem,simprocAttr,O,K,I,e7,m,l,k,g.bX,F,Y,g1,r,C,j,i];exact⟨by omega,f,L,rfl,B,rfl,by rw[d];exact a⟩
   ·rw[S]at i c;rw[c,aaR rfl]at d;simp only[go_sem,simprocAttr,O,K,I,e7,g.bX,F,Y,g1,r,C,j,i];refine⟨by omega,oy (H0:=H++q) (ys:=[[.int .u32 (h:Nat)]]) a ⟨_,aaS _ _ _⟩ (by simp[A]) (by omega) (by intro el R;rw[ahc.1 R];rfl) rfl (by unfold room;simp;omega) λv' H2 s P=>?_⟩;obtain⟨L2,rfl⟩:=P;simp(disch:=omega) only[go_sem,simprocAttr,O,K,I,m,l,k];refine⟨f,L2,by simp,v',rfl,?_⟩;rw[d,aiw];rwa[aaS]at s
  ·have j: ¬((root t h:Nat):Int)=(h:Nat):=by omega
   rw[abi Z,ajT]at c;rw[c,aaH (by simp)]at d;simp(disch:=omega) only[go_sem,simprocAttr,O,K,I,e7,m,l,k,g.bX,F,g1,r,j];exact⟨by omega,f,L,rfl,B,rfl,by rw[d];exact a⟩
 ·obtain rfl:n=(bo t.b).length:=by omega
  have z:x6 o t p (bo t.b).length=jR o t p:=by unfold x6 jR;rw[aiv]
  rw[z]at a;have h0:b9 ((jR o t p).map hC)=0:=bz (λ_=>rfl) _;rw[aN.Rr (aN.le a (by omega)) (by omega)];refine⟨_,cU rfl (mF A),a.re,cJ a.re h0⟩
def qC(aa:Nat)(x:Ow):Bool:=decide (x.kind=1)&&decide (x.aa=aa)
def oZ(aa:Nat)(x:Ow):Bool:=decide (x.kind=3)&& (decide (aa<8)&&oM x.hold aa)
theorem Dj(x:Ow):jN x=[.int .u8 x.kind,.int .u8 x.aa,.int .u8 x.hold]:=rfl
def aye(aa:Nat)(x:Ow)(d:xY x)(q:Nat)(H:List ae)(e:H[q]?=some (.box [.int .i64 (aa:Nat)] none))(lo:oN):
  D X (.fn (.func K1) [] [.ptr q 0]) [.agg (jN x)] ⟨H,lo⟩=some (.ret (.bool (qC aa x)) ⟨H,lo⟩):=by
 refine fb NQ λN b=>?_
 have f: ∀L,(H++L)[q]?=_:=λL=>bf e
 have:=d.aa;by_cases c:x.kind=1
 ·have a: (x.kind:Int)=1:=by omega
  simp(disch:=omega) only[F1,go_sem,simprocAttr,NQ,b,Dj,f,a];refine cU (ajV AV.bool ?_) rfl;unfold qC;grind
 ·have a: ¬(x.kind:Int)=1:=by omega
  simp only[F1,go_sem,simprocAttr,NQ,b,Dj,a];unfold qC;grind
def ayf(aa:Nat)(k:aa<256)(x:Ow)(h:xY x)(q:Nat)(H:List ae)(i:H[q]?=some (.box [.int .i64 (aa:Nat)] none))(lo:oN):
  D X (.fn (.func KR) [] [.ptr q 0]) [.agg (jN x)] ⟨H,lo⟩=some (.ret (.bool (oZ aa x)) ⟨H,lo⟩):=by
 refine fb G8 λN e=>?_
 have f: ∀L,(H++L)[q]?=_:=λL=>bf i
 have j:=λH lo=>up dt (Yf aa (by omega) H lo)
 have hand:=Oy h.hold (Aq aa);have d:=alM (x:=x.hold) (aa:=aa);by_cases c:x.kind=3
 ·have b: (x.kind:Int)=3:=by omega
  have c0: (aa:Int)>=0:=by omega
  by_cases g:aa<8
  ·have a: (aa:Int)<8:=by omega
   simp only[F1,go_sem,simprocAttr,G8,e,Dj,f,b,c0,a,j,hand,d];unfold oZ;rw[abj c,abj g];rfl
  ·have a: ¬(aa:Int)<8:=by omega
   simp only[F1,go_sem,simprocAttr,G8,e,Dj,f,b,c0,a];unfold oZ;rw[abj c,abi g];rfl
 ·have b: ¬(x.kind:Int)=3:=by omega
  simp only[F1,go_sem,simprocAttr,G8,e,Dj,b];unfold oZ;rw[abi c];rfl
def ayg(o:bQ)(ho:fN o)(t:aw)(c:bR t)(d:cu t)(aa:Nat)(H:List ae)(lo:oN):
  ∃w,D X (.fn (.func S7) [] []) [.agg (cN o),.agg (aI t),.int .i64 aa] ⟨H,lo⟩=some (.ret w ⟨H,lo⟩)/\Rv w 1 ((jR o t (qC aa)).map hC)/\w.refs=0:=by
 obtain⟨N,f⟩: ∃N,H.length=N:=⟨_,rfl⟩;obtain⟨w,e1,e,e3⟩:=al5 o ho t c d (.fn (.func K1) [] [.ptr (N+2) 0]) (qC aa) (N+3) (H++[.box (cN o) none,.box (aI t) none,.box [.int .i64 aa] none]) (by grind)
  (λx L b=>aye aa x b (N+2) _ (by simp_all) none) none
 refine⟨w,?_,e,e3⟩;refine aF VE λM a=>?_
 obtain rfl:M=N:=by omega
 simp only[go_sem,simprocAttr,VE,a,e1];rw[xZ e3,mF a]
def ayh(o:bQ)(ho:fN o)(t:aw)(d:bR t)(e:cu t)(aa:Nat)(a:aa<256)(H:List ae)(lo:oN):
  ∃w,D X (.fn (.func SN) [] []) [.agg (cN o),.agg (aI t),.int .i64 aa] ⟨H,lo⟩=some (.ret w ⟨H,lo⟩)/\Rv w 1 ((jR o t (oZ aa)).map hC)/\w.refs=0:=by
 obtain⟨N,g⟩: ∃N,H.length=N:=⟨_,rfl⟩;obtain⟨w,e1,f,e3⟩:=al5 o ho t d e (.fn (.func KR) [] [.ptr (N+2) 0]) (oZ aa) (N+3) (H++[.box (cN o) none,.box (aI t) none,.box [.int .i64 aa] none]) (by grind)
  (λx L c=>ayf aa a x c (N+2) _ (by simp_all) none) none
 refine⟨w,?_,f,e3⟩;refine aF Vb λM b=>?_
 obtain rfl:M=N:=by omega
 simp only[go_sem,simprocAttr,Vb,b,e1];rw[xZ e3,mF b]
theorem al6(a b:Int):pC (.int .u8 a) (.int .u8 b)=some (decide (a=b)):=by rfl
def OA{a b:Int}{es:List (AV×AV)}:ea (.int .u8 a) ((.int .u8 b,v)::es)=if a=b then some (some v)else ea (.int .u8 a) es:=by
 simp only[ea,al6]
 grind
theorem al7{a:Int}{v:AV}: ∀ {es:List (AV×AV)},(∀e∈es,∃j:Int,e.1= .int .u8 j/\a≠j)->lT (.int .u8 a) v es=some (es++[(.int .u8 a,v)])
 | [],_=>rfl
 | (k,u)::es,h=>by
   obtain⟨j,c,b⟩:=h _ (ald ..);subst c;simp only[lT,al6,b,aDg];rw[al7 λe he=>h e (ajH _ he)];rfl
def Yj{H:List ae}(b:H.length=p){a:Int}{es:List (AV×AV)}(h: ∀e∈es,∃j:Int,e.1= .int .u8 j/\a≠j)(c:v.refs<=p+1):
  mz ⟨H++[.map es],lo⟩ .int (.mp p) (.int .u8 a) v=some ⟨H++[.map (es++[(.int .u8 a,v)])],lo⟩:=by
 unfold mz;rw[aaR (show kY .int (.int .u8 a)=true from rfl)];simp only[dn b,atT,al7 h];simp only[AS.set];simp_all
def Yk{gm:Nat->Option (List (AV×AV))}{H:List ae}{id:Nat}{es:List (AV×AV)}{a:Int}{z:AV}{r:Option AV}(h:H[id]?=some (.map es))(b:ea (.int .u8 a) es=some r):
  gV gm ⟨H,lo⟩ .int z (.mp id) (.int .u8 a) true=some (match r with|some v=>.au [v,.bool true]|none=>.au [z,.bool false]):=by
 unfold gV;rw[aaR (show kY .int (.int .u8 a)=true from rfl)];simp only[mapOf,h,b]
 grind
section
variable(T:aw)(hT:bR T)(x7:cu T)(O:bQ)(K:bh)(hK:gF K)(h:Nat)(hh:h<4294967296)(pw ph:Nat)(H:List ae)(hw:H[pw]?=some (.box (gl T O K) none))(pK:H[ph]?=some (.box [.int .u32 h] none))(lo:oN)
include hT x7 hK hh hw pK
omit hT x7 hh in
theorem ayi:D X (.fn (.func w9) [] [.ptr pw 0,.ptr ph 0]) [] ⟨H,lo⟩=some (.ret (.bool (xK K h 0)) ⟨H,lo⟩):=by
 refine fb VX λN a=>?_
 have hr: ∀H lo,D X (.fn (.func Ft) [] []) [.agg (b0 K),.int .u32 h,.int .u32 0] ⟨H,lo⟩=_:=alU K hK h 0 (by omega);simp(disch:=omega) only[F1,go_sem,simprocAttr,VX,a,hw,pK,↓rO,hr]
omit hT x7 hh in
theorem ayj:D X (.fn (.func xa) [] [.ptr pw 0,.ptr ph 0]) [] ⟨H,lo⟩=some (.ret (.bool (Ac K h 0)) ⟨H,lo⟩):=by
 refine fb VY λN a=>?_
 have hr: ∀H lo,D X (.fn (.func Fu) [] []) [.agg (b0 K),.int .u32 h,.int .u32 0] ⟨H,lo⟩=_:=alV K hK h 0 (by omega);simp(disch:=omega) only[F1,go_sem,simprocAttr,VY,a,hw,pK,↓rO,hr]
omit hT x7 hh pK in
theorem ayk(x:Nat):D X (.fn (.func K3) [] [.ptr pw 0]) [.int .u32 x] ⟨H,lo⟩=some (.ret (.bool (decide (0< (nC K x).length))) ⟨H,lo⟩):=by
 refine fb V4 λN a=>?_
 obtain⟨w,e1,b,e3⟩:=Yh K hK x H none;simp(disch:=omega) only[F1,go_sem,simprocAttr,V4,a,hw,↓rO,e1,b.bD];exact cU (ajV AV.bool (ajF.2 (by omega))) rfl
theorem ayl:D X (.fn (.func zl) [] [.ptr pw 0,.ptr ph 0]) [] ⟨H,lo⟩=some (.ret (.bool (!((under T h).any λx=>decide (0< (nC K x).length)))) ⟨H,lo⟩):=by
 refine fb VZ λN b=>?_
 obtain⟨v,J,a,e,d,c⟩:=Ol T hT x7 h hh N H b none;have f:=akX dt v (.fn (.func K3) [] [.ptr pw 0]) (under T h) (H++J) d.rd (by have:=Hx x7 h;omega) (λx=>decide (0< (nC K x).length)) a (λx _=>ayk T O K hK pw (H++J) (bf hw) none x);simp only[go_sem,simprocAttr,VZ,hw,pK,↓qk,e,f];rw[ja (dQ.of c) (abX _),mF b]
end
def aym(T:aw)(hT:bR T)(x7:cu T)(O:bQ)(K:bh)(hK:gF K)(h:Nat)(hh:h<4294967296)(b:Nat)(s:b<=2)(H:List ae)(lo:oN):
  D X (.fn (.func SP) [] []) [.agg (gl T O K),.int .u32 h,.int .u8 b] ⟨H,lo⟩=some (.ret (.bool (Hq T K h b)) ⟨H,lo⟩):=by
 refine aF GV λN i=>?_
 obtain⟨n,l⟩: ∃n,n=H++[ae.box (gl T O K) none,.box [.int .u32 h] none]:=⟨_,rfl⟩;have g:n.length=N+2:=by rw[l];simp[i]
 have hr: ∀f,(AV.fn (.func f) [] [.ptr N 0,.ptr (N+1) 0]).refs<=N+2+1:=λf=>by simp only[AV.refs,aG];omega
 have k:=Yj g (a:=0) (es:=[]) (lo:=none) (by simp) (hr w9);have j:=Yj g (a:=1) (es:=[(.int .u8 0,.fn (.func w9) [] [.ptr N 0,.ptr (N+1) 0])]) (lo:=none) (by simp) (hr xa);have m3:=Yj g (a:=2) (es:=[(.int .u8 0,.fn (.func w9) [] [.ptr N 0,.ptr (N+1) 0]),(.int .u8 1,.fn (.func xa) [] [.ptr N 0,.ptr (N+1) 0])]) (lo:=none) (by simp) (hr zl);rw[l]at k j m3;simp only[aaS,ajW,ajS]at k j m3;obtain⟨e,c⟩: ∃e,e=H++[ae.box (gl T O K) none,.box [.int .u32 h] none,.map [(.int .u8 0,.fn (.func w9) [] [.ptr N 0,.ptr (N+1) 0]),(.int .u8 1,.fn (.func xa) [] [.ptr N 0,.ptr (N+1) 0]),(.int .u8 2,.fn (.func zl) [] [.ptr N 0,.ptr (N+1) 0])]]:=⟨_,rfl⟩;have m:e[N]?=some (.box (gl T O K) none):=by rw[c,dn i];rfl
 have g1:e[N+1]?=some (.box [.int .u32 h] none):=by rw[c,bw i];rfl
 have g2:e[N+2]?=some (.map [(.int .u8 0,.fn (.func w9) [] [.ptr N 0,.ptr (N+1) 0]),(.int .u8 1,.fn (.func xa) [] [.ptr N 0,.ptr (N+1) 0]),(.int .u8 2,.fn (.func zl) [] [.ptr N 0,.ptr (N+1) 0])]):=by rw[c,bw i];rfl
 have q:=ayi O K hK h N (N+1) e (T:=T) m g1 none;have p:=ayj O K hK h N (N+1) e (T:=T) m g1 none;have o:=ayl T hT x7 O K hK h hh N (N+1) e m g1 none;have hw:b=0\/b=1\/b=2:=by omega
 rcases hw with rfl|rfl|rfl
 ·have d:=Yk (gm:=X.fo) (lo:=none) (a:=0) (z:=.cR) g2 (r:=some _) (by simp only[OA,ajQ];rfl);rw[c]at q d;simp only[F1,go_sem,simprocAttr,GV,i,k,j,m3,d,q];rfl
 ·have d:=Yk (gm:=X.fo) (lo:=none) (a:=1) (z:=.cR) g2 (r:=some (.fn (.func xa) [] [.ptr N 0,.ptr (N+1) 0])) (by simp[OA]);rw[c]at p d;simp only[F1,go_sem,simprocAttr,GV,i,k,j,m3,d,p];rfl
 ·have d:=Yk (gm:=X.fo) (lo:=none) (a:=2) (z:=.cR) g2 (r:=some (.fn (.func zl) [] [.ptr N 0,.ptr (N+1) 0])) (by simp[OA]);rw[c]at o d;simp only[F1,go_sem,simprocAttr,GV,i,k,j,m3,d,o];rfl
def OB(K:bh)(aa h a t:Nat):Bool:=decide ((ck K t).1.to=aa)&& ((decide (a=0)&&xK K h t)|| (decide (a=1)&& (ck K t).1.mu&&Ac K h t))
def ayn(T:aw)(O:bQ)(K:bh)(m:gF K)(aa h a t:Nat)(w:t<4294967296)(n o q p:Nat)(H:List ae)(i:H[n]?=some (.box (gl T O K) none))(u:H[o]?=some (.box [.int .i64 aa] none))
  (z:H[q]?=some (.box [.int .u8 a] none)) (y:H[p]?=some (.box [.int .u32 h] none)) (lo:oN):
  D X (.fn (.func K7) [] [.ptr n 0,.ptr o 0,.ptr q 0,.ptr p 0]) [.int .u32 t] ⟨H,lo⟩=some (.ret (.bool (OB K aa h a t)) ⟨H,lo⟩):=by
 refine fb xB λN j=>?_
 have g1: ∀L,(H++L)[n]?=_:=λL=>bf i
 have g2: ∀L,(H++L)[o]?=_:=λL=>bf u
 have l: ∀L,(H++L)[q]?=_:=λL=>bf z
 have A: ∀L,(H++L)[p]?=_:=λL=>bf y
 have b:=λH lo=>up dt (Dh K m t w H lo)
 have hr:=alU K m h t w;have s:=alV K m h t w;have r:=m.get t;have c:OB K aa h a t=(decide ((ck K t).1.to=aa)&& ((decide (a=0)&&xK K h t)|| (decide (a=1)&& (ck K t).1.mu&&Ac K h t))):=rfl;generalize G: (ck K t).1=x at*;have v:=nR x;rw[v]at b;have F:=r.to;by_cases E:x.to=aa
 ·have d:decide ((x.to:Int)=aa)=true:=abj (by omega);rw[abj E,aoC]at c;by_cases C:a=0
  ·have f:decide ((a:Int)=0)=true:=abj (by omega);have e:decide ((a:Int)=1)=false:=abi (by omega);rw[abj C,abi (by omega: ¬a=1),aoC,ajT,ajT,Bool.or_false]at c;cases k:xK K h t
   ·rw[k]at hr c;simp(disch:=omega) only[F1,go_sem,simprocAttr,xB,j,i,g1,g2,l,A,↓rO,b,d,f,e,hr,c]
   ·rw[k]at hr c;simp(disch:=omega) only[F1,go_sem,simprocAttr,xB,j,i,g1,g2,l,A,↓rO,b,d,f,hr,c]
  ·have f: ¬(a:Int)=0:=by omega
   rw[abi C,ajT,at3]at c;by_cases B:a=1
   ·have e:decide ((a:Int)=1)=true:=abj (by omega);rw[abj B,aoC]at c;cases g:x.mu
    ·rw[g,ajT]at c;simp(disch:=omega) only[F1,go_sem,simprocAttr,xB,j,i,g2,l,↓rO,b,d,f,e,g,c]
    ·rw[g,aoC]at c;simp(disch:=omega) only[F1,go_sem,simprocAttr,xB,j,i,g1,g2,l,A,↓rO,b,d,f,e,g,s,c]
   ·have e: ¬(a:Int)=1:=by omega
    rw[abi B,ajT,ajT]at c;simp(disch:=omega) only[F1,go_sem,simprocAttr,xB,j,i,g2,l,↓rO,b,d,f,e,c]
 ·have d: ¬(x.to:Int)=aa:=by omega
  rw[abi E,ajT]at c;simp(disch:=omega) only[F1,go_sem,simprocAttr,xB,j,i,g2,↓rO,b,d,c]
def ayo(T:aw)(O:bQ)(K:bh)(f:gF K)(aa h a:Nat)(H:List ae)(lo:oN):
  D X (.fn (.func Ti) [] []) [.agg (gl T O K),.int .i64 aa,.int .u32 h,.int .u8 a] ⟨H,lo⟩=some (.ret (.bool (Hr K aa h a)) ⟨H,lo⟩):=by
 refine aF VW λN e=>?_
 obtain⟨d,b⟩: ∃d,d=H++[ae.box (gl T O K) none,.box [.int .i64 aa] none,.box [.int .u32 h] none,.box [.int .u8 a] none]:=⟨_,rfl⟩;have k:d[N]?=some (.box (gl T O K) none):=by rw[b,dn e];rfl
 have g1:d[N+1]?=some (.box [.int .i64 aa] none):=by rw[b,bw e];rfl
 have g2:d[N+2]?=some (.box [.int .u32 h] none):=by rw[b,bw e];rfl
 have j:d[N+3]?=some (.box [.int .u8 a] none):=by rw[b,bw e];rfl
 obtain⟨w,e1,l,e3⟩:=Yh K f h d none;have c: (nC K h).length<2^40:=by
  have:=nA K.b;have: (nC K h).length<=_:=ajZ _ _;omega
 have g:=akX dt w (.fn (.func K7) [] [.ptr N 0,.ptr (N+1) 0,.ptr (N+3) 0,.ptr (N+2) 0]) (nC K h) d (l _) c (OB K aa h a) none
  (λt i=>ayn T O K f aa h a t (gn ((jt f.b).1 (ajL.1 i).1)) N (N+1) (N+3) (N+2) d k g1 j g2 none)
 have m:Hr K aa h a=(nC K h).any (OB K aa h a):=rfl;rw[b]at e1 g;simp only[F1,go_sem,simprocAttr,VW,e,↓rO,e1,g,m]
def al8{x:Nat}(a:x<256)(b:k<8):decide ((x/2^k) % 2=1)=x.testBit k:=by grind
def ayp(T:aw)(M:bR T)(v:cu T)(O:bQ)(P:fN O)(K:bh)(Q:gF K)(aa:Nat)(S:aa<256)(h:Nat)(F:h<4294967296)(c:Nat)(B:c<=2)(H:List ae)(lo:oN):
  D X (.fn (.func S8) [] []) [.agg (gl T O K),.int .i64 aa,.int .u32 h,.int .u8 c] ⟨H,lo⟩=some (.ret (.int .i64 (xL T O K aa h c:Nat)) ⟨H,lo⟩):=by
 refine aF nu λN n=>?_
 have g:=λH lo=>up dt (eF T.b h F H lo)
 have G: ∀h,ax T.b h=T.ax h:=λh=>rfl
 simp only[G]at g;have k:=λH lo=>up dt (Dg O P T M v h F H lo)
 have m:=aym T M v O K Q h F c B;have hle:=ayo T O K Q aa h c;have s:=P.of T h;have a:Den.part true 96 (gl T O K) 0=some (.agg (ca T.b)):=by
  have e:gl T O K=ca T.b++(xF T.r++(cN O++b0 K)):=by simp[gl,aI]
  rw[e];exact xH (oJ _) (by omega)
 have d:Den.part true 784 (gl T O K) 0=some (.agg (gl T O K)):=Hg (lr _ _ _);have f:xL T O K aa h c=if T.ax h=false then 4
  else if(ch O T h).kind=3 then(if c=0/\aa<8/\ (ch O T h).hold.testBit aa=true then 0 else 5)
  else if(ch O T h).kind=1 then(if((ch O T h).aa=aa/\Hq T K h c=true)\/Hr K aa h c=true then 0 else 5)
  else 5:=rfl
 generalize V:ch O T h=x at*;have C:=Dj x;rw[C]at k;cases z:T.ax h with
 |false=>
  rw[aaR z]at f;rw[z]at g;simp only[F1,go_sem,simprocAttr,nu,n,↓a,g,f]
 |true=>
  rw[aaH (by rw[z];simp)]at f;rw[z]at g;by_cases J:x.kind=3
  ·have j:decide ((x.kind:Int)=3)=true:=abj (by omega);rw[aaR J]at f;by_cases w:c=0
   ·have i: (c:Int)=0:=by omega
    have c0: (aa:Int)>=0:=by omega
    by_cases I:aa<8
    ·have r: (aa:Int)<8:=by omega
     have t:k9 .shr (.int .u8 (x.hold:Nat)) (.int .i64 (aa:Nat))=some (.int .u8 ((x.hold/2^aa:Nat):Int)):=by
      rw[EF,aaR (by omega)];have U:IntKind.u8.bits=8:=rfl;rw[U,aw1,as0 (by omega)]
      congr 2
      rw[Int.fdiv_eq_ediv_of_nonneg _ (Int.le_of_lt (Int.pow_pos (by decide)))];simp
     have E:x.hold/2^aa<256:=Nat.lt_of_le_of_lt (Nat.div_le_self _ _) s.hold;have hand:dq .and (.int .u8 ((x.hold/2^aa:Nat):Int)) (.int .u8 1)=some (.int .u8 ((x.hold/2^aa % 2:Nat):Int)):=by
      have:=Oy (b:=1) E (by omega);have e:x.hold/2^aa&&&1=x.hold/2^aa % 2:=Nat.and_one_is_mod _;rw[e]at this;exact this
     have p:=al8 s.hold I;cases A:x.hold.testBit aa
     ·rw[A,aaH (by simp)]at f;rw[A]at p;have o: ¬((x.hold/2^aa % 2:Nat):Int)=1:=by
       have:=of_decide_eq_false p;omega
      simp only[F1,go_sem,simprocAttr,nu,n,↓a,↓ql,↓qk,g,k,j,i,c0,r,t,hand,o,f]
     ·rw[A,aaR ⟨w,I,rfl⟩]at f;rw[A]at p;have o:decide (((x.hold/2^aa % 2:Nat):Int)=1)=true:=by
       have:=asR p;exact abj (by omega)
      simp only[F1,go_sem,simprocAttr,nu,n,↓a,↓ql,↓qk,g,k,j,i,c0,r,t,hand,o,f]
    ·have r: ¬(aa:Int)<8:=by omega
     rw[aaH (λq=>I q.2.1)]at f;simp only[F1,go_sem,simprocAttr,nu,n,↓a,↓ql,↓qk,g,k,j,i,c0,r,f]
   ·have i: ¬(c:Int)=0:=by omega
    rw[aaH (λq=>w q.1)]at f;simp only[F1,go_sem,simprocAttr,nu,n,↓a,↓ql,↓qk,g,k,j,i,f]
  ·have j: ¬(x.kind:Int)=3:=by omega
   rw[aaH J]at f;by_cases L:x.kind=1
   ·have l:decide ((x.kind:Int)=1)=true:=abj (by omega);rw[aaR L]at f;have R:=s.aa;cases y:Hr K aa h c<;>by_cases w:x.aa=aa
    ·have i:decide ((x.aa:Int)=aa)=true:=abj (by omega);rw[y]at hle f;cases u:Hq T K h c
     ·rw[u]at m f;rw[aaH (by simp)]at f;simp(disch:=omega) only[F1,go_sem,simprocAttr,nu,n,↓a,↓ql,↓qk,↓d,g,k,j,l,i,m,hle,f]
     ·rw[u]at m f;rw[aaR (.inl ⟨w,rfl⟩)]at f;simp(disch:=omega) only[F1,go_sem,simprocAttr,nu,n,↓a,↓ql,↓qk,↓d,g,k,j,l,i,m,f]
    ·have i: ¬(x.aa:Int)=aa:=by omega
     rw[y]at hle f;rw[aaH (by simp[w])]at f;simp(disch:=omega) only[F1,go_sem,simprocAttr,nu,n,↓a,↓ql,↓qk,↓d,g,k,j,l,i,hle,f]
    ·have i:decide ((x.aa:Int)=aa)=true:=abj (by omega);rw[y]at hle f;rw[aaR (.inr rfl)]at f;cases u:Hq T K h c
     ·rw[u]at m;simp(disch:=omega) only[F1,go_sem,simprocAttr,nu,n,↓a,↓ql,↓qk,↓d,g,k,j,l,i,m,hle,f]
     ·rw[u]at m;simp(disch:=omega) only[F1,go_sem,simprocAttr,nu,n,↓a,↓ql,↓qk,↓d,g,k,j,l,i,m,f]
    ·have i: ¬(x.aa:Int)=aa:=by omega
     rw[y]at hle f;rw[aaR (.inr rfl)]at f;simp(disch:=omega) only[F1,go_sem,simprocAttr,nu,n,↓a,↓ql,↓qk,↓d,g,k,j,l,i,hle,f]
   ·have l: ¬(x.kind:Int)=1:=by omega
    rw[aaH L]at f;simp only[F1,go_sem,simprocAttr,nu,n,↓a,↓ql,↓qk,g,k,j,l,f]
structure we(m:kp):Prop where
 fr:m.fr<8
 word:m.word<18446744073709551616
 aL:m.aL<4294967296
structure jb(b:cS):Prop where
 fr:b.fr<4
 n:b.n<=4
 ring: ∀i,we (b.ring i)
def Yl:we Ad:=⟨by trivial,by trivial,by trivial⟩
def jb.gone:jb Ae:=⟨by trivial,by trivial,λ_=>Yl⟩
def jb.close{b:cS}(h:jb b):jb (vO b).1:=by
 unfold vO;split
 ·exact h
 ·exact⟨h.fr,h.n,h.ring⟩
def jb.put{b:cS}(h:jb b){m:kp}(a:we m):jb (oO b m).1:=by
 unfold oO;split
 ·exact h
 ·split
  ·exact h
  ·refine⟨h.fr,by have:=h.n;grind,λi=>?_⟩;show we (aq b.ring (mh b b.n) m i);by_cases e:i=mh b b.n
   ·rw[e,cZ];exact a
   ·rw[ds e];exact h.ring i
def jb.take{b:cS}(h:jb b):jb (mX b).1/\we (mX b).2.1:=by
 unfold mX;split
 ·exact⟨h,Yl⟩
 ·exact⟨⟨als _ (by omega),by have:=h.n;grind,h.ring⟩,h.ring _⟩
def al9(b:cS)(i:Nat):mh b i<4:=als _ (by omega)
def zB:lA:=[.int .u8 0,.int .u64 0,.int .u32 0,.bool false,.int .u8 0,.int .u64 0,.int .u32 0,.bool false,.int .u8 0,.int .u64 0,.int .u32 0,.bool false,.int .u8 0,.int .u64 0,.int .u32 0,.bool false,.int .i64 0,.int .i64 0,.bool false]
theorem ama{b:cS}:List.take 19 (cA b)=cA b:=by rfl
def MB:=gG @ama<|gG @z7 @aj8
theorem o5(m:kp):eB m=[.int .u8 m.fr,.int .u64 m.word,.int .u32 m.aL,.bool m.share]:=rfl
def Ym(b:cS)(d:b.fr<4)(i:Nat)(c:i<1000)(H:List ae)(lo:oN):D X0 (.fn (.func BV) [] []) [.agg (cA b),.int .i64 i] ⟨H,lo⟩=some (.ret (.int .i64 (mh b i:Nat)) ⟨H,lo⟩):=by
 refine aF VU λN a=>?_
 have e: ((b.fr:Int)+i).tmod 4=(mh b i:Nat):=by rfl
 simp(disch:=omega) only[F1,go_sem,simprocAttr,VU,a,↓akp,e]
def Yn(b:cS)(l:jb b)(m:kp)(H:List ae)(lo:oN):
  D X0 (.fn (.func S2) [] []) [.agg (cA b),.agg (eB m)] ⟨H,lo⟩=some (.ret (.au [.agg (cA (oO b m).1),.int .i64 (oO b m).2]) ⟨H,lo⟩):=by
 refine aF G6 λN j=>?_
 have e:oO b m=if b.closed then(b,11)else if b.n=4 then(b,7)else({b with ring:=aq b.ring (mh b b.n) m,n:=b.n+1},0):=rfl
 have hm:=o5 m;cases f:b.closed
 ·rw[f,aaH (by simp)]at e;by_cases k:b.n=4
  ·rw[aaR k]at e;have d:decide ((b.n:Int)=4)=true:=abj (by omega);simp only[F1,go_sem,simprocAttr,G6,j,hm,↓z8,f,↓CV,d,MB,↓rN,e]
  ·rw[aaH k]at e;have d: ¬(b.n:Int)=4:=by omega
   have p:=l.n;have i:=Ym b l.fr b.n (by omega);have h:=al9 b b.n;have a:=avR (b:=b) (x:=m) h;rw[hm]at a;have g: ∀c,aH (cA ⟨aq b.ring (mh b b.n) m,b.fr,b.n,c⟩) 17 [.int .i64 ((b.n:Int)+1)]=cA ⟨aq b.ring (mh b b.n) m,b.fr,b.n+1,c⟩:=λc=>akq (x:=b.n+1)
   have o: (N+1 !=N)=true:=by simp
   simp(disch:=omega) only[F1,go_sem,simprocAttr,G6,j,hm,↓z8,f,↓CV,d,MB,↓rN,i,a,g,e];exact⟨by omega,by omega⟩
 ·rw[f,aaR rfl]at e;simp only[F1,go_sem,simprocAttr,G6,j,hm,↓z8,f,MB,↓rN,e]
def aY(x:ar)(bk:AV):lA:=bB x.s++([.int .i64 x.aa]++(bg x.c++(ay x.run++[.int .i64 x.mY,.bool x.asks,bk])))
def OC(x:ar)(bk:AV): (aY x bk).length=964:=by simp only[aY,ahU,fe];rfl
section
variable{x:ar}{bk:AV}
theorem wg{ag:Bool}{m o:Nat}(ho:o+m<=952)(a:0<m):Den.part ag m (aY x bk) o=Den.part ag m (bB x.s) o:=by
 unfold aY;exact rK (by rw[fe];exact ho) a
def o6{ag:Bool}{m o:Nat}(ho:952<=o):Den.part ag m (aY x bk) o=Den.part ag m ([.int .i64 x.aa]++(bg x.c++(ay x.run++[.int .i64 x.mY,.bool x.asks,bk]))) (o-952):=by
 unfold aY;rw[ko (by rw[fe];exact ho),fe]
def amb:Den.part true 480 (aY x bk) 0=some (.agg (aI x.s.T)):=by grind [wg,W4]
theorem Yo:Den.part true 96 (aY x bk) 0=some (.agg (ca x.s.T.b)):=by rfl
def amc:Den.part true 128 (aY x bk) 480=some (.agg (cN x.s.O)):=by grind [wg,W5]
def amd:Den.part true 176 (aY x bk) 608=some (.agg (b0 x.s.K)):=by grind [wg,W7]
def ame:Den.part true 784 (aY x bk) 0=some (.agg (gl x.s.T x.s.O x.s.K)):=by grind [wg,WY]
def amf:Den.part true 952 (aY x bk) 0=some (.agg (bB x.s)):=by grind [wg,WZ]
def OD{i:Nat}(h:i<8):Den.part true 19 (aY x bk) (784+i*19)=some (.agg (cA (x.s.dh i))):=by grind [wg,avV]
def Yp{i:Nat}(h:i<8):Den.part false 1 (aY x bk) (936+i)=some (.bool (x.s.alive i)):=by grind [wg,aks]
def ayq{i:Nat}(h:i<8):Den.part false 1 (aY x bk) (944+i)=some (.bool (x.s.born i)):=by grind [wg,avW]
def amg:Den.part false 1 (aY x bk) 952=some (.int .i64 x.aa):=by rw[o6 (by omega)];rfl
def amh:Den.part false 1 (aY x bk) 953=some (.int .u8 x.c.op):=by rw[o6 (by omega)];rfl
def ami:Den.part false 1 (aY x bk) 954=some (.int .u32 x.c.r):=by rw[o6 (by omega)];rfl
def amj:Den.part false 1 (aY x bk) 955=some (.int .u32 x.c.s):=by rw[o6 (by omega)];rfl
def amk:Den.part false 1 (aY x bk) 956=some (.int .u32 x.c.a):=by rw[o6 (by omega)];rfl
def aml:Den.part false 1 (aY x bk) 957=some (.int .u32 x.c.b):=by rw[o6 (by omega)];rfl
def amm:Den.part false 1 (aY x bk) 958=some (.int .u64 x.c.v):=by rw[o6 (by omega)];rfl
def amn:Den.part true 6 (aY x bk) 953=some (.agg (bg x.c)):=by rw[o6 (by omega)];rfl
def amo:Den.part true 2 (aY x bk) 959=some (.agg (ay x.run)):=by rw[o6 (by omega)];rfl
def amp:Den.part false 1 (aY x bk) 960=some (.int .i64 x.run.2):=by rw[o6 (by omega)];rfl
def amq:Den.part false 1 (aY x bk) 961=some (.int .i64 x.mY):=by rw[o6 (by omega)];rfl
def amr:Den.part false 1 (aY x bk) 962=some (.bool x.asks):=by rw[o6 (by omega)];rfl
def ams:Den.part false 1 (aY x bk) 963=some bk:=by rw[o6 (by omega)];rfl
def CL:=gG @amb<|gG @Yo<|gG @amc<|gG @amd<|gG @ame<|gG @amf<|gG @amg<|gG @amh<|gG @ami<|gG @amj<|gG @amk<|gG @aml<|gG @amm<|gG @amn<|gG @amo<|gG @amp<|gG @amq<|gG @amr @ams
def Dk{s:bI}{o:Nat}(ho:o+vs.length<=952)(h:aH (bB x.s) o vs=bB s):aH (aY x bk) o vs=aY {x with s:=s} bk:=by
 unfold aY;rw[rL (by rw[fe];exact ho),h]
def Yq:aH (aY x bk) 0 (aI t)=aY (x.t t) bk:=Dk (by rw[iz];omega) avX
def amt{w:bQ}:aH (aY x bk) 480 (cN w)=aY (x.o w) bk:=Dk (by rw[ud];omega) avY
def amu{k:bh}:aH (aY x bk) 608 (b0 k)=aY (x.k k) bk:=Dk (by rw[z6];omega) avZ
def OE{i:Nat}{b:cS}(h:i<8):aH (aY x bk) (784+i*19) (cA b)=aY (x.bx i b) bk:=Dk (by rw[z7];omega) (av0 h)
def amv{i:Nat}{v:Bool}(h:i<8):aH (aY x bk) (936+i) [.bool v]=aY {x with s:={x.s with alive:=aq x.s.alive i v}} bk:=Dk (by grind) (aku h)
def ayr{i:Nat}{v:Bool}(h:i<8):aH (aY x bk) (944+i) [.bool v]=aY {x with s:={x.s with born:=aq x.s.born i v}} bk:=Dk (by grind) (akv h)
def Dl{o:Nat}(ho:952<=o):aH (aY x bk) o vs=bB x.s++aH ([.int .i64 x.aa]++(bg x.c++(ay x.run++[.int .i64 x.mY,.bool x.asks,bk]))) (o-952) vs:=by
 unfold aY;rw[gy (by rw[fe];exact ho),fe]
theorem amw:aH (aY x bk) 961 [.int .i64 n]=aY {x with mY:=n} bk:=by rw[Dl (by omega)];rfl
def amx:aH (aY x bk) 963 [v]=aY x v:=by rw[Dl (by omega)];rfl
def CS:=gG @Yq<|gG @amt<|gG @amu<|gG @amw<|gG @amx @OC
end
abbrev jc(e:Nat):AV:=.di vm (.int .i64 (e:Nat))
theorem amy{t:TypeId}:abW (.di t v)=some (.di t v):=rfl
def amz{X:Ctx}{a:List RV}{R:aS->Prop}{e:Env}{E:AS}:dw X n lo a R (.panic v) ⟨e,[]⟩ E=R (.panic (finish n lo v E).1 (finish n lo v E).2):=by
 simp[dw,dJ]
def EP:=gG @amy @amz
def HE(e:Int)(H:List ae)(lo:oN):D X0 (.fn (.func cX) [] []) [.bool true,.int .i64 e] ⟨H,lo⟩=some (.ret (.au []) ⟨H,lo⟩):=by
 refine aF GG λN a=>?_
 simp(disch:=omega) only[F1,go_sem,simprocAttr,GG]
def Ar(e:Nat)(H:List ae)(lo:oN):D X0 (.fn (.func cX) [] []) [.bool false,.int .i64 e] ⟨H,lo⟩=some (.panic (jc e) ⟨H,lo⟩):=by
 refine aF GG λN a=>?_
 simp(disch:=omega) only[F1,go_sem,simprocAttr,GG,EP]
def ays(H:List ae)(lo:oN):D X0 (.fn (.func lb) [] []) [.int .i64 0] ⟨H,lo⟩=some (.ret (.au []) ⟨H,lo⟩):=by
 refine aF GY λN a=>?_
 simp(disch:=omega) only[F1,go_sem,simprocAttr,GY,HE]
def ayt(e:Nat)(b:e≠0)(H:List ae)(lo:oN):D X0 (.fn (.func lb) [] []) [.int .i64 e] ⟨H,lo⟩=some (.panic (jc e) ⟨H,lo⟩):=by
 refine aF GY λN c=>?_
 have a: ¬(e:Int)=0:=by omega
 simp(disch:=omega) only[F1,go_sem,simprocAttr,GY,Ar,a,EP]
def As{X:Ctx}{e:Env}{E:AS}{R:aS->Prop}{b c m:Nat}{ag d:Bool}:dw X n lo [.cell a ag m,.cell b d k,.t c] R .ret ⟨e,[]⟩ E=okV (cb X E ag m (e a)) (λv E=>okV (cb X E d k (e b)) (λu E=>mG n lo R (.au [v,u,e c]) E) E) E:=by
 simp only[wN,wO,fy,jE,od];cases h:cb X E ag m (e a)with
 |none=>simp[okV,h]
 |some v=>
  cases f:cb X E d k (e b)with
  |none=>simp[okV,h,f]
  |some u=>simp[okV,mG,h,f]
def ayu(b:cS)(i:jb b)(H:List ae)(lo:oN):
  D X0 (.fn (.func S3) [] []) [.agg (cA b)] ⟨H,lo⟩=some (.ret (.au [.agg (cA (mX b).1),.agg (eB (mX b).2.1),.int .i64 (mX b).2.2]) ⟨H,lo⟩):=by
 refine aF G7 λN k=>?_
 have d:mX b=if b.n=0 then(b,Ad,if b.closed then 11 else 10)else({b with fr:=mh b 1,n:=b.n-1},b.ring b.fr,0):=rfl
 have e:eB Ad=[.int .u8 0,.int .u64 0,.int .u32 0,.bool false]:=rfl;by_cases l:b.n=0
 ·rw[aaR l]at d;have a:decide ((b.n:Int)=0)=true:=abj (by omega);cases g:b.closed
  ·rw[g,aaH (by simp)]at d;simp only[F1,go_sem,simprocAttr,G7,k,↓z8,g,↓CV,a,MB,↓rN,d,e,As]
  ·rw[g,aaR rfl]at d;simp only[F1,go_sem,simprocAttr,G7,k,↓z8,g,↓CV,a,MB,↓rN,d,e,As]
 ·rw[aaH l]at d;have a: ¬(b.n:Int)=0:=by omega
  have m:=i.n;have j: ∀H lo,D X0 (.fn (.func BV) [] []) [.agg (cA b),.int .i64 1] ⟨H,lo⟩=_:=Ym b i.fr 1 (by omega);have h:=i.fr;have f: (b.fr:Int)<4:=by omega
  have hm:=o5 (b.ring b.fr);have c:=ako (b:=b) h;have o: ((b.n:Int)-1)=((b.n-1:Nat):Int):=by omega
  rw[hm]at c;simp(disch:=omega) only[F1,go_sem,simprocAttr,G7,k,↓CV,↓akp,a,MB,↓rN,j,↓c,f,o,avS,akq,d,hm,As];simp
def ayv(b:cS)(H:List ae)(lo:oN):
  D X0 (.fn (.func S4) [] []) [.agg (cA b)] ⟨H,lo⟩=some (.ret (.au [.agg (cA (vO b).1),.int .i64 (vO b).2]) ⟨H,lo⟩):=by
 refine aF NI λN c=>?_
 have d:vO b=if b.closed then(b,11)else({b with closed:=true},0):=rfl
 cases a:b.closed
 ·simp only[F1,go_sem,simprocAttr,NI,c,↓z8,a,MB,↓rN,avT,d]
 ·simp only[F1,go_sem,simprocAttr,NI,c,↓z8,a,MB,↓rN,d]
def ayw(b:cS)(N:Nat)(H:List ae)(c:H.length=N)(lo:oN):D X0 (.fn (.func Tm) [] []) [.agg (cA b)] ⟨H,lo⟩=some (.ret (.fn (.func BX) [] [.ptr N 0]) ⟨H++[.box (cA b) none],lo⟩):=by
 refine aF Wb λM a=>?_
 obtain rfl:M=N:=by omega
 simp only[go_sem,simprocAttr,Wb,a];rw[Da (by omega)]
def x8(b:cS):List lA:=(fW b).map λm=>[.agg (eB m)]
def Yr(b:cS): (x8 b).length=b.n:=by simp[x8,fW]
def amA{b:cS}(h:j<b.n): (x8 b)[j]?=some [.agg (eB (b.ring (mh b j)))]:=by
 unfold x8 fW
 grind
def ayx(b:cS)(L:jb b)(a:Nat):vg X0 (.fn (.func BX) [] [.ptr a 0]) a [.box (cA b) none] (x8 b):=by
 intro S V y I J base M j A W s hP h0 wX g hG lo;have t: ∀i,V.dW i->i<base:=λi hi=>(j i hi).1
 suffices h: ∃x,D X0 (.fn (.func BX) [] [.ptr a 0]) [y] ⟨W,lo⟩=some x/\
   (λx=> ∃d f ak,x=aS.ret (.au []) ⟨f,ak⟩/\V.P d f/\ (I (x8 b).length d\/J d)/\base<=f.length/\
     (∀i,i<base-> ¬V.dW i-> ¬(a<=i/\i<a+[ae.box (cA b) none].length)->f[i]?=W[i]?)/\nf V.c base lo ak none (V.row d)) x by
  obtain⟨x,h1,d,f,ak,rfl,Y,X,U,T,R⟩:=h;exact⟨d,f,ak,h1,Y,X,U,T,R⟩
 refine v8 We rfl rfl rfl λN hN=>?_
 obtain rfl:N=base:=by omega
 have E:W[a]?=some (.box (cA b) none):=hG 0 (by simp);have ha:=fi E;have B: ¬V.dW a:=λq=>(j a q).2 ⟨by omega,by simp⟩
 have P9:=L.n;simp only[go_sem,simprocAttr,We,E,↓CV];refine gX b.n (λk e f ak=> ∃d,I k d/\ka V N W (λi=>a<=i/\i<a+[ae.box (cA b) none].length) d f ak/\f[a]?=some (.box (cA b) none)/\e 0=y/\e 1= .ptr a 0/\e 5= .int .i64 b.n/\e 6= .int .i64 k) 0 (by omega) ?_ ?_
 ·simp only[go_sem,simprocAttr];exact⟨s,h0,⟨hP,by omega,λ_ _ _ _=>rfl,.inl ⟨rfl,g⟩,λr e=>by rw[g]at e;cases e⟩,E⟩
 rintro k hk e W1 z ⟨s1,O,p,w0,Q,e1,P,e6⟩ n hn;simp only[bO,go_sem,simprocAttr,ajx,Q,e1,P,e6];refine⟨λh=>?_,λh=>?_⟩
 ·have u:k<b.n:=by omega
  have hx:=amA u;have v:=Ym b L.fr k (by omega);have C:=al9 b k;have m: (mh b k:Int)<4:=by omega
  have l:=ako (b:=b) C;obtain⟨c,s2,W2,mH,K,p2,H,p4,Z,G⟩:=A k _ s1 hx O W1 p.P p.len z;have w:=p.step p2 H p4 Z;have XL:N<=n:=by have:=p.len;omega
  have v0:W2[a]?=some (.box (cA b) none):=by rw[H.2 a (by omega) B (λq=>by have:=p.row _ q;omega)];exact w0
  cases c
  ·obtain⟨F,o,f1,f2,f3,f4,f5⟩:=w.fin M t (dI:=lo);simp only[go_sem,simprocAttr,e1,w0,MB,v,m,↓l,K,f1];exact⟨s2,F,o,rfl,f2,.inr G,f3,f4,f5⟩
  ·simp(disch:=omega) only[go_sem,simprocAttr,Q,e1,P,e6,w0,MB,v,m,↓l,K];exact⟨u,s2,G,w,v0⟩
 ·obtain⟨F,o,f1,f2,f3,f4,f5⟩:=p.fin M t (dI:=lo);simp only[go_sem,simprocAttr,f1];exact⟨s1,F,o,rfl,f2,.inl (by rw[Yr,show b.n=k by omega];exact O),f3,f4,f5⟩
def amB{N id aj:Nat}{H:List ae}{ty:TypeId}(e:N<=id)(c:H[id]?=some (.row aj sz ty af))(d:n=af.length)(a:b9 af<=N):Den.freeze ⟨H,lo⟩ N (k+4) (.ref id aj sz 0 n true)=some (.sl af true):=by
 subst d;have b: ¬(AV.ref id aj sz 0 af.length true).refs<=N:=by simp only[AV.refs];omega
 rw[Den.freeze,aaH b];simp only[c];rw[aaR ⟨trivial,trivial,by omega⟩];simp only[alq,aiv];rw[Rq af a]
def ayy(H:List ae)(lo:oN):D X0 (.fn (.func K6) [] []) [.ai] ⟨H,lo⟩=some (.ret .ai ⟨H,lo⟩):=by
 refine aF He λN b=>?_
 have a:gd 4 .ai none (some (.int .i64 0)) (some (.int .i64 0))=some .ai:=by rfl
 simp(disch:=omega) only[F1,go_sem,simprocAttr,He,a]
def ayz(id aj n:Nat)(H:List ae)(c:id<H.length)(lo:oN):D X0 (.fn (.func K6) [] []) [.ref id aj 4 0 n false] ⟨H,lo⟩=some (.ret (.ref id aj 4 0 n true) ⟨H,lo⟩):=by
 refine aF He λN d=>?_
 have b:gd 4 (.ref id aj 4 0 n false) none (some (.int .i64 (n:Nat))) (some (.int .i64 (n:Nat)))=some (.ref id aj 4 0 n true):=by simp[gd,gb,lR,lS]
 have a: ∀E,ft E .sl (.ref id aj 4 0 n false)=some (.int .i64 n):=λE=>rfl
 simp only[go_sem,simprocAttr,He,b,a];rw[ja (.inl rfl) (by simp only[AV.refs];omega),abk (by omega)]
structure MSt where
 l:List kp
 row:oN
def mV(H:List ae)(N:Nat):YV MSt:=⟨λs W=>kc N H W/\SV (N+1) 4 FB W s.row (s.l.map eB),MSt.row,λi=>i<N+2,N+1⟩
def ayA{H:List ae}{N:Nat}: (mV H N).Ok where
 st:=λs W d ⟨c,b⟩ hs=>by
  refine⟨λi a=>?_,b.st (hs _ (.inl (auE _))) λi a=>hs i (.inr a)⟩;have:i<N+2:=by omega
  rw[hs i (.inl this)];exact c i a
 lt:=λs W r ⟨_,b⟩ hr=>b.row hr
def ayB(b:cS)(hb:jb b)(H:List ae)(lo:oN):
  ∃w,D X0 (.fn (.func K0) [] []) [.agg (cA b)] ⟨H,lo⟩=some (.ret w ⟨H,lo⟩)/\Rv w 4 ((fW b).map eB)/\w.refs=0:=by
 suffices hs: ∃B,D X0 (.fn (.func K0) [] []) [.agg (cA b)] ⟨H,lo⟩=some B/\ (λB=> ∃w,B=aS.ret w ⟨H,lo⟩/\Rv w 4 ((fW b).map eB)/\w.refs=0) B by
  obtain⟨B,h1,w,rfl,h2⟩:=hs;exact⟨w,h1,h2⟩
 refine cE VV λN l=>?_
 have he:=ayw b (N+2) (H++[.box (cA b) none,.box [.ai] none]) (by simp[l]) none;have P9:=hb.n;simp only[go_sem,simprocAttr,VV,l,he,↓rN];obtain⟨p,c⟩: ∃p,p=H++[ae.box (cA b) none,.box [.ai] none,.box (cA b) none]:=⟨_,rfl⟩;rw[<-c];have A:p.length=N+3:=by rw[c];simp[l]
 generalize o: ((((((dc _).set 1 _).set 2 _).set 3 _).set 5 _).set 6 _)=e;have E:e 3= .ptr (N+1) 0:=by rw[<-o];rfl
 have Z: (ao.t 6).get e= .fn (.func BX) [] [.ptr (N+2) 0]:=by rw[<-o];rfl
 clear o;refine JH (mV H N) ayA (x8 b) (N+2) [.box (cA b) none] p ⟨[],none⟩ (by rw[Z];rfl) (by rw[Z];exact ayx b hb (N+2)) (λi a=>?_) (by simp[A]) (λi a=>?_) ⟨?_,?_⟩ rfl
  (λj s=>s.l=(fW b).take j) (λ_ _=>False) rfl (λ_ _ h=>h.elim) ?_ ?_ (λ_ _ _ _ h=>h.elim)
 ·have:i=0:=by simpa using a
  subst this;rw[c,ajG,bw l];rfl
 ·have:i<N+2:=a;exact⟨by omega,by omega⟩
 ·rw[c];exact kc.app l
 ·exact .inl ⟨rfl,rfl,by rw[c,bw l];rfl⟩
 ·intro j y s L U;have hj:j<b.n:=by
   have:=(aaG.1 L).1;rwa[Yr]at this
  have d:s.l=(fW b).take j:=U;have z: (fW b)[j]?=some (b.ring (mh b j)):=by unfold fW;rw[ajP,ar9 hj];rfl
  rw[amA hj]at L;cases L;generalize b.ring (mh b j)=m at*;refine⟨rfl,λW hP wX=>?_⟩;obtain⟨n,hn⟩: ∃n,W.length=n:=⟨_,rfl⟩;have hm:=o5 m;simp only[go_sem,simprocAttr,iJ,hn,hm];refine⟨[.box (eB m) none],rfl,λC hW2 T=>?_⟩;obtain⟨F,r⟩:=T;have t:C.length=n:=by omega
  have f: ∀i,s.row=some i->N+1<i/\i<n:=by
   intro i a;rcases r with⟨q,_⟩| ⟨id,aj,q,_,J,E,q4⟩
   ·rw[q]at a;cases a
   ·rw[q]at a;cases a;exact⟨J,by have:=fi q4;omega⟩
  have M:SV (N+1) 4 FB (C++[.box (eB m) none]) s.row (s.l.map eB):=r.st (by rw[aaF (by omega)]) λi a=>by
   rw[aaF (by have:=f i a;omega)]
  have wL:s.l.length<=4:=by rw[d,ajM];have: (fW b).length=b.n:=by simp[fW]
                            omega
  obtain⟨vv,v',W3,V,Y,a1,a2,a3,a4,a5,a6,a7⟩:=M.append (bytes:=24) (el:=eB m) (by simp;omega) (by omega) rfl rfl (by rw[ahX];unfold room;omega) none;have G: (C++[ae.box (eB m) none]).length=n+1:=by simp[t]
  have u: (C++[ae.box (eB m) none])[n]?=some (.box (eB m) none):=by rw[<-t];simp
  rw[hm]at a1 a2 u⊢;simp only[go_sem,simprocAttr,ajv,E,a1,a2,a3,u,EO];refine⟨⟨s.l++[m],Y⟩,⟨λi a=>?_,?_⟩,⟨by show C.length<=V.length;omega,λi a hp hr=>?_⟩,.inr ⟨N+1,ahT _,by omega,rfl,?_⟩,?_⟩
  ·show V[i]?=_;rw[a6 i (by omega) (by omega) (λq=>by have:=f i q;omega),aaF (by omega)];exact F i a
  ·show SV (N+1) 4 FB V Y ((s.l++[m]).map eB);rw[aiw];exact a4
  ·have ou: ¬i<N+2:=hp;rw[a6 i (by omega) (by omega) hr,aaF a]
  ·rcases a7 with q| ⟨q,K,J⟩
   ·exact .inl q
   ·exact .inr ⟨q,K,by omega⟩
  ·show s.l++[m]=(fW b).take (j+1);rw[d,ajN,z];rfl
 ·intro X W' ak U hP hl S pP Q;obtain⟨F,r⟩:=hP;have d:X.l=fW b:=by
   have:X.l=(fW b).take (x8 b).length:=U;rw[this,Yr];exact abk (by simp[fW])
  have g:dQ N ak:=by
   rcases Q with⟨rfl,_⟩| ⟨q,K,J,rfl⟩
   ·exact .inl rfl
   ·exact .inr ⟨q,by have:N+1<=q:=K;omega,rfl⟩
  rw[d]at r;have h0:b9 ((fW b).map eB)=0:=bz (λ_=>rfl) _;rcases r with⟨c1,c2,c3⟩| ⟨id,aj,c1,c2,c3,c4,I⟩
  ·simp only[go_sem,simprocAttr,E,c3,ayy,S,nO];rw[ja g (abX _)];refine⟨.ai,cU rfl ((F.set (by omega)).take l),by rw[atS.1 c2];exact .ai,rfl⟩
  ·have v:=ayz id aj ((fW b).map eB).length W' (fi I);rw[ahX]at v c4;have P:p.length≠id:=by rintro rfl;rw[S]at I;cases I
   simp only[go_sem,simprocAttr,E,c4,v,S,nO];have O: (W'.set p.length ae.dead)[id]?=some (.row aj 4 FB ((fW b).map eB)):=by rw[aaD P];exact I
   rw[sS g (v':=.sl ((fW b).map eB) true) λk=>by rw[show k+12=(k+8)+4 by omega];exact amB (by omega) O (by simp) (by rw[h0];omega)];exact⟨_,cU rfl ((F.set (by omega)).take l),.sl (by intro el R;obtain⟨x,_,rfl⟩:=ais.1 R;rfl),h0⟩
theorem ayC:cA Ae=[.int .u8 0,.int .u64 0,.int .u32 0,.bool false,.int .u8 0,.int .u64 0,.int .u32 0,.bool false,.int .u8 0,.int .u64 0,.int .u32 0,.bool false,.int .u8 0,.int .u64 0,.int .u32 0,.bool false,.int .i64 0,.int .i64 0,.bool true]:=rfl
def ayD(b:cS)(d:jb b)(H:List ae)(lo:oN):
  ∃w,D X0 (.fn (.func S6) [] []) [.agg (cA b)] ⟨H,lo⟩=some (.ret (.au [.agg (cA Ae),w]) ⟨H,lo⟩)/\Rv w 4 ((fW b).map eB)/\w.refs=0:=by
 obtain⟨w,e1,e,e3⟩:=ayB b d (H++[.box (cA b) none,.box zB none]) none;refine⟨w,?_,e,e3⟩;refine aF VD λM a=>?_
 have c:zB=[.int .u8 0,.int .u64 0,.int .u32 0,.bool false,.int .u8 0,.int .u64 0,.int .u32 0,.bool false,.int .u8 0,.int .u64 0,.int .u32 0,.bool false,.int .u8 0,.int .u64 0,.int .u32 0,.bool false,.int .i64 0,.int .i64 0,.bool false]:=rfl;rw[c]at e1;simp only[go_sem,simprocAttr,VD,a,↓rN,e1];rw[xZ (by simp[AV.refs,aG,e3]),mF a,ayC]
def x9:pN:=λg=>if g=zk then some xA else if g=BA then some xx else none
noncomputable def Dm:lA->AS->Option aS:=wU X (D X) Lw x9 zj rJ
noncomputable def Dn:lA->AS->Option aS:=wU X (D X) Lw x9 zi xz
noncomputable def XA:Ctx:={X with bZ:=λf=>if f=zj then some Dm else if f=zi then some Dn else X.bZ f}
theorem ED:Ext X XA where
 dp:=rfl
 fo:=rfl
 code:=rfl
 bZ:=λf=>by
  by_cases b:f=zj
  ·subst b;exact .inr ⟨rfl,rfl⟩
  ·by_cases a:f=zi
   ·subst a;exact .inr ⟨rfl,rfl⟩
   ·left;show(if f=zj then some Dm else if f=zi then some Dn else X.bZ f)=X.bZ f
    grind
def Dp(e:Int)(H:List ae)(lo:oN):D X (.fn (.func ld) [] []) [.bool true,.int .i64 e] ⟨H,lo⟩=some (.ret (.au []) ⟨H,lo⟩):=by
 refine aF Hc λN a=>?_
 simp(disch:=omega) only[F1,go_sem,simprocAttr,Hc]
def Dq(e:Nat)(H:List ae)(lo:oN):D X (.fn (.func ld) [] []) [.bool false,.int .i64 e] ⟨H,lo⟩=some (.panic (jc e) ⟨H,lo⟩):=by
 refine aF Hc λN a=>?_
 simp(disch:=omega) only[F1,go_sem,simprocAttr,Hc,EP]
theorem amD:ep .di .eI .eI=some true:=rfl
theorem amE{t:TypeId}:ep .di (.di t v) .eI=some false:=rfl
theorem amF{z:AV}{t:TypeId}:AN z (.di t v) t true=some (.au [v,.bool true]):=aaR rfl
def OF{K:AS->Prop}{H:List ae}(h:K ⟨H,lo⟩):rf X x9 (cf zk|>.get λ_=>.ai) [.ptr p 0] .eI ⟨H,lo⟩ K:=by
 refine JE (pr:=xA) rfl rfl λn a=>?_
 simp(disch:=omega) only[F1,go_sem,simprocAttr,xA,amD];exact⟨.inl trivial,.au [],rfl,by trivial⟩
def wi{K:AS->Prop}{H:List ae}{v0:AV}(e:Nat)(a:H[p]?=some (.box [v0] none))(h:K ⟨H.set p (.box [.int .i64 e] none),lo⟩):rf X x9 (cf zk|>.get λ_=>.ai) [.ptr p 0] (jc e) ⟨H,lo⟩ K:=by
 refine JE (pr:=xA) rfl rfl λn b=>?_
 simp only[F1,go_sem,simprocAttr,xA,amE,a,amF];refine⟨.inl trivial,.au [],rfl,?_⟩;rw[aaR (show(AV.au []).refs<=n from abX _),abk (by grind)];exact h
def amG(t:aw)(d:bR t)(r:Nat)(e:r<4294967296)(i:t.ax r=true)(c:Nat)(j:c<8)(H:List ae)(lo:oN):
  D X (.fn (.func BW) [] []) [.agg (aI t),.int .u32 r,.int .i64 c] ⟨H,lo⟩=some (.ret (.agg (bW (aJ t r).1)) ⟨H,lo⟩):=by
 refine aF zW λN f=>?_
 have a:=λH lo=>up dt (vZ t d r e H lo)
 have b: (aJ t r).2=0:=by unfold aJ;grind
 have h: (c:Int)>=0:=by omega
 have g: (c:Int)<8:=by omega
 simp only[F1,go_sem,simprocAttr,zW,f,a,nN,b,ky,Dp,h,g]
def amH(t:aw)(d:bR t)(r:Nat)(e:r<4294967296)(j:t.ax r=true)(c:Nat)(k:8<=c)(H:List ae)(lo:oN):
  D X (.fn (.func BW) [] []) [.agg (aI t),.int .u32 r,.int .i64 c] ⟨H,lo⟩=some (.panic (jc 2) ⟨H,lo⟩):=by
 refine aF zW λN g=>?_
 have a:=λH lo=>up dt (vZ t d r e H lo)
 have b: (aJ t r).2=0:=by unfold aJ;grind
 have i: (c:Int)>=0:=by omega
 have h: ¬(c:Int)<8:=by omega
 have f: ∀H lo,D X (.fn (.func ld) [] []) [.bool false,.int .i64 2] ⟨H,lo⟩=_:=Dq 2;simp only[F1,go_sem,simprocAttr,zW,g,a,nN,b,ky,Dp,f,i,h,EP]
def ayE(t:aw)(d:bR t)(r:Nat)(e:r<4294967296)(h:t.ax r=false)(c:Nat)(H:List ae)(lo:oN):
  D X (.fn (.func BW) [] []) [.agg (aI t),.int .u32 r,.int .i64 c] ⟨H,lo⟩=some (.panic (jc 4) ⟨H,lo⟩):=by
 refine aF zW λN g=>?_
 have a:=λH lo=>up dt (vZ t d r e H lo)
 have b: (aJ t r).2=4:=by unfold aJ;grind
 have f: ∀H lo,D X (.fn (.func ld) [] []) [.bool false,.int .i64 4] ⟨H,lo⟩=_:=Dq 4;simp only[F1,go_sem,simprocAttr,zW,g,a,nN,b,ky,f,EP]
def uE(t:aw)(r a to:Nat)(b:Bool):Nat:=
 if t.ax r=false\/ (to≠0/\t.ax to=false)then 4 else if 8<=a then 2 else if to≠0/\b=false/\kr t to r=false then 5
 else(fK t r {(aJ t r).1 with cells:=aq (aJ t r).1.cells a to}).2
def ayF{r:dk}{v:Nat}(h:i<8):aH (bW r) (4+i) [.int .u32 (v:Nat)]=bW {r with cells:=aq r.cells i v}:=aki h
def ayG(t:aw)(A:bR t)(T:cu t)(r a to:Nat)(b:Bool)(E:r<4294967296)(s:to<4294967296)(S:a<4294967296)(H:List ae)(lo:oN):
  ∃cs,Dm [.agg (aI t),.int .u32 r,.int .i64 a,.int .u32 to,.bool b] ⟨H,lo⟩=some (.ret (.au [.agg cs,.int .i64 (uE t r a to b)]) ⟨H,lo⟩)/\cs.length=480/\aG cs=0/\
   (uE t r a to b=0->cs=aI (fK t r {(aJ t r).1 with cells:=aq (aJ t r).1.cells a to}).1):=by
 suffices hs: ∃I,Dm [.agg (aI t),.int .u32 r,.int .i64 a,.int .u32 to,.bool b] ⟨H,lo⟩=some I/\ (λI=> ∃cs,I=aS.ret (.au [.agg cs,.int .i64 (uE t r a to b)]) ⟨H,lo⟩/\cs.length=480/\aG cs=0/\
   (uE t r a to b=0->cs=aI (fK t r {(aJ t r).1 with cells:=aq (aJ t r).1.cells a to}).1)) I by
  obtain⟨I,p,cs,rfl,U⟩:=hs;exact⟨cs,p,U⟩
 refine Rw rJ rfl rfl λN j=>?_
 have c:=λH lo=>up dt (eF t.b r E H lo)
 have d:=λH lo=>up dt (eF t.b to s H lo)
 have L: ∀h,ax t.b h=t.ax h:=λh=>rfl
 simp only[L]at c d;have m:=λH lo=>up dt (XY t A T to r s E H lo)
 have F: ∀H lo,D X (.fn (.func ld) [] []) [.bool false,.int .i64 4] ⟨H,lo⟩=_:=Dq 4;have O: ∀H lo,D X (.fn (.func ld) [] []) [.bool false,.int .i64 5] ⟨H,lo⟩=_:=Dq 5;have z:aG l6=0:=by decide
 have f:uE t r a to b=if t.ax r=false\/ (to≠0/\t.ax to=false)then 4 else if 8<=a then 2 else if to≠0/\b=false/\kr t to r=false then 5
  else(fK t r {(aJ t r).1 with cells:=aq (aJ t r).1.cells a to}).2:=rfl
 cases y:t.ax r with
 |false=>
  rw[y]at c;rw[aaR (.inl y)]at f;simp(disch:=omega) only[go_sem,simprocAttr,rJ,j,j9,j8,c,F];refine⟨rfl,?_⟩;rw[oz];refine wi 4 (v0:=.int .i64 0) (by rw[bw j];rfl) ?_;simp(disch:=omega) only[F1,go_sem,simprocAttr,cT];rw[f];exact⟨_,rfl,C8,z,λh=>by cases h⟩
 |true=>
  rw[y]at c;have K:to=0\/ (¬(to:Int)=0/\t.ax to=true)\/ (¬(to:Int)=0/\t.ax to=false):=by
   by_cases n:to=0
   ·exact .inl n
   ·cases V:t.ax to
    ·exact .inr (.inr ⟨by omega,rfl⟩)
    ·exact .inr (.inl ⟨by omega,rfl⟩)
  by_cases J:to≠0/\t.ax to=false
  ·rw[aaR (.inr J)]at f;rw[J.2]at d;have n: ¬(to:Int)=0:=by omega
   simp(disch:=omega) only[go_sem,simprocAttr,rJ,j,j9,j8,c,n,d,F];refine⟨rfl,?_⟩;rw[oz];refine wi 4 (v0:=.int .i64 0) (by rw[bw j];rfl) ?_;simp(disch:=omega) only[F1,go_sem,simprocAttr,cT];rw[f];exact⟨_,rfl,C8,z,λh=>by cases h⟩
  ·rw[aaH (by rw[y];simpa using J)]at f;have p: ∀H lo,D X (.fn (.func ld) [] []) [.bool true,.int .i64 4] ⟨H,lo⟩=_:=Dp 4;have o:to=0\/ (¬(to:Int)=0/\t.ax to=true):=by
    rcases K with h|h|h
    ·exact .inl h
    ·exact .inr h
    ·exact absurd ⟨by omega,h.2⟩ J
   by_cases P:8<=a
   ·rw[aaR P]at f;have g:=amH t A r E y a P;rcases o with rfl| ⟨n,M⟩
    ·simp(disch:=omega) only[go_sem,simprocAttr,rJ,j,j9,j8,c,p,g];refine⟨rfl,?_⟩;rw[oz];refine wi 2 (v0:=.int .i64 0) (by rw[bw j];rfl) ?_;simp(disch:=omega) only[F1,go_sem,simprocAttr,cT];rw[f];exact⟨_,rfl,C8,z,λh=>by cases h⟩
    ·rw[M]at d;simp(disch:=omega) only[go_sem,simprocAttr,rJ,j,j9,j8,c,n,d,p,g];refine⟨rfl,?_⟩;rw[oz];refine wi 2 (v0:=.int .i64 0) (by rw[bw j];rfl) ?_;simp(disch:=omega) only[F1,go_sem,simprocAttr,cT];rw[f];exact⟨_,rfl,C8,z,λh=>by cases h⟩
   ·rw[aaH P]at f;have G:a<8:=by omega
    have l: (a:Int)<8:=by omega
    have g:=amG t A r E y a G;have Q: ∀H lo,D X (.fn (.func ld) [] []) [.bool true,.int .i64 5] ⟨H,lo⟩=_:=Dp 5;have C:=A.get r;generalize R: (aJ t r).1=x at*;have q:fV {x with cells:=aq x.cells a to}:=fV.setCells C λi=>by
     by_cases e:i=a
     ·rw[e,cZ];exact s
     ·rw[ds e];exact C.cells i
    have k:=λH lo=>up dt (XZ t A r E {x with cells:=aq x.cells a to} q.rb.1 (by have:=q.rb.2;show x.runs.length<=65;exact ajU this (by omega)) (by have:=q.len;show x.len<4294967296;have:x.len<=2048:=this;omega) H lo)
    have u:=ayF (r:=x) (v:=to) G;have w:4+a<=11:=by omega
    rcases o with rfl| ⟨n,M⟩
    ·rw[aaH (by simp)]at f;have B:aH (bW x) (4+a) [.int .u32 0]=bW {x with cells:=aq x.cells a 0}:=u;simp(disch:=omega) only[go_sem,simprocAttr,rJ,j,j9,j8,c,p,g,ky,Q,l,B,w,k,uA,cT];refine⟨rfl,?_⟩;rw[EL];refine OF ?_;simp(disch:=omega) only[F1,go_sem,simprocAttr];rw[f];exact⟨_,rfl,iz _,xG _,λ_=>rfl⟩
    ·rw[M]at d;cases b with
     |true=>
      rw[aaH (by simp)]at f;simp(disch:=omega) only[go_sem,simprocAttr,rJ,j,j9,j8,c,n,d,p,g,ky,Q,l,u,w,k,uA,cT];refine⟨rfl,?_⟩;rw[EL];refine OF ?_;simp(disch:=omega) only[F1,go_sem,simprocAttr];rw[f];exact⟨_,rfl,iz _,xG _,λ_=>rfl⟩
     |false=>
      cases ho:kr t to r with
      |true=>
       rw[ho]at m f;rw[aaH (by simp)]at f;simp(disch:=omega) only[go_sem,simprocAttr,rJ,j,j9,j8,c,n,d,p,g,ky,Q,m,l,u,w,k,uA,cT];refine⟨rfl,?_⟩;rw[EL];refine OF ?_;simp(disch:=omega) only[F1,go_sem,simprocAttr];rw[f];exact⟨_,rfl,iz _,xG _,λ_=>rfl⟩
      |false=>
       rw[ho]at m f;rw[aaR ⟨by omega,rfl,rfl⟩]at f;simp(disch:=omega) only[go_sem,simprocAttr,rJ,j,j9,j8,c,n,d,p,g,ky,O,m];refine⟨rfl,?_⟩;rw[oz];refine wi 5 (v0:=.int .i64 0) (by rw[bw j];rfl) ?_;simp(disch:=omega) only[F1,go_sem,simprocAttr,cT];rw[f];exact⟨_,rfl,C8,z,λh=>by cases h⟩
def HF{X:Ctx}{e:Env}{E:AS}{R:aS->Prop}{b:Nat}{c:Bool}:dw X n lo [.t a,.cell b c k] R .ret ⟨e,[]⟩ E=okV (cb X E c k (e b)) (λu E=>mG n lo R (.au [e a,u]) E) E:=by
 simp only[wN,wO,fy,jE,od];cases h:cb X E c k (e b)with
 |none=>simp[okV,h]
 |some v=>simp[okV,mG,h]
def ayH(t:aw)(s:bR t)(r a:Nat)(v:r<4294967296)(F:a<4294967296)(H:List ae)(lo:oN):
  Dn [.agg (aI t),.int .u32 r,.int .i64 a] ⟨H,lo⟩=some (.ret (.au [.int .u32 (uj t r a).1,.int .i64 (uj t r a).2]) ⟨H,lo⟩):=by
 suffices hs: ∃E,Dn [.agg (aI t),.int .u32 r,.int .i64 a] ⟨H,lo⟩=some E/\E=aS.ret (.au [.int .u32 (uj t r a).1,.int .i64 (uj t r a).2]) ⟨H,lo⟩ by grind
 refine Rw xz rfl rfl λN g=>?_
 have c:uj t r a=if t.ax r=false then(0,4)else if 8<=a then(0,2)else if(aJ t r).1.cells a=0 then(0,10)else if t.ax ((aJ t r).1.cells a)=false then(0,4)else((aJ t r).1.cells a,0):=rfl
 cases q:t.ax r with
 |false=>
  rw[aaR q]at c;have b:=ayE t s r v q a;simp only[go_sem,simprocAttr,xz,g,j9,j8,b];refine⟨rfl,?_⟩;rw[oz];refine wi 4 (v0:=.int .i64 0) (by rw[bw g];rfl) ?_;simp(disch:=omega) only[F1,go_sem,simprocAttr,c,HF]
 |true=>
  rw[aaH (by rw[q];simp)]at c;by_cases z:8<=a
  ·rw[aaR z]at c;have b:=amH t s r v q a z;simp only[go_sem,simprocAttr,xz,g,j9,j8,b];refine⟨rfl,?_⟩;rw[oz];refine wi 2 (v0:=.int .i64 0) (by rw[bw g];rfl) ?_;simp(disch:=omega) only[F1,go_sem,simprocAttr,c,HF]
  ·rw[aaH z]at c;have l:a<8:=by omega
   have B: (a:Int)<8:=by omega
   have b:=amG t s r v q a l;have u:=s.get r;generalize(aJ t r).1=x at*;have hw:=u.cells a;have d:qP false 8 1 (.agg (arr 8 λi=>[AV.int .u32 (x.cells i)])) (.int .i64 a)=some (.int .u32 (x.cells a)):=
    WK l (by have:=jM (ag:=false) (m:=1) (n:=8) (k:=1) (i:=a) (o:=0) (f:=λi=>[AV.int .u32 (x.cells i)]) (λ_=>rfl) l (by omega) (by omega);rw[ajG]at this;rw[this];rfl)
   have p: ∀H lo,D X (.fn (.func ld) [] []) [.bool false,.int .i64 10] ⟨H,lo⟩=_:=Dq 10;have y: ∀H lo,D X (.fn (.func ld) [] []) [.bool false,.int .i64 4] ⟨H,lo⟩=_:=Dq 4;have e:=λH lo=>up dt (eF t.b (x.cells a) hw H lo)
   have w: ∀h,ax t.b h=t.ax h:=λh=>rfl
   simp only[w]at e;by_cases A:x.cells a=0
   ·rw[aaR A]at c;have j:decide ((x.cells a:Int)=0)=true:=by simp[A]
    simp only[go_sem,simprocAttr,xz,g,j9,j8,b,↓N2,d,j,p];refine⟨rfl,?_⟩;rw[oz];refine wi 10 (v0:=.int .i64 0) (by rw[bw g];rfl) ?_;simp(disch:=omega) only[F1,go_sem,simprocAttr,c,HF]
   ·rw[aaH A]at c;have j:decide ((x.cells a:Int)=0)=false:=by simp;omega
    cases C:t.ax (x.cells a)with
    |false=>
     rw[C]at e c;rw[aaR rfl]at c;simp only[go_sem,simprocAttr,xz,g,j9,j8,b,↓N2,d,j,e,Dp,y];refine⟨rfl,?_⟩;rw[oz];refine wi 4 (v0:=.int .i64 0) (by rw[bw g];rfl) ?_;simp(disch:=omega) only[F1,go_sem,simprocAttr,c,HF]
    |true=>
     rw[C]at e c;rw[aaH (by simp)]at c;simp only[go_sem,simprocAttr,xz,g,j9,j8,b,↓N2,d,j,e,Dp];refine⟨rfl,?_⟩;rw[EL];refine OF ?_;simp(disch:=omega) only[F1,go_sem,simprocAttr,c,HF]
theorem ayI{args:lA}{E:AS}{a:AS}(h:Dm args E=some (.ret v a)):D XA (.fn (.func zj) [] []) args E=some (.ret v a):=EJ rfl h
def amI(t:aw)(r a to:Nat)(b:Bool):nF t r a to b=if uE t r a to b=0 then((fK t r {(aJ t r).1 with cells:=aq (aJ t r).1.cells a to}).1,0)else(t,uE t r a to b):=by
 unfold nF uE
 grind
def ayJ(t:aw)(l:bR t)(p:cu t)(r a to:Nat)(b:Bool)(m:r<4294967296)(e:to<4294967296)(i:a<4294967296)(H:List ae)(lo:oN):
  D XA (.fn (.func S5) [] []) [.agg (aI t),.int .u32 r,.int .i64 a,.int .u32 to,.bool b] ⟨H,lo⟩=some (.ret (.au [.agg (aI (nF t r a to b).1),.int .i64 (nF t r a to b).2]) ⟨H,lo⟩):=by
 refine aF NJ λN k=>?_
 obtain⟨cs,q,n,f,o⟩:=ayG t l p r a to b m e i (H++[.box (aI t) none,.box l6 none]) none;have g:=ayI q;have d:=amI t r a to b;by_cases c:uE t r a to b=0
 ·rw[aaR c]at d;have h:=o c;subst h;rw[c]at g;simp only[F1,go_sem,simprocAttr,NJ,k,g,cT,d]
 ·rw[aaH c]at d;have j:decide ((uE t r a to b:Int)=0)=false:=by simp;omega
  simp only[F1,go_sem,simprocAttr,NJ,k,g,j,n,f,cT,d]
def amJ{a:aw}(b:cu t)(h: ∀x,bK a x=bK t x\/bK a x=0):cu a:=by
 have key: ∀n x,(eD a n x).length<=(aR t x).length:=by
  intro n
  induction n with
  |zero=>simp[eD]
  |succ n c=>
   intro x;simp only[eD];by_cases hu:bK a x=0
   ·grind
   ·rw[aaH hu];have e:bK a x=bK t x:=(h x).resolve_right hu;rw[e]at hu⊢;rw[ui b,aaH hu,ajC,ajC]
    grind
 intro x;have:=key 32 x;have:=b x;unfold aR at*;omega
theorem amK(t:aw): ∀n x,(eD t n x).length<=(eD t (n+1) x).length
 |0,_=>by simp[eD]
 |n+1,x=>by
  rw[eD,eD];by_cases hu:bK t x=0
  ·grind
  ·rw[aaH hu,aaH hu,ajC,ajC];exact Nat.succ_le_succ (amK t n _)
def nT(b:cM)(h:Nat):Prop:= ∀i,eK h=some i->h/256< (b i).gen\/ (h/256=(b i).gen/\nw b i=false)
def Dr(b:cM):nT b 0:=λi e=>by trivial
def Ys{h:Nat}(a:ax b h=true):nT b h:=by
 intro i e;unfold ax at a;rw[e]at a;have:=asR a
 right;rw[this];exact⟨rfl,by unfold nw;grind⟩
def OG{h:Nat}(ho:nT b h):nT (aq b i {b i with eU:=true}) h:=by
 intro j e;by_cases q:j=i
 ·subst q;rcases ho j e with a| ⟨a,c⟩
  ·left;rw[cZ];exact a
  ·unfold nw;rw[cZ];grind
 ·unfold nw at*;rw[ds q];exact ho j e
def amL{h y:Nat}(ho:nT b h):nT (eC b y).1 h:=by
 unfold eC;split
 ·show nT (aq b (aO y) _) h;intro j e;by_cases q:j=aO y
  ·subst q;unfold nw;rw[cZ];unfold rP;have a:=ho _ e
   grind
  ·unfold nw at*;rw[ds q];exact ho j e
 omega
def Yt{h:Nat}(a:ny b=some i)(d:gS b):ax (aq b i {b i with eU:=true}) h=true↔ax b h=true\/h=dg i (b i).gen:=by
 obtain⟨i1,i2,i3,_⟩:=uh a;have c:ax (aq b i {b i with eU:=true}) (dg i (b i).gen)=true:=by grind [Xc,Xd,cZ]
 constructor
 ·grind [lD,cZ,Xa,ds]
 ·grind [lD,ds]
theorem Yu{y h:Nat}(c:ax (eC b y).1 h=true):ax b h=true:=by
 unfold eC at c;split at c
 ·obtain⟨j,e,a⟩:=lD.1 c;have a:aq b (aO y) (rP (b (aO y))) j=_:=a;by_cases q:j=aO y
  ·subst q;rw[cZ]at a;unfold rP at a
   grind
  ·grind [ds,lD]
 omega
def HG(a:ny b=some i)(c:gS b):ax b (dg i (b i).gen)=false:=by grind [Xc,uh]
def amM(c:ny b=some i)(d:gS b): ¬nT b (dg i (b i).gen):=by
 obtain⟨i1,i2,i3,_⟩:=uh c;intro h;have f:ax (aq b i {b i with eU:=true}) (dg i (b i).gen)=true:=(Yt c d).2 (.inr rfl);obtain⟨j,e,a⟩:=lD.1 f;have q:j=i:=apo λq=>by
  rw[ds q]at a;have:=HG c d;rw[lD.2 ⟨j,e,a⟩]at this;grind
 subst q;rw[cZ]at a;injection a with l
 rcases h j e with k| ⟨_,g⟩
 ·omega
 ·unfold nw at g;grind
def ayK(t:aw):Prop:= ∀i,nT t.b (t.r i).up
structure eG(t:aw):Prop where
 ok:bR t
 tr:cu t
 up:ayK t
def eG.same{a:aw}(h:eG t)(b:iF t a)(c:bR a):eG a:=⟨c,b.tree h.tr,λi=>by rw[b.1,b.2];exact h.up i⟩
theorem eG.set(h:eG t){r:dk}(b:fV r):eG (fK t a r).1:=h.same (.set t a r) (h.ok.set b)
theorem eG.drop(h:eG t)(y:Nat):eG (lv t y).1:=by
 refine⟨h.ok.drop y,amJ h.tr λx=>?_,λi=>?_⟩
 ·unfold lv;split
  ·have a: ∀x,ax (eC t.b y).1 x=true->t.ax x=true:=λx=>Yu
   unfold bK;by_cases q:aw.ax {b:=(eC t.b y).1,r:=aq t.r (aO y) dM} x=true
   ·rw[aaR q,aaR (a x q)];unfold kq;by_cases e:aO x=aO y
    ·right
     show(if _ then(aq t.r (aO y) dM (aO x)).up else 0)=0;rw[e,cZ];split<;>rfl
    ·show(if aw.ax _ (aq t.r (aO y) dM (aO x)).up=true then(aq t.r (aO y) dM (aO x)).up else 0)=_\/ (if aw.ax _ (aq t.r (aO y) dM (aO x)).up=true then(aq t.r (aO y) dM (aO x)).up else 0)=0;rw[ds e];by_cases c:aw.ax {b:=(eC t.b y).1,r:=aq t.r (aO y) dM} (t.r (aO x)).up=true
     ·rw[aaR c,aaR (a _ c)];omega
     grind
   grind
  grind
 ·unfold lv;split
  ·show nT (eC t.b y).1 (aq t.r (aO y) dM i).up;by_cases e:i=aO y
   ·rw[e,cZ];exact Dr _
   ·rw[ds e];exact amL (h.up i)
  ·exact h.up i
theorem eG.kz{t:aw}(h:eG t): ∀l,eG (kz t l)
 | []=>h
 |x::xs=>eG.kz (h.drop x) xs
def eG.ayL(h:eG t)(a:Nat):eG (mg t a).1:=by
 unfold mg;split
 ·exact h
 ·exact h.kz _
def eG.ayM(h:eG t)(a:Nat):eG (mf t a 0).1:=by
 refine⟨h.ok.raise (by omega),amJ h.tr λx=>?_,λi=>?_⟩
 ·unfold mf;split
  ·simp
  ·split
   ·simp
   ·unfold bK;have b: ∀r z,aw.ax {t with r:=r} z=t.ax z:=λ_ _=>rfl
    simp only[b];split
    ·unfold kq;simp only[b];by_cases e:aO x=aO a
     ·rw[e,cZ];grind
     ·rw[ds e];omega
    omega
 ·unfold mf;split
  ·exact h.up i
  ·split
   ·omega
   ·show nT t.b (aq t.r (aO a) {t.r (aO a)with up:=0} i).up;by_cases e:i=aO a
    ·rw[e,cZ];exact Dr _
    ·rw[ds e];exact h.up i
def eG.cut(h:eG t)(a:Nat):eG (jr t a).1:=by
 rw[Yb];split
 ·exact h
 ·exact(h.same (Ya t a _ t) (X9 h.ok a _)).ayM a
def eG.new(h:eG t)(up n:Nat)(J:up<4294967296):eG (ib t up n).1:=by
 unfold ib;dsimp only;split
 ·exact h
 ·rename_i l;unfold me at l⊢;split
  ·exact h
  ·rename_i N;rw[aaH N]at l;split
   ·exact h
   ·rename_i M;rw[aaH M]at l;split
    ·rename_i i g;rw[g]at l;have l: ¬6<=depth t up:=λq=>l ⟨.inl rfl,q⟩
     obtain⟨i1,i2,i3,_⟩:=uh g;have s:=h.ok.b;have d:up=0\/t.ax up=true:=by grind
     have a: ∀z,aw.ax {b:=aq t.b i {t.b i with eU:=true},r:=aq t.r i {dM with up:=up,dC:=n}} z=true↔t.ax z=true\/z=dg i (t.b i).gen:=λz=>Yt g s
     have D: ∀z,t.ax z=true->aO z≠i:=by
      intro z p q;obtain⟨_,u,_⟩:=CY p;rw[q]at u;rw[u]at i2;cases i2
     generalize m: ({b:=aq t.b i {t.b i with eU:=true},r:=aq t.r i {dM with up:=up,dC:=n}}:aw)=f at*;have o: ∀j,(f.r j).up=if j=i then up else(t.r j).up:=by
      intro j;rw[<-m];show(aq t.r i _ j).up=_;by_cases e:j=i
      ·rw[e,cZ,aaR rfl]
      ·rw[ds e,aaH e]
     have w:f.b=aq t.b i {t.b i with eU:=true}:=by rw[<-m]
     have C:aO (dg i (t.b i).gen)=i:=by
      have:f.ax (dg i (t.b i).gen)=true:=(a _).2 (.inr rfl);have v:=this;unfold aw.ax at v;obtain⟨j,e,G⟩:=lD.1 v;rw[Hl e];refine apo λq=>?_
      rw[w,ds q]at G;have:=HG g s;rw[lD.2 ⟨j,e,G⟩]at this;cases this
     have hold: ∀z,nT t.b z->(f.ax z=true↔t.ax z=true):=λz p=>⟨λq=>by
      rcases(a z).1 q with q|q
      ·exact q
      ·rw[q]at p;exact absurd p (amM g s),λq=>(a z).2 (.inl q)⟩
     have B: ∀x,x≠dg i (t.b i).gen->bK f x=bK t x:=by
      intro x B;have e1: (f.ax x=true)=(t.ax x=true):=propext ⟨λq=>((a x).1 q).resolve_right B,λq=>(a x).2 (.inl q)⟩;unfold bK;simp only[e1];split
      ·rename_i F;unfold kq;rw[o,aaH (D x F)];simp only[propext (hold _ (h.up (aO x)))]
      ·rfl
     have K:bK f (dg i (t.b i).gen)=up:=by
      unfold bK;rw[aaR ((a _).2 (.inr rfl))];unfold kq;rw[o,aaR C];rcases d with q|q
      ·rw[q];split<;>rfl
      ·rw[aaR ((a _).2 (.inl q))]
     have E: ∀x,bK t x≠dg i (t.b i).gen:=by
      intro x q;have p:bK t x≠0:=by rw[q];unfold dg;omega
      have:=(Ho p).1;rw[q]at this;have c:=HG g s;unfold aw.ax at this;rw[this]at c;cases c
     have y: ∀k x,x≠dg i (t.b i).gen->eD f k x=eD t k x:=by
      intro k
      induction k with
      |zero=>intro x _;rfl
      |succ k I=>
       intro x A;simp only[eD,B x A];rw[I _ (E x)]
     refine⟨?_,?_,?_⟩
     ·rw[<-m];refine⟨Xd s g,λj=>?_⟩;show fV (aq t.r i _ j);by_cases e:j=i
      ·rw[e,cZ];exact⟨J,by show n<=64;omega,Df.len,Df.cells,Df.runs,Df.aM⟩
      ·rw[ds e];exact h.ok.r j
     ·intro x;by_cases e:x=dg i (t.b i).gen
      ·rw[e];unfold aR;rw[show(32:Nat)=31+1 from rfl,eD,K];by_cases q:up=0
       ·rw[aaR q];simp
       ·rw[aaH q,y 31 up (λH=>by
          have:=d.resolve_left q;rw[H]at this;have c:=HG g s;unfold aw.ax at this;rw[this]at c;cases c)]
        have F:=d.resolve_left q;unfold depth at l;rw[aaR F]at l;have L:=h.tr up;have:eD t 31 up=aR t up:=(Xe 31 up (by
         have: (eD t 31 up).length<=(eD t 32 up).length:=amK t 31 up;unfold aR at L;omega) 32 (by omega)).symm
        rw[this,ajC];omega
      ·unfold aR;rw[y 32 x e];exact h.tr x
     ·intro j;rw[o,w];by_cases e:j=i
      ·rw[aaR e];rcases d with q|q
       ·rw[q];exact Dr _
       ·exact OG (Ys q)
      ·rw[aaH e];exact OG (h.up j)
    omega
theorem Ds(b:cu t){x:Nat}(a:bK t x≠0):aR t x=bK t x::aR t (bK t x):=by rw[ui b,aaH a]
def OH(c:cu t){h:Nat}: ∀ (n x:Nat),dep t x<=n->h∈aR t x->dep t h<dep t x:=by
 intro n
 induction n with
 |zero=>intro x b a;unfold dep at b;grind
 |succ n d=>
  intro x b a;by_cases hu:bK t x=0
  ·rw[ui c,aaR hu]at a;cases a
  ·grind [CZ,Ds]
def ayN(d:cu t){h:Nat}: ∀ (n x:Nat),dep t x<=n->h∈aR t x-> ∃c,bK t c=h/\h≠0/\t.ax c=true/\ (c=x\/c∈aR t x):=by
 intro n
 induction n with
 |zero=>intro x b a;unfold dep at b;grind
 |succ n e=>
  intro x b a;by_cases hu:bK t x=0
  ·rw[ui d,aaR hu]at a;cases a
  ·grind [CZ,Ds,Ho]
def amN(a:cu t)(x:Nat):x∈dE t x:=by rw[Xg a];grind
def ayO(i:gS t.b)(a:cu t){x:Nat}: ∀ (n h:Nat),dep t x-dep t h<=n->h∈aR t x->x∈dE t h:=by
 intro n
 induction n with
 |zero=>intro h f b;have:=OH a _ x (ahT _) b;omega
 |succ n k=>
  intro h f b;obtain⟨c,l,c0,j,e⟩:=ayN a _ x (ahT _) b;have d:c∈kids t h:=by
   have g:t.ax h=true:=by grind [Ho]
   unfold kids;rw[aaR g];exact ajL.2 ⟨(jt i).2 j,by grind⟩
  rw[Xg a];refine ajH _ (asa.2 ⟨c,d,?_⟩);rcases e with rfl|e
  ·exact amN a c
  ·have:=C0 a d
   grind
theorem amO{α:Type}{f:α->Nat}: ∀ (l:List α) (s:Nat),s<=l.foldl (λn x=>max n (f x)) s/\ ∀x∈l,f x<=l.foldl (λn x=>max n (f x)) s
 | [],s=>⟨ahT _,by simp⟩
 |a::l,s=>by
  have h:=amO (f:=f) l (max s (f a))
  grind
theorem Yv{x y:Nat}(c:ax b x=true)(a:ax b y=true)(e:aO x=aO y):x=y:=by
 obtain⟨_,h,g⟩:=CY c;obtain⟨_,f,d⟩:=CY a
 grind
def eG.ayP(h:eG t)(a w:Nat)(J:w<4294967296):eG (vN t a w).1:=by
 unfold vN;split
 ·exact h
 ·rename_i N;split
  ·exact h
  ·rename_i G;split
   ·exact h
   ·rename_i M;have c:t.ax a=true:=by grind
    have g:t.ax w=true:=by grind
    have d:root t a=a:=apo λq=>G (.inl q)
    have B: ¬kr t a w=true:=λq=>G (.inr q)
    have s:a≠w/\a∉aR t w:=by
     unfold kr at B
     grind
    have D:aR t a=[]:=by
     unfold root at d;rw[aaR c]at d;cases e:aR t a with
     |nil=>rfl
     |cons b bs=>
      exfalso;have hm:a∈aR t a:=by
       have p:aR t a≠[]:=by rw[e];simp
       rw[List.getLastD_eq_getLast?,List.getLast?_eq_getLast p,alr]at d;have:=List.getLast_mem p;rw[d]at this;exact this
      have:=OH h.tr _ a (ahT _) hm;omega
    unfold mf;split
    ·exact h
    ·split
     ·exact h
     ·have C: ∀z,aw.ax {t with r:=aq t.r (aO a) {t.r (aO a)with up:=w}} z=t.ax z:=λ_=>rfl
      have y:bK {t with r:=aq t.r (aO a) {t.r (aO a)with up:=w}} a=w:=by
       unfold bK kq;simp only[C];rw[aaR c,cZ,aaR g]
      have v: ∀x,x≠a->bK {t with r:=aq t.r (aO a) {t.r (aO a)with up:=w}} x=bK t x:=by
       intro x I;unfold bK;simp only[C];split
       ·rename_i m;unfold kq;simp only[C];rw[ds λe=>I (Yv m c e)]
       ·rfl
      generalize l: ({t with r:=aq t.r (aO a) {t.r (aO a)with up:=w}}:aw)=u at*;have w0:w≠0:=Xb g;have key: ∀n x,(eD u n x).length<=if x=a\/a∈aR t x then dep t x+1+dep t w else dep t x:=by
       intro n
       induction n with
       |zero=>intro x;simp[eD]
       |succ n E=>
        intro x;rw[eD];by_cases e:x=a
        ·rw[aaR (show x=a\/a∈aR t x from .inl e),e,y,aaH w0,ajC];have:=E w;rw[aaH (by rintro(q|q);exact s.1 q.symm;exact s.2 q)]at this;omega
        ·rw[v x e];by_cases hu:bK t x=0
         ·rw[aaR hu];simp
         ·rw[aaH hu,ajC];have L:=CZ h.tr hu;have:=E (bK t x);have j: (x=a\/a∈aR t x)↔(bK t x=a\/a∈aR t (bK t x)):=by
           rw[Ds h.tr hu,ajR];constructor
           ·rintro(q|q|q)
            ·exact absurd q e
            ·exact .inl q.symm
            ·exact .inr q
           ·rintro(q|q)
            ·exact .inr (.inl q.symm)
            ·exact .inr (.inr q)
          by_cases q:x=a\/a∈aR t x
          ·rw[aaR q];rw[aaR (j.1 q)]at this;omega
          ·rw[aaH q];rw[aaH λH=>q (j.2 H)]at this;omega
      show eG u;refine⟨?_,λx=>?_,λi=>?_⟩
      ·rw[<-l];exact h.ok.aq ((h.ok.r _).Ou J)
      ·have F:=key 32 x;unfold aR;split at F
       ·rename_i q;have o:x∈dE t a:=by
         rcases q with q|q
         ·rw[q];exact amN h.tr a
         ·exact ayO h.ok.b h.tr _ a (ahT _) q
        have m:=Hp h.ok.b c o;have k:=(amO (f:=λx=>depth t x-depth t a+1) (dE t a) 0).2 x o;have A:ue t a=(dE t a).foldl (λn x=>max n (depth t x-depth t a+1)) 0:=rfl;rw[<-A]at k;have d1:depth t x=1+dep t x:=by unfold depth;rw[aaR m];rfl
        have d2:depth t a=1:=by unfold depth;rw[aaR c,D];rfl
        have d3:depth t w=1+dep t w:=by unfold depth;rw[aaR g];rfl
        have k:depth t x-depth t a+1<=ue t a:=k;omega
       ·have:=h.tr x;unfold dep at F;omega
      ·have e1:u.b=t.b:=by rw[<-l]
       have K: (u.r i).up=(aq t.r (aO a) {t.r (aO a)with up:=w} i).up:=by rw[<-l]
       rw[e1,K];by_cases e:i=aO a
       ·rw[e,cZ];exact Ys g
       ·rw[ds e];exact h.up i
structure jS(k:bh):Prop where
 ok:gF k
 dL: ∀i,nT k.b (k.t i).aR
 ord: ∃L:lN,L.Nodup/\ (∀h∈L,ax k.b h=true)/\ (∀h,ax k.b h=true->h∈L)/\L.Pairwise (λa b=>(k.t (aO a)).aR≠b)/\ ∀h∈L,(k.t (aO h)).aR≠h
def amP{k:bh}{h:Nat}(a:ax k.b h=true): (ck k h).1=k.t (aO h):=by unfold ck;grind
theorem Yw{k:bh}: ∀ {n m h:Nat},n<=m->x0 k n h->x0 k m h
 |0,_,_,_,h=>h.elim
 |n+1,0,_,a,_=>by omega
 |n+1,m+1,_,a,h=>λx b=>Yw (Nat.le_of_succ_le_succ a) (h x b)
theorem OI: ∀ (n:Nat) (l:lN),l.Nodup->(∀x∈l,x<n)->l.length<=n
 |0,[],_,_=>ahT _
 |0,x::_,_,h=>by grind [List.mem_cons_self]
 |n+1,l,a,h=>by
  have c:=OI n (l.erase n) (a.erase n) λx b=>by grind
  grind
def jS.th{k:bh}(h:jS k){x:Nat}(s:ax k.b x=true):x0 k 16 x:=by
 obtain⟨L,w,o,e,i,l⟩:=h.ord;have j:L.length<=16:=by
  rw[<-ahX (f:=aO)];refine OI 16 _ ?_ λy r=>?_
  ·grind [List.Pairwise.imp_of_mem,Yv]
  ·obtain⟨z,g,rfl⟩:=ais.1 r;exact h.ok.slot (o z g)
 have key: ∀ (n:Nat) (P S:lN) (y:Nat),S.length<=n->L=P++y::S->x0 k (S.length+1) y:=by
  intro n
  induction n with
  |zero=>
   intro P S y m d z g;have b:=ajL.1 g;have a:ax k.b z=true:=(jt h.ok.b).1 b.1;have c: (k.t (aO z)).aR=y:=by have:=b.2;rw[amP a]at this;simpa using this
   have t:S=[]:=ak9.1 (by omega);subst t;exfalso;have hm:=e z a;rw[d]at hm;rcases aha.1 hm with q|q
   ·rw[d]at i;exact(aqk.1 i).2.2 z q y (ald ..) c
   ·rcases ajR.1 q with q|q
    ·subst q;exact l z (e z a) c
    ·cases q
  |succ n p=>
   intro P S y m d z g;have b:=ajL.1 g;have a:ax k.b z=true:=(jt h.ok.b).1 b.1;have c: (k.t (aO z)).aR=y:=by have:=b.2;rw[amP a]at this;simpa using this
   have hm:=e z a;rw[d]at hm;rcases aha.1 hm with q|q
   ·exfalso;rw[d]at i;exact(aqk.1 i).2.2 z q y (ald ..) c
   ·rcases ajR.1 q with q|q
    ·exfalso;subst q;exact l z (e z a) c
    ·obtain⟨v,u,rfl⟩:=awv q;have:=p (P++y::v) u z (by simp at m;omega) (by rw[d];simp);exact Yw (by simp) this
 obtain⟨P,S,rfl⟩:=awv (e x s);refine Yw ?_ (key S.length P S x (ahT _) rfl)
 grind
def jS.void{k:bh}(h:jS k)(y:Nat):jS {k with b:=(eC k.b y).1}:=by
 obtain⟨L,f,g,e,d,c⟩:=h.ord;refine⟨alZ h.ok [y],λi=>amL (h.dL i),L.filter λx=>ax (eC k.b y).1 x,f.filter _,λx a=>(ajL.1 a).2,λx a=>ajL.2 ⟨e x (Yu a),a⟩,d.filter _,λx a=>c x (ajL.1 a).1⟩
def jS.amQ{k:bh}(h:jS k)(l:lN):jS (nD k l):=by
 induction l generalizing k with
 |nil=>exact h
 |cons y l a=>exact a (h.void y)
def jS.clear{k:bh}(h:jS k)(r:Nat):jS (N6 k r):=h.amQ _
def jS.ret{k:bh}(h:jS k)(a:Nat):jS (mW k a).1:=by
 unfold mW;split
 ·exact h.amQ _
 omega
def jS.amR{k:bh}(h:jS k){x:Tok}(F:uD x):jS (lC k x).1:=by
 unfold lC;split
 ·exact h
 ·rename_i hm;have hm:qo k x=0:=apo λq=>hm q
  have g:x.aR=0\/ax k.b x.aR=true:=by
   unfold qo at hm;split at hm
   ·omega
   ·have:nz k x.aR=true:=by grind
    unfold nz at this
    grind
  split
  ·rename_i i s;split
   ·rename_i r;obtain⟨i1,i2,i3,_⟩:=uh s;have t:=h.ok.b;have c:=HG s t;have p:=amM s t;have f:=λz=>Yt (h:=z) s t
    have A: ∀z,ax k.b z=true->aO z≠i:=by
     intro z d q;obtain⟨_,o,_⟩:=CY d;rw[q]at o;rw[o]at i2;cases i2
    have y:aO (dg i (k.b i).gen)=i:=by
     obtain⟨j,e,l⟩:=lD.1 ((f _).2 (.inr rfl));rw[Hl e];refine apo λq=>?_
     rw[ds q]at l;rw[lD.2 ⟨j,e,l⟩]at c;cases c
    have v:x.aR≠dg i (k.b i).gen:=by
     intro q;rcases g with e|e
     ·rw[e]at q;unfold dg at q;omega
     ·rw[q,c]at e;cases e
    obtain⟨L,E,u,D,C,B⟩:=h.ord;have w: ∀z∈L,aq k.t i x (aO z)=k.t (aO z):=λz d=>ds (A z (u z d))
    refine⟨⟨Xd t s,λj l=>?_,λj=>?_⟩,λj=>?_,L++[dg i (k.b i).gen],?_,λz d=>?_,λz d=>?_,?_,λz d=>?_⟩
    ·by_cases e:j=i
     ·rw[e];exact r
     ·have l: (aq k.b i {k.b i with eU:=true} j).eU=true:=l;rw[ds e]at l;exact h.ok.lt j l
    ·show uD (aq k.t i x j);by_cases e:j=i
     ·rw[e,cZ];exact F
     ·rw[ds e];exact h.ok.t j
    ·show nT _ (aq k.t i x j).aR;by_cases e:j=i
     ·rw[e,cZ];rcases g with q|q
      ·rw[q];exact Dr _
      ·exact OG (Ys q)
     ·rw[ds e];exact OG (h.dL j)
    ·refine List.nodup_append.2 ⟨E,by simp,λa n b m=>?_⟩;rw[ahc.1 m];intro q;rw[q]at n;rw[u _ n]at c;cases c
    ·rcases aha.1 d with q|q
     ·exact(f z).2 (.inl (u z q))
     ·exact(f z).2 (.inr (ahc.1 q))
    ·rcases(f z).1 d with q|q
     ·exact aha.2 (.inl (D z q))
     ·exact aha.2 (.inr (ahc.2 q))
    ·refine aqk.2 ⟨?_,by simp,λa n b m=>?_⟩
     ·exact aun (λn _ g=>by show(aq k.t i x (aO _)).aR≠_;rw[w _ n];exact g) C
     ·rw[ahc.1 m];show(aq k.t i x (aO a)).aR≠_;rw[w a n];intro q;have:=h.dL (aO a);rw[q]at this;exact p this
    ·rcases aha.1 d with q|q
     ·show(aq k.t i x (aO z)).aR≠_;rw[w z q];exact B z q
     ·rw[ahc.1 q];show(aq k.t i x (aO _)).aR≠_;rw[y,cZ];exact v
   omega
  omega
structure bm(s:bI):Prop where
 ez:eG s.T
 O:fN s.O
 tok:jS s.K
 bx: ∀i,jb (s.dh i)
def bm.T{s:bI}(h:bm s):bR s.T:=h.ez.ok
def bm.tr{s:bI}(h:bm s):cu s.T:=h.ez.tr
def bm.K{s:bI}(h:bm s):gF s.K:=h.tok.ok
theorem bm.th{s:bI}(h:bm s): ∀a,ax s.K.b a=true->x0 s.K 16 a:=λ_ b=>h.tok.th b
def bm.wj{s:bI}(h:bm s)(a:eG t):bm {s with T:=t}:=⟨a,h.O,h.tok,h.bx⟩
def bm.wk{s:bI}(h:bm s){o:bQ}(ho:fN o):bm {s with O:=o}:=⟨h.ez,ho,h.tok,h.bx⟩
def bm.Dt{s:bI}(h:bm s){k:bh}(a:jS k):bm {s with K:=k}:=⟨h.ez,h.O,a,h.bx⟩
def bm.Du{s:bI}(h:bm s){i:Nat}{b:cS}(a:jb b):bm {s with dh:=aq s.dh i b}:=⟨h.ez,h.O,h.tok,λj=>by
 show jb (aq s.dh i b j);by_cases e:j=i
 ·rw[e,cZ];exact a
 ·rw[ds e];exact h.bx j⟩
def bm.Yx{s:bI}(h:bm s){a b:Nat->Bool}:bm {s with alive:=a,born:=b}:=⟨h.ez,h.O,h.tok,h.bx⟩
def fN.iA{o:bQ}(ho:fN o){r:Nat}(a:r<4294967296):fN (rQ o t r aa).1:=ho.Ox a ⟨by simp,als _ (by omega),by simp⟩
def fN.fly{o:bQ}(ho:fN o){r:Nat}(a:r<4294967296):fN (Aa o t r).1:=ho.Ox a ⟨by simp,by simp,by simp⟩
def fN.freeze{o:bQ}(ho:fN o){r:Nat}(a:r<4294967296):fN (CW o t r aa).1:=ho.Ox a ⟨by simp,by simp,Aq aa⟩
def fN.held{o:bQ}(ho:fN o){r:Nat}{b:Bool}(c:r<4294967296):fN (dD o t r aa b).1:=by
 unfold dD;dsimp only;split
 ·omega
 ·split
  ·omega
  ·split
   ·omega
   ·split
    ·omega
    ·split
     ·omega
     ·have a:=ho.of t r;exact ho.Ox c ⟨a.kind,a.aa,aB7 (n:=8) a.hold (Aq aa)⟩
section
def lx{args:lA}{E:AS}{r:aS}(h:D X0 v args E=some r):D XA v args E=some r:=xT ED (up dt h)
def ly{args:lA}{E:AS}{r:aS}(h:D X v args E=some r):D XA v args E=some r:=xT ED h
structure jT(c:cz):Prop where
 op:c.op<256
 r:c.r<4294967296
 s:c.s<4294967296
 a:c.a<4294967296
 b:c.b<4294967296
 v:c.v<18446744073709551616
def dZ{α:Type}(f:α->AV×AS)(E:AS):R α->aS
 |.ok a=>.ret (f a).1 (f a).2
 |.error e=>.panic (jc e) E
abbrev un(E:AS):Unit->AV×AS:=λ_=>(.au [],E)
def lI(b:Bool)(e:Nat)(H:List ae)(lo:oN):D XA (.fn (.func cX) [] []) [.bool b,.int .i64 e] ⟨H,lo⟩=some (dZ (un ⟨H,lo⟩) ⟨H,lo⟩ (ask b e)):=by
 cases b
 ·exact lx (Ar e H lo)
 ·exact lx (HE e H lo)
def gU(e:Nat)(H:List ae)(lo:oN):D XA (.fn (.func lb) [] []) [.int .i64 e] ⟨H,lo⟩=some (dZ (un ⟨H,lo⟩) ⟨H,lo⟩ (bc e)):=by
 by_cases h:e=0
 ·subst h;exact lx (ays H lo)
 ·unfold bc;rw[aaH h];exact lx (ayt e h H lo)
def jd{a:List FP}{f:ao}{b:List ao}{d:oN}{e:Env}{c:lN}{Q:bU}{E:AS}:kF a (.call f b) d [] [] e c Q v E=Q (.panic v) ⟨e,c⟩ E:=by
 have h:DW a (⟨none,d,.call f b⟩,[]) []=true:=by rfl
 simp only[kF,h,aBp]
def take_set{H L:List ae}{N:Nat}{o:ae}(a:H.length=N):List.take N (H.set p o++L)=H.set p o:=by grind
def aGN{H:List ae}{N:Nat}{o:ae}(a:H.length=N):List.take N (H.set p o)=H.set p o:=abk (by grind)
def ayR:aI t++List.drop 480 (aY x bk)=aY (x.t t) bk:=by
 rw[<-Yq];simp[aH,iz]
structure Old(p:Nat)(H:List ae)(v:ae):Prop where
 at':H[p]?=some v
namespace Old
variable{p:Nat}{H:List ae}{v:ae}(h:Old p H v)
include h
theorem lt:p<H.length:=(aaG.1 h.at').1
theorem g(B:List ae): (H++B)[p]?=some v:=bf h.at'
theorem s(B:List ae)(w:ae): (H++B).set p w=H.set p w++B:=at5 _ _ h.lt
theorem g1(w:ae): (H.set p w)[p]?=some w:=by rw[ah5 h.lt]
theorem g2(w:ae)(B:List ae): (H.set p w++B)[p]?=some w:=bf (h.g1 w)
theorem s2(w w':ae)(B:List ae): (H.set p w++B).set p w'=H.set p w'++B:=by
 rw[at5 _ _ (by rw[ajB];exact h.lt),amC]
theorem same:H.set p v=H:=qz h.at'
theorem app(B:List ae):Old p (H++B) v:=⟨h.g B⟩
theorem set(w:ae):Old p (H.set p w) w:=⟨h.g1 w⟩
end Old
def ayS{x:Nat}(a:k<8):k9 .shr (.int .u8 (x:Nat)) (.int .i64 (k:Nat))=some (.int .u8 ((x/2^k:Nat):Int)):=by
 rw[EF,aaR (by omega)];have b:IntKind.u8.bits=8:=rfl
 grind
def ayT{x:Nat}(c:x<256):dq .and (.int .u8 ((x/2^k:Nat):Int)) (.int .u8 1)=some (.int .u8 ((x/2^k % 2:Nat):Int)):=by
 have a:x/2^k<256:=Nat.lt_of_le_of_lt (Nat.div_le_self _ _) c;have:=Oy (b:=1) a (by omega)
 grind
section
variable{x:ar}{bk:AV}{p:Nat}{H:List ae}(ho:Old p H (.box (aY x bk) none))(lo:oN)
include ho
theorem OJ(aa:Nat):D XA (.fn (.func BP) [] []) [.ptr p 0,.int .u32 aa] ⟨H,lo⟩=some (dZ (un ⟨H,lo⟩) ⟨H,lo⟩ (mi x aa)):=by
 refine aF NF λN f=>?_
 have e:=ho.at';by_cases h:aa<8
 ·have c: (aa:Int)<8:=by omega
  have b:mi x aa=ask (x.s.alive aa) 2:=by unfold mi;simp[h]
  have a: ∀H lo,D XA (.fn (.func cX) [] []) [.bool (x.s.alive aa),.int .i64 2] ⟨H,lo⟩=_:=lI _ 2;rw[b];cases d:x.s.alive aa<;>rw[d]at a<;>simp(disch:=omega) only[F1,go_sem,simprocAttr,NF,e,c,↓Yp h,d,a,ask,dZ,EP]
 ·have c: ¬(aa:Int)<8:=by omega
  have b:mi x aa= .error 2:=by unfold mi ask;simp[h]
  have a: ∀H lo,D XA (.fn (.func cX) [] []) [.bool false,.int .i64 2] ⟨H,lo⟩=_:=lI _ 2;rw[b];simp(disch:=omega) only[F1,go_sem,simprocAttr,NF,c,a,ask,dZ,EP]
theorem Yy(b:bm x.s)(i:x.aa<8)(h:Nat)(e:h<4294967296)(a:Nat)(d:a<=2):
  D XA (.fn (.func kf) [] []) [.ptr p 0,.int .u32 h,.int .u8 a] ⟨H,lo⟩=some (dZ (un ⟨H,lo⟩) ⟨H,lo⟩ (fL x h a)):=by
 refine aF Vt λN g=>?_
 have hm:=λH lo=>ly (ayp x.s.T b.T b.tr x.s.O b.O x.s.K b.K x.aa (by omega) h e a d H lo)
 have c:=gU (xL x.s.T x.s.O x.s.K x.aa h a);unfold fL;cases f:bc (xL x.s.T x.s.O x.s.K x.aa h a)<;>rw[f]at c<;>simp only[F1,go_sem,simprocAttr,Vt,g,ho.at',↓CL,hm,c,dZ,EP,jd]
theorem OK(b:bm x.s)(h:Nat)(c:h<4294967296):
  D XA (.fn (.func Fi) [] []) [.ptr p 0,.int .u32 h] ⟨H,lo⟩=some (dZ (λ_=>(.agg (bW (aJ x.s.T h).1),⟨H,lo⟩)) ⟨H,lo⟩ (bc (aJ x.s.T h).2)):=by
 refine aF Vv λN e=>?_
 have hm:=λH lo=>lx (vZ x.s.T b.T h c H lo)
 have a:=gU (aJ x.s.T h).2;cases d:bc (aJ x.s.T h).2<;>rw[d]at a<;>simp only[F1,go_sem,simprocAttr,Vv,e,ho.g,↓CL,hm,nN,a,dZ,EP]
theorem Yz(a:bm x.s)(h:Nat)(d:h<4294967296):
  D XA (.fn (.func Fj) [] []) [.ptr p 0,.int .u32 h] ⟨H,lo⟩=some (dZ (λ_=>(.au [],⟨H.set p (.box (aY (x.t (jr x.s.T h).1) bk) none),lo⟩)) ⟨H,lo⟩ (bc (jr x.s.T h).2)):=by
 refine aF Vz λN c=>?_
 have hm:=λH lo=>ly (axE x.s.T a.T a.tr h d H lo)
 have b:=gU (jr x.s.T h).2;cases e:bc (jr x.s.T h).2<;>rw[e]at b<;>simp only[F1,go_sem,simprocAttr,Vz,c,ho.at',ho.g,ho.s,↓CL,hm,Ov,b,dZ,EP,CS,cT,take_set c]
theorem OM(a:bm x.s)(h:Nat)(e:h<4294967296)(aa:Nat)(d:aa<256):
  D XA (.fn (.func BO) [] []) [.ptr p 0,.int .u32 h,.int .i64 aa] ⟨H,lo⟩=some (dZ (λ_=>(.au [],⟨H.set p (.box (aY (x.o (rQ x.s.O x.s.T h aa).1) bk) none),lo⟩)) ⟨H,lo⟩ (bc (rQ x.s.O x.s.T h aa).2)):=by
 refine aF Vu λN c=>?_
 have hm:=λH lo=>lx (axM x.s.O x.s.T a.T a.tr h e aa d H lo)
 have b:=gU (rQ x.s.O x.s.T h aa).2;cases f:bc (rQ x.s.O x.s.T h aa).2<;>rw[f]at b<;>simp only[F1,go_sem,simprocAttr,Vu,c,ho.g,ho.s,↓CL,hm,b,dZ,EP,CS,gr,take_set c]
theorem YA(d:bm x.s)(h:Nat)(g:h<4294967296)(r:dk)(e:RB r.runs)(f:r.runs.length<=65)(a:r.len<4294967296):
  D XA (.fn (.func KM) [] []) [.ptr p 0,.int .u32 h,.agg (bW r)] ⟨H,lo⟩=some (dZ (λ_=>(.au [],⟨H.set p (.box (aY (x.t (fK x.s.T h r).1) bk) none),lo⟩)) ⟨H,lo⟩ (bc (fK x.s.T h r).2)):=by
 refine aF Vx λN c=>?_
 have hm:=λH lo=>lx (XZ x.s.T d.T h g r e f a H lo)
 have b:=gU (fK x.s.T h r).2;cases i:bc (fK x.s.T h r).2<;>rw[i]at b<;>simp only[F1,go_sem,simprocAttr,Vx,c,ho.g,ho.s,↓CL,hm,uA,b,dZ,EP,CS,cT,take_set c]
theorem HH(f:bm x.s)(t:x.aa<8)(h:Nat)(n:h<4294967296):
  D XA (.fn (.func Fk) [] []) [.ptr p 0,.int .u32 h] ⟨H,lo⟩=some (dZ (un ⟨H,lo⟩) ⟨H,lo⟩ (xM x h)):=by
 refine aF CN λN r=>?_
 have a:=λH lo=>lx (eF x.s.T.b h n H lo)
 have o:ax x.s.T.b h=x.s.T.ax h:=rfl;rw[o]at a;have d:=λH lo=>lx (Dg x.s.O f.O x.s.T f.T f.tr h n H lo)
 have c:=λH lo=>lx (Am x.s.T f.T f.tr h n H lo)
 have j:=f.O.of x.s.T h;have z:xM x h=ask (x.s.T.ax h) 4>>=λ_=>ask (decide (root x.s.T h=h)&&decide ((ch x.s.O x.s.T h).kind=3)) 12>>=λ_=>ask ((ch x.s.O x.s.T h).hold.testBit x.aa) 5:=rfl
 generalize ch x.s.O x.s.T h=w at*;have g: ∀H lo,D XA (.fn (.func cX) [] []) [.bool (x.s.T.ax h),.int .i64 4] ⟨H,lo⟩=_:=lI _ 4;have e: ∀b H lo,D XA (.fn (.func cX) [] []) [.bool b,.int .i64 12] ⟨H,lo⟩=_:=λb=>lI b 12
 have A: ∀b H lo,D XA (.fn (.func cX) [] []) [.bool b,.int .i64 5] ⟨H,lo⟩=_:=λb=>lI b 5
 rw[z];cases u:x.s.T.ax h with
 |false=>
  rw[u]at a g;simp(disch:=omega) only[F1,go_sem,simprocAttr,CN,ho.at',↓CL,a,g,ask,dZ,EP,Except.bind,bind]
 |true=>
  rw[u]at a g;by_cases hr:root x.s.T h=h
  ·have k:decide ((root x.s.T h:Int)=h)=true:=abj (by omega);by_cases s:w.kind=3
   ·have i:decide ((w.kind:Int)=3)=true:=abj (by omega);have m:k9 .shr (.int .u8 (w.hold:Nat)) (.int .i64 (x.aa:Nat))=some (.int .u8 ((w.hold/2^x.aa:Nat):Int)):=ayS t;have hand:dq .and (.int .u8 ((w.hold/2^x.aa:Nat):Int)) (.int .u8 1)=some (.int .u8 ((w.hold/2^x.aa % 2:Nat):Int)):=ayT j.hold;have q:=al8 j.hold t;have l:decide (((w.hold/2^x.aa % 2:Nat):Int)=1)=w.hold.testBit x.aa:=by rw[<-q];exact ajF.2 (by omega)
    cases y:w.hold.testBit x.aa<;>rw[y]at l<;>
     simp only[F1,go_sem,simprocAttr,CN,r,ho.at',ho.g,↓CL,jN,a,g,d,c,hr,s,e,A,m,hand,l,ask,dZ,EP,jd,Except.bind,bind]
   ·have i:decide ((w.kind:Int)=3)=false:=abi (by omega);simp only[F1,go_sem,simprocAttr,CN,r,ho.at',ho.g,↓CL,jN,a,g,d,c,hr,i,s,e,ask,dZ,EP,Except.bind,bind]
  ·have k:decide ((root x.s.T h:Int)=h)=false:=abi (by omega);simp only[F1,go_sem,simprocAttr,CN,r,ho.at',ho.g,↓CL,jN,a,g,d,c,k,hr,e,ask,dZ,ajT,EP,Except.bind,bind]
end
def amS(c:cz)(H:List ae)(lo:oN):D XA (.fn (.func SX) [] []) [.agg (bg c)] ⟨H,lo⟩=some (dZ (un ⟨H,lo⟩) ⟨H,lo⟩ (ask (decide (1<=c.b)&&decide (c.b<=8)) 2)):=by
 refine aF G4 λN e=>?_
 have g: ∀b H lo,D XA (.fn (.func cX) [] []) [.bool b,.int .i64 2] ⟨H,lo⟩=_:=λb=>lI b 2
 by_cases f:1<=c.b
 ·have a:decide ((c.b:Int)>=1)=true:=abj (by omega);by_cases i:c.b<=8
  ·have d:decide ((c.b:Int)<=8)=true:=abj (by omega);simp only[F1,go_sem,simprocAttr,G4,e,bg,a,d,f,i,g,ask,dZ]
  ·have d:decide ((c.b:Int)<=8)=false:=abi (by omega);simp only[F1,go_sem,simprocAttr,G4,e,bg,a,d,f,i,g,ask,dZ,EP]
 ·have a:decide ((c.b:Int)>=1)=false:=abi (by omega);simp only[F1,go_sem,simprocAttr,G4,e,bg,a,f,g,ask,dZ,ajT,EP]
def ayU(r:dk)(g:r.len<4294967296)(c:cz)(d:jT c)(H:List ae)(lo:oN):
  D XA (.fn (.func KN) [] []) [.agg (bW r),.agg (bg c)] ⟨H,lo⟩=some (dZ (un ⟨H,lo⟩) ⟨H,lo⟩ (ask (decide (c.a+c.b<=r.len)) 9)):=by
 refine aF NC λN e=>?_
 have j:=d.a;have i:=d.b;have f: ∀b H lo,D XA (.fn (.func cX) [] []) [.bool b,.int .i64 9] ⟨H,lo⟩=_:=λb=>lI b 9
 by_cases h:c.a+c.b<=r.len
 ·have a:decide ((c.a:Int)<=(r.len:Int)-c.b)=true:=abj (by omega);simp(disch:=omega) only[F1,go_sem,simprocAttr,NC,e,bg,a,h,f,ask,dZ]
 ·have a:decide ((c.a:Int)<=(r.len:Int)-c.b)=false:=abi (by omega);simp(disch:=omega) only[F1,go_sem,simprocAttr,NC,e,bg,a,h,f,ask,dZ,EP]
end
structure m4(x:ar):Prop where
 s:bm x.s
 t:x.aa<8
 c:jT x.c
 run:x.run.1<4294967296/\x.run.2<4294967296
def bb(b:List aE)(bk:AV)(p:Nat)(H:List ae)(lo:oN):R (ar×bF)->aS->Prop
 |.ok (y,r),a=>y.back=b/\a= .ret (.agg (bG r)) ⟨H.set p (.box (aY y bk) none),lo⟩
 |.error e,a=> ∃y,a= .panic (jc e) ⟨H.set p (.box (aY y bk) none),lo⟩
theorem okB{a:α}{f:α->R β}: (Except.ok a>>=f:R β)=f a:=rfl
theorem c8{f:α->R β}: (Except.error e>>=f:R β)= .error e:=rfl
def OL{H:List ae}{N:Nat}(a:H.length=N): (∀p w L,(H.set p w++L)[N]?=L[0]?)/\ (∀p w L k,(H.set p w++L)[N+k]?=L[k]?)/\ (∀p w L o,(H.set p w++L).set N o=H.set p w++L.set 0 o)/\ (∀p w L k o,(H.set p w++L).set (N+k) o=H.set p w++L.set k o)/\
  (∀p w L,List.take N (H.set p w++L)=H.set p w)/\ ∀p w,List.take N (H.set p w)=H.set p w:=by
 have h: ∀p w,(H.set p w).length=N:=λp w=>by grind
 grind
theorem gH{a:α}: (pure a:R α)= .ok a:=rfl
def dS{K c:AV->AS->Prop}{f:α->AV×AS}{E:AS}{m:R α}:Jc K c (some (dZ f E m))=((∀a,m= .ok a->K (f a).1 (f a).2)/\ ∀e,m= .error e->c (jc e) E):=by
 apply propext;cases m with
 |ok a=>
  refine⟨λh=>⟨λb e=>?_,λ_ e=>?_⟩,λh=>h.1 a rfl⟩
  ·cases e;exact h
  grind
 |error e=>
  refine⟨λh=>⟨λb q=>?_,λb q=>?_⟩,λh=>h.2 e rfl⟩
  ·cases q
  ·cases q;exact h
def dU{q:Unit->Prop}: (∀a,q a)=q ():=by grind
section
variable{x:ar}{bk:AV}{p:Nat}{H:List ae}{lo:oN}(ho:Old p H (.box (aY x bk) none))(hx:m4 x)
include ho
theorem bb.err:bb x.back bk p H lo (.error e) (.panic (jc e) ⟨H,lo⟩):=⟨x,by rw[ho.same]⟩
theorem bb.here(a:v= .agg (bG r)):bb x.back bk p H lo (.ok (x,r)) (.ret v ⟨H,lo⟩):=by
 refine⟨rfl,?_⟩;rw[ho.same,a]
omit ho in
theorem bb.set(a:v= .agg (bG r))(b:y.back=x.back):bb x.back bk p H lo (.ok (y,r)) (.ret v ⟨H.set p (.box (aY y bk) none),lo⟩):=by
 refine⟨b,?_⟩;rw[a]
omit ho in
theorem Au{h w:Nat}(a:fL x h w= .ok ()):bc (aJ x.s.T h).2= .ok ():=by
 unfold fL xL at a;cases b:x.s.T.ax h with
 |true=>unfold aJ;rw[aaR b];rfl
 |false=>rw[aaR b]at a;cases a
include hx
theorem M0(h:Nat)(a:h<4294967296)(B:List ae)(lo:oN):D XA (.fn (.func kf) [] []) [.ptr p 0,.int .u32 h,.int .u8 0] ⟨H++B,lo⟩=some (dZ (un ⟨H++B,lo⟩) ⟨H++B,lo⟩ (fL x h 0)):=Yy (ho.app B) lo hx.s hx.t h a 0 (by omega)
theorem M1(h:Nat)(a:h<4294967296)(B:List ae)(lo:oN):D XA (.fn (.func kf) [] []) [.ptr p 0,.int .u32 h,.int .u8 1] ⟨H++B,lo⟩=some (dZ (un ⟨H++B,lo⟩) ⟨H++B,lo⟩ (fL x h 1)):=Yy (ho.app B) lo hx.s hx.t h a 1 (by omega)
theorem M2(h:Nat)(a:h<4294967296)(B:List ae)(lo:oN):D XA (.fn (.func kf) [] []) [.ptr p 0,.int .u32 h,.int .u8 2] ⟨H++B,lo⟩=some (dZ (un ⟨H++B,lo⟩) ⟨H++B,lo⟩ (fL x h 2)):=Yy (ho.app B) lo hx.s hx.t h a 2 (by omega)
omit ho in
theorem Bs(L:List ae)(lo:oN):D XA (.fn (.func KN) [] []) [.agg (bW (aJ x.s.T x.c.r).1),.agg (bg x.c)] ⟨L,lo⟩=some (dZ (un ⟨L,lo⟩) ⟨L,lo⟩ (ask (decide (x.c.a+x.c.b<=(aJ x.s.T x.c.r).1.len)) 9)):=
 ayU (aJ x.s.T x.c.r).1 (by have:=(hx.s.T.get x.c.r).len;omega) x.c hx.c L lo
end
section
variable{x:ar}{bk:AV}{p:Nat}{H:List ae}{lo:oN}(ho:Old p H (.box (aY x bk) none))(hx:m4 x)
include ho hx
theorem ayV: ∃a,D XA (.fn (.func Ks) [] []) [.ptr p 0] ⟨H,lo⟩=some a/\bb x.back bk p H lo (rS x 0) a:=by
 refine cE Vj λN b=>?_
 simp only[F1,go_sem,simprocAttr,Vj,b,ho.g,↓CL,λB=>amS x.c (H++B),M0 ho hx x.c.r hx.c.r,λB lo=>OK (ho.app B) lo hx.s x.c.r hx.c.r,λL=>Bs hx L,dS,dU,EP,jd];have c:=Au (x:=x) (h:=x.c.r) (w:=0)
 (repeat' (first| (refine⟨?_,?_⟩)|intro _))<;>first
   | (simp only[rS,gH,okB,c8, *];first|exact bb.err ho|exact bb.here ho rfl)
   | (exfalso;simp_all)
theorem ayW: ∃a,D XA (.fn (.func Kt) [] []) [.ptr p 0] ⟨H,lo⟩=some a/\bb x.back bk p H lo (rS x 1) a:=by
 refine cE Vk λN b=>?_
 simp only[F1,go_sem,simprocAttr,Vk,b,ho.g,↓CL,λB=>amS x.c (H++B),M1 ho hx x.c.r hx.c.r,λB lo=>OK (ho.app B) lo hx.s x.c.r hx.c.r,λL=>Bs hx L,dS,dU,EP,jd];have c:=Au (x:=x) (h:=x.c.r) (w:=1)
 (repeat' (first| (refine⟨?_,?_⟩)|intro _))<;>first
   | (simp only[rS,gH,okB,c8, *];first|exact bb.err ho|exact bb.here ho rfl)
   | (exfalso;simp_all)
end
theorem ayX{args:lA}{E:AS}{a:AS}(h:Dn args E=some (.ret v a)):D XA (.fn (.func zi) [] []) args E=some (.ret v a):=EJ rfl h
def ya(h: ¬a<8):mi x a= .error 2:=by unfold mi ask;simp[h]
def amT(h:a<4294967296):min a 8<4294967296:=by omega
section
variable{x:ar}{bk:AV}{p:Nat}{H:List ae}{lo:oN}(ho:Old p H (.box (aY x bk) none))(hx:m4 x)
include ho hx
theorem ayY: ∃b,D XA (.fn (.func KG) [] []) [.ptr p 0] ⟨H,lo⟩=some b/\bb x.back bk p H lo (vW x) b:=by
 refine cE Vs λN c=>?_
 have a:=λH lo=>ayX (ayH x.s.T hx.s.T x.c.r (min x.c.a 8) hx.c.r (amT hx.c.a) H lo)
 have em: ((min x.c.a 8:Nat):Int)=min (x.c.a:Int) 8:=by omega
 simp only[em]at a;simp(disch:=omega) only[F1,go_sem,simprocAttr,Vs,c,ho.g,↓CL,M0 ho hx x.c.r hx.c.r,a,λH=>gU (uj x.s.T x.c.r (min x.c.a 8)).2 H,dS,dU,EP]
 (repeat' (first| (refine⟨?_,?_⟩)|intro _))<;>(simp only[vW,gH,okB,c8, *];first|exact bb.err ho|exact bb.here ho rfl)
theorem ayZ: ∃b,D XA (.fn (.func Kx) [] []) [.ptr p 0] ⟨H,lo⟩=some b/\bb x.back bk p H lo (vR x) b:=by
 refine cE Vo λN a=>?_
 have c:=λH lo=>ly (axA x.s.T hx.s.T hx.s.tr x.c.r x.c.s hx.c.r hx.c.s H lo)
 simp only[F1,go_sem,simprocAttr,Vo,a,ho.g,ho.s,↓CL,CS,M2 ho hx x.c.r hx.c.r,M1 ho hx x.c.s hx.c.s,c,xX,λH=>gU (vN x.s.T x.c.r x.c.s).2 H,dS,dU,EP,cT,OL a]
 (repeat' (first| (refine⟨?_,?_⟩)|intro _))<;>(simp only[vR,gH,okB,c8, *];first|exact bb.err ho|trivial)
theorem ay0: ∃d,D XA (.fn (.func Kz) [] []) [.ptr p 0] ⟨H,lo⟩=some d/\bb x.back bk p H lo (uo x) d:=by
 refine cE Nv λN b=>?_
 have a:=λB lo=>OJ (ho.app B) lo x.c.a
 by_cases c:x.c.a<8
 ·have e:=λH lo=>lx (alP x.s.O hx.s.O x.s.T hx.s.T hx.s.tr x.c.r hx.c.r x.c.a (by omega) H lo)
  simp(disch:=omega) only[F1,go_sem,simprocAttr,Nv,b,ho.g,ho.s,↓CL,CS,a,λB lo=>HH (ho.app B) lo hx.s hx.t x.c.r hx.c.r,e,λH=>gU (dD x.s.O x.s.T x.c.r x.c.a true).2.2 H,dS,dU,EP,gr,OL b]
  (repeat' (first| (refine⟨?_,?_⟩)|intro _))<;>(simp only[uo,C2,gH,okB,c8, *];first|exact bb.err ho|exact bb.set rfl rfl)
 ·rw[ya c]at a;simp only[F1,go_sem,simprocAttr,Nv,b,ho.g,↓CL,a,dZ,EP];simp only[uo,c8,ya c];exact bb.err ho
theorem ay1: ∃d,D XA (.fn (.func KE) [] []) [.ptr p 0] ⟨H,lo⟩=some d/\bb x.back bk p H lo (vV x) d:=by
 refine cE Vr λN c=>?_
 have e:=λH lo=>lx (ayv (x.s.dh x.aa) H lo)
 have i:=hx.t;have h: (x.aa:Int)<8:=by omega
 have g:784+x.aa*19<=945:=by omega
 have f:=λbk=> @OD x bk x.aa hx.t
 have a:=λbk b=> @OE x bk x.aa b hx.t
 simp only[F1,go_sem,simprocAttr,Vr,c,ho.g,ho.s,↓CL,CS,e,h,↓f,a,g,MB,λH=>gU (vO (x.s.dh x.aa)).2 H,dS,dU,EP,OL c]
 (repeat' (first| (refine⟨?_,?_⟩)|intro _))<;>(simp only[vV,gH,okB,c8, *];first|exact bb.err ho|trivial)
theorem ay2: ∃e,D XA (.fn (.func KC) [] []) [.ptr p 0] ⟨H,lo⟩=some e/\bb x.back bk p H lo (vU x) e:=by
 refine cE Vq λN d=>?_
 have c:=λH lo=>lx (Dh x.s.K hx.s.K x.c.s hx.c.s H lo)
 have a:=hx.s.K.get x.c.s;generalize i:ck x.s.K x.c.s=g at*;have f:=a.to;have he: ((g.1.to:Int)=x.aa)=(g.1.to=x.aa):=propext (by omega);obtain⟨w,hr⟩:=al4 x.s.K hx.s.K x.c.s hx.c.s (hx.s.th x.c.s) (H++[.box [.int .i64 0,.int .u64 0,.int .u32 0] none,.box (fJ g.1) none]) none;have hr:=ly hr;simp only[fJ]at hr c;have h: ∀b H lo,D XA (.fn (.func cX) [] []) [.bool b,.int .i64 5] ⟨H,lo⟩=_:=λb=>lI b 5
 simp(disch:=omega) only[F1,go_sem,simprocAttr,Vq,d,ho.g,ho.s,↓CL,CS,c,hr,he,h,λH=>gU g.2 H,dS,dU,EP,jd,OL d]
 (repeat' (first| (refine⟨?_,?_⟩)|intro _))<;>(simp only[vU,gH,okB,c8, *];first|exact bb.err ho|exact bb.set rfl rfl)
theorem ay3: ∃g,D XA (.fn (.func KJ) [] []) [.ptr p 0] ⟨H,lo⟩=some g/\bb x.back bk p H lo (rT x) g:=by
 refine cE Nz λN c=>?_
 have f: ∀b H lo,D XA (.fn (.func cX) [] []) [.bool b,.int .i64 2] ⟨H,lo⟩=_:=λb=>lI b 2
 by_cases a:x.c.a<8
 ·have e: (x.c.a:Int)<8:=by omega
  have l: (x.c.a:Int).tmod 8=x.c.a:=Int.tmod_eq_of_lt (by omega) (by omega);have k: (decide (x.c.a<8)&& !x.s.born (x.c.a % 8))= !x.s.born x.c.a:=by rw[ap9 a];simp[a]
  have j:=λbk=> @ayq x bk x.c.a a
  have s1:=λ (y:ar) bk v=> @amv y bk x.c.a v a
  have s2:=λ (y:ar) bk v=> @ayr y bk x.c.a v a
  have i:936+x.c.a<=963:=by omega
  have h:944+x.c.a<=963:=by omega
  simp only[F1,go_sem,simprocAttr,Nz,c,ho.g,ho.s,ho.g2,ho.s2,↓CL,CS,e,l,i,h,↓j,f,s1,s2,dS,dU,EP,jd,OL c];have d:rT x=ask (!x.s.born x.c.a) 2>>=λ_=>.ok ({x with s:={x.s with alive:=aq x.s.alive x.c.a true,born:=aq x.s.born x.c.a true}},b8):=by unfold rT;rw[k];rfl
  rw[d]
  (repeat' (first| (refine⟨?_,?_⟩)|intro _))<;>(simp only[okB,c8, *];first|exact bb.err ho|exact bb.set rfl rfl)
 ·have e: ¬(x.c.a:Int)<8:=by omega
  have f: ∀H lo,D XA (.fn (.func cX) [] []) [.bool false,.int .i64 2] ⟨H,lo⟩=_:=λH lo=>lx (Ar 2 H lo)
  have d:rT x= .error 2:=by unfold rT;rw[abi a];rfl
  simp only[F1,go_sem,simprocAttr,Nz,c,ho.g,↓CL,e,f,EP,jd];rw[d];exact bb.err ho
theorem ay4: ∃h,D XA (.fn (.func KF) [] []) [.ptr p 0] ⟨H,lo⟩=some h/\bb x.back bk p H lo (oQ x) h:=by
 refine cE Nx λN d=>?_
 have b:=λH lo=>lx (Dg x.s.O hx.s.O x.s.T hx.s.T hx.s.tr x.c.s hx.c.s H lo)
 have f:=λH lo=>ayJ x.s.T hx.s.T hx.s.tr x.c.r (min x.c.a 8) x.c.s (decide ((ch x.s.O x.s.T x.c.s).kind=3)) hx.c.r hx.c.s (amT hx.c.a) H lo
 have em: ((min x.c.a 8:Nat):Int)=min (x.c.a:Int) 8:=by omega
 have c:decide ((ch x.s.O x.s.T x.c.s).kind=3)=decide (((ch x.s.O x.s.T x.c.s).kind:Int)=3):=ajF.2 (by omega);simp only[em,c]at f;by_cases e:x.c.s=0
 ·have a:decide ((x.c.s:Int)=0)=true:=abj (by omega);simp(disch:=omega) only[F1,go_sem,simprocAttr,Nx,d,ho.g,ho.s,↓CL,CS,M1 ho hx x.c.r hx.c.r,a,b,jN,f,λH=>gU (nF x.s.T x.c.r (min x.c.a 8) x.c.s (decide (((ch x.s.O x.s.T x.c.s).kind:Int)=3))).2 H,dS,dU,EP,OL d,cT];have g:oQ x=fL x x.c.r 1>>=λ_=>bc (nF x.s.T x.c.r (min x.c.a 8) x.c.s (decide (((ch x.s.O x.s.T x.c.s).kind:Int)=3))).2>>=λ_=>.ok (x.t (nF x.s.T x.c.r (min x.c.a 8) x.c.s (decide (((ch x.s.O x.s.T x.c.s).kind:Int)=3))).1,b8):=by
   unfold oQ;rw[aaH (by simpa using e),c];rfl
  rw[g];clear e a c em
  (repeat' (first| (refine⟨?_,?_⟩)|intro _))<;>(simp only[okB,c8, *];first|exact bb.err ho|exact bb.set rfl rfl)
 ·have a:decide ((x.c.s:Int)=0)=false:=abi (by omega);simp(disch:=omega) only[F1,go_sem,simprocAttr,Nx,d,ho.g,ho.s,↓CL,CS,M1 ho hx x.c.r hx.c.r,M0 ho hx x.c.s hx.c.s,a,b,jN,f,λH=>gU (nF x.s.T x.c.r (min x.c.a 8) x.c.s (decide (((ch x.s.O x.s.T x.c.s).kind:Int)=3))).2 H,dS,dU,EP,OL d,cT];have g:oQ x=fL x x.c.r 1>>=λ_=>fL x x.c.s 0>>=λ_=>bc (nF x.s.T x.c.r (min x.c.a 8) x.c.s (decide (((ch x.s.O x.s.T x.c.s).kind:Int)=3))).2>>=λ_=>.ok (x.t (nF x.s.T x.c.r (min x.c.a 8) x.c.s (decide (((ch x.s.O x.s.T x.c.s).kind:Int)=3))).1,b8):=by
   unfold oQ;rw[aaR (by simpa using e),c];rfl
  rw[g];clear e a c em
  (repeat' (first| (refine⟨?_,?_⟩)|intro _))<;>(simp only[okB,c8, *];first|exact bb.err ho|exact bb.set rfl rfl)
end
theorem wm: (x.t t).c=x.c/\ (x.t t).aa=x.aa/\ (x.t t).s.T=t/\ (x.t t).s.O=x.s.O/\ (x.t t).s.K=x.s.K/\ (x.t t).s.dh=x.s.dh/\ (x.t t).run=x.run:=⟨rfl,rfl,rfl,rfl,rfl,rfl,rfl⟩
theorem ON{t:bQ}: (x.o t).c=x.c/\ (x.o t).aa=x.aa/\ (x.o t).s.O=t/\ (x.o t).s.T=x.s.T/\ (x.o t).s.K=x.s.K/\ (x.o t).s.dh=x.s.dh:=⟨rfl,rfl,rfl,rfl,rfl,rfl⟩
theorem amU{b:cS}: (x.bx i b).c=x.c/\ (x.bx i b).aa=x.aa/\ (x.bx i b).s.O=x.s.O/\ (x.bx i b).s.T=x.s.T/\ (x.bx i b).s.K=x.s.K/\ (x.bx i b).s.dh=aq x.s.dh i b:=⟨rfl,rfl,rfl,rfl,rfl,rfl⟩
section
variable{x:ar}{bk:AV}{p:Nat}{H:List ae}{lo:oN}(ho:Old p H (.box (aY x bk) none))(hx:m4 x)
include ho hx
omit ho hx in
theorem bb.m5:bb x.back bk p H lo (.error e) (.panic (jc e) ⟨H.set p (.box (aY y bk) none),lo⟩):=⟨y,rfl⟩
theorem ay5: ∃f,D XA (.fn (.func Kw) [] []) [.ptr p 0] ⟨H,lo⟩=some f/\bb x.back bk p H lo (vQ x) f:=by
 refine cE Vn λN e=>?_
 have c:=λH lo=>lx (Am x.s.T hx.s.T hx.s.tr x.c.r hx.c.r H lo)
 have g:decide (root x.s.T x.c.r≠x.c.r)=decide (¬((root x.s.T x.c.r:Nat):Int)=x.c.r):=ajF.2 (by omega);have d: ∀b H lo,D XA (.fn (.func cX) [] []) [.bool b,.int .i64 12] ⟨H,lo⟩=_:=λb=>lI b 12
 have a:bm (x.t (jr x.s.T x.c.r).1).s:=hx.s.wj (hx.s.ez.cut _);have hw:=λB lo=>OM (x:=x.t (jr x.s.T x.c.r).1) (bk:=bk) ((ho.set _).app B) lo a x.c.r hx.c.r x.aa (by have:=hx.t;omega)
 simp only[F1,go_sem,simprocAttr,Vn,e,ho.g,ho.s,ho.g2,ho.s2,↓CL,M2 ho hx x.c.r hx.c.r,c,d,λB lo=>Yz (ho.app B) lo hx.s x.c.r hx.c.r,hw,wm,dS,dU,EP,jd,OL e]
 (repeat' (first| (refine⟨?_,?_⟩)|intro _))<;>(simp only[vQ,vP,mZ,wm,gH,okB,c8, *];first|exact bb.err ho|exact bb.m5|exact bb.set rfl rfl)
theorem ay6: ∃c,D XA (.fn (.func Ky) [] []) [.ptr p 0] ⟨H,lo⟩=some c/\bb x.back bk p H lo (vS x) c:=by
 refine cE Vp λN b=>?_
 have a:=hx.s.ez.cut x.c.r;have hw:=λH lo=>lx (axN x.s.O (jr x.s.T x.c.r).1 a.ok a.tr x.c.r hx.c.r x.aa (by have:=hx.t;omega) H lo)
 simp only[F1,go_sem,simprocAttr,Vp,b,ho.g,ho.s,ho.g2,ho.s2,↓CL,CS,M2 ho hx x.c.r hx.c.r,λB lo=>Yz (ho.app B) lo hx.s x.c.r hx.c.r,hw,wm,λH=>gU (CW x.s.O (jr x.s.T x.c.r).1 x.c.r x.aa).2 H,dS,dU,EP,OL b,gr]
 (repeat' (first| (refine⟨?_,?_⟩)|intro _))<;>(simp only[vS,vP,wm,gH,okB,c8, *];first|exact bb.err ho|exact bb.m5|exact bb.set rfl rfl)
theorem amV: ∃t,D XA (.fn (.func BN) [] []) [.ptr p 0] ⟨H,lo⟩=some t/\bb x.back bk p H lo (oP x) t:=by
 refine cE GW λN h=>?_
 have u:=hx.t;have s: (x.aa:Int)<8:=by omega
 have r:784+x.aa*19<=945:=by omega
 have o:=λbk=> @OD x bk x.aa hx.t
 have d:=λbk b=> @OE x bk x.aa b hx.t
 have f:=λH lo=>lx (ayu (x.s.dh x.aa) (hx.s.bx _) H lo)
 have i:=(hx.s.bx x.aa).take;have l:bm (x.bx x.aa (mX (x.s.dh x.aa)).1).s:=hx.s.Du i.1;have m:=i.2.aL;have hw:=λB lo=>OM (x:=x.bx x.aa (mX (x.s.dh x.aa)).1) (bk:=bk) ((ho.set _).app B) lo l (mX (x.s.dh x.aa)).2.1.aL m x.aa (by omega)
 generalize n:mX (x.s.dh x.aa)=g at*;simp only[o5]at f;have e:N+1+1=N+2:=rfl;by_cases j:g.2.1.aL=0
 ·have a:decide ((g.2.1.aL:Int)=0)=true:=abj (by omega);have k: (g.2.1.aL≠0/\g.2.1.share=false)=False:=aB6 λq=>q.1 j
  simp only[F1,go_sem,simprocAttr,GW,h,ho.g,ho.s,↓CL,CS,f,s,↓o,d,r,e,a,MB,λH=>gU g.2.2 H,dS,dU,EP,OL h];clear j a
  (repeat' (first| (refine⟨?_,?_⟩)|intro _))<;>(simp only[oP,n,k,ak8];simp only[gH,okB,c8, *];first|exact bb.err ho|exact bb.set rfl rfl)
 ·have a:decide ((g.2.1.aL:Int)=0)=false:=abi (by omega);cases c:g.2.1.share with
  |true=>
   rw[c]at f;have k: (g.2.1.aL≠0/\g.2.1.share=false)=False:=aB6 λq=>by rw[c]at q;cases q.2
   simp only[F1,go_sem,simprocAttr,GW,h,ho.g,ho.s,↓CL,CS,f,s,↓o,d,r,e,a,MB,λH=>gU g.2.2 H,dS,dU,EP,OL h];clear j a c
   (repeat' (first| (refine⟨?_,?_⟩)|intro _))<;>(simp only[oP,n,k,ak8];simp only[gH,okB,c8, *];first|exact bb.err ho|exact bb.set rfl rfl)
  |false=>
   rw[c]at f;have k: (g.2.1.aL≠0/\g.2.1.share=false)=True:=aCe ⟨j,c⟩;simp only[F1,go_sem,simprocAttr,GW,h,ho.g,ho.s,ho.g2,ho.s2,↓CL,CS,f,s,↓o,d,r,e,a,hw,amU,MB,λH=>gU g.2.2 H,dS,dU,EP,jd,OL h];clear j a c
   (repeat' (first| (refine⟨?_,?_⟩)|intro _))<;>(simp only[oP,n,k,ajQ];simp only[mZ,amU,gH,okB,c8, *];first|exact bb.err ho|exact bb.m5|exact bb.set rfl rfl)
end
def ay7(c:gS t.b): (me t a n).2.1<4294967296:=by
 unfold me;split
 ·simp
 ·split
  ·simp
  ·split
   ·rename_i i b;exact Hm (uh b).1 (c i).1
   grind
def amW(b:gS t.b): (ib t a n).2.1<4294967296:=by
 unfold ib;dsimp only;split
 ·simp
 ·exact ay7 b
section
variable{x:ar}{bk:AV}{p:Nat}{H:List ae}{lo:oN}(ho:Old p H (.box (aY x bk) none))(hx:m4 x)
include ho hx
theorem ay8: ∃i,D XA (.fn (.func Kq) [] []) [.ptr p 0] ⟨H,lo⟩=some i/\bb x.back bk p H lo (qq x) i:=by
 refine cE Nu λN d=>?_
 have j:=hx.t;have g:=λH lo=>lx (axs x.s.T hx.s.T hx.s.tr x.c.r (min x.c.a 65) hx.c.r H lo)
 have em: ((min x.c.a 65:Nat):Int)=min (x.c.a:Int) 65:=by omega
 have e:bm (x.t (ib x.s.T x.c.r (min x.c.a 65)).1).s:=hx.s.wj (hx.s.ez.new _ _ hx.c.r);have f: (ib x.s.T x.c.r (min x.c.a 65)).2.1<4294967296:=amW hx.s.T.b;have hw:=λB lo=>OM (x:=x.t (ib x.s.T x.c.r (min x.c.a 65)).1) (bk:=bk) ((ho.set _).app B) lo e _ f x.aa (by omega)
 have h:=λH=>gU (ib x.s.T x.c.r (min x.c.a 65)).2.2 H
 have e1:qq x=(if x.c.r≠0 then fL x x.c.r 1 else .ok ())>>=λ_=>bc (ib x.s.T x.c.r (min x.c.a 65)).2.2>>=λ_=>(if x.c.r=0 then mZ (x.t (ib x.s.T x.c.r (min x.c.a 65)).1) (ib x.s.T x.c.r (min x.c.a 65)).2.1 x.aa else .ok (x.t (ib x.s.T x.c.r (min x.c.a 65)).1))>>=λy=>.ok (y,{b8 with w:=(ib x.s.T x.c.r (min x.c.a 65)).2.1}):=by
  unfold qq;by_cases q:x.c.r=0
  ·rw[aaH (by simpa using q),aaH (by simpa using q)];simp only[aaR q];rfl
  ·rw[aaR (by simpa using q),aaR (by simpa using q)];simp only[aaH q];rfl
 simp only[Ap,em]at g;generalize ib x.s.T x.c.r (min x.c.a 65)=n at*;rw[e1];by_cases b:x.c.r=0
 ·have a:decide ((x.c.r:Int)=0)=true:=abj (by omega);have c: (x.c.r≠0)=False:=aB6 λq=>q b
  have e3: (x.c.r=0)=True:=aCe b;simp only[c,e3,ak8,ajQ];simp(disch:=omega) only[F1,go_sem,simprocAttr,Nu,d,ho.g,ho.s,ho.g2,ho.s2,↓CL,CS,g,a,h,hw,wm,cT,dS,dU,EP,OL d];clear b a c e3
  (repeat' (first| (refine⟨?_,?_⟩)|intro _))<;>(simp only[mZ,wm,gH,okB,c8, *];first|exact bb.err ho|exact bb.m5|exact bb.set rfl rfl)
 ·have a:decide ((x.c.r:Int)=0)=false:=abi (by omega);have c: (x.c.r≠0)=True:=aCe b;have e3: (x.c.r=0)=False:=aB6 b;simp only[c,e3,ak8,ajQ];simp(disch:=omega) only[F1,go_sem,simprocAttr,Nu,d,ho.g,ho.s,ho.g2,↓CL,CS,M1 ho hx x.c.r hx.c.r,g,a,h,wm,cT,dS,dU,EP,OL d];clear b a c e3
  (repeat' (first| (refine⟨?_,?_⟩)|intro _))<;>(simp only[okB,c8, *];first|exact bb.err ho|exact bb.m5|exact bb.set rfl rfl)
theorem ay9: ∃I,D XA (.fn (.func KB) [] []) [.ptr p 0] ⟨H,lo⟩=some I/\bb x.back bk p H lo (qt x) I:=by
 refine cE zT λN h=>?_
 have M:=hx.t;have l:=λB lo=>OJ (ho.app B) lo x.c.a
 by_cases G:x.c.a<8
 ·have y: ∀b H lo,D XA (.fn (.func cX) [] []) [.bool b,.int .i64 2] ⟨H,lo⟩=_:=λb=>lI b 2
  have v: ∀b H lo,D XA (.fn (.func cX) [] []) [.bool b,.int .i64 4] ⟨H,lo⟩=_:=λb=>lI b 4
  have u: ∀b H lo,D XA (.fn (.func cX) [] []) [.bool b,.int .i64 5] ⟨H,lo⟩=_:=λb=>lI b 5
  have L:decide (x.c.b<=1)=decide ((x.c.b:Int)<=1):=ajF.2 (by omega);have s:decide (x.c.b=1)=decide ((x.c.b:Int)=1):=ajF.2 (by omega);have d:=λH lo=>lx (eF x.s.T.b x.c.r hx.c.r H lo)
  have C:ax x.s.T.b x.c.r=x.s.T.ax x.c.r:=rfl;rw[C]at d;have o:=λH lo=>ly (ax1 x.s.K hx.s.K ⟨x.c.r,x.aa % 256,x.c.a % 256,decide (x.c.b=1),x.c.s⟩ ⟨hx.c.r,als _ (by omega),als _ (by omega),hx.c.s⟩ H lo)
  have F:x.aa % 256=x.aa:=ap9 (by omega);have E:x.c.a % 256=x.c.a:=ap9 (by omega);simp only[nR,F,E,s]at o;have t:=λH=>gU (lC x.s.K ⟨x.c.r,x.aa,x.c.a,decide ((x.c.b:Int)=1),x.c.s⟩).2.2 H
  have k:=λH lo=>lx (Dg x.s.O hx.s.O x.s.T hx.s.T hx.s.tr x.c.r hx.c.r H lo)
  have A:=hx.s.O.of x.s.T x.c.r;have j:=λH lo=>lx (Dh x.s.K hx.s.K x.c.s hx.c.s H lo)
  have z:=hx.s.K.get x.c.s;have e1:qt x=mi x x.c.a>>=λ_=>ask (decide ((x.c.b:Int)<=1)) 2>>=λ_=>ask (x.s.T.ax x.c.r) 4>>=λ_=>(if x.c.s=0 then ask (decide ((ch x.s.O x.s.T x.c.r).kind=1)&&decide ((ch x.s.O x.s.T x.c.r).aa=x.aa)) 5 else bc (ck x.s.K x.c.s).2>>=λ_=>ask (decide ((ck x.s.K x.c.s).1.to=x.aa)&&decide ((ck x.s.K x.c.s).1.aL=x.c.r)) 5)>>=λ_=>
    bc (lC x.s.K ⟨x.c.r,x.aa,x.c.a,decide ((x.c.b:Int)=1),x.c.s⟩).2.2>>=λ_=>.ok (x.k (lC x.s.K ⟨x.c.r,x.aa,x.c.a,decide ((x.c.b:Int)=1),x.c.s⟩).1,{b8 with w:=(lC x.s.K ⟨x.c.r,x.aa,x.c.a,decide ((x.c.b:Int)=1),x.c.s⟩).2.1}):=by
   unfold qt;rw[L,s,F,E];by_cases q:x.c.s=0
   ·simp only[aaR q];rfl
   ·simp only[aaH q];cases mi x x.c.a with
    |error e=>rfl
    |ok _=>
     simp only[okB];cases ask (decide ((x.c.b:Int)<=1)) 2 with
     |error e=>rfl
     |ok _=>
      simp only[okB];cases ask (x.s.T.ax x.c.r) 4 with
      |error e=>rfl
      |ok _=>
       simp only[okB];cases bc (ck x.s.K x.c.s).2<;>rfl
  rw[e1];generalize lC x.s.K ⟨x.c.r,x.aa,x.c.a,decide ((x.c.b:Int)=1),x.c.s⟩=g at*;generalize ch x.s.O x.s.T x.c.r=w at*;generalize ck x.s.K x.c.s=tg at*;simp only[jN]at k;by_cases m:x.c.s=0
  ·have c:decide ((x.c.s:Int)=0)=true:=abj (by omega);have e3: (x.c.s=0)=True:=aCe m;simp only[e3,ajQ];by_cases f:w.kind=1
   ·have a:decide ((w.kind:Int)=1)=true:=abj (by omega);have r:decide (w.aa=x.aa)=decide ((w.aa:Int)=x.aa):=ajF.2 (by omega);have J:=A.aa;simp only[f,r,decide_true,aoC];simp(disch:=omega) only[F1,go_sem,simprocAttr,zT,h,ho.g,ho.s,↓CL,CS,l,y,d,v,c,k,a,u,o,t,qB,dS,dU,EP,jd,OL h];clear m c e3 f a r
    (repeat' (first| (refine⟨?_,?_⟩)|intro _))<;>(simp only[okB,c8, *];first|exact bb.err ho|exact bb.m5|exact bb.set rfl rfl)
   ·have a:decide ((w.kind:Int)=1)=false:=abi (by omega);have i:decide (w.kind=1)=false:=abi f;simp only[i,ajT];simp(disch:=omega) only[F1,go_sem,simprocAttr,zT,h,ho.g,ho.s,↓CL,CS,l,y,d,v,c,k,a,u,o,t,qB,dS,dU,EP,jd,OL h];clear m c e3 f a i
    (repeat' (first| (refine⟨?_,?_⟩)|intro _))<;>(simp only[okB,c8, *];first|exact bb.err ho|exact bb.m5|exact bb.set rfl rfl)
  ·have c:decide ((x.c.s:Int)=0)=false:=abi (by omega);have e3: (x.c.s=0)=False:=aB6 m;simp only[e3,ak8];simp only[fJ]at j;have K:=z.to;have n:=λH=>gU tg.2 H
   by_cases f:tg.1.to=x.aa
   ·have a:decide ((tg.1.to:Int)=x.aa)=true:=abj (by omega);have r:decide (tg.1.aL=x.c.r)=decide ((tg.1.aL:Int)=x.c.r):=ajF.2 (by omega);have i:decide (tg.1.to=x.aa)=true:=abj f;simp only[i,r,aoC];simp(disch:=omega) only[F1,go_sem,simprocAttr,zT,h,ho.g,ho.s,↓CL,CS,l,y,d,v,c,j,n,a,u,o,t,qB,dS,dU,EP,jd,OL h];clear m c e3 f a i r
    (repeat' (first| (refine⟨?_,?_⟩)|intro _))<;>(simp only[okB,c8, *];first|exact bb.err ho|exact bb.m5|exact bb.set rfl rfl)
   ·have a:decide ((tg.1.to:Int)=x.aa)=false:=abi (by omega);have i:decide (tg.1.to=x.aa)=false:=abi f;simp only[i,ajT];simp(disch:=omega) only[F1,go_sem,simprocAttr,zT,h,ho.g,ho.s,↓CL,CS,l,y,d,v,c,j,n,a,u,o,t,qB,dS,dU,EP,jd,OL h];clear m c e3 f a i
    (repeat' (first| (refine⟨?_,?_⟩)|intro _))<;>(simp only[okB,c8, *];first|exact bb.err ho|exact bb.m5|exact bb.set rfl rfl)
 ·rw[ya G]at l;simp(disch:=omega) only[F1,go_sem,simprocAttr,zT,h,ho.g,↓CL,l,dZ,EP];simp only[qt,c8,ya G];exact bb.err ho
end
section
variable{x:ar}{bk:AV}{p:Nat}{H:List ae}{lo:oN}(ho:Old p H (.box (aY x bk) none))(hx:m4 x)
include ho hx
theorem aza: ∃E,D XA (.fn (.func KD) [] []) [.ptr p 0] ⟨H,lo⟩=some E/\bb x.back bk p H lo (nH x) E:=by
 refine cE zU λN f=>?_
 have G:=hx.t;have l:=λB lo=>OJ (ho.app B) lo x.c.a
 by_cases u:x.c.a<8
 ·have w: (x.c.a:Int)<8:=by omega
  have v:784+x.c.a*19<=945:=by omega
  have t:=λ (y:ar) bk=> @OD y bk x.c.a u
  have d:=λ (y:ar) bk b=> @OE y bk x.c.a b u
  have z: ∀b H lo,D XA (.fn (.func cX) [] []) [.bool b,.int .i64 2] ⟨H,lo⟩=_:=λb=>lI b 2
  have i:decide (x.c.b<=1)=decide ((x.c.b:Int)<=1):=ajF.2 (by omega);have g:x.aa % 256=x.aa:=ap9 (by omega);have F:=hx.c.v;by_cases h:x.c.r=0
  ·have a:decide ((x.c.r:Int)=0)=true:=abj (by omega);have j: (x.c.r≠0)=False:=aB6 λq=>q h
   have es: (decide (x.c.r≠0)&&decide (x.c.b=1))=false:=by rw[abi (by simpa using h)];rfl
   have e:=λH lo=>lx (Yn (x.s.dh x.c.a) (hx.s.bx _) ⟨x.aa,x.c.v,x.c.r,false⟩ H lo)
   simp only[o5]at e;have m:=λH=>gU (oO (x.s.dh x.c.a) ⟨x.aa,x.c.v,x.c.r,false⟩).2 H
   simp(disch:=omega) only[F1,go_sem,simprocAttr,zU,f,ho.g,ho.s,↓CL,CS,l,z,a,w,v,↓t,d,e,m,MB,dS,dU,EP,OL f];simp only[nH,es,ah2,ak8,i,g];simp only[j,ak8];clear h a j es i g
   (repeat' (first| (refine⟨?_,?_⟩)|intro _))<;>(simp only[gH,okB,c8, *];first|exact bb.err ho|exact bb.m5|exact bb.set rfl rfl)
  ·have a:decide ((x.c.r:Int)=0)=false:=abi (by omega);have j: (x.c.r≠0)=True:=aCe h;by_cases s:x.c.b=1
   ·have c:decide ((x.c.b:Int)=1)=true:=abj (by omega);have es: (decide (x.c.r≠0)&&decide (x.c.b=1))=true:=by rw[abj (by simpa using h),abj s];rfl
    have r:=λH lo=>lx (alP x.s.O hx.s.O x.s.T hx.s.T hx.s.tr x.c.r hx.c.r x.c.a (by omega) H lo)
    have e:=λH lo=>lx (Yn (x.s.dh x.c.a) (hx.s.bx _) ⟨x.aa,x.c.v,x.c.r,true⟩ H lo)
    simp only[o5]at e;have m:=λH=>gU (oO (x.s.dh x.c.a) ⟨x.aa,x.c.v,x.c.r,true⟩).2 H
    by_cases k: (dD x.s.O x.s.T x.c.r x.c.a true).2.2=0
    ·have k':decide (((dD x.s.O x.s.T x.c.r x.c.a true).2.2:Int)=0)=true:=abj (by omega);simp(disch:=omega) only[F1,go_sem,simprocAttr,zU,f,ho.g,ho.s,ho.g2,ho.s2,↓CL,CS,l,z,a,c,λB lo=>HH (ho.app B) lo hx.s hx.t x.c.r hx.c.r,r,k',w,v,↓t,d,e,m,MB,gr,ON,dS,dU,EP,OL f];simp only[nH,es,ajQ,i,g,C2];have n: ((dD x.s.O x.s.T x.c.r x.c.a true).2.2=0)=True:=aCe k;simp only[n,ajQ];clear h a j es i g k k' n s c
     (repeat' (first| (refine⟨?_,?_⟩)|intro _))<;>(simp only[ON,gH,okB,c8, *];first|exact bb.err ho|exact bb.m5|exact bb.set rfl rfl)
    ·have k':decide (((dD x.s.O x.s.T x.c.r x.c.a true).2.2:Int)=0)=false:=abi (by omega);simp(disch:=omega) only[F1,go_sem,simprocAttr,zU,f,ho.g,ho.s,↓CL,CS,l,z,a,c,λB lo=>HH (ho.app B) lo hx.s hx.t x.c.r hx.c.r,r,k',w,v,↓t,d,e,m,MB,gr,dS,dU,EP,OL f];simp only[nH,es,ajQ,i,g,C2];have n: ((dD x.s.O x.s.T x.c.r x.c.a true).2.2=0)=False:=aB6 k;simp only[n,ak8];clear h a j es i g k k' n s c
     (repeat' (first| (refine⟨?_,?_⟩)|intro _))<;>(simp only[gH,okB,c8, *];first|exact bb.err ho|exact bb.m5|exact bb.set rfl rfl)
   ·have c:decide ((x.c.b:Int)=1)=false:=abi (by omega);have es: (decide (x.c.r≠0)&&decide (x.c.b=1))=false:=by rw[abi s,aud]
    have o:=hx.s.ez.cut x.c.r;have A:=λH lo=>lx (axO x.s.O (jr x.s.T x.c.r).1 o.ok o.tr x.c.r hx.c.r H lo)
    have C:=λH=>gU (Aa x.s.O (jr x.s.T x.c.r).1 x.c.r).2 H
    have e:=λH lo=>lx (Yn (x.s.dh x.c.a) (hx.s.bx _) ⟨x.aa,x.c.v,x.c.r,false⟩ H lo)
    simp only[o5]at e;have m:=λH=>gU (oO (x.s.dh x.c.a) ⟨x.aa,x.c.v,x.c.r,false⟩).2 H
    simp(disch:=omega) only[F1,go_sem,simprocAttr,zU,f,ho.g,ho.s,ho.g2,ho.s2,↓CL,CS,l,z,a,c,M2 ho hx x.c.r hx.c.r,λB lo=>Yz (ho.app B) lo hx.s x.c.r hx.c.r,A,C,w,v,↓t,d,e,m,MB,gr,ON,wm,dS,dU,EP,OL f];simp only[nH,es,ah2,ak8,i,g];simp only[j,ajQ];clear h a j es i g s c
    (repeat' (first| (refine⟨?_,?_⟩)|intro _))<;>(simp only[vP,wm,ON,gH,okB,c8, *];first|exact bb.err ho|exact bb.m5|exact bb.set rfl rfl)
 ·rw[ya u]at l;simp(disch:=omega) only[F1,go_sem,simprocAttr,zU,f,ho.g,↓CL,l,dZ,EP];simp only[nH,c8,ya u];exact bb.err ho
end
theorem YB{r:dk}{l:List aE}:aH (bW r) 2 [eA l,.int .i64 n]=bW {r with runs:=l,len:=n}:=rfl
def amX(l:List aE)(r:aE):aM (l++[r])=aM l+r.2:=by unfold aM;simp
def Dv{l:List aE}{s:Nat}(h:gT l n s a=some k):k+s<=aM l*32:=by
 unfold gT at h
 grind
section
variable{x:ar}{bk:AV}{p:Nat}{H:List ae}{lo:oN}(ho:Old p H (.box (aY x bk) none))(hx:m4 x)
include ho hx
theorem azb: ∃cr,D XA (.fn (.func Kr) [] []) [.ptr p 0] ⟨H,lo⟩=some cr/\bb x.back bk p H lo (jO x) cr:=by
 refine cE zS λN G=>?_
 have ht:=hx.t;have o: ((min x.c.a 129:Nat):Int)=min (x.c.a:Int) 129:=by omega
 have m: ((min x.c.b 9:Nat):Int)=min (x.c.b:Int) 9:=by omega
 have u:min x.c.a 129<2147483648:=by omega
 have F:min x.c.b 9<2147483648:=by omega
 have d:=λH lo=>lx (axl (min x.c.a 129) (min x.c.b 9) u F H lo)
 have T: ∀b H lo,D XA (.fn (.func cX) [] []) [.bool b,.int .i64 2] ⟨H,lo⟩=_:=λb=>lI b 2
 have W: ∀b H lo,D XA (.fn (.func cX) [] []) [.bool b,.int .i64 6] ⟨H,lo⟩=_:=λb=>lI b 6
 have E:=M1 ho hx x.c.r hx.c.r;have z:=λB lo=>OK (ho.app B) lo hx.s x.c.r hx.c.r
 have I:=hx.s.T.get x.c.r;have a:=I.rb;have rj:=I.len;have J: ∀l:List aE,(eA l).refs=0:=λl=>cJ (nv l) (bz (λ_=>rfl) l)
 have HI:=I.aM;cases C:qs (min x.c.a 129) (min x.c.b 9)with
 |none=>
  rw[C]at d;simp only[o,m]at d;simp(disch:=omega) only[F1,go_sem,simprocAttr,zS,G,ho.g,↓CL,d,T,ask,dZ,EP];simp only[jO,C,c8];exact bb.err ho
 |some n=>
  have hn5:n<=5:=by
   unfold qs at C;split at C
   ·cases C;omega
   ·cases C
  have f:=λH lo=>lx (alE (eA (aJ x.s.T x.c.r).1.runs) (aJ x.s.T x.c.r).1.len (aJ x.s.T x.c.r).1.runs (by omega) (nv _) a.1 (min x.c.a 129) (min x.c.b 9) u F H lo)
  have i:=λH lo=>lx (alF (eA (aJ x.s.T x.c.r).1.runs) (aJ x.s.T x.c.r).1.len (aJ x.s.T x.c.r).1.runs (by omega) (nv _) a.1 (min x.c.a 129) (min x.c.b 9) u F H lo)
  rw[C]at d;cases O:gT (aJ x.s.T x.c.r).1.runs (aJ x.s.T x.c.r).1.len (min x.c.a 129) (min x.c.b 9)with
  |some k=>
   have hk:=Dv O;have V:v9 (aJ x.s.T x.c.r).1.runs (aJ x.s.T x.c.r).1.len (min x.c.a 129) (min x.c.b 9)=k+min x.c.a 129:=by unfold v9;rw[O]
   have e:=λB lo=>YA (ho.app B) lo hx.s x.c.r hx.c.r {(aJ x.s.T x.c.r).1 with len:=k+min x.c.a 129} a.1 (by have:=a.2;show(aJ x.s.T x.c.r).1.runs.length<=65;omega) (by show k+min x.c.a 129<4294967296;omega)
   rw[V,O]at i;simp only[O,xV]at f;generalize hsv:min x.c.a 129=sz at*;generalize hav:min x.c.b 9=al at*;have U:aH (bW (aJ x.s.T x.c.r).1) 2 [eA (aJ x.s.T x.c.r).1.runs,.int .i64 ((k:Int)+sz)]=bW {(aJ x.s.T x.c.r).1 with len:=k+sz}:=by
    rw[<-aqo];exact YB
   simp(disch:=omega) only[F1,go_sem,simprocAttr,zS,G,ho.g,ho.s,↓CL,d,T,E,z,f,i,e,U,J,<-o,<-m,ky,dS,dU,EP,jd,OL G];have L:=Au (x:=x) (h:=x.c.r) (w:=1)
   (repeat' (first| (refine⟨?_,?_⟩)|intro _))<;>first
     | (simp only[jO,nG,gH,okB,c8, *];first|exact bb.err ho|exact bb.set rfl rfl)
     | (exfalso;simp_all[ask])
  |none=>
   have A:=λH lo=>lx (Oo (eA (aJ x.s.T x.c.r).1.runs) (aJ x.s.T x.c.r).1.len (aJ x.s.T x.c.r).1.runs (nv _) a.1 H lo)
   have M:=λH lo=>lx (axp (eA (aJ x.s.T x.c.r).1.runs) (aJ x.s.T x.c.r).1.len (aJ x.s.T x.c.r).1.runs (nv _) a.1 x.run H lo)
   have g:RB ((aJ x.s.T x.c.r).1.runs++[x.run]):=⟨by have:=a.2;simp;omega,λy hy=>by
    rcases aha.1 hy with q|q
    ·exact a.1.2 y q
    ·rw[ahc.1 q];exact hx.run⟩
   have S: ((aJ x.s.T x.c.r).1.runs++[x.run]).length<=65:=by have:=a.2;simp;omega
   have ER:=amX (aJ x.s.T x.c.r).1.runs x.run;have j:aM (aJ x.s.T x.c.r).1.runs*32<4294967296:=by omega
   have R:=λH lo=>lx (alD (eA ((aJ x.s.T x.c.r).1.runs++[x.run])) (aM (aJ x.s.T x.c.r).1.runs*32) ((aJ x.s.T x.c.r).1.runs++[x.run]) j (nv _) g S H lo)
   have i:=λH lo=>lx (alF (eA ((aJ x.s.T x.c.r).1.runs++[x.run])) (aM (aJ x.s.T x.c.r).1.runs*32) ((aJ x.s.T x.c.r).1.runs++[x.run]) j (nv _) g (min x.c.a 129) (min x.c.b 9) u F H lo)
   have K:decide (aM (aJ x.s.T x.c.r).1.runs+n<=(aJ x.s.T x.c.r).1.dC)=decide (((aM (aJ x.s.T x.c.r).1.runs:Nat):Int)+n<=(aJ x.s.T x.c.r).1.dC):=ajF.2 (by omega);have t:IntKind.i64.wrap ((aM (aJ x.s.T x.c.r).1.runs:Nat)+(n:Int))=(aM (aJ x.s.T x.c.r).1.runs:Nat)+(n:Int):=wrap_i64 (by omega) (by omega);simp only[O,xV]at f;cases has:x.asks with
   |true=>
    simp(disch:=omega) only[F1,go_sem,simprocAttr,zS,G,ho.g,ho.s,ho.g2,↓CL,CS,d,T,W,E,z,f,A,t,has,<-o,<-m,ky,dS,dU,EP,jd,OL G];have L:=Au (x:=x) (h:=x.c.r) (w:=1)
    (repeat' (first| (refine⟨?_,?_⟩)|intro _))<;>first
      | (simp only[jO,gH,okB,c8,ajQ, *];first|exact bb.err ho|exact bb.set rfl rfl)
      | (exfalso;simp_all[ask])
   |false=>
    by_cases Z:x.run.2=n
    ·have r:decide ((x.run.2:Int)=n)=true:=abj (by omega);have Q:v9 ((aJ x.s.T x.c.r).1.runs++[x.run]) (aM (aJ x.s.T x.c.r).1.runs*32) (min x.c.a 129) (min x.c.b 9)<4294967296:=by
      unfold v9;split
      ·rename_i q;have:=Dv q;omega
      ·omega
     have P:IntKind.u64.wrap (((gT ((aJ x.s.T x.c.r).1.runs++[x.run]) (aM (aJ x.s.T x.c.r).1.runs*32) (min x.c.a 129) (min x.c.b 9)).getD 0:Nat):Int)=((gT ((aJ x.s.T x.c.r).1.runs++[x.run]) (aM (aJ x.s.T x.c.r).1.runs*32) (min x.c.a 129) (min x.c.b 9)).getD 0:Nat):=by
      cases q:gT ((aJ x.s.T x.c.r).1.runs++[x.run]) (aM (aJ x.s.T x.c.r).1.runs*32) (min x.c.a 129) (min x.c.b 9)with
      |none=>rfl
      |some k=>have:=Dv q;exact wrap_u64 (by simp) (by simp;omega)
     have e1:jO x=fL x x.c.r 1>>=λ_=>bc (aJ x.s.T x.c.r).2>>=λ_=>ask (decide (((aM (aJ x.s.T x.c.r).1.runs:Nat):Int)+n<=(aJ x.s.T x.c.r).1.dC)) 6>>=λ_=>ask (qn ((aJ x.s.T x.c.r).1.runs++[x.run]) (aM (aJ x.s.T x.c.r).1.runs*32)) 2>>=λ_=>
       nG {s:=x.s,aa:=x.aa,c:=x.c,run:=x.run,mY:=n,asks:=false,back:=x.back} x.c.r {(aJ x.s.T x.c.r).1 with runs:=(aJ x.s.T x.c.r).1.runs++[x.run],len:=v9 ((aJ x.s.T x.c.r).1.runs++[x.run]) (aM (aJ x.s.T x.c.r).1.runs*32) (min x.c.a 129) (min x.c.b 9)}>>=λy=>
       .ok (y,{b8 with v:=(gT ((aJ x.s.T x.c.r).1.runs++[x.run]) (aM (aJ x.s.T x.c.r).1.runs*32) (min x.c.a 129) (min x.c.b 9)).getD 0}):=by
      unfold jO;simp only[C,O,K,has,Z,decide_true,aoC,ah2,ak8,gH,okB];rfl
     have e:=λB lo=>YA (x:={s:=x.s,aa:=x.aa,c:=x.c,run:=x.run,mY:=n,asks:=false,back:=x.back}) (bk:=bk) ((ho.set _).app B) lo hx.s x.c.r hx.c.r
      {(aJ x.s.T x.c.r).1 with runs:=(aJ x.s.T x.c.r).1.runs++[x.run],len:=v9 ((aJ x.s.T x.c.r).1.runs++[x.run]) (aM (aJ x.s.T x.c.r).1.runs*32) (min x.c.a 129) (min x.c.b 9)} g S Q
     simp(disch:=omega) only[F1,go_sem,simprocAttr,zS,G,ho.g,ho.s,ho.g2,ho.s2,↓CL,CS,d,T,W,E,z,f,A,M,t,has,J,r,R,i,e,P,YB,<-o,<-m,ky,dS,dU,EP,jd,OL G];have L:=Au (x:=x) (h:=x.c.r) (w:=1);rw[e1];clear e Q P r e1 R i M A K t j
     (repeat' (first| (refine⟨?_,?_⟩)|intro _))<;>first
       | (simp only[nG,gH,okB,c8, *];first|exact bb.err ho|exact bb.m5|exact bb.set rfl rfl)
       | (exfalso;simp_all[ask])
    ·have r:decide ((x.run.2:Int)=n)=false:=abi (by omega);have e1:jO x=fL x x.c.r 1>>=λ_=>bc (aJ x.s.T x.c.r).2>>=λ_=>ask (decide (((aM (aJ x.s.T x.c.r).1.runs:Nat):Int)+n<=(aJ x.s.T x.c.r).1.dC)) 6>>=λ_=>.error 2:=by
      unfold jO;simp only[C,O,K,has,abi Z,ajT,ah2,ak8,gH,okB];rfl
     have Y: ∀H lo,D XA (.fn (.func cX) [] []) [.bool false,.int .i64 2] ⟨H,lo⟩=_:=λH lo=>lx (Ar 2 H lo)
     have X: ∀H lo,D XA (.fn (.func cX) [] []) [.bool true,.int .i64 2] ⟨H,lo⟩=_:=λH lo=>lx (HE 2 H lo)
     simp(disch:=omega) only[F1,go_sem,simprocAttr,zS,G,ho.g,ho.s,ho.g2,↓CL,CS,d,Y,X,W,E,z,f,A,M,t,has,J,r,YB,<-o,<-m,ky,dS,dU,EP,jd,OL G];have L:=Au (x:=x) (h:=x.c.r) (w:=1);rw[e1]
     (repeat' (first| (refine⟨?_,?_⟩)|intro _))<;>first
       | (simp only[okB,c8, *];first|exact bb.err ho|exact bb.m5|exact bb.set rfl rfl)
       | (exfalso;simp_all[ask])
end
structure bT(p:Nat)(H H':List ae):Prop where
 len:H.length<=H'.length
 low: ∀i,i<p->H'[i]?=H[i]?
 box: ∀i o,i≠p->(∀a d,o≠ .row a 2 fu d)->H[i]?=some o->H'[i]?=some o
theorem bT.refl(p:Nat)(H:List ae):bT p H H:=⟨ahT _,λ_ _=>rfl,λ_ _ _ _ h=>h⟩
theorem bT.trans{A B C:List ae}(h:bT p A B)(g:bT p B C):bT p A C:=
 ⟨ajU h.len g.len,λi a=>(g.low i a).trans (h.low i a),λi o a ho b=>g.box i o a ho (h.box i o a ho b)⟩
def bT.app(p:Nat)(H L:List ae)(a:p<H.length):bT p H (H++L):=⟨by simp,λi b=>aaF (by omega),λi o _ _ h=>bf h⟩
theorem bT.set(p:Nat)(H:List ae)(o:ae):bT p H (H.set p o):=⟨by simp,λi a=>aaD (by omega),λi w a _ h=>by grind⟩
theorem bT.take{N:Nat}{A B:List ae}(h:bT p A B)(d:A.length=N)(c:p<N):bT p A (B.take N):=⟨by rw[ajM];have:=h.len;omega,λi a=>by rw[ajO (by omega)];exact h.low i a,λi o a ho b=>by
 have:=(aaG.1 b).1;rw[ajO (by omega)];exact h.box i o a ho b⟩
def bT.own{N:Nat}{A B:List ae}{ty:TypeId}(h:bT p A B)(ho:aN N A v sz ty af)(k:p<N)(j:sz≠2):aN N B v sz ty af:=by
 obtain⟨i,b⟩:=ho;refine⟨i,?_⟩;rcases b with b| ⟨id,aj,g,f,c⟩
 ·grind
 ·exact .inr ⟨id,aj,g,f,h.box id _ (by omega) (λa d e=>by grind) c⟩
def amY{E:AS}(l:List aE):Den.elems E 2 (eA l)=some (l.map ay):=by
 unfold eA;split
 ·rename_i h;rw[aDS.1 h];rfl
 ·exact aur (by simp[W8])
structure At(p:Nat)(x:ar)(bk:AV)(H:List ae):Prop where
 box:H[p]?=some (.box (aY x bk) none)
 own:aN (p+1) H bk 2 fu (x.back.map ay)
def wo(Q:Prop)(p:Nat)(H H':List ae)(lo ak:oN):Prop:=(ak=lo/\H'.length=H.length/\Q)\/ak=cI lo p
def amZ(l:lN): ∀x:ar,(l.foldl iT x).s.T=x.s.T:=by
 induction l with
 |nil=>simp
 |cons h l a=>intro x;exact a _
def YC(l:lN): ∀x:ar,bm x.s->bm (l.foldl iT x).s:=by
 induction l with
 |nil=>simp
 |cons h l b=>intro x a;exact b _ (a.Dt (a.tok.clear h))
def am0(l:lN): ∀x:ar,bR x.s.T->(l.foldl iT x).back.length<=x.back.length+64*l.length:=by
 induction l with
 |nil=>simp
 |cons h l b=>
  intro x a;have e:=b (iT x h) a;have d: (iT x h).back.length=x.back.length+(aJ x.s.T h).1.runs.length:=by simp[iT]
  have c:=(a.get h).rb.2
  grind
def azc{x:ar}{l:lN}{k:Nat}(h:k<l.length): (l.take (k+1)).foldl iT x=iT ((l.take k).foldl iT x) (l.getD k default):=by grind [List.take_add_one,List.getElem?_eq_getElem,getD_eq]
def wq{H:List ae}(a:p<n):finish n lo v ⟨H,some p⟩=(v,⟨H,cI lo p⟩):=by
 unfold finish;rw[aaH (by grind)];rfl
def YD{H:List ae}(K:At p x bk H)(c:bm x.s)(h:Nat)(hh:h<4294967296)(hB:x.back.length+64*(under x.s.T h).length<=4294967296)(lo:oN):
  ∃a H' ak,D XA (.fn (.func w4) [] []) [.ptr p 0,.int .u32 h] ⟨H,lo⟩=some (.ret (.au []) ⟨H',ak⟩)/\At p (gz x h) a H'/\bT p H H'/\wo (a=bk\/a= .ai) p H H' lo ak:=by
 suffices c: ∃S,D XA (.fn (.func w4) [] []) [.ptr p 0,.int .u32 h] ⟨H,lo⟩=some S/\ (λS=> ∃a H' ak,S=aS.ret (.au []) ⟨H',ak⟩/\At p (gz x h) a H'/\bT p H H'/\wo (a=bk\/a= .ai) p H H' lo ak) S by
  obtain⟨S,h1,a,H',ak,rfl,h2⟩:=c;exact⟨a,H',ak,h1,h2⟩
 refine cE Vy λN X=>?_
 have f:p<N:=by rw[<-X];exact(aaG.1 K.box).1
 obtain⟨v,J,HJ,V,u2,u3⟩:=Ol x.s.T c.T c.tr h hh N H X none;have V:=ly V;have hul:=Hx c.tr h;have b:=(lG u2 HJ).bD;have hbp:=K.box;obtain⟨Y,m⟩: ∃Y,Y=H++J:=⟨_,rfl⟩;rw[<-m]at V u2 b;have w0:Y[p]?=some (.box (aY x bk) none):=by rw[m];exact bf K.box
 have pP:bT p H Y:=by rw[m];exact bT.app p H J (by omega)
 simp only[↓R1,Zz,go_sem,simprocAttr,Vy,hbp,↓CL,V,b];refine gX (under x.s.T h).length (λk e U ak=> ∃a,U[p]?=some (.box (aY (((under x.s.T h).take k).foldl iT x) a) none)/\aN (p+1) U a 2 fu ((((under x.s.T h).take k).foldl iT x).back.map ay)/\bT p H U/\aN N U v 1 cg ((under x.s.T h).map hC)/\
  ((dQ N ak/\aN (p+1) (U.take N) a 2 fu ((((under x.s.T h).take k).foldl iT x).back.map ay)/\ (a=bk\/a= .ai))\/ak=some p)/\e 0= .ptr p 0/\e 1= .int .u32 h/\e 15=v/\e 16= .int .i64 (under x.s.T h).length/\e 17= .int .i64 k) 0 (by omega) ?_ ?_
 ·simp only[↓arK,Zz,go_sem,simprocAttr];refine⟨bk,w0,by rw[m];exact K.own.ext,pP,u2,.inl ⟨dQ.of u3,?_,.inl rfl⟩⟩;rw[m,aqm X];exact K.own
 rintro k hk e T u ⟨a,E,p1,F,p3,p4,e0,e1,Q,P,O⟩ n hn;have jx:=YC ((under x.s.T h).take k) x c;have d:=amZ ((under x.s.T h).take k) x;have y3:=am0 ((under x.s.T h).take k) x c.T;rw[ajM]at y3;have Rj:= @azc x (under x.s.T h) k;generalize hy: ((under x.s.T h).take k).foldl iT x=y at*;have A:Old p T (.box (aY y a) none):=⟨E⟩;simp only[bO,↓R1,Zz,go_sem,simprocAttr,aji,E,↓CL,e0,e1,Q,P,O];refine⟨λhc=>?_,λhc=>?_⟩
 ·have B:k< (under x.s.T h).length:=by omega
  have hr:=lG p3 u;have hg:=λH lo=>lx (vZ y.s.T (by rw[d];exact c.T) ((under x.s.T h).getD k default) (gn (Om c.T (eV B))) H lo)
  simp(disch:=omega) only[↓R1,↓MP,Zz,ajz,go_sem,simprocAttr,hr.bX,hr.cp,↓pH,hn,E,A.g,↓CL,hg,nN,amY,e0];have rj:=(c.T.get ((under x.s.T h).getD k default)).rb.2;rw[d];generalize hR: (aJ x.s.T ((under x.s.T h).getD k default)).1=R at*;refine⟨by omega,?_⟩;obtain⟨v',Z,q1,q2,q3,q4,q5⟩:=aN.Ro (bytes:=16) (ys:=R.runs.map ay) (lo:=u) (aN.ext (L:=[ae.box (bW R) none]) p1) (by simp[hn];have:=F.len;omega) (by omega) (by intro el sa;obtain⟨r,_,rfl⟩:=ais.1 sa;rfl) (bz (λ_=>rfl) _) (by
   unfold room;simp only[ahX];omega)
  have z:Z[p]?=some (.box (aY y a) none):=by rw[q4 p (by omega)];exact A.g _
  have s:Old p Z (.box (aY y a) none):=⟨z⟩;have pF:=λH lo=>ly (ax3 y.s.K jx.K ((under x.s.T h).getD k default) H lo)
  have hvt:v'.cn=false/\v'.cells=[v']:=by
   rcases q2.2 with⟨rfl,_⟩| ⟨_,_,_,rfl,_⟩<;>exact⟨rfl,rfl⟩
  rw[q1];simp(disch:=omega) only[↓arK,↓R1,Zz,ajA,go_sem,simprocAttr,hvt,z,s.g1,↓CL,CS,pF,e0,e1,Q,P,O];rw[amC,Rj B];have l: (iT y ((under x.s.T h).getD k default)).back.map ay=y.back.map ay++R.runs.map ay:=by
   rw[<-aiw];unfold iT;rw[d,hR]
  have f2:bT p (T++[ae.box (bW R) none]) Z:=⟨q3,λi hi=>q4 i (by omega),λi o _ ho hg=>q5 i o ho hg⟩;have f3:=(bT.app p T [ae.box (bW R) none] (by have:=F.len;omega)).trans (f2.trans (bT.set p Z (.box (aY (iT y ((under x.s.T h).getD k default)) v') none)));refine⟨B,v',s.g1 _,?_,F.trans f3,f3.own p3 f (by omega),?_⟩
  ·rw[l];exact aN.mn q2 z
  ·by_cases W:v'.refs<=p+1
   ·rw[aaR W];have g:v'= .ai/\y.back.map ay++R.runs.map ay=[]:=by
     rcases q2.2 with q| ⟨id,aj,i1,i2,_⟩
     ·exact q
     ·rw[i2]at W;simp only[AV.refs]at W;omega
    rcases p4 with⟨G,_⟩|G
    ·refine .inl ⟨G,?_,.inr g.1⟩;rw[l,g.1,g.2];exact aN.ai
    ·exact .inr G
   ·rw[aaH W]
    right
    rcases p4 with⟨rfl| ⟨j,hj,rfl⟩,_⟩|rfl
    ·rfl
    ·exact ajV some (as0 (show p<=j by omega))
    ·exact ajV some (azv p)
 ·obtain rfl:k=(under x.s.T h).length:=by omega
  have M:bR y.s.T:=by rw[d];exact c.T
  obtain⟨w,C⟩:=aw9 y.s.T M (by rw[d];exact c.tr) h hh T u;have C:=ly C;have I:=A.set (.box (aY (y.t (mg y.s.T h).1) a) none);have e2:gz x h=y.t (mg y.s.T h).1:=by
   unfold gz;rw[aiv]at hy;rw[hy]
  simp only[↓R1,Zz,go_sem,simprocAttr,E,CS,C];rw[e2];rw[ayR];have t:=F.trans (bT.set p T (.box (aY (y.t (mg y.s.T h).1) a) none));rcases p4 with⟨G,l2,l3⟩|rfl
  ·rw[ja G (abX _)];refine⟨a,_,lo,rfl,⟨?_,?_⟩,t.take X f,.inl ⟨rfl,by rw[ajM,ajB];have:=F.len;omega,l3⟩⟩
   ·rw[ajO f];exact I.at'
   ·rw[List.take_set];exact aN.mn l2 (by rw[ajO f];exact E)
  ·rw[wq f];exact⟨a,_,_,rfl,⟨I.at',aN.mn p1 E⟩,t,.inr rfl⟩
abbrev Av(p:Nat)(H H':List ae)(lo ak:oN):Prop:=wo True p H H' lo ak
def uF(p:Nat)(H:List ae)(lo:oN):R (ar×bF)->aS->Prop
 |.ok (y,r),a=> ∃b H' ak,a= .ret (.agg (bG r)) ⟨H',ak⟩/\At p y b H'/\bT p H H'/\Av p H H' lo ak
 |.error e,a=> ∃H' ak,a= .panic (jc e) ⟨H',ak⟩/\bT p H H'/\Av p H H' lo ak
def bb.c{H:List ae}(ha:At p x bk H){m:R (ar×bF)}{c:aS}(h:bb x.back bk p H lo m c):uF p H lo m c:=by
 cases m with
 |ok a=>
  obtain⟨f,b⟩:=h;have d:=(aaG.1 ha.box).1;exact⟨bk,_,lo,b,⟨by grind,by rw[f];exact aN.mn ha.own ha.box⟩,bT.set _ _ _,.inl ⟨rfl,by simp,trivial⟩⟩
 |error e=>
  obtain⟨y,b⟩:=h;exact⟨_,lo,b,bT.set _ _ _,.inl ⟨rfl,by simp,trivial⟩⟩
def uF.err{H:List ae}:uF p H lo (.error e) (.panic (jc e) ⟨H,lo⟩):=⟨H,lo,rfl,bT.refl _ _,.inl ⟨rfl,rfl,trivial⟩⟩
theorem azf{N:Nat}{H B W:List ae}(r:H.length=N)(b:p<N)(l: ∀o∈B,∃cs tg,o=ae.box cs tg)(f:At p y bk W)(k:bT p (H++B) W)(i:W.length=(H++B).length):At p y bk (W.take N):=by
 refine⟨by rw[ajO b];exact f.box,f.own.1,?_⟩;rcases f.own.2 with q| ⟨id,aj,n,m,h⟩
 ·grind
 ·by_cases j:id<N
  ·grind
  ·have c:=(aaG.1 h).1;rw[i,ahU]at c;have g: (H++B)[id]?=some B[id-N]:=by grind
   obtain⟨cs,tg,ho⟩:=l _ (aui (show id-N<B.length by omega));rw[ho]at g;have:=k.box id _ (by omega) (λa d e=>by cases e) g
   grind
def YE{N:Nat}{H B W:List ae}(b:bT p (H++B) W)(a:p<H.length):bT p H W:=(bT.app p H B a).trans b
def am1{N:Nat}{H W:List ae}(e:H.length=N)(d:p<N)(b:bT p H W)(o:ae):bT p H (W.set N o):=
 ⟨by rw[ajB];exact b.len,λi a=>by rw[aaD (by omega)];exact b.low i a,λi w a hw c=>by
   have:=(aaG.1 c).1;rw[aaD (by omega)];exact b.box i w a hw c⟩
def Aw{N:Nat}{H B W:List ae}{ak:oN}{Q:Prop}(i:H.length=N)(a:p<N)(n: ∀o∈B,∃cs tg,o=ae.box cs tg)(h:At p y bk W)(l:bT p (H++B) W)(d: (ak=none/\ (W.length=(H++B).length\/ (bk= .ai/\y.back=[]))/\Q)\/ak=cI none p)(j:v.refs<=N)
  {cs:lA}  (g:W[N]?=some (.box cs tg)) (o:ae):
  ∃f b,finish N lo v ⟨W.set N o,ak⟩=(v,⟨f,b⟩)/\At p y bk f/\bT p H f/\wo Q p H f lo b:=by
 have c:=am1 i a (YE (N:=N) l (by omega)) o;rcases d with⟨rfl,d,k⟩|rfl
 ·refine⟨_,lo,ja (.inl rfl) j,?_,c.take i a,.inl ⟨rfl,?_,k⟩⟩
  ·have:At p y bk (W.take N):=by
     rcases d with d| ⟨rfl,m⟩
     ·grind [azf]
     ·exact⟨by rw[ajO a];exact h.box,by rw[m];exact aN.ai⟩
   have e: (W.set N o).take N=W.take N:=by rw[List.take_set];exact List.set_eq_of_length_le (by grind)
   grind
  grind
 ·refine⟨_,cI lo p,?_,⟨?_,aN.mn h.own g⟩,c,.inr rfl⟩
  ·have:cI none p=some p:=rfl;rw[this];exact wq a
  ·rw[aaD (by omega)];exact h.box
def OO{N:Nat}{H B W:List ae}{ak:oN}(g:H.length=N)(c:p<N)(h:bT p (H++B) W)(f:ak=none\/ak=cI none p)(e:v.refs<=N):
  ∃d b,finish N lo v ⟨W,ak⟩=(v,⟨d,b⟩)/\bT p H d/\Av p H d lo b:=by
 have a:=YE (N:=N) h (by omega);rcases f with rfl|rfl
 ·refine⟨_,lo,ja (.inl rfl) e,a.take g c,.inl ⟨rfl,?_,trivial⟩⟩;rw[ajM];have:=a.len;omega
 ·refine⟨_,cI lo p,?_,a,.inr rfl⟩;exact wq c
def Dw{cs:lA}: ∀o∈[ae.box cs tg],∃cs tg,o=ae.box cs tg:=by simp
section
variable{x:ar}{bk:AV}{p:Nat}{H:List ae}(lo:oN)(ha:At p x bk H)(hx:m4 x)
include ha hx
theorem azg(j:x.back.length+64*(under x.s.T x.c.r).length<=4294967296): ∃h,D XA (.fn (.func Kv) [] []) [.ptr p 0] ⟨H,lo⟩=some h/\uF p H lo (um x) h:=by
 refine cE Vm λN f=>?_
 have ho:Old p H (.box (aY x bk) none):=⟨ha.box⟩;have c:p<N:=by rw[<-f];exact ho.lt
 obtain⟨l,W,ak,g1,g2,g,k⟩:=YD (bk:=bk) (H:=H++[.box [.int .i64 0,.int .u64 0,.int .u32 0] none]) ⟨ho.g _,ha.own.ext⟩ hx.s x.c.r hx.c.r j none;have b:W[N]?=some (.box [.int .i64 0,.int .u64 0,.int .u32 0] none):=g.box N _ (by omega) (λa d e=>by cases e) (by grind);simp only[F1,go_sem,simprocAttr,Vm,f,ho.g,↓CL,M2 ho hx x.c.r hx.c.r,g1,b,cx b,dS,dU,EP];obtain⟨m,i,f1,f2,f3,f4⟩:=Aw (v:=.agg [.int .i64 0,.int .u64 0,.int .u32 0]) (lo:=lo) f c Dw g2 g (k.imp (λq=>⟨q.1,.inl q.2.1,trivial⟩) id) (abX _) b (.box [.int .i64 0,.int .u64 0,.int .u32 0] none);rw[f1]
 (repeat' (first| (refine⟨?_,?_⟩)|intro _))
 ·simp only[um,gH,okB, *];exact⟨_,_,_,rfl,f2,f3,f4⟩
 ·simp only[um,c8, *];exact .err
theorem azh(hB:x.back.length<=4294967296): ∃S,D XA (.fn (.func Ku) [] []) [.ptr p 0] ⟨H,lo⟩=some S/\uF p H lo (uk x) S:=by
 refine cE Vl λN k=>?_
 have ho:Old p H (.box (aY x bk) none):=⟨ha.box⟩;have m:p<N:=by rw[<-k];exact ho.lt
 have G:=λB lo=>OK (ho.app B) lo hx.s x.c.r hx.c.r
 have F:=(hx.s.T.get x.c.r);have Y:=Au (x:=x) (h:=x.c.r) (w:=1);have e0:uk x=fL x x.c.r 1>>=λ_=>bc (aJ x.s.T x.c.r).2>>=λ_=>nG {x with back:=x.back++(aJ x.s.T x.c.r).1.runs} x.c.r {dM with up:=0,dC:=(aJ x.s.T x.c.r).1.dC}>>=λy=>.ok (y,b8):=rfl
 rw[e0];generalize hR: (aJ x.s.T x.c.r).1=R at*;obtain⟨v',c,V,z,U,P,u⟩:=aN.Ro (bytes:=16) (ys:=R.runs.map ay) (lo:=none) (aN.ext (L:=[ae.box [.int .i64 0,.int .u64 0,.int .u32 0] none,.box (bW R) none]) ha.own) (by simp[k];omega) (by omega) (by intro el J;obtain⟨r,_,rfl⟩:=ais.1 J;rfl) (bz (λ_=>rfl) _) (by
  have:=F.rb.2;unfold room;simp only[ahX];omega)
 have C:v'.cn=false/\v'.cells=[v']:=by
  rcases z.2 with⟨rfl,_⟩| ⟨_,_,_,rfl,_⟩<;>exact⟨rfl,rfl⟩
 have j:c[p]?=some (.box (aY x bk) none):=by rw[P p (by omega)];exact ho.g _
 have b:Old p c (.box (aY x bk) none):=⟨j⟩;have w0:c[N]?=some (.box [.int .i64 0,.int .u64 0,.int .u32 0] none):=u N _ (λa d e=>by cases e) (by rw[dn k];rfl);have w1:c[N+1]?=some (.box (bW R) none):=u (N+1) _ (λa d e=>by cases e) (by rw[bw k];rfl);have n:=b.set (.box (aY {x with back:=x.back++R.runs} v') none);have f:=λlo=>YA (x:={x with back:=x.back++R.runs}) (bk:=v') n lo hx.s x.c.r hx.c.r {dM with up:=0,dC:=R.dC} ⟨by simp[dM],by simp[dM]⟩ (by simp[dM]) (by simp[dM])
 have K:aY {x with back:=x.back++R.runs} v'=aY x v':=rfl;rw[K]at f;have M:N<c.length:=(aaG.1 w0).1;have E: ∀A B o,(((c.set p A).set p B).set N o)[N]?=some o:=λA B o=>ah5 (by simp only[ajB];exact M)
 have I:p≠N:=by omega
 have X:p≠N+1:=by omega
 simp(disch:=omega) only[F1,go_sem,simprocAttr,Vl,k,ho.g,↓CL,CS,M1 ho hx x.c.r hx.c.r,G,ky,amY,V,C,j,w0,w1,b.g1,E,f,akS,dS,dU,EP,jd];have s: (if v'.refs<=p+1 then none else cI none p)=none/\ (v'= .ai/\x.back++R.runs=[])\/ (if v'.refs<=p+1 then none else cI none p)=cI none p:=by
  by_cases t:v'.refs<=p+1
  ·rw[aaR t];refine .inl ⟨rfl,?_⟩;rcases z.2 with⟨T,O⟩| ⟨id,aj,i1,i2,_⟩
   ·refine⟨T,?_⟩;rw[<-aiw]at O;exact atS.1 O
   ·rw[i2]at t;simp only[AV.refs]at t;omega
  ·rw[aaH t];exact .inr rfl
 have f0:bT p (H++[ae.box [.int .i64 0,.int .u64 0,.int .u32 0] none,.box (bW R) none]) c:=⟨U,λi hi=>P i (by omega),λi o _ ho Z=>u i o ho Z⟩;have f1:=f0.trans (bT.set p c (.box (aY x v') none));generalize Q: (if v'.refs<=p+1 then none else cI none p)=ak at*
 (repeat' (first| (refine⟨?_,?_⟩)|intro _))
 ·rename_i g l m3;have hA:At p (({x with back:=x.back++R.runs}:ar).t (fK x.s.T x.c.r {dM with up:=0,dC:=R.dC}).1) v' ((c.set p (.box (aY x v') none)).set p (.box (aY (({x with back:=x.back++R.runs}:ar).t (fK x.s.T x.c.r {dM with up:=0,dC:=R.dC}).1) v') none)):=
   ⟨by rw[amC];exact b.g1 _,by rw[amC];show aN _ _ _ _ _ (List.map ay (x.back++R.runs));rw[aiw];exact aN.mn z j⟩
  have f2:=f1.trans (bT.set p (c.set p (.box (aY x v') none)) (.box (aY (({x with back:=x.back++R.runs}:ar).t (fK x.s.T x.c.r {dM with up:=0,dC:=R.dC}).1) v') none));obtain⟨H3,W,g1,g2,g3,g4⟩:=Aw (v:=.agg [.int .i64 0,.int .u64 0,.int .u32 0]) (lo:=lo) k m (B:=[ae.box [.int .i64 0,.int .u64 0,.int .u32 0] none,.box (bW R) none]) (by simp) hA f2 (s.imp (λq=>⟨q.1,.inr q.2,trivial⟩) id) (abX _)
   (by rw[amC,aaD I];exact w0) (.box [.int .i64 0,.int .u64 0,.int .u32 0] none)
  rw[g1];simp only[nG,gH,okB,g,l,m3];exact⟨_,_,_,rfl,g2,g3,g4⟩
 ·rename_i g l e m3;obtain⟨E1,l1,e1,e2,e3⟩:=OO (v:=jc e) (lo:=lo) k m f1 (s.imp And.left id) (abX _);rw[e1];simp only[nG,gH,okB,c8,g,l,m3];exact⟨_,_,rfl,e2,e3⟩
 ·rename_i g e l;simp only[okB,c8,g,l];exact .err
 ·rename_i e g;simp only[c8,g];exact .err
end
def azi{N:Nat}{H B W:List ae}{ak:oN}{Q:Prop}(g:H.length=N)(d:p<N)(i: ∀o∈B,∃cs tg,o=ae.box cs tg)(j:At p y bk W)(h:bT p (H++B) W)(f: (ak=none/\ (W.length=(H++B).length\/ (bk= .ai/\y.back=[]))/\Q)\/ak=cI none p)(e:v.refs<=N)
  {cs:lA}  (b:W[N]?=some (.box cs tg)):
  ∃c a,finish N lo v ⟨W,ak⟩=(v,⟨c,a⟩)/\At p y bk c/\bT p H c/\wo Q p H c lo a:=by
 have:=Aw (v:=v) (lo:=lo) g d i j h f e b (.box cs tg);rwa[qz b]at this
def azj(bk:AV)(p:Nat)(H:List ae)(lo:oN):R ar->aS->Prop
 |.ok y,b=> ∃a H' ak,b= .ret (.au []) ⟨H',ak⟩/\At p y a H'/\bT p H H'/\wo (a=bk\/a= .ai) p H H' lo ak
 |.error e,b=>b= .panic (jc e) ⟨H,lo⟩
section
variable{x:ar}{bk:AV}{p:Nat}{H:List ae}(lo:oN)(ha:At p x bk H)(hs:bm x.s)
include ha hs
theorem am2(h:Nat)(n:h<4294967296)(aa:Nat)(I:aa<256)(J:x.back.length+64*(under x.s.T h).length<=4294967296):
  ∃A,D XA (.fn (.func KP) [] []) [.ptr p 0,.int .u32 h,.int .i64 aa] ⟨H,lo⟩=some A/\azj bk p H lo (jP x h aa) A:=by
 refine cE NG λN f=>?_
 have ho:Old p H (.box (aY x bk) none):=⟨ha.box⟩;have k:p<N:=by rw[<-f];exact ho.lt
 have y:=λH lo=>lx (axS x.s.O hs.O x.s.T hs.T hs.tr h n aa I H lo)
 have w:=λH=>gU (dD x.s.O x.s.T h aa false).2.2 H
 have L:jP x h aa=bc (dD x.s.O x.s.T h aa false).2.2>>=λ_=>.ok (if(dD x.s.O x.s.T h aa false).2.1=0 then gz (x.o (dD x.s.O x.s.T h aa false).1) h else x.o (dD x.s.O x.s.T h aa false).1):=rfl
 have l:fN (dD x.s.O x.s.T h aa false).1:=hs.O.held n;rw[L];have i:=alQ hs.O (t:=x.s.T) (r:=h) (aa:=aa) (hold:=false);generalize dD x.s.O x.s.T h aa false=g at*;have s: ∀v,(H++[ae.box (cN g.1) none]).set p v=H.set p v++[ae.box (cN g.1) none]:=λv=>ho.s _ _
 have u:At p (x.o g.1) bk (H.set p (.box (aY (x.o g.1) bk) none)++[ae.box (cN g.1) none]):=⟨ho.g2 _ _,aN.ext (aN.mn ha.own ha.box)⟩;obtain⟨M,W,ak,g1,g2,z,K⟩:=YD u (hs.wk l) h n J none;have f1:bT p (H++[ae.box (cN g.1) none]) (H.set p (.box (aY (x.o g.1) bk) none)++[ae.box (cN g.1) none]):=by rw[<-s];exact bT.set _ _ _
 by_cases j:g.2.1=0
 ·have c:decide ((HD g.2.1:Int)=0)=true:=abj (by rw[j];rfl);simp only[F1,go_sem,simprocAttr,NG,f,ho.g,ho.s,↓CL,CS,y,w,c,g1,dS,dU,EP,gr];have o:W[N]?=some (.box (cN g.1) none):=z.box N _ (by omega) (λa d e=>by cases e) (by rw[(OL f).1];rfl);have m: (H.set p (.box (aY (x.o g.1) bk) none)++[ae.box (cN g.1) none]).length=(H++[ae.box (cN g.1) none]).length:=by simp
  obtain⟨O,B,G,F,E,C⟩:=azi (v:=.au []) (lo:=lo) f k Dw g2 (f1.trans z) (K.imp (λq=>⟨q.1,.inl (q.2.1.trans m),q.2.2⟩) id) (abX _) o;rw[G]
  (repeat' (first| (refine⟨?_,?_⟩)|intro _))
  ·rename_i b;simp only[b,okB,aaR j];exact⟨_,_,_,rfl,F,E,C⟩
  ·rename_i e b;simp only[b,c8];rfl
 ·have c:decide ((HD g.2.1:Int)=0)=false:=abi (by
    have:=mt (axR _ i).1 j;omega)
  simp only[F1,go_sem,simprocAttr,NG,f,ho.g,ho.s,↓CL,CS,y,w,c,dS,dU,EP,gr,OL f]
  (repeat' (first| (refine⟨?_,?_⟩)|intro _))
  ·rename_i b;simp only[b,okB,aaH j];exact⟨bk,_,lo,rfl,⟨ho.g1 _,aN.mn ha.own ha.box⟩,bT.set _ _ _,.inl ⟨rfl,by simp,.inl rfl⟩⟩
  ·rename_i e b;simp only[b,c8];rfl
end
section
variable{x:ar}{bk:AV}{p:Nat}{H:List ae}(lo:oN)(ha:At p x bk H)(hx:m4 x)
include ha hx
theorem azk(l:x.back.length+64*(under x.s.T x.c.r).length<=4294967296): ∃g,D XA (.fn (.func KA) [] []) [.ptr p 0] ⟨H,lo⟩=some g/\uF p H lo (vT x) g:=by
 refine cE Nw λN f=>?_
 have ho:Old p H (.box (aY x bk) none):=⟨ha.box⟩;have h:p<N:=by rw[<-f];exact ho.lt
 have s:=hx.t;obtain⟨g,g1,g2⟩:=am2 (bk:=bk) (H:=H++[.box [.int .i64 0,.int .u64 0,.int .u32 0] none]) none ⟨ho.g _,ha.own.ext⟩ hx.s x.c.r hx.c.r x.aa (by omega) l;have n:vT x=xM x x.c.r>>=λ_=>jP x x.c.r x.aa>>=λy=>.ok (y,b8):=rfl
 rw[n];cases i:jP x x.c.r x.aa with
 |error e=>
  rw[i]at g2;have g2:g=_:=g2;rw[g2]at g1;simp only[F1,go_sem,simprocAttr,Nw,f,ho.g,↓CL,λB lo=>HH (ho.app B) lo hx.s hx.t x.c.r hx.c.r,g1,dS,dU,EP,jd]
  (repeat' (first| (refine⟨?_,?_⟩)|intro _))
  ·rename_i b;simp only[b,okB,c8];exact .err
  ·rename_i o b;simp only[b,c8];exact .err
 |ok y=>
  rw[i]at g2;obtain⟨r,W,ak,rfl,g2,j,m⟩:=g2;have c:W[N]?=some (.box [.int .i64 0,.int .u64 0,.int .u32 0] none):=j.box N _ (by omega) (λa d e=>by cases e) (by rw[dn f];rfl);simp only[F1,go_sem,simprocAttr,Nw,f,ho.g,↓CL,λB lo=>HH (ho.app B) lo hx.s hx.t x.c.r hx.c.r,g1,c,cx c,dS,dU,EP];obtain⟨t,k,f1,f2,f3,f4⟩:=Aw (v:=.agg [.int .i64 0,.int .u64 0,.int .u32 0]) (lo:=lo) f h Dw g2 j (m.imp (λq=>⟨q.1,.inl q.2.1,trivial⟩) id) (abX _) c (.box [.int .i64 0,.int .u64 0,.int .u32 0] none);rw[f1]
  (repeat' (first| (refine⟨?_,?_⟩)|intro _))
  ·rename_i b;simp only[b,okB];exact⟨_,_,_,rfl,f2,f3,f4⟩
  ·rename_i o b;simp only[b,c8];exact .err
end
def azl(d:cu t): ∀ (n x:Nat),dep t x<=n->k∈aR t x-> ∀c∈aR t k,c∈aR t x:=by
 intro n
 induction n with
 |zero=>intro x b a;unfold dep at b;grind
 |succ n e=>
  intro x b a c f;by_cases hu:bK t x=0
  ·rw[ui d,aaR hu]at a;cases a
  ·grind [CZ,Ds]
def YF(d:cu t){x:Nat}: ∀n c,x∈ia t n c->x=c\/c∈aR t x:=by
 intro n
 induction n with
 |zero=>intro c h;left;simpa[ia]using h
 |succ n e=>
  intro c h;rcases ajR.1 h with h|h
  ·omega
  ·right
   obtain⟨k,f,a⟩:=asa.1 h;obtain⟨g1,g2,_⟩:=N5 f;have b:c∈aR t k:=by rw[Ds d (x:=k) (by rw[g2];exact Xb g1),g2];grind
   rcases e k a with rfl|a
   ·omega
   ·exact azl d _ x (ahT _) a c b
def azm(f:cu t): ∀ (n x a b:Nat),dep t x<=n->a∈x::aR t x->b∈x::aR t x->dep t a=dep t b->a=b:=by
 intro n
 induction n with
 |zero=>
  intro x a b g d e _;unfold dep at g
  grind
 |succ n i=>
  intro x a b g d e he;have lt: ∀c∈aR t x,dep t c<dep t x:=λc h=>OH f _ x (ahT _) h
  rcases ajR.1 d with rfl|d
  ·grind
  ·rcases ajR.1 e with rfl|e
   ·grind
   ·by_cases hu:bK t x=0
    ·rw[ui f,aaR hu]at d;cases d
    ·have j:=CZ f hu;rw[Ds f hu]at d e
     grind
def am3(b:cM): (bo b).Nodup:=by
 refine List.Pairwise.map _ (λi j c=>?_) (aun (S:=λi j=>i<32/\j<32/\i≠j) (λe d a=>⟨?_,?_,a⟩) (List.nodup_range.filter _))
 ·unfold dg;omega
 ·grind
 grind
def azn(t:aw)(h:Nat): (kids t h).Nodup:=by
 unfold kids;split
 ·exact(am3 _).filter _
 grind
def azo(a:cu t): ∀n h,(ia t n h).Nodup:=by
 intro n
 induction n with
 |zero=>simp[ia]
 |succ n g=>
  intro h;refine azx.2 ⟨λhm=>?_,?_⟩
  ·obtain⟨k,j,b⟩:=asa.1 hm;have o:=C0 a j;rcases YF a n k b with e|e
   ·grind
   ·have:=OH a _ h (ahT _) e;omega
  ·refine List.pairwise_flatMap.2 ⟨λk _=>g k,aun (λr p d x b y i e=>?_) (azn t h)⟩;subst e;have m:=YF a n _ b;have l:=YF a n _ i;have f: ∀c,(x=c\/c∈aR t x)->c∈x::aR t x:=λc q=>q.elim (λe=>by grind) (ajH _)
   exact d (azm a _ x _ _ (ahT _) (f _ m) (f _ l) (by grind [C0]))
def am4(a:cu t)(h:Nat): (under t h).Nodup:=by
 unfold under;split
 ·exact azo a 32 h
 grind
theorem YG: ∀ (l m:lN),l.Nodup->(∀z∈l,z∈m)->l.length<=m.length
 | [],_,_,_=>abX _
 |a::l,m,c,h=>by
  obtain⟨e,d⟩:=azx.1 c;have:=YG l (m.erase a) d λz b=>(List.mem_erase_of_ne λq=>by grind).2 (h z (ajH _ b))
  grind
def azp{y z:Nat}(c:ax b z=true)(d:ax b y=true)(a:z≠y):ax (eC b y).1 z=true:=by
 obtain⟨j,e,f⟩:=lD.1 c;unfold eC;rw[aaR d];refine lD.2 ⟨j,e,?_⟩;show aq b (aO y) _ j=_;rw[ds λq=>a (Yv c d (by rw[Hl e];exact q))];exact f
def azq(g:gS b){y:Nat}(c:ax b y=true): (bo (eC b y).1).length+1<=(bo b).length:=by
 have d:=am3 (eC b y).1;have i:y∉bo (eC b y).1:=λhm=>by
  have f:=(jt (Hn g y)).1 hm;obtain⟨j,e,a⟩:=lD.1 f;unfold eC at a;rw[aaR c]at a;have a:aq b (aO y) (rP (b (aO y))) j=_:=a;rw[Hl e,cZ]at a;unfold rP at a
  grind
 have h: ∀z∈y::bo (eC b y).1,z∈bo b:=λz k=>by grind [jt,Yu,Hn]
 have:=YG _ _ (azx.2 ⟨i,d⟩) h;omega
theorem am5: ∀ (l:lN) (t:aw),gS t.b->l.Nodup->(∀z∈l,t.ax z=true)->(bo (kz t l).b).length+l.length<=(bo t.b).length
 | [],t,_,_,_=>by simp[kz]
 |y::l,t,d,h,c=>by
  have a:ax t.b y=true:=c y (ald ..);have e: (lv t y).1={b:=(eC t.b y).1,r:=aq t.r (aO y) dM}:=by
   unfold lv;grind
  have f: (lv t y).1.b=(eC t.b y).1:=by rw[e]
  have i:=am5 l (lv t y).1 (by rw[f];exact Hn d y) (azx.1 h).2 λz g=>by
   show ax (lv t y).1.b z=true;rw[f];exact azp (c z (ajH _ g)) a λq=>by grind
  have j:=azq d a;have k:kz t (y::l)=kz (lv t y).1 l:=rfl
  grind
def azr(h:eG t)(a:Nat): (under t a).length<=(bo t.b).length:=
 YG _ _ (am4 h.tr a) λz b=>(jt h.ok.b).2 (Om h.ok b)
def azs(h:eG t)(a:Nat): (bo (mg t a).1.b).length+(under t a).length<=(bo t.b).length:=by
 unfold mg;split
 ·grind
 ·exact am5 (under t a) t h.ok.b (am4 h.tr a) λz b=>Om h.ok b
def eW(x:ar):Nat:=x.back.length+64*(bo x.s.T.b).length
def YH(a:bm x.s)(h:Nat):eW (gz x h)<=eW x:=by
 have d:=am0 (under x.s.T h) x a.T;have c:=amZ (under x.s.T h) x;have b:=azs a.ez h;have e1: (gz x h).back=((under x.s.T h).foldl iT x).back:=rfl;have e: (gz x h).s.T=(mg ((under x.s.T h).foldl iT x).s.T h).1:=rfl;unfold eW
 grind
def YI(a:bm x.s)(h:Nat):x.back.length+64*(under x.s.T h).length<=eW x:=by
 have:=azr a.ez h;unfold eW;omega
def YJ(b:bm x.s)(h:Nat):bm (gz x h).s:=by
 have a:=YC (under x.s.T h) x b;exact a.wj (a.ez.ayL h)
structure LI(bk:AV)(p N:Nat)(H:List ae)(y:ar)(nU:AV)(W:List ae)(lo:oN):Prop where
 at':At p y nU W
 fr:bT p H W
 ok:bm y.s
 eW:eW y<=2048
 lo: (dQ N lo/\ (nU=bk\/nU= .ai))\/lo=some p
section
variable{bk:AV}{p N:Nat}{H:List ae}{y:ar}{nU:AV}{W:List ae}{mH:oN}(o7:p<N)(h:LI bk p N H y nU W mH)
include h
theorem LI.dL:Old p W (.box (aY y nU) none):=⟨h.at'.box⟩
theorem LI.app(L:List ae):LI bk p N H y nU (W++L) mH:=⟨⟨bf h.at'.box,h.at'.own.ext⟩,h.fr.trans (bT.app p W L (aaG.1 h.at'.box).1),h.ok,h.eW,h.lo⟩
theorem LI.set{z:ar}(a:bm z.s)(b:z.back=y.back)(c: (bo z.s.T.b).length<=(bo y.s.T.b).length):LI bk p N H z nU (W.set p (.box (aY z nU) none)) mH:=
 ⟨⟨by rw[ah5 h.dL.lt],by rw[b];exact aN.mn h.at'.own h.at'.box⟩,h.fr.trans (bT.set _ _ _),a,by have:=h.eW;unfold Go.Proofs.YteplichagkpciaaGreatDoor.eW at*;grind,h.lo⟩
include o7
theorem LI.next{z:ar}{a:AV}{c:List ae}{b:oN}(k:At p z a c)(i:bT p W c)(g:wo (a=nU\/a= .ai) p W c mH b)(e:bm z.s)(f:Go.Proofs.YteplichagkpciaaGreatDoor.eW z<=Go.Proofs.YteplichagkpciaaGreatDoor.eW y):LI bk p N H z a c b:=by
 refine⟨k,h.fr.trans i,e,ajU f h.eW,?_⟩;rcases g with⟨rfl,_,q⟩|rfl
 ·rcases h.lo with⟨d,l⟩|d
  ·grind
  grind
 ·right
  rcases h.lo with⟨rfl| ⟨j,m,rfl⟩,_⟩|rfl
  ·rfl
  ·exact ajV some (as0 (show p<=j by omega))
  ·exact ajV some (azv p)
theorem LI.gone(a:Nat)(f:a<4294967296): ∃c d b,D XA (.fn (.func w4) [] []) [.ptr p 0,.int .u32 a] ⟨W,mH⟩=some (.ret (.au []) ⟨d,b⟩)/\LI bk p N H (gz y a) c d b/\bT p W d:=by
 obtain⟨c,d,b,g1,g2,e,g⟩:=YD h.at' h.ok a f (by have:=YI h.ok a;have:=h.eW;omega) mH;exact⟨c,d,b,g1,h.next o7 g2 e g (YJ h.ok a) (YH h.ok a),e⟩
theorem LI.done(k:H.length=N)(i:At p x bk H)(j:v.refs<=N):
  ∃b a,finish N lo v ⟨W,mH⟩=(v,⟨b,a⟩)/\At p y nU b/\bT p H b/\wo (nU=bk\/nU= .ai) p H b lo a:=by
 rcases h.lo with⟨f,d⟩|rfl
 ·refine⟨_,lo,ja f j,⟨by rw[ajO o7];exact h.at'.box,h.at'.own.1,?_⟩,h.fr.take k o7,.inl ⟨rfl,by rw[ajM];have:=h.fr.len;omega,d⟩⟩;rcases h.at'.own.2 with q| ⟨id,aj,s,r,o⟩
  ·grind
  ·rcases d with rfl|rfl
   ·rcases i.own.2 with⟨e,_⟩| ⟨g,c,n,m,l⟩
    ·grind
    grind
   grind
 ·exact⟨_,cI lo p,wq o7,h.at',h.fr,.inr rfl⟩
theorem LI.err(e:H.length=N)(d:v.refs<=N): ∃b a,finish N lo v ⟨W,mH⟩=(v,⟨b,a⟩)/\bT p H b/\Av p H b lo a:=by
 rcases h.lo with⟨c,f⟩|rfl
 ·exact⟨_,lo,ja c d,h.fr.take e o7,.inl ⟨rfl,by rw[ajM];have:=h.fr.len;omega,trivial⟩⟩
 ·exact⟨_,cI lo p,wq o7,h.fr,.inr rfl⟩
end
theorem am6{m:Nat}{I:Nat->Env->List ae->oN->Prop}{Q:bU}{a:Fr}{E:AS}:Bm k m I Q (.panic v) a E=Q (.panic v) a E:=rfl
instance:Inhabited kp:=⟨Ad⟩
def azt(bk:AV)(p:Nat)(H:List ae)(lo:oN):R ar->aS->Prop
 |.ok y,b=> ∃a H' ak,b= .ret (.au []) ⟨H',ak⟩/\At p y a H'/\bT p H H'/\wo (a=bk\/a= .ai) p H H' lo ak
 |.error e,b=> ∃H' ak,b= .panic (jc e) ⟨H',ak⟩/\bT p H H'/\Av p H H' lo ak
def Dx(y:ar)(m:kp):R ar:=if m.aL=0\/m.share=true then pure y else if y.s.alive m.fr then mZ y m.aL m.fr else pure (gz y m.aL)
def wu(x:ar)(aa:Nat):ar:={x.bx aa Ae with s:={(x.bx aa Ae).s with alive:=aq (x.bx aa Ae).s.alive aa false}}
def OP(y:ar)(aa:Nat):R ar:=
 ((bo y.s.T.b).filter λh=>decide (root y.s.T h=h)&&decide ((ch y.s.O y.s.T h).kind=3)&& (decide (aa<8)&&oM (ch y.s.O y.s.T h).hold aa)).foldlM (λy h=>jP y h aa) y
def YK(y:ar)(aa:Nat):R ar:=do
 let y:=((bo y.s.T.b).filter λh=>decide (root y.s.T h=h)&&decide ((ch y.s.O y.s.T h).kind=1)&&decide ((ch y.s.O y.s.T h).aa=aa)).foldl gz y
 ((bo y.s.T.b).filter λh=>decide (root y.s.T h=h)&&decide ((ch y.s.O y.s.T h).kind=3)&& (decide (aa<8)&&oM (ch y.s.O y.s.T h).hold aa)).foldlM (λy h=>jP y h aa) y
def YL(y:ar)(aa:Nat):R ar:=do
 let y:=(xJ y.s.K aa).foldl (λy h=>y.k (mW y.s.K h).1) y
 let y:=((bo y.s.T.b).filter λh=>decide (root y.s.T h=h)&&decide ((ch y.s.O y.s.T h).kind=1)&&decide ((ch y.s.O y.s.T h).aa=aa)).foldl gz y
 ((bo y.s.T.b).filter λh=>decide (root y.s.T h=h)&&decide ((ch y.s.O y.s.T h).kind=3)&& (decide (aa<8)&&oM (ch y.s.O y.s.T h).hold aa)).foldlM (λy h=>jP y h aa) y
theorem am7(x:ar)(aa:Nat):nI x aa=(fW (x.s.dh aa)).foldlM Dx (wu x aa)>>=λy=>YL y aa:=rfl
def foldlM_succ[Inhabited β]{f:α->β->R α}{l:List β}{a:α}(h:k<l.length): (l.take (k+1)).foldlM f a=((l.take k).foldlM f a>>=λy=>f y (l.getD k default)):=by grind [List.take_add_one,List.getElem?_eq_getElem,List.foldlM_append]
def am8{f:α->β->R α}{l:List β}{a:α}(h: (l.take k).foldlM f a= .error e):l.foldlM f a= .error e:=by
 rw[<-aqr k l,List.foldlM_append,h];rfl
def Ax(y:ar)(h:Nat):ar:=y.k (mW y.s.K h).1
def foldl_succ{f:α->Nat->α}{l:lN}{a:α}(h:k<l.length): (l.take (k+1)).foldl f a=f ((l.take k).foldl f a) (l.getD k default):=by grind [List.take_add_one,List.getElem?_eq_getElem,getD_eq]
def azu{z:ar}{h:Nat}(hs:bm y.s)(d:h<4294967296)(b:jP y h aa= .ok z):bm z.s/\eW z<=eW y:=by
 have f:jP y h aa=bc (dD y.s.O y.s.T h aa false).2.2>>=λ_=>.ok (if(dD y.s.O y.s.T h aa false).2.1=0 then gz (y.o (dD y.s.O y.s.T h aa false).1) h else y.o (dD y.s.O y.s.T h aa false).1):=rfl
 rw[f]at b;have a:bm (y.o (dD y.s.O y.s.T h aa false).1).s:=hs.wk (hs.O.held d);cases c:bc (dD y.s.O y.s.T h aa false).2.2 with
 |error e=>rw[c]at b;cases b
 |ok _=>
  rw[c]at b;cases b;split
  ·exact⟨YJ a h,YH a h⟩
  ·exact⟨a,ahT _⟩
section
variable{x:ar}{bk:AV}{p:Nat}{H:List ae}(lo:oN)(ha:At p x bk H)(hs:bm x.s)
include ha hs
theorem am9(aa:Nat)(ht:aa<8)(hp:eW x<=2048):
  ∃cr,D XA (.fn (.func Kn) [] []) [.ptr p 0,.int .i64 aa] ⟨H,lo⟩=some cr/\azt bk p H lo (nI x aa) cr:=by
 refine cE Vd λN hN=>?_
 have ho:Old p H (.box (aY x bk) none):=⟨ha.box⟩;have M:p<N:=by rw[<-hN];exact ho.lt
 obtain⟨w,d1,d2,d3⟩:=ayD (x.s.dh aa) (hs.bx aa) H none;have d1:=lx d1;have c1: (aa:Int)<8:=by omega
 have c2:784+aa*19<=945:=by omega
 have c3:936+aa<=963:=by omega
 have hb:=λ (y:ar) bk=> @OD y bk aa ht
 have hsb:=λ (y:ar) bk b=> @OE y bk aa b ht
 have hsa:=λ (y:ar) bk v=> @amv y bk aa v ht
 have I:=λE=>(show Rd E w 4 ((fW (x.s.dh aa)).map eB)from d2 E).bD
 have hbl: (fW (x.s.dh aa)).length<=4:=by have:=(hs.bx aa).n;simp[fW];omega
 have hml: ∀m∈fW (x.s.dh aa),we m:=λm hm=>by
  obtain⟨i,_,rfl⟩:=ais.1 hm;exact(hs.bx aa).ring _
 rw[am7];generalize hl:fW (x.s.dh aa)=l at*;simp only[go_sem,simprocAttr,Vd,hN,ho.at',ho.g,ho.s,ho.g2,ho.s2,CS,c1,c2,c3,↓hb,hsb,hsa,d1,I,MB];have HK:bm (wu x aa).s:=(hs.Du jb.gone).Yx;have azw:LI bk p N H (wu x aa) bk (H.set p (.box (aY (wu x aa) bk) none)) none:=LI.set ⟨ha,bT.refl _ _,hs,hp,.inl ⟨.inl rfl,.inl rfl⟩⟩ HK rfl (ahT _);refine gX l.length (λk e W' ak=> ∃y G,(l.take k).foldlM Dx (wu x aa)= .ok y/\LI bk p N H y G W' ak/\e 0= .ptr p 0/\e 1= .int .i64 aa/\e 38=w/\e 39= .int .i64 l.length/\e 40= .int .i64 k) 0 (by omega) ?_ ?_
 ·simp only[go_sem,simprocAttr];exact⟨wu x aa,bk,rfl,azw.app _⟩
 rintro k hk e T s ⟨y,A,Z,d,C,B,r,o,j⟩ n hn;simp only[bO,go_sem,simprocAttr,ajg,d.dL.at',↓CL,C,B,r,o,j];refine⟨λV=>?_,λV=>?_⟩
 ·have g:k<l.length:=by omega
  have hr:=(show Rd ⟨T,s⟩ w 4 (l.map eB)from d2 _);have c:=foldlM_succ (f:=Dx) (a:=wu x aa) g;rw[Z,okB]at c;have YM:we (l.getD k default):=by
   exact hml _ (by simp[List.getD,g])
  have YN:=YM.aL;have hmf:=YM.fr;have L2:=d.app [ae.box (eB (l.getD k default)) none];have pM:=d.dL;have pP:=λ (z:ar) bk=> @Yp z bk (l.getD k default).fr hmf
  have c4: ((l.getD k default).fr:Int)<8:=by omega
  have e1:Dx y (l.getD k default)=if(l.getD k default).aL=0\/ (l.getD k default).share=true then .ok y else if y.s.alive (l.getD k default).fr then mZ y (l.getD k default).aL (l.getD k default).fr else .ok (gz y (l.getD k default).aL):=rfl
  rw[e1]at c;by_cases h0: (l.getD k default).aL=0
  ·have R:decide (((l.getD k default).aL:Int)=0)=true:=abj (by omega);rw[aaR (.inl h0)]at c;simp(disch:=omega) only[go_sem,simprocAttr,hr.bX,hr.cp,o5,R,hn,C,B,r,o,j];exact⟨by omega,g,y,A,c,L2⟩
  ·have R:decide (((l.getD k default).aL:Int)=0)=false:=abi (by omega);cases F: (l.getD k default).share with
   |true=>
    rw[aaR (.inr F)]at c;rw[o5,F]at L2;simp(disch:=omega) only[go_sem,simprocAttr,hr.bX,hr.cp,o5,R,F,hn,C,B,r,o,j];exact⟨by omega,g,y,A,c,L2⟩
   |false=>
    rw[aaH (by rintro(q|q);exact h0 q;rw[F]at q;cases q)]at c;rw[o5,F]at L2;cases X:y.s.alive (l.getD k default).fr with
    |false=>
     rw[X,aaH (by simp)]at c;obtain⟨S,W2,P,g1,g2,Y⟩:=L2.gone M (l.getD k default).aL YN;simp(disch:=omega) only[go_sem,simprocAttr,hr.bX,hr.cp,o5,R,F,X,pM.g,c4,↓pP,g1,hn,C,B,r,o,j];exact⟨by omega,g,_,S,c,g2⟩
    |true=>
     rw[X,aaR rfl]at c;have hw:=OM (ho:=L2.dL) (lo:=s) L2.ok (l.getD k default).aL YN (l.getD k default).fr (by omega);simp(disch:=omega) only[go_sem,simprocAttr,hr.bX,hr.cp,o5,R,F,X,pM.g,pM.s,c4,↓pP,hw,am6,dS,dU,EP,hn,C,B,r,o,j];refine⟨by omega,λm1=>⟨g,_,A,?_,(d.set (z:=y.o (rQ y.s.O y.s.T (l.getD k default).aL (l.getD k default).fr).1) (d.ok.wk (d.ok.O.iA YN)) rfl (ahT _)).app _⟩,λe' m1=>?_⟩
     ·rw[c];unfold mZ;rw[m1];rfl
     ·obtain⟨H2,P,g1,g2,Y⟩:=LI.err (v:=jc e') (lo:=lo) M L2 hN (abX _);have c: (l.take (k+1)).foldlM Dx (wu x aa)= .error e':=by rw[c];unfold mZ;rw[m1];rfl
      rw[am8 c,c8];rw[g1];exact⟨_,_,rfl,g2,Y⟩
 ·obtain rfl:k=l.length:=by omega
  rw[aiv]at Z;rw[Z,okB];clear hsa hsb hb d1 I hml;have anf:=d.ok;obtain⟨wt,t1,t2,t3⟩:=axY y.s.K anf.K aa T s;have t1:=ly t1;have YO:=λE=>(show Rd E wt 1 ((xJ y.s.K aa).map hC)from t2 E).bD
  simp only[go_sem,simprocAttr,t1,YO];have e1:YL y aa=YK ((xJ y.s.K aa).foldl Ax y) aa:=rfl;rw[e1];have J: (xJ y.s.K aa).length<=32:=ajU (ajZ _ _) (nA _);generalize Bf:xJ y.s.K aa=L at*;have u: ∀z∈L,z<4294967296:=λz hz=>by
   rw[<-Bf]at hz;exact gn ((jt anf.K.b).1 (ajL.1 hz).1)
  refine gX L.length (λk e W' ak=> ∃G,LI bk p N H ((L.take k).foldl Ax y) G W' ak/\e 0= .ptr p 0/\e 1= .int .i64 aa/\e 80=wt/\e 81= .int .i64 L.length/\e 82= .int .i64 k) 0 (by omega) ?_ ?_
  ·simp only[go_sem,simprocAttr,C,B];exact⟨A,d⟩
  clear d Z hk C B r o j V t1 d2 d3;rintro k hk e T s ⟨A,d,C,B,r,o,j⟩ n hn;simp only[bO,go_sem,simprocAttr,ajf,d.dL.at',↓CL,C,B,r,o,j];refine⟨λV=>?_,λV=>?_⟩
  ·have g:k<L.length:=by omega
   have hr:=(show Rd ⟨T,s⟩ wt 1 (L.map hC)from t2 _);have c:=foldl_succ (f:=Ax) (a:=y) g;have O:=u (L.getD k default) (by simp[List.getD,g]);obtain⟨w',K⟩:=al4 ((L.take k).foldl Ax y).s.K d.ok.K (L.getD k default) O (d.ok.th _) T s;have K:=ly K;simp(disch:=omega) only[go_sem,simprocAttr,hr.bX,hr.cp,↓pH,d.dL.at',↓CL,CS,K,C,B,r,o,j];rw[c];exact⟨by omega,g,A,d.set (z:=Ax ((L.take k).foldl Ax y) (L.getD k default)) (d.ok.Dt (d.ok.tok.ret _)) rfl (ahT _)⟩
  ·obtain rfl:k=L.length:=by omega
   simp only[aiv]at d⊢;clear Bf J u YO t2 hk V;generalize L.foldl Ax y=z at*;obtain⟨wr,K,r2,r3⟩:=ayg z.s.O d.ok.O z.s.T d.ok.T d.ok.tr aa T s;have K:=ly K;have Q:=λE=>(show Rd E wr 1 ((jR z.s.O z.s.T (qC aa)).map hC)from r2 E).bD
   simp only[go_sem,simprocAttr,K,Q];have e1:YK z aa=OP ((jR z.s.O z.s.T (qC aa)).foldl gz z) aa:=by
    have: (λh=>decide (root z.s.T h=h)&&decide ((ch z.s.O z.s.T h).kind=1)&&decide ((ch z.s.O z.s.T h).aa=aa))=x5 z.s.O z.s.T (qC aa):=by funext h;simp[x5,qC,Bool.and_assoc]
    unfold YK jR OP;rw[this]
   rw[e1];have J: (jR z.s.O z.s.T (qC aa)).length<=32:=ajU (ajZ _ _) (nA _);have u: ∀a∈jR z.s.O z.s.T (qC aa),a<4294967296:=λa ha=>gn ((jt d.ok.T.b).1 (ajL.1 ha).1)
   generalize jR z.s.O z.s.T (qC aa)=W at*;refine gX W.length (λk e W' ak=> ∃G,LI bk p N H ((W.take k).foldl gz z) G W' ak/\e 0= .ptr p 0/\e 1= .int .i64 aa/\e 117=wr/\e 118= .int .i64 W.length/\e 119= .int .i64 k) 0 (by omega) ?_ ?_
   ·simp only[go_sem,simprocAttr,C,B];exact⟨A,d⟩
   clear d C B r o j K e1 Q;rintro k hk e T s ⟨A,d,C,B,r,o,j⟩ n hn;simp only[bO,go_sem,simprocAttr,aje,d.dL.at',↓CL,C,B,r,o,j];refine⟨λV=>?_,λV=>?_⟩
   ·have g:k<W.length:=by omega
    have hr:=(show Rd ⟨T,s⟩ wr 1 (W.map hC)from r2 _);have c:=foldl_succ (f:=gz) (a:=z) g;have O:=u (W.getD k default) (by simp[List.getD,g]);obtain⟨S,W2,P,g1,g2,Y⟩:=d.gone M (W.getD k default) O;simp(disch:=omega) only[go_sem,simprocAttr,hr.bX,hr.cp,↓pH,g1,C,B,r,o,j];rw[c];exact⟨by omega,g,S,g2⟩
   ·obtain rfl:k=W.length:=by omega
    simp only[aiv]at d⊢;clear J u r2 hk V;generalize W.foldl gz z=t at*;obtain⟨wh,K,r2,r3⟩:=ayh t.s.O d.ok.O t.s.T d.ok.T d.ok.tr aa (by omega) T s;have K:=ly K;have Q:=λE=>(show Rd E wh 1 ((jR t.s.O t.s.T (oZ aa)).map hC)from r2 E).bD
    simp only[go_sem,simprocAttr,K,Q];have e1:OP t aa=(jR t.s.O t.s.T (oZ aa)).foldlM (λy h=>jP y h aa) t:=by
     have: (λh=>decide (root t.s.T h=h)&&decide ((ch t.s.O t.s.T h).kind=3)&& (decide (aa<8)&&oM (ch t.s.O t.s.T h).hold aa))=x5 t.s.O t.s.T (oZ aa):=by funext h;simp[x5,oZ,Bool.and_assoc]
     unfold jR OP;rw[this]
    rw[e1];have J: (jR t.s.O t.s.T (oZ aa)).length<=32:=ajU (ajZ _ _) (nA _);have u: ∀a∈jR t.s.O t.s.T (oZ aa),a<4294967296:=λa ha=>gn ((jt d.ok.T.b).1 (ajL.1 ha).1)
    generalize jR t.s.O t.s.T (oZ aa)=U at*;refine gX U.length (λk e W' ak=> ∃y G,(U.take k).foldlM (λy h=>jP y h aa) t= .ok y/\LI bk p N H y G W' ak/\e 0= .ptr p 0/\e 1= .int .i64 aa/\e 140=wh/\e 141= .int .i64 U.length/\e 142= .int .i64 k) 0 (by omega) ?_ ?_
    ·simp only[go_sem,simprocAttr,C,B];exact⟨t,A,rfl,d⟩
    clear d C B r o j K e1 Q;rintro k hk e T s ⟨y,A,Z,d,C,B,r,o,j⟩ n hn;simp only[bO,go_sem,simprocAttr,ajd,r,o,j];refine⟨λV=>?_,λV=>?_⟩
    ·have g:k<U.length:=by omega
     have hr:=(show Rd ⟨T,s⟩ wh 1 (U.map hC)from r2 _);have c:=foldlM_succ (f:=λy h=>jP y h aa) (a:=t) g;rw[Z,okB]at c;have O:=u (U.getD k default) (by simp[List.getD,g]);obtain⟨cr,g1,g2⟩:=am2 s d.at' d.ok (U.getD k default) O aa (by omega) (by have:=YI d.ok (U.getD k default);have:=d.eW;omega);cases Ed:jP y (U.getD k default) aa with
     |ok z3=>
      rw[Ed]at g2 c;obtain⟨S,W2,P,rfl,g2,Y,g4⟩:=g2;have hd:=azu d.ok O Ed;simp(disch:=omega) only[go_sem,simprocAttr,hr.bX,hr.cp,↓pH,g1,C,B,r,o,j];exact⟨by omega,g,z3,S,c,d.next M g2 Y g4 hd.1 hd.2⟩
     |error e'=>
      rw[Ed]at g2 c;have g2:cr=_:=g2;rw[g2]at g1;simp(disch:=omega) only[go_sem,simprocAttr,hr.bX,hr.cp,↓pH,g1,am6,EP,C,B];refine⟨by omega,?_⟩;obtain⟨H2,P,g1,g2,Y⟩:=LI.err (v:=jc e') (lo:=lo) M d hN (abX _);rw[am8 c,g1];exact⟨_,_,rfl,g2,Y⟩
    ·obtain rfl:k=U.length:=by omega
     rw[aiv]at Z;rw[Z];obtain⟨H2,P,g1,g2,Y,g4⟩:=d.done M (v:=.au []) (lo:=lo) hN ha (abX _);rw[g1];exact⟨_,_,_,rfl,g2,Y,g4⟩
end
section
variable{x:ar}{bk:AV}{p:Nat}{H:List ae}(lo:oN)(ha:At p x bk H)(hx:m4 x)
include ha hx
theorem azy(l:eW x<=2048): ∃j,D XA (.fn (.func KH) [] []) [.ptr p 0] ⟨H,lo⟩=some j/\uF p H lo (nI x x.aa>>=λy=>.ok (y,b8)) j:=by
 refine cE Ny λN f=>?_
 have ho:Old p H (.box (aY x bk) none):=⟨ha.box⟩;have c:p<N:=by rw[<-f];exact ho.lt
 obtain⟨j,g1,g2⟩:=am9 (bk:=bk) (H:=H++[.box [.int .i64 0,.int .u64 0,.int .u32 0] none]) none ⟨ho.g _,ha.own.ext⟩ hx.s x.aa hx.t l;cases k:nI x x.aa with
 |error e=>
  rw[k]at g2;obtain⟨W,ak,rfl,g,i⟩:=g2;simp only[go_sem,simprocAttr,Ny,f,ho.g,↓CL,g1,EP];obtain⟨n,h,f1,f2,f3⟩:=OO (v:=jc e) (lo:=lo) f c g (i.imp And.left id) (abX _);rw[f1,c8];exact⟨_,_,rfl,f2,f3⟩
 |ok y=>
  rw[k]at g2;obtain⟨m,W,ak,rfl,g2,g,i⟩:=g2;have b:W[N]?=some (.box [.int .i64 0,.int .u64 0,.int .u32 0] none):=g.box N _ (by omega) (λa d e=>by cases e) (by grind);simp only[go_sem,simprocAttr,Ny,f,ho.g,↓CL,g1,b,cx b];obtain⟨n,h,f1,f2,f3,f4⟩:=Aw (v:=.agg [.int .i64 0,.int .u64 0,.int .u32 0]) (lo:=lo) f c Dw g2 g (i.imp (λq=>⟨q.1,.inl q.2.1,trivial⟩) id) (abX _) b (.box [.int .i64 0,.int .u64 0,.int .u32 0] none);rw[f1,okB];exact⟨_,_,_,rfl,f2,f3,f4⟩
theorem azz(o:eW x<=2048): ∃m,D XA (.fn (.func KI) [] []) [.ptr p 0] ⟨H,lo⟩=some m/\uF p H lo (xN x) m:=by
 refine cE GX λN f=>?_
 have ho:Old p H (.box (aY x bk) none):=⟨ha.box⟩;have g:p<N:=by rw[<-f];exact ho.lt
 have r:xN x=mi x x.c.a>>=λ_=>nI x x.c.a>>=λy=>.ok (y,b8):=rfl
 have h:=λB lo=>OJ (ho.app B) lo x.c.a
 rw[r];by_cases k:x.c.a<8
 ·obtain⟨m,g1,g2⟩:=am9 (bk:=bk) (H:=H++[.box [.int .i64 0,.int .u64 0,.int .u32 0] none]) none ⟨ho.g _,ha.own.ext⟩ hx.s x.c.a k o;cases n:nI x x.c.a with
  |error e=>
   rw[n]at g2;obtain⟨W,ak,rfl,i,l⟩:=g2;simp(disch:=omega) only[F1,go_sem,simprocAttr,GX,f,ho.g,↓CL,h,g1,dS,dU,EP];obtain⟨u,j,f1,f2,f3⟩:=OO (v:=jc e) (lo:=lo) f g i (l.imp And.left id) (abX _);rw[f1]
   (repeat' (first| (refine⟨?_,?_⟩)|intro _))
   ·rename_i b;rw[b,okB,c8];exact⟨_,_,rfl,f2,f3⟩
   ·rename_i s b;rw[b,c8];exact .err
  |ok y=>
   rw[n]at g2;obtain⟨t,W,ak,rfl,g2,i,l⟩:=g2;have c:W[N]?=some (.box [.int .i64 0,.int .u64 0,.int .u32 0] none):=i.box N _ (by omega) (λa d e=>by cases e) (by rw[dn f];rfl);simp(disch:=omega) only[F1,go_sem,simprocAttr,GX,f,ho.g,↓CL,h,g1,c,cx c,dS,dU,EP];obtain⟨u,j,f1,f2,f3,f4⟩:=Aw (v:=.agg [.int .i64 0,.int .u64 0,.int .u32 0]) (lo:=lo) f g Dw g2 i (l.imp (λq=>⟨q.1,.inl q.2.1,trivial⟩) id) (abX _) c (.box [.int .i64 0,.int .u64 0,.int .u32 0] none);rw[f1]
   (repeat' (first| (refine⟨?_,?_⟩)|intro _))
   ·rename_i b;rw[b,okB,okB];exact⟨_,_,_,rfl,f2,f3,f4⟩
   ·rename_i s b;rw[b,c8];exact .err
 ·rw[ya k]at h;simp only[F1,go_sem,simprocAttr,GX,f,ho.g,↓CL,h,dZ,EP];rw[ya k,c8];exact .err
end
def sf:Nat->oN
 |1=>some Kq|2=>some Kr|3=>some Ks|4=>some Kt|5=>some Ku
 |6=>some Kv|7=>some Kw|8=>some Kx|9=>some Ky|10=>some Kz
 |11=>some KA|12=>some KB|13=>some KC|14=>some KD|15=>some BN
 |16=>some BN|17=>some KE|18=>some KF|19=>some KG|20=>some KH
 |21=>some KI|22=>some KJ|_=>none
def azA{H:List ae}(lo:oN)(d:At p x bk H)(b:m4 x)(j:eW x<=2048){f:Nat}(g:sf x.c.op=some f):
  ∃c,D XA (.fn (.func f) [] []) [.ptr p 0] ⟨H,lo⟩=some c/\uF p H lo (kx x) c:=by
 have ho:Old p H (.box (aY x bk) none):=⟨d.box⟩;have hB: ∀a,x.back.length+64*(under x.s.T a).length<=4294967296:=λa=>by have:=YI b.s a;omega
 have i:x.back.length<=4294967296:=by have:=hB 0;omega
 have ex: ∀ {f:Nat} {m:R (ar×bF)},(∃c,D XA (.fn (.func f) [] []) [.ptr p 0] ⟨H,lo⟩=some c/\bb x.back bk p H lo m c)-> ∃c,D XA (.fn (.func f) [] []) [.ptr p 0] ⟨H,lo⟩=some c/\uF p H lo m c:=λh=>by
  obtain⟨c,l,k⟩:=h;exact⟨c,l,k.c d⟩
 unfold sf at g;unfold kx;split at g<;>(try cases g)<;>(rename_i e;simp only[e])
 ·exact ex (ay8 ho b)
 ·exact ex (azb ho b)
 ·exact ex (ayV ho b)
 ·exact ex (ayW ho b)
 ·exact azh lo d b i
 ·exact azg lo d b (hB _)
 ·exact ex (ay5 ho b)
 ·exact ex (ayZ ho b)
 ·exact ex (ay6 ho b)
 ·exact ex (ay0 ho b)
 ·exact azk lo d b (hB _)
 ·exact ex (ay9 ho b)
 ·exact ex (ay2 ho b)
 ·exact ex (aza ho b)
 ·exact ex (amV ho b)
 ·exact ex (amV ho b)
 ·exact ex (ay1 ho b)
 ·exact ex (ay4 ho b)
 ·exact ex (ayY ho b)
 ·exact azy lo d b j
 ·exact azz lo d b j
 ·exact ex (ay3 ho b)
def azB(h:sf x.c.op=none):kx x= .error 2:=by
 unfold sf at h;unfold kx
 grind
noncomputable def HL:lA->AS->Option aS:=wU XA (D XA) Lw x9 wY xw
def azC(p:Nat)(H:List ae)(lo:oN):R (ar×bF)->aS->Prop
 |.ok (y,r),a=> ∃b H' ak,a= .ret (.agg (bG r)) ⟨H',ak⟩/\At p y b H'/\bT p H H'/\Av p H H' lo ak
 |.error e,a=> ∃H' ak,a= .ret (.agg (bG {b8 with e:=e})) ⟨H',ak⟩/\bT p H H'/\Av p H H' lo ak
def azD{K:AS->Prop}{H:List ae}(h:K ⟨H,lo⟩):rf XA x9 (.fn (.func BA) [] [.ptr q 0]) [] .eI ⟨H,lo⟩ K:=by
 refine JE (pr:=xx) rfl rfl λn a=>?_
 simp(disch:=omega) only[F1,go_sem,simprocAttr,xx,amD];exact⟨.inl trivial,.au [],rfl,by trivial⟩
def OQ{K:AS->Prop}{H:List ae}{a b c:AV}(e:Nat)(d:H[q]?=some (.box [a,b,c] none))(h:K ⟨H.set q (.box [.int .i64 e,.int .u64 0,.int .u32 0] none),lo⟩):rf XA x9 (.fn (.func BA) [] [.ptr q 0]) [] (jc e) ⟨H,lo⟩ K:=by
 refine JE (pr:=xx) rfl rfl λn f=>?_
 simp only[F1,go_sem,simprocAttr,xx,amE,d,amF];refine⟨.inl trivial,.au [],rfl,?_⟩;rw[aaR (show(AV.au []).refs<=n from abX _),abk (by grind)];exact h
def ang{H:List ae}(lo:oN)(J:At p x bk H)(K:bm x.s)(P:jT x.c)(M:x.run.1<4294967296/\x.run.2<4294967296)(T:x.aa<4294967296)(O:eW x<=2048)
  (o: ∀E,gV XA.fo E .int .cR (.jh vq) (.int .u8 x.c.op) true=some (match sf x.c.op with|some f=>.au [.fn (.func f) [] [],.bool true]|none=>.au [.cR,.bool false])):
  ∃G,HL [.ptr p 0] ⟨H,lo⟩=some G/\azC p H lo (ju x) G:=by
 refine Rw xw rfl rfl λN g=>?_
 have ho:Old p H (.box (aY x bk) none):=⟨J.box⟩;have m:p<N:=by rw[<-g];exact ho.lt
 have c: ∀b H lo,D XA (.fn (.func cX) [] []) [.bool b,.int .i64 12] ⟨H,lo⟩=_:=λb=>lI b 12
 by_cases w:x.aa<8
 ·have s: (x.aa:Int)<8:=by omega
  have c0: (x.aa:Int)>=0:=by omega
  have hand:dq .and (.int .i64 (x.aa:Nat)) (.int .i64 7)=some (.int .i64 (x.aa:Nat)):=by
   rcases(show x.aa=0\/x.aa=1\/x.aa=2\/x.aa=3\/x.aa=4\/x.aa=5\/x.aa=6\/x.aa=7 by omega)with h|h|h|h|h|h|h|h<;>rw[h]<;>rfl
  have n: ∀E,cb XA E false 1 (.dp vq)=some (.jh vq):=λE=>rfl
  have i:=λbk=> @Yp x bk x.aa w
  cases l:x.s.alive x.aa with
  |false=>
   rw[l]at i;have c: ∀H lo,D XA (.fn (.func cX) [] []) [.bool false,.int .i64 12] ⟨H,lo⟩=_:=λH lo=>lx (Ar 12 H lo)
   simp only[go_sem,simprocAttr,xw,g,j9,j8,ho.g,↓CL,s,c0,hand,↓i,c,jd];refine⟨rfl,?_⟩;rw[oz];refine OQ 12 (by rw[dn g];rfl) ?_;have u:ju x= .error 12:=by
    have: (decide (x.aa<8)&&x.s.alive x.aa)=false:=by rw[l,aud]
    unfold ju;rw[this];rfl
   simp(disch:=omega) only[F1,go_sem,simprocAttr];rw[u];exact⟨_,_,rfl,bT.refl _ _,.inl ⟨rfl,rfl,trivial⟩⟩
  |true=>
   rw[l]at i;have c: ∀H lo,D XA (.fn (.func cX) [] []) [.bool true,.int .i64 12] ⟨H,lo⟩=_:=λH lo=>lx (HE 12 H lo)
   have u:ju x=kx x:=by
    have: (decide (x.aa<8)&&x.s.alive x.aa)=true:=by rw[l,abj w];rfl
    unfold ju;rw[this];rfl
   rw[u];cases k:sf x.c.op with
   |none=>
    rw[k]at o;have z: ∀H lo,D XA (.fn (.func cX) [] []) [.bool false,.int .i64 2] ⟨H,lo⟩=_:=λH lo=>lx (Ar 2 H lo)
    simp only at o;simp only[go_sem,simprocAttr,xw,g,j9,j8,ho.g,↓CL,s,c0,hand,↓i,c,n,o,z];refine⟨rfl,?_⟩;rw[oz];refine OQ 2 (by rw[dn g];rfl) ?_;simp(disch:=omega) only[F1,go_sem,simprocAttr];rw[azB k];exact⟨_,_,rfl,bT.refl _ _,.inl ⟨rfl,rfl,trivial⟩⟩
   |some f=>
    rw[k]at o;simp only at o;have z: ∀H lo,D XA (.fn (.func cX) [] []) [.bool true,.int .i64 2] ⟨H,lo⟩=_:=λH lo=>lx (HE 2 H lo)
    obtain⟨G,g1,g2⟩:=azA (bk:=bk) (H:=H++[.box [.int .i64 0,.int .u64 0,.int .u32 0] none]) none ⟨ho.g _,J.own.ext⟩ ⟨K,w,P,M⟩ O k;cases I:kx x with
    |error e=>
     rw[I]at g2;obtain⟨W,ak,rfl,t,F⟩:=g2;have j:W[N]?=some (.box [.int .i64 0,.int .u64 0,.int .u32 0] none):=t.box N _ (by omega) (λa d e=>by cases e) (by rw[dn g];rfl);simp only[go_sem,simprocAttr,xw,g,j9,j8,ho.g,↓CL,s,c0,hand,↓i,c,n,o,z,g1];refine⟨rfl,?_⟩;rw[oz];refine OQ e j ?_;simp only[go_sem,simprocAttr,cx j];have Q:bT p (H++[]) (W.set N (.box [.int .i64 (e:Nat),.int .u64 0,.int .u32 0] none)):=by
      rw[ajJ];exact am1 g m (YE (N:=N) t (by omega)) _
     obtain⟨S,A,f1,f2,f3⟩:=OO (v:=.agg [.int .i64 (e:Nat),.int .u64 0,.int .u32 0]) (lo:=lo) g m Q (F.imp And.left id) (abX _);rw[f1];exact⟨_,_,rfl,f2,f3⟩
    |ok a=>
     rw[I]at g2;obtain⟨y,r⟩:=a;obtain⟨R,W,ak,rfl,g2,t,F⟩:=g2;have j:W[N]?=some (.box [.int .i64 0,.int .u64 0,.int .u32 0] none):=t.box N _ (by omega) (λa d e=>by cases e) (by rw[dn g];rfl);simp only[go_sem,simprocAttr,xw,g,j9,j8,ho.g,↓CL,s,c0,hand,↓i,c,n,o,z,g1,j];refine⟨rfl,rfl,?_⟩;rw[EL];refine azD ?_;have L:List.drop (bG r).length [AV.int .i64 0,.int .u64 0,.int .u32 0]=[]:=rfl;have B:List.take 3 (bG r)=bG r:=rfl;have C: (bG r).length=3:=rfl;simp only[go_sem,simprocAttr,cx j,B,C];obtain⟨S,A,f1,f2,f3,f4⟩:=Aw (v:=.agg (bG r)) (lo:=lo) g m Dw g2 t (F.imp (λq=>⟨q.1,.inl q.2.1,trivial⟩) id) (abX _) j (.box (bG r) none);rw[aaR (show aG (bG r)<=N+1 from abX _),f1];exact⟨_,_,_,rfl,f2,f3,f4⟩
 ·have s: ¬(x.aa:Int)<8:=by omega
  have c0: (x.aa:Int)>=0:=by omega
  have c: ∀H lo,D XA (.fn (.func cX) [] []) [.bool false,.int .i64 12] ⟨H,lo⟩=_:=λH lo=>lx (Ar 12 H lo)
  simp only[go_sem,simprocAttr,xw,g,j9,j8,ho.g,↓CL,s,c0,c,jd];refine⟨rfl,?_⟩;rw[oz];refine OQ 12 (by rw[dn g];rfl) ?_;have u:ju x= .error 12:=by
   have: (decide (x.aa<8)&&x.s.alive x.aa)=false:=by rw[abi w];rfl
   unfold ju;rw[this];rfl
  simp(disch:=omega) only[F1,go_sem,simprocAttr];rw[u];exact⟨_,_,rfl,bT.refl _ _,.inl ⟨rfl,rfl,trivial⟩⟩
noncomputable def XB:Ctx:={XA with bZ:=λf=>if f=wY then some HL else XA.bZ f}
theorem anh:Ext XA XB where
 dp:=rfl
 fo:=rfl
 code:=rfl
 bZ:=λf=>by
  by_cases a:f=wY
  ·subst a;exact .inr ⟨rfl,rfl⟩
  ·left;show(if f=wY then some HL else XA.bZ f)=XA.bZ f
   grind
theorem OR{args:lA}{E:AS}{a:AS}(h:HL args E=some (.ret v a)):D XB (.fn (.func wY) [] []) args E=some (.ret v a):=EJ rfl h
def NE{α:Type}(m:R α):Prop:=m≠ .error 0
theorem NE.ok{a:α}:NE (.ok a:R α):=by intro h;cases h
theorem NE.pure{a:α}:NE (Pure.pure a:R α):=by intro h;cases h
def NE.err(a:e≠0):NE (.error e:R α):=by intro h;grind
def NE.bind{m:R α}{f:α->R β}(b:NE m)(c: ∀a,NE (f a)):NE (m>>=f):=by
 cases m with
 |error e=>intro h;cases h;exact b rfl
 |ok a=>exact c a
def NE.ask{b:Bool}(a:e≠0):NE (ask b e):=by
 unfold Go.Proofs.YteplichagkpciaaGreatDoor.ask;split
 ·exact NE.ok
 ·exact NE.err a
def NE.bc:NE (bc e):=by
 unfold Go.Proofs.YteplichagkpciaaGreatDoor.bc;split
 ·exact NE.ok
 ·exact NE.err ‹_›
theorem NE.foldlM{α β:Type}{f:α->β->R α}(h: ∀a b,NE (f a b)): ∀ (l:List β) (a:α),NE (l.foldlM f a)
 | [],_=>NE.pure
 |b::l,a=>NE.bind (h a b) λa=>NE.foldlM h l a
def kA{h w:Nat}:NE (fL x h w):=NE.bc
def kB{t:Nat}:NE (mi x t):=NE.ask (by decide)
def jy{h t:Nat}:NE (mZ x h t):=by(repeat (first|rfl|exact NE.pure|exact NE.bc|rfl|rfl|rfl|rfl|rfl| (refine NE.bind ?_ λ_=>?_)|rfl|split|rfl))
def kC{h:Nat}{r:dk}:NE (nG x h r):=by(repeat (first|rfl|exact NE.pure|exact NE.bc|rfl|rfl|rfl|rfl|rfl| (refine NE.bind ?_ λ_=>?_)|rfl|split|rfl))
def kE{h:Nat}:NE (vP x h):=by(repeat (first|rfl|exact NE.pure|exact NE.bc|rfl|rfl|rfl|rfl|rfl| (refine NE.bind ?_ λ_=>?_)|rfl|split|rfl))
def kG{h:Nat}:NE (xM x h):=by(repeat (first|rfl|rfl|rfl|exact NE.ask (by decide)|rfl|rfl|rfl|rfl| (refine NE.bind ?_ λ_=>?_)|rfl|split|rfl))
def jz{h t:Nat}:NE (jP x h t):=by unfold jP;(repeat (first|rfl|exact NE.pure|exact NE.bc|rfl|rfl|rfl|rfl|rfl| (refine NE.bind ?_ λ_=>?_)| (refine NE.foldlM (λ_ _=>?_) _ _)|split|dsimp only))
def jU{t:Nat}:NE (nI x t):=by
 have b:= @jy;have a:= @jz;unfold nI;(repeat (first|exact NE.ok|exact NE.pure|exact NE.bc|exact NE.ask (by decide)|exact NE.err (by decide)|exact kA|exact kB|assumption| (refine NE.bind ?_ λ_=>?_)| (refine NE.foldlM (λ_ _=>?_) _ _)|split|dsimp only))
 all_goals first|exact jy|exact jz
def azE{t:Nat}:NE (rS x t):=by(repeat (first|rfl|exact NE.pure|exact NE.bc|exact NE.ask (by decide)|rfl|rfl|rfl|rfl| (refine NE.bind ?_ λ_=>?_)|rfl|split|rfl))
def azF(x:ar):NE (qq x):=by
 unfold qq;(repeat (first|exact NE.ok|exact NE.pure|exact NE.bc|exact NE.ask (by decide)|exact NE.err (by decide)|exact kA|exact kB|assumption| (refine NE.bind ?_ λ_=>?_)| (refine NE.foldlM (λ_ _=>?_) _ _)|split|dsimp only))
 all_goals first|exact jy|exact kC|exact kE|exact kG|exact jz|exact jU
def azG(x:ar):NE (jO x):=by
 unfold jO;(repeat (first|exact NE.ok|exact NE.pure|exact NE.bc|exact NE.ask (by decide)|exact NE.err (by decide)|exact kA|exact kB|assumption| (refine NE.bind ?_ λ_=>?_)| (refine NE.foldlM (λ_ _=>?_) _ _)|split|dsimp only))
 all_goals first|exact jy|exact kC|exact kE|exact kG|exact jz|exact jU
def azH(x:ar):NE (uk x):=by
 unfold uk;(repeat (first|exact NE.ok|exact NE.pure|exact NE.bc|exact NE.ask (by decide)|exact NE.err (by decide)|exact kA|exact kB|assumption| (refine NE.bind ?_ λ_=>?_)| (refine NE.foldlM (λ_ _=>?_) _ _)|split|dsimp only))
 all_goals first|exact jy|exact kC|exact kE|exact kG|exact jz|exact jU
def azI(x:ar):NE (um x):=by
 unfold um;(repeat (first|rfl|exact NE.pure|rfl|rfl|rfl|exact kA|exact kB|assumption| (refine NE.bind ?_ λ_=>?_)| (refine NE.foldlM (λ_ _=>?_) _ _)|split|dsimp only))
 all_goals first|exact jy|exact kC|exact kE|exact kG|exact jz|exact jU
def azJ(x:ar):NE (vQ x):=by
 unfold vQ;(repeat (first|exact NE.ok|exact NE.pure|exact NE.bc|exact NE.ask (by decide)|exact NE.err (by decide)|exact kA|exact kB|assumption| (refine NE.bind ?_ λ_=>?_)| (refine NE.foldlM (λ_ _=>?_) _ _)|split|dsimp only))
 all_goals first|exact jy|exact kC|exact kE|exact kG|exact jz|exact jU
def azK(x:ar):NE (vR x):=by
 unfold vR;(repeat (first|exact NE.ok|exact NE.pure|exact NE.bc|exact NE.ask (by decide)|exact NE.err (by decide)|exact kA|exact kB|assumption| (refine NE.bind ?_ λ_=>?_)| (refine NE.foldlM (λ_ _=>?_) _ _)|split|dsimp only))
 all_goals first|exact jy|exact kC|exact kE|exact kG|exact jz|exact jU
def azL(x:ar):NE (vS x):=by
 unfold vS;(repeat (first|exact NE.ok|exact NE.pure|exact NE.bc|exact NE.ask (by decide)|exact NE.err (by decide)|exact kA|exact kB|assumption| (refine NE.bind ?_ λ_=>?_)| (refine NE.foldlM (λ_ _=>?_) _ _)|split|dsimp only))
 all_goals first|exact jy|exact kC|exact kE|exact kG|exact jz|exact jU
def azM(x:ar):NE (uo x):=by
 unfold uo;(repeat (first|rfl|exact NE.pure|exact NE.bc|exact NE.ask (by decide)|exact NE.err (by decide)|exact kA|exact kB|assumption| (refine NE.bind ?_ λ_=>?_)| (refine NE.foldlM (λ_ _=>?_) _ _)|split|dsimp only))
 all_goals first|exact jy|exact kC|exact kE|exact kG|exact jz|exact jU
def azN(x:ar):NE (qt x):=by
 unfold qt;(repeat (first|exact NE.ok|exact NE.pure|exact NE.bc|exact NE.ask (by decide)|exact NE.err (by decide)|exact kA|exact kB|assumption| (refine NE.bind ?_ λ_=>?_)| (refine NE.foldlM (λ_ _=>?_) _ _)|split|dsimp only))
 all_goals first|exact jy|exact kC|exact kE|exact kG|exact jz|exact jU
def azO(x:ar):NE (vU x):=by
 unfold vU;(repeat (first|exact NE.ok|exact NE.pure|exact NE.bc|exact NE.ask (by decide)|exact NE.err (by decide)|exact kA|exact kB|assumption| (refine NE.bind ?_ λ_=>?_)| (refine NE.foldlM (λ_ _=>?_) _ _)|split|dsimp only))
 all_goals first|exact jy|exact kC|exact kE|exact kG|exact jz|exact jU
def azP(x:ar):NE (nH x):=by
 unfold nH;(repeat (first|exact NE.ok|exact NE.pure|exact NE.bc|exact NE.ask (by decide)|exact NE.err (by decide)|exact kA|exact kB|assumption| (refine NE.bind ?_ λ_=>?_)| (refine NE.foldlM (λ_ _=>?_) _ _)|split|dsimp only))
 all_goals first|exact jy|exact kC|exact kE|exact kG|exact jz|exact jU
def azQ(x:ar):NE (oP x):=by
 unfold oP;(repeat (first|exact NE.ok|exact NE.pure|exact NE.bc|exact NE.ask (by decide)|exact NE.err (by decide)|exact kA|exact kB|assumption| (refine NE.bind ?_ λ_=>?_)| (refine NE.foldlM (λ_ _=>?_) _ _)|split|dsimp only))
 all_goals first|exact jy|exact kC|exact kE|exact kG|exact jz|exact jU
def azR(x:ar):NE (vV x):=by
 unfold vV;(repeat (first|rfl|exact NE.pure|exact NE.bc|exact NE.ask (by decide)|exact NE.err (by decide)|exact kA|exact kB|assumption| (refine NE.bind ?_ λ_=>?_)| (refine NE.foldlM (λ_ _=>?_) _ _)|split|dsimp only))
 all_goals first|exact jy|exact kC|exact kE|exact kG|exact jz|exact jU
def azS(x:ar):NE (oQ x):=by
 unfold oQ;(repeat (first|exact NE.ok|exact NE.pure|exact NE.bc|exact NE.ask (by decide)|exact NE.err (by decide)|exact kA|exact kB|assumption| (refine NE.bind ?_ λ_=>?_)| (refine NE.foldlM (λ_ _=>?_) _ _)|split|dsimp only))
 all_goals first|exact jy|exact kC|exact kE|exact kG|exact jz|exact jU
def azT(x:ar):NE (vW x):=by
 unfold vW;(repeat (first|exact NE.ok|exact NE.pure|exact NE.bc|exact NE.ask (by decide)|exact NE.err (by decide)|exact kA|exact kB|assumption| (refine NE.bind ?_ λ_=>?_)| (refine NE.foldlM (λ_ _=>?_) _ _)|split|dsimp only))
 all_goals first|exact jy|exact kC|exact kE|exact kG|exact jz|exact jU
def azU(x:ar):NE (rT x):=by
 unfold rT;(repeat (first|rfl|exact NE.pure|rfl|exact NE.ask (by decide)|rfl|rfl|rfl|rfl| (refine NE.bind ?_ λ_=>?_)| (refine NE.foldlM (λ_ _=>?_) _ _)|split|dsimp only))
 all_goals first|exact jy|exact kC|exact kE|exact kG|exact jz|exact jU
def azV(x:ar):NE (vT x):=by
 unfold vT;(repeat (first|exact NE.ok|exact NE.pure|exact NE.bc|exact NE.ask (by decide)|exact NE.err (by decide)|exact kA|exact kB|assumption| (refine NE.bind ?_ λ_=>?_)| (refine NE.foldlM (λ_ _=>?_) _ _)|split|dsimp only))
 all_goals first|exact jy|exact kC|exact kE|exact kG|exact jz|exact jU
def azW(x:ar):NE (xN x):=by
 unfold xN;(repeat (first|exact NE.ok|exact NE.pure|exact NE.bc|exact NE.ask (by decide)|exact NE.err (by decide)|exact kA|exact kB|assumption| (refine NE.bind ?_ λ_=>?_)| (refine NE.foldlM (λ_ _=>?_) _ _)|split|dsimp only))
 all_goals first|exact jy|exact kC|exact kE|exact kG|exact jz|exact jU
def azX(x:ar):NE (kx x):=by
 unfold kx;split<;>first|exact azF x|exact azG x|exact azE|exact azH x|exact azI x|exact azJ x|exact azK x|exact azL x|exact azM x|exact azV x|exact azN x|exact azO x|exact azP x|exact azQ x|exact azR x|exact azS x|exact azT x|exact azW x|exact azU x|exact NE.err (by decide)|exact NE.bind jU λ_=>NE.pure
def ani(h:ju x= .error e):e≠0:=by
 intro he;subst he;exact NE.bind (NE.ask (by decide)) (λ_=>azX x) h
def EZ(m:R (ar×bF)):Prop:= ∀a,m= .ok a->a.2.e=0
theorem EZ.ok{a:ar×bF}(h:a.2.e=0):EZ (.ok a):=by intro b c;grind
theorem EZ.pure{a:ar×bF}(h:a.2.e=0):EZ (Pure.pure a:R (ar×bF)):=by intro b c;cases c;exact h
def EZ.err:EZ (.error e):=by intro b a;cases a
def EZ.bind{m:R α}{f:α->R (ar×bF)}(c: ∀a,EZ (f a)):EZ (m>>=f):=by
 cases m with
 |error e=>intro b d;cases d
 |ok a=>exact c a
def azY(x:ar):EZ (qq x):=by unfold qq;(repeat (first|rfl|exact EZ.pure rfl|rfl|rfl| (refine EZ.bind λ_=>?_)|split|rfl))
def azZ(x:ar):EZ (jO x):=by unfold jO;(repeat (first|rfl|exact EZ.pure rfl|rfl|rfl| (refine EZ.bind λ_=>?_)|split|simp))
def az0(x:ar):EZ (uk x):=by(repeat (first|rfl|exact EZ.pure rfl|rfl|rfl| (refine EZ.bind λ_=>?_)|split|rfl))
def az1(x:ar):EZ (um x):=by(repeat (first|rfl|exact EZ.pure rfl|rfl|rfl| (refine EZ.bind λ_=>?_)|split|rfl))
def az2(x:ar):EZ (vQ x):=by(repeat (first|rfl|exact EZ.pure rfl|rfl|rfl| (refine EZ.bind λ_=>?_)|split|rfl))
def az3(x:ar):EZ (vR x):=by(repeat (first|rfl|exact EZ.pure rfl|rfl|rfl| (refine EZ.bind λ_=>?_)|split|rfl))
def az4(x:ar):EZ (vS x):=by(repeat (first|rfl|exact EZ.pure rfl|rfl|rfl| (refine EZ.bind λ_=>?_)|split|rfl))
def az5(x:ar):EZ (uo x):=by(repeat (first|rfl|exact EZ.pure rfl|rfl|rfl| (refine EZ.bind λ_=>?_)|split|rfl))
def az6(x:ar):EZ (qt x):=by(repeat (first|rfl|exact EZ.pure rfl|rfl|rfl| (refine EZ.bind λ_=>?_)|split|rfl))
def az7(x:ar):EZ (vU x):=by(repeat (first|rfl|exact EZ.pure rfl|rfl|rfl| (refine EZ.bind λ_=>?_)|split|rfl))
def az8(x:ar):EZ (nH x):=by(repeat (first|rfl|exact EZ.pure rfl|rfl|rfl| (refine EZ.bind λ_=>?_)|split|simp))
def az9(x:ar):EZ (oP x):=by(repeat (first|rfl|exact EZ.pure rfl|rfl|rfl| (refine EZ.bind λ_=>?_)|split|simp))
def aAa(x:ar):EZ (vV x):=by(repeat (first|rfl|exact EZ.pure rfl|rfl|rfl| (refine EZ.bind λ_=>?_)|split|rfl))
def aAb(x:ar):EZ (oQ x):=by(repeat (first|rfl|exact EZ.pure rfl|rfl|rfl| (refine EZ.bind λ_=>?_)|split|rfl))
def aAc(x:ar):EZ (vW x):=by(repeat (first|rfl|exact EZ.pure rfl|rfl|rfl| (refine EZ.bind λ_=>?_)|split|rfl))
def aAd(x:ar):EZ (rT x):=by(repeat (first|rfl|exact EZ.pure rfl|rfl|rfl| (refine EZ.bind λ_=>?_)|split|rfl))
def aAe(x:ar):EZ (vT x):=by(repeat (first|rfl|exact EZ.pure rfl|rfl|rfl| (refine EZ.bind λ_=>?_)|split|rfl))
def aAf(x:ar):EZ (xN x):=by(repeat (first|rfl|exact EZ.pure rfl|rfl|rfl| (refine EZ.bind λ_=>?_)|split|rfl))
def aAg{t:Nat}:EZ (rS x t):=by(repeat (first|rfl|exact EZ.pure rfl|rfl|rfl| (refine EZ.bind λ_=>?_)|split|rfl))
def aAh(x:ar):EZ (kx x):=by
 unfold kx;split<;>first|exact azY x|exact azZ x|exact aAg|exact az0 x|exact az1 x|exact az2 x|exact az3 x|exact az4 x|exact az5 x|exact aAe x|exact az6 x|exact az7 x|exact az8 x|exact az9 x|exact aAa x|exact aAb x|exact aAc x|exact aAf x|exact aAd x|exact EZ.err|exact EZ.bind λ_=>EZ.pure rfl
def YP(h:ju x= .ok (y,r)):r.e=0:=(show EZ (ju x)from EZ.bind λ_=>aAh x) _ h
theorem aAi(s:bI)(aa:Nat)(c:cz)(run:aE):dR s aa c run=match ju ⟨s,aa,c,run,0,false,[]⟩with
  |.ok (y,r)=>(y.s,r,y.back)
  |.error e=>(s,{b8 with e:=e},[]):=by
 unfold dR;cases h:ju ⟨s,aa,c,run,0,false,[]⟩with
 |error e=>rfl
 |ok a=>exact aaR (YP h)
theorem anj{t:Nat}:aH (aY x bk) 952 [.int .i64 t]=aY {x with aa:=t} bk:=by rw[Dl (by omega)];rfl
theorem ank{c:cz}:aH (aY x bk) 953 (bg c)=aY {x with c:=c} bk:=by rw[Dl (by omega)];rfl
theorem anl{r:aE}:aH (aY x bk) 959 (ay r)=aY {x with run:=r} bk:=by rw[Dl (by omega)];rfl
theorem anm{s:bI}:bB s++List.drop 952 Lc=aY ⟨s,0,nJ,(0,0),0,false,[]⟩ .ai:=rfl
def ann:Lc.length=964:=by decide
def YQ:pV.length=952:=by decide
def ano:List.drop 952 pV=[]:=ajX (by rw[YQ];omega)
def OS{s:bI}:List.take 952 (bB s)=bB s:=abk (by rw[fe];omega)
theorem YR{s:bI}:List.drop 952 (bB s)=[]:=by rfl
theorem HM{c:cz}: (bg c).length=6:=rfl
theorem OT{c:cz}:List.take 6 (bg c)=bg c:=rfl
theorem yb:List.take 3 (bG r)=bG r:=rfl
theorem uG: (bG r).length=3:=rfl
def DZ:=gG @anj<|gG @ank<|gG @anl<|gG @anm<|gG @ann<|gG @YQ<|gG @ano<|gG @OS<|gG @YR<|gG @HM<|gG @OT<|gG @yb<|gG @uG<|gG @fe @OC
def YS(s:bI)(S:bm s)(aa:Nat)(R:aa<4294967296)(c:cz)(V:jT c)(run:aE)(T:run.1<4294967296/\run.2<4294967296)
  (Y: ∀E,gV XA.fo E .int .cR (.jh vq) (.int .u8 c.op) true=some (match sf c.op with|some f=>.au [.fn (.func f) [] [],.bool true]|none=>.au [.cR,.bool false])) (H:List ae) (lo:oN):
  ∃v,D XB (.fn (.func By) [] []) [.agg (bB s),.int .i64 aa,.agg (bg c),.agg (ay run)] ⟨H,lo⟩=some (.ret (.au [.agg (bB (dR s aa c run).1),.agg (bG (dR s aa c run).2.1),v]) ⟨H,lo⟩)/\Rv v 2 ((dR s aa c run).2.2.map ay):=by
 suffices j: ∃u,D XB (.fn (.func By) [] []) [.agg (bB s),.int .i64 aa,.agg (bg c),.agg (ay run)] ⟨H,lo⟩=some u/\ (λu=> ∃v,u=aS.ret (.au [.agg (bB (dR s aa c run).1),.agg (bG (dR s aa c run).2.1),v]) ⟨H,lo⟩/\Rv v 2 ((dR s aa c run).2.2.map ay)) u by
  obtain⟨u,h1,v,rfl,Z⟩:=j;exact⟨v,h1,Z⟩
 refine cE Gz λN h=>?_
 obtain⟨x,j⟩: ∃x:ar,x=⟨s,aa,c,run,0,false,[]⟩:=⟨_,rfl⟩;obtain⟨L,b⟩: ∃L:List ae,L=[.box (bB s) none,.box (bg c) none,.box (ay run) none,.box pV none,.box [.int .i64 0,.int .u64 0,.int .u32 0] none,.box (aY x .ai) none]:=⟨_,rfl⟩;have K:At (N+5) x .ai (H++L):=⟨by rw[bw h,b];rfl,by rw[j];exact aN.ai⟩;obtain⟨u,g1,g2⟩:=ang (x:=x) none K (by rw[j];exact S) (by rw[j];exact V) (by rw[j];exact T) (by rw[j];exact R) (by rw[j];unfold eW;have:=nA s.T.b;simp;omega) (by rw[j];exact Y);have m:dR s aa c run=match ju x with
  |.ok (y,r)=>if r.e=0 then(y.s,r,y.back)else(s,r,[])
  |.error e=>(s,{b8 with e:=e},[]):=by rw[j];rfl
 rw[b,j]at g1;have rest: ∀W:List ae,bT (N+5) (H++L) W-> ∀cs bs A B:lA,(∀i,i<N->(((W++[ae.box cs none]).set (N+3) (ae.box A none)).set (N+4) (ae.box B none))[i]?=H[i]?):=by
  intro W g cs bs A B i hi;have U:=g.len;simp at U;rw[aaD (by omega),aaD (by omega),aaF (by omega),g.low i (by omega),aaF (by omega)]
 cases J:ju x with
 |error e=>
  rw[J]at g2 m;obtain⟨W,ak,rfl,g,F⟩:=g2;have g1:=OR g1;have w0:W[N]?=some (.box (bB s) none):=g.box N _ (by omega) (λa d e=>by cases e) (by rw[dn h,b];rfl);have w1:W[N+3]?=some (.box pV none):=g.box (N+3) _ (by omega) (λa d e=>by cases e) (by rw[bw h,b];rfl);have G:W[N+4]?=some (.box [.int .i64 0,.int .u64 0,.int .u32 0] none):=g.box (N+4) _ (by omega) (λa d e=>by cases e) (by rw[bw h,b];rfl);have I:=λL=>bf (L:=L) w0
  have p:=λL=>bf (L:=L) w1
  have n:=λL=>bf (L:=L) G
  have z:=λL o=>cx (o:=o) (p L)
  have w:=λL o o'=>cx (o:=o') ((aaD (by omega:N+3≠N+4)).trans (n L): ((W++L).set (N+3) o)[N+4]?=_)
  have he:=ani J;have k: ¬((e:Nat):Int)=0:=by omega
  obtain⟨M,C⟩: ∃M,W.length=M:=⟨_,rfl⟩;have l: (M !=N+3)=true:=by
   have:=g.len;rw[b]at this;simp at this;simp;omega
  simp(disch:=omega) only[go_sem,simprocAttr,Gz,h,DZ,g1,C,I,p,n,z,w,k,bG,l,at0,As,oK];rw[ja (dQ.le (N:=N+5) ?_ (by omega)) ?_]
  ·rw[m];exact⟨_,cU rfl (iZ h (rest W g _ [] _ _)),.ai⟩
  ·exact F.elim (λq=>.inl q.1) λq=>.inr ⟨N+5,ahT _,q⟩
  ·simp[AV.refs,aG,oK]
 |ok a=>
  obtain⟨y,r⟩:=a;rw[J]at g2 m;obtain⟨nU,W,ak,rfl,g2,g,F⟩:=g2;have m:dR s aa c run=if r.e=0 then(y.s,r,y.back)else(s,r,[]):=m
  have g1:=OR g1;have w0:W[N]?=some (.box (bB s) none):=g.box N _ (by omega) (λa d e=>by cases e) (by rw[dn h,b];rfl);have w1:W[N+3]?=some (.box pV none):=g.box (N+3) _ (by omega) (λa d e=>by cases e) (by rw[bw h,b];rfl);have G:W[N+4]?=some (.box [.int .i64 0,.int .u64 0,.int .u32 0] none):=g.box (N+4) _ (by omega) (λa d e=>by cases e) (by rw[bw h,b];rfl);have I:=λL=>bf (L:=L) w0
  have p:=λL=>bf (L:=L) w1
  have n:=λL=>bf (L:=L) G
  have Q:=λL=>bf (L:=L) g2.box
  have z:=λL o=>cx (o:=o) (p L)
  have w:=λL o o'=>cx (o:=o') ((aaD (by omega:N+3≠N+4)).trans (n L): ((W++L).set (N+3) o)[N+4]?=_)
  obtain⟨M,C⟩: ∃M,W.length=M:=⟨_,rfl⟩;have X:N+6<=M:=by
   have:=g.len;rw[b]at this;simp at this;omega
  have l: (M !=N+3)=true:=by simp;omega
  have P: (M !=N+4)=true:=by simp;omega
  by_cases t:r.e=0
  ·rw[aaR t]at m;have k: ((r.e:Nat):Int)=0:=by omega
   simp(disch:=omega) only[go_sem,simprocAttr,Gz,h,DZ,↓CL,g1,C,p,n,z,w,Q,k,bG,l,at0,As,oK];have O:=aN.mn (o:=.box (bG r) none) (aN.mn (o:=.box (bB y.s) none) (aN.ext (L:=[ae.box (bG r) none]) (aN.le g2.own (show N<=N+5+1 by omega))) (p _)) ((aaD (by omega:N+3≠N+4)).trans (n _));have er: [AV.int .i64 0,AV.int .u64 (r.v:Nat),AV.int .u32 (r.w:Nat)]=bG r:=by unfold bG;rw[t];rfl
   rw[er];refine⟨by simp,by simp,?_⟩;rw[sS (dQ.le (N:=N+5) ?_ (by omega)) (Fz.au (d:=11) (fC.cons ((Fz.low (d:=0) ?_).mono (by omega)) (fC.cons ((Fz.low (d:=0) ?_).mono (by omega)) (fC.cons ((Fz.own (d:=0) O ?_).mono (by omega)) fC.nil))))]
   ·rw[m];refine⟨_,cU rfl (iZ h (rest W g _ [] _ _)),?_⟩;exact aN.re O
   ·exact F.elim (λq=>.inl q.1) λq=>.inr ⟨N+5,ahT _,q⟩
   ·simp[AV.refs,oK]
   ·exact abX _
   ·rw[bz (λx=>rfl)];exact abX _
  ·rw[aaH t]at m;have k: ¬((r.e:Nat):Int)=0:=by omega
   simp(disch:=omega) only[go_sem,simprocAttr,Gz,h,DZ,g1,C,I,p,n,z,w,k,bG,l,at0,As,oK];rw[ja (dQ.le (N:=N+5) ?_ (by omega)) ?_]
   ·rw[m];exact⟨_,cU rfl (iZ h (rest W g _ [] _ _)),.ai⟩
   ·exact F.elim (λq=>.inl q.1) λq=>.inr ⟨N+5,ahT _,q⟩
   ·simp[AV.refs,aG,oK]
def lz{args:lA}{E:AS}{r:aS}(h:D X0 v args E=some r):D XB v args E=some r:=xT anh (lx h)
def lX{args:lA}{E:AS}{r:aS}(h:D X v args E=some r):D XB v args E=some r:=xT anh (ly h)
theorem anp{b:Bool}:aH (aY x bk) 962 [.bool b]=aY {x with asks:=b} bk:=by rw[Dl (by omega)];rfl
theorem anq{c:cz}: (bg c)[0]?=some (.int .u8 c.op):=rfl
theorem anr{c:cz}: (bg c)[1]?=some (.int .u32 c.r):=rfl
theorem ans{c:cz}: (bg c)[2]?=some (.int .u32 c.s):=rfl
theorem ant{c:cz}: (bg c)[3]?=some (.int .u32 c.a):=rfl
theorem anu{c:cz}: (bg c)[4]?=some (.int .u32 c.b):=rfl
theorem anv{c:cz}: (bg c)[5]?=some (.int .u64 c.v):=rfl
def fY:=gG @anq<|gG @anr<|gG @ans<|gG @ant<|gG @anu @anv
def SL:=gG @W4<|gG @W5<|gG @W7<|gG @WY @WZ
def YT(s:bI)(t:bm s)(aa:Nat)(p:aa<4294967296)(c:cz)(v:jT c)
  (w: ∀E,gV XA.fo E .int .cR (.jh vq) (.int .u8 c.op) true=some (match sf c.op with|some f=>.au [.fn (.func f) [] [],.bool true]|none=>.au [.cR,.bool false])) (H:List ae) (lo:oN):
  D XB (.fn (.func EU) [] []) [.agg (bB s),.int .i64 aa,.agg (bg c)] ⟨H,lo⟩=some (.ret (.int .i64 (fg s aa c:Nat)) ⟨H,lo⟩):=by
 refine aF Gy λN j=>?_
 obtain⟨x,b⟩: ∃x:ar,x=⟨s,aa,c,(0,0),0,true,[]⟩:=⟨_,rfl⟩;by_cases z:c.op=2
 ·have l: (c.op:Int)=2:=by omega
  obtain⟨L,m⟩: ∃L:List ae,L=[.box (bB s) none,.box (bg c) none,.box (aY x .ai) none]:=⟨_,rfl⟩;have n:At (N+2) x .ai (H++L):=⟨by grind,by rw[b];exact aN.ai⟩;obtain⟨C,g1,g2⟩:=ang (x:=x) none n (by rw[b];exact t) (by rw[b];exact v) (by rw[b];exact⟨show 0<4294967296 by omega,show 0<4294967296 by omega⟩) (by rw[b];exact p) (by rw[b];unfold eW;have:=nA s.T.b;simp;omega) (by rw[b];exact w);have k:fg s aa c=match ju x with
   |.ok (y,_)=>y.mY
   |.error e=>0:=by rw[b];unfold fg;rw[aaH (by omega)];rfl
  rw[m,b]at g1;have rest: ∀W:List ae,bT (N+2) (H++L) W->W.take N=H:=by
   intro W g;refine iZ j λi B=>?_
   rw[g.low i (by omega),aaF (by omega)]
  cases h:ju x with
  |error e=>
   rw[h]at g2 k;obtain⟨W,ak,rfl,g,o⟩:=g2;have g1:=OR g1;have he:=ani h;have d: ¬((e:Nat):Int)=0:=by omega
   simp only[go_sem,simprocAttr,Gy,j,DZ,fY,anp,l,g1,bG,d];rw[ja (dQ.le (N:=N+2) (o.elim (λq=>.inl q.1) λq=>.inr ⟨N+2,ahT _,q⟩) (by omega)) (abX _),k,rest W g];rfl
  |ok a=>
   obtain⟨y,r⟩:=a;rw[h]at g2 k;obtain⟨A,W,ak,rfl,g2,g,o⟩:=g2;have g1:=OR g1;have u:=YP h;have d: ((r.e:Nat):Int)=0:=by omega
   simp only[go_sem,simprocAttr,Gy,j,DZ,fY,↓CL,anp,l,g1,bG,d,g2.box];rw[ja (dQ.le (N:=N+2) (o.elim (λq=>.inl q.1) λq=>.inr ⟨N+2,ahT _,q⟩) (by omega)) (abX _),k,rest W g]
 ·have l: ¬(c.op:Int)=2:=by omega
  simp only[F1,go_sem,simprocAttr,Gy,j,DZ,fY,l];rw[show fg s aa c=0 by unfold fg;rw[aaR z]];rfl
def je(n:Nat):lA:=[.int .i64 n]
def aAj(H:List ae)(lo:oN):D X0 (.fn (.func Ki) [] []) [.ai] ⟨H,lo⟩=some (.ret .ai ⟨H,lo⟩):=by
 refine aF GR λN b=>?_
 have a:gd 1 .ai none (some (.int .i64 0)) (some (.int .i64 0))=some .ai:=by rfl
 simp(disch:=omega) only[F1,go_sem,simprocAttr,GR,a]
def aAk(id aj n:Nat)(H:List ae)(c:id<H.length)(lo:oN):D X0 (.fn (.func Ki) [] []) [.ref id aj 1 0 n false] ⟨H,lo⟩=some (.ret (.ref id aj 1 0 n true) ⟨H,lo⟩):=by
 refine aF GR λN d=>?_
 have b:gd 1 (.ref id aj 1 0 n false) none (some (.int .i64 (n:Nat))) (some (.int .i64 (n:Nat)))=some (.ref id aj 1 0 n true):=by simp[gd,gb,lR,lS]
 have a: ∀E,ft E .sl (.ref id aj 1 0 n false)=some (.int .i64 n):=λE=>rfl
 simp only[go_sem,simprocAttr,GR,b,a];rw[ja (.inl rfl) (by simp only[AV.refs];omega),abk (by omega)]
def aAl(s:bI)(Q:bm s)(c:cz)(l:jT c)(H:List ae)(lo:oN):
  ∃v,D XB (.fn (.func Kb) [] []) [.agg (bB s),.agg (bg c)] ⟨H,lo⟩=some (.ret (.au [v,.int .i64 (iU s c).2]) ⟨H,lo⟩)/\Rv v 1 ((iU s c).1.map je):=by
 suffices W: ∃x,D XB (.fn (.func Kb) [] []) [.agg (bB s),.agg (bg c)] ⟨H,lo⟩=some x/\ (λx=> ∃v,x=aS.ret (.au [v,.int .i64 (iU s c).2]) ⟨H,lo⟩/\Rv v 1 ((iU s c).1.map je)) x by
  obtain⟨x,w,v,rfl,z⟩:=W;exact⟨v,w,z⟩
 refine cE GO λN p=>?_
 have b:=λH lo=>lz (vZ s.T Q.T c.r l.r H lo)
 have o:=Q.T.get c.r;simp only[nN]at b;generalize R: (aJ s.T c.r).1=r at*;generalize he: (aJ s.T c.r).2=e at*;have hb:=l.b;have ha:=l.a;have X:=l.op;have y:=o.len;by_cases Y:e=0
 ·have c0:decide ((e:Int)=0)=true:=abj (by omega);by_cases w: (c.op≠3/\c.op≠4)\/c.b<1\/8<c.b
  ·have f:iU s c=([],2):=by unfold iU;rw[he,aaH (by omega),aaR w]
   rw[f];simp only[↓arK,↓R1,Zz,go_sem,simprocAttr,GO,p,b,c0,fY,↓SL];refine vd 25 (.bool true) [3,4,5,6] rfl rfl ?_ λf=>?_
   ·simp(disch:=omega) only[R4,↓R1,Zz,go_sem,simprocAttr,fY]
    (repeat' (first|apply And.intro|intro _))
    all_goals(try(refine ajV AV.bool (ap8.2 ?_);simp[];try(intros;omega)))
    all_goals first|trivial|omega
   ·simp(disch:=omega) only[F1,↓R1,Zz,go_sem,simprocAttr];exact⟨.ai,rfl,.ai⟩
  ·simp only[↓R1,Zz,go_sem,simprocAttr,GO,p,b,c0,fY,↓SL];refine vd 25 (.bool false) [3,4,5,6] rfl rfl ?_ λe1=>?_
   ·simp(disch:=omega) only[R4,↓R1,Zz,go_sem,simprocAttr,fY]
    (repeat' (first|apply And.intro|intro _))
    all_goals(try(refine ajV AV.bool (ap8.2 ?_);simp[];try(intros;omega)))
    all_goals first|trivial|omega
   ·by_cases z:r.len<c.a+c.b
    ·have O: (r.len:Int)-c.b<c.a:=by omega
     have f:iU s c=([],9):=by unfold iU;rw[he,aaH (by omega),aaH w,R,aaR z]
     rw[f];simp(disch:=omega) only[F1,↓arK,↓R1,↓MP,Zz,go_sem,simprocAttr,fY,O];exact⟨.ai,rfl,.ai⟩
    ·have O: ¬(r.len:Int)-c.b<c.a:=by omega
     have f:iU s c=((List.range c.b).map λi=>(ku r.runs 0 (c.a+i)).getD 0,0):=by unfold iU;rw[he,aaH (by omega),aaH w,R,aaH z]
     rw[f];simp(disch:=omega) only[↓arK,↓R1,↓MP,Zz,go_sem,simprocAttr,fY,O];obtain⟨B,hB⟩: ∃B:List ae,B=[.box (bB s) none,.box (bg c) none,.box (bW r) none]:=⟨_,rfl⟩;have M: (H++B).length=N+3:=by rw[hB];simp[p]
     rw[<-hB];refine gX c.b (λk e H' ak=>ak=none/\ (H++B)<+:H'/\ (∃v,e 8=v/\aN (N+3) H' v 1 nh ((List.range k).map λi=>je ((ku r.runs 0 (c.a+i)).getD 0)))/\e 3= .ptr (N+1) 0/\e 6= .ptr (N+2) 0/\e 58= .int .i64 c.b/\e 59= .int .i64 k) 0 (by omega) ?_ ?_
     ·simp only[↓arK,Zz,go_sem,simprocAttr];exact⟨ar0,_,rfl,aN.ai⟩
     rintro k hk e H' ak ⟨rfl,⟨L,rfl⟩,⟨v,S,a⟩,U,T,u,t⟩ n hn;have C: (B++L)[1]?=some (.box (bg c) none):=by rw[hB];rfl
     have A: (B++L)[2]?=some (.box (bW r) none):=by rw[hB];rfl
     simp only[aaS]at a;simp only[bO,↓R1,Zz,go_sem,simprocAttr,ai1,T,S,u,t];refine⟨λl=>?_,λl=>?_⟩
     ·have J:k<c.b:=by omega
      have m:=λH lo=>lz (axq (eA r.runs) r.len r.runs (nv r.runs) o.rb.1 (c.a+k) (by omega) H lo)
      simp only[Ot,aqo]at m;have E:List.take 2 (List.drop 2 (bW r))=[eA r.runs,.int .i64 r.len]:=rfl;simp(disch:=omega) only[↓R1,Zz,go_sem,simprocAttr,U,S,C,A,fY,E,m];refine oy (H0:=H++B) (ys:=[je ((ku r.runs 0 (c.a+k)).getD 0)]) a ⟨L,aaS _ _ _⟩ M (by omega) (by intro el K;rw[ahc.1 K];rfl) rfl (by rw[ahX,awZ];show(k+1)*8<=room;unfold room;omega) λv' H2 g I=>?_
      simp(disch:=omega) only[↓arK,↓R1,Zz,go_sem,simprocAttr,U,T,u,t];refine⟨J,I,v',rfl,?_⟩
      (try rw[arI]);rw[aiw]
      exact g
     ·obtain rfl:k=c.b:=by omega
      have G:b9 ((List.range c.b).map λi=>je ((ku r.runs 0 (c.a+i)).getD 0))=0:=bz (λ_=>rfl) _;have F: (H++(B++L)).take N=H:=by rw[<-p];simp
      rw[aDR];rcases a.2 with⟨rfl,q⟩| ⟨id,aj,Z,rfl,P⟩
      ·have h:=λH lo=>lz (aAj H lo)
       simp(disch:=omega) only[F1,↓R1,Zz,go_sem,simprocAttr,h];refine⟨.ai,rfl,?_⟩;have V: ((List.range c.b).map λi=>je ((ku r.runs 0 (c.a+i)).getD 0))=[]:=q;exact(ajV (Rv .ai 1) V).mpr .ai
      ·have h:=λn=>lz (aAk id aj n (H++(B++L)) (fi P) none)
       simp only[↓R1,Zz,go_sem,simprocAttr,h];rw[sS (.inl rfl) (Fz.au (d:=11) (fC.cons (a':=.sl ((List.range c.b).map λi=>je ((ku r.runs 0 (c.a+i)).getD 0)) true) (λj=>?_) (fC.cons ((Fz.low (d:=0) (abX _)).mono (by omega)) fC.nil)))]
       ·exact⟨_,cU rfl F,Rv.sl a.1⟩
       ·rw[show j+10=(j+6)+4 by omega];exact amB (by omega) P (by simp) (by rw[G];omega)
 ·have c0:decide ((e:Int)=0)=false:=abi (by omega);have f:iU s c=([],e):=by unfold iU;rw[he,aaR Y]
  rw[f];simp only[F1,↓R1,Zz,go_sem,simprocAttr,GO,p,b,c0,fY,↓SL];exact⟨.ai,rfl,.ai⟩
def fx(l:fw):lA:=[.int .u8 l.has,.int .i64 l.n]++arr 8 λi=>[.int .u8 (l.wait i)]
theorem Ay(l:fw): (fx l).length=10:=rfl
theorem HN(l:fw):aG (fx l)=0:=rfl
def cQ(m:Marks):lA:=arr 32 λi=>fx (m i)
theorem ef(m:Marks): (cQ m).length=320:=by rfl
theorem jV(m:Marks):aG (cQ m)=0:=by rfl
structure ig(l:fw):Prop where
 has:l.has<=8
 n:l.n<=8
 lt: ∀i,l.wait i<8
 inj: ∀i j,i<l.n->j<l.n->l.wait i=l.wait j->i=j
def uH(f:Nat->Nat)(x n:Nat):oN:=(List.range n).find? λi=>decide (f i=x)
def Az(o:oN):Int:=match o with|some i=>i|none=> -1
def aAm{x:Nat}(h:uH f x k=none):uH f x (k+1)=if f k=x then some k else none:=by
 unfold uH at*;rw[arI,List.find?_append,h]
 grind
def aAn{x:Nat}(h:uH f x k=some j): ∀n,k<=n->uH f x n=some j:=by
 intro n a;obtain⟨m,rfl⟩:=Nat.exists_eq_add_of_le a;unfold uH at*;rw[List.range_add,List.find?_append,h];rfl
def anw{x:Nat}(h:uH f x n=some i):i<n/\f i=x:=by
 unfold uH at h
 grind
def aAo(f:Nat->Nat)(x n M off:Nat)(r:n<2147483648)(H:List ae)(cs:lA)(g:H[M]?=some (.box cs none))(q: ∀i,i<n->cs[off+i]?=some (.int .u8 (f i)))(lo:oN):
  D X0 (.fn (.func Fb) [] []) [.fk M 1 off n,.int .u8 x] ⟨H,lo⟩=some (.ret (.int .i64 (Az (uH f x n))) ⟨H,lo⟩):=by
 refine aF GS λN u=>?_
 simp only[go_sem,simprocAttr,GS];refine dB n (λk e H'=>H'=H/\uH f x k=none/\e 0= .fk M 1 off n/\e 1= .int .u8 x/\e 7= .int .i64 n/\e 8= .int .i64 k) 0 (by omega) ?_ ?_
 ·trivial
 rintro k s e H' ⟨rfl,d,o,l,j,h⟩ m hm;simp(disch:=omega) only[bO,F1,go_sem,simprocAttr,U0,o,l,j,h];refine⟨λp=>?_,λp=>?_⟩
 ·have b:k<n:=by omega
  have c:=q k b;have t:j5 1 (.fk M 1 off n) (.int .i64 k)=some (.ptr M (off+k)):=by
   rw[Rt,aaR ⟨by omega,by omega,rfl⟩];simp
  have hs:=aAm d;by_cases e1:f k=x
  ·have a: ((x:Nat):Int)=f k:=by omega
   rw[aaR e1]at hs;simp(disch:=omega) only[F1,go_sem,simprocAttr,g,c,a];rw[aAn hs n (by omega)];exact⟨by omega,rfl⟩
  ·have a: ¬((x:Nat):Int)=f k:=by omega
   rw[aaH e1]at hs;simp(disch:=omega) only[go_sem,simprocAttr,o,l,j,h,g,c,a];exact⟨by omega,b,hs⟩
 ·obtain rfl:k=n:=by omega
  rw[d];rfl
theorem anx(n:Nat):IntKind.wrap .u8 (n:Int)=((n % 256:Nat):Int):=by rfl
def anz(l:fw)(b:ig l)(aa:Nat)(f:aa<4294967296)(H:List ae)(lo:oN):
  D X0 (.fn (.func Kf) [] []) [.agg (fx l),.int .i64 aa] ⟨H,lo⟩=some (.ret (.int .i64 (Az (rU l aa))) ⟨H,lo⟩):=by
 refine aF UQ λN c=>?_
 have g:=b.n;have a:=λlo=>aAo l.wait (aa % 256) l.n N 2 (by omega) (H++[.box (fx l) none]) (fx l) (by grind) (λi a=>by
  rcases(show i=0\/i=1\/i=2\/i=3\/i=4\/i=5\/i=6\/i=7 by omega)with h|h|h|h|h|h|h|h<;>subst h<;>rfl) lo
 have hw:=anx aa;have e: (fx l)[1]?=some (.int .i64 l.n):=rfl;have d: (0:Int)<=l.n/\ (l.n:Int)<=8:=by omega
 simp only[F1,go_sem,simprocAttr,UQ,c,e,hw,a,d];rfl
def anA(l:fw)(i:Nat):fw:={l with wait:=λj=>if i<=j/\j<7 then l.wait (j+1)else l.wait j}
def aAp{X:Ctx}{id off:Nat}{k:IntKind}{a:Int}:qN X n sz (.ptr id off) (some (.int k a)) none=if 0<=a/\a<=n then some (.fk id sz (off+a.toNat*sz) (n-a.toNat))else none:=by
 simp only[qN,gb,lR]
 grind
def aAq{H:List ae}{N:Nat}(h:H[N]?=some (.box (fx l) none))(a:i<8):
  sy ⟨H,lo⟩ 1 (.fk N 1 (2+i) (8-i)) (.fk N 1 (2+(i+1)) (7-i))=some (.int .i64 (7-i:Nat),⟨H.set N (.box (fx (anA l i)) none),lo⟩):=by
 rcases(show i=0\/i=1\/i=2\/i=3\/i=4\/i=5\/i=6\/i=7 by omega)with q|q|q|q|q|q|q|q<;>subst q<;>
  (simp only[sy,DU,Den.elems,h];rfl)
def aAr(a:k<8):aH (fx l) (2+k) [.int .u8 0]=fx {l with wait:=aq l.wait k 0}:=by
 rcases(show k=0\/k=1\/k=2\/k=3\/k=4\/k=5\/k=6\/k=7 by omega)with q|q|q|q|q|q|q|q<;>subst q<;>rfl
def aAs{v:Nat}(a:k<8):aH (fx l) (2+k) [.int .u8 v]=fx {l with wait:=aq l.wait k v}:=by
 rcases(show k=0\/k=1\/k=2\/k=3\/k=4\/k=5\/k=6\/k=7 by omega)with q|q|q|q|q|q|q|q<;>subst q<;>rfl
def anB(l:fw)(s:ig l)(aa:Nat)(t:aa<4294967296)(H:List ae)(lo:oN):
  D X0 (.fn (.func J8) [] []) [.agg (fx l),.int .i64 aa] ⟨H,lo⟩=some (.ret (.agg (fx (xP l aa))) ⟨H,lo⟩):=by
 refine aF Nf λN r=>?_
 have a:=λH lo=>anz l s aa t H lo
 have v:=s.n;have b: ∀l:fw,List.take 10 (fx l)=fx l:=λ_=>rfl
 unfold xP;cases p:rU l aa with
 |none=>
  rw[p]at a;simp only[Az]at a;simp only[F1,go_sem,simprocAttr,Nf,r,a,b,Ay,HN]
 |some i=>
  rw[p]at a;simp only[Az]at a;have u:=(anw p).1;have o: ¬((i:Nat):Int)<0:=by omega
  have m: (0:Int)<=i/\ (i:Int)<=8:=by omega
  have k: (0:Int)<=(i:Int)+1/\ (i:Int)+1<=8:=by omega
  have e: ((i:Int)+1).toNat=i+1:=by omega
  have j: ∀l:fw,(fx l)[1]?=some (.int .i64 l.n):=λ_=>rfl
  have f: ∀ (l:fw) (n:Nat),aH (fx l) 1 [.int .i64 n]=fx {l with n:=n}:=λ_ _=>rfl
  have c: (l.n:Int)-1=((l.n-1:Nat):Int):=by omega
  have g:l.n-1<8:=by omega
  have d:=λl:fw=>aAr (l:=l) g
  have h: (anA l i).n=l.n:=rfl;have q:=λB lo=>aAq (H:=H++(.box (fx l) none::B)) (lo:=lo) (N:=N) (l:=l) (by rw[dn r];rfl) (show i<8 by omega)
  simp(disch:=omega) only[F1,go_sem,simprocAttr,Nf,r,a,b,Ay,HN,aAp,o,m,k,e,q,h,j,f,c,d];exact⟨by omega,by omega,rfl⟩
def sg:Den.part true 320 (cQ m) 0=some (.agg (cQ m)):=Hg (ef m)
def yc(h:i<32):Den.part true 10 (cQ m) (i*10)=some (.agg (fx (m i))):=jM (k:=10) (o:=0) (f:=λi=>fx (m i)) (λ_=>rfl) h (by omega) (by omega)
def wv(h:i<32):Den.part false 1 (cQ m) (i*10)=some (.int .u8 (m i).has):=jM (k:=10) (o:=0) (f:=λi=>fx (m i)) (λ_=>rfl) h (by omega) (by omega)
def HO(h:i<32):Den.part false 1 (cQ m) (i*10+1)=some (.int .i64 (m i).n):=jM (k:=10) (o:=1) (f:=λi=>fx (m i)) (λ_=>rfl) h (by omega) (by omega)
def Dy{o:Nat}(h:i<32)(ho:o+vs.length<=10)(a:aH (fx (m i)) o vs=fx l):aH (cQ m) (i*10+o) vs=cQ (aq m i l):=by
 unfold cQ;rw[mT (k:=10) (f:=λi=>fx (m i)) (λ_=>rfl) h ho,a,qi fx]
def YU(i aa:Nat)(H:List ae)(lo:oN):D X0 (.fn (.func E6) [] []) [.int .i64 i,.int .i64 aa] ⟨H,lo⟩=some (.ret (.bool (iV i aa)) ⟨H,lo⟩):=by
 refine aF Nc λN d=>?_
 have b: (i:Int)>=0:=by omega
 have c: (aa:Int)>=0:=by omega
 by_cases f:i<32
 ·have a: (i:Int)<32:=by omega
  have e:iV i aa=decide ((aa:Int)<8):=by unfold iV;grind
  rw[e];simp(disch:=omega) only[F1,go_sem,simprocAttr,Nc,b,c,a]
 ·have a: ¬(i:Int)<32:=by omega
  have e:iV i aa=false:=by unfold iV;grind
  rw[e];simp(disch:=omega) only[F1,go_sem,simprocAttr,Nc,b,a]
def anC(d:ig l)(g:aa<8)(h:rU l aa=none):l.n<8:=by
 have k:=d.n;by_cases e:l.n=8
 ·have p: ∀i,i<8->l.wait i≠aa:=by
    unfold rU at h
    grind
  have j: ((List.range 8).map l.wait++[aa]).Nodup:=by
   rw[List.nodup_append];refine⟨?_,by simp,?_⟩
   ·rw[auR,aCh];refine aun (λ {a b} c m f he=>f ?_) (auR.1 (List.nodup_range (n:=8)));exact d.inj a b (by grind) (by grind) he
   grind
  have o:=OI 8 _ j (by
   intro a c;rcases aha.1 c with c|c
   ·obtain⟨i,_,rfl⟩:=ais.1 c;exact d.lt i
   ·rw[ahc.1 c];exact g)
  grind
 ·omega
def aAt(m:Marks)(C: ∀i,ig (m i))(a aa:Nat)(O:aa<4294967296)(H:List ae)(lo:oN):
  D X0 (.fn (.func Sv) [] []) [.agg (cQ m),.int .i64 a,.int .i64 aa] ⟨H,lo⟩=some (.ret (.au [.agg (cQ (iW m a aa).1),.bool (iW m a aa).2]) ⟨H,lo⟩):=by
 refine aF s9 λN t=>?_
 have r:rn.length=320:=by decide
 have c:List.drop 320 rn=[]:=ajX (by rw[r];omega);have U:List.take 320 (cQ m)=cQ m:=abk (by rw[ef];omega);have b:=λH lo=>YU a aa H lo
 have S: ∀m:Marks,(AV.au [.agg (cQ m),.bool false]).refs<=N:=λm=>by simp[AV.refs,aG,jV]
 cases p:iV a aa with
 |false=>
  rw[p]at b;have s:iW m a aa=(m,false):=by unfold iW;rw[aaR p]
  rw[s];simp only[F1,go_sem,simprocAttr,s9,t,b,↓sg,ef,jV,r,c]
 |true=>
  rw[p]at b;have hs:a<32/\aa<8:=by unfold iV at p;simpa using p
  have K: ¬iV a aa=false:=by rw[p];simp
  obtain⟨hs,V⟩:=hs;have e: (0:Int)<=a/\ (a:Int)<32:=by omega
  have k:=λH lo=>anz (m a) (C a) aa O H lo
  have v:=λH lo=>anB (m a) (C a) aa O H lo
  have E:a*10+10<=320:=by omega
  have R:=(C a).has;have T:=(C a).n;have F:a*10<=319:=by omega
  by_cases L: (m a).has=aa+1
  ·have d: (((m a).has:Nat):Int)=(aa:Int)+1:=by omega
   have s:iW m a aa=(m,true):=by unfold iW;rw[aaH K,aaR L]
   rw[s];simp only[F1,go_sem,simprocAttr,s9,t,b,e,k,↓yc hs,↓wv hs,d,↓sg,ef,jV,r,c]
  ·have d:decide ((((m a).has:Nat):Int)=(aa:Int)+1)=false:=abi (by omega);have z: ∀ (m:Marks) (l:fw),aH (cQ m) (a*10) (fx l)=cQ (aq m a l):=λm l=>Dy (o:=0) hs (by rw[Ay];omega) rfl
   have y: ∀m:Marks,aH (cQ m) (a*10) [.int .u8 ((aa:Int)+1)]=cQ (aq m a {m a with has:=aa+1}):=λm=>Dy (o:=0) hs (by simp) rfl
   have x: ∀m':Marks,aH (cQ m') (a*10+1) [.int .i64 (((m a).n:Int)+1)]=cQ (aq m' a {m' a with n:=(m a).n+1}):=λm'=>Dy hs (by simp) rfl
   have G:a*10<=318:=by omega
   have P: ∀m:Marks,List.take 320 (cQ m)=cQ m:=λm=>abk (by rw[ef];omega)
   by_cases J: (m a).has=0/\ ((m a).n=0\/rU (m a) aa=some 0)
   ·have s:iW m a aa=(aq m a {xP (m a) aa with has:=aa+1},true):=by unfold iW;rw[aaH K,aaH L,aaR J]
    rw[s];have I:decide ((((m a).has:Nat):Int)=0)=true:=abj (by omega);have hw:IntKind.wrap .u8 ((aa:Int)+1)=((aa+1:Nat):Int):=by rw[wrap_u8 (by omega) (by omega)];rfl
    by_cases W: (m a).n=0
    ·have f:decide ((((m a).n:Nat):Int)=0)=true:=abj (by omega);simp(disch:=omega) only[F1,go_sem,simprocAttr,s9,t,b,e,k,v,↓yc hs,↓wv hs,↓HO hs,d,I,f,hw,z,y,cZ,ua,↓sg,ef,jV,r,c,Ay,HN,E,F]
    ·have f:decide ((((m a).n:Nat):Int)=0)=false:=abi (by omega);have M:rU (m a) aa=some 0:=J.2.resolve_left W;rw[M]at k;simp only[Az]at k;simp(disch:=omega) only[F1,go_sem,simprocAttr,s9,t,b,e,k,v,↓yc hs,↓wv hs,↓HO hs,d,I,f,hw,z,y,cZ,ua,↓sg,ef,jV,r,c,Ay,HN,E,F]
   ·have X: ∀h:Nat,decide ((h:Int)=0)=decide (h=0):=λh=>ajF.2 (by omega)
    cases u:rU (m a) aa with
    |none=>
     have hr:=anC (C a) V u;have B: ((m a).n:Int)<8:=by omega
     have A:a*10+2+(m a).n<=319:=by omega
     have s:iW m a aa=(aq m a {m a with n:=(m a).n+1,wait:=aq (m a).wait (m a).n aa},false):=by unfold iW;rw[aaH K,aaH L,aaH J,aaR u]
     rw[s];rw[u]at k;simp only[Az]at k;have w: ∀ (m':Marks),(m' a).n=(m a).n->aH (cQ m') (a*10+2+(m a).n) [.int .u8 aa]=cQ (aq m' a {m' a with wait:=aq (m' a).wait (m a).n aa}):=λm' h=>(ajV (λo=>aH (cQ m') o _) (apd _ _ _)).trans (Dy hs (by simp;omega) (aAs hr))
     by_cases I: (m a).has=0
     ·have g:decide ((((m a).has:Nat):Int)=0)=true:=abj (by omega);have f:decide ((((m a).n:Nat):Int)=0)=false:=abi (by omega);simp(disch:=omega) only[F1,go_sem,simprocAttr,s9,t,b,e,k,↓yc hs,↓wv hs,↓HO hs,d,g,f,B,A,G,x,w,cZ,ua,↓sg,ef,jV,r,c]
     ·have g:decide ((((m a).has:Nat):Int)=0)=false:=abi (by omega);simp(disch:=omega) only[F1,go_sem,simprocAttr,s9,t,b,e,k,↓yc hs,↓wv hs,↓HO hs,d,g,B,A,G,x,w,cZ,ua,↓sg,ef,jV,r,c]
    |some j=>
     have s:iW m a aa=(m,false):=by unfold iW;rw[aaH K,aaH L,aaH J,aaH (by rw[u];simp)]
     rw[s];rw[u]at k;simp only[Az]at k;have Q: ¬((j:Nat):Int)<0:=by omega
     by_cases I: (m a).has=0
     ·have g:decide ((((m a).has:Nat):Int)=0)=true:=abj (by omega);have f:decide ((((m a).n:Nat):Int)=0)=false:=abi (by omega);have M:decide (((j:Nat):Int)=0)=false:=abi (λq=>J ⟨I,.inr (by rw[u];congr 1;omega)⟩);simp(disch:=omega) only[F1,go_sem,simprocAttr,s9,t,b,e,k,↓yc hs,↓wv hs,↓HO hs,d,g,f,M,Q,↓sg,ef,jV,r,c]
     ·have g:decide ((((m a).has:Nat):Int)=0)=false:=abi (by omega);simp(disch:=omega) only[F1,go_sem,simprocAttr,s9,t,b,e,k,↓yc hs,↓wv hs,d,g,Q,↓sg,ef,jV,r,c]
def OU(m:Marks)(a aa:Nat):Marks:=if iV a aa then aq m a (C4 (m a) aa)else m
def aAu(m:Marks)(q: ∀i,ig (m i))(a aa:Nat)(r:aa<4294967296)(H:List ae)(lo:oN):
  D X0 (.fn (.func Sr) [] []) [.agg (cQ m),.int .i64 a,.int .i64 aa] ⟨H,lo⟩=some (.ret (.agg (cQ (OU m a aa))) ⟨H,lo⟩):=by
 refine aF GN λN k=>?_
 have g:rn.length=320:=by rfl
 have d:List.drop 320 rn=[]:=ajX (by omega);have p: ∀m:Marks,List.take 320 (cQ m)=cQ m:=λm=>abk (by rw[ef];omega)
 have b:=λH lo=>YU a aa H lo
 unfold OU;cases c:iV a aa with
 |false=>
  rw[c]at b;simp only[F1,go_sem,simprocAttr,GN,k,b,↓sg,ef,jV,g,d]
  try rfl
 |true=>
  rw[c]at b;obtain⟨hs,s⟩:a<32/\aa<8:=by unfold iV at c;simpa using c
  have f: (0:Int)<=a/\ (a:Int)<32:=by omega
  have j:a*10<=319:=by omega
  have l:=(q a).has;simp only[ajQ];unfold C4;by_cases n: (m a).has=aa+1
  ·have e: (((m a).has:Nat):Int)=(aa:Int)+1:=by omega
   have h:aH (cQ m) (a*10) [.int .u8 0]=cQ (aq m a {m a with has:=0}):=Dy (o:=0) hs (by simp) rfl;rw[aaR n];simp only[F1,go_sem,simprocAttr,GN,k,b,f,↓wv hs,e,h,j,↓sg,ef,jV,g,d]
  ·have e: ¬(((m a).has:Nat):Int)=(aa:Int)+1:=by omega
   rw[aaH n,mS];simp(disch:=omega) only[F1,go_sem,simprocAttr,GN,k,b,f,↓wv hs,e,↓sg,ef,jV,g,d]
def qD(m:Marks)(aa k:Nat):Marks:=λi=>if i<k then rV m aa i else m i
def aAv(m:Marks)(a:aa<8)(b:k<32):qD m aa (k+1)=aq (qD m aa k) k (xP (C4 (m k) aa) aa):=by
 funext i
 unfold qD aq;by_cases e:i=k
 ·subst e;rw[aaR (by omega),aaR rfl];unfold rV;rw[aaR (by unfold iV;grind)]
 grind
def aAw(m:Marks)(aa:Nat):qD m aa 32=rV m aa:=by
 funext i
 unfold qD;by_cases h:i<32
 ·grind
 ·rw[aaH h];unfold rV;rw[aaH (by unfold iV;grind)]
def aAx(m:Marks)(k:Nat)(a: ¬aa<8):qD m aa k=m:=by
 funext i
 unfold qD rV;split
 ·rw[aaH (by unfold iV;grind)]
 ·rfl
def anD(h:ig l)(aa:Nat):ig (C4 l aa):=by
 unfold C4;split
 ·exact⟨by simp,h.n,h.lt,h.inj⟩
 omega
def aAy(h:ig l)(n:i<l.n):ig (Xk l i):=by
 have m:=h.n;have f:=h.lt;unfold Xk;refine⟨h.has,by grind,λj=>?_,λa b k g c=>?_⟩
 ·show(if j=l.n-1 then 0 else if i<=j/\j<7 then l.wait (j+1)else l.wait j)<8
  grind
 ·have e:a<l.n-1:=k;have d:b<l.n-1:=g;simp only[aq,aaH (show a≠l.n-1 by omega),aaH (show b≠l.n-1 by omega)]at c;have key: ∀j,j<l.n-1->(if i<=j/\j<7 then l.wait (j+1)else l.wait j)=l.wait (if i<=j then j+1 else j):=by grind
  rw[key a e,key b d]at c;have:=h.inj _ _ (by grind) (by grind) c
  grind
def anE(h:ig l)(aa:Nat):ig (xP l aa):=by
 unfold xP;split
 ·exact h
 ·rename_i i a;exact aAy h (anw a).1
def YW(a: ∀i,ig (m i))(aa:Nat): ∀i,ig (rV m aa i):=by
 intro i;unfold rV;split
 ·exact anE (anD (a i) aa) aa
 grind
def aAz(a: ∀i,ig (m i))(aa k:Nat): ∀i,ig (qD m aa k i):=by
 intro i;unfold qD;split
 ·exact YW a aa i
 grind
def aAA(g: ∀i,ig (m i))(c:Nat): ∀i,ig ((iW m c aa).1 i):=by
 unfold iW;split
 ·omega
 rename_i h;obtain⟨hs,p⟩:c<32/\aa<8:=by unfold iV at h;grind
 split
 ·omega
 split
 ·intro i;show ig (aq _ _ _ _);unfold aq;split
  ·have:=anE (g c) aa;exact⟨by show aa+1<=8;omega,this.n,this.lt,this.inj⟩
  grind
 split
 ·rename_i f;intro i;show ig (aq _ _ _ _);unfold aq;split
  ·have hr:=anC (g c) p f;have k:=g c;have e: ∀j,j< (m c).n->(m c).wait j≠aa:=by
    intro j q he;unfold rU at f;rw[aB8]at f;have:=f j (arH.2 q);simp at this;omega
   refine⟨k.has,by show(m c).n+1<=8;omega,λj=>?_,λa b u s l=>?_⟩
   ·show(if j=(m c).n then aa else(m c).wait j)<8;split
    ·exact p
    ·exact k.lt j
   ·have t:a< (m c).n+1:=u;have r:b< (m c).n+1:=s;have d: (if a=(m c).n then aa else(m c).wait a)=(if b=(m c).n then aa else(m c).wait b):=l;by_cases o:a=(m c).n<;>by_cases n:b=(m c).n
    ·omega
    ·rw[aaR o,aaH n]at d;exact absurd d.symm (e b (by omega))
    ·rw[aaH o,aaR n]at d;exact absurd d (e a (by omega))
    ·rw[aaH o,aaH n]at d;exact k.inj a b (by omega) (by omega) d
  ·exact g i
 omega
def aAB(m:Marks)(z: ∀i,ig (m i))(aa:Nat)(y:aa<4294967296)(H:List ae)(lo:oN):
  D X0 (.fn (.func Sn) [] []) [.agg (cQ m),.int .i64 aa] ⟨H,lo⟩=some (.ret (.agg (cQ (rV m aa))) ⟨H,lo⟩):=by
 refine aF UD λN C=>?_
 have x:rn.length=320:=by rfl
 have j:List.drop 320 rn=[]:=ajX (by rw[x];omega);have f: ∀m:Marks,List.take 320 (cQ m)=cQ m:=λm=>abk (by rw[ef];omega)
 have g: ∀m:Marks,List.drop 320 (cQ m)=[]:=λm=>ajX (by rw[ef];omega)
 simp only[go_sem,simprocAttr,UD,C];refine dB 32 (λk e H'=>H'=H++[.box (cQ (qD m aa k)) none,.box rn none]/\e 1= .int .i64 aa/\e 2= .ptr N 0/\e 4= .ptr (N+1) 0/\e 6= .int .i64 k) 0 (by omega) ?_ ?_
 ·simp only[go_sem,simprocAttr];rfl
 rintro k F e H' ⟨rfl,w,v,u,t⟩ n E;simp(disch:=omega) only[bO,go_sem,simprocAttr,aiY,w,v,u,t];refine⟨λB=>?_,λB=>?_⟩
 ·have d:k<32:=by omega
  have h: (0:Int)<=k/\ (k:Int)<32:=by omega
  have r:k*10+10<=320:=by omega
  have a:=λH lo=>aAu _ (aAz z aa k) k aa y H lo
  have b:=λH lo=>YU k aa H lo
  have s:qD m aa k k=m k:=by unfold qD;rw[aaH (by omega)]
  by_cases A:aa<8
  ·have c:iV k aa=true:=by unfold iV;simp;omega
   have hs:=aAv m A d;unfold OU at a;rw[c,s,aaR rfl]at a;rw[c]at b;have p:=λH lo=>anB _ (anD (z k) aa) aa y H lo
   have q: ∀ (m:Marks) (l:fw),aH (cQ m) (k*10) (fx l)=cQ (aq m k l):=λm l=>Dy (o:=0) d (by rw[Ay];omega) rfl
   simp(disch:=omega) only[go_sem,simprocAttr,w,v,u,t,b,a,h,r,↓yc d,p,q,cZ,ua,ef,jV,Ay,HN,f,g,ajJ];rw[hs];exact⟨d,rfl⟩
  ·have c:iV k aa=false:=by unfold iV;simp;omega
   unfold OU at a;rw[c,aaH (by simp)]at a;rw[c]at b;simp only[aAx m _ A]at a⊢;simp(disch:=omega) only[go_sem,simprocAttr,w,v,u,t,b,a,h,ef,jV,f,g,ajJ];exact d
 ·obtain rfl:k=32:=by omega
  rw[aAw];simp(disch:=omega) only[F1,go_sem,simprocAttr,ef,jV,x,j,f]
noncomputable def HP:lA->AS->Option aS:=oA XB (D XB) Lw pQ Nk
def Dz(args:lA)(E:AS):Option aS:=match args with
 | [.ai,.int .i64 n]=>if n=0 then some (.ret .ai E)else if 0<n/\n<=1024 then some (.ret (.ref E.heap.length 0 2 0 0 false) (E.push (.row 0 2 fu [])))else none
 |_=>none
noncomputable def XC:Ctx:={XB with bZ:=λf=>if f=pQ then some HP else if f=rm then some Dz else XB.bZ f}
theorem anF:Ext XB XC where
 dp:=rfl
 fo:=rfl
 code:=rfl
 bZ:=λf=>by
  by_cases b:f=pQ
  ·subst b;exact .inr ⟨rfl,rfl⟩
  ·by_cases a:f=rm
   ·subst a;exact .inr ⟨rfl,rfl⟩
   ·left;show(if f=pQ then some HP else if f=rm then some Dz else XB.bZ f)=XB.bZ f
    grind
section
variable{v:AV}{args:lA}{E:AS}{r:aS}
def cB(h:D XB v args E=some r):D XC v args E=some r:=xT anF h
def c0(h:D X0 v args E=some r):D XC v args E=some r:=xT anF (lz h)
end
def aAC{X:Ctx}{f:FuncId}{p:lA->AS->Option aS}{args a:lA}{E:AS}{b:aS}(c:X.bZ f=some p)(h:p (args++a) E=some b):D X (.fn (.func f) [] a) args E=some b:=by
 refine I9 ?_;simp only[Go.Den.step,c,ajS];exact h
def YX{s:bI}(f:bm s){c:cz}(l:jT c){b:Nat}{H:List ae}(n:H[a]?=some (.box (bB s) none))(m:H[b]?=some (.box (bg c) none))(N:Nat)(o:H.length=N)(lo:oN):
  ∃v J ak,D XC (.fn (.func pQ) [] [.ptr a 0,.ptr b 0]) [] ⟨H,lo⟩=some (.ret v ⟨H++J,ak⟩)/\aN N (H++J) v 1 cg ((under s.T c.r).map hC)/\ (ak=lo\/ ∃j,N<=j/\ak=cI lo j):=by
 suffices i: ∃d,HP [.ptr a 0,.ptr b 0] ⟨H,lo⟩=some d/\ (λd=> ∃v J ak,d=aS.ret v ⟨H++J,ak⟩/\aN N (H++J) v 1 cg ((under s.T c.r).map hC)/\ (ak=lo\/ ∃j,N<=j/\ak=cI lo j)) d by
  obtain⟨d,t,v,J,ak,rfl,q⟩:=i;exact⟨v,J,ak,aAC (p:=HP) rfl t,q⟩
 refine wW (X:=XB) Nk rfl λM u=>?_
 obtain⟨v,J,ak,e,h,g⟩:=Ol s.T f.T f.tr c.r l.r N H o none;have e:=lX e;simp only[go_sem,simprocAttr,Nk,n,m,↓SL,fY,e,sT];refine⟨_,_,_,rfl,h,?_⟩;rcases g with rfl| ⟨j,k,rfl⟩
 ·exact .inl rfl
 ·exact .inr ⟨j,k,rfl⟩
def aAD(n:Nat)(c:n<=1024)(H:List ae)(lo:oN):
  D XC (.fn (.func rm) [] []) [.ai,.int .i64 n] ⟨H,lo⟩=some (.ret (if n=0 then .ai else .ref H.length 0 2 0 0 false) ⟨H++(if n=0 then[]else[.row 0 2 fu []]),lo⟩):=by
 refine EJ (p:=Dz) rfl ?_;unfold Dz;by_cases h:n=0
 ·grind
 ·have b: ¬((n:Nat):Int)=0:=by omega
  have a: (0:Int)<n/\ (n:Int)<=1024:=by omega
  simp only[aaH h,aaH b,aaR a];rfl
abbrev VR:=AV×List aE
def fD(l:List VR):List aE:=l.flatMap (·.2)
def AA(x:VR):lA:=[x.1]
def OV{l:List VR}(h:k<l.length):fD (l.take (k+1))=fD (l.take k)++(l.getD k default).2:=by
 unfold fD;rw[ajN,aqp,aiu,abe h];simp
def aAE{N:Nat}{H:List ae}{bytes:Nat}{ty:TypeId}(h:aN N H v sz ty af)(a:0<sz)(d:af.length*bytes<=room):dx ⟨H,lo⟩ ty sz bytes v []=some (v,⟨H,lo⟩):=by
 unfold dx;rw[aaR ⟨a,rfl⟩];rcases h.2 with⟨rfl,_⟩| ⟨id,aj,c,rfl,b⟩
 ·rfl
 grind
def aAF(l:List VR)(hl:l.length<=3)(P: ∀x∈l,x.2.length<=64)(H:List ae)(R: ∀x∈l,Rd ⟨H,none⟩ x.1 2 (x.2.map ay))(lo:oN):
  D XC (.fn (.func SI) [] []) [.sl (l.map AA) true] ⟨H,lo⟩=some (.ret (eA (fD l)) ⟨H,lo⟩):=by
 refine aF U4 λN X=>?_
 have s:Rv (.sl (l.map AA) true) 1 (l.map AA):=.sl (by intro el d;obtain⟨x,_,rfl⟩:=ais.1 d;rfl);have y: ∀k,(fD (l.take k)).length<=64*k:=by
  intro k
  induction k with
  |zero=>simp[fD]
  |succ k ih=>
   by_cases h:k<l.length
   ·rw[OV h,ahU];have:=P _ (eV h);omega
   ·rw[abk (by omega)];rw[abk (by omega)]at ih;omega
 generalize(AV.sl (l.map AA) true)=V at*;simp only[go_sem,simprocAttr,U4,s.bD];refine dB l.length (λk e H'=>H'=H/\e 0=V/\e 3= .int .i64 (fD (l.take k)).length/\e 9=V/\e 10= .int .i64 l.length/\e 11= .int .i64 k) 0 (by omega) ?_ ?_
 ·simp only[go_sem,simprocAttr];rfl
 rintro k hk e H' ⟨rfl,h0,O,Y,B,A⟩ n hn;simp only[bO,go_sem,simprocAttr,ai6,O,Y,B,A];refine⟨λK=>?_,λK=>?_⟩
 ·have a:k<l.length:=by omega
  have j:=(R _ (eV a)).bD;have w:=y (k+1);have U:=y k;rw[OV a,ahU]at w;have u: ((fD (l.take k)).length:Int)+(l.getD k default).2.length=((fD (l.take (k+1))).length:Nat):=by rw[OV a,ahU];omega
  have I: ¬(((fD (l.take (k+1))).length:Nat):Int)<0:=by omega
  have g: (AA (l.getD k default))[0]?=some (l.getD k default).1:=rfl;have T:=y (k+1);simp(disch:=omega) only[go_sem,simprocAttr,h0,O,Y,B,A,s.bX,s.cp,g,j,u,I];exact⟨by omega,a⟩
 ·obtain rfl:k=l.length:=by omega
  have c:fD (l.take l.length)=fD l:=by rw[aiv]
  rw[c]at O;have M:=aAD (fD l).length (by have:=y l.length;rw[c]at this;omega);simp only[go_sem,simprocAttr,c,h0,M,s.bD];obtain⟨v0,t⟩: ∃v0,v0=(if(fD l).length=0 then .ai else AV.ref H'.length 0 2 0 0 false):=⟨_,rfl⟩;obtain⟨C,z⟩: ∃C,C=H'++(if(fD l).length=0 then[]else[ae.row 0 2 fu []]):=⟨_,rfl⟩;rw[<-t,<-z];have F:aN N C v0 2 fu ([].map ay)/\ ((fD l).length=0->v0= .ai)/\H'<+:C:=by
   rw[t,z];by_cases h: (fD l).length=0
   ·rw[aaR h,aaR h];exact⟨aN.ai,λ_=>rfl,by simp⟩
   ·rw[aaH h,aaH h];exact⟨⟨by simp,.inr ⟨H'.length,0,by omega,rfl,by simp⟩⟩,λq=>absurd q h,ast _ _⟩
  refine dB l.length (λk e W=>(∃v,e 6=v/\aN N W v 2 fu ((fD (l.take k)).map ay)/\ ((fD l).length=0->v= .ai))/\H'<+:W/\e 25=V/\e 26= .int .i64 l.length/\e 27= .int .i64 k) 0 (by omega) ?_ ?_
  ·simp only[go_sem,simprocAttr];exact⟨⟨_,rfl,F.1,F.2.1⟩,F.2.2⟩
  rintro k hk e W ⟨⟨v,Z,r,f⟩,b,p,o,m⟩ n hn;simp only[bO,F1,go_sem,simprocAttr,ai5,Z,p,o,m];refine⟨λK=>?_,λK=>?_⟩
  ·have a:k<l.length:=by omega
   have j:=Rd.mono (ak:=none) (R _ (eV a)) b;have g: (AA (l.getD k default))[0]?=some (l.getD k default).1:=rfl;have d:=j.eq;have w:=y k;have hzk:=P _ (eV a);have hs:=OV a;simp(disch:=omega) only[go_sem,simprocAttr,Z,s.bX,s.cp,g,d];generalize ra: (l.getD k default).2=rr at*;by_cases Q:rr=[]
   ·subst Q;rw[ajJ]at hs;rw[awu,aAE r (by omega) (by rw[ahX];unfold room;omega)];simp(disch:=omega) only[go_sem,simprocAttr,p,o,m];rw[hs];exact⟨by omega,a,⟨v,rfl,r,f⟩,b⟩
   ·have J: ¬(fD l).length=0:=by
      intro q;have q2:fD l=[]:=ak9.1 q;have:fD l=fD (l.take (k+1))++fD (l.drop (k+1)):=by
       unfold fD;rw[<-aqp,aqr]
      rw[hs]at this;rw[q2]at this;simp[Q]at this
    refine⟨by omega,?_⟩;refine oy (bytes:=16) (ys:=rr.map ay) r b X (by omega) (by intro el d;obtain⟨x,_,rfl⟩:=ais.1 d;rfl) (bz (λ_=>rfl) _) (by rw[ahX,ahX];unfold room;omega) λv' W2 E G=>?_
    simp(disch:=omega) only[go_sem,simprocAttr,p,o,m];rw[hs,aiw];exact⟨a,⟨v',rfl,E,λq=>absurd q J⟩,G⟩
  ·obtain rfl:k=l.length:=by omega
   rw[c]at r;have S:=r.Rr (lo:=lo) (by rw[bz (λ_=>rfl)];omega);rw[Bk]at S;rw[S];refine cU ?_ (iZ X λi hi=>?_)
   ·unfold eA;by_cases h: (fD l).length=0
    ·rw[f h,ak9.1 h];rfl
    ·have h1: (fD l).isEmpty=false:=by
       cases hq:fD l with
       |nil=>rw[hq]at h;exact absurd rfl h
       |cons=>rfl
     rw[h1];rcases r.2 with⟨_,q⟩| ⟨id,aj,_,rfl,_⟩
     ·rw[atS]at q;rw[q]at h;exact absurd rfl h
     ·rfl
   ·obtain⟨L,rfl⟩:=b;rw[aaF (by omega)]
def aAG(x y:aE)(c:x.1+x.2<4294967296)(b:y.1+y.2<4294967296)(p:Nat)(H:List ae)(lo:oN)(d:H[p]?=some (.box (ay x) none)):
  D X0 (.fn (.func Kk) [] [.ptr p 0]) [.agg (ay y)] ⟨H,lo⟩=some (.ret (.bool (holds y x)) ⟨H,lo⟩):=by
 refine fb U3 λN e=>?_
 have a: ∀L,(H++L)[p]?=some (.box (ay x) none):=λL=>bf d
 simp only[F1,go_sem,simprocAttr,U3,e,a,akY y x b c]
def aAH{l:List aE}(b:Rv v 2 (l.map ay))(d:l≠[]): ∃c,v= .sl (l.map ay) c:=by
 obtain⟨e,a,f⟩:=b ⟨[],none⟩;cases v<;>simp only[]at e
 ·simp only[Den.elems]at a;simp_all
 ·simp only[Den.elems]at a
  grind
 ·trivial
def aAI(b: ∀el∈af,el.length=sz){c:Bool}(f:i<=af.length): ∃w,gd sz (.sl af c) none (some (.int .i64 i)) none=some w/\Rv w sz (af.take i):=by
 refine⟨.sl (af.take i) (c&&i==af.length),?_,.sl λel a=>b el (ajY a)⟩;have d:gb af.length none (some (.int .i64 i))=some (0,i):=by
  have e: (i:Int)<=af.length:=by omega
  simp[gb,lR,e]
 simp only[gd,d,lS]
 grind
def anG(b: ∀el∈af,el.length=sz){c:Bool}(g:i<=af.length): ∃w,gd sz (.sl af c) (some (.int .i64 i)) none none=some w/\Rv w sz (af.drop i):=by
 refine⟨.sl (af.drop i) (c&&af.length==af.length),?_,.sl λel a=>b el (aqw a)⟩;have d:gb af.length (some (.int .i64 i)) none=some (i,af.length):=by
  have f: (i:Int)<=af.length:=by omega
  simp[gb,lR,f]
 have e:af.all (λel=>el.length==sz)=true:=by grind
 simp only[gd,d,lS];rw[aaR e,abk (by simp)]
def anH(l:List aE): ∀el∈l.map ay,el.length=2:=by intro el a;obtain⟨x,_,rfl⟩:=ais.1 a;rfl
def YY(v:AV)(l:List aE)(x:aE):AV:=match rW l x with
 |some a=>.au [.agg [eA a],.bool true]
 |none=>.au [.agg [v],.bool false]
def o8{E:AS}(h:Rd E v sz af):v.cn=false/\v.cells=[v]:=by
 have a:=h.kind;cases v<;>simp only[]at a<;>exact⟨rfl,rfl⟩
def aAJ(v:AV)(l:List aE)(E:Rv v 2 (l.map ay))(G:Ak l)(x:aE)(Xv:x.1<4294967296)(Xw:x.2<4294967296)(H:List ae)(lo:oN):
  D XC (.fn (.func SC) [] []) [.agg [v],.int .i64 (x.1:Nat),.int .i64 (x.2:Nat)] ⟨H,lo⟩=some (.ret (YY v l x) ⟨H,lo⟩):=by
 refine aF GQ λN p=>?_
 have hm:=λH lo=>c0 (Xp x Xv Xw H lo)
 have hr:ay x=[.int .i64 (x.1:Nat),.int .i64 (x.2:Nat)]:=rfl;rw[hr]at hm;have F:v.refs=0:=cJ E (bz (λ_=>rfl) l);unfold YY;cases f:lu x with
 |false=>
  have e0:rW l x=none:=by unfold rW;rw[aaR f]
  rw[e0];rw[f]at hm;simp only[F1,go_sem,simprocAttr,GQ,p,hm,F]
 |true=>
  rw[f]at hm;have hx:1<=x.2/\x.1+x.2<=64:=by simpa[lu]using f
  have d:=λH lo h=>c0 (akT v (.fn (.func Kk) [] [.ptr (N+2) 0]) l E (by have:=G.1;omega) (λy=>holds y x) H lo h)
  have d:=d (H++[.box [v] none,.box [.ai] none,.box (ay x) none]) none (λy Z=>aAG x y (by omega) (by have:=G.2 y Z;omega) (N+2) _ none (by rw[bw p];rfl));rw[hr]at d;have e1:rW l x=match l.findIdx? λy=>holds y x with
   |none=>none
   |some i=>some (l.take i++((if(l.getD i (0,0)).1<x.1 then[((l.getD i (0,0)).1,x.1- (l.getD i (0,0)).1)]else[])++(if x.1+x.2< (l.getD i (0,0)).1+(l.getD i (0,0)).2 then[(x.1+x.2,(l.getD i (0,0)).1+(l.getD i (0,0)).2- (x.1+x.2))]else[]))++l.drop (i+1)):=by
   unfold rW;rw[aaH (by rw[f];simp)];rfl
  rw[e1];unfold fX at d;cases hi:l.findIdx? (λy=>holds y x)with
  |none=>
   rw[hi]at d;simp only at d;simp only[F1,go_sem,simprocAttr,GQ,p,hm,d,F]
  |some i=>
   rw[hi]at d;simp only at d⊢;have I:i<l.length:=by
    obtain⟨h,_⟩:=aqv.1 hi;exact h
   have hi0: ¬((i:Nat):Int)<0:=by omega
   have JJ:=G.1;have hrv:=λl=>cJ (nv l) (bz (g:=ay) (λ_=>rfl) l)
   have iu:l.getD i (0,0)=l.getD i default:=rfl;rw[iu];have hyb:=G.2 _ (eV I);have aGT:=E.bX (k:=.i64) (a:=i);obtain⟨c,hvc⟩:=aAH E (by rintro rfl;simp at I);obtain⟨w1,s1,U⟩:=aAI (c:=c) (anH l) (i:=i) (by rw[ahX];omega);obtain⟨R,s2,T⟩:=anG (c:=c) (anH l) (i:=i+1) (by rw[ahX];omega);rw[<-hvc]at s1 s2;rw[<-List.map_take]at U;rw[<-List.map_drop]at T;generalize Z:l.getD i default=y at*;obtain⟨B,hB⟩: ∃B:List ae,B=[.box [v] none,.box [.ai] none,.box (ay x) none,.box (ay y) none]:=⟨_,rfl⟩;have O: (H++B).length=N+4:=by rw[hB];simp[p]
   have kb: ∀W,(H++B)<+:W->W[N]?=some (.box [v] none)/\W[N+1]?=some (.box [.ai] none)/\W[N+2]?=some (.box (ay x) none)/\W[N+3]?=some (.box (ay y) none):=by
    rintro W ⟨L,rfl⟩;rw[hB,aaS];refine⟨by rw[dn p];rfl,by rw[bw p];rfl,by rw[bw p];rfl,by rw[bw p];rfl⟩
   have Ew: (ay x)[0]?=some (.int .i64 x.1):=rfl;have Ez: (ay y)[0]?=some (.int .i64 y.1):=rfl;have hex:=λH lo=>c0 (C9 x (by omega) H lo)
   have J:=λH lo=>c0 (C9 y (by omega) H lo)
   have tx:List.take 2 (ay x)=ay x:=rfl;have ty:List.take 2 (ay y)=ay y:=rfl;have dz: ∀r:aE,List.drop 2 (ay r)=[]:=λ_=>rfl
   have lx: ∀r:aE,(ay r).length=2:=λ_=>rfl
   have bl: ∀a b:Nat,[AV.int .i64 (a:Int),AV.int .i64 (b:Int)]=ay (a,b):=λ_ _=>rfl
   simp(disch:=omega) only[go_sem,simprocAttr,GQ,p,hm,d,hi0,E.bX,E.cp,Z,lx];refine⟨by omega,?_⟩;refine aeQ (λe W ak=>ak=none/\ (H++B)<+:W/\aN (N+4) W (e 12) 2 fu ((if y.1<x.1 then[(y.1,x.1-y.1)]else[]).map ay)/\e 3= .ptr N 0/\e 6= .ptr (N+1) 0/\e 8= .ptr (N+2) 0/\e 10= .int .i64 i/\e 11= .ptr (N+3) 0) ?_ ?_
   ·simp(disch:=omega) only[bO,go_sem,simprocAttr];refine⟨λa=>?_,λa=>?_⟩
    ·have V: (x.1:Int)-y.1=((x.1-y.1:Nat):Int):=by omega
     simp only[go_sem,simprocAttr,V];refine oy (N:=N+4) (H0:=H++B) (af:=[]) (bytes:=16) (ys:=[ay (y.1,x.1-y.1)]) aN.ai (by rw[hB];exact ar0) O (by omega) (by intro el t;rw[ahc.1 t];rfl) rfl (by simp[room]) λv' W2 Y X=>?_
     simp only[go_sem,simprocAttr,Jm];rw[aaR (by omega)];exact⟨X,Y⟩
    ·simp only[go_sem,simprocAttr,Jm];rw[aaH (by omega)];exact⟨by rw[hB];exact ar0,aN.ai⟩
   ·rintro e W ak ⟨rfl,s,q,e3,e6,e8,n,m⟩;obtain⟨C,M⟩: ∃C,C=(if y.1<x.1 then[(y.1,x.1-y.1)]else[]):=⟨_,rfl⟩;have aGU:C.length<=1:=by rw[M];split<;>simp
    rw[<-M]at q⊢;obtain⟨g0,g1,g2,Q⟩:=kb W s;simp only[go_sem,simprocAttr,g2,Q,e8,m,hex,J];refine aeQ (λe W ak=>ak=none/\ (H++B)<+:W/\aN (N+4) W (e 12) 2 fu ((C++(if x.1+x.2<y.1+y.2 then[(x.1+x.2,y.1+y.2- (x.1+x.2))]else[])).map ay)/\e 3= .ptr N 0/\e 6= .ptr (N+1) 0/\e 8= .ptr (N+2) 0/\e 10= .int .i64 i/\e 11= .ptr (N+3) 0) ?_ ?_
    ·simp only[bO,go_sem,simprocAttr];refine⟨λa=>?_,λa=>?_⟩
     ·have V: (y.1:Int)+y.2- ((x.1:Int)+x.2)=((y.1+y.2- (x.1+x.2):Nat):Int):=by omega
      have q2: (x.1:Int)+x.2=((x.1+x.2:Nat):Int):=by omega
      simp(disch:=omega) only[go_sem,simprocAttr,g2,Q,e8,m,hex,J,V];rw[q2];refine oy (H0:=H++B) (bytes:=16) (ys:=[ay (x.1+x.2,y.1+y.2- (x.1+x.2))]) q s O (by omega) (by intro el t;rw[ahc.1 t];rfl) rfl (by rw[ahX];simp[room];omega) λv' W2 Y X=>?_
      simp only[go_sem,simprocAttr,Jm,e3,e6,e8,n,m];rw[aaR (by omega),aiw];exact⟨X,Y⟩
     ·simp only[go_sem,simprocAttr,Jm,e3,e6,e8,n,m];rw[aaH (by omega),ajJ];exact⟨s,q⟩
    ·clear g0 g1 g2 Q s q e3 e6 e8 n m e W;rintro e W ak ⟨rfl,s,q,e3,e6,e8,n,m⟩;obtain⟨P,A⟩: ∃P,P=C++(if x.1+x.2<y.1+y.2 then[(x.1+x.2,y.1+y.2- (x.1+x.2))]else[]):=⟨_,rfl⟩;have aGV:P.length<=2:=by rw[A];split<;>simp<;>omega
     rw[<-A]at q;generalize hw:e 12=w at*;obtain⟨g0,g1,g2,Q⟩:=kb W s;have u:=λlo=>aAF [(w1,l.take i),(w,P),(R,l.drop (i+1))] (by simp) (by have:=G.1;simp;omega) W (by
      intro z hz;simp only[ajR,List.not_mem_nil,or_false]at hz;rcases hz with rfl|rfl|rfl
      ·exact U _
      ·exact q.rd
      ·exact T _) lo
     have K:fD [(w1,l.take i),(w,P),(R,l.drop (i+1))]=l.take i++(C++((if x.1+x.2<y.1+y.2 then[(x.1+x.2,y.1+y.2- (x.1+x.2))]else[])++l.drop (i+1))):=by simp[fD,A]
     rw[K]at u;generalize(l.take i++(C++((if x.1+x.2<y.1+y.2 then[(x.1+x.2,y.1+y.2- (x.1+x.2))]else[])++l.drop (i+1))))=LL at*;obtain⟨t7,t8⟩:=o8 (nv LL ⟨[],none⟩);have oY:W.take N=H:=iZ p λj hj=>by
      obtain⟨L,rfl⟩:=s;rw[aaS,aaF (by omega)]
     have u9: ∀o,(W.set (N+1) o).take N=H:=λo=>by rw[atQ (by omega),oY]
     simp only[ape,awu,AA]at u;obtain⟨t1,t2⟩:=o8 (U ⟨[],none⟩);obtain⟨t3,t4⟩:=o8 (T ⟨[],none⟩);obtain⟨t5,t6⟩:=o8 (q.rd (lo:=none));have S:gd 2 v (some (.int .i64 ((i:Int)+1))) none none=some R:=s2;simp(disch:=omega) only[F1,go_sem,simprocAttr,g0,g1,e3,e6,n,hw,s1,S,t1,t2,t3,t4,t5,t6,t7,t8,cx g1,u9,u,hrv]
abbrev yd(a b:aE):Prop:=a.1+a.2<b.1
structure eH(l:List aE):Prop where
 pw:l.Pairwise yd
 bd: ∀x∈l,1<=x.2/\x.1+x.2<=64
def eH.ok{l:List aE}(h:eH l):Ak l:=by
 refine⟨?_,λx c=>(h.bd x c).2⟩;have f: (l.map (·.1)).Nodup:=by
  rw[auR,aCh];refine h.pw.imp λ {a b} d he=>?_
  omega
 have:=OI 64 _ f (by
  intro a e;obtain⟨x,c,rfl⟩:=ais.1 e;have:=h.bd x c;omega)
 grind
def eH.nil:eH []:=⟨.nil,by simp⟩
def eH.app{a b:List aE}(e:eH a)(d:eH b)(c: ∀x∈a,∀y∈b,yd x y):eH (a++b):=
 ⟨aqk.2 ⟨e.pw,d.pw,c⟩,λx f=>(aha.1 f).elim (e.bd x) (d.bd x)⟩
def eH.one{x:aE}(c:1<=x.2)(b:x.1+x.2<=64):eH [x]:=⟨List.pairwise_singleton _ _,λy a=>by grind⟩
def aAM: ∀ (l:List aE) (x:aE) (put:Bool) (out k:List aE),1<=x.2->x.1+x.2<=64->eH l->eH out->(∀a∈out,∀b∈l,yd a b)->(put=false-> ∀a∈out,yd a x)->(put=true-> ∀b∈l,yd x b)->
  hZ x put out l=some k->eH k:=by
 intro l
 induction l with
 |nil=>
  intro x put out k s r _ ho _ p _ h;unfold hZ at h;cases h;cases put with
  |true=>grind
  |false=>exact ho.app (eH.one s r) λa d b e=>by rw[ahc.1 e];exact p rfl a d
 |cons y ys t=>
  intro x put out k s r A ho j p w h;have i:=aqu.1 A.pw;have g:eH ys:=⟨i.2,λz B=>A.bd z (ajH _ B)⟩;have u:=A.bd y (ald ..);have m: ∀a∈out,yd a y:=λa d=>j a d y (ald ..)
  unfold hZ at h;split at h
  ·rename_i c;refine t x put (out++[y]) k s r g (ho.app (eH.one u.1 u.2) λa d b e=>by rw[ahc.1 e];exact m a d) ?_ ?_ (λq b e=>w q b (ajH _ e)) h
   ·intro a d b e;rcases aha.1 d with d|d
    ·exact j a d b (ajH _ e)
    ·rw[ahc.1 d];exact i.1 b e
   ·intro q a d;rcases aha.1 d with d|d
    ·exact p q a d
    ·rw[ahc.1 d];exact c
  ·split at h
   ·rename_i c;have v:eH (out++(if put then[]else[x])):=by
     cases put with
     |true=>simpa using ho
     |false=>
      refine ho.app (eH.one s r) λa d b e=>?_
      have:b=x:=by simpa using e
      rw[this];exact p rfl a d
    have o: ∀a∈out++(if put then[]else[x]),yd a y:=by
     intro a d;rcases aha.1 d with d|d
     ·exact m a d
     ·cases put with
      |true=>simp at d
      |false=>
       have:a=x:=by simpa using d
       rw[this];exact c
    refine t x true (out++(if put then[]else[x])++[y]) k s r g (v.app (eH.one u.1 u.2) λa d b e=>by rw[ahc.1 e];exact o a d) ?_ (λq=>by cases q) ?_ h
    ·intro a d b e;have n:yd y b:=i.1 b e;rcases aha.1 d with d|d
     ·have:=o a d;have D:y.1+y.2<b.1:=n;have C:a.1+a.2<y.1:=this;show a.1+a.2<b.1;omega
     ·rw[ahc.1 d];exact n
    ·intro _ b e;have D:y.1+y.2<b.1:=i.1 b e;have C:x.1+x.2<y.1:=c;show x.1+x.2<b.1;omega
   ·split at h
    ·rename_i G F E;have f:put=false:=by
      cases put with
      |false=>rfl
      |true=>
       have:x.1+x.2<y.1:=w rfl y (ald ..);omega
     refine t (y.1,y.2+x.2) put out k (by show 1<=y.2+x.2;omega) (by show y.1+(y.2+x.2)<=64;omega) g ho (λa d b e=>j a d b (ajH _ e)) (λ_ a d=>m a d) (λq=>by rw[f]at q;cases q) h
    ·split at h
     ·rename_i G F E H;have f:put=false:=by
       cases put with
       |false=>rfl
       |true=>
        have:x.1+x.2<y.1:=w rfl y (ald ..);omega
      refine t (x.1,x.2+y.2) put out k (by show 1<=x.2+y.2;omega) (by show x.1+(x.2+y.2)<=64;omega) g ho (λa d b e=>j a d b (ajH _ e)) (λq a d=>p q a d) (λq=>by rw[f]at q;cases q) h
     ·cases h
theorem eH.iA{l a:List aE}{x:aE}(h:eH l)(b:iA l x=some a):eH a:=by
 unfold Go.Proofs.YteplichagkpciaaGreatDoor.iA at b;split at b
 ·rename_i hm;have c:1<=x.2/\x.1+x.2<=64:=by simpa[lu]using hm
  exact aAM l x false [] a c.1 c.2 h eH.nil (by simp) (λ_=>by simp) (λq=>by cases q) b
 grind
theorem eH.take{l s:List aE}{x:aE}(h:eH l)(j:rW l x=some s):eH s:=by
 unfold rW at j;split at j
 ·cases j
 rename_i hm;have J:1<=x.2/\x.1+x.2<=64:=by simpa[lu]using hm
 split at j
 ·cases j
 rename_i i E;cases j;obtain⟨m,g,_⟩:=aqv.1 E;have p:l.getD i (0,0)=l[i]:=by simp[aiu,abe m]
 rw[p];have d:l=l.take i++(l[i]::l.drop (i+1)):=by rw[<-aqn m,aqr]
 generalize I:l[i]=y at*;generalize l.take i=A at*;generalize l.drop (i+1)=B at*;have k:=h.pw;have e:=h.bd;rw[d]at k e;obtain⟨w,v,r⟩:=aqk.1 k;obtain⟨u,t⟩:=aqu.1 v;have C:=e y (by simp);have F:x=y\/ (y.1<=x.1/\x.1+x.2<=y.1+y.2):=by simpa using g
 have D:y.1<=x.1/\x.1+x.2<=y.1+y.2:=by
  rcases F with rfl|q
  ·exact⟨ahT _,ahT _⟩
  ·exact q
 have H:eH A:=⟨w,λz o=>e z (by simp[o])⟩;have hB:eH B:=⟨t,λz o=>e z (by simp[o])⟩;have G:eH ((if y.1<x.1 then[(y.1,x.1-y.1)]else[])++(if x.1+x.2<y.1+y.2 then[(x.1+x.2,y.1+y.2- (x.1+x.2))]else[])):=by
  refine eH.app ?_ ?_ ?_
  ·split
   ·exact eH.one (by show 1<=x.1-y.1;omega) (by show y.1+(x.1-y.1)<=64;omega)
   ·exact eH.nil
  ·split
   ·exact eH.one (by show 1<=y.1+y.2- (x.1+x.2);omega) (by show x.1+x.2+(y.1+y.2- (x.1+x.2))<=64;omega)
   ·exact eH.nil
  ·intro a c b f;split at c<;>split at f<;>simp at c f;rw[c,f];show y.1+(x.1-y.1)<x.1+x.2;omega
 have n: ∀a∈((if y.1<x.1 then[(y.1,x.1-y.1)]else[])++(if x.1+x.2<y.1+y.2 then[(x.1+x.2,y.1+y.2- (x.1+x.2))]else[])),y.1<=a.1/\a.1+a.2<=y.1+y.2:=by
  intro a c;rcases aha.1 c with c|c
  ·split at c
   ·rw[ahc.1 c];exact⟨ahT _,by show y.1+(x.1-y.1)<=_;omega⟩
   ·cases c
  ·split at c
   ·rw[ahc.1 c];exact⟨by show y.1<=x.1+x.2;omega,by show x.1+x.2+(y.1+y.2- (x.1+x.2))<=_;omega⟩
   ·cases c
 refine(H.app G λa c b f=>?_).app hB λa c b f=>?_
 ·have L:a.1+a.2<y.1:=r a c y (by simp);have:=n b f;show a.1+a.2<b.1;omega
 ·have K:y.1+y.2<b.1:=u b f;rcases aha.1 c with c|c
  ·exact r a c b (by simp[f])
  ·have:=n a c;show a.1+a.2<b.1;omega
def qE(f:Nat->Nat):lA:=arr 32 λj=>[.int .u8 (f j)]
theorem YZ(f:Nat->Nat): (qE f).length=32:=by rfl
def o9(p:cV):AV:=if p.free.isEmpty then .ai else .sl (p.free.map ay) p.cH
def DA(p:cV):Rv (o9 p) 2 (p.free.map ay):=by
 unfold o9;split
 ·rename_i h;rw[aDS.1 h];exact .ai
 ·exact .sl (by intro el h;obtain⟨x,_,rfl⟩:=ais.1 h;rfl)
def cm(p:cV):lA:=[.int .i64 p.n,o9 p]++arr 64 λi=>qE (p.bytes i)
def ye(p:cV): (cm p).length=2050:=by
 unfold cm;rw[ahU,zZ (k:=32) (λi=>YZ (p.bytes i))];rfl
structure fR(p:cV):Prop where
 n:p.n<=64
 free:eH p.free
 bytes: ∀i j,p.bytes i j<256
theorem Y0{p:cV}:Den.part false 1 (cm p) 0=some (.int .i64 p.n):=rfl
def AB{p:cV}:Den.part true 1 (cm p) 1=some (.agg [o9 p]):=by
 unfold cm;rw[rK (by simp) (by omega)];rfl
def aAN{p:cV}(b:i<64)(a:j<32):Den.part false 1 (cm p) (2+i*32+j)=some (.int .u8 (p.bytes i j)):=by
 unfold cm;rw[ko (by grind),show 2+i*32+j- [AV.int .i64 p.n,o9 p].length=i*32+j by grind,jM (k:=32) (f:=λi=>qE (p.bytes i)) (λi=>YZ _) b (by omega) (by omega)];have:=jM (ag:=false) (m:=1) (n:=32) (k:=1) (i:=j) (o:=0) (f:=λj=>[AV.int .u8 (p.bytes i j)]) (λ_=>rfl) a (by omega) (by omega);rw[Nat.mul_one,ajG]at this;exact this
theorem anJ{p:cV}{l:List aE}:aH (cm p) 1 [eA l]=cm {p with free:=l,cH:=false}:=by rfl
theorem anK{p:cV}:aH (cm p) 1 [o9 p]=cm p:=by rfl
def anL{p:cV}{o:Nat}(a:i<64)(ho:o+vs.length<=32)(b:aH (qE (p.bytes i)) o vs=qE f):aH (cm p) (2+i*32+o) vs=cm {p with bytes:=aq p.bytes i f}:=by
 unfold cm;rw[gy (by grind),show 2+i*32+o- [AV.int .i64 p.n,o9 p].length=i*32+o by grind,mT (k:=32) (f:=λi=>qE (p.bytes i)) (λi=>YZ _) a ho,b,qi qE];rfl
def aAO{p:cV}{v:Nat}(b:i<64)(a:j<32):aH (cm p) (2+i*32+j) [.int .u8 v]=cm {p with bytes:=aq p.bytes i (aq (p.bytes i) j v)}:=by
 refine anL b (by grind) ?_;unfold qE;have:=mT (n:=32) (k:=1) (i:=j) (o:=0) (vs:=[AV.int .u8 v]) (f:=λj=>[AV.int .u8 (p.bytes i j)]) (λ_=>rfl) a (by simp);rw[Nat.mul_one,ajG]at this;rw[this];have e:aH [AV.int .u8 (p.bytes i j)] 0 [AV.int .u8 v]=[AV.int .u8 v]:=rfl;rw[e,qi (λx:Nat=>[AV.int .u8 x])]
def aAP{p:cV}{H:List ae}(a:i<64)(h:H[q]?=some (.box (cm p) none)):
  sA ⟨H,lo⟩ [.int .u8 0] (.fk q 1 (2+i*32) 32)=some ⟨H.set q (.box (cm {p with bytes:=aq p.bytes i λ_=>0}) none),lo⟩:=by
 have e:aH (cm p) (2+i*32) (List.replicate 32 [AV.int .u8 0]).flatten=cm {p with bytes:=aq p.bytes i λ_=>0}:=by
  have:=anL (p:=p) (i:=i) (o:=0) (vs:=(List.replicate 32 [AV.int .u8 0]).flatten) (f:=λ_=>0) a (by decide) (by rfl);omega
 simp only[sA,h,AS.set];rw[aaR ⟨rfl,by rw[ye];omega,rfl⟩,e];simp
def anM{X:Ctx}{id off:Nat}:qN X n sz (.ptr id off) none none=some (.fk id sz off n):=by
 simp[qN,gb,lR]
def aAQ{p:cV}{H:List ae}(c:i<64)(h:H[q]?=some (.box (cm p) none))(lo:oN):
  D X0 (.fn (.func Kh) [] []) [.ptr q (2+i*32)] ⟨H,lo⟩=some (.ret (.au []) ⟨H.set q (.box (cm {p with bytes:=aq p.bytes i λ_=>0}) none),lo⟩):=by
 refine aF UW λN d=>?_
 have b:=λlo=>aAP (lo:=lo) c h
 have a: ∀o,(H.set q o).take N=H.set q o:=λo=>abk (by grind)
 simp only[F1,go_sem,simprocAttr,UW,anM,b,a]
theorem wx{o:Nat}:ep .ptr (.ptr q o) .en=some false:=rfl
def Y1{p:cV}(k:fR p){H:List ae}(m:i<2147483648)(h:H[q]?=some (.box (cm p) none)){fv:AV}{H':List ae}(r:H'.length=H.length)
  (n:gp p i=0->i<64->D X0 fv [.ptr q (2+i*32)] ⟨H,none⟩=some (.ret (.au []) ⟨H',none⟩)) (lo:oN):
  D X0 (.fn (.func E0) [] []) [.ptr q 0,.int .i64 i,fv] ⟨H,lo⟩=some (.ret (.int .i64 (gp p i)) ⟨if gp p i=0 then H' else H,lo⟩):=by
 have ho:Old q H (.box (cm p) none):=⟨h⟩;refine aF GH λN s=>?_
 have o:=k.n;have c: ¬((i:Nat):Int)<0:=by omega
 have a:=awi (o9 p) p.free (DA _) k.free.ok i m;have f:Od p.free i=Xl p.free i:=rfl;rw[f]at a;by_cases l:p.n<=i
 ·have b: (i:Int)>=p.n:=by omega
  have d:gp p i=2:=by unfold gp;grind
  rw[d];simp(disch:=omega) only[F1,go_sem,simprocAttr,GH,wx,c,h,↓Y0,b]
 ·have b: ¬(i:Int)>=p.n:=by omega
  cases g:Xl p.free i with
  |true=>
   rw[g]at a;have d:gp p i=12:=by unfold gp;rw[aaH l,aaR g]
   rw[d];simp(disch:=omega) only[F1,go_sem,simprocAttr,GH,wx,c,h,↓Y0,↓AB,b,a]
  |false=>
   rw[g]at a;have d:gp p i=0:=by unfold gp;rw[aaH l,g];rfl
   rw[d];have j:=n d (by omega);have e: (0:Int)<=i/\ (i:Int)<64:=by omega
   simp(disch:=omega) only[F1,go_sem,simprocAttr,GH,wx,c,h,↓Y0,↓AB,b,a,e,j]
theorem HQ{E:AS}{o:Nat}:qZ E (.ptr i o) tg=some (.ptr E.heap.length 0,E.push (.box [.ptr i o] tg)):=rfl
theorem anN{E:AS}{f:Fn}{bs cs:lA}:qZ E (.fn f bs cs) tg=some (.ptr E.heap.length 0,E.push (.box [.fn f bs cs] tg)):=rfl
theorem anO(n:Nat): ((n:Nat):Int).tdiv 32=((n/32:Nat):Int):=by rfl
theorem aAR(n:Nat): ((n:Nat):Int).tmod 32=((n % 32:Nat):Int):=by rfl
section
variable{p:cV}(hp:fR p){i q:Nat}{H:List ae}(h:H[q]?=some (.box (cm p) none))(lo:oN)
include hp h
theorem aAS(e:i<2147483648):D X0 (.fn (.func Ka) [] []) [.ptr q 0,.int .i64 i] ⟨H,lo⟩=some (.ret (.int .i64 (gp p i)) ⟨H.set q (.box (cm (rX p i)) none),lo⟩):=by
 have ho:Old q H (.box (cm p) none):=⟨h⟩;refine aF Ng λN g=>?_
 have a:=λlo=>Y1 hp e h (fv:=.fn (.func Kh) [] []) (H':=H.set q (.box (cm (rX p i)) none)) (by simp) (λd c=>by
  rw[aAQ c h];unfold rX;grind) lo
 have b: ∀o,(H.set q o).take N=H.set q o:=λo=>abk (by grind)
 by_cases d:gp p i=0
 ·rw[d]at a;simp only[F1,go_sem,simprocAttr,Ng,a,b]
  grind
 ·simp only[aaH d]at a;have f:rX p i=p:=by unfold rX;grind
  rw[f,qz h];simp(disch:=omega) only[F1,go_sem,simprocAttr,Ng,a]
theorem aAT(t:i<64){b:Nat}(r:H[a]?=some (.box [.ptr q 0] none))(n:H[b]?=some (.box [.int .i64 i] none))(v:AV):
  D X0 (.fn (.func J6) [] [.ptr a 0,.ptr b 0]) [v] ⟨H,lo⟩=some (.ret (.au []) ⟨H.set q (.box (cm (N7 p i)) none),lo⟩):=by
 refine fb M7 λN s=>?_
 have f: ∀H lo,D X0 (.fn (.func BB) [] []) [.agg [o9 p],.int .i64 i,.int .i64 1] ⟨H,lo⟩=some (.ret (qx (o9 p) p.free (i,1)) ⟨H,lo⟩):=λH lo=>ak6 (o9 p) p.free (DA _) hp.free.ok (i,1) (by omega) (by simp) H lo
 have c: ∀o,(H.set q o).take N=H.set q o:=λo=>abk (by grind)
 unfold qx at f;have j:= @anJ p;have d:= @anK p;have k:=λl=>cJ (nv l) (bz (g:=ay) (λ_=>rfl) l)
 have m:=cJ (DA p) (bz (g:=ay) (λ_=>rfl) _);unfold N7;cases e:iA p.free (i,1)with
 |some l=>
  simp only[e]at f⊢;simp only[F1,go_sem,simprocAttr,M7,s,r,n,h,↓AB,f,j,c,ye,k]
 |none=>
  simp only[e]at f⊢;simp only[F1,go_sem,simprocAttr,M7,s,r,n,h,↓AB,f,d,c,ye,m]
theorem aAU(g:i<2147483648):D X0 (.fn (.func Se) [] []) [.ptr q 0,.int .i64 i] ⟨H,lo⟩=some (.ret (.int .i64 (gp p i)) ⟨H.set q (.box (cm (rY p i)) none),lo⟩):=by
 have ho:Old q H (.box (cm p) none):=⟨h⟩;refine aF M3 λN e=>?_
 have f:q<N:=by grind
 obtain⟨B,hB⟩: ∃B:List ae,B=[.box [.ptr q 0] none,.box [.int .i64 i] none]:=⟨_,rfl⟩;have a:=λlo=>Y1 hp g (bf (L:=B) h) (fv:=.fn (.func J6) [] [.ptr N 0,.ptr (N+1) 0]) (H':=(H++B).set q (.box (cm (rY p i)) none)) (by simp) (λc d=>by
  rw[aAT hp (bf (L:=B) h) none d (by grind) (by grind)];unfold rY;grind) lo
 have b: ∀o,((H++B).set q o).take N=H.set q o:=λo=>by grind
 rw[hB]at a b;by_cases c:gp p i=0
 ·rw[c]at a;simp only[ajQ]at a;simp only[F1,go_sem,simprocAttr,M3,HQ,e,a,b];rw[c];rfl
 ·simp only[aaH c]at a;have j:rY p i=p:=by unfold rY;rw[aaH c]
  rw[j,qz h];simp only[F1,go_sem,simprocAttr,M3,HQ,e,a]
theorem anP{at':Nat}(r:at'<68719476736){f:Fn}{cs:lA}{H':List ae}(o:H'.length=H.length)
  (m: ∀L,gp p (at'/32)=0->at'/32<64->D X0 (.fn f [] cs) [.ptr q (2+at'/32*32+at' % 32)] ⟨H++L,none⟩=some (.ret (.au []) ⟨H'++L,none⟩)):
  D X0 (.fn (.func Kj) [] []) [.ptr q 0,.int .i64 at',.fn f [] cs] ⟨H,lo⟩=some (.ret (.int .i64 (gp p (at'/32))) ⟨if gp p (at'/32)=0 then H' else H,lo⟩):=by
 have ho:Old q H (.box (cm p) none):=⟨h⟩;refine aF Nq λN g=>?_
 have l:q<N:=by rw[<-g];exact ho.lt
 have n:H'.length=N:=by omega
 have e:gp p (at'/32)=0->at'/32<64->D X0 (.fn (.func SJ) [] [.ptr (N+1) 0,.ptr N 0]) [.ptr q (2+at'/32*32)] ⟨H++[.box [.int .i64 at'] none,.box [.fn f [] cs] none],none⟩=some (.ret (.au []) ⟨H'++[.box [.int .i64 at'] none,.box [.fn f [] cs] none],none⟩):=by
  intro b j;refine fb U5 λM k=>?_
  have d:=m [.box [.int .i64 at'] none,.box [.fn f [] cs] none] b j;simp(disch:=omega) only[F1,go_sem,simprocAttr,U5,aAR,k,d];exact⟨by omega,cU rfl (abk (by simp at k⊢;omega))⟩
 have a:=λlo=>Y1 hp (i:=at'/32) (by omega) (bf (L:=[.box [.int .i64 at'] none,.box [.fn f [] cs] none]) h) (H':=H'++[.box [.int .i64 at'] none,.box [.fn f [] cs] none]) (by simp;omega) e lo
 have c: ¬((at':Nat):Int)<0:=by omega
 by_cases b:gp p (at'/32)=0
 ·rw[b]at a;simp only[ajQ]at a;simp(disch:=omega) only[F1,go_sem,simprocAttr,Nq,anN,wx,anO,g,c,a];rw[b,aaR rfl];rfl
 ·simp only[aaH b]at a;simp(disch:=omega) only[F1,go_sem,simprocAttr,Nq,anN,wx,anO,g,c,a];rw[aaH b]
theorem aAV{at':Nat}(k:at'<68719476736):D X0 (.fn (.func Sy) [] []) [.ptr q 0,.int .i64 at'] ⟨H,lo⟩=some (.ret (.au [.int .u8 (ur p at'),.int .i64 (gp p (at'/32))]) ⟨H,lo⟩):=by
 have ho:Old q H (.box (cm p) none):=⟨h⟩;refine aF Ni λN d=>?_
 have g:q<N:=by grind
 have a:=λlo=>anP hp (bf (L:=[.box [.int .u8 0] none]) h) lo k (f:=.func SG) (cs:=[.ptr N 0]) (H':=H++[.box [.int .u8 (p.bytes (at'/32) (at' % 32))] none]) (by simp) (λL c b=>by
  refine fb UZ λM l=>?_
  have j: ∀L,(H++L)[q]?=some (.box (cm p) none):=λL=>bf h
  have e:=aAN (p:=p) b (show at' % 32<32 by omega);simp(disch:=omega) only[F1,go_sem,simprocAttr,UZ,j,↓e];exact cU rfl (abk (by simp at l⊢;omega)))
 unfold ur;by_cases c:gp p (at'/32)=0
 ·rw[c]at a⊢;simp only[ajQ]at a⊢;simp only[F1,go_sem,simprocAttr,Ni,d,a,pO]
 ·simp only[aaH c]at a⊢;simp only[F1,go_sem,simprocAttr,Ni,d,a,pO]
theorem aAW{at' b:Nat}(m:at'<68719476736):D X0 (.fn (.func Sx) [] []) [.ptr q 0,.int .i64 at',.int .u8 b] ⟨H,lo⟩=some (.ret (.int .i64 (gp p (at'/32))) ⟨H.set q (.box (cm (vX p at' b)) none),lo⟩):=by
 have ho:Old q H (.box (cm p) none):=⟨h⟩;refine aF Nh λN d=>?_
 have k:q<N:=by grind
 have a:=λlo=>anP hp (bf (L:=[.box [.int .u8 b] none]) h) lo m (f:=.func SF) (cs:=[.ptr N 0]) (H':=(H++[ae.box [.int .u8 b] none]).set q (.box (cm {p with bytes:=aq p.bytes (at'/32) (aq (p.bytes (at'/32)) (at' % 32) b)}) none)) (by simp) (λL g e=>by
  refine fb UY λM n=>?_
  have l: ∀L,(H++L)[q]?=some (.box (cm p) none):=λL=>bf h
  have j:=aAO (p:=p) (v:=b) e (show at' % 32<32 by omega);simp(disch:=omega) only[F1,go_sem,simprocAttr,UY,l,j,ye]
  grind)
 unfold vX;have c: ∀L o,((H++L).set q o).take N=H.set q o:=λL o=>by
  rw[at5 _ _ (by omega),mF (by simp[d])]
 by_cases g:gp p (at'/32)=0
 ·rw[g]at a⊢;simp only[ajQ]at a⊢;simp only[F1,go_sem,simprocAttr,Nh,d,a,c]
 ·simp only[aaH g]at a⊢;rw[qz h];simp only[F1,go_sem,simprocAttr,Nh,d,a]
theorem aAX(w:n<=1024):D XC (.fn (.func Sw) [] []) [.ptr q 0,.int .i64 n] ⟨H,lo⟩=some (.ret (.au [.int .i64 (jv p n).2.1,.int .i64 (jv p n).2.2]) ⟨H.set q (.box (cm (jv p n).1) none),lo⟩):=by
 have ho:Old q H (.box (cm p) none):=⟨h⟩;refine aF CK λN y=>?_
 have u:q<N:=by grind
 have k:=λl=>cJ (nv l) (bz (g:=ay) (λ_=>rfl) l)
 have j:= @anJ p;have e:= @anK p;have m:=cJ (DA p) (bz (g:=ay) (λ_=>rfl) _);have c: ∀o,(H.set q o).take N=H.set q o:=λo=>abk (by grind)
 by_cases s:n<1
 ·have a: ((n:Nat):Int)<1:=by omega
  have v:jv p n=(p,0,2):=by unfold jv;rw[aaR s]
  rw[v,qz h];simp(disch:=omega) only[F1,go_sem,simprocAttr,CK,wx,a]
 ·have a: ¬((n:Nat):Int)<1:=by omega
  have b:=λH lo=>c0 (awn (o9 p) p.free (DA _) hp.free.ok n H lo)
  unfold Of at b;have e1:jv p n=match p.free.find? (fits n)with
   |none=>(p,0,6)
   |some x=>(match rW p.free (x.1,n)with|some l=>{p with free:=l,cH:=false}|none=>p,x.1,0):=by unfold jv;rw[aaH s];rfl
  rw[e1];cases f:p.free.find? (fits n)with
  |none=>
   simp only[f]at b⊢;rw[qz h];simp(disch:=omega) only[F1,go_sem,simprocAttr,CK,wx,a,h,↓AB,b]
  |some x=>
   simp only[f]at b⊢;have t:=hp.free.bd x (at6 f);have d:=λH lo=>aAJ (o9 p) p.free (DA _) hp.free.ok (x.1,n) (by simp;omega) (by simp;omega) H lo
   unfold YY at d;cases r:rW p.free (x.1,n)with
   |none=>
    simp only[r]at d⊢;simp only[F1,go_sem,simprocAttr,CK,wx,a,h,↓AB,b,d,e,c,ye,m]
   |some l=>
    simp only[r]at d⊢;simp only[F1,go_sem,simprocAttr,CK,wx,a,h,↓AB,b,d,j,c,ye,k]
end
def mo(a:Nat):Prop:= ∀E,gV XA.fo E .int .cR (.jh vq) (.int .u8 a) true=some (match sf a with|some f=>.au [.fn (.func f) [] [],.bool true]|none=>.au [.cR,.bool false])
theorem sh{r:bF}:aG (bG r)=0:=rfl
def anQ(s:bI)(g:bm s)(aa:Nat)(f:aa<4294967296)(c:cz)(i:jT c)(k:mo c.op)(H:List ae)(lo:oN):
  D XC (.fn (.func J3) [] []) [.agg (bB s),.int .i64 aa,.agg (bg c)] ⟨H,lo⟩=some (.ret (.int .i64 (oR s aa c)) ⟨H,lo⟩):=by
 refine aF M6 λN j=>?_
 have h:=λH lo=>cB (YT s g aa f c i k H lo)
 unfold oR;by_cases l:0<fg s aa c
 ·have a: ((fg s aa c:Nat):Int)>0:=by omega
  rw[aaR l];simp only[F1,go_sem,simprocAttr,M6,j,DZ,h,a]
 ·have a: ¬((fg s aa c:Nat):Int)>0:=by omega
  rw[aaH l];obtain⟨v,d1,d2⟩:=YS s g aa f c i (0,0) ⟨show 0<4294967296 by omega,show 0<4294967296 by omega⟩ k (H++[.box (bB s) none,.box (bg c) none]) none;have d1:=cB d1;have b:ay (0,0)=[.int .i64 0,.int .i64 0]:=rfl;rw[b]at d1;generalize dR s aa c (0,0)=d at*;have e: (bG d.2.1)[0]?=some (.int .i64 d.2.1.e):=rfl;simp only[F1,go_sem,simprocAttr,M6,j,DZ,h,a,d1,e,oK,sh]
def anR(s:bI)(f:bm s)(aa:Nat)(e:aa<4294967296)(c:cz)(h:jT c)(i:mo c.op)(H:List ae)(lo:oN):
  D XC (.fn (.func JV) [] []) [.agg (bB s),.int .i64 aa,.agg (bg c)] ⟨H,lo⟩=some (.ret (.bool (C3 s aa c)) ⟨H,lo⟩):=by
 refine aF MX λN b=>?_
 have g:=anQ s f aa e c h i;unfold C3;by_cases d:c.op=15
 ·have a: (c.op:Int)=15:=by omega
  have j:decide (oR s aa c=10)=decide (((oR s aa c:Nat):Int)=10):=ajF.2 (by omega);rw[abj d,aoC,j];simp only[F1,go_sem,simprocAttr,MX,b,DZ,fY,a,g]
 ·have a: ¬(c.op:Int)=15:=by omega
  rw[abi d,ajT];simp only[F1,go_sem,simprocAttr,MX,b,fY,a]
def HR(s:bI)(h:Nat):AV:=if s.T.ax h then .sl [hC h] true else .ai
def anS(s:bI)(g:bm s)(h:Nat)(f:h<4294967296)(H:List ae)(lo:oN):
  D XC (.fn (.func Kg) [] []) [.agg (bB s),.int .u32 h] ⟨H,lo⟩=some (.ret (HR s h) ⟨H,lo⟩):=by
 refine aF Nj λN d=>?_
 have b:=λH lo=>c0 (eF s.T.b h f H lo)
 have c:ax s.T.b h=s.T.ax h:=rfl;rw[c]at b;unfold HR;have a:Den.part true 96 (bB s) 0=some (.agg (ca s.T.b)):=by rfl
 cases e:s.T.ax h with
 |true=>
  rw[e]at b;simp only[F1,go_sem,simprocAttr,Nj,d,↓a,b];rfl
 |false=>
  rw[e]at b;simp only[F1,go_sem,simprocAttr,Nj,d,↓a,b]
def AD(s:bI)(h:Nat):Rv (HR s h) 1 ((oS s h).map hC):=by
 unfold HR oS;split
 ·exact .sl (by intro el a;rw[ahc.1 a];rfl)
 ·exact .ai
def aAY(l:lN)(p:l.length<2147483648)(v:AV)(H:List ae)(b:Rd ⟨H,none⟩ v 1 (l.map hC))(x:Nat)(lo:oN):
  D X0 (.fn (.func SH) [] []) [v,.int .u32 x] ⟨H,lo⟩=some (.ret (.int .i64 (fX (λy=>decide (y=x)) l)) ⟨H,lo⟩):=by
 refine aF U2 λN t=>?_
 simp only[go_sem,simprocAttr,U2,b.bD];refine dB l.length (λk e H'=>H'=H/\ (∀j,j<k->decide (l.getD j default=x)=false)/\e 0=v/\e 1= .int .u32 x/\e 7= .int .i64 l.length/\e 8= .int .i64 k) 0 (by omega) ?_ ?_
 ·simp only[go_sem,simprocAttr];omega
 rintro k r e H' ⟨rfl,f,n,i,h,g⟩ m hm;simp(disch:=omega) only[bO,F1,go_sem,simprocAttr,ai4,n,i,h,g];refine⟨λo=>?_,λo=>?_⟩
 ·have c:k<l.length:=by omega
  have d: ∀y,(hC y)[0]?=some (.int .u32 y):=λ_=>rfl
  by_cases e1:l.getD k default=x
  ·have a: ((x:Nat):Int)=(l.getD k default:Nat):=by omega
   simp(disch:=omega) only[F1,go_sem,simprocAttr,b.bX,b.cp,d,a];rw[v5 c f (abj e1)];exact⟨by omega,rfl⟩
  ·have a: ¬((x:Nat):Int)=(l.getD k default:Nat):=by omega
   simp(disch:=omega) only[go_sem,simprocAttr,n,i,h,g,b.bX,b.cp,d,a];refine⟨by omega,c,λj s=>?_⟩;rcases(show j<k\/j=k by omega)with q|rfl
   ·exact f j q
   ·exact abi e1
 ·obtain rfl:k=l.length:=by omega
  rw[v7 f]
def aAZ(l:lN)(b:l.length<2147483648)(v:AV)(H:List ae)(a:Rd ⟨H,none⟩ v 1 (l.map hC))(x:Nat)(lo:oN):
  D X0 (.fn (.func SA) [] []) [v,.int .u32 x] ⟨H,lo⟩=some (.ret (.bool (l.contains x)) ⟨H,lo⟩):=by
 refine aF UT λN c=>?_
 simp(disch:=omega) only[F1,go_sem,simprocAttr,UT,aAY l b v H a x none,xR]
 grind
section
variable{s:bI}(hs:bm s){c:cz}(hc:jT c){a b:Nat}{H:List ae}(ha:H[a]?=some (.box (bB s) none))(hb:H[b]?=some (.box (bg c) none))(lo:oN)
include hs hc ha hb
theorem anT:D XC (.fn (.func E7) [] [.ptr a 0,.ptr b 0]) [] ⟨H,lo⟩=some (.ret (HR s c.r) ⟨H,lo⟩):=by
 refine fb US λN e=>?_
 have d:=cJ (AD s c.r) (bz (λ_=>rfl) _);simp(disch:=omega) only[F1,go_sem,simprocAttr,US,ha,hb,↓SL,fY,anS s hs c.r hc.r,d]
theorem aA0{u:Nat}(p:H[u]?=some (.box [.fn (.func pQ) [] [.ptr a 0,.ptr b 0]] none)):
  ∃v,D XC (.fn (.func E8) [] [.ptr u 0,.ptr a 0,.ptr b 0]) [] ⟨H,lo⟩=some (.ret v ⟨H,lo⟩)/\Rv v 1 ((if under s.T c.r=[]\/s.T.ax c.s=false then[]else if(under s.T c.r).contains c.s then under s.T c.r else under s.T c.r++[c.s]).map hC):=by
 suffices E: ∃o,D XC (.fn (.func E8) [] [.ptr u 0,.ptr a 0,.ptr b 0]) [] ⟨H,lo⟩=some o/\ (λo=> ∃v,o=aS.ret v ⟨H,lo⟩/\Rv v 1 ((if under s.T c.r=[]\/s.T.ax c.s=false then[]else if(under s.T c.r).contains c.s then under s.T c.r else under s.T c.r++[c.s]).map hC)) o by
  obtain⟨o,K,v,rfl,I⟩:=E;exact⟨v,K,I⟩
 refine v8 CM rfl rfl rfl λN q=>?_
 obtain⟨v,J,ak,g1,g2,M⟩:=YX hs hc ha hb N q none;have e:=λH lo=>c0 (eF s.T.b c.s hc.s H lo)
 have z:ax s.T.b c.s=s.T.ax c.s:=rfl;rw[z]at e;have k:Den.part true 96 (bB s) 0=some (.agg (ca s.T.b)):=by rw[<-wg (x:=⟨s,0,nJ,(0,0),0,false,[]⟩) (bk:=.ai) (by omega) (by omega)];exact Yo
 have F:=Hx hs.tr c.r;have hr:=lG g2 ak;have d:=hr.bD;have w:=λL=>bf (L:=L) ha
 have t:=λL=>bf (L:=L) hb
 have h:=λlo=>c0 (aAZ (under s.T c.r) (by omega) v (H++J) (lG g2 none) c.s lo)
 have f:dQ N ak:=dQ.of M;have j: (H++J).take N=H:=by rw[<-q];simp
 have y:=bz (g:=hC) (λ_=>rfl) (under s.T c.r);by_cases r:under s.T c.r=[]
 ·have n: ((under s.T c.r).length:Int)=0:=by rw[r];rfl
  rw[aaR (.inl r)];simp only[go_sem,simprocAttr,CM,p,g1,d,n];rw[ja f (abX _),j];exact⟨_,rfl,.ai⟩
 ·have n: ¬((under s.T c.r).length:Int)=0:=by
    have:=apf.2 r;omega
  cases B:s.T.ax c.s with
  |false=>
   rw[B]at e;rw[aaR (.inr rfl)];simp only[go_sem,simprocAttr,CM,p,g1,d,n,w,t,↓k,fY,e];rw[ja f (abX _),j];exact⟨_,rfl,.ai⟩
  |true=>
   rw[B]at e;rw[aaH (by simp[r])];cases m: (under s.T c.r).contains c.s with
   |true=>
    rw[m]at h;rw[aaR rfl];simp only[go_sem,simprocAttr,CM,p,g1,d,n,w,t,↓k,fY,e,h];rw[Hy f g2 (by rw[y];omega),j];exact⟨_,rfl,aN.re g2⟩
   |false=>
    rw[m]at h;rw[aaH (by simp)];simp only[go_sem,simprocAttr,CM,p,g1,d,n,w,t,↓k,fY,e,h];refine oy (H0:=H) (ys:=[[.int .u32 c.s]]) g2 (ast _ _) q (by omega) (by intro el A;rw[ahc.1 A];rfl) rfl (by unfold room;simp;omega) λv' W C G=>?_
    simp only[go_sem,simprocAttr];have l:aN N W v' 1 cg ((under s.T c.r++[c.s]).map hC):=by rw[aiw];exact C
    rw[Hy f l (by rw[bz (λ_=>rfl)];omega)];refine⟨_,cU rfl (iZ q λi O=>?_),aN.re l⟩;obtain⟨L,rfl⟩:=G;rw[aaF (by omega)]
theorem aA1: ∃v,D XC (.fn (.func E9) [] [.ptr a 0,.ptr b 0]) [] ⟨H,lo⟩=some (.ret v ⟨H,lo⟩)/\Rv v 1 ((if(ck s.K c.s).2=0 then oS s (ck s.K c.s).1.aL else[]).map hC):=by
 suffices n: ∃g,D XC (.fn (.func E9) [] [.ptr a 0,.ptr b 0]) [] ⟨H,lo⟩=some g/\ (λg=> ∃v,g=aS.ret v ⟨H,lo⟩/\Rv v 1 ((if(ck s.K c.s).2=0 then oS s (ck s.K c.s).1.aL else[]).map hC)) g by grind
 refine v8 Nl rfl rfl rfl λN k=>?_
 have j:=λH lo=>c0 (Dh s.K hs.K c.s hc.s H lo)
 have m:=λL=>bf (L:=L) ha
 have f: ∀t:Tok,(fJ t).length=5:=λ_=>rfl
 have e: ∀t:Tok,aG (fJ t)=0:=λ_=>rfl
 have h: ∀t:Tok,(fJ t)[0]?=some (.int .u32 t.aL):=λ_=>rfl
 by_cases l: (ck s.K c.s).2=0
 ·have d: (((ck s.K c.s).2:Nat):Int)=0:=by omega
  have ho:=anS s hs (ck s.K c.s).1.aL (hs.K.get c.s).aL;have i:=cJ (AD s (ck s.K c.s).1.aL) (bz (λ_=>rfl) _);rw[aaR l];simp only[F1,go_sem,simprocAttr,Nl,k,ha,hb,↓SL,fY,m,f,e,h,j,d,ho,i];exact⟨_,rfl,AD s _⟩
 ·have d: ¬(((ck s.K c.s).2:Nat):Int)=0:=by omega
  rw[aaH l];simp only[F1,go_sem,simprocAttr,Nl,k,ha,hb,↓SL,fY,f,e,j,d];exact⟨_,rfl,.ai⟩
theorem aA2{u:Nat}(l:H[u]?=some (.box [.fn (.func pQ) [] [.ptr a 0,.ptr b 0]] none))(h:H[i]?=some (.box [.fn (.func E7) [] [.ptr a 0,.ptr b 0]] none)):
  ∃v,D XC (.fn (.func Fa) [] [.ptr b 0,.ptr i 0,.ptr u 0]) [] ⟨H,lo⟩=some (.ret v ⟨H,lo⟩)/\Rv v 1 ((if c.b=1 then oS s c.r else under s.T c.r).map hC):=by
 suffices n: ∃e,D XC (.fn (.func Fa) [] [.ptr b 0,.ptr i 0,.ptr u 0]) [] ⟨H,lo⟩=some e/\ (λe=> ∃v,e=aS.ret v ⟨H,lo⟩/\Rv v 1 ((if c.b=1 then oS s c.r else under s.T c.r).map hC)) e by grind
 refine v8 Nn rfl rfl rfl λN j=>?_
 by_cases k:c.b=1
 ·have d: (c.b:Int)=1:=by omega
  have g:=cJ (AD s c.r) (bz (λ_=>rfl) _);rw[aaR k];simp(disch:=omega) only[F1,go_sem,simprocAttr,Nn,hb,h,fY,d,anT hs hc ha hb,g];exact⟨_,rfl,AD s _⟩
 ·have d: ¬(c.b:Int)=1:=by omega
  obtain⟨v,J,ak,g1,g2,m⟩:=YX hs hc ha hb N j none;have f: (H++J).take N=H:=by rw[<-j];simp
  rw[aaH k];simp only[go_sem,simprocAttr,Nn,hb,l,fY,d,g1];rw[Hy (dQ.of m) g2 (by rw[bz (λ_=>rfl)];omega),f];exact⟨_,rfl,aN.re g2⟩
end
abbrev fj(N:Nat):AV:=.fn (.func E7) [] [.ptr N 0,.ptr (N+1) 0]
abbrev lJ(N:Nat):AV:=.fn (.func pQ) [] [.ptr N 0,.ptr (N+1) 0]
abbrev OW(N:Nat):AV:=.fn (.func E8) [] [.ptr (N+3) 0,.ptr N 0,.ptr (N+1) 0]
abbrev OX(N:Nat):AV:=.fn (.func E9) [] [.ptr N 0,.ptr (N+1) 0]
abbrev OY(N:Nat):AV:=.fn (.func Fa) [] [.ptr (N+1) 0,.ptr (N+2) 0,.ptr (N+3) 0]
def aA3(N:Nat):List (AV×AV):=[(.int .u8 1,fj N),(.int .u8 2,fj N),(.int .u8 3,fj N),(.int .u8 4,fj N),(.int .u8 5,fj N),(.int .u8 10,fj N),(.int .u8 12,fj N),(.int .u8 18,fj N),(.int .u8 19,fj N),(.int .u8 6,lJ N),(.int .u8 7,lJ N),(.int .u8 9,lJ N),(.int .u8 11,lJ N),(.int .u8 8,OW N),(.int .u8 13,OX N),(.int .u8 14,OY N)]
def nV(N k:Nat):List (AV×AV):=(aA3 N).take k
theorem aA4(N:Nat):ae.map []= .map (nV N 0):=rfl
def mr{N:Nat}{H:List ae}(d:H.length=N)(B:List ae)(f:B.length=4){key:Int}(i:v.refs<=N+5)(h:lT (.int .u8 key) v (nV N k)=some (nV N (k+1)))(lo:oN):
  mz ⟨H++(B++[.map (nV N k)]),lo⟩ .int (.mp (N+4)) (.int .u8 key) v=some ⟨H++(B++[.map (nV N (k+1))]),lo⟩:=by
 simp only[mz,kY,ajQ];have e: (H++(B++[ae.map (nV N k)]))[N+4]?=some (.map (nV N k)):=by grind
 simp only[e,h];have g: (H++(B++[ae.map (nV N k)])).set (N+4) (.map (nV N (k+1)))=H++(B++[.map (nV N (k+1))]):=by
  rw[aqs _ _ (by omega),aqs _ _ (by omega)];simp[d,f]
 simp only[AS.set,g]
 grind
def HS(N d:Nat):Option AV:=
 if[1,2,3,4,5,10,12,18,19].contains d then some (fj N)
 else if[6,7,9,11].contains d then some (lJ N)
 else if d=8 then some (OW N)else if d=13 then some (OX N)else if d=14 then some (OY N)else none
def aA5(N d:Nat):ea (.int .u8 d) (nV N 16)=some (HS N d):=by
 have key: ∀ (es:List (Nat×AV)),ea (.int .u8 d) (es.map λx=>(.int .u8 (x.1:Nat),x.2))=some ((es.find? λx=>decide (x.1=d)).map (·.2)):=by
  intro es
  induction es with
  |nil=>rfl
  |cons x xs j=>
   simp only[ape,ea,pC,ajQ,List.find?_cons]
   grind
 have e:nV N 16=[(1,fj N),(2,fj N),(3,fj N),(4,fj N),(5,fj N),(10,fj N),(12,fj N),(18,fj N),(19,fj N),(6,lJ N),(7,lJ N),(9,lJ N),(11,lJ N),(8,OW N),(13,OX N),(14,OY N)].map λx:Nat×AV=>(.int .u8 (x.1:Nat),x.2):=rfl
 rw[e,key];by_cases h:d<=19
 ·rcases(show d=0\/d=1\/d=2\/d=3\/d=4\/d=5\/d=6\/d=7\/d=8\/d=9\/d=10\/d=11\/d=12\/d=13\/d=14\/d=15\/d=16\/d=17\/d=18\/d=19 by omega)with q|q|q|q|q|q|q|q|q|q|q|q|q|q|q|q|q|q|q|q<;>subst q<;>rfl
 ·have hc: ∀l:lN,l.all (λk=>decide (k<=19))=true->l.contains d=false:=by
    intro l g;rw[Bool.eq_false_iff];intro hm;have:=ajD.1 g d (by simpa using hm);simp at this;omega
  have f: ∀l:List (Nat×AV),(l.map (·.1)).all (λk=>decide (k<=19))=true->l.find? (λx=>decide (x.1=d))=none:=by
   intro l g;rw[aB8];intro x i;have:=ajD.1 g x.1 (List.mem_map_of_mem i);simp at this⊢;omega
  rw[f _ rfl];unfold HS;rw[hc _ rfl,hc _ rfl,aaH (by simp),aaH (by simp),aaH (by omega),aaH (by omega),aaH (by omega)];rfl
def aA6{s:bI}(hs:bm s){c:cz}(hc:jT c)(H:List ae)(lo:oN):
  ∃v,D XC (.fn (.func J9) [] []) [.agg (bB s),.agg (bg c)] ⟨H,lo⟩=some (.ret v ⟨H,lo⟩)/\Rv v 1 ((uq s c).map hC):=by
 suffices X: ∃r,D XC (.fn (.func J9) [] []) [.agg (bB s),.agg (bg c)] ⟨H,lo⟩=some r/\ (λr=> ∃v,r=aS.ret v ⟨H,lo⟩/\Rv v 1 ((uq s c).map hC)) r by
  obtain⟨r,h1,v,rfl,Z⟩:=X;exact⟨v,h1,Z⟩
 refine cE UM λN d=>?_
 have V:N<=N+1:=by omega
 have U:N<=N+2:=by omega
 have Y: (fj N).refs=N+2:=by simp[AV.refs,aG]
 have P: (lJ N).refs=N+2:=by simp[AV.refs,aG]
 obtain⟨B,hB⟩: ∃B:List ae,B=[.box (bB s) none,.box (bg c) none,.box [fj N] none,.box [lJ N] none]:=⟨_,rfl⟩;have hm:=aA4 N;have G:=mr (k:=0) (key:=1) (v:=fj N) d B (by rw[hB];rfl) (by simp[AV.refs,aG]) rfl;have F:=mr (k:=1) (key:=2) (v:=fj N) d B (by rw[hB];rfl) (by simp[AV.refs,aG]) rfl;have C:=mr (k:=2) (key:=3) (v:=fj N) d B (by rw[hB];rfl) (by simp[AV.refs,aG]) rfl;have A:=mr (k:=3) (key:=4) (v:=fj N) d B (by rw[hB];rfl) (by simp[AV.refs,aG]) rfl;have z:=mr (k:=4) (key:=5) (v:=fj N) d B (by rw[hB];rfl) (by simp[AV.refs,aG]) rfl;have y:=mr (k:=5) (key:=10) (v:=fj N) d B (by rw[hB];rfl) (by simp[AV.refs,aG]) rfl;have x:=mr (k:=6) (key:=12) (v:=fj N) d B (by rw[hB];rfl) (by simp[AV.refs,aG]) rfl;have w:=mr (k:=7) (key:=18) (v:=fj N) d B (by rw[hB];rfl) (by simp[AV.refs,aG]) rfl;have p8:=mr (k:=8) (key:=19) (v:=fj N) d B (by rw[hB];rfl) (by simp[AV.refs,aG]) rfl;have u:=mr (k:=9) (key:=6) (v:=lJ N) d B (by rw[hB];rfl) (by simp[AV.refs,aG]) rfl;have o:=mr (k:=10) (key:=7) (v:=lJ N) d B (by rw[hB];rfl) (by simp[AV.refs,aG]) rfl;have n:=mr (k:=11) (key:=9) (v:=lJ N) d B (by rw[hB];rfl) (by simp[AV.refs,aG]) rfl;have m:=mr (k:=12) (key:=11) (v:=lJ N) d B (by rw[hB];rfl) (by simp[AV.refs,aG]) rfl;have l:=mr (k:=13) (key:=8) (v:=OW N) d B (by rw[hB];rfl) (by simp[AV.refs,aG]) rfl;have j:=mr (k:=14) (key:=13) (v:=OX N) d B (by rw[hB];rfl) (by simp[AV.refs,aG]) rfl;have i:=mr (k:=15) (key:=14) (v:=OY N) d B (by rw[hB];rfl) (by simp[AV.refs,aG]) rfl;rw[hB]at G F C A z y x w p8 u o n m l j i;simp only[ajW,ajS]at G F C A z y x w p8 u o n m l j i;simp only[go_sem,simprocAttr,UM,d,V,U,hm,Y,P,fY,G,F,C,A,z,y,x,w,p8,u,o,n,m,l,j,i];have O: ∀E:AS,E.heap[N+4]?=some (.map (nV N 16))->gV XC.fo E .int .cR (.mp (N+4)) (.int .u8 c.op) true=some (match HS N c.op with|some v=>.au [v,.bool true]|none=>.au [.cR,.bool false]):=by
  intro E h;simp only[gV,kY,ajQ,mapOf,h,aA5];cases HS N c.op<;>rfl
 rw[O _ (by rw[bw d];rfl)];obtain⟨W,g⟩: ∃W,W=H++[.box (bB s) none,.box (bg c) none,.box [fj N] none,.box [lJ N] none,.map (nV N 16)]:=⟨_,rfl⟩;have w0:W[N]?=some (.box (bB s) none):=by rw[g,dn d];rfl
 have w1:W[N+1]?=some (.box (bg c) none):=by rw[g,bw d];rfl
 have T:W[N+2]?=some (.box [fj N] none):=by rw[g,bw d];rfl
 have R:W[N+3]?=some (.box [lJ N] none):=by rw[g,bw d];rfl
 have wt: ∀L,(W++L).take N=H:=λL=>by rw[g,aaS,mF d]
 have e:W.take N=H:=by rw[g,mF d]
 have Q:W.length=N+5:=by rw[g];simp[d]
 rw[<-g];unfold uq HS;by_cases p: [1,2,3,4,5,10,12,18,19].contains c.op
 ·simp only[p,ajQ];have K:=cJ (AD s c.r) (bz (λ_=>rfl) _);simp only[F1,go_sem,simprocAttr,anT hs hc w0 w1,K,e];exact⟨_,rfl,AD s _⟩
 ·by_cases q: [6,7,9,11].contains c.op
  ·obtain⟨v,J,ak,g1,g2,g3⟩:=YX hs hc w0 w1 (N+5) Q none;simp only[p,q,ajQ,ak8,ah2];simp only[go_sem,simprocAttr,g1];rw[Hy (dQ.le (dQ.of g3) (by omega)) (aN.le (M:=N) g2 (by omega)) (by rw[bz (λ_=>rfl)];omega),wt];exact⟨_,rfl,aN.re g2⟩
  ·by_cases t:c.op=8
   ·obtain⟨v,g1,g2⟩:=aA0 hs hc w0 w1 none R;have f:=cJ g2 (bz (λ_=>rfl) _);simp only[aaH p,aaH q,aaR t];simp only[F1,go_sem,simprocAttr,g1,f,e];exact⟨_,rfl,g2⟩
   ·by_cases I:c.op=13
    ·obtain⟨v,g1,g2⟩:=aA1 hs hc w0 w1 none;have f:=cJ g2 (bz (λ_=>rfl) _);simp only[aaH p,aaH q,aaH t,aaR I];simp only[F1,go_sem,simprocAttr,g1,f,e];exact⟨_,rfl,g2⟩
    ·by_cases S:c.op=14
     ·obtain⟨v,g1,g2⟩:=aA2 hs hc w0 w1 none R T;have f:=cJ g2 (bz (λ_=>rfl) _);simp only[aaH p,aaH q,aaH t,aaH I,aaR S];simp only[F1,go_sem,simprocAttr,g1,f,e];exact⟨_,rfl,g2⟩
     ·simp only[p,q,t,I,S,ak8,ah2];simp only[F1,go_sem,simprocAttr,e];exact⟨_,rfl,.ai⟩
end Go.Proofs.YteplichagkpciaaGreatDoor
