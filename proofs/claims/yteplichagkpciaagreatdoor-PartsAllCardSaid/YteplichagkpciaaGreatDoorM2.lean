/- What functions do; conditions as stated. -/
import Derived.Test.YteplichagkpciaaGreatDoorM1
set_option linter.all false
set_option maxRecDepth 10000
set_option maxHeartbeats 1000000
namespace Go.Proofs.YteplichagkpciaaGreatDoor
open Go Go.Den
variable{t:au}{n a p k e sz r i aa:Nat}{v bk:AV}{lo:oN}{x y:ay}{b:cw}{m:Marks}{α β:Type}{l:fN}
def aqf:=@List.nodup_cons
def ar1:=@List.Pairwise.imp_of_mem
def awE:=@List.nodup_iff_pairwise_ne
def axj:=@of_decide_eq_true
def az0:=@eq_false
def aBu:=@List.nodup_append
def aB7:=@List.nodup_range
def xF(o:bI)(t:au)(p:Ow->Bool)(h:Nat):Bool:=decide (root t h=h)&&p (bu o t h)
def kf(o:bI)(t:au)(p:Ow->Bool):lN:=(bc t.b).filter (xF o t p)
def xG(o:bI)(t:au)(p:Ow->Bool)(n:Nat):lN:=((bc t.b).take n).filter (xF o t p)
def atI{o:bI}{p:Ow->Bool}(h:n< (bc t.b).length):xG o t p (n+1)=if xF o t p ((bc t.b).getD n default)then xG o t p n++[(bc t.b).getD n default]else xG o t p n:=by
 unfold xG;rw[agR,adM h,az2,getD_eq h]
 grind
def atJ{o:bI}{p:Ow->Bool}: (xG o t p n).length<=n:=ag2 (aka _ _) (by grind)
def ahK(o:bI)(ho:gk o)(t:au)(z:bN t)(V:cg t)(fv:AV)(p:Ow->Bool)(N:Nat)(H:List ae)(A:H.length=N)
  (hf: ∀x L,xC x->D X fv [.agg (j7 x)] ⟨H++L,none⟩=some (.ret (.bool (p x)) ⟨H++L,none⟩)) (lo:oN):
  ∃w,D X (.fn (.func 278) [] []) [.agg (cQ o),.agg (aN t),fv] ⟨H,lo⟩=some (.ret w ⟨H,lo⟩)/\Rv w 1 ((kf o t p).map hC)/\w.refs=0:=by
 suffices hs: ∃E,D X (.fn (.func 278) [] []) [.agg (cQ o),.agg (aN t),fv] ⟨H,lo⟩=some E/\ (λE=> ∃w,E=aV.ret w ⟨H,lo⟩/\Rv w 1 ((kf o t p).map hC)/\w.refs=0) E by
  obtain⟨E,h1,w,rfl,h2⟩:=hs;exact⟨w,h1,h2⟩
 refine cN Rj λM W=>?_
 obtain rfl:M=N:=by rw[<-W,A]
 obtain⟨v,J,e1,G⟩:=S0 t.b z.b (M+2) (H++[.box (cQ o) none,.box (aN t) none]) (by simp[A]) none;have y:D X (.fn (.func 19) [] []) [.agg (bU t.b)] ⟨H++[.box (cQ o) none,.box (aN t) none],none⟩=some _:=rM (p:=mM) rfl e1;have b:=(kT G none).bY;have si:=mG t.b;rw[adK]at y G b;obtain⟨q,u⟩: ∃q,q=[ae.box (cQ o) none,.box (aN t) none]++J:=⟨_,rfl⟩;have Y: ∀L,(H++(q++L))[M]?=some (.box (cQ o) none):=λL=>by rw[dI A,u];rfl
 have g1: ∀L,(H++(q++L))[M+1]?=some (.box (aN t) none):=λL=>by rw[bF A,u];rfl
 rw[<-u]at y G b;simp only[go_sem,simprocAttr,Rj,W,y,b];refine eN (bc t.b).length (λn e H'=> ∃L,H'=H++(q++L)/\ (∃B,e 7=B/\aT (M+q.length) H' B 1 bZ ((xG o t p n).map hC))/\e 2=fv/\e 3= .ptr M 0/\e 4= .ptr (M+1) 0/\e 12=v/\e 13= .int .i64 (bc t.b).length/\e 14= .int .i64 n) 0 (by omega) ?_ ?_
 ·simp only[go_sem,simprocAttr];exact⟨[],by simp,_,rfl,aT.av⟩
 rintro n hn e H' ⟨L,rfl,⟨B,e7,a⟩,O,K,I,m,l,k⟩ n' G8;simp only[cb,go_sem,simprocAttr,ae6,e7,m,l,k];refine⟨λhc=>?_,λhc=>?_⟩
 ·have f:n< (bc t.b).length:=by omega
  have Q:=(ia z.b).1 (fO f);have d:=atI (o:=o) (p:=p) f;have g:Rd ⟨H++(q++L),none⟩ v 1 ((bc t.b).map hC):=kT (by have:=G.ext (L:=L);rwa[adK]at this) none;have F:=g.di (X:=X) (off:=0) (n:=1) (agg:=false) f;rw[pH]at F;have sh:=atJ (o:=o) (t:=t) (p:=p) (n:=n);generalize(bc t.b).getD n default=h at*;have T:=fV Q;have r:=λH lo=>up dC (zR t z V h T H lo)
  have C:=λH lo=>up dC (Cd o ho t z V h T H lo)
  have i:=hf (bu o t h) (q++L) (ho.of t h);have c:xF o t p h=(decide (root t h=h)&&p (bu o t h)):=rfl;have U: ∀ak:oN,True:=λ_=>trivial
  by_cases Z:root t h=h
  ·have j:decide ((root t h:Int)=(h:Nat))=true:=aec (by omega);rw[aec Z,al0]at c;cases S:p (bu o t h)
   ·rw[S]at i c;rw[c,adE (by simp)]at d;simp(disch:=omega) only[go_sem,simprocAttr,O,K,I,e7,m,l,k,g.cD,F,Y,g1,r,C,j,i];exact⟨by omega,f,L,rfl,B,rfl,by rw[d];exact a⟩
   ·rw[S]at i c;rw[c,adG rfl]at d;simp only[go_sem,simprocAttr,O,K,I,e7,g.cD,F,Y,g1,r,C,j,i];refine⟨by omega,qQ (H0:=H++q) (ys:=[[.int .u32 (h:Nat)]]) a ⟨_,adK _ _ _⟩ (by simp[A]) (by omega) (by intro el R;rw[aeh.1 R];rfl) rfl (by unfold room;simp;omega) λv' H2 s P=>?_⟩;obtain⟨L2,rfl⟩:=P;simp(disch:=omega) only[go_sem,simprocAttr,O,K,I,m,l,k];refine⟨f,L2,by simp,v',rfl,?_⟩;rw[d,afr];rwa[adK]at s
  ·have j: ¬((root t h:Nat):Int)=(h:Nat):=by omega
   rw[adO Z,ag4]at c;rw[c,adE (by simp)]at d;simp(disch:=omega) only[go_sem,simprocAttr,O,K,I,e7,m,l,k,g.cD,F,g1,r,j];exact⟨by omega,f,L,rfl,B,rfl,by rw[d];exact a⟩
 ·obtain rfl:n=(bc t.b).length:=by omega
  have z:xG o t p (bc t.b).length=kf o t p:=by unfold xG kf;rw[aft]
  rw[z]at a;have h0:ca ((kf o t p).map hC)=0:=bH (λ_=>rfl) _;rw[aT.OI (aT.le a (by omega)) (by omega)];refine⟨_,dx rfl (mw A),a.ss,dj a.ss h0⟩
def qf(aa:Nat)(x:Ow):Bool:=decide (x.kind=1)&&decide (x.aa=aa)
def oF(aa:Nat)(x:Ow):Bool:=decide (x.kind=3)&& (decide (aa<8)&&fU x.hold aa)
theorem Cg(x:Ow):j7 x=[.int .u8 x.kind,.int .u8 x.aa,.int .u8 x.hold]:=rfl
def atK(aa:Nat)(x:Ow)(d:xC x)(q:Nat)(H:List ae)(e:H[q]?=some (.box [.int .i64 (aa:Nat)] none))(lo:oN):
  D X (.fn (.func 312) [] [.ptr q 0]) [.agg (j7 x)] ⟨H,lo⟩=some (.ret (.bool (qf aa x)) ⟨H,lo⟩):=by
 refine fJ KA λN b=>?_
 have f: ∀L,(H++L)[q]?=_:=λL=>bf e
 have:=d.aa;by_cases c:x.kind=1
 ·have a: (x.kind:Int)=1:=by omega
  simp(disch:=omega) only[F1,go_sem,simprocAttr,KA,b,Cg,f,a];refine dx (ag3 AV.bool ?_) rfl;unfold qf;grind
 ·have a: ¬(x.kind:Int)=1:=by omega
  simp only[F1,go_sem,simprocAttr,KA,b,Cg,a];unfold qf;grind
def atL(aa:Nat)(k:aa<256)(x:Ow)(h:xC x)(q:Nat)(H:List ae)(i:H[q]?=some (.box [.int .i64 (aa:Nat)] none))(lo:oN):
  D X (.fn (.func 279) [] [.ptr q 0]) [.agg (j7 x)] ⟨H,lo⟩=some (.ret (.bool (oF aa x)) ⟨H,lo⟩):=by
 refine fJ Ff λN e=>?_
 have f: ∀L,(H++L)[q]?=_:=λL=>bf i
 have j:=λH lo=>up dC (Tg aa (by omega) H lo)
 have hand:=Lr h.hold (zV aa);have d:=ahr (x:=x.hold) (aa:=aa);by_cases c:x.kind=3
 ·have b: (x.kind:Int)=3:=by omega
  have c0: (aa:Int)>=0:=by omega
  by_cases g:aa<8
  ·have a: (aa:Int)<8:=by omega
   simp only[F1,go_sem,simprocAttr,Ff,e,Cg,f,b,c0,a,j,hand,d];unfold oF;rw[aec c,aec g];rfl
  ·have a: ¬(aa:Int)<8:=by omega
   simp only[F1,go_sem,simprocAttr,Ff,e,Cg,f,b,c0,a];unfold oF;rw[aec c,adO g];rfl
 ·have b: ¬(x.kind:Int)=3:=by omega
  simp only[F1,go_sem,simprocAttr,Ff,e,Cg,b];unfold oF;rw[adO c];rfl
def atM(o:bI)(ho:gk o)(t:au)(c:bN t)(d:cg t)(aa:Nat)(H:List ae)(lo:oN):
  ∃w,D X (.fn (.func 277) [] []) [.agg (cQ o),.agg (aN t),.int .i64 aa] ⟨H,lo⟩=some (.ret w ⟨H,lo⟩)/\Rv w 1 ((kf o t (qf aa)).map hC)/\w.refs=0:=by
 obtain⟨N,f⟩: ∃N,H.length=N:=⟨_,rfl⟩;obtain⟨w,e1,e,e3⟩:=ahK o ho t c d (.fn (.func 312) [] [.ptr (N+2) 0]) (qf aa) (N+3) (H++[.box (cQ o) none,.box (aN t) none,.box [.int .i64 aa] none]) (by grind)
  (λx L b=>atK aa x b (N+2) _ (by simp_all) none) none
 refine⟨w,?_,e,e3⟩;refine aH Ri λM a=>?_
 obtain rfl:M=N:=by omega
 simp only[go_sem,simprocAttr,Ri,a,e1];rw[rO e3,mw a]
def atN(o:bI)(ho:gk o)(t:au)(d:bN t)(e:cg t)(aa:Nat)(a:aa<256)(H:List ae)(lo:oN):
  ∃w,D X (.fn (.func 213) [] []) [.agg (cQ o),.agg (aN t),.int .i64 aa] ⟨H,lo⟩=some (.ret w ⟨H,lo⟩)/\Rv w 1 ((kf o t (oF aa)).map hC)/\w.refs=0:=by
 obtain⟨N,g⟩: ∃N,H.length=N:=⟨_,rfl⟩;obtain⟨w,e1,f,e3⟩:=ahK o ho t d e (.fn (.func 279) [] [.ptr (N+2) 0]) (oF aa) (N+3) (H++[.box (cQ o) none,.box (aN t) none,.box [.int .i64 aa] none]) (by grind)
  (λx L c=>atL aa a x c (N+2) _ (by simp_all) none) none
 refine⟨w,?_,f,e3⟩;refine aH QS λM b=>?_
 obtain rfl:M=N:=by omega
 simp only[go_sem,simprocAttr,QS,b,e1];rw[rO e3,mw b]
theorem ahL(a b:Int):oR (.int .u8 a) (.int .u8 b)=some (decide (a=b)):=by rfl
def Lt{a b:Int}{es:List (AV×AV)}:eB (.int .u8 a) ((.int .u8 b,v)::es)=if a=b then some (some v)else eB (.int .u8 a) es:=by
 simp only[eB,ahL]
 grind
theorem ahM{a:Int}{v:AV}: ∀ {es:List (AV×AV)},(∀e∈es,∃j:Int,e.1= .int .u8 j/\a≠j)->lS (.int .u8 a) v es=some (es++[(.int .u8 a,v)])
 | [],_=>rfl
 | (k,u)::es,h=>by
   obtain⟨j,c,b⟩:=h _ (afG ..);subst c;simp only[lS,ahL,b,aB2];rw[ahM λe he=>h e (afv _ he)];rfl
def Tk{H:List ae}(b:H.length=p){a:Int}{es:List (AV×AV)}(h: ∀e∈es,∃j:Int,e.1= .int .u8 j/\a≠j)(c:v.refs<=p+1):
  ml ⟨H++[.map es],lo⟩ .int (.mp p) (.int .u8 a) v=some ⟨H++[.map (es++[(.int .u8 a,v)])],lo⟩:=by
 unfold ml;rw[adG (show kY .int (.int .u8 a)=true from rfl)];simp only[dI b,ap6,ahM h];simp only[AS.set];simp_all
def Tl{gm:Nat->Option (List (AV×AV))}{H:List ae}{id:Nat}{es:List (AV×AV)}{a:Int}{z:AV}{r:Option AV}(h:H[id]?=some (.map es))(b:eB (.int .u8 a) es=some r):
  jJ gm ⟨H,lo⟩ .int z (.mp id) (.int .u8 a) true=some (match r with|some v=>.az [v,.bool true]|none=>.az [z,.bool false]):=by
 unfold jJ;rw[adG (show kY .int (.int .u8 a)=true from rfl)];simp only[mapOf,h,b]
 grind
section
variable(T:au)(hT:bN T)(xH:cg T)(O:bI)(K:bo)(hK:ig K)(h:Nat)(hh:h<4294967296)(pw ph:Nat)(H:List ae)(hw:H[pw]?=some (.box (gQ T O K) none))(oW:H[ph]?=some (.box [.int .u32 h] none))(lo:oN)
include hT xH hK hh hw oW
omit hT xH hh in
theorem atO:D X (.fn (.func 314) [] [.ptr pw 0,.ptr ph 0]) [] ⟨H,lo⟩=some (.ret (.bool (xn K h 0)) ⟨H,lo⟩):=by
 refine fJ RC λN b=>?_
 have a: ∀H lo,D X (.fn (.func 315) [] []) [.agg (bX K),.int .u32 h,.int .u32 0] ⟨H,lo⟩=_:=ahz K hK h 0 (by omega);simp(disch:=omega) only[F1,go_sem,simprocAttr,RC,b,hw,oW,↓ry,a]
omit hT xH hh in
theorem atP:D X (.fn (.func 316) [] [.ptr pw 0,.ptr ph 0]) [] ⟨H,lo⟩=some (.ret (.bool (zG K h 0)) ⟨H,lo⟩):=by
 refine fJ RE λN b=>?_
 have a: ∀H lo,D X (.fn (.func 317) [] []) [.agg (bX K),.int .u32 h,.int .u32 0] ⟨H,lo⟩=_:=ahA K hK h 0 (by omega);simp(disch:=omega) only[F1,go_sem,simprocAttr,RE,b,hw,oW,↓ry,a]
omit hT xH hh oW in
theorem atQ(x:Nat):D X (.fn (.func 320) [] [.ptr pw 0]) [.int .u32 x] ⟨H,lo⟩=some (.ret (.bool (decide (0< (nq K x).length))) ⟨H,lo⟩):=by
 refine fJ RH λN a=>?_
 obtain⟨w,e1,b,e3⟩:=Ti K hK x H none;simp(disch:=omega) only[F1,go_sem,simprocAttr,RH,a,hw,↓ry,e1,b.bY];exact dx (ag3 AV.bool (afB.2 (by omega))) rfl
theorem atS:D X (.fn (.func 318) [] [.ptr pw 0,.ptr ph 0]) [] ⟨H,lo⟩=some (.ret (.bool (!((under T h).any λx=>decide (0< (nq K x).length)))) ⟨H,lo⟩):=by
 refine fJ RF λN b=>?_
 obtain⟨v,J,a,e,d,c⟩:=Lc T hT xH h hh N H b none;have f:=agI dC v (.fn (.func 320) [] [.ptr pw 0]) (under T h) (H++J) d.rd (by have:=FJ xH h;omega) (λx=>decide (0< (nq K x).length)) a (λx _=>atQ T O K hK pw (H++J) (bf hw) none x);simp only[go_sem,simprocAttr,RF,hw,oW,↓pJ,e,f];rw[jD (eF.of c) (aee _),mw b]
end
def atT(T:au)(hT:bN T)(xH:cg T)(O:bI)(K:bo)(hK:ig K)(h:Nat)(hh:h<4294967296)(b:Nat)(t:b<=2)(H:List ae)(lo:oN):
  D X (.fn (.func 215) [] []) [.agg (gQ T O K),.int .u32 h,.int .u8 b] ⟨H,lo⟩=some (.ret (.bool (FA T K h b)) ⟨H,lo⟩):=by
 refine aH E5 λN i=>?_
 obtain⟨o,l⟩: ∃o,o=H++[ae.box (gQ T O K) none,.box [.int .u32 h] none]:=⟨_,rfl⟩;have g:o.length=N+2:=by rw[l];simp[i]
 have m: ∀f,(AV.fn (.func f) [] [.ptr N 0,.ptr (N+1) 0]).refs<=N+2+1:=λf=>by simp only[AV.refs,aL];omega
 have k:=Tk g (a:=0) (es:=[]) (lo:=none) (by simp) (m 314);have j:=Tk g (a:=1) (es:=[(.int .u8 0,.fn (.func 314) [] [.ptr N 0,.ptr (N+1) 0])]) (lo:=none) (by simp) (m 316);have m3:=Tk g (a:=2) (es:=[(.int .u8 0,.fn (.func 314) [] [.ptr N 0,.ptr (N+1) 0]),(.int .u8 1,.fn (.func 316) [] [.ptr N 0,.ptr (N+1) 0])]) (lo:=none) (by simp) (m 318);rw[l]at k j m3;simp only[adK,aii,ag8]at k j m3;obtain⟨e,c⟩: ∃e,e=H++[ae.box (gQ T O K) none,.box [.int .u32 h] none,.map [(.int .u8 0,.fn (.func 314) [] [.ptr N 0,.ptr (N+1) 0]),(.int .u8 1,.fn (.func 316) [] [.ptr N 0,.ptr (N+1) 0]),(.int .u8 2,.fn (.func 318) [] [.ptr N 0,.ptr (N+1) 0])]]:=⟨_,rfl⟩;have n:e[N]?=some (.box (gQ T O K) none):=by rw[c,dI i];rfl
 have g1:e[N+1]?=some (.box [.int .u32 h] none):=by rw[c,bF i];rfl
 have g2:e[N+2]?=some (.map [(.int .u8 0,.fn (.func 314) [] [.ptr N 0,.ptr (N+1) 0]),(.int .u8 1,.fn (.func 316) [] [.ptr N 0,.ptr (N+1) 0]),(.int .u8 2,.fn (.func 318) [] [.ptr N 0,.ptr (N+1) 0])]):=by rw[c,bF i];rfl
 have s:=atO O K hK h N (N+1) e (T:=T) n g1 none;have q:=atP O K hK h N (N+1) e (T:=T) n g1 none;have p:=atS T hT xH O K hK h hh N (N+1) e n g1 none;have hw:b=0\/b=1\/b=2:=by omega
 rcases hw with rfl|rfl|rfl
 ·have d:=Tl (gm:=X.gl) (lo:=none) (a:=0) (z:=.dA) g2 (r:=some _) (by simp only[Lt,afK];rfl);rw[c]at s d;simp only[F1,go_sem,simprocAttr,E5,i,k,j,m3,d,s];rfl
 ·have d:=Tl (gm:=X.gl) (lo:=none) (a:=1) (z:=.dA) g2 (r:=some (.fn (.func 316) [] [.ptr N 0,.ptr (N+1) 0])) (by simp[Lt]);rw[c]at q d;simp only[F1,go_sem,simprocAttr,E5,i,k,j,m3,d,q];rfl
 ·have d:=Tl (gm:=X.gl) (lo:=none) (a:=2) (z:=.dA) g2 (r:=some (.fn (.func 318) [] [.ptr N 0,.ptr (N+1) 0])) (by simp[Lt]);rw[c]at p d;simp only[F1,go_sem,simprocAttr,E5,i,k,j,m3,d,p];rfl
def Lu(K:bo)(aa h a t:Nat):Bool:=decide ((ck K t).1.to=aa)&& ((decide (a=0)&&xn K h t)|| (decide (a=1)&& (ck K t).1.mu&&zG K h t))
def atU(T:au)(O:bI)(K:bo)(n:ig K)(aa h a t:Nat)(y:t<4294967296)(o p r q:Nat)(H:List ae)(i:H[o]?=some (.box (gQ T O K) none))(v:H[p]?=some (.box [.int .i64 aa] none))
  (A:H[r]?=some (.box [.int .u8 a] none)) (z:H[q]?=some (.box [.int .u32 h] none)) (lo:oN):
  D X (.fn (.func 333) [] [.ptr o 0,.ptr p 0,.ptr r 0,.ptr q 0]) [.int .u32 t] ⟨H,lo⟩=some (.ret (.bool (Lu K aa h a t)) ⟨H,lo⟩):=by
 refine fJ xh λN j=>?_
 have g1: ∀L,(H++L)[o]?=_:=λL=>bf i
 have g2: ∀L,(H++L)[p]?=_:=λL=>bf v
 have l: ∀L,(H++L)[r]?=_:=λL=>bf A
 have B: ∀L,(H++L)[q]?=_:=λL=>bf z
 have b:=λH lo=>up dC (Ce K n t y H lo)
 have m:=ahz K n h t y;have u:=ahA K n h t y;have s:=n.get t;have c:Lu K aa h a t=(decide ((ck K t).1.to=aa)&& ((decide (a=0)&&xn K h t)|| (decide (a=1)&& (ck K t).1.mu&&zG K h t))):=rfl;generalize I: (ck K t).1=x at*;have w:=nA x;rw[w]at b;have G:=s.to;by_cases F:x.to=aa
 ·have d:decide ((x.to:Int)=aa)=true:=aec (by omega);rw[aec F,al0]at c;by_cases E:a=0
  ·have f:decide ((a:Int)=0)=true:=aec (by omega);have e:decide ((a:Int)=1)=false:=adO (by omega);rw[aec E,adO (by omega: ¬a=1),al0,ag4,ag4,Bool.or_false]at c;cases k:xn K h t
   ·rw[k]at m c;simp(disch:=omega) only[F1,go_sem,simprocAttr,xh,j,i,g1,g2,l,B,↓ry,b,d,f,e,m,c]
   ·rw[k]at m c;simp(disch:=omega) only[F1,go_sem,simprocAttr,xh,j,i,g1,g2,l,B,↓ry,b,d,f,m,c]
  ·have f: ¬(a:Int)=0:=by omega
   rw[adO E,ag4,ar5]at c;by_cases C:a=1
   ·have e:decide ((a:Int)=1)=true:=aec (by omega);rw[aec C,al0]at c;cases g:x.mu
    ·rw[g,ag4]at c;simp(disch:=omega) only[F1,go_sem,simprocAttr,xh,j,i,g2,l,↓ry,b,d,f,e,g,c]
    ·rw[g,al0]at c;simp(disch:=omega) only[F1,go_sem,simprocAttr,xh,j,i,g1,g2,l,B,↓ry,b,d,f,e,g,u,c]
   ·have e: ¬(a:Int)=1:=by omega
    rw[adO C,ag4,ag4]at c;simp(disch:=omega) only[F1,go_sem,simprocAttr,xh,j,i,g2,l,↓ry,b,d,f,e,c]
 ·have d: ¬(x.to:Int)=aa:=by omega
  rw[adO F,ag4]at c;simp(disch:=omega) only[F1,go_sem,simprocAttr,xh,j,i,g2,↓ry,b,d,c]
def atV(T:au)(O:bI)(K:bo)(f:ig K)(aa h a:Nat)(H:List ae)(lo:oN):
  D X (.fn (.func 313) [] []) [.agg (gQ T O K),.int .i64 aa,.int .u32 h,.int .u8 a] ⟨H,lo⟩=some (.ret (.bool (FB K aa h a)) ⟨H,lo⟩):=by
 refine aH RA λN e=>?_
 obtain⟨d,b⟩: ∃d,d=H++[ae.box (gQ T O K) none,.box [.int .i64 aa] none,.box [.int .u32 h] none,.box [.int .u8 a] none]:=⟨_,rfl⟩;have k:d[N]?=some (.box (gQ T O K) none):=by rw[b,dI e];rfl
 have g1:d[N+1]?=some (.box [.int .i64 aa] none):=by rw[b,bF e];rfl
 have g2:d[N+2]?=some (.box [.int .u32 h] none):=by rw[b,bF e];rfl
 have j:d[N+3]?=some (.box [.int .u8 a] none):=by rw[b,bF e];rfl
 obtain⟨w,e1,l,e3⟩:=Ti K f h d none;have c: (nq K h).length<2^40:=by
  have:=mG K.b;have: (nq K h).length<=_:=aka _ _;omega
 have g:=agI dC w (.fn (.func 333) [] [.ptr N 0,.ptr (N+1) 0,.ptr (N+3) 0,.ptr (N+2) 0]) (nq K h) d (l _) c (Lu K aa h a) none
  (λt i=>atU T O K f aa h a t (fV ((ia f.b).1 (afI.1 i).1)) N (N+1) (N+3) (N+2) d k g1 j g2 none)
 have m:FB K aa h a=(nq K h).any (Lu K aa h a):=rfl;rw[b]at e1 g;simp only[F1,go_sem,simprocAttr,RA,e,↓ry,e1,g,m]
def ahN{x:Nat}(a:x<256)(b:k<8):decide ((x/2^k) % 2=1)=x.testBit k:=by grind
def atW(T:au)(M:bN T)(v:cg T)(O:bI)(P:gk O)(K:bo)(Q:ig K)(aa:Nat)(S:aa<256)(h:Nat)(F:h<4294967296)(c:Nat)(B:c<=2)(H:List ae)(lo:oN):
  D X (.fn (.func 283) [] []) [.agg (gQ T O K),.int .i64 aa,.int .u32 h,.int .u8 c] ⟨H,lo⟩=some (.ret (.int .i64 (vA T O K aa h c:Nat)) ⟨H,lo⟩):=by
 refine aH nc λN n=>?_
 have g:=λH lo=>up dC (eX T.b h F H lo)
 have G: ∀h,ar T.b h=T.ar h:=λh=>rfl
 simp only[G]at g;have k:=λH lo=>up dC (Cd O P T M v h F H lo)
 have m:=atT T M v O K Q h F c B;have hle:=atV T O K Q aa h c;have s:=P.of T h;have a:Den.part true 96 (gQ T O K) 0=some (.agg (bU T.b)):=by
  have e:gQ T O K=bU T.b++(xk T.r++(cQ O++bX K)):=by simp[gQ,aN]
  rw[e];exact vt (oo _) (by omega)
 have d:Den.part true 784 (gQ T O K) 0=some (.agg (gQ T O K)):=Fs (j8 _ _ _);have f:vA T O K aa h c=if T.ar h=false then 4
  else if(bu O T h).kind=3 then(if c=0/\aa<8/\ (bu O T h).hold.testBit aa=true then 0 else 5)
  else if(bu O T h).kind=1 then(if((bu O T h).aa=aa/\FA T K h c=true)\/FB K aa h c=true then 0 else 5)
  else 5:=rfl
 generalize V:bu O T h=x at*;have C:=Cg x;rw[C]at k;cases z:T.ar h with
 |false=>
  rw[adG z]at f;rw[z]at g;simp only[F1,go_sem,simprocAttr,nc,n,↓a,g,f]
 |true=>
  rw[adE (by rw[z];simp)]at f;rw[z]at g;by_cases J:x.kind=3
  ·have j:decide ((x.kind:Int)=3)=true:=aec (by omega);rw[adG J]at f;by_cases w:c=0
   ·have i: (c:Int)=0:=by omega
    have c0: (aa:Int)>=0:=by omega
    by_cases I:aa<8
    ·have r: (aa:Int)<8:=by omega
     have t:k9 .shr (.int .u8 (x.hold:Nat)) (.int .i64 (aa:Nat))=some (.int .u8 ((x.hold/2^aa:Nat):Int)):=by
      rw[Dz,adG (by omega)];have U:IntKind.u8.bits=8:=rfl;rw[U,aBS,apW (by omega)]
      congr 2
      rw[Int.fdiv_eq_ediv_of_nonneg _ (Int.le_of_lt (Int.pow_pos (by decide)))];simp
     have E:x.hold/2^aa<256:=Nat.lt_of_le_of_lt (Nat.div_le_self _ _) s.hold;have hand:dB .and (.int .u8 ((x.hold/2^aa:Nat):Int)) (.int .u8 1)=some (.int .u8 ((x.hold/2^aa % 2:Nat):Int)):=by
      have:=Lr (b:=1) E (by omega);have e:x.hold/2^aa&&&1=x.hold/2^aa % 2:=Nat.and_one_is_mod _;rw[e]at this;exact this
     have p:=ahN s.hold I;cases A:x.hold.testBit aa
     ·rw[A,adE (by simp)]at f;rw[A]at p;have o: ¬((x.hold/2^aa % 2:Nat):Int)=1:=by
       have:=of_decide_eq_false p;omega
      simp only[F1,go_sem,simprocAttr,nc,n,↓a,↓pK,↓pJ,g,k,j,i,c0,r,t,hand,o,f]
     ·rw[A,adG ⟨w,I,rfl⟩]at f;rw[A]at p;have o:decide (((x.hold/2^aa % 2:Nat):Int)=1)=true:=by
       have:=axj p;exact aec (by omega)
      simp only[F1,go_sem,simprocAttr,nc,n,↓a,↓pK,↓pJ,g,k,j,i,c0,r,t,hand,o,f]
    ·have r: ¬(aa:Int)<8:=by omega
     rw[adE (λq=>I q.2.1)]at f;simp only[F1,go_sem,simprocAttr,nc,n,↓a,↓pK,↓pJ,g,k,j,i,c0,r,f]
   ·have i: ¬(c:Int)=0:=by omega
    rw[adE (λq=>w q.1)]at f;simp only[F1,go_sem,simprocAttr,nc,n,↓a,↓pK,↓pJ,g,k,j,i,f]
  ·have j: ¬(x.kind:Int)=3:=by omega
   rw[adE J]at f;by_cases L:x.kind=1
   ·have l:decide ((x.kind:Int)=1)=true:=aec (by omega);rw[adG L]at f;have R:=s.aa;cases y:FB K aa h c<;>by_cases w:x.aa=aa
    ·have i:decide ((x.aa:Int)=aa)=true:=aec (by omega);rw[y]at hle f;cases u:FA T K h c
     ·rw[u]at m f;rw[adE (by simp)]at f;simp(disch:=omega) only[F1,go_sem,simprocAttr,nc,n,↓a,↓pK,↓pJ,↓d,g,k,j,l,i,m,hle,f]
     ·rw[u]at m f;rw[adG (.inl ⟨w,rfl⟩)]at f;simp(disch:=omega) only[F1,go_sem,simprocAttr,nc,n,↓a,↓pK,↓pJ,↓d,g,k,j,l,i,m,f]
    ·have i: ¬(x.aa:Int)=aa:=by omega
     rw[y]at hle f;rw[adE (by simp[w])]at f;simp(disch:=omega) only[F1,go_sem,simprocAttr,nc,n,↓a,↓pK,↓pJ,↓d,g,k,j,l,i,hle,f]
    ·have i:decide ((x.aa:Int)=aa)=true:=aec (by omega);rw[y]at hle f;rw[adG (.inr rfl)]at f;cases u:FA T K h c
     ·rw[u]at m;simp(disch:=omega) only[F1,go_sem,simprocAttr,nc,n,↓a,↓pK,↓pJ,↓d,g,k,j,l,i,m,hle,f]
     ·rw[u]at m;simp(disch:=omega) only[F1,go_sem,simprocAttr,nc,n,↓a,↓pK,↓pJ,↓d,g,k,j,l,i,m,f]
    ·have i: ¬(x.aa:Int)=aa:=by omega
     rw[y]at hle f;rw[adG (.inr rfl)]at f;simp(disch:=omega) only[F1,go_sem,simprocAttr,nc,n,↓a,↓pK,↓pJ,↓d,g,k,j,l,i,hle,f]
   ·have l: ¬(x.kind:Int)=1:=by omega
    rw[adE L]at f;simp only[F1,go_sem,simprocAttr,nc,n,↓a,↓pK,↓pJ,g,k,j,l,f]
structure qg(m:fg):Prop where
 fr:m.fr<8
 word:m.word<18446744073709551616
 aJ:m.aJ<4294967296
structure gW(b:cw):Prop where
 fr:b.fr<4
 n:b.n<=4
 ring: ∀i,qg (b.ring i)
def Tm:qg zH:=⟨by trivial,by trivial,by trivial⟩
def gW.gone:gW rC:=⟨by trivial,by trivial,λ_=>Tm⟩
def gW.close(h:gW b):gW (pQ b).1:=by
 unfold pQ;split
 ·exact h
 ·exact⟨h.fr,h.n,h.ring⟩
def gW.put(h:gW b){m:fg}(a:qg m):gW (iw b m).1:=by
 unfold iw;split
 ·exact h
 ·split
  ·exact h
  ·refine⟨h.fr,by have:=h.n;grind,λi=>?_⟩;show qg (ao b.ring (jg b b.n) m i);by_cases e:i=jg b b.n
   ·rw[e,bS];exact a
   ·rw[bT e];exact h.ring i
def gW.take(h:gW b):gW (iz b).1/\qg (iz b).2.1:=by
 unfold iz;split
 ·exact⟨h,Tm⟩
 ·exact⟨⟨anS _ (by omega),by have:=h.n;grind,h.ring⟩,h.ring _⟩
def ahO(b:cw)(i:Nat):jg b i<4:=anS _ (by omega)
def zB:lA:=[.int .u8 0,.int .u64 0,.int .u32 0,.bool false,.int .u8 0,.int .u64 0,.int .u32 0,.bool false,.int .u8 0,.int .u64 0,.int .u32 0,.bool false,.int .u8 0,.int .u64 0,.int .u32 0,.bool false,.int .i64 0,.int .i64 0,.bool false]
theorem ahP:List.take 19 (cy b)=cy b:=by rfl
def MB:=gG @ahP<|gG @zy @afT
theorem oG(m:fg):eO m=[.int .u8 m.fr,.int .u64 m.word,.int .u32 m.aJ,.bool m.share]:=rfl
def Tn(b:cw)(d:b.fr<4)(i:Nat)(c:i<1000)(H:List ae)(lo:oN):D X0 (.fn (.func 306) [] []) [.agg (cy b),.int .i64 i] ⟨H,lo⟩=some (.ret (.int .i64 (jg b i:Nat)) ⟨H,lo⟩):=by
 refine aH Ry λN a=>?_
 have e: ((b.fr:Int)+i).tmod 4=(jg b i:Nat):=by rfl
 simp(disch:=omega) only[F1,go_sem,simprocAttr,Ry,a,↓af9,e]
def To(b:cw)(l:gW b)(m:fg)(H:List ae)(lo:oN):
  D X0 (.fn (.func 271) [] []) [.agg (cy b),.agg (eO m)] ⟨H,lo⟩=some (.ret (.az [.agg (cy (iw b m).1),.int .i64 (iw b m).2]) ⟨H,lo⟩):=by
 refine aH Fc λN j=>?_
 have e:iw b m=if b.closed then(b,11)else if b.n=4 then(b,7)else({b with ring:=ao b.ring (jg b b.n) m,n:=b.n+1},0):=rfl
 have hm:=oG m;cases f:b.closed
 ·rw[f,adE (by simp)]at e;by_cases k:b.n=4
  ·rw[adG k]at e;have d:decide ((b.n:Int)=4)=true:=aec (by omega);simp only[F1,go_sem,simprocAttr,Fc,j,hm,↓zA,f,↓BZ,d,MB,↓ru,e]
  ·rw[adE k]at e;have d: ¬(b.n:Int)=4:=by omega
   have p:=l.n;have i:=Tn b l.fr b.n (by omega);have h:=ahO b b.n;have a:=arn (b:=b) (x:=m) h;rw[hm]at a;have g: ∀c,aO (cy ⟨ao b.ring (jg b b.n) m,b.fr,b.n,c⟩) 17 [.int .i64 ((b.n:Int)+1)]=cy ⟨ao b.ring (jg b b.n) m,b.fr,b.n+1,c⟩:=λc=>aga (x:=b.n+1)
   have o: (N+1 !=N)=true:=by simp
   simp(disch:=omega) only[F1,go_sem,simprocAttr,Fc,j,hm,↓zA,f,↓BZ,d,MB,↓ru,i,a,g,e];exact⟨by omega,by omega⟩
 ·rw[f,adG rfl]at e;simp only[F1,go_sem,simprocAttr,Fc,j,hm,↓zA,f,MB,↓ru,e]
def ba(x:ay)(bk:AV):lA:=bz x.s++([.int .i64 x.aa]++(bn x.c++(aA x.run++[.int .i64 x.kO,.bool x.asks,bk])))
def Lx(x:ay)(bk:AV): (ba x bk).length=964:=by simp only[ba,aeb,eP];rfl
section
variable{x:ay}{bk:AV}
theorem vP{ag:Bool}{m o:Nat}(ho:o+m<=952)(a:0<m):Den.part ag m (ba x bk) o=Den.part ag m (bz x.s) o:=by
 unfold ba;exact nd (by rw[eP];exact ho) a
def oH{ag:Bool}{m o:Nat}(ho:952<=o):Den.part ag m (ba x bk) o=Den.part ag m ([.int .i64 x.aa]++(bn x.c++(aA x.run++[.int .i64 x.kO,.bool x.asks,bk]))) (o-952):=by
 unfold ba;rw[j6 (by rw[eP];exact ho),eP]
def ahQ:Den.part true 480 (ba x bk) 0=some (.agg (aN x.s.T)):=by grind [vP,KR]
theorem Tp:Den.part true 96 (ba x bk) 0=some (.agg (bU x.s.T.b)):=by rfl
def ahR:Den.part true 128 (ba x bk) 480=some (.agg (cQ x.s.O)):=by grind [vP,So]
def ahS:Den.part true 176 (ba x bk) 608=some (.agg (bX x.s.K)):=by grind [vP,Sp]
def ahT:Den.part true 784 (ba x bk) 0=some (.agg (gQ x.s.T x.s.O x.s.K)):=by grind [vP,Sm]
def ahU:Den.part true 952 (ba x bk) 0=some (.agg (bz x.s)):=by grind [vP,Sn]
def Ly{i:Nat}(h:i<8):Den.part true 19 (ba x bk) (784+i*19)=some (.agg (cy (x.s.bp i))):=by grind [vP,ars]
def Tq{i:Nat}(h:i<8):Den.part false 1 (ba x bk) (936+i)=some (.bool (x.s.alive i)):=by grind [vP,agc]
def atX{i:Nat}(h:i<8):Den.part false 1 (ba x bk) (944+i)=some (.bool (x.s.born i)):=by grind [vP,art]
def ahV:Den.part false 1 (ba x bk) 952=some (.int .i64 x.aa):=by rw[oH (by omega)];rfl
def ahW:Den.part false 1 (ba x bk) 953=some (.int .u8 x.c.op):=by rw[oH (by omega)];rfl
def ahX:Den.part false 1 (ba x bk) 954=some (.int .u32 x.c.r):=by rw[oH (by omega)];rfl
def ahY:Den.part false 1 (ba x bk) 955=some (.int .u32 x.c.s):=by rw[oH (by omega)];rfl
def ahZ:Den.part false 1 (ba x bk) 956=some (.int .u32 x.c.a):=by rw[oH (by omega)];rfl
def ah0:Den.part false 1 (ba x bk) 957=some (.int .u32 x.c.b):=by rw[oH (by omega)];rfl
def ah1:Den.part false 1 (ba x bk) 958=some (.int .u64 x.c.v):=by rw[oH (by omega)];rfl
def ah2:Den.part true 6 (ba x bk) 953=some (.agg (bn x.c)):=by rw[oH (by omega)];rfl
def ah3:Den.part true 2 (ba x bk) 959=some (.agg (aA x.run)):=by rw[oH (by omega)];rfl
def ah4:Den.part false 1 (ba x bk) 960=some (.int .i64 x.run.2):=by rw[oH (by omega)];rfl
def ah5:Den.part false 1 (ba x bk) 961=some (.int .i64 x.kO):=by rw[oH (by omega)];rfl
def ah6:Den.part false 1 (ba x bk) 962=some (.bool x.asks):=by rw[oH (by omega)];rfl
def ah7:Den.part false 1 (ba x bk) 963=some bk:=by rw[oH (by omega)];rfl
def CL:=gG @ahQ<|gG @Tp<|gG @ahR<|gG @ahS<|gG @ahT<|gG @ahU<|gG @ahV<|gG @ahW<|gG @ahX<|gG @ahY<|gG @ahZ<|gG @ah0<|gG @ah1<|gG @ah2<|gG @ah3<|gG @ah4<|gG @ah5<|gG @ah6 @ah7
def Ch{s:bm}{o:Nat}{vs:lA}(ho:o+vs.length<=952)(h:aO (bz x.s) o vs=bz s):aO (ba x bk) o vs=ba {x with s:=s} bk:=by
 unfold ba;rw[rq (by rw[eP];exact ho),h]
def Tr:aO (ba x bk) 0 (aN t)=ba (x.t t) bk:=Ch (by rw[iO];omega) aru
def ah8{w:bI}:aO (ba x bk) 480 (cQ w)=ba (x.o w) bk:=Ch (by rw[sS];omega) arv
def ah9{k:bo}:aO (ba x bk) 608 (bX k)=ba (x.k k) bk:=Ch (by rw[zx];omega) arw
def Lz{i:Nat}{b:cw}(h:i<8):aO (ba x bk) (784+i*19) (cy b)=ba (x.bx i b) bk:=Ch (by rw[zy];omega) (arx h)
def aia{i:Nat}{v:Bool}(h:i<8):aO (ba x bk) (936+i) [.bool v]=ba {x with s:={x.s with alive:=ao x.s.alive i v}} bk:=Ch (by grind) (agf h)
def atY{i:Nat}{v:Bool}(h:i<8):aO (ba x bk) (944+i) [.bool v]=ba {x with s:={x.s with born:=ao x.s.born i v}} bk:=Ch (by grind) (agh h)
def Ci{o:Nat}{vs:lA}(ho:952<=o):aO (ba x bk) o vs=bz x.s++aO ([.int .i64 x.aa]++(bn x.c++(aA x.run++[.int .i64 x.kO,.bool x.asks,bk]))) (o-952) vs:=by
 unfold ba;rw[hY (by rw[eP];exact ho),eP]
theorem aib:aO (ba x bk) 961 [.int .i64 n]=ba {x with kO:=n} bk:=by rw[Ci (by omega)];rfl
def aic:aO (ba x bk) 963 [v]=ba x v:=by rw[Ci (by omega)];rfl
def CS:=gG @Tr<|gG @ah8<|gG @ah9<|gG @aib<|gG @aic @Lx
end
abbrev jE(e:Nat):AV:=.dq Ia (.int .i64 (e:Nat))
theorem aid{t:TypeId}:Xw (.dq t v)=some (.dq t v):=rfl
def aie{X:Ctx}{a:List RV}{R:aV->Prop}{e:Env}{E:AS}:ee X n lo a R (.panic v) ⟨e,[]⟩ E=R (.panic (finish n lo v E).1 (finish n lo v E).2):=by
 simp[ee,dZ]
def EP:=gG @aid @aie
def FR(e:Int)(H:List ae)(lo:oN):D X0 (.fn (.func 116) [] []) [.bool true,.int .i64 e] ⟨H,lo⟩=some (.ret (.az []) ⟨H,lo⟩):=by
 refine aH ET λN a=>?_
 simp(disch:=omega) only[F1,go_sem,simprocAttr,ET]
def zW(e:Nat)(H:List ae)(lo:oN):D X0 (.fn (.func 116) [] []) [.bool false,.int .i64 e] ⟨H,lo⟩=some (.panic (jE e) ⟨H,lo⟩):=by
 refine aH ET λN a=>?_
 simp(disch:=omega) only[F1,go_sem,simprocAttr,ET,EP]
def atZ(H:List ae)(lo:oN):D X0 (.fn (.func 248) [] []) [.int .i64 0] ⟨H,lo⟩=some (.ret (.az []) ⟨H,lo⟩):=by
 refine aH E8 λN a=>?_
 simp(disch:=omega) only[F1,go_sem,simprocAttr,E8,FR]
def at0(e:Nat)(b:e≠0)(H:List ae)(lo:oN):D X0 (.fn (.func 248) [] []) [.int .i64 e] ⟨H,lo⟩=some (.panic (jE e) ⟨H,lo⟩):=by
 refine aH E8 λN c=>?_
 have a: ¬(e:Int)=0:=by omega
 simp(disch:=omega) only[F1,go_sem,simprocAttr,E8,zW,a,EP]
def zX{X:Ctx}{e:Env}{E:AS}{R:aV->Prop}{b c m:Nat}{ag d:Bool}:ee X n lo [.cell a ag m,.cell b d k,.t c] R .ret ⟨e,[]⟩ E=okV (cq X E ag m (e a)) (λv E=>okV (cq X E d k (e b)) (λu E=>nW n lo R (.az [v,u,e c]) E) E) E:=by
 simp only[yO,yS,gp,kx,oS];cases h:cq X E ag m (e a)with
 |none=>simp[okV,h]
 |some v=>
  cases f:cq X E d k (e b)with
  |none=>simp[okV,h,f]
  |some u=>simp[okV,nW,h,f]
def at1(b:cw)(i:gW b)(H:List ae)(lo:oN):
  D X0 (.fn (.func 272) [] []) [.agg (cy b)] ⟨H,lo⟩=some (.ret (.az [.agg (cy (iz b).1),.agg (eO (iz b).2.1),.int .i64 (iz b).2.2]) ⟨H,lo⟩):=by
 refine aH Fe λN k=>?_
 have d:iz b=if b.n=0 then(b,zH,if b.closed then 11 else 10)else({b with fr:=jg b 1,n:=b.n-1},b.ring b.fr,0):=rfl
 have e:eO zH=[.int .u8 0,.int .u64 0,.int .u32 0,.bool false]:=rfl;by_cases l:b.n=0
 ·rw[adG l]at d;have a:decide ((b.n:Int)=0)=true:=aec (by omega);cases g:b.closed
  ·rw[g,adE (by simp)]at d;simp only[F1,go_sem,simprocAttr,Fe,k,↓zA,g,↓BZ,a,MB,↓ru,d,e,zX]
  ·rw[g,adG rfl]at d;simp only[F1,go_sem,simprocAttr,Fe,k,↓zA,g,↓BZ,a,MB,↓ru,d,e,zX]
 ·rw[adE l]at d;have a: ¬(b.n:Int)=0:=by omega
  have m:=i.n;have j: ∀H lo,D X0 (.fn (.func 306) [] []) [.agg (cy b),.int .i64 1] ⟨H,lo⟩=_:=Tn b i.fr 1 (by omega);have h:=i.fr;have f: (b.fr:Int)<4:=by omega
  have hm:=oG (b.ring b.fr);have c:=af8 (b:=b) h;have o: ((b.n:Int)-1)=((b.n-1:Nat):Int):=by omega
  rw[hm]at c;simp(disch:=omega) only[F1,go_sem,simprocAttr,Fe,k,↓BZ,↓af9,a,MB,↓ru,j,↓c,f,o,aro,aga,d,hm,zX];simp
def at2(b:cw)(H:List ae)(lo:oN):
  D X0 (.fn (.func 273) [] []) [.agg (cy b)] ⟨H,lo⟩=some (.ret (.az [.agg (cy (pQ b).1),.int .i64 (pQ b).2]) ⟨H,lo⟩):=by
 refine aH Kt λN c=>?_
 have d:pQ b=if b.closed then(b,11)else({b with closed:=true},0):=rfl
 cases a:b.closed
 ·simp only[F1,go_sem,simprocAttr,Kt,c,↓zA,a,MB,↓ru,arp,d]
 ·simp only[F1,go_sem,simprocAttr,Kt,c,↓zA,a,MB,↓ru,d]
def at3(b:cw)(N:Nat)(H:List ae)(c:H.length=N)(lo:oN):D X0 (.fn (.func 331) [] []) [.agg (cy b)] ⟨H,lo⟩=some (.ret (.fn (.func 337) [] [.ptr N 0]) ⟨H++[.box (cy b) none],lo⟩):=by
 refine aH RP λM a=>?_
 obtain rfl:M=N:=by omega
 simp only[go_sem,simprocAttr,RP,a];rw[zQ (by omega)]
def xI(b:cw):List lA:=(du b).map λm=>[.agg (eO m)]
def Ts(b:cw): (xI b).length=b.n:=by simp[xI,du]
def aif{j:Nat}(h:j<b.n): (xI b)[j]?=some [.agg (eO (b.ring (jg b j)))]:=by
 unfold xI du
 grind
def at4(b:cw)(K:gW b)(a:Nat):uQ X0 (.fn (.func 337) [] [.ptr a 0]) a [.box (cy b) none] (xI b):=by
 intro S V y I J base L g z W s hP h0 wI f hG lo;have p: ∀i,V.cE i->i<base:=λi hi=>(g i hi).1
 suffices h: ∃w,D X0 (.fn (.func 337) [] [.ptr a 0]) [y] ⟨W,lo⟩=some w/\
   (λw=> ∃s' d ak,w=aV.ret (.az []) ⟨d,ak⟩/\V.P s' d/\ (I (xI b).length s'\/J s')/\base<=d.length/\
     (∀i,i<base-> ¬V.cE i-> ¬(a<=i/\i<a+[ae.box (cy b) none].length)->d[i]?=W[i]?)/\lb V.c base lo ak none (V.row s')) w by
  obtain⟨w,h1,s',d,ak,rfl,X,U,T,R,Q⟩:=h;exact⟨s',d,ak,h1,X,U,T,R,Q⟩
 refine ub RS rfl rfl rfl λN hN=>?_
 obtain rfl:N=base:=by omega
 have C:W[a]?=some (.box (cy b) none):=hG 0 (by simp);have ha:=eg C;have A: ¬V.cE a:=λq=>(g a q).2 ⟨by omega,by simp⟩
 have Nl:=K.n;simp only[go_sem,simprocAttr,RS,C,↓BZ];refine ja b.n (λk e d ak=> ∃s',I k s'/\kA V N W (λi=>a<=i/\i<a+[ae.box (cy b) none].length) s' d ak/\d[a]?=some (.box (cy b) none)/\e 0=y/\e 1= .ptr a 0/\e 5= .int .i64 b.n/\e 6= .int .i64 k) 0 (by omega) ?_ ?_
 ·simp only[go_sem,simprocAttr];exact⟨s,h0,⟨hP,by omega,λ_ _ _ _=>rfl,.inl ⟨rfl,f⟩,λr e=>by rw[f]at e;cases e⟩,C⟩
 rintro k hk e W1 x ⟨s1,M,o,w0,P,e1,O,e6⟩ n hn;simp only[cb,go_sem,simprocAttr,afi,P,e1,O,e6];refine⟨λh=>?_,λh=>?_⟩
 ·have t:k<b.n:=by omega
  have hx:=aif t;have u:=Tn b K.fr k (by omega);have B:=ahO b k;have l: (jg b k:Int)<4:=by omega
  have j:=af8 (b:=b) B;obtain⟨c,s2,W2,ny,H,p2,G,Z,Y,F⟩:=z k _ s1 hx M W1 o.P o.len x;have v:=o.step p2 G Z Y;have K9:N<=n:=by have:=o.len;omega
  have v0:W2[a]?=some (.box (cy b) none):=by rw[G.2 a (by omega) A (λq=>by have:=o.row _ q;omega)];exact w0
  cases c
  ·obtain⟨E,m,f1,f2,f3,f4,f5⟩:=v.fin L p (dS:=lo);simp only[go_sem,simprocAttr,e1,w0,MB,u,l,↓j,H,f1];exact⟨s2,E,m,rfl,f2,.inr F,f3,f4,f5⟩
  ·simp(disch:=omega) only[go_sem,simprocAttr,P,e1,O,e6,w0,MB,u,l,↓j,H];exact⟨t,s2,F,v,v0⟩
 ·obtain⟨E,m,f1,f2,f3,f4,f5⟩:=o.fin L p (dS:=lo);simp only[go_sem,simprocAttr,f1];exact⟨s1,E,m,rfl,f2,.inl (by rw[Ts,show b.n=k by omega];exact M),f3,f4,f5⟩
def aih{N id aj:Nat}{H:List ae}{ty:TypeId}{af:List lA}(e:N<=id)(c:H[id]?=some (.row aj sz ty af))(d:n=af.length)(a:ca af<=N):Den.freeze ⟨H,lo⟩ N (k+4) (.ref id aj sz 0 n true)=some (.sl af true):=by
 subst d;have b: ¬(AV.ref id aj sz 0 af.length true).refs<=N:=by simp only[AV.refs];omega
 rw[Den.freeze,adE b];simp only[c];rw[adG ⟨trivial,trivial,by omega⟩];simp only[amv,aft];rw[OH af a]
def at5(H:List ae)(lo:oN):D X0 (.fn (.func 332) [] []) [.av] ⟨H,lo⟩=some (.ret .av ⟨H,lo⟩):=by
 refine aH Fl λN b=>?_
 have a:gJ 4 .av none (some (.int .i64 0)) (some (.int .i64 0))=some .av:=by rfl
 simp(disch:=omega) only[F1,go_sem,simprocAttr,Fl,a]
def at6(id aj n:Nat)(H:List ae)(c:id<H.length)(lo:oN):D X0 (.fn (.func 332) [] []) [.ref id aj 4 0 n false] ⟨H,lo⟩=some (.ret (.ref id aj 4 0 n true) ⟨H,lo⟩):=by
 refine aH Fl λN d=>?_
 have b:gJ 4 (.ref id aj 4 0 n false) none (some (.int .i64 (n:Nat))) (some (.int .i64 (n:Nat)))=some (.ref id aj 4 0 n true):=by simp[gJ,gI,lQ,lR]
 have a: ∀E,gv E .sl (.ref id aj 4 0 n false)=some (.int .i64 n):=λE=>rfl
 simp only[go_sem,simprocAttr,Fl,b,a];rw[jD (.inl rfl) (by simp only[AV.refs];omega),adP (by omega)]
structure MSt where
 l:List fg
 row:oN
def mV(H:List ae)(N:Nat):YV MSt:=⟨λs W=>jb N H W/\SV (N+1) 4 DH W s.row (s.l.map eO),MSt.row,λi=>i<N+2,N+1⟩
def at7{H:List ae}{N:Nat}: (mV H N).Ok where
 st:=λs W f ⟨e,c⟩ a=>by
  refine⟨λi b=>?_,c.st (a _ (.inl (atc _))) λi b=>a i (.inr b)⟩;have:i<N+2:=by omega
  rw[a i (.inl this)];exact e i b
 lt:=λs W r ⟨_,c⟩ d=>c.row d
def aua(b:cw)(Z:gW b)(H:List ae)(lo:oN):
  ∃w,D X0 (.fn (.func 311) [] []) [.agg (cy b)] ⟨H,lo⟩=some (.ret w ⟨H,lo⟩)/\Rv w 4 ((du b).map eO)/\w.refs=0:=by
 suffices hs: ∃A,D X0 (.fn (.func 311) [] []) [.agg (cy b)] ⟨H,lo⟩=some A/\ (λA=> ∃w,A=aV.ret w ⟨H,lo⟩/\Rv w 4 ((du b).map eO)/\w.refs=0) A by
  obtain⟨A,h1,w,rfl,h2⟩:=hs;exact⟨w,h1,h2⟩
 refine cN Rz λN l=>?_
 have he:=at3 b (N+2) (H++[.box (cy b) none,.box [.av] none]) (by simp[l]) none;have Nl:=Z.n;simp only[go_sem,simprocAttr,Rz,l,he,↓ru];obtain⟨W0,c⟩: ∃W0,W0=H++[ae.box (cy b) none,.box [.av] none,.box (cy b) none]:=⟨_,rfl⟩;rw[<-c];have z:W0.length=N+3:=by rw[c];simp[l]
 generalize o: ((((((ds _).set 1 _).set 2 _).set 3 _).set 5 _).set 6 _)=e;have C:e 3= .ptr (N+1) 0:=by rw[<-o];rfl
 have X: (aq.t 6).get e= .fn (.func 337) [] [.ptr (N+2) 0]:=by rw[<-o];rfl
 clear o;refine OU (mV H N) at7 (xI b) (N+2) [.box (cy b) none] W0 ⟨[],none⟩ (by rw[X];rfl) (by rw[X];exact at4 b Z (N+2)) (λi a=>?_) (by simp[z]) (λi a=>?_) ⟨?_,?_⟩ rfl
  (λj s=>s.l=(du b).take j) (λ_ _=>False) rfl (λ_ _ h=>h.elim) ?_ ?_ (λ_ _ _ _ h=>h.elim)
 ·have:i=0:=by simpa using a
  subst this;rw[c,afs,bF l];rfl
 ·have:i<N+2:=a;exact⟨by omega,by omega⟩
 ·rw[c];exact jb.app l
 ·exact .inl ⟨rfl,rfl,by rw[c,bF l];rfl⟩
 ·intro j y s K T;have Y:j<b.n:=by
   have:=(acW.1 K).1;rwa[Ts]at this
  have d:s.l=(du b).take j:=T;have v: (du b)[j]?=some (b.ring (jg b j)):=by unfold du;rw[afE,aoU Y];rfl
  rw[aif Y]at K;cases K;generalize b.ring (jg b j)=m at*;refine⟨rfl,λW hP wI=>?_⟩;obtain⟨n,hn⟩: ∃n,W.length=n:=⟨_,rfl⟩;have hm:=oG m;simp only[go_sem,simprocAttr,iG,hn,hm];refine⟨[.box (eO m) none],rfl,λB SJ S=>?_⟩;obtain⟨E,p⟩:=S;have r:B.length=n:=by omega
  have f: ∀i,s.row=some i->N+1<i/\i<n:=by
   intro i a;rcases p with⟨q,_⟩| ⟨id,aj,q,_,I,C,q4⟩
   ·rw[q]at a;cases a
   ·rw[q]at a;cases a;exact⟨I,by have:=eg q4;omega⟩
  have L:SV (N+1) 4 DH (B++[.box (eO m) none]) s.row (s.l.map eO):=p.st (by rw[acV (by omega)]) λi a=>by
   rw[acV (by have:=f i a;omega)]
  have wu:s.l.length<=4:=by rw[d,afC];have: (du b).length=b.n:=by simp[du]
                            omega
  obtain⟨vv,v',W3,U,V,a1,a2,a3,a4,a5,a6,a7⟩:=L.append (bytes:=24) (el:=eO m) (by simp;omega) (by omega) rfl rfl (by rw[afm];unfold room;omega) none;have F: (B++[ae.box (eO m) none]).length=n+1:=by simp[r]
  have t: (B++[ae.box (eO m) none])[n]?=some (.box (eO m) none):=by rw[<-r];simp
  rw[hm]at a1 a2 t⊢;simp only[go_sem,simprocAttr,afg,C,a1,a2,a3,t,DF];refine⟨⟨s.l++[m],V⟩,⟨λi a=>?_,?_⟩,⟨by show B.length<=U.length;omega,λi a hp hr=>?_⟩,.inr ⟨N+1,aef _,by omega,rfl,?_⟩,?_⟩
  ·show U[i]?=_;rw[a6 i (by omega) (by omega) (λq=>by have:=f i q;omega),acV (by omega)];exact E i a
  ·show SV (N+1) 4 DH U V ((s.l++[m]).map eO);rw[afr];exact a4
  ·have oX: ¬i<N+2:=hp;rw[a6 i (by omega) (by omega) hr,acV a]
  ·rcases a7 with q| ⟨q,J,I⟩
   ·exact .inl q
   ·exact .inr ⟨q,J,by omega⟩
  ·show s.l++[m]=(du b).take (j+1);rw[d,agR,v];rfl
 ·intro s' W' ak T hP hl R o6 P;obtain⟨E,p⟩:=hP;have d:s'.l=du b:=by
   have:s'.l=(du b).take (xI b).length:=T;rw[this,Ts];exact adP (by simp[du])
  have g:eF N ak:=by
   rcases P with⟨rfl,_⟩| ⟨q,J,I,rfl⟩
   ·exact .inl rfl
   ·exact .inr ⟨q,by have:N+1<=q:=J;omega,rfl⟩
  rw[d]at p;have h0:ca ((du b).map eO)=0:=bH (λ_=>rfl) _;rcases p with⟨c1,c2,c3⟩| ⟨id,aj,c1,c2,c3,c4,G⟩
  ·simp only[go_sem,simprocAttr,C,c3,at5,R,mL];rw[jD g (aee _)];refine⟨.av,dx rfl ((E.set (by omega)).take l),by rw[ap3.1 c2];exact .av,rfl⟩
  ·have u:=at6 id aj ((du b).map eO).length W' (eg G);rw[afm]at u c4;have O:W0.length≠id:=by rintro rfl;rw[R]at G;cases G
   simp only[go_sem,simprocAttr,C,c4,u,R,mL];have M: (W'.set W0.length ae.dead)[id]?=some (.row aj 4 DH ((du b).map eO)):=by rw[acT O];exact G
   rw[uR g (v':=.sl ((du b).map eO) true) λk=>by rw[show k+12=(k+8)+4 by omega];exact aih (by omega) M (by simp) (by rw[h0];omega)];exact⟨_,dx rfl ((E.set (by omega)).take l),.sl (by intro el Q;obtain⟨x,_,rfl⟩:=afq.1 Q;rfl),h0⟩
theorem aub:cy rC=[.int .u8 0,.int .u64 0,.int .u32 0,.bool false,.int .u8 0,.int .u64 0,.int .u32 0,.bool false,.int .u8 0,.int .u64 0,.int .u32 0,.bool false,.int .u8 0,.int .u64 0,.int .u32 0,.bool false,.int .i64 0,.int .i64 0,.bool true]:=rfl
def auc(b:cw)(d:gW b)(H:List ae)(lo:oN):
  ∃w,D X0 (.fn (.func 276) [] []) [.agg (cy b)] ⟨H,lo⟩=some (.ret (.az [.agg (cy rC),w]) ⟨H,lo⟩)/\Rv w 4 ((du b).map eO)/\w.refs=0:=by
 obtain⟨w,e1,e,e3⟩:=aua b d (H++[.box (cy b) none,.box zB none]) none;refine⟨w,?_,e,e3⟩;refine aH Rh λM a=>?_
 have c:zB=[.int .u8 0,.int .u64 0,.int .u32 0,.bool false,.int .u8 0,.int .u64 0,.int .u32 0,.bool false,.int .u8 0,.int .u64 0,.int .u32 0,.bool false,.int .u8 0,.int .u64 0,.int .u32 0,.bool false,.int .i64 0,.int .i64 0,.bool false]:=rfl;rw[c]at e1;simp only[go_sem,simprocAttr,Rh,a,↓ru,e1];rw[rO (by simp[AV.refs,aL,e3]),mw a,aub]
def xJ:oZ:=λg=>if g=308 then some xg else if g=115 then some xd else none
noncomputable def Cj:lA->AS->Option aV:=wE X (D X) Lw xJ 307 rn
noncomputable def Ck:lA->AS->Option aV:=wE X (D X) Lw xJ 275 xf
noncomputable def XA:Ctx:={X with bW:=λf=>if f=307 then some Cj else if f=275 then some Ck else X.bW f}
theorem Dx:Ext X XA where
 dR:=rfl
 gl:=rfl
 code:=rfl
 bW:=λf=>by
  by_cases b:f=307
  ·subst b;exact .inr ⟨rfl,rfl⟩
  ·by_cases a:f=275
   ·subst a;exact .inr ⟨rfl,rfl⟩
   ·left;show(if f=307 then some Cj else if f=275 then some Ck else X.bW f)=X.bW f
    grind
def Cl(e:Int)(H:List ae)(lo:oN):D X (.fn (.func 310) [] []) [.bool true,.int .i64 e] ⟨H,lo⟩=some (.ret (.az []) ⟨H,lo⟩):=by
 refine aH Fj λN a=>?_
 simp(disch:=omega) only[F1,go_sem,simprocAttr,Fj]
def Cm(e:Nat)(H:List ae)(lo:oN):D X (.fn (.func 310) [] []) [.bool false,.int .i64 e] ⟨H,lo⟩=some (.panic (jE e) ⟨H,lo⟩):=by
 refine aH Fj λN a=>?_
 simp(disch:=omega) only[F1,go_sem,simprocAttr,Fj,EP]
theorem aij:dJ .dq .eZ .eZ=some true:=rfl
theorem aik{t:TypeId}:dJ .dq (.dq t v) .eZ=some false:=rfl
theorem ail{z:AV}{t:TypeId}:Ar z (.dq t v) t true=some (.az [v,.bool true]):=adG rfl
def LA{K:AS->Prop}{H:List ae}(h:K ⟨H,lo⟩):qR X xJ (cf 308|>.get λ_=>.av) [.ptr p 0] .eZ ⟨H,lo⟩ K:=by
 refine HZ (pr:=xg) rfl rfl λn a=>?_
 simp(disch:=omega) only[F1,go_sem,simprocAttr,xg,aij];exact⟨.inl trivial,.az [],rfl,by trivial⟩
def vQ{K:AS->Prop}{H:List ae}{v0:AV}(e:Nat)(a:H[p]?=some (.box [v0] none))(h:K ⟨H.set p (.box [.int .i64 e] none),lo⟩):qR X xJ (cf 308|>.get λ_=>.av) [.ptr p 0] (jE e) ⟨H,lo⟩ K:=by
 refine HZ (pr:=xg) rfl rfl λn b=>?_
 simp only[F1,go_sem,simprocAttr,xg,aik,a,ail];refine⟨.inl trivial,.az [],rfl,?_⟩;rw[adG (show(AV.az []).refs<=n from aee _),adP (by grind)];exact h
def aim(t:au)(d:bN t)(r:Nat)(e:r<4294967296)(i:t.ar r=true)(c:Nat)(j:c<8)(H:List ae)(lo:oN):
  D X (.fn (.func 309) [] []) [.agg (aN t),.int .u32 r,.int .i64 c] ⟨H,lo⟩=some (.ret (.agg (bM (aG t r).1)) ⟨H,lo⟩):=by
 refine aH zs λN f=>?_
 have a:=λH lo=>up dC (ua t d r e H lo)
 have b: (aG t r).2=0:=by unfold aG;grind
 have h: (c:Int)>=0:=by omega
 have g: (c:Int)<8:=by omega
 simp only[F1,go_sem,simprocAttr,zs,f,a,mc,b,jU,Cl,h,g]
def ain(t:au)(d:bN t)(r:Nat)(e:r<4294967296)(j:t.ar r=true)(c:Nat)(k:8<=c)(H:List ae)(lo:oN):
  D X (.fn (.func 309) [] []) [.agg (aN t),.int .u32 r,.int .i64 c] ⟨H,lo⟩=some (.panic (jE 2) ⟨H,lo⟩):=by
 refine aH zs λN g=>?_
 have a:=λH lo=>up dC (ua t d r e H lo)
 have b: (aG t r).2=0:=by unfold aG;grind
 have i: (c:Int)>=0:=by omega
 have h: ¬(c:Int)<8:=by omega
 have f: ∀H lo,D X (.fn (.func 310) [] []) [.bool false,.int .i64 2] ⟨H,lo⟩=_:=Cm 2;simp only[F1,go_sem,simprocAttr,zs,g,a,mc,b,jU,Cl,f,i,h,EP]
def aud(t:au)(d:bN t)(r:Nat)(e:r<4294967296)(h:t.ar r=false)(c:Nat)(H:List ae)(lo:oN):
  D X (.fn (.func 309) [] []) [.agg (aN t),.int .u32 r,.int .i64 c] ⟨H,lo⟩=some (.panic (jE 4) ⟨H,lo⟩):=by
 refine aH zs λN g=>?_
 have a:=λH lo=>up dC (ua t d r e H lo)
 have b: (aG t r).2=4:=by unfold aG;grind
 have f: ∀H lo,D X (.fn (.func 310) [] []) [.bool false,.int .i64 4] ⟨H,lo⟩=_:=Cm 4;simp only[F1,go_sem,simprocAttr,zs,g,a,mc,b,jU,f,EP]
def ug(t:au)(r a to:Nat)(b:Bool):Nat:=
 if t.ar r=false\/ (to≠0/\t.ar to=false)then 4 else if 8<=a then 2 else if to≠0/\b=false/\kN t to r=false then 5
 else(ew t r {(aG t r).1 with cells:=ao (aG t r).1.cells a to}).2
def aue{r:cP}{v:Nat}(h:i<8):aO (bM r) (4+i) [.int .u32 (v:Nat)]=bM {r with cells:=ao r.cells i v}:=af2 h
def auf(t:au)(A:bN t)(U:cg t)(r a to:Nat)(b:Bool)(E:r<4294967296)(s:to<4294967296)(T:a<4294967296)(H:List ae)(lo:oN):
  ∃cs,Cj [.agg (aN t),.int .u32 r,.int .i64 a,.int .u32 to,.bool b] ⟨H,lo⟩=some (.ret (.az [.agg cs,.int .i64 (ug t r a to b)]) ⟨H,lo⟩)/\cs.length=480/\aL cs=0/\
   (ug t r a to b=0->cs=aN (ew t r {(aG t r).1 with cells:=ao (aG t r).1.cells a to}).1):=by
 suffices R: ∃I,Cj [.agg (aN t),.int .u32 r,.int .i64 a,.int .u32 to,.bool b] ⟨H,lo⟩=some I/\ (λI=> ∃cs,I=aV.ret (.az [.agg cs,.int .i64 (ug t r a to b)]) ⟨H,lo⟩/\cs.length=480/\aL cs=0/\
   (ug t r a to b=0->cs=aN (ew t r {(aG t r).1 with cells:=ao (aG t r).1.cells a to}).1)) I by
  obtain⟨I,p,cs,rfl,V⟩:=R;exact⟨cs,p,V⟩
 refine OM rn rfl rfl λN j=>?_
 have c:=λH lo=>up dC (eX t.b r E H lo)
 have d:=λH lo=>up dC (eX t.b to s H lo)
 have L: ∀h,ar t.b h=t.ar h:=λh=>rfl
 simp only[L]at c d;have m:=λH lo=>up dC (S9 t A U to r s E H lo)
 have F: ∀H lo,D X (.fn (.func 310) [] []) [.bool false,.int .i64 4] ⟨H,lo⟩=_:=Cm 4;have O: ∀H lo,D X (.fn (.func 310) [] []) [.bool false,.int .i64 5] ⟨H,lo⟩=_:=Cm 5;have z:aL ld=0:=by decide
 have f:ug t r a to b=if t.ar r=false\/ (to≠0/\t.ar to=false)then 4 else if 8<=a then 2 else if to≠0/\b=false/\kN t to r=false then 5
  else(ew t r {(aG t r).1 with cells:=ao (aG t r).1.cells a to}).2:=rfl
 cases y:t.ar r with
 |false=>
  rw[y]at c;rw[adG (.inl y)]at f;simp(disch:=omega) only[go_sem,simprocAttr,rn,j,kz,ky,c,F];refine⟨rfl,?_⟩;rw[nX];refine vQ 4 (v0:=.int .i64 0) (by rw[bF j];rfl) ?_;simp(disch:=omega) only[F1,go_sem,simprocAttr,dc];rw[f];exact⟨_,rfl,B5,z,λh=>by cases h⟩
 |true=>
  rw[y]at c;have K:to=0\/ (¬(to:Int)=0/\t.ar to=true)\/ (¬(to:Int)=0/\t.ar to=false):=by
   by_cases n:to=0
   ·exact .inl n
   ·cases W:t.ar to
    ·exact .inr (.inr ⟨by omega,rfl⟩)
    ·exact .inr (.inl ⟨by omega,rfl⟩)
  by_cases J:to≠0/\t.ar to=false
  ·rw[adG (.inr J)]at f;rw[J.2]at d;have n: ¬(to:Int)=0:=by omega
   simp(disch:=omega) only[go_sem,simprocAttr,rn,j,kz,ky,c,n,d,F];refine⟨rfl,?_⟩;rw[nX];refine vQ 4 (v0:=.int .i64 0) (by rw[bF j];rfl) ?_;simp(disch:=omega) only[F1,go_sem,simprocAttr,dc];rw[f];exact⟨_,rfl,B5,z,λh=>by cases h⟩
  ·rw[adE (by rw[y];simpa using J)]at f;have p: ∀H lo,D X (.fn (.func 310) [] []) [.bool true,.int .i64 4] ⟨H,lo⟩=_:=Cl 4;have o:to=0\/ (¬(to:Int)=0/\t.ar to=true):=by
    rcases K with h|h|h
    ·exact .inl h
    ·exact .inr h
    ·exact absurd ⟨by omega,h.2⟩ J
   by_cases P:8<=a
   ·rw[adG P]at f;have g:=ain t A r E y a P;rcases o with rfl| ⟨n,M⟩
    ·simp(disch:=omega) only[go_sem,simprocAttr,rn,j,kz,ky,c,p,g];refine⟨rfl,?_⟩;rw[nX];refine vQ 2 (v0:=.int .i64 0) (by rw[bF j];rfl) ?_;simp(disch:=omega) only[F1,go_sem,simprocAttr,dc];rw[f];exact⟨_,rfl,B5,z,λh=>by cases h⟩
    ·rw[M]at d;simp(disch:=omega) only[go_sem,simprocAttr,rn,j,kz,ky,c,n,d,p,g];refine⟨rfl,?_⟩;rw[nX];refine vQ 2 (v0:=.int .i64 0) (by rw[bF j];rfl) ?_;simp(disch:=omega) only[F1,go_sem,simprocAttr,dc];rw[f];exact⟨_,rfl,B5,z,λh=>by cases h⟩
   ·rw[adE P]at f;have G:a<8:=by omega
    have l: (a:Int)<8:=by omega
    have g:=aim t A r E y a G;have Q: ∀H lo,D X (.fn (.func 310) [] []) [.bool true,.int .i64 5] ⟨H,lo⟩=_:=Cl 5;have C:=A.get r;generalize S: (aG t r).1=x at*;have q:gA {x with cells:=ao x.cells a to}:=gA.setCells C λi=>by
     by_cases e:i=a
     ·rw[e,bS];exact s
     ·rw[bT e];exact C.cells i
    have k:=λH lo=>up dC (Ta t A r E {x with cells:=ao x.cells a to} q.rb.1 (by have:=q.rb.2;show x.runs.length<=65;exact ag2 this (by omega)) (by have:=q.len;show x.len<4294967296;have:x.len<=2048:=this;omega) H lo)
    have u:=aue (r:=x) (v:=to) G;have w:4+a<=11:=by omega
    rcases o with rfl| ⟨n,M⟩
    ·rw[adE (by simp)]at f;have B:aO (bM x) (4+a) [.int .u32 0]=bM {x with cells:=ao x.cells a 0}:=u;simp(disch:=omega) only[go_sem,simprocAttr,rn,j,kz,ky,c,p,g,jU,Q,l,B,w,k,ud,dc];refine⟨rfl,?_⟩;rw[DE];refine LA ?_;simp(disch:=omega) only[F1,go_sem,simprocAttr];rw[f];exact⟨_,rfl,iO _,xl _,λ_=>rfl⟩
    ·rw[M]at d;cases b with
     |true=>
      rw[adE (by simp)]at f;simp(disch:=omega) only[go_sem,simprocAttr,rn,j,kz,ky,c,n,d,p,g,jU,Q,l,u,w,k,ud,dc];refine⟨rfl,?_⟩;rw[DE];refine LA ?_;simp(disch:=omega) only[F1,go_sem,simprocAttr];rw[f];exact⟨_,rfl,iO _,xl _,λ_=>rfl⟩
     |false=>
      cases ho:kN t to r with
      |true=>
       rw[ho]at m f;rw[adE (by simp)]at f;simp(disch:=omega) only[go_sem,simprocAttr,rn,j,kz,ky,c,n,d,p,g,jU,Q,m,l,u,w,k,ud,dc];refine⟨rfl,?_⟩;rw[DE];refine LA ?_;simp(disch:=omega) only[F1,go_sem,simprocAttr];rw[f];exact⟨_,rfl,iO _,xl _,λ_=>rfl⟩
      |false=>
       rw[ho]at m f;rw[adG ⟨by omega,rfl,rfl⟩]at f;simp(disch:=omega) only[go_sem,simprocAttr,rn,j,kz,ky,c,n,d,p,g,jU,O,m];refine⟨rfl,?_⟩;rw[nX];refine vQ 5 (v0:=.int .i64 0) (by rw[bF j];rfl) ?_;simp(disch:=omega) only[F1,go_sem,simprocAttr,dc];rw[f];exact⟨_,rfl,B5,z,λh=>by cases h⟩
def FT{X:Ctx}{e:Env}{E:AS}{R:aV->Prop}{b:Nat}{c:Bool}:ee X n lo [.t a,.cell b c k] R .ret ⟨e,[]⟩ E=okV (cq X E c k (e b)) (λu E=>nW n lo R (.az [e a,u]) E) E:=by
 simp only[yO,yS,gp,kx,oS];cases h:cq X E c k (e b)with
 |none=>simp[okV,h]
 |some v=>simp[okV,nW,h]
def aug(t:au)(s:bN t)(r a:Nat)(v:r<4294967296)(F:a<4294967296)(H:List ae)(lo:oN):
  Ck [.agg (aN t),.int .u32 r,.int .i64 a] ⟨H,lo⟩=some (.ret (.az [.int .u32 (sX t r a).1,.int .i64 (sX t r a).2]) ⟨H,lo⟩):=by
 suffices G: ∃E,Ck [.agg (aN t),.int .u32 r,.int .i64 a] ⟨H,lo⟩=some E/\E=aV.ret (.az [.int .u32 (sX t r a).1,.int .i64 (sX t r a).2]) ⟨H,lo⟩ by grind
 refine OM xf rfl rfl λN g=>?_
 have c:sX t r a=if t.ar r=false then(0,4)else if 8<=a then(0,2)else if(aG t r).1.cells a=0 then(0,10)else if t.ar ((aG t r).1.cells a)=false then(0,4)else((aG t r).1.cells a,0):=rfl
 cases q:t.ar r with
 |false=>
  rw[adG q]at c;have b:=aud t s r v q a;simp only[go_sem,simprocAttr,xf,g,kz,ky,b];refine⟨rfl,?_⟩;rw[nX];refine vQ 4 (v0:=.int .i64 0) (by rw[bF g];rfl) ?_;simp(disch:=omega) only[F1,go_sem,simprocAttr,c,FT]
 |true=>
  rw[adE (by rw[q];simp)]at c;by_cases z:8<=a
  ·rw[adG z]at c;have b:=ain t s r v q a z;simp only[go_sem,simprocAttr,xf,g,kz,ky,b];refine⟨rfl,?_⟩;rw[nX];refine vQ 2 (v0:=.int .i64 0) (by rw[bF g];rfl) ?_;simp(disch:=omega) only[F1,go_sem,simprocAttr,c,FT]
  ·rw[adE z]at c;have l:a<8:=by omega
   have B: (a:Int)<8:=by omega
   have b:=aim t s r v q a l;have u:=s.get r;generalize(aG t r).1=x at*;have hw:=u.cells a;have d:qB false 8 1 (.agg (arr 8 λi=>[AV.int .u32 (x.cells i)])) (.int .i64 a)=some (.int .u32 (x.cells a)):=
    R9 l (by have:=kM (ag:=false) (m:=1) (n:=8) (k:=1) (i:=a) (o:=0) (f:=λi=>[AV.int .u32 (x.cells i)]) (λ_=>rfl) l (by omega) (by omega);rw[afs]at this;rw[this];rfl)
   have p: ∀H lo,D X (.fn (.func 310) [] []) [.bool false,.int .i64 10] ⟨H,lo⟩=_:=Cm 10;have y: ∀H lo,D X (.fn (.func 310) [] []) [.bool false,.int .i64 4] ⟨H,lo⟩=_:=Cm 4;have e:=λH lo=>up dC (eX t.b (x.cells a) hw H lo)
   have w: ∀h,ar t.b h=t.ar h:=λh=>rfl
   simp only[w]at e;by_cases A:x.cells a=0
   ·rw[adG A]at c;have j:decide ((x.cells a:Int)=0)=true:=by simp[A]
    simp only[go_sem,simprocAttr,xf,g,kz,ky,b,↓KO,d,j,p];refine⟨rfl,?_⟩;rw[nX];refine vQ 10 (v0:=.int .i64 0) (by rw[bF g];rfl) ?_;simp(disch:=omega) only[F1,go_sem,simprocAttr,c,FT]
   ·rw[adE A]at c;have j:decide ((x.cells a:Int)=0)=false:=by simp;omega
    cases C:t.ar (x.cells a)with
    |false=>
     rw[C]at e c;rw[adG rfl]at c;simp only[go_sem,simprocAttr,xf,g,kz,ky,b,↓KO,d,j,e,Cl,y];refine⟨rfl,?_⟩;rw[nX];refine vQ 4 (v0:=.int .i64 0) (by rw[bF g];rfl) ?_;simp(disch:=omega) only[F1,go_sem,simprocAttr,c,FT]
    |true=>
     rw[C]at e c;rw[adE (by simp)]at c;simp only[go_sem,simprocAttr,xf,g,kz,ky,b,↓KO,d,j,e,Cl];refine⟨rfl,?_⟩;rw[DE];refine LA ?_;simp(disch:=omega) only[F1,go_sem,simprocAttr,c,FT]
theorem auh{args:lA}{E:AS}{a:AS}(h:Cj args E=some (.ret v a)):D XA (.fn (.func 307) [] []) args E=some (.ret v a):=DD rfl h
def Tt(t:au)(r a to:Nat)(b:Bool):lF t r a to b=if ug t r a to b=0 then((ew t r {(aG t r).1 with cells:=ao (aG t r).1.cells a to}).1,0)else(t,ug t r a to b):=by
 unfold lF ug
 grind
def aui(t:au)(l:bN t)(p:cg t)(r a to:Nat)(b:Bool)(m:r<4294967296)(e:to<4294967296)(i:a<4294967296)(H:List ae)(lo:oN):
  D XA (.fn (.func 274) [] []) [.agg (aN t),.int .u32 r,.int .i64 a,.int .u32 to,.bool b] ⟨H,lo⟩=some (.ret (.az [.agg (aN (lF t r a to b).1),.int .i64 (lF t r a to b).2]) ⟨H,lo⟩):=by
 refine aH Ku λN k=>?_
 obtain⟨cs,q,n,f,o⟩:=auf t l p r a to b m e i (H++[.box (aN t) none,.box ld none]) none;have g:=auh q;have d:=Tt t r a to b;by_cases c:ug t r a to b=0
 ·rw[adG c]at d;have h:=o c;subst h;rw[c]at g;simp only[F1,go_sem,simprocAttr,Ku,k,g,dc,d]
 ·rw[adE c]at d;have j:decide ((ug t r a to b:Int)=0)=false:=by simp;omega
  simp only[F1,go_sem,simprocAttr,Ku,k,g,j,n,f,dc,d]
def aio{t':au}(a:cg t)(h: ∀x,bq t' x=bq t x\/bq t' x=0):cg t':=by
 have key: ∀n x,(eU t' n x).length<=(aU t x).length:=by
  intro n
  induction n with
  |zero=>simp[eU]
  |succ n b=>
   intro x;simp only[eU];by_cases hu:bq t' x=0
   ·grind
   ·rw[adE hu];have e:bq t' x=bq t x:=(h x).resolve_right hu;rw[e]at hu⊢;rw[pP a,adE hu,afx,afx]
    grind
 intro x;have:=key 32 x;have:=a x;unfold aU at*;omega
theorem aip(t:au): ∀n x,(eU t n x).length<=(eU t (n+1) x).length
 |0,_=>by simp[eU]
 |n+1,x=>by
  rw[eU,eU];by_cases hu:bq t x=0
  ·grind
  ·rw[adE hu,adE hu,afx,afx];exact Nat.succ_le_succ (aip t n _)
def mO(b:cG)(h:Nat):Prop:= ∀i,fe h=some i->h/256< (b i).gen\/ (h/256=(b i).gen/\nh b i=false)
def Cn(b:cG):mO b 0:=λi e=>by trivial
def Tu{b:cG}{h:Nat}(a:ar b h=true):mO b h:=by
 intro i e;unfold ar at a;rw[e]at a;have:=axj a
 right;rw[this];exact⟨rfl,by unfold nh;grind⟩
def LB{b:cG}{h:Nat}(ho:mO b h):mO (ao b i {b i with cO:=true}) h:=by
 intro j e;by_cases q:j=i
 ·subst q;rcases ho j e with a| ⟨a,c⟩
  ·left;rw[bS];exact a
  ·unfold nh;rw[bS];grind
 ·unfold nh at*;rw[bT q];exact ho j e
def aiq{b:cG}{h y:Nat}(ho:mO b h):mO (dy b y).1 h:=by
 unfold dy;split
 ·show mO (ao b (aI y) _) h;intro j e;by_cases q:j=aI y
  ·subst q;unfold nh;rw[bS];unfold nj;have a:=ho _ e
   grind
  ·unfold nh at*;rw[bT q];exact ho j e
 omega
def LC{b:cG}{h:Nat}(a:ni b=some i)(d:fL b):ar (ao b i {b i with cO:=true}) h=true↔ar b h=true\/h=da i (b i).gen:=by
 obtain⟨i1,i2,i3,_⟩:=pO a;have c:ar (ao b i {b i with cO:=true}) (da i (b i).gen)=true:=by grind [KU,St,bS]
 constructor
 ·grind [lE,bS,Ss,bT]
 ·grind [lE,bT]
theorem LD{b:cG}{y h:Nat}(c:ar (dy b y).1 h=true):ar b h=true:=by
 unfold dy at c;split at c
 ·obtain⟨j,e,a⟩:=lE.1 c;have a:ao b (aI y) (nj (b (aI y))) j=_:=a;by_cases q:j=aI y
  ·subst q;rw[bS]at a;unfold nj at a
   grind
  ·grind [bT,lE]
 omega
def Co{b:cG}(a:ni b=some i)(c:fL b):ar b (da i (b i).gen)=false:=by grind [KU,pO]
def Tv{b:cG}(c:ni b=some i)(d:fL b): ¬mO b (da i (b i).gen):=by
 obtain⟨i1,i2,i3,_⟩:=pO c;intro h;have f:ar (ao b i {b i with cO:=true}) (da i (b i).gen)=true:=(LC c d).2 (.inr rfl);obtain⟨j,e,a⟩:=lE.1 f;have q:j=i:=afH λq=>by
  rw[bT q]at a;have:=Co c d;rw[lE.2 ⟨j,e,a⟩]at this;grind
 subst q;rw[bS]at a;injection a with l
 rcases h j e with k| ⟨_,g⟩
 ·omega
 ·unfold nh at g;grind
def auj(t:au):Prop:= ∀i,mO t.b (t.r i).up
structure eh(t:au):Prop where
 ok:bN t
 tr:cg t
 up:auj t
def eh.same{t':au}(h:eh t)(a:iT t t')(b:bN t'):eh t':=⟨b,a.tree h.tr,λi=>by rw[a.1,a.2];exact h.up i⟩
theorem eh.set(h:eh t){r:cP}(b:gA r):eh (ew t a r).1:=h.same (.set t a r) (h.ok.set b)
theorem eh.drop(h:eh t)(y:Nat):eh (fu t y).1:=by
 refine⟨h.ok.drop y,aio h.tr λx=>?_,λi=>?_⟩
 ·unfold fu;split
  ·have a: ∀x,ar (dy t.b y).1 x=true->t.ar x=true:=λx=>LD
   unfold bq;by_cases q:au.ar {b:=(dy t.b y).1,r:=ao t.r (aI y) cU} x=true
   ·rw[adG q,adG (a x q)];unfold iP;by_cases e:aI x=aI y
    ·right
     show(if _ then(ao t.r (aI y) cU (aI x)).up else 0)=0;rw[e,bS];split<;>rfl
    ·show(if au.ar _ (ao t.r (aI y) cU (aI x)).up=true then(ao t.r (aI y) cU (aI x)).up else 0)=_\/ (if au.ar _ (ao t.r (aI y) cU (aI x)).up=true then(ao t.r (aI y) cU (aI x)).up else 0)=0;rw[bT e];by_cases c:au.ar {b:=(dy t.b y).1,r:=ao t.r (aI y) cU} (t.r (aI x)).up=true
     ·rw[adG c,adG (a _ c)];omega
     grind
   grind
  grind
 ·unfold fu;split
  ·show mO (dy t.b y).1 (ao t.r (aI y) cU i).up;by_cases e:i=aI y
   ·rw[e,bS];exact Cn _
   ·rw[bT e];exact aiq (h.up i)
  ·exact h.up i
theorem eh.fW{t:au}(h:eh t): ∀l,eh (fW t l)
 | []=>h
 |x::xs=>eh.fW (h.drop x) xs
def eh.auk(h:eh t)(a:Nat):eh (hZ t a).1:=by
 unfold hZ;split
 ·exact h
 ·exact h.fW _
def eh.aul(h:eh t)(a:Nat):eh (jA t a 0).1:=by
 refine⟨h.ok.raise (by omega),aio h.tr λx=>?_,λi=>?_⟩
 ·unfold jA;split
  ·simp
  ·split
   ·simp
   ·unfold bq;have b: ∀r z,au.ar {t with r:=r} z=t.ar z:=λ_ _=>rfl
    simp only[b];split
    ·unfold iP;simp only[b];by_cases e:aI x=aI a
     ·rw[e,bS];grind
     ·rw[bT e];omega
    omega
 ·unfold jA;split
  ·exact h.up i
  ·split
   ·omega
   ·show mO t.b (ao t.r (aI a) {t.r (aI a)with up:=0} i).up;by_cases e:i=aI a
    ·rw[e,bS];exact Cn _
    ·rw[bT e];exact h.up i
def eh.cut(h:eh t)(a:Nat):eh (iv t a).1:=by
 rw[Ln];split
 ·exact h
 ·exact(h.same (Lm t a _ t) (Td h.ok a _)).aul a
def eh.new(h:eh t)(up n:Nat)(I:up<4294967296):eh (fh t up n).1:=by
 unfold fh;dsimp only;split
 ·exact h
 ·rename_i g;unfold ka at g⊢;split
  ·exact h
  ·rename_i M;rw[adE M]at g;split
   ·exact h
   ·rename_i L;rw[adE L]at g;split
    ·rename_i i f;rw[f]at g;have g: ¬6<=depth t up:=λq=>g ⟨.inl rfl,q⟩
     obtain⟨i1,i2,i3,_⟩:=pO f;have p:=h.ok.b;have d:up=0\/t.ar up=true:=by grind
     have a: ∀z,au.ar {b:=ao t.b i {t.b i with cO:=true},r:=ao t.r i {cU with up:=up,cZ:=n}} z=true↔t.ar z=true\/z=da i (t.b i).gen:=λz=>LC f p
     have C: ∀z,t.ar z=true->aI z≠i:=by
      intro z o q;obtain⟨_,s,_⟩:=sW o;rw[q]at s;rw[s]at i2;cases i2
     generalize l: ({b:=ao t.b i {t.b i with cO:=true},r:=ao t.r i {cU with up:=up,cZ:=n}}:au)=t' at*;have m: ∀j,(t'.r j).up=if j=i then up else(t.r j).up:=by
      intro j;rw[<-l];show(ao t.r i _ j).up=_;by_cases e:j=i
      ·rw[e,bS,adG rfl]
      ·rw[bT e,adE e]
     have v:t'.b=ao t.b i {t.b i with cO:=true}:=by rw[<-l]
     have B:aI (da i (t.b i).gen)=i:=by
      have:t'.ar (da i (t.b i).gen)=true:=(a _).2 (.inr rfl);have u:=this;unfold au.ar at u;obtain⟨j,e,F⟩:=lE.1 u;rw[zE e];refine afH λq=>?_
      rw[v,bT q]at F;have:=Co f p;rw[lE.2 ⟨j,e,F⟩]at this;cases this
     have hold: ∀z,mO t.b z->(t'.ar z=true↔t.ar z=true):=λz o=>⟨λq=>by
      rcases(a z).1 q with q|q
      ·exact q
      ·rw[q]at o;exact absurd o (Tv f p),λq=>(a z).2 (.inl q)⟩
     have A: ∀x,x≠da i (t.b i).gen->bq t' x=bq t x:=by
      intro x A;have e1: (t'.ar x=true)=(t.ar x=true):=propext ⟨λq=>((a x).1 q).resolve_right A,λq=>(a x).2 (.inl q)⟩;unfold bq;simp only[e1];split
      ·rename_i E;unfold iP;rw[m,adE (C x E)];simp only[propext (hold _ (h.up (aI x)))]
      ·rfl
     have J:bq t' (da i (t.b i).gen)=up:=by
      unfold bq;rw[adG ((a _).2 (.inr rfl))];unfold iP;rw[m,adG B];rcases d with q|q
      ·rw[q];split<;>rfl
      ·rw[adG ((a _).2 (.inl q))]
     have D: ∀x,bq t x≠da i (t.b i).gen:=by
      intro x q;have o:bq t x≠0:=by rw[q];unfold da;omega
      have:=(B1 o).1;rw[q]at this;have c:=Co f p;unfold au.ar at this;rw[this]at c;cases c
     have w: ∀k x,x≠da i (t.b i).gen->eU t' k x=eU t k x:=by
      intro k
      induction k with
      |zero=>intro x _;rfl
      |succ k H=>
       intro x y;simp only[eU,A x y];rw[H _ (D x)]
     refine⟨?_,?_,?_⟩
     ·rw[<-l];refine⟨St p f,λj=>?_⟩;show gA (ao t.r i _ j);by_cases e:j=i
      ·rw[e,bS];exact⟨I,by show n<=64;omega,Cc.len,Cc.cells,Cc.runs,Cc.aM⟩
      ·rw[bT e];exact h.ok.r j
     ·intro x;by_cases e:x=da i (t.b i).gen
      ·rw[e];unfold aU;rw[show(32:Nat)=31+1 from rfl,eU,J];by_cases q:up=0
       ·rw[adG q];simp
       ·rw[adE q,w 31 up (λG=>by
          have:=d.resolve_left q;rw[G]at this;have c:=Co f p;unfold au.ar at this;rw[this]at c;cases c)]
        have E:=d.resolve_left q;unfold depth at g;rw[adG E]at g;have K:=h.tr up;have:eU t 31 up=aU t up:=(Su 31 up (by
         have: (eU t 31 up).length<=(eU t 32 up).length:=aip t 31 up;unfold aU at K;omega) 32 (by omega)).symm
        rw[this,afx];omega
      ·unfold aU;rw[w 32 x e];exact h.tr x
     ·intro j;rw[m,v];by_cases e:j=i
      ·rw[adG e];rcases d with q|q
       ·rw[q];exact Cn _
       ·exact LB (Tu q)
      ·rw[adE e];exact LB (h.up j)
    omega
theorem xK(b:cg t){x:Nat}(a:bq t x≠0):aU t x=bq t x::aU t (bq t x):=by rw[pP b,adE a]
def FU(c:cg t){h:Nat}: ∀ (n x:Nat),dep t x<=n->h∈aU t x->dep t h<dep t x:=by
 intro n
 induction n with
 |zero=>intro x b a;unfold dep at b;grind
 |succ n d=>
  intro x b a;by_cases hu:bq t x=0
  ·rw[pP c,adG hu]at a;cases a
  ·grind [xm,xK]
def aum(d:cg t){h:Nat}: ∀ (n x:Nat),dep t x<=n->h∈aU t x-> ∃c,bq t c=h/\h≠0/\t.ar c=true/\ (c=x\/c∈aU t x):=by
 intro n
 induction n with
 |zero=>intro x b a;unfold dep at b;grind
 |succ n e=>
  intro x b a;by_cases hu:bq t x=0
  ·rw[pP d,adG hu]at a;cases a
  ·grind [xm,xK,B1]
def Tw(a:cg t)(x:Nat):x∈db t x:=by rw[Sw a];grind
def air(i:fL t.b)(a:cg t){x:Nat}: ∀ (n h:Nat),dep t x-dep t h<=n->h∈aU t x->x∈db t h:=by
 intro n
 induction n with
 |zero=>intro h f b;have:=FU a _ x (aef _) b;omega
 |succ n k=>
  intro h f b;obtain⟨c,l,c0,j,e⟩:=aum a _ x (aef _) b;have d:c∈kids t h:=by
   have g:t.ar h=true:=by grind [B1]
   unfold kids;rw[adG g];exact afI.2 ⟨(ia i).2 j,by grind⟩
  rw[Sw a];refine afv _ (aop.2 ⟨c,d,?_⟩);rcases e with rfl|e
  ·exact Tw a c
  ·have:=B2 a d
   grind
theorem ais{α:Type}{f:α->Nat}: ∀ (l:List α) (s:Nat),s<=l.foldl (λn x=>max n (f x)) s/\ ∀x∈l,f x<=l.foldl (λn x=>max n (f x)) s
 | [],s=>⟨aef _,by simp⟩
 |a::l,s=>by
  have h:=ais (f:=f) l (max s (f a))
  grind
theorem zY{b:cG}{x y:Nat}(c:ar b x=true)(a:ar b y=true)(e:aI x=aI y):x=y:=by
 obtain⟨_,h,g⟩:=sW c;obtain⟨_,f,d⟩:=sW a
 grind
def eh.aun(h:eh t)(a w:Nat)(I:w<4294967296):eh (mF t a w).1:=by
 unfold mF;split
 ·exact h
 ·rename_i M;split
  ·exact h
  ·rename_i F;split
   ·exact h
   ·rename_i L;have c:t.ar a=true:=by grind
    have g:t.ar w=true:=by grind
    have d:root t a=a:=afH λq=>F (.inl q)
    have A: ¬kN t a w=true:=λq=>F (.inr q)
    have s:a≠w/\a∉aU t w:=by
     unfold kN at A
     grind
    have C:aU t a=[]:=by
     unfold root at d;rw[adG c]at d;cases e:aU t a with
     |nil=>rfl
     |cons b bs=>
      exfalso;have hm:a∈aU t a:=by
       have p:aU t a≠[]:=by rw[e];simp
       rw[List.getLastD_eq_getLast?,List.getLast?_eq_getLast p,akc]at d;have:=List.getLast_mem p;rw[d]at this;exact this
      have:=FU h.tr _ a (aef _) hm;omega
    unfold jA;split
    ·exact h
    ·split
     ·exact h
     ·have B: ∀z,au.ar {t with r:=ao t.r (aI a) {t.r (aI a)with up:=w}} z=t.ar z:=λ_=>rfl
      have v:bq {t with r:=ao t.r (aI a) {t.r (aI a)with up:=w}} a=w:=by
       unfold bq iP;simp only[B];rw[adG c,bS,adG g]
      have u: ∀x,x≠a->bq {t with r:=ao t.r (aI a) {t.r (aI a)with up:=w}} x=bq t x:=by
       intro x H;unfold bq;simp only[B];split
       ·rename_i m;unfold iP;simp only[B];rw[bT λe=>H (zY m c e)]
       ·rfl
      generalize l: ({t with r:=ao t.r (aI a) {t.r (aI a)with up:=w}}:au)=t' at*;have w0:w≠0:=Fw g;have key: ∀n x,(eU t' n x).length<=if x=a\/a∈aU t x then dep t x+1+dep t w else dep t x:=by
       intro n
       induction n with
       |zero=>intro x;simp[eU]
       |succ n D=>
        intro x;rw[eU];by_cases e:x=a
        ·rw[adG (show x=a\/a∈aU t x from .inl e),e,v,adE w0,afx];have:=D w;rw[adE (by rintro(q|q);exact s.1 q.symm;exact s.2 q)]at this;omega
        ·rw[u x e];by_cases hu:bq t x=0
         ·rw[adG hu];simp
         ·rw[adE hu,afx];have K:=xm h.tr hu;have:=D (bq t x);have j: (x=a\/a∈aU t x)↔(bq t x=a\/a∈aU t (bq t x)):=by
           rw[xK h.tr hu,afJ];constructor
           ·rintro(q|q|q)
            ·exact absurd q e
            ·exact .inl q.symm
            ·exact .inr q
           ·rintro(q|q)
            ·exact .inr (.inl q.symm)
            ·exact .inr (.inr q)
          by_cases q:x=a\/a∈aU t x
          ·rw[adG q];rw[adG (j.1 q)]at this;omega
          ·rw[adE q];rw[adE λG=>q (j.2 G)]at this;omega
      show eh t';refine⟨?_,λx=>?_,λi=>?_⟩
      ·rw[<-l];exact h.ok.ao ((h.ok.r _).Ll I)
      ·have E:=key 32 x;unfold aU;split at E
       ·rename_i q;have o:x∈db t a:=by
         rcases q with q|q
         ·rw[q];exact Tw h.tr a
         ·exact air h.ok.b h.tr _ a (aef _) q
        have m:=zF h.ok.b c o;have k:=(ais (f:=λx=>depth t x-depth t a+1) (db t a) 0).2 x o;have y:sT t a=(db t a).foldl (λn x=>max n (depth t x-depth t a+1)) 0:=rfl;rw[<-y]at k;have d1:depth t x=1+dep t x:=by unfold depth;rw[adG m];rfl
        have d2:depth t a=1:=by unfold depth;rw[adG c,C];rfl
        have d3:depth t w=1+dep t w:=by unfold depth;rw[adG g];rfl
        have k:depth t x-depth t a+1<=sT t a:=k;omega
       ·have:=h.tr x;unfold dep at E;omega
      ·have e1:t'.b=t.b:=by rw[<-l]
       have J: (t'.r i).up=(ao t.r (aI a) {t.r (aI a)with up:=w} i).up:=by rw[<-l]
       rw[e1,J];by_cases e:i=aI a
       ·rw[e,bS];exact Tu g
       ·rw[bT e];exact h.up i
structure kg(k:bo):Prop where
 ok:ig k
 dU: ∀i,mO k.b (k.t i).aU
 ord: ∃L:lN,L.Nodup/\ (∀h∈L,ar k.b h=true)/\ (∀h,ar k.b h=true->h∈L)/\L.Pairwise (λa b=>(k.t (aI a)).aU≠b)/\ ∀h∈L,(k.t (aI h)).aU≠h
def ait{k:bo}{h:Nat}(a:ar k.b h=true): (ck k h).1=k.t (aI h):=by unfold ck;grind
theorem Tx{k:bo}: ∀ {n m h:Nat},n<=m->xD k n h->xD k m h
 |0,_,_,_,h=>h.elim
 |n+1,0,_,a,_=>by omega
 |n+1,m+1,_,a,h=>λx b=>Tx (Nat.le_of_succ_le_succ a) (h x b)
theorem LF: ∀ (n:Nat) (l:lN),l.Nodup->(∀x∈l,x<n)->l.length<=n
 |0,[],_,_=>aef _
 |0,x::_,_,h=>by grind [List.mem_cons_self]
 |n+1,l,a,h=>by
  have c:=LF n (l.erase n) (a.erase n) λx b=>by grind
  grind
def kg.th{k:bo}(h:kg k){x:Nat}(s:ar k.b x=true):xD k 16 x:=by
 obtain⟨L,w,o,e,i,l⟩:=h.ord;have j:L.length<=16:=by
  rw[<-afm (f:=aI)];refine LF 16 _ ?_ λy r=>?_
  ·grind [List.Pairwise.imp_of_mem,zY]
  ·obtain⟨z,g,rfl⟩:=afq.1 r;exact h.ok.slot (o z g)
 have key: ∀ (n:Nat) (P S:lN) (y:Nat),S.length<=n->L=P++y::S->xD k (S.length+1) y:=by
  intro n
  induction n with
  |zero=>
   intro P S y m d z g;have b:=afI.1 g;have a:ar k.b z=true:=(ia h.ok.b).1 b.1;have c: (k.t (aI z)).aU=y:=by have:=b.2;rw[ait a]at this;simpa using this
   have t:S=[]:=aiR.1 (by omega);subst t;exfalso;have hm:=e z a;rw[d]at hm;rcases aeg.1 hm with q|q
   ·rw[d]at i;exact(anU.1 i).2.2 z q y (afG ..) c
   ·rcases afJ.1 q with q|q
    ·subst q;exact l z (e z a) c
    ·cases q
  |succ n p=>
   intro P S y m d z g;have b:=afI.1 g;have a:ar k.b z=true:=(ia h.ok.b).1 b.1;have c: (k.t (aI z)).aU=y:=by have:=b.2;rw[ait a]at this;simpa using this
   have hm:=e z a;rw[d]at hm;rcases aeg.1 hm with q|q
   ·exfalso;rw[d]at i;exact(anU.1 i).2.2 z q y (afG ..) c
   ·rcases afJ.1 q with q|q
    ·exfalso;subst q;exact l z (e z a) c
    ·obtain⟨v,u,rfl⟩:=ar3 q;have:=p (P++y::v) u z (by simp at m;omega) (by rw[d];simp);exact Tx (by simp) this
 obtain⟨P,S,rfl⟩:=ar3 (e x s);refine Tx ?_ (key S.length P S x (aef _) rfl)
 grind
def kg.void{k:bo}(h:kg k)(y:Nat):kg {k with b:=(dy k.b y).1}:=by
 obtain⟨L,f,g,e,d,c⟩:=h.ord;refine⟨ahE h.ok [y],λi=>aiq (h.dU i),L.filter λx=>ar (dy k.b y).1 x,f.filter _,λx a=>(afI.1 a).2,λx a=>afI.2 ⟨e x (LD a),a⟩,d.filter _,λx a=>c x (afI.1 a).1⟩
def kg.aiu{k:bo}(h:kg k)(l:lN):kg (nr k l):=by
 induction l generalizing k with
 |nil=>exact h
 |cons y l a=>exact a (h.void y)
def kg.clear{k:bo}(h:kg k)(r:Nat):kg (KX k r):=h.aiu _
def kg.ret{k:bo}(h:kg k)(a:Nat):kg (jB k a).1:=by
 unfold jB;split
 ·exact h.aiu _
 omega
def kg.aiv{k:bo}(h:kg k){x:Tok}(F:uf x):kg (lD k x).1:=by
 unfold lD;split
 ·exact h
 ·rename_i hm;have hm:pN k x=0:=afH λq=>hm q
  have g:x.aU=0\/ar k.b x.aU=true:=by
   unfold pN at hm;split at hm
   ·omega
   ·have:nm k x.aU=true:=by grind
    unfold nm at this
    grind
  split
  ·rename_i i s;split
   ·rename_i r;obtain⟨i1,i2,i3,_⟩:=pO s;have t:=h.ok.b;have c:=Co s t;have p:=Tv s t;have f:=λz=>LC (h:=z) s t
    have A: ∀z,ar k.b z=true->aI z≠i:=by
     intro z d q;obtain⟨_,o,_⟩:=sW d;rw[q]at o;rw[o]at i2;cases i2
    have y:aI (da i (k.b i).gen)=i:=by
     obtain⟨j,e,l⟩:=lE.1 ((f _).2 (.inr rfl));rw[zE e];refine afH λq=>?_
     rw[bT q]at l;rw[lE.2 ⟨j,e,l⟩]at c;cases c
    have v:x.aU≠da i (k.b i).gen:=by
     intro q;rcases g with e|e
     ·rw[e]at q;unfold da at q;omega
     ·rw[q,c]at e;cases e
    obtain⟨L,E,u,D,C,B⟩:=h.ord;have w: ∀z∈L,ao k.t i x (aI z)=k.t (aI z):=λz d=>bT (A z (u z d))
    refine⟨⟨St t s,λj l=>?_,λj=>?_⟩,λj=>?_,L++[da i (k.b i).gen],?_,λz d=>?_,λz d=>?_,?_,λz d=>?_⟩
    ·by_cases e:j=i
     ·rw[e];exact r
     ·have l: (ao k.b i {k.b i with cO:=true} j).cO=true:=l;rw[bT e]at l;exact h.ok.lt j l
    ·show uf (ao k.t i x j);by_cases e:j=i
     ·rw[e,bS];exact F
     ·rw[bT e];exact h.ok.t j
    ·show mO _ (ao k.t i x j).aU;by_cases e:j=i
     ·rw[e,bS];rcases g with q|q
      ·rw[q];exact Cn _
      ·exact LB (Tu q)
     ·rw[bT e];exact LB (h.dU j)
    ·refine aBu.2 ⟨E,by simp,λa n b m=>?_⟩;rw[aeh.1 m];intro q;rw[q]at n;rw[u _ n]at c;cases c
    ·rcases aeg.1 d with q|q
     ·exact(f z).2 (.inl (u z q))
     ·exact(f z).2 (.inr (aeh.1 q))
    ·rcases(f z).1 d with q|q
     ·exact aeg.2 (.inl (D z q))
     ·exact aeg.2 (.inr (aeh.2 q))
    ·refine anU.2 ⟨?_,by simp,λa n b m=>?_⟩
     ·exact ar1 (λn _ g=>by show(ao k.t i x (aI _)).aU≠_;rw[w _ n];exact g) C
     ·rw[aeh.1 m];show(ao k.t i x (aI a)).aU≠_;rw[w a n];intro q;have:=h.dU (aI a);rw[q]at this;exact p this
    ·rcases aeg.1 d with q|q
     ·show(ao k.t i x (aI z)).aU≠_;rw[w z q];exact B z q
     ·rw[aeh.1 q];show(ao k.t i x (aI _)).aU≠_;rw[y,bS];exact v
   omega
  omega
structure aW(s:bm):Prop where
 dV:eh s.T
 O:gk s.O
 tok:kg s.K
 bx: ∀i,gW (s.bp i)
def aW.T{s:bm}(h:aW s):bN s.T:=h.dV.ok
def aW.tr{s:bm}(h:aW s):cg s.T:=h.dV.tr
def aW.K{s:bm}(h:aW s):ig s.K:=h.tok.ok
theorem aW.th{s:bm}(h:aW s): ∀a,ar s.K.b a=true->xD s.K 16 a:=λ_ b=>h.tok.th b
def aW.uh{s:bm}(h:aW s)(a:eh t):aW {s with T:=t}:=⟨a,h.O,h.tok,h.bx⟩
def aW.qh{s:bm}(h:aW s){o:bI}(ho:gk o):aW {s with O:=o}:=⟨h.dV,ho,h.tok,h.bx⟩
def aW.xL{s:bm}(h:aW s){k:bo}(a:kg k):aW {s with K:=k}:=⟨h.dV,h.O,a,h.bx⟩
def aW.vR{s:bm}(h:aW s){i:Nat}(a:gW b):aW {s with bp:=ao s.bp i b}:=⟨h.dV,h.O,h.tok,λj=>by
 show gW (ao s.bp i b j);by_cases e:j=i
 ·rw[e,bS];exact a
 ·rw[bT e];exact h.bx j⟩
def aW.FV{s:bm}(h:aW s){a b:Nat->Bool}:aW {s with alive:=a,born:=b}:=⟨h.dV,h.O,h.tok,h.bx⟩
def gk.gR{o:bI}(ho:gk o)(a:r<4294967296):gk (ow o t r aa).1:=ho.Lq a ⟨by simp,anS _ (by omega),by simp⟩
def gk.qi{o:bI}(ho:gk o)(a:r<4294967296):gk (vy o t r).1:=ho.Lq a ⟨by simp,by simp,by simp⟩
def gk.freeze{o:bI}(ho:gk o)(a:r<4294967296):gk (zD o t r aa).1:=ho.Lq a ⟨by simp,by simp,zV aa⟩
def gk.held{o:bI}(ho:gk o){b:Bool}(c:r<4294967296):gk (c7 o t r aa b).1:=by
 unfold c7;dsimp only;split
 ·omega
 ·split
  ·omega
  ·split
   ·omega
   ·split
    ·omega
    ·split
     ·omega
     ·have a:=ho.of t r;exact ho.Lq c ⟨a.kind,a.aa,az1 (n:=8) a.hold (zV aa)⟩
section
def lx{args:lA}{E:AS}{r:aV}(h:D X0 v args E=some r):D XA v args E=some r:=vJ Dx (up dC h)
def ly{args:lA}{E:AS}{r:aV}(h:D X v args E=some r):D XA v args E=some r:=vJ Dx h
structure gE(c:cn):Prop where
 op:c.op<256
 r:c.r<4294967296
 s:c.s<4294967296
 a:c.a<4294967296
 b:c.b<4294967296
 v:c.v<18446744073709551616
def ez{α:Type}(f:α->AV×AS)(E:AS):R α->aV
 |.ok a=>.ret (f a).1 (f a).2
 |.error e=>.panic (jE e) E
abbrev un(E:AS):Unit->AV×AS:=λ_=>(.az [],E)
def lL(b:Bool)(e:Nat)(H:List ae)(lo:oN):D XA (.fn (.func 116) [] []) [.bool b,.int .i64 e] ⟨H,lo⟩=some (ez (un ⟨H,lo⟩) ⟨H,lo⟩ (ask b e)):=by
 cases b
 ·exact lx (zW e H lo)
 ·exact lx (FR e H lo)
def iB(e:Nat)(H:List ae)(lo:oN):D XA (.fn (.func 248) [] []) [.int .i64 e] ⟨H,lo⟩=some (ez (un ⟨H,lo⟩) ⟨H,lo⟩ (ch e)):=by
 by_cases h:e=0
 ·subst h;exact lx (atZ H lo)
 ·unfold ch;rw[adE h];exact lx (at0 e h H lo)
def jF{a:List FP}{f:aq}{b:List aq}{d:oN}{e:Env}{c:lN}{Q:bR}{E:AS}:kF a (.call f b) d [] [] e c Q v E=Q (.panic v) ⟨e,c⟩ E:=by
 have h:CR a (⟨none,d,.call f b⟩,[]) []=true:=by rfl
 simp only[kF,h,ayz]
def take_set{H L:List ae}{N:Nat}{o:ae}(a:H.length=N):List.take N (H.set p o++L)=H.set p o:=by grind
def aCU{H:List ae}{N:Nat}{o:ae}(a:H.length=N):List.take N (H.set p o)=H.set p o:=adP (by grind)
def auo:aN t++List.drop 480 (ba x bk)=ba (x.t t) bk:=by
 rw[<-Tr];simp[aO,iO]
structure Old(p:Nat)(H:List ae)(v:ae):Prop where
 at':H[p]?=some v
namespace Old
variable{p:Nat}{H:List ae}{v:ae}(h:Old p H v)
include h
theorem lt:p<H.length:=(acW.1 h.at').1
theorem g(B:List ae): (H++B)[p]?=some v:=bf h.at'
theorem s(B:List ae)(w:ae): (H++B).set p w=H.set p w++B:=aqu _ _ h.lt
theorem g1(w:ae): (H.set p w)[p]?=some w:=by rw[aed h.lt]
theorem g2(w:ae)(B:List ae): (H.set p w++B)[p]?=some w:=bf (h.g1 w)
theorem s2(w w':ae)(B:List ae): (H.set p w++B).set p w'=H.set p w'++B:=by
 rw[aqu _ _ (by rw[afw];exact h.lt),akQ]
theorem same:H.set p v=H:=qb h.at'
theorem app(B:List ae):Old p (H++B) v:=⟨h.g B⟩
theorem set(w:ae):Old p (H.set p w) w:=⟨h.g1 w⟩
end Old
def aup{x:Nat}(a:k<8):k9 .shr (.int .u8 (x:Nat)) (.int .i64 (k:Nat))=some (.int .u8 ((x/2^k:Nat):Int)):=by
 rw[Dz,adG (by omega)];have b:IntKind.u8.bits=8:=rfl
 grind
def auq{x:Nat}(c:x<256):dB .and (.int .u8 ((x/2^k:Nat):Int)) (.int .u8 1)=some (.int .u8 ((x/2^k % 2:Nat):Int)):=by
 have a:x/2^k<256:=Nat.lt_of_le_of_lt (Nat.div_le_self _ _) c;have:=Lr (b:=1) a (by omega)
 grind
section
variable{x:ay}{bk:AV}{p:Nat}{H:List ae}(ho:Old p H (.box (ba x bk) none))(lo:oN)
include ho
theorem LG(aa:Nat):D XA (.fn (.func 263) [] []) [.ptr p 0,.int .u32 aa] ⟨H,lo⟩=some (ez (un ⟨H,lo⟩) ⟨H,lo⟩ (mH x aa)):=by
 refine aH Kq λN f=>?_
 have e:=ho.at';by_cases h:aa<8
 ·have c: (aa:Int)<8:=by omega
  have b:mH x aa=ask (x.s.alive aa) 2:=by unfold mH;simp[h]
  have a: ∀H lo,D XA (.fn (.func 116) [] []) [.bool (x.s.alive aa),.int .i64 2] ⟨H,lo⟩=_:=lL _ 2;rw[b];cases d:x.s.alive aa<;>rw[d]at a<;>simp(disch:=omega) only[F1,go_sem,simprocAttr,Kq,e,c,↓Tq h,d,a,ask,ez,EP]
 ·have c: ¬(aa:Int)<8:=by omega
  have b:mH x aa= .error 2:=by unfold mH ask;simp[h]
  have a: ∀H lo,D XA (.fn (.func 116) [] []) [.bool false,.int .i64 2] ⟨H,lo⟩=_:=lL _ 2;rw[b];simp(disch:=omega) only[F1,go_sem,simprocAttr,Kq,c,a,ask,ez,EP]
theorem Ty(b:aW x.s)(i:x.aa<8)(h:Nat)(e:h<4294967296)(a:Nat)(d:a<=2):
  D XA (.fn (.func 246) [] []) [.ptr p 0,.int .u32 h,.int .u8 a] ⟨H,lo⟩=some (ez (un ⟨H,lo⟩) ⟨H,lo⟩ (gi x h a)):=by
 refine aH Q6 λN g=>?_
 have hm:=λH lo=>ly (atW x.s.T b.T b.tr x.s.O b.O x.s.K b.K x.aa (by omega) h e a d H lo)
 have c:=iB (vA x.s.T x.s.O x.s.K x.aa h a);unfold gi;cases f:ch (vA x.s.T x.s.O x.s.K x.aa h a)<;>rw[f]at c<;>simp only[F1,go_sem,simprocAttr,Q6,g,ho.at',↓CL,hm,c,ez,EP,jF]
theorem LH(b:aW x.s)(h:Nat)(c:h<4294967296):
  D XA (.fn (.func 251) [] []) [.ptr p 0,.int .u32 h] ⟨H,lo⟩=some (ez (λ_=>(.agg (bM (aG x.s.T h).1),⟨H,lo⟩)) ⟨H,lo⟩ (ch (aG x.s.T h).2)):=by
 refine aH Q8 λN e=>?_
 have hm:=λH lo=>lx (ua x.s.T b.T h c H lo)
 have a:=iB (aG x.s.T h).2;cases d:ch (aG x.s.T h).2<;>rw[d]at a<;>simp only[F1,go_sem,simprocAttr,Q8,e,ho.g,↓CL,hm,mc,a,ez,EP]
theorem Tz(a:aW x.s)(h:Nat)(d:h<4294967296):
  D XA (.fn (.func 260) [] []) [.ptr p 0,.int .u32 h] ⟨H,lo⟩=some (ez (λ_=>(.az [],⟨H.set p (.box (ba (x.t (iv x.s.T h).1) bk) none),lo⟩)) ⟨H,lo⟩ (ch (iv x.s.T h).2)):=by
 refine aH Rc λN c=>?_
 have hm:=λH lo=>ly (ata x.s.T a.T a.tr h d H lo)
 have b:=iB (iv x.s.T h).2;cases e:ch (iv x.s.T h).2<;>rw[e]at b<;>simp only[F1,go_sem,simprocAttr,Rc,c,ho.at',ho.g,ho.s,↓CL,hm,Lo,b,ez,EP,CS,dc,take_set c]
theorem LJ(a:aW x.s)(h:Nat)(e:h<4294967296)(aa:Nat)(d:aa<256):
  D XA (.fn (.func 249) [] []) [.ptr p 0,.int .u32 h,.int .i64 aa] ⟨H,lo⟩=some (ez (λ_=>(.az [],⟨H.set p (.box (ba (x.o (ow x.s.O x.s.T h aa).1) bk) none),lo⟩)) ⟨H,lo⟩ (ch (ow x.s.O x.s.T h aa).2)):=by
 refine aH Q7 λN c=>?_
 have hm:=λH lo=>lx (ati x.s.O x.s.T a.T a.tr h e aa d H lo)
 have b:=iB (ow x.s.O x.s.T h aa).2;cases f:ch (ow x.s.O x.s.T h aa).2<;>rw[f]at b<;>simp only[F1,go_sem,simprocAttr,Q7,c,ho.g,ho.s,↓CL,hm,b,ez,EP,CS,gV,take_set c]
theorem TA(d:aW x.s)(h:Nat)(g:h<4294967296)(r:cP)(e:RB r.runs)(f:r.runs.length<=65)(a:r.len<4294967296):
  D XA (.fn (.func 255) [] []) [.ptr p 0,.int .u32 h,.agg (bM r)] ⟨H,lo⟩=some (ez (λ_=>(.az [],⟨H.set p (.box (ba (x.t (ew x.s.T h r).1) bk) none),lo⟩)) ⟨H,lo⟩ (ch (ew x.s.T h r).2)):=by
 refine aH Ra λN c=>?_
 have hm:=λH lo=>lx (Ta x.s.T d.T h g r e f a H lo)
 have b:=iB (ew x.s.T h r).2;cases i:ch (ew x.s.T h r).2<;>rw[i]at b<;>simp only[F1,go_sem,simprocAttr,Ra,c,ho.g,ho.s,↓CL,hm,ud,b,ez,EP,CS,dc,take_set c]
theorem FW(f:aW x.s)(u:x.aa<8)(h:Nat)(o:h<4294967296):
  D XA (.fn (.func 264) [] []) [.ptr p 0,.int .u32 h] ⟨H,lo⟩=some (ez (un ⟨H,lo⟩) ⟨H,lo⟩ (zI x h)):=by
 refine aH BR λN s=>?_
 have a:=λH lo=>lx (eX x.s.T.b h o H lo)
 have q:ar x.s.T.b h=x.s.T.ar h:=rfl;rw[q]at a;have d:=λH lo=>lx (Cd x.s.O f.O x.s.T f.T f.tr h o H lo)
 have c:=λH lo=>lx (zR x.s.T f.T f.tr h o H lo)
 have j:=f.O.of x.s.T h;have A:zI x h=ask (x.s.T.ar h) 4>>=λ_=>ask (decide (root x.s.T h=h)&&decide ((bu x.s.O x.s.T h).kind=3)) 12>>=λ_=>ask ((bu x.s.O x.s.T h).hold.testBit x.aa) 5:=rfl
 generalize bu x.s.O x.s.T h=w at*;have g: ∀H lo,D XA (.fn (.func 116) [] []) [.bool (x.s.T.ar h),.int .i64 4] ⟨H,lo⟩=_:=lL _ 4;have e: ∀b H lo,D XA (.fn (.func 116) [] []) [.bool b,.int .i64 12] ⟨H,lo⟩=_:=λb=>lL b 12
 have B: ∀b H lo,D XA (.fn (.func 116) [] []) [.bool b,.int .i64 5] ⟨H,lo⟩=_:=λb=>lL b 5
 rw[A];cases y:x.s.T.ar h with
 |false=>
  rw[y]at a g;simp(disch:=omega) only[F1,go_sem,simprocAttr,BR,ho.at',↓CL,a,g,ask,ez,EP,Except.bind,bind]
 |true=>
  rw[y]at a g;by_cases n:root x.s.T h=h
  ·have k:decide ((root x.s.T h:Int)=h)=true:=aec (by omega);by_cases t:w.kind=3
   ·have i:decide ((w.kind:Int)=3)=true:=aec (by omega);have m:k9 .shr (.int .u8 (w.hold:Nat)) (.int .i64 (x.aa:Nat))=some (.int .u8 ((w.hold/2^x.aa:Nat):Int)):=aup u;have hand:dB .and (.int .u8 ((w.hold/2^x.aa:Nat):Int)) (.int .u8 1)=some (.int .u8 ((w.hold/2^x.aa % 2:Nat):Int)):=auq j.hold;have r:=ahN j.hold u;have l:decide (((w.hold/2^x.aa % 2:Nat):Int)=1)=w.hold.testBit x.aa:=by rw[<-r];exact afB.2 (by omega)
    cases z:w.hold.testBit x.aa<;>rw[z]at l<;>
     simp only[F1,go_sem,simprocAttr,BR,s,ho.at',ho.g,↓CL,j7,a,g,d,c,n,t,e,B,m,hand,l,ask,ez,EP,jF,Except.bind,bind]
   ·have i:decide ((w.kind:Int)=3)=false:=adO (by omega);simp only[F1,go_sem,simprocAttr,BR,s,ho.at',ho.g,↓CL,j7,a,g,d,c,n,i,t,e,ask,ez,EP,Except.bind,bind]
  ·have k:decide ((root x.s.T h:Int)=h)=false:=adO (by omega);simp only[F1,go_sem,simprocAttr,BR,s,ho.at',ho.g,↓CL,j7,a,g,d,c,k,n,e,ask,ez,ag4,EP,Except.bind,bind]
end
def aiw(c:cn)(H:List ae)(lo:oN):D XA (.fn (.func 256) [] []) [.agg (bn c)] ⟨H,lo⟩=some (ez (un ⟨H,lo⟩) ⟨H,lo⟩ (ask (decide (1<=c.b)&&decide (c.b<=8)) 2)):=by
 refine aH Fa λN e=>?_
 have g: ∀b H lo,D XA (.fn (.func 116) [] []) [.bool b,.int .i64 2] ⟨H,lo⟩=_:=λb=>lL b 2
 by_cases f:1<=c.b
 ·have a:decide ((c.b:Int)>=1)=true:=aec (by omega);by_cases i:c.b<=8
  ·have d:decide ((c.b:Int)<=8)=true:=aec (by omega);simp only[F1,go_sem,simprocAttr,Fa,e,bn,a,d,f,i,g,ask,ez]
  ·have d:decide ((c.b:Int)<=8)=false:=adO (by omega);simp only[F1,go_sem,simprocAttr,Fa,e,bn,a,d,f,i,g,ask,ez,EP]
 ·have a:decide ((c.b:Int)>=1)=false:=adO (by omega);simp only[F1,go_sem,simprocAttr,Fa,e,bn,a,f,g,ask,ez,ag4,EP]
def aur(r:cP)(g:r.len<4294967296)(c:cn)(d:gE c)(H:List ae)(lo:oN):
  D XA (.fn (.func 257) [] []) [.agg (bM r),.agg (bn c)] ⟨H,lo⟩=some (ez (un ⟨H,lo⟩) ⟨H,lo⟩ (ask (decide (c.a+c.b<=r.len)) 9)):=by
 refine aH Kn λN e=>?_
 have j:=d.a;have i:=d.b;have f: ∀b H lo,D XA (.fn (.func 116) [] []) [.bool b,.int .i64 9] ⟨H,lo⟩=_:=λb=>lL b 9
 by_cases h:c.a+c.b<=r.len
 ·have a:decide ((c.a:Int)<=(r.len:Int)-c.b)=true:=aec (by omega);simp(disch:=omega) only[F1,go_sem,simprocAttr,Kn,e,bn,a,h,f,ask,ez]
 ·have a:decide ((c.a:Int)<=(r.len:Int)-c.b)=false:=adO (by omega);simp(disch:=omega) only[F1,go_sem,simprocAttr,Kn,e,bn,a,h,f,ask,ez,EP]
end
structure mP(x:ay):Prop where
 s:aW x.s
 t:x.aa<8
 c:gE x.c
 run:x.run.1<4294967296/\x.run.2<4294967296
def bg(b:List aD)(bk:AV)(p:Nat)(H:List ae)(lo:oN):R (ay×bt)->aV->Prop
 |.ok (y,r),a=>y.back=b/\a= .ret (.agg (bE r)) ⟨H.set p (.box (ba y bk) none),lo⟩
 |.error e,a=> ∃y,a= .panic (jE e) ⟨H.set p (.box (ba y bk) none),lo⟩
theorem okB{a:α}{f:α->R β}: (Except.ok a>>=f:R β)=f a:=rfl
theorem dk{f:α->R β}: (Except.error e>>=f:R β)= .error e:=rfl
def OL{H:List ae}{N:Nat}(a:H.length=N): (∀p w L,(H.set p w++L)[N]?=L[0]?)/\ (∀p w L k,(H.set p w++L)[N+k]?=L[k]?)/\ (∀p w L o,(H.set p w++L).set N o=H.set p w++L.set 0 o)/\ (∀p w L k o,(H.set p w++L).set (N+k) o=H.set p w++L.set k o)/\
  (∀p w L,List.take N (H.set p w++L)=H.set p w)/\ ∀p w,List.take N (H.set p w)=H.set p w:=by
 have h: ∀p w,(H.set p w).length=N:=λp w=>by grind
 grind
theorem ij{a:α}: (pure a:R α)= .ok a:=rfl
def ek{K c:AV->AS->Prop}{f:α->AV×AS}{E:AS}{m:R α}:Hw K c (some (ez f E m))=((∀a,m= .ok a->K (f a).1 (f a).2)/\ ∀e,m= .error e->c (jE e) E):=by
 apply propext;cases m with
 |ok a=>
  refine⟨λh=>⟨λb e=>?_,λ_ e=>?_⟩,λh=>h.1 a rfl⟩
  ·cases e;exact h
  grind
 |error e=>
  refine⟨λh=>⟨λb q=>?_,λb q=>?_⟩,λh=>h.2 e rfl⟩
  ·cases q
  ·cases q;exact h
def en{q:Unit->Prop}: (∀a,q a)=q ():=by grind
section
variable{x:ay}{bk:AV}{p:Nat}{H:List ae}{lo:oN}(ho:Old p H (.box (ba x bk) none))(hx:mP x)
include ho
theorem bg.err:bg x.back bk p H lo (.error e) (.panic (jE e) ⟨H,lo⟩):=⟨x,by rw[ho.same]⟩
theorem bg.here{r:bt}(a:v= .agg (bE r)):bg x.back bk p H lo (.ok (x,r)) (.ret v ⟨H,lo⟩):=by
 refine⟨rfl,?_⟩;rw[ho.same,a]
omit ho in
theorem bg.set{r:bt}(a:v= .agg (bE r))(b:y.back=x.back):bg x.back bk p H lo (.ok (y,r)) (.ret v ⟨H.set p (.box (ba y bk) none),lo⟩):=by
 refine⟨b,?_⟩;rw[a]
omit ho in
theorem zZ{h w:Nat}(a:gi x h w= .ok ()):ch (aG x.s.T h).2= .ok ():=by
 unfold gi vA at a;cases b:x.s.T.ar h with
 |true=>unfold aG;rw[adG b];rfl
 |false=>rw[adG b]at a;cases a
include hx
theorem M0(h:Nat)(a:h<4294967296)(B:List ae)(lo:oN):D XA (.fn (.func 246) [] []) [.ptr p 0,.int .u32 h,.int .u8 0] ⟨H++B,lo⟩=some (ez (un ⟨H++B,lo⟩) ⟨H++B,lo⟩ (gi x h 0)):=Ty (ho.app B) lo hx.s hx.t h a 0 (by omega)
theorem M1(h:Nat)(a:h<4294967296)(B:List ae)(lo:oN):D XA (.fn (.func 246) [] []) [.ptr p 0,.int .u32 h,.int .u8 1] ⟨H++B,lo⟩=some (ez (un ⟨H++B,lo⟩) ⟨H++B,lo⟩ (gi x h 1)):=Ty (ho.app B) lo hx.s hx.t h a 1 (by omega)
theorem M2(h:Nat)(a:h<4294967296)(B:List ae)(lo:oN):D XA (.fn (.func 246) [] []) [.ptr p 0,.int .u32 h,.int .u8 2] ⟨H++B,lo⟩=some (ez (un ⟨H++B,lo⟩) ⟨H++B,lo⟩ (gi x h 2)):=Ty (ho.app B) lo hx.s hx.t h a 2 (by omega)
omit ho in
theorem Bs(L:List ae)(lo:oN):D XA (.fn (.func 257) [] []) [.agg (bM (aG x.s.T x.c.r).1),.agg (bn x.c)] ⟨L,lo⟩=some (ez (un ⟨L,lo⟩) ⟨L,lo⟩ (ask (decide (x.c.a+x.c.b<=(aG x.s.T x.c.r).1.len)) 9)):=
 aur (aG x.s.T x.c.r).1 (by have:=(hx.s.T.get x.c.r).len;omega) x.c hx.c L lo
end
section
variable{x:ay}{bk:AV}{p:Nat}{H:List ae}{lo:oN}(ho:Old p H (.box (ba x bk) none))(hx:mP x)
include ho hx
theorem aus: ∃a,D XA (.fn (.func 227) [] []) [.ptr p 0] ⟨H,lo⟩=some a/\bg x.back bk p H lo (pT x 0) a:=by
 refine cN QV λN b=>?_
 simp only[F1,go_sem,simprocAttr,QV,b,ho.g,↓CL,λB=>aiw x.c (H++B),M0 ho hx x.c.r hx.c.r,λB lo=>LH (ho.app B) lo hx.s x.c.r hx.c.r,λL=>Bs hx L,ek,en,EP,jF];have c:=zZ (x:=x) (h:=x.c.r) (w:=0)
 (repeat' (first| (refine⟨?_,?_⟩)|intro _))<;>first
   | (simp only[pT,ij,okB,dk, *];first|exact bg.err ho|exact bg.here ho rfl)
   | (exfalso;simp_all)
theorem aut: ∃a,D XA (.fn (.func 228) [] []) [.ptr p 0] ⟨H,lo⟩=some a/\bg x.back bk p H lo (pT x 1) a:=by
 refine cN QW λN b=>?_
 simp only[F1,go_sem,simprocAttr,QW,b,ho.g,↓CL,λB=>aiw x.c (H++B),M1 ho hx x.c.r hx.c.r,λB lo=>LH (ho.app B) lo hx.s x.c.r hx.c.r,λL=>Bs hx L,ek,en,EP,jF];have c:=zZ (x:=x) (h:=x.c.r) (w:=1)
 (repeat' (first| (refine⟨?_,?_⟩)|intro _))<;>first
   | (simp only[pT,ij,okB,dk, *];first|exact bg.err ho|exact bg.here ho rfl)
   | (exfalso;simp_all)
end
theorem auu{args:lA}{E:AS}{a:AS}(h:Ck args E=some (.ret v a)):D XA (.fn (.func 275) [] []) args E=some (.ret v a):=DD rfl h
def xM(h: ¬a<8):mH x a= .error 2:=by unfold mH ask;simp[h]
def aix(h:a<4294967296):min a 8<4294967296:=by omega
section
variable{x:ay}{bk:AV}{p:Nat}{H:List ae}{lo:oN}(ho:Old p H (.box (ba x bk) none))(hx:mP x)
include ho hx
theorem auv: ∃b,D XA (.fn (.func 242) [] []) [.ptr p 0] ⟨H,lo⟩=some b/\bg x.back bk p H lo (vG x) b:=by
 refine cN Q5 λN c=>?_
 have a:=λH lo=>auu (aug x.s.T hx.s.T x.c.r (min x.c.a 8) hx.c.r (aix hx.c.a) H lo)
 have em: ((min x.c.a 8:Nat):Int)=min (x.c.a:Int) 8:=by omega
 simp only[em]at a;simp(disch:=omega) only[F1,go_sem,simprocAttr,Q5,c,ho.g,↓CL,M0 ho hx x.c.r hx.c.r,a,λH=>iB (sX x.s.T x.c.r (min x.c.a 8)).2 H,ek,en,EP]
 (repeat' (first| (refine⟨?_,?_⟩)|intro _))<;>(simp only[vG,ij,okB,dk, *];first|exact bg.err ho|exact bg.here ho rfl)
theorem auw: ∃b,D XA (.fn (.func 232) [] []) [.ptr p 0] ⟨H,lo⟩=some b/\bg x.back bk p H lo (xp x) b:=by
 refine cN Q0 λN a=>?_
 have c:=λH lo=>ly (as6 x.s.T hx.s.T hx.s.tr x.c.r x.c.s hx.c.r hx.c.s H lo)
 simp only[F1,go_sem,simprocAttr,Q0,a,ho.g,ho.s,↓CL,CS,M2 ho hx x.c.r hx.c.r,M1 ho hx x.c.s hx.c.s,c,xB,λH=>iB (mF x.s.T x.c.r x.c.s).2 H,ek,en,EP,dc,OL a]
 (repeat' (first| (refine⟨?_,?_⟩)|intro _))<;>(simp only[xp,ij,okB,dk, *];first|exact bg.err ho|trivial)
theorem auy: ∃d,D XA (.fn (.func 234) [] []) [.ptr p 0] ⟨H,lo⟩=some d/\bg x.back bk p H lo (vD x) d:=by
 refine cN Kg λN b=>?_
 have a:=λB lo=>LG (ho.app B) lo x.c.a
 by_cases c:x.c.a<8
 ·have e:=λH lo=>lx (ahu x.s.O hx.s.O x.s.T hx.s.T hx.s.tr x.c.r hx.c.r x.c.a (by omega) H lo)
  simp(disch:=omega) only[F1,go_sem,simprocAttr,Kg,b,ho.g,ho.s,↓CL,CS,a,λB lo=>FW (ho.app B) lo hx.s hx.t x.c.r hx.c.r,e,λH=>iB (c7 x.s.O x.s.T x.c.r x.c.a true).2.2 H,ek,en,EP,gV,OL b]
  (repeat' (first| (refine⟨?_,?_⟩)|intro _))<;>(simp only[vD,vC,ij,okB,dk, *];first|exact bg.err ho|exact bg.set rfl rfl)
 ·rw[xM c]at a;simp only[F1,go_sem,simprocAttr,Kg,b,ho.g,↓CL,a,ez,EP];simp only[vD,dk,xM c];exact bg.err ho
theorem auz: ∃d,D XA (.fn (.func 240) [] []) [.ptr p 0] ⟨H,lo⟩=some d/\bg x.back bk p H lo (vF x) d:=by
 refine cN Q4 λN c=>?_
 have e:=λH lo=>lx (at2 (x.s.bp x.aa) H lo)
 have i:=hx.t;have h: (x.aa:Int)<8:=by omega
 have g:784+x.aa*19<=945:=by omega
 have f:=λbk=> @Ly x bk x.aa hx.t
 have a:=λbk b=> @Lz x bk x.aa b hx.t
 simp only[F1,go_sem,simprocAttr,Q4,c,ho.g,ho.s,↓CL,CS,e,h,↓f,a,g,MB,λH=>iB (pQ (x.s.bp x.aa)).2 H,ek,en,EP,OL c]
 (repeat' (first| (refine⟨?_,?_⟩)|intro _))<;>(simp only[vF,ij,okB,dk, *];first|exact bg.err ho|trivial)
theorem auA: ∃f,D XA (.fn (.func 237) [] []) [.ptr p 0] ⟨H,lo⟩=some f/\bg x.back bk p H lo (vE x) f:=by
 refine cN Q3 λN e=>?_
 have d:=λH lo=>lx (Ce x.s.K hx.s.K x.c.s hx.c.s H lo)
 have c:=hx.s.K.get x.c.s;generalize j:ck x.s.K x.c.s=g at*;have h:=c.to;have he: ((g.1.to:Int)=x.aa)=(g.1.to=x.aa):=propext (by omega);obtain⟨w,a⟩:=ahJ x.s.K hx.s.K x.c.s hx.c.s (hx.s.th x.c.s) (H++[.box [.int .i64 0,.int .u64 0,.int .u32 0] none,.box (gh g.1) none]) none;have a:=ly a;simp only[gh]at a d;have i: ∀b H lo,D XA (.fn (.func 116) [] []) [.bool b,.int .i64 5] ⟨H,lo⟩=_:=λb=>lL b 5
 simp(disch:=omega) only[F1,go_sem,simprocAttr,Q3,e,ho.g,ho.s,↓CL,CS,d,a,he,i,λH=>iB g.2 H,ek,en,EP,jF,OL e]
 (repeat' (first| (refine⟨?_,?_⟩)|intro _))<;>(simp only[vE,ij,okB,dk, *];first|exact bg.err ho|exact bg.set rfl rfl)
theorem auB: ∃g,D XA (.fn (.func 245) [] []) [.ptr p 0] ⟨H,lo⟩=some g/\bg x.back bk p H lo (pV x) g:=by
 refine cN Kk λN c=>?_
 have f: ∀b H lo,D XA (.fn (.func 116) [] []) [.bool b,.int .i64 2] ⟨H,lo⟩=_:=λb=>lL b 2
 by_cases a:x.c.a<8
 ·have e: (x.c.a:Int)<8:=by omega
  have l: (x.c.a:Int).tmod 8=x.c.a:=Int.tmod_eq_of_lt (by omega) (by omega);have k: (decide (x.c.a<8)&& !x.s.born (x.c.a % 8))= !x.s.born x.c.a:=by rw[al2 a];simp[a]
  have j:=λbk=> @atX x bk x.c.a a
  have s1:=λ (y:ay) bk v=> @aia y bk x.c.a v a
  have s2:=λ (y:ay) bk v=> @atY y bk x.c.a v a
  have i:936+x.c.a<=963:=by omega
  have h:944+x.c.a<=963:=by omega
  simp only[F1,go_sem,simprocAttr,Kk,c,ho.g,ho.s,ho.g2,ho.s2,↓CL,CS,e,l,i,h,↓j,f,s1,s2,ek,en,EP,jF,OL c];have d:pV x=ask (!x.s.born x.c.a) 2>>=λ_=>.ok ({x with s:={x.s with alive:=ao x.s.alive x.c.a true,born:=ao x.s.born x.c.a true}},bD):=by unfold pV;rw[k];rfl
  rw[d]
  (repeat' (first| (refine⟨?_,?_⟩)|intro _))<;>(simp only[okB,dk, *];first|exact bg.err ho|exact bg.set rfl rfl)
 ·have e: ¬(x.c.a:Int)<8:=by omega
  have f: ∀H lo,D XA (.fn (.func 116) [] []) [.bool false,.int .i64 2] ⟨H,lo⟩=_:=λH lo=>lx (zW 2 H lo)
  have d:pV x= .error 2:=by unfold pV;rw[adO a];rfl
  simp only[F1,go_sem,simprocAttr,Kk,c,ho.g,↓CL,e,f,EP,jF];rw[d];exact bg.err ho
theorem auC: ∃h,D XA (.fn (.func 241) [] []) [.ptr p 0] ⟨H,lo⟩=some h/\bg x.back bk p H lo (ox x) h:=by
 refine cN Ki λN d=>?_
 have b:=λH lo=>lx (Cd x.s.O hx.s.O x.s.T hx.s.T hx.s.tr x.c.s hx.c.s H lo)
 have f:=λH lo=>aui x.s.T hx.s.T hx.s.tr x.c.r (min x.c.a 8) x.c.s (decide ((bu x.s.O x.s.T x.c.s).kind=3)) hx.c.r hx.c.s (aix hx.c.a) H lo
 have em: ((min x.c.a 8:Nat):Int)=min (x.c.a:Int) 8:=by omega
 have c:decide ((bu x.s.O x.s.T x.c.s).kind=3)=decide (((bu x.s.O x.s.T x.c.s).kind:Int)=3):=afB.2 (by omega);simp only[em,c]at f;by_cases e:x.c.s=0
 ·have a:decide ((x.c.s:Int)=0)=true:=aec (by omega);simp(disch:=omega) only[F1,go_sem,simprocAttr,Ki,d,ho.g,ho.s,↓CL,CS,M1 ho hx x.c.r hx.c.r,a,b,j7,f,λH=>iB (lF x.s.T x.c.r (min x.c.a 8) x.c.s (decide (((bu x.s.O x.s.T x.c.s).kind:Int)=3))).2 H,ek,en,EP,OL d,dc];have g:ox x=gi x x.c.r 1>>=λ_=>ch (lF x.s.T x.c.r (min x.c.a 8) x.c.s (decide (((bu x.s.O x.s.T x.c.s).kind:Int)=3))).2>>=λ_=>.ok (x.t (lF x.s.T x.c.r (min x.c.a 8) x.c.s (decide (((bu x.s.O x.s.T x.c.s).kind:Int)=3))).1,bD):=by
   unfold ox;rw[adE (by simpa using e),c];rfl
  rw[g];clear e a c em
  (repeat' (first| (refine⟨?_,?_⟩)|intro _))<;>(simp only[okB,dk, *];first|exact bg.err ho|exact bg.set rfl rfl)
 ·have a:decide ((x.c.s:Int)=0)=false:=adO (by omega);simp(disch:=omega) only[F1,go_sem,simprocAttr,Ki,d,ho.g,ho.s,↓CL,CS,M1 ho hx x.c.r hx.c.r,M0 ho hx x.c.s hx.c.s,a,b,j7,f,λH=>iB (lF x.s.T x.c.r (min x.c.a 8) x.c.s (decide (((bu x.s.O x.s.T x.c.s).kind:Int)=3))).2 H,ek,en,EP,OL d,dc];have g:ox x=gi x x.c.r 1>>=λ_=>gi x x.c.s 0>>=λ_=>ch (lF x.s.T x.c.r (min x.c.a 8) x.c.s (decide (((bu x.s.O x.s.T x.c.s).kind:Int)=3))).2>>=λ_=>.ok (x.t (lF x.s.T x.c.r (min x.c.a 8) x.c.s (decide (((bu x.s.O x.s.T x.c.s).kind:Int)=3))).1,bD):=by
   unfold ox;rw[adG (by simpa using e),c];rfl
  rw[g];clear e a c em
  (repeat' (first| (refine⟨?_,?_⟩)|intro _))<;>(simp only[okB,dk, *];first|exact bg.err ho|exact bg.set rfl rfl)
end
theorem vS: (x.t t).c=x.c/\ (x.t t).aa=x.aa/\ (x.t t).s.T=t/\ (x.t t).s.O=x.s.O/\ (x.t t).s.K=x.s.K/\ (x.t t).s.bp=x.s.bp/\ (x.t t).run=x.run:=⟨rfl,rfl,rfl,rfl,rfl,rfl,rfl⟩
theorem LK{t:bI}: (x.o t).c=x.c/\ (x.o t).aa=x.aa/\ (x.o t).s.O=t/\ (x.o t).s.T=x.s.T/\ (x.o t).s.K=x.s.K/\ (x.o t).s.bp=x.s.bp:=⟨rfl,rfl,rfl,rfl,rfl,rfl⟩
theorem aiy: (x.bx i b).c=x.c/\ (x.bx i b).aa=x.aa/\ (x.bx i b).s.O=x.s.O/\ (x.bx i b).s.T=x.s.T/\ (x.bx i b).s.K=x.s.K/\ (x.bx i b).s.bp=ao x.s.bp i b:=⟨rfl,rfl,rfl,rfl,rfl,rfl⟩
section
variable{x:ay}{bk:AV}{p:Nat}{H:List ae}{lo:oN}(ho:Old p H (.box (ba x bk) none))(hx:mP x)
include ho hx
omit ho hx in
theorem bg.mQ:bg x.back bk p H lo (.error e) (.panic (jE e) ⟨H.set p (.box (ba y bk) none),lo⟩):=⟨y,rfl⟩
theorem auD: ∃f,D XA (.fn (.func 231) [] []) [.ptr p 0] ⟨H,lo⟩=some f/\bg x.back bk p H lo (xo x) f:=by
 refine cN QZ λN e=>?_
 have c:=λH lo=>lx (zR x.s.T hx.s.T hx.s.tr x.c.r hx.c.r H lo)
 have g:decide (root x.s.T x.c.r≠x.c.r)=decide (¬((root x.s.T x.c.r:Nat):Int)=x.c.r):=afB.2 (by omega);have d: ∀b H lo,D XA (.fn (.func 116) [] []) [.bool b,.int .i64 12] ⟨H,lo⟩=_:=λb=>lL b 12
 have a:aW (x.t (iv x.s.T x.c.r).1).s:=hx.s.uh (hx.s.dV.cut _);have hw:=λB lo=>LJ (x:=x.t (iv x.s.T x.c.r).1) (bk:=bk) ((ho.set _).app B) lo a x.c.r hx.c.r x.aa (by have:=hx.t;omega)
 simp only[F1,go_sem,simprocAttr,QZ,e,ho.g,ho.s,ho.g2,ho.s2,↓CL,M2 ho hx x.c.r hx.c.r,c,d,λB lo=>Tz (ho.app B) lo hx.s x.c.r hx.c.r,hw,vS,ek,en,EP,jF,OL e]
 (repeat' (first| (refine⟨?_,?_⟩)|intro _))<;>(simp only[xo,sY,kQ,vS,ij,okB,dk, *];first|exact bg.err ho|exact bg.mQ|exact bg.set rfl rfl)
theorem auE: ∃c,D XA (.fn (.func 233) [] []) [.ptr p 0] ⟨H,lo⟩=some c/\bg x.back bk p H lo (xq x) c:=by
 refine cN Q2 λN b=>?_
 have a:=hx.s.dV.cut x.c.r;have hw:=λH lo=>lx (atj x.s.O (iv x.s.T x.c.r).1 a.ok a.tr x.c.r hx.c.r x.aa (by have:=hx.t;omega) H lo)
 simp only[F1,go_sem,simprocAttr,Q2,b,ho.g,ho.s,ho.g2,ho.s2,↓CL,CS,M2 ho hx x.c.r hx.c.r,λB lo=>Tz (ho.app B) lo hx.s x.c.r hx.c.r,hw,vS,λH=>iB (zD x.s.O (iv x.s.T x.c.r).1 x.c.r x.aa).2 H,ek,en,EP,OL b,gV]
 (repeat' (first| (refine⟨?_,?_⟩)|intro _))<;>(simp only[xq,sY,vS,ij,okB,dk, *];first|exact bg.err ho|exact bg.mQ|exact bg.set rfl rfl)
theorem aiz: ∃t,D XA (.fn (.func 239) [] []) [.ptr p 0] ⟨H,lo⟩=some t/\bg x.back bk p H lo (nu x) t:=by
 refine cN E6 λN h=>?_
 have u:=hx.t;have s: (x.aa:Int)<8:=by omega
 have r:784+x.aa*19<=945:=by omega
 have o:=λbk=> @Ly x bk x.aa hx.t
 have d:=λbk b=> @Lz x bk x.aa b hx.t
 have f:=λH lo=>lx (at1 (x.s.bp x.aa) (hx.s.bx _) H lo)
 have i:=(hx.s.bx x.aa).take;have l:aW (x.bx x.aa (iz (x.s.bp x.aa)).1).s:=hx.s.vR i.1;have m:=i.2.aJ;have hw:=λB lo=>LJ (x:=x.bx x.aa (iz (x.s.bp x.aa)).1) (bk:=bk) ((ho.set _).app B) lo l (iz (x.s.bp x.aa)).2.1.aJ m x.aa (by omega)
 generalize n:iz (x.s.bp x.aa)=g at*;simp only[oG]at f;have e:N+1+1=N+2:=rfl;by_cases j:g.2.1.aJ=0
 ·have a:decide ((g.2.1.aJ:Int)=0)=true:=aec (by omega);have k: (g.2.1.aJ≠0/\g.2.1.share=false)=False:=az0 λq=>q.1 j
  simp only[F1,go_sem,simprocAttr,E6,h,ho.g,ho.s,↓CL,CS,f,s,↓o,d,r,e,a,MB,λH=>iB g.2.2 H,ek,en,EP,OL h];clear j a
  (repeat' (first| (refine⟨?_,?_⟩)|intro _))<;>(simp only[nu,n,k,aha];simp only[ij,okB,dk, *];first|exact bg.err ho|exact bg.set rfl rfl)
 ·have a:decide ((g.2.1.aJ:Int)=0)=false:=adO (by omega);cases c:g.2.1.share with
  |true=>
   rw[c]at f;have k: (g.2.1.aJ≠0/\g.2.1.share=false)=False:=az0 λq=>by rw[c]at q;cases q.2
   simp only[F1,go_sem,simprocAttr,E6,h,ho.g,ho.s,↓CL,CS,f,s,↓o,d,r,e,a,MB,λH=>iB g.2.2 H,ek,en,EP,OL h];clear j a c
   (repeat' (first| (refine⟨?_,?_⟩)|intro _))<;>(simp only[nu,n,k,aha];simp only[ij,okB,dk, *];first|exact bg.err ho|exact bg.set rfl rfl)
  |false=>
   rw[c]at f;have k: (g.2.1.aJ≠0/\g.2.1.share=false)=True:=aAY ⟨j,c⟩;simp only[F1,go_sem,simprocAttr,E6,h,ho.g,ho.s,ho.g2,ho.s2,↓CL,CS,f,s,↓o,d,r,e,a,hw,aiy,MB,λH=>iB g.2.2 H,ek,en,EP,jF,OL h];clear j a c
   (repeat' (first| (refine⟨?_,?_⟩)|intro _))<;>(simp only[nu,n,k,afK];simp only[kQ,aiy,ij,okB,dk, *];first|exact bg.err ho|exact bg.mQ|exact bg.set rfl rfl)
end
def auF(c:fL t.b): (ka t a n).2.1<4294967296:=by
 unfold ka;split
 ·simp
 ·split
  ·simp
  ·split
   ·rename_i i b;exact Fx (pO b).1 (c i).1
   grind
def aiA(b:fL t.b): (fh t a n).2.1<4294967296:=by
 unfold fh;dsimp only;split
 ·simp
 ·exact auF b
section
variable{x:ay}{bk:AV}{p:Nat}{H:List ae}{lo:oN}(ho:Old p H (.box (ba x bk) none))(hx:mP x)
include ho hx
theorem auG: ∃i,D XA (.fn (.func 225) [] []) [.ptr p 0] ⟨H,lo⟩=some i/\bg x.back bk p H lo (pR x) i:=by
 refine cN Ke λN d=>?_
 have j:=hx.t;have g:=λH lo=>lx (asY x.s.T hx.s.T hx.s.tr x.c.r (min x.c.a 65) hx.c.r H lo)
 have em: ((min x.c.a 65:Nat):Int)=min (x.c.a:Int) 65:=by omega
 have e:aW (x.t (fh x.s.T x.c.r (min x.c.a 65)).1).s:=hx.s.uh (hx.s.dV.new _ _ hx.c.r);have f: (fh x.s.T x.c.r (min x.c.a 65)).2.1<4294967296:=aiA hx.s.T.b;have hw:=λB lo=>LJ (x:=x.t (fh x.s.T x.c.r (min x.c.a 65)).1) (bk:=bk) ((ho.set _).app B) lo e _ f x.aa (by omega)
 have h:=λH=>iB (fh x.s.T x.c.r (min x.c.a 65)).2.2 H
 have e1:pR x=(if x.c.r≠0 then gi x x.c.r 1 else .ok ())>>=λ_=>ch (fh x.s.T x.c.r (min x.c.a 65)).2.2>>=λ_=>(if x.c.r=0 then kQ (x.t (fh x.s.T x.c.r (min x.c.a 65)).1) (fh x.s.T x.c.r (min x.c.a 65)).2.1 x.aa else .ok (x.t (fh x.s.T x.c.r (min x.c.a 65)).1))>>=λy=>.ok (y,{bD with w:=(fh x.s.T x.c.r (min x.c.a 65)).2.1}):=by
  unfold pR;by_cases q:x.c.r=0
  ·rw[adE (by simpa using q),adE (by simpa using q)];simp only[adG q];rfl
  ·rw[adG (by simpa using q),adG (by simpa using q)];simp only[adE q];rfl
 simp only[zU,em]at g;generalize fh x.s.T x.c.r (min x.c.a 65)=n at*;rw[e1];by_cases b:x.c.r=0
 ·have a:decide ((x.c.r:Int)=0)=true:=aec (by omega);have c: (x.c.r≠0)=False:=az0 λq=>q b
  have e3: (x.c.r=0)=True:=aAY b;simp only[c,e3,aha,afK];simp(disch:=omega) only[F1,go_sem,simprocAttr,Ke,d,ho.g,ho.s,ho.g2,ho.s2,↓CL,CS,g,a,h,hw,vS,dc,ek,en,EP,OL d];clear b a c e3
  (repeat' (first| (refine⟨?_,?_⟩)|intro _))<;>(simp only[kQ,vS,ij,okB,dk, *];first|exact bg.err ho|exact bg.mQ|exact bg.set rfl rfl)
 ·have a:decide ((x.c.r:Int)=0)=false:=adO (by omega);have c: (x.c.r≠0)=True:=aAY b;have e3: (x.c.r=0)=False:=az0 b;simp only[c,e3,aha,afK];simp(disch:=omega) only[F1,go_sem,simprocAttr,Ke,d,ho.g,ho.s,ho.g2,↓CL,CS,M1 ho hx x.c.r hx.c.r,g,a,h,vS,dc,ek,en,EP,OL d];clear b a c e3
  (repeat' (first| (refine⟨?_,?_⟩)|intro _))<;>(simp only[okB,dk, *];first|exact bg.err ho|exact bg.mQ|exact bg.set rfl rfl)
theorem auH: ∃I,D XA (.fn (.func 236) [] []) [.ptr p 0] ⟨H,lo⟩=some I/\bg x.back bk p H lo (pU x) I:=by
 refine cN zp λN h=>?_
 have M:=hx.t;have l:=λB lo=>LG (ho.app B) lo x.c.a
 by_cases G:x.c.a<8
 ·have y: ∀b H lo,D XA (.fn (.func 116) [] []) [.bool b,.int .i64 2] ⟨H,lo⟩=_:=λb=>lL b 2
  have v: ∀b H lo,D XA (.fn (.func 116) [] []) [.bool b,.int .i64 4] ⟨H,lo⟩=_:=λb=>lL b 4
  have u: ∀b H lo,D XA (.fn (.func 116) [] []) [.bool b,.int .i64 5] ⟨H,lo⟩=_:=λb=>lL b 5
  have L:decide (x.c.b<=1)=decide ((x.c.b:Int)<=1):=afB.2 (by omega);have s:decide (x.c.b=1)=decide ((x.c.b:Int)=1):=afB.2 (by omega);have d:=λH lo=>lx (eX x.s.T.b x.c.r hx.c.r H lo)
  have C:ar x.s.T.b x.c.r=x.s.T.ar x.c.r:=rfl;rw[C]at d;have o:=λH lo=>ly (atx x.s.K hx.s.K ⟨x.c.r,x.aa % 256,x.c.a % 256,decide (x.c.b=1),x.c.s⟩ ⟨hx.c.r,anS _ (by omega),anS _ (by omega),hx.c.s⟩ H lo)
  have F:x.aa % 256=x.aa:=al2 (by omega);have E:x.c.a % 256=x.c.a:=al2 (by omega);simp only[nA,F,E,s]at o;have t:=λH=>iB (lD x.s.K ⟨x.c.r,x.aa,x.c.a,decide ((x.c.b:Int)=1),x.c.s⟩).2.2 H
  have k:=λH lo=>lx (Cd x.s.O hx.s.O x.s.T hx.s.T hx.s.tr x.c.r hx.c.r H lo)
  have A:=hx.s.O.of x.s.T x.c.r;have j:=λH lo=>lx (Ce x.s.K hx.s.K x.c.s hx.c.s H lo)
  have z:=hx.s.K.get x.c.s;have e1:pU x=mH x x.c.a>>=λ_=>ask (decide ((x.c.b:Int)<=1)) 2>>=λ_=>ask (x.s.T.ar x.c.r) 4>>=λ_=>(if x.c.s=0 then ask (decide ((bu x.s.O x.s.T x.c.r).kind=1)&&decide ((bu x.s.O x.s.T x.c.r).aa=x.aa)) 5 else ch (ck x.s.K x.c.s).2>>=λ_=>ask (decide ((ck x.s.K x.c.s).1.to=x.aa)&&decide ((ck x.s.K x.c.s).1.aJ=x.c.r)) 5)>>=λ_=>
    ch (lD x.s.K ⟨x.c.r,x.aa,x.c.a,decide ((x.c.b:Int)=1),x.c.s⟩).2.2>>=λ_=>.ok (x.k (lD x.s.K ⟨x.c.r,x.aa,x.c.a,decide ((x.c.b:Int)=1),x.c.s⟩).1,{bD with w:=(lD x.s.K ⟨x.c.r,x.aa,x.c.a,decide ((x.c.b:Int)=1),x.c.s⟩).2.1}):=by
   unfold pU;rw[L,s,F,E];by_cases q:x.c.s=0
   ·simp only[adG q];rfl
   ·simp only[adE q];cases mH x x.c.a with
    |error e=>rfl
    |ok _=>
     simp only[okB];cases ask (decide ((x.c.b:Int)<=1)) 2 with
     |error e=>rfl
     |ok _=>
      simp only[okB];cases ask (x.s.T.ar x.c.r) 4 with
      |error e=>rfl
      |ok _=>
       simp only[okB];cases ch (ck x.s.K x.c.s).2<;>rfl
  rw[e1];generalize lD x.s.K ⟨x.c.r,x.aa,x.c.a,decide ((x.c.b:Int)=1),x.c.s⟩=g at*;generalize bu x.s.O x.s.T x.c.r=w at*;generalize ck x.s.K x.c.s=tg at*;simp only[j7]at k;by_cases m:x.c.s=0
  ·have c:decide ((x.c.s:Int)=0)=true:=aec (by omega);have e3: (x.c.s=0)=True:=aAY m;simp only[e3,afK];by_cases f:w.kind=1
   ·have a:decide ((w.kind:Int)=1)=true:=aec (by omega);have r:decide (w.aa=x.aa)=decide ((w.aa:Int)=x.aa):=afB.2 (by omega);have J:=A.aa;simp only[f,r,decide_true,al0];simp(disch:=omega) only[F1,go_sem,simprocAttr,zp,h,ho.g,ho.s,↓CL,CS,l,y,d,v,c,k,a,u,o,t,qd,ek,en,EP,jF,OL h];clear m c e3 f a r
    (repeat' (first| (refine⟨?_,?_⟩)|intro _))<;>(simp only[okB,dk, *];first|exact bg.err ho|exact bg.mQ|exact bg.set rfl rfl)
   ·have a:decide ((w.kind:Int)=1)=false:=adO (by omega);have i:decide (w.kind=1)=false:=adO f;simp only[i,ag4];simp(disch:=omega) only[F1,go_sem,simprocAttr,zp,h,ho.g,ho.s,↓CL,CS,l,y,d,v,c,k,a,u,o,t,qd,ek,en,EP,jF,OL h];clear m c e3 f a i
    (repeat' (first| (refine⟨?_,?_⟩)|intro _))<;>(simp only[okB,dk, *];first|exact bg.err ho|exact bg.mQ|exact bg.set rfl rfl)
  ·have c:decide ((x.c.s:Int)=0)=false:=adO (by omega);have e3: (x.c.s=0)=False:=az0 m;simp only[e3,aha];simp only[gh]at j;have K:=z.to;have n:=λH=>iB tg.2 H
   by_cases f:tg.1.to=x.aa
   ·have a:decide ((tg.1.to:Int)=x.aa)=true:=aec (by omega);have r:decide (tg.1.aJ=x.c.r)=decide ((tg.1.aJ:Int)=x.c.r):=afB.2 (by omega);have i:decide (tg.1.to=x.aa)=true:=aec f;simp only[i,r,al0];simp(disch:=omega) only[F1,go_sem,simprocAttr,zp,h,ho.g,ho.s,↓CL,CS,l,y,d,v,c,j,n,a,u,o,t,qd,ek,en,EP,jF,OL h];clear m c e3 f a i r
    (repeat' (first| (refine⟨?_,?_⟩)|intro _))<;>(simp only[okB,dk, *];first|exact bg.err ho|exact bg.mQ|exact bg.set rfl rfl)
   ·have a:decide ((tg.1.to:Int)=x.aa)=false:=adO (by omega);have i:decide (tg.1.to=x.aa)=false:=adO f;simp only[i,ag4];simp(disch:=omega) only[F1,go_sem,simprocAttr,zp,h,ho.g,ho.s,↓CL,CS,l,y,d,v,c,j,n,a,u,o,t,qd,ek,en,EP,jF,OL h];clear m c e3 f a i
    (repeat' (first| (refine⟨?_,?_⟩)|intro _))<;>(simp only[okB,dk, *];first|exact bg.err ho|exact bg.mQ|exact bg.set rfl rfl)
 ·rw[xM G]at l;simp(disch:=omega) only[F1,go_sem,simprocAttr,zp,h,ho.g,↓CL,l,ez,EP];simp only[pU,dk,xM G];exact bg.err ho
end
section
variable{x:ay}{bk:AV}{p:Nat}{H:List ae}{lo:oN}(ho:Old p H (.box (ba x bk) none))(hx:mP x)
include ho hx
theorem auI: ∃E,D XA (.fn (.func 238) [] []) [.ptr p 0] ⟨H,lo⟩=some E/\bg x.back bk p H lo (mJ x) E:=by
 refine cN zq λN f=>?_
 have G:=hx.t;have l:=λB lo=>LG (ho.app B) lo x.c.a
 by_cases u:x.c.a<8
 ·have w: (x.c.a:Int)<8:=by omega
  have v:784+x.c.a*19<=945:=by omega
  have t:=λ (y:ay) bk=> @Ly y bk x.c.a u
  have d:=λ (y:ay) bk b=> @Lz y bk x.c.a b u
  have z: ∀b H lo,D XA (.fn (.func 116) [] []) [.bool b,.int .i64 2] ⟨H,lo⟩=_:=λb=>lL b 2
  have i:decide (x.c.b<=1)=decide ((x.c.b:Int)<=1):=afB.2 (by omega);have g:x.aa % 256=x.aa:=al2 (by omega);have F:=hx.c.v;by_cases h:x.c.r=0
  ·have a:decide ((x.c.r:Int)=0)=true:=aec (by omega);have j: (x.c.r≠0)=False:=az0 λq=>q h
   have es: (decide (x.c.r≠0)&&decide (x.c.b=1))=false:=by rw[adO (by simpa using h)];rfl
   have e:=λH lo=>lx (To (x.s.bp x.c.a) (hx.s.bx _) ⟨x.aa,x.c.v,x.c.r,false⟩ H lo)
   simp only[oG]at e;have m:=λH=>iB (iw (x.s.bp x.c.a) ⟨x.aa,x.c.v,x.c.r,false⟩).2 H
   simp(disch:=omega) only[F1,go_sem,simprocAttr,zq,f,ho.g,ho.s,↓CL,CS,l,z,a,w,v,↓t,d,e,m,MB,ek,en,EP,OL f];simp only[mJ,es,afp,aha,i,g];simp only[j,aha];clear h a j es i g
   (repeat' (first| (refine⟨?_,?_⟩)|intro _))<;>(simp only[ij,okB,dk, *];first|exact bg.err ho|exact bg.mQ|exact bg.set rfl rfl)
  ·have a:decide ((x.c.r:Int)=0)=false:=adO (by omega);have j: (x.c.r≠0)=True:=aAY h;by_cases s:x.c.b=1
   ·have c:decide ((x.c.b:Int)=1)=true:=aec (by omega);have es: (decide (x.c.r≠0)&&decide (x.c.b=1))=true:=by rw[aec (by simpa using h),aec s];rfl
    have r:=λH lo=>lx (ahu x.s.O hx.s.O x.s.T hx.s.T hx.s.tr x.c.r hx.c.r x.c.a (by omega) H lo)
    have e:=λH lo=>lx (To (x.s.bp x.c.a) (hx.s.bx _) ⟨x.aa,x.c.v,x.c.r,true⟩ H lo)
    simp only[oG]at e;have m:=λH=>iB (iw (x.s.bp x.c.a) ⟨x.aa,x.c.v,x.c.r,true⟩).2 H
    by_cases k: (c7 x.s.O x.s.T x.c.r x.c.a true).2.2=0
    ·have k':decide (((c7 x.s.O x.s.T x.c.r x.c.a true).2.2:Int)=0)=true:=aec (by omega);simp(disch:=omega) only[F1,go_sem,simprocAttr,zq,f,ho.g,ho.s,ho.g2,ho.s2,↓CL,CS,l,z,a,c,λB lo=>FW (ho.app B) lo hx.s hx.t x.c.r hx.c.r,r,k',w,v,↓t,d,e,m,MB,gV,LK,ek,en,EP,OL f];simp only[mJ,es,afK,i,g,vC];have n: ((c7 x.s.O x.s.T x.c.r x.c.a true).2.2=0)=True:=aAY k;simp only[n,afK];clear h a j es i g k k' n s c
     (repeat' (first| (refine⟨?_,?_⟩)|intro _))<;>(simp only[LK,ij,okB,dk, *];first|exact bg.err ho|exact bg.mQ|exact bg.set rfl rfl)
    ·have k':decide (((c7 x.s.O x.s.T x.c.r x.c.a true).2.2:Int)=0)=false:=adO (by omega);simp(disch:=omega) only[F1,go_sem,simprocAttr,zq,f,ho.g,ho.s,↓CL,CS,l,z,a,c,λB lo=>FW (ho.app B) lo hx.s hx.t x.c.r hx.c.r,r,k',w,v,↓t,d,e,m,MB,gV,ek,en,EP,OL f];simp only[mJ,es,afK,i,g,vC];have n: ((c7 x.s.O x.s.T x.c.r x.c.a true).2.2=0)=False:=az0 k;simp only[n,aha];clear h a j es i g k k' n s c
     (repeat' (first| (refine⟨?_,?_⟩)|intro _))<;>(simp only[ij,okB,dk, *];first|exact bg.err ho|exact bg.mQ|exact bg.set rfl rfl)
   ·have c:decide ((x.c.b:Int)=1)=false:=adO (by omega);have es: (decide (x.c.r≠0)&&decide (x.c.b=1))=false:=by rw[adO s,aqb]
    have o:=hx.s.dV.cut x.c.r;have A:=λH lo=>lx (atk x.s.O (iv x.s.T x.c.r).1 o.ok o.tr x.c.r hx.c.r H lo)
    have C:=λH=>iB (vy x.s.O (iv x.s.T x.c.r).1 x.c.r).2 H
    have e:=λH lo=>lx (To (x.s.bp x.c.a) (hx.s.bx _) ⟨x.aa,x.c.v,x.c.r,false⟩ H lo)
    simp only[oG]at e;have m:=λH=>iB (iw (x.s.bp x.c.a) ⟨x.aa,x.c.v,x.c.r,false⟩).2 H
    simp(disch:=omega) only[F1,go_sem,simprocAttr,zq,f,ho.g,ho.s,ho.g2,ho.s2,↓CL,CS,l,z,a,c,M2 ho hx x.c.r hx.c.r,λB lo=>Tz (ho.app B) lo hx.s x.c.r hx.c.r,A,C,w,v,↓t,d,e,m,MB,gV,LK,vS,ek,en,EP,OL f];simp only[mJ,es,afp,aha,i,g];simp only[j,afK];clear h a j es i g s c
    (repeat' (first| (refine⟨?_,?_⟩)|intro _))<;>(simp only[sY,vS,LK,ij,okB,dk, *];first|exact bg.err ho|exact bg.mQ|exact bg.set rfl rfl)
 ·rw[xM u]at l;simp(disch:=omega) only[F1,go_sem,simprocAttr,zq,f,ho.g,↓CL,l,ez,EP];simp only[mJ,dk,xM u];exact bg.err ho
end
theorem TB{r:cP}{l:List aD}:aO (bM r) 2 [eu l,.int .i64 n]=bM {r with runs:=l,len:=n}:=rfl
def aiB(l:List aD)(r:aD):aM (l++[r])=aM l+r.2:=by unfold aM;simp
def Cp{l:List aD}{s:Nat}(h:gB l n s a=some k):k+s<=aM l*32:=by
 unfold gB at h
 grind
section
variable{x:ay}{bk:AV}{p:Nat}{H:List ae}{lo:oN}(ho:Old p H (.box (ba x bk) none))(hx:mP x)
include ho hx
theorem auJ: ∃cr,D XA (.fn (.func 226) [] []) [.ptr p 0] ⟨H,lo⟩=some cr/\bg x.back bk p H lo (jh x) cr:=by
 refine cN zo λN G=>?_
 have ht:=hx.t;have o: ((min x.c.a 129:Nat):Int)=min (x.c.a:Int) 129:=by omega
 have m: ((min x.c.b 9:Nat):Int)=min (x.c.b:Int) 9:=by omega
 have u:min x.c.a 129<2147483648:=by omega
 have F:min x.c.b 9<2147483648:=by omega
 have d:=λH lo=>lx (asS (min x.c.a 129) (min x.c.b 9) u F H lo)
 have T: ∀b H lo,D XA (.fn (.func 116) [] []) [.bool b,.int .i64 2] ⟨H,lo⟩=_:=λb=>lL b 2
 have W: ∀b H lo,D XA (.fn (.func 116) [] []) [.bool b,.int .i64 6] ⟨H,lo⟩=_:=λb=>lL b 6
 have E:=M1 ho hx x.c.r hx.c.r;have z:=λB lo=>LH (ho.app B) lo hx.s x.c.r hx.c.r
 have I:=hx.s.T.get x.c.r;have a:=I.rb;have wF:=I.len;have J: ∀l:List aD,(eu l).refs=0:=λl=>dj (mD l) (bH (λ_=>rfl) l)
 have hrp:=I.aM;cases C:l9 (min x.c.a 129) (min x.c.b 9)with
 |none=>
  rw[C]at d;simp only[o,m]at d;simp(disch:=omega) only[F1,go_sem,simprocAttr,zo,G,ho.g,↓CL,d,T,ask,ez,EP];simp only[jh,C,dk];exact bg.err ho
 |some n=>
  have hn5:n<=5:=by
   unfold l9 at C;split at C
   ·cases C;omega
   ·cases C
  have f:=λH lo=>lx (ahi (eu (aG x.s.T x.c.r).1.runs) (aG x.s.T x.c.r).1.len (aG x.s.T x.c.r).1.runs (by omega) (mD _) a.1 (min x.c.a 129) (min x.c.b 9) u F H lo)
  have i:=λH lo=>lx (ahj (eu (aG x.s.T x.c.r).1.runs) (aG x.s.T x.c.r).1.len (aG x.s.T x.c.r).1.runs (by omega) (mD _) a.1 (min x.c.a 129) (min x.c.b 9) u F H lo)
  rw[C]at d;cases O:gB (aG x.s.T x.c.r).1.runs (aG x.s.T x.c.r).1.len (min x.c.a 129) (min x.c.b 9)with
  |some k=>
   have hk:=Cp O;have V:vK (aG x.s.T x.c.r).1.runs (aG x.s.T x.c.r).1.len (min x.c.a 129) (min x.c.b 9)=k+min x.c.a 129:=by unfold vK;rw[O]
   have e:=λB lo=>TA (ho.app B) lo hx.s x.c.r hx.c.r {(aG x.s.T x.c.r).1 with len:=k+min x.c.a 129} a.1 (by have:=a.2;show(aG x.s.T x.c.r).1.runs.length<=65;omega) (by show k+min x.c.a 129<4294967296;omega)
   rw[V,O]at i;simp only[O,xz]at f;generalize hsv:min x.c.a 129=sz at*;generalize hav:min x.c.b 9=al at*;have U:aO (bM (aG x.s.T x.c.r).1) 2 [eu (aG x.s.T x.c.r).1.runs,.int .i64 ((k:Int)+sz)]=bM {(aG x.s.T x.c.r).1 with len:=k+sz}:=by
    rw[<-anF];exact TB
   simp(disch:=omega) only[F1,go_sem,simprocAttr,zo,G,ho.g,ho.s,↓CL,d,T,E,z,f,i,e,U,J,<-o,<-m,jU,ek,en,EP,jF,OL G];have L:=zZ (x:=x) (h:=x.c.r) (w:=1)
   (repeat' (first| (refine⟨?_,?_⟩)|intro _))<;>first
     | (simp only[jh,mI,ij,okB,dk, *];first|exact bg.err ho|exact bg.set rfl rfl)
     | (exfalso;simp_all[ask])
  |none=>
   have A:=λH lo=>lx (Lg (eu (aG x.s.T x.c.r).1.runs) (aG x.s.T x.c.r).1.len (aG x.s.T x.c.r).1.runs (mD _) a.1 H lo)
   have M:=λH lo=>lx (asW (eu (aG x.s.T x.c.r).1.runs) (aG x.s.T x.c.r).1.len (aG x.s.T x.c.r).1.runs (mD _) a.1 x.run H lo)
   have g:RB ((aG x.s.T x.c.r).1.runs++[x.run]):=⟨by have:=a.2;simp;omega,λy hy=>by
    rcases aeg.1 hy with q|q
    ·exact a.1.2 y q
    ·rw[aeh.1 q];exact hx.run⟩
   have S: ((aG x.s.T x.c.r).1.runs++[x.run]).length<=65:=by have:=a.2;simp;omega
   have A4:=aiB (aG x.s.T x.c.r).1.runs x.run;have j:aM (aG x.s.T x.c.r).1.runs*32<4294967296:=by omega
   have R:=λH lo=>lx (ahh (eu ((aG x.s.T x.c.r).1.runs++[x.run])) (aM (aG x.s.T x.c.r).1.runs*32) ((aG x.s.T x.c.r).1.runs++[x.run]) j (mD _) g S H lo)
   have i:=λH lo=>lx (ahj (eu ((aG x.s.T x.c.r).1.runs++[x.run])) (aM (aG x.s.T x.c.r).1.runs*32) ((aG x.s.T x.c.r).1.runs++[x.run]) j (mD _) g (min x.c.a 129) (min x.c.b 9) u F H lo)
   have K:decide (aM (aG x.s.T x.c.r).1.runs+n<=(aG x.s.T x.c.r).1.cZ)=decide (((aM (aG x.s.T x.c.r).1.runs:Nat):Int)+n<=(aG x.s.T x.c.r).1.cZ):=afB.2 (by omega);have t:IntKind.i64.wrap ((aM (aG x.s.T x.c.r).1.runs:Nat)+(n:Int))=(aM (aG x.s.T x.c.r).1.runs:Nat)+(n:Int):=wrap_i64 (by omega) (by omega);simp only[O,xz]at f;cases has:x.asks with
   |true=>
    simp(disch:=omega) only[F1,go_sem,simprocAttr,zo,G,ho.g,ho.s,ho.g2,↓CL,CS,d,T,W,E,z,f,A,t,has,<-o,<-m,jU,ek,en,EP,jF,OL G];have L:=zZ (x:=x) (h:=x.c.r) (w:=1)
    (repeat' (first| (refine⟨?_,?_⟩)|intro _))<;>first
      | (simp only[jh,ij,okB,dk,afK, *];first|exact bg.err ho|exact bg.set rfl rfl)
      | (exfalso;simp_all[ask])
   |false=>
    by_cases Z:x.run.2=n
    ·have r:decide ((x.run.2:Int)=n)=true:=aec (by omega);have Q:vK ((aG x.s.T x.c.r).1.runs++[x.run]) (aM (aG x.s.T x.c.r).1.runs*32) (min x.c.a 129) (min x.c.b 9)<4294967296:=by
      unfold vK;split
      ·rename_i q;have:=Cp q;omega
      ·omega
     have P:IntKind.u64.wrap (((gB ((aG x.s.T x.c.r).1.runs++[x.run]) (aM (aG x.s.T x.c.r).1.runs*32) (min x.c.a 129) (min x.c.b 9)).getD 0:Nat):Int)=((gB ((aG x.s.T x.c.r).1.runs++[x.run]) (aM (aG x.s.T x.c.r).1.runs*32) (min x.c.a 129) (min x.c.b 9)).getD 0:Nat):=by
      cases q:gB ((aG x.s.T x.c.r).1.runs++[x.run]) (aM (aG x.s.T x.c.r).1.runs*32) (min x.c.a 129) (min x.c.b 9)with
      |none=>rfl
      |some k=>have:=Cp q;exact wrap_u64 (by simp) (by simp;omega)
     have e1:jh x=gi x x.c.r 1>>=λ_=>ch (aG x.s.T x.c.r).2>>=λ_=>ask (decide (((aM (aG x.s.T x.c.r).1.runs:Nat):Int)+n<=(aG x.s.T x.c.r).1.cZ)) 6>>=λ_=>ask (pM ((aG x.s.T x.c.r).1.runs++[x.run]) (aM (aG x.s.T x.c.r).1.runs*32)) 2>>=λ_=>
       mI {s:=x.s,aa:=x.aa,c:=x.c,run:=x.run,kO:=n,asks:=false,back:=x.back} x.c.r {(aG x.s.T x.c.r).1 with runs:=(aG x.s.T x.c.r).1.runs++[x.run],len:=vK ((aG x.s.T x.c.r).1.runs++[x.run]) (aM (aG x.s.T x.c.r).1.runs*32) (min x.c.a 129) (min x.c.b 9)}>>=λy=>
       .ok (y,{bD with v:=(gB ((aG x.s.T x.c.r).1.runs++[x.run]) (aM (aG x.s.T x.c.r).1.runs*32) (min x.c.a 129) (min x.c.b 9)).getD 0}):=by
      unfold jh;simp only[C,O,K,has,Z,decide_true,al0,afp,aha,ij,okB];rfl
     have e:=λB lo=>TA (x:={s:=x.s,aa:=x.aa,c:=x.c,run:=x.run,kO:=n,asks:=false,back:=x.back}) (bk:=bk) ((ho.set _).app B) lo hx.s x.c.r hx.c.r
      {(aG x.s.T x.c.r).1 with runs:=(aG x.s.T x.c.r).1.runs++[x.run],len:=vK ((aG x.s.T x.c.r).1.runs++[x.run]) (aM (aG x.s.T x.c.r).1.runs*32) (min x.c.a 129) (min x.c.b 9)} g S Q
     simp(disch:=omega) only[F1,go_sem,simprocAttr,zo,G,ho.g,ho.s,ho.g2,ho.s2,↓CL,CS,d,T,W,E,z,f,A,M,t,has,J,r,R,i,e,P,TB,<-o,<-m,jU,ek,en,EP,jF,OL G];have L:=zZ (x:=x) (h:=x.c.r) (w:=1);rw[e1];clear e Q P r e1 R i M A K t j
     (repeat' (first| (refine⟨?_,?_⟩)|intro _))<;>first
       | (simp only[mI,ij,okB,dk, *];first|exact bg.err ho|exact bg.mQ|exact bg.set rfl rfl)
       | (exfalso;simp_all[ask])
    ·have r:decide ((x.run.2:Int)=n)=false:=adO (by omega);have e1:jh x=gi x x.c.r 1>>=λ_=>ch (aG x.s.T x.c.r).2>>=λ_=>ask (decide (((aM (aG x.s.T x.c.r).1.runs:Nat):Int)+n<=(aG x.s.T x.c.r).1.cZ)) 6>>=λ_=>.error 2:=by
      unfold jh;simp only[C,O,K,has,adO Z,ag4,afp,aha,ij,okB];rfl
     have Y: ∀H lo,D XA (.fn (.func 116) [] []) [.bool false,.int .i64 2] ⟨H,lo⟩=_:=λH lo=>lx (zW 2 H lo)
     have X: ∀H lo,D XA (.fn (.func 116) [] []) [.bool true,.int .i64 2] ⟨H,lo⟩=_:=λH lo=>lx (FR 2 H lo)
     simp(disch:=omega) only[F1,go_sem,simprocAttr,zo,G,ho.g,ho.s,ho.g2,↓CL,CS,d,Y,X,W,E,z,f,A,M,t,has,J,r,TB,<-o,<-m,jU,ek,en,EP,jF,OL G];have L:=zZ (x:=x) (h:=x.c.r) (w:=1);rw[e1]
     (repeat' (first| (refine⟨?_,?_⟩)|intro _))<;>first
       | (simp only[okB,dk, *];first|exact bg.err ho|exact bg.mQ|exact bg.set rfl rfl)
       | (exfalso;simp_all[ask])
end
structure bP(p:Nat)(H H':List ae):Prop where
 len:H.length<=H'.length
 low: ∀i,i<p->H'[i]?=H[i]?
 box: ∀i o,i≠p->(∀a d,o≠ .row a 2 fb d)->H[i]?=some o->H'[i]?=some o
theorem bP.refl(p:Nat)(H:List ae):bP p H H:=⟨aef _,λ_ _=>rfl,λ_ _ _ _ h=>h⟩
theorem bP.trans{A B C:List ae}(h:bP p A B)(g:bP p B C):bP p A C:=
 ⟨ag2 h.len g.len,λi a=>(g.low i a).trans (h.low i a),λi o a ho b=>g.box i o a ho (h.box i o a ho b)⟩
def bP.app(p:Nat)(H L:List ae)(a:p<H.length):bP p H (H++L):=⟨by simp,λi b=>acV (by omega),λi o _ _ h=>bf h⟩
theorem bP.set(p:Nat)(H:List ae)(o:ae):bP p H (H.set p o):=⟨by simp,λi a=>acT (by omega),λi w a _ h=>by grind⟩
theorem bP.take{N:Nat}{A B:List ae}(h:bP p A B)(d:A.length=N)(c:p<N):bP p A (B.take N):=⟨by rw[afC];have:=h.len;omega,λi a=>by rw[afD (by omega)];exact h.low i a,λi o a ho b=>by
 have:=(acW.1 b).1;rw[afD (by omega)];exact h.box i o a ho b⟩
def bP.own{N:Nat}{A B:List ae}{ty:TypeId}{af:List lA}(h:bP p A B)(ho:aT N A v sz ty af)(k:p<N)(j:sz≠2):aT N B v sz ty af:=by
 obtain⟨i,b⟩:=ho;refine⟨i,?_⟩;rcases b with b| ⟨id,aj,g,f,c⟩
 ·grind
 ·exact .inr ⟨id,aj,g,f,h.box id _ (by omega) (λa d e=>by grind) c⟩
def aiC{E:AS}(l:List aD):Den.elems E 2 (eu l)=some (l.map aA):=by
 unfold eu;split
 ·rename_i h;rw[aCi.1 h];rfl
 ·exact aqh (by simp[Sq])
structure At(p:Nat)(x:ay)(bk:AV)(H:List ae):Prop where
 box:H[p]?=some (.box (ba x bk) none)
 own:aT (p+1) H bk 2 fb (x.back.map aA)
def vT(Q:Prop)(p:Nat)(H H':List ae)(lo ak:oN):Prop:=(ak=lo/\H'.length=H.length/\Q)\/ak=cJ lo p
def aiD(l:lN): ∀x:ay,(l.foldl fE x).s.T=x.s.T:=by
 induction l with
 |nil=>simp
 |cons h l a=>intro x;exact a _
def TC(l:lN): ∀x:ay,aW x.s->aW (l.foldl fE x).s:=by
 induction l with
 |nil=>simp
 |cons h l b=>intro x a;exact b _ (a.xL (a.tok.clear h))
def aiE(l:lN): ∀x:ay,bN x.s.T->(l.foldl fE x).back.length<=x.back.length+64*l.length:=by
 induction l with
 |nil=>simp
 |cons h l b=>
  intro x a;have e:=b (fE x h) a;have d: (fE x h).back.length=x.back.length+(aG x.s.T h).1.runs.length:=by simp[fE]
  have c:=(a.get h).rb.2
  grind
def auK{x:ay}{l:lN}{k:Nat}(h:k<l.length): (l.take (k+1)).foldl fE x=fE ((l.take k).foldl fE x) (l.getD k default):=by grind [List.take_add_one,List.getElem?_eq_getElem,getD_eq]
def vU{H:List ae}(a:p<n):finish n lo v ⟨H,some p⟩=(v,⟨H,cJ lo p⟩):=by
 unfold finish;rw[adE (by grind)];rfl
def TD{H:List ae}(K:At p x bk H)(c:aW x.s)(h:Nat)(hh:h<4294967296)(hB:x.back.length+64*(under x.s.T h).length<=4294967296)(lo:oN):
  ∃a H' ak,D XA (.fn (.func 258) [] []) [.ptr p 0,.int .u32 h] ⟨H,lo⟩=some (.ret (.az []) ⟨H',ak⟩)/\At p (ef x h) a H'/\bP p H H'/\vT (a=bk\/a= .av) p H H' lo ak:=by
 suffices c: ∃S,D XA (.fn (.func 258) [] []) [.ptr p 0,.int .u32 h] ⟨H,lo⟩=some S/\ (λS=> ∃a H' ak,S=aV.ret (.az []) ⟨H',ak⟩/\At p (ef x h) a H'/\bP p H H'/\vT (a=bk\/a= .av) p H H' lo ak) S by
  obtain⟨S,h1,a,H',ak,rfl,h2⟩:=c;exact⟨a,H',ak,h1,h2⟩
 refine cN Rb λN X=>?_
 have f:p<N:=by rw[<-X];exact(acW.1 K.box).1
 obtain⟨v,J,lo1,V,Z,u3⟩:=Lc x.s.T c.T c.tr h hh N H X none;have V:=ly V;have hul:=FJ c.tr h;have b:=(kT Z lo1).bY;have hbp:=K.box;obtain⟨W0,m⟩: ∃W0,W0=H++J:=⟨_,rfl⟩;rw[<-m]at V Z b;have w0:W0[p]?=some (.box (ba x bk) none):=by rw[m];exact bf K.box
 have o6:bP p H W0:=by rw[m];exact bP.app p H J (by omega)
 simp only[↓R1,Zz,go_sem,simprocAttr,Rb,hbp,↓CL,V,b];refine ja (under x.s.T h).length (λk e U ak=> ∃a,U[p]?=some (.box (ba (((under x.s.T h).take k).foldl fE x) a) none)/\aT (p+1) U a 2 fb ((((under x.s.T h).take k).foldl fE x).back.map aA)/\bP p H U/\aT N U v 1 bZ ((under x.s.T h).map hC)/\
  ((eF N ak/\aT (p+1) (U.take N) a 2 fb ((((under x.s.T h).take k).foldl fE x).back.map aA)/\ (a=bk\/a= .av))\/ak=some p)/\e 0= .ptr p 0/\e 1= .int .u32 h/\e 15=v/\e 16= .int .i64 (under x.s.T h).length/\e 17= .int .i64 k) 0 (by omega) ?_ ?_
 ·simp only[↓aol,Zz,go_sem,simprocAttr];refine⟨bk,w0,by rw[m];exact K.own.ext,o6,Z,.inl ⟨eF.of u3,?_,.inl rfl⟩⟩;rw[m,aoe X];exact K.own
 rintro k hk e T u ⟨a,E,p1,F,p3,p4,e0,e1,Q,P,O⟩ n hn;have jW:=TC ((under x.s.T h).take k) x c;have d:=aiD ((under x.s.T h).take k) x;have Dt:=aiE ((under x.s.T h).take k) x c.T;rw[afC]at Dt;have OA:= @auK x (under x.s.T h) k;generalize hy: ((under x.s.T h).take k).foldl fE x=y at*;have A:Old p T (.box (ba y a) none):=⟨E⟩;simp only[cb,↓R1,Zz,go_sem,simprocAttr,ae3,E,↓CL,e0,e1,Q,P,O];refine⟨λhc=>?_,λhc=>?_⟩
 ·have B:k< (under x.s.T h).length:=by omega
  have hr:=kT p3 u;have hg:=λH lo=>lx (ua y.s.T (by rw[d];exact c.T) ((under x.s.T h).getD k default) (fV (Ld c.T (fO B))) H lo)
  simp(disch:=omega) only[↓R1,↓MP,Zz,afk,go_sem,simprocAttr,hr.cD,hr.di,↓pH,hn,E,A.g,↓CL,hg,mc,aiC,e0];have wF:=(c.T.get ((under x.s.T h).getD k default)).rb.2;rw[d];generalize hR: (aG x.s.T ((under x.s.T h).getD k default)).1=R at*;refine⟨by omega,?_⟩;obtain⟨v',Y,q1,q2,q3,q4,q5⟩:=aT.acY (bytes:=16) (ys:=R.runs.map aA) (lo:=u) (aT.ext (L:=[ae.box (bM R) none]) p1) (by simp[hn];have:=F.len;omega) (by omega) (by intro el qG;obtain⟨r,_,rfl⟩:=afq.1 qG;rfl) (bH (λ_=>rfl) _) (by
   unfold room;simp only[afm];omega)
  have z:Y[p]?=some (.box (ba y a) none):=by rw[q4 p (by omega)];exact A.g _
  have s:Old p Y (.box (ba y a) none):=⟨z⟩;have mr:=λH lo=>ly (atz y.s.K jW.K ((under x.s.T h).getD k default) H lo)
  have hvt:v'.cp=false/\v'.cells=[v']:=by
   rcases q2.2 with⟨rfl,_⟩| ⟨_,_,_,rfl,_⟩<;>exact⟨rfl,rfl⟩
  rw[q1];simp(disch:=omega) only[↓aol,↓R1,Zz,afl,go_sem,simprocAttr,hvt,z,s.g1,↓CL,CS,mr,e0,e1,Q,P,O];rw[akQ,OA B];have l: (fE y ((under x.s.T h).getD k default)).back.map aA=y.back.map aA++R.runs.map aA:=by
   rw[<-afr];unfold fE;rw[d,hR]
  have f2:bP p (T++[ae.box (bM R) none]) Y:=⟨q3,λi hi=>q4 i (by omega),λi o _ ho hg=>q5 i o ho hg⟩;have f3:=(bP.app p T [ae.box (bM R) none] (by have:=F.len;omega)).trans (f2.trans (bP.set p Y (.box (ba (fE y ((under x.s.T h).getD k default)) v') none)));refine⟨B,v',s.g1 _,?_,F.trans f3,f3.own p3 f (by omega),?_⟩
  ·rw[l];exact aT.nz q2 z
  ·by_cases W:v'.refs<=p+1
   ·rw[adG W];have g:v'= .av/\y.back.map aA++R.runs.map aA=[]:=by
     rcases q2.2 with q| ⟨id,aj,i1,i2,_⟩
     ·exact q
     ·rw[i2]at W;simp only[AV.refs]at W;omega
    rcases p4 with⟨G,_⟩|G
    ·refine .inl ⟨G,?_,.inr g.1⟩;rw[l,g.1,g.2];exact aT.av
    ·exact .inr G
   ·rw[adE W]
    right
    rcases p4 with⟨rfl| ⟨j,hj,rfl⟩,_⟩|rfl
    ·rfl
    ·exact ag3 some (apW (show p<=j by omega))
    ·exact ag3 some (ax7 p)
 ·obtain rfl:k=(under x.s.T h).length:=by omega
  have M:bN y.s.T:=by rw[d];exact c.T
  obtain⟨w,C⟩:=asF y.s.T M (by rw[d];exact c.tr) h hh T u;have C:=ly C;have I:=A.set (.box (ba (y.t (hZ y.s.T h).1) a) none);have e2:ef x h=y.t (hZ y.s.T h).1:=by
   unfold ef;rw[aft]at hy;rw[hy]
  simp only[↓R1,Zz,go_sem,simprocAttr,E,CS,C];rw[e2];rw[auo];have t:=F.trans (bP.set p T (.box (ba (y.t (hZ y.s.T h).1) a) none));rcases p4 with⟨G,l2,l3⟩|rfl
  ·rw[jD G (aee _)];refine⟨a,_,lo,rfl,⟨?_,?_⟩,t.take X f,.inl ⟨rfl,by rw[afC,afw];have:=F.len;omega,l3⟩⟩
   ·rw[afD f];exact I.at'
   ·rw[List.take_set];exact aT.nz l2 (by rw[afD f];exact E)
  ·rw[vU f];exact⟨a,_,_,rfl,⟨I.at',aT.nz p1 E⟩,t,.inr rfl⟩
abbrev z5(p:Nat)(H H':List ae)(lo ak:oN):Prop:=vT True p H H' lo ak
def ui(p:Nat)(H:List ae)(lo:oN):R (ay×bt)->aV->Prop
 |.ok (y,r),a=> ∃b H' ak,a= .ret (.agg (bE r)) ⟨H',ak⟩/\At p y b H'/\bP p H H'/\z5 p H H' lo ak
 |.error e,a=> ∃H' ak,a= .panic (jE e) ⟨H',ak⟩/\bP p H H'/\z5 p H H' lo ak
def bg.c{H:List ae}(ha:At p x bk H){m:R (ay×bt)}{c:aV}(h:bg x.back bk p H lo m c):ui p H lo m c:=by
 cases m with
 |ok a=>
  obtain⟨f,b⟩:=h;have d:=(acW.1 ha.box).1;exact⟨bk,_,lo,b,⟨by grind,by rw[f];exact aT.nz ha.own ha.box⟩,bP.set _ _ _,.inl ⟨rfl,by simp,trivial⟩⟩
 |error e=>
  obtain⟨y,b⟩:=h;exact⟨_,lo,b,bP.set _ _ _,.inl ⟨rfl,by simp,trivial⟩⟩
def ui.err{H:List ae}:ui p H lo (.error e) (.panic (jE e) ⟨H,lo⟩):=⟨H,lo,rfl,bP.refl _ _,.inl ⟨rfl,rfl,trivial⟩⟩
theorem auN{N:Nat}{H B W:List ae}(r:H.length=N)(b:p<N)(l: ∀o∈B,∃cs tg,o=ae.box cs tg)(f:At p y bk W)(k:bP p (H++B) W)(i:W.length=(H++B).length):At p y bk (W.take N):=by
 refine⟨by rw[afD b];exact f.box,f.own.1,?_⟩;rcases f.own.2 with q| ⟨id,aj,n,m,h⟩
 ·grind
 ·by_cases j:id<N
  ·grind
  ·have c:=(acW.1 h).1;rw[i,aeb]at c;have g: (H++B)[id]?=some B[id-N]:=by grind
   obtain⟨cs,tg,ho⟩:=l _ (aqz (show id-N<B.length by omega));rw[ho]at g;have:=k.box id _ (by omega) (λa d e=>by cases e) g
   grind
def TE{N:Nat}{H B W:List ae}(b:bP p (H++B) W)(a:p<H.length):bP p H W:=(bP.app p H B a).trans b
def aiG{N:Nat}{H W:List ae}(e:H.length=N)(d:p<N)(b:bP p H W)(o:ae):bP p H (W.set N o):=
 ⟨by rw[afw];exact b.len,λi a=>by rw[acT (by omega)];exact b.low i a,λi w a hw c=>by
   have:=(acW.1 c).1;rw[acT (by omega)];exact b.box i w a hw c⟩
def z6{N:Nat}{H B W:List ae}{ak:oN}{Q:Prop}(i:H.length=N)(a:p<N)(n: ∀o∈B,∃cs tg,o=ae.box cs tg)(h:At p y bk W)(l:bP p (H++B) W)(d: (ak=none/\ (W.length=(H++B).length\/ (bk= .av/\y.back=[]))/\Q)\/ak=cJ none p)(j:v.refs<=N)
  {cs:lA} {tg:Option TypeId} (g:W[N]?=some (.box cs tg)) (o:ae):
  ∃f b,finish N lo v ⟨W.set N o,ak⟩=(v,⟨f,b⟩)/\At p y bk f/\bP p H f/\vT Q p H f lo b:=by
 have c:=aiG i a (TE (N:=N) l (by omega)) o;rcases d with⟨rfl,d,k⟩|rfl
 ·refine⟨_,lo,jD (.inl rfl) j,?_,c.take i a,.inl ⟨rfl,?_,k⟩⟩
  ·have:At p y bk (W.take N):=by
     rcases d with d| ⟨rfl,m⟩
     ·grind [auN]
     ·exact⟨by rw[afD a];exact h.box,by rw[m];exact aT.av⟩
   have e: (W.set N o).take N=W.take N:=by rw[List.take_set];exact List.set_eq_of_length_le (by grind)
   grind
  grind
 ·refine⟨_,cJ lo p,?_,⟨?_,aT.nz h.own g⟩,c,.inr rfl⟩
  ·have:cJ none p=some p:=rfl;rw[this];exact vU a
  ·rw[acT (by omega)];exact h.box
def LM{N:Nat}{H B W:List ae}{ak:oN}(g:H.length=N)(c:p<N)(h:bP p (H++B) W)(f:ak=none\/ak=cJ none p)(e:v.refs<=N):
  ∃d b,finish N lo v ⟨W,ak⟩=(v,⟨d,b⟩)/\bP p H d/\z5 p H d lo b:=by
 have a:=TE (N:=N) h (by omega);rcases f with rfl|rfl
 ·refine⟨_,lo,jD (.inl rfl) e,a.take g c,.inl ⟨rfl,?_,trivial⟩⟩;rw[afC];have:=a.len;omega
 ·refine⟨_,cJ lo p,?_,a,.inr rfl⟩;exact vU c
def Cq{cs:lA}{tg:Option TypeId}: ∀o∈[ae.box cs tg],∃cs tg,o=ae.box cs tg:=by simp
section
variable{x:ay}{bk:AV}{p:Nat}{H:List ae}(lo:oN)(ha:At p x bk H)(hx:mP x)
include ha hx
theorem auO(j:x.back.length+64*(under x.s.T x.c.r).length<=4294967296): ∃h,D XA (.fn (.func 230) [] []) [.ptr p 0] ⟨H,lo⟩=some h/\ui p H lo (vB x) h:=by
 refine cN QY λN f=>?_
 have ho:Old p H (.box (ba x bk) none):=⟨ha.box⟩;have c:p<N:=by rw[<-f];exact ho.lt
 obtain⟨l,W,ak,g1,g2,g,k⟩:=TD (bk:=bk) (H:=H++[.box [.int .i64 0,.int .u64 0,.int .u32 0] none]) ⟨ho.g _,ha.own.ext⟩ hx.s x.c.r hx.c.r j none;have b:W[N]?=some (.box [.int .i64 0,.int .u64 0,.int .u32 0] none):=g.box N _ (by omega) (λa d e=>by cases e) (by grind);simp only[F1,go_sem,simprocAttr,QY,f,ho.g,↓CL,M2 ho hx x.c.r hx.c.r,g1,b,de b,ek,en,EP];obtain⟨m,i,f1,f2,f3,f4⟩:=z6 (v:=.agg [.int .i64 0,.int .u64 0,.int .u32 0]) (lo:=lo) f c Cq g2 g (k.imp (λq=>⟨q.1,.inl q.2.1,trivial⟩) id) (aee _) b (.box [.int .i64 0,.int .u64 0,.int .u32 0] none);rw[f1]
 (repeat' (first| (refine⟨?_,?_⟩)|intro _))
 ·simp only[vB,ij,okB, *];exact⟨_,_,_,rfl,f2,f3,f4⟩
 ·simp only[vB,dk, *];exact .err
theorem auP(hB:x.back.length<=4294967296): ∃S,D XA (.fn (.func 229) [] []) [.ptr p 0] ⟨H,lo⟩=some S/\ui p H lo (sZ x) S:=by
 refine cN QX λN k=>?_
 have ho:Old p H (.box (ba x bk) none):=⟨ha.box⟩;have m:p<N:=by rw[<-k];exact ho.lt
 have G:=λB lo=>LH (ho.app B) lo hx.s x.c.r hx.c.r
 have F:=(hx.s.T.get x.c.r);have Y:=zZ (x:=x) (h:=x.c.r) (w:=1);have e0:sZ x=gi x x.c.r 1>>=λ_=>ch (aG x.s.T x.c.r).2>>=λ_=>mI {x with back:=x.back++(aG x.s.T x.c.r).1.runs} x.c.r {cU with up:=0,cZ:=(aG x.s.T x.c.r).1.cZ}>>=λy=>.ok (y,bD):=rfl
 rw[e0];generalize hR: (aG x.s.T x.c.r).1=R at*;obtain⟨v',c,V,z,U,P,u⟩:=aT.acY (bytes:=16) (ys:=R.runs.map aA) (lo:=none) (aT.ext (L:=[ae.box [.int .i64 0,.int .u64 0,.int .u32 0] none,.box (bM R) none]) ha.own) (by simp[k];omega) (by omega) (by intro el J;obtain⟨r,_,rfl⟩:=afq.1 J;rfl) (bH (λ_=>rfl) _) (by
  have:=F.rb.2;unfold room;simp only[afm];omega)
 have C:v'.cp=false/\v'.cells=[v']:=by
  rcases z.2 with⟨rfl,_⟩| ⟨_,_,_,rfl,_⟩<;>exact⟨rfl,rfl⟩
 have j:c[p]?=some (.box (ba x bk) none):=by rw[P p (by omega)];exact ho.g _
 have b:Old p c (.box (ba x bk) none):=⟨j⟩;have w0:c[N]?=some (.box [.int .i64 0,.int .u64 0,.int .u32 0] none):=u N _ (λa d e=>by cases e) (by rw[dI k];rfl);have w1:c[N+1]?=some (.box (bM R) none):=u (N+1) _ (λa d e=>by cases e) (by rw[bF k];rfl);have n:=b.set (.box (ba {x with back:=x.back++R.runs} v') none);have f:=λlo=>TA (x:={x with back:=x.back++R.runs}) (bk:=v') n lo hx.s x.c.r hx.c.r {cU with up:=0,cZ:=R.cZ} ⟨by simp[cU],by simp[cU]⟩ (by simp[cU]) (by simp[cU])
 have K:ba {x with back:=x.back++R.runs} v'=ba x v':=rfl;rw[K]at f;have M:N<c.length:=(acW.1 w0).1;have E: ∀A B o,(((c.set p A).set p B).set N o)[N]?=some o:=λA B o=>aed (by simp only[afw];exact M)
 have I:p≠N:=by omega
 have X:p≠N+1:=by omega
 simp(disch:=omega) only[F1,go_sem,simprocAttr,QX,k,ho.g,↓CL,CS,M1 ho hx x.c.r hx.c.r,G,jU,aiC,V,C,j,w0,w1,b.g1,E,f,agD,ek,en,EP,jF];have s: (if v'.refs<=p+1 then none else cJ none p)=none/\ (v'= .av/\x.back++R.runs=[])\/ (if v'.refs<=p+1 then none else cJ none p)=cJ none p:=by
  by_cases t:v'.refs<=p+1
  ·rw[adG t];refine .inl ⟨rfl,?_⟩;rcases z.2 with⟨T,O⟩| ⟨id,aj,i1,i2,_⟩
   ·refine⟨T,?_⟩;rw[<-afr]at O;exact ap3.1 O
   ·rw[i2]at t;simp only[AV.refs]at t;omega
  ·rw[adE t];exact .inr rfl
 have f0:bP p (H++[ae.box [.int .i64 0,.int .u64 0,.int .u32 0] none,.box (bM R) none]) c:=⟨U,λi hi=>P i (by omega),λi o _ ho Z=>u i o ho Z⟩;have f1:=f0.trans (bP.set p c (.box (ba x v') none));generalize Q: (if v'.refs<=p+1 then none else cJ none p)=ak at*
 (repeat' (first| (refine⟨?_,?_⟩)|intro _))
 ·rename_i g l m3;have hA:At p (({x with back:=x.back++R.runs}:ay).t (ew x.s.T x.c.r {cU with up:=0,cZ:=R.cZ}).1) v' ((c.set p (.box (ba x v') none)).set p (.box (ba (({x with back:=x.back++R.runs}:ay).t (ew x.s.T x.c.r {cU with up:=0,cZ:=R.cZ}).1) v') none)):=
   ⟨by rw[akQ];exact b.g1 _,by rw[akQ];show aT _ _ _ _ _ (List.map aA (x.back++R.runs));rw[afr];exact aT.nz z j⟩
  have f2:=f1.trans (bP.set p (c.set p (.box (ba x v') none)) (.box (ba (({x with back:=x.back++R.runs}:ay).t (ew x.s.T x.c.r {cU with up:=0,cZ:=R.cZ}).1) v') none));obtain⟨H3,W,g1,g2,g3,g4⟩:=z6 (v:=.agg [.int .i64 0,.int .u64 0,.int .u32 0]) (lo:=lo) k m (B:=[ae.box [.int .i64 0,.int .u64 0,.int .u32 0] none,.box (bM R) none]) (by simp) hA f2 (s.imp (λq=>⟨q.1,.inr q.2,trivial⟩) id) (aee _)
   (by rw[akQ,acT I];exact w0) (.box [.int .i64 0,.int .u64 0,.int .u32 0] none)
  rw[g1];simp only[mI,ij,okB,g,l,m3];exact⟨_,_,_,rfl,g2,g3,g4⟩
 ·rename_i g l e m3;obtain⟨E1,l1,e1,e2,e3⟩:=LM (v:=jE e) (lo:=lo) k m f1 (s.imp And.left id) (aee _);rw[e1];simp only[mI,ij,okB,dk,g,l,m3];exact⟨_,_,rfl,e2,e3⟩
 ·rename_i g e l;simp only[okB,dk,g,l];exact .err
 ·rename_i e g;simp only[dk,g];exact .err
end
def auQ{N:Nat}{H B W:List ae}{ak:oN}{Q:Prop}(g:H.length=N)(d:p<N)(i: ∀o∈B,∃cs tg,o=ae.box cs tg)(j:At p y bk W)(h:bP p (H++B) W)(f: (ak=none/\ (W.length=(H++B).length\/ (bk= .av/\y.back=[]))/\Q)\/ak=cJ none p)(e:v.refs<=N)
  {cs:lA} {tg:Option TypeId} (b:W[N]?=some (.box cs tg)):
  ∃c a,finish N lo v ⟨W,ak⟩=(v,⟨c,a⟩)/\At p y bk c/\bP p H c/\vT Q p H c lo a:=by
 have:=z6 (v:=v) (lo:=lo) g d i j h f e b (.box cs tg);rwa[qb b]at this
def auR(bk:AV)(p:Nat)(H:List ae)(lo:oN):R ay->aV->Prop
 |.ok y,b=> ∃a H' ak,b= .ret (.az []) ⟨H',ak⟩/\At p y a H'/\bP p H H'/\vT (a=bk\/a= .av) p H H' lo ak
 |.error e,b=>b= .panic (jE e) ⟨H,lo⟩
section
variable{x:ay}{bk:AV}{p:Nat}{H:List ae}(lo:oN)(ha:At p x bk H)(hs:aW x.s)
include ha hs
theorem aiH(h:Nat)(n:h<4294967296)(aa:Nat)(I:aa<256)(J:x.back.length+64*(under x.s.T h).length<=4294967296):
  ∃A,D XA (.fn (.func 266) [] []) [.ptr p 0,.int .u32 h,.int .i64 aa] ⟨H,lo⟩=some A/\auR bk p H lo (ji x h aa) A:=by
 refine cN Kr λN f=>?_
 have ho:Old p H (.box (ba x bk) none):=⟨ha.box⟩;have k:p<N:=by rw[<-f];exact ho.lt
 have y:=λH lo=>lx (ato x.s.O hs.O x.s.T hs.T hs.tr h n aa I H lo)
 have w:=λH=>iB (c7 x.s.O x.s.T h aa false).2.2 H
 have L:ji x h aa=ch (c7 x.s.O x.s.T h aa false).2.2>>=λ_=>.ok (if(c7 x.s.O x.s.T h aa false).2.1=0 then ef (x.o (c7 x.s.O x.s.T h aa false).1) h else x.o (c7 x.s.O x.s.T h aa false).1):=rfl
 have l:gk (c7 x.s.O x.s.T h aa false).1:=hs.O.held n;rw[L];have i:=ahv hs.O (t:=x.s.T) (r:=h) (aa:=aa) (hold:=false);generalize c7 x.s.O x.s.T h aa false=g at*;have s: ∀v,(H++[ae.box (cQ g.1) none]).set p v=H.set p v++[ae.box (cQ g.1) none]:=λv=>ho.s _ _
 have u:At p (x.o g.1) bk (H.set p (.box (ba (x.o g.1) bk) none)++[ae.box (cQ g.1) none]):=⟨ho.g2 _ _,aT.ext (aT.nz ha.own ha.box)⟩;obtain⟨M,W,ak,g1,g2,z,K⟩:=TD u (hs.qh l) h n J none;have f1:bP p (H++[ae.box (cQ g.1) none]) (H.set p (.box (ba (x.o g.1) bk) none)++[ae.box (cQ g.1) none]):=by rw[<-s];exact bP.set _ _ _
 by_cases j:g.2.1=0
 ·have c:decide ((FQ g.2.1:Int)=0)=true:=aec (by rw[j];rfl);simp only[F1,go_sem,simprocAttr,Kr,f,ho.g,ho.s,↓CL,CS,y,w,c,g1,ek,en,EP,gV];have o:W[N]?=some (.box (cQ g.1) none):=z.box N _ (by omega) (λa d e=>by cases e) (by rw[(OL f).1];rfl);have m: (H.set p (.box (ba (x.o g.1) bk) none)++[ae.box (cQ g.1) none]).length=(H++[ae.box (cQ g.1) none]).length:=by simp
  obtain⟨O,B,G,F,E,C⟩:=auQ (v:=.az []) (lo:=lo) f k Cq g2 (f1.trans z) (K.imp (λq=>⟨q.1,.inl (q.2.1.trans m),q.2.2⟩) id) (aee _) o;rw[G]
  (repeat' (first| (refine⟨?_,?_⟩)|intro _))
  ·rename_i b;simp only[b,okB,adG j];exact⟨_,_,_,rfl,F,E,C⟩
  ·rename_i e b;simp only[b,dk];rfl
 ·have c:decide ((FQ g.2.1:Int)=0)=false:=adO (by
    have:=mt (atn _ i).1 j;omega)
  simp only[F1,go_sem,simprocAttr,Kr,f,ho.g,ho.s,↓CL,CS,y,w,c,ek,en,EP,gV,OL f]
  (repeat' (first| (refine⟨?_,?_⟩)|intro _))
  ·rename_i b;simp only[b,okB,adE j];exact⟨bk,_,lo,rfl,⟨ho.g1 _,aT.nz ha.own ha.box⟩,bP.set _ _ _,.inl ⟨rfl,by simp,.inl rfl⟩⟩
  ·rename_i e b;simp only[b,dk];rfl
end
section
variable{x:ay}{bk:AV}{p:Nat}{H:List ae}(lo:oN)(ha:At p x bk H)(hx:mP x)
include ha hx
theorem auS(l:x.back.length+64*(under x.s.T x.c.r).length<=4294967296): ∃g,D XA (.fn (.func 235) [] []) [.ptr p 0] ⟨H,lo⟩=some g/\ui p H lo (xr x) g:=by
 refine cN Kh λN f=>?_
 have ho:Old p H (.box (ba x bk) none):=⟨ha.box⟩;have h:p<N:=by rw[<-f];exact ho.lt
 have s:=hx.t;obtain⟨g,g1,g2⟩:=aiH (bk:=bk) (H:=H++[.box [.int .i64 0,.int .u64 0,.int .u32 0] none]) none ⟨ho.g _,ha.own.ext⟩ hx.s x.c.r hx.c.r x.aa (by omega) l;have n:xr x=zI x x.c.r>>=λ_=>ji x x.c.r x.aa>>=λy=>.ok (y,bD):=rfl
 rw[n];cases i:ji x x.c.r x.aa with
 |error e=>
  rw[i]at g2;have g2:g=_:=g2;rw[g2]at g1;simp only[F1,go_sem,simprocAttr,Kh,f,ho.g,↓CL,λB lo=>FW (ho.app B) lo hx.s hx.t x.c.r hx.c.r,g1,ek,en,EP,jF]
  (repeat' (first| (refine⟨?_,?_⟩)|intro _))
  ·rename_i b;simp only[b,okB,dk];exact .err
  ·rename_i o b;simp only[b,dk];exact .err
 |ok y=>
  rw[i]at g2;obtain⟨r,W,ak,rfl,g2,j,m⟩:=g2;have c:W[N]?=some (.box [.int .i64 0,.int .u64 0,.int .u32 0] none):=j.box N _ (by omega) (λa d e=>by cases e) (by rw[dI f];rfl);simp only[F1,go_sem,simprocAttr,Kh,f,ho.g,↓CL,λB lo=>FW (ho.app B) lo hx.s hx.t x.c.r hx.c.r,g1,c,de c,ek,en,EP];obtain⟨t,k,f1,f2,f3,f4⟩:=z6 (v:=.agg [.int .i64 0,.int .u64 0,.int .u32 0]) (lo:=lo) f h Cq g2 j (m.imp (λq=>⟨q.1,.inl q.2.1,trivial⟩) id) (aee _) c (.box [.int .i64 0,.int .u64 0,.int .u32 0] none);rw[f1]
  (repeat' (first| (refine⟨?_,?_⟩)|intro _))
  ·rename_i b;simp only[b,okB];exact⟨_,_,_,rfl,f2,f3,f4⟩
  ·rename_i o b;simp only[b,dk];exact .err
end
def auT(d:cg t): ∀ (n x:Nat),dep t x<=n->k∈aU t x-> ∀c∈aU t k,c∈aU t x:=by
 intro n
 induction n with
 |zero=>intro x b a;unfold dep at b;grind
 |succ n e=>
  intro x b a c f;by_cases hu:bq t x=0
  ·rw[pP d,adG hu]at a;cases a
  ·grind [xm,xK]
def FX(d:cg t){x:Nat}: ∀n c,x∈iQ t n c->x=c\/c∈aU t x:=by
 intro n
 induction n with
 |zero=>intro c h;left;simpa[iQ]using h
 |succ n e=>
  intro c h;rcases afJ.1 h with h|h
  ·omega
  ·right
   obtain⟨k,f,a⟩:=aop.1 h;obtain⟨g1,g2,_⟩:=KV f;have b:c∈aU t k:=by rw[xK d (x:=k) (by rw[g2];exact Fw g1),g2];grind
   rcases e k a with rfl|a
   ·omega
   ·exact auT d _ x (aef _) a c b
def auU(f:cg t): ∀ (n x a b:Nat),dep t x<=n->a∈x::aU t x->b∈x::aU t x->dep t a=dep t b->a=b:=by
 intro n
 induction n with
 |zero=>
  intro x a b g d e _;unfold dep at g
  grind
 |succ n i=>
  intro x a b g d e he;have lt: ∀c∈aU t x,dep t c<dep t x:=λc h=>FU f _ x (aef _) h
  rcases afJ.1 d with rfl|d
  ·grind
  ·rcases afJ.1 e with rfl|e
   ·grind
   ·by_cases hu:bq t x=0
    ·rw[pP f,adG hu]at d;cases d
    ·have j:=xm f hu;rw[xK f hu]at d e
     grind
def TF(b:cG): (bc b).Nodup:=by
 refine List.Pairwise.map _ (λi j c=>?_) (ar1 (S:=λi j=>i<32/\j<32/\i≠j) (λe d a=>⟨?_,?_,a⟩) (aB7.filter _))
 ·unfold da;omega
 ·grind
 grind
def auV(t:au)(h:Nat): (kids t h).Nodup:=by
 unfold kids;split
 ·exact(TF _).filter _
 grind
def aiI(a:cg t): ∀n h,(iQ t n h).Nodup:=by
 intro n
 induction n with
 |zero=>simp[iQ]
 |succ n g=>
  intro h;refine aqf.2 ⟨λhm=>?_,?_⟩
  ·obtain⟨k,j,b⟩:=aop.1 hm;have o:=B2 a j;rcases FX a n k b with e|e
   ·grind
   ·have:=FU a _ h (aef _) e;omega
  ·refine List.pairwise_flatMap.2 ⟨λk _=>g k,ar1 (λr p d x b y i e=>?_) (auV t h)⟩;subst e;have m:=FX a n _ b;have l:=FX a n _ i;have f: ∀c,(x=c\/c∈aU t x)->c∈x::aU t x:=λc q=>q.elim (λe=>by grind) (afv _)
   exact d (auU a _ x _ _ (aef _) (f _ m) (f _ l) (by grind [B2]))
def TG(a:cg t)(h:Nat): (under t h).Nodup:=by
 unfold under;split
 ·exact aiI a 32 h
 grind
theorem TH: ∀ (l m:lN),l.Nodup->(∀z∈l,z∈m)->l.length<=m.length
 | [],_,_,_=>aee _
 |a::l,m,c,h=>by
  obtain⟨e,d⟩:=aqf.1 c;have:=TH l (m.erase a) d λz b=>(List.mem_erase_of_ne λq=>by grind).2 (h z (afv _ b))
  grind
def TI{b:cG}{y z:Nat}(c:ar b z=true)(d:ar b y=true)(a:z≠y):ar (dy b y).1 z=true:=by
 obtain⟨j,e,f⟩:=lE.1 c;unfold dy;rw[adG d];refine lE.2 ⟨j,e,?_⟩;show ao b (aI y) _ j=_;rw[bT λq=>a (zY c d (by rw[zE e];exact q))];exact f
def auW{b:cG}(g:fL b){y:Nat}(c:ar b y=true): (bc (dy b y).1).length+1<=(bc b).length:=by
 have d:=TF (dy b y).1;have i:y∉bc (dy b y).1:=λhm=>by
  have f:=(ia (Fy g y)).1 hm;obtain⟨j,e,a⟩:=lE.1 f;unfold dy at a;rw[adG c]at a;have a:ao b (aI y) (nj (b (aI y))) j=_:=a;rw[zE e,bS]at a;unfold nj at a
  grind
 have h: ∀z∈y::bc (dy b y).1,z∈bc b:=λz k=>by grind [ia,LD,Fy]
 have:=TH _ _ (aqf.2 ⟨i,d⟩) h;omega
theorem aiJ: ∀ (l:lN) (t:au),fL t.b->l.Nodup->(∀z∈l,t.ar z=true)->(bc (fW t l).b).length+l.length<=(bc t.b).length
 | [],t,_,_,_=>by simp[fW]
 |y::l,t,d,h,c=>by
  have a:ar t.b y=true:=c y (afG ..);have e: (fu t y).1={b:=(dy t.b y).1,r:=ao t.r (aI y) cU}:=by
   unfold fu;grind
  have f: (fu t y).1.b=(dy t.b y).1:=by rw[e]
  have i:=aiJ l (fu t y).1 (by rw[f];exact Fy d y) (aqf.1 h).2 λz g=>by
   show ar (fu t y).1.b z=true;rw[f];exact TI (c z (afv _ g)) a λq=>by grind
  have j:=auW d a;have k:fW t (y::l)=fW (fu t y).1 l:=rfl
  grind
def auX(h:eh t)(a:Nat): (under t a).length<=(bc t.b).length:=
 TH _ _ (TG h.tr a) λz b=>(ia h.ok.b).2 (Ld h.ok b)
def auY(h:eh t)(a:Nat): (bc (hZ t a).1.b).length+(under t a).length<=(bc t.b).length:=by
 unfold hZ;split
 ·grind
 ·exact aiJ (under t a) t h.ok.b (TG h.tr a) λz b=>Ld h.ok b
def fx(x:ay):Nat:=x.back.length+64*(bc x.s.T.b).length
def TJ(a:aW x.s)(h:Nat):fx (ef x h)<=fx x:=by
 have d:=aiE (under x.s.T h) x a.T;have c:=aiD (under x.s.T h) x;have b:=auY a.dV h;have e1: (ef x h).back=((under x.s.T h).foldl fE x).back:=rfl;have e: (ef x h).s.T=(hZ ((under x.s.T h).foldl fE x).s.T h).1:=rfl;unfold fx
 grind
def TL(a:aW x.s)(h:Nat):x.back.length+64*(under x.s.T h).length<=fx x:=by
 have:=auX a.dV h;unfold fx;omega
def FY(b:aW x.s)(h:Nat):aW (ef x h).s:=by
 have a:=TC (under x.s.T h) x b;exact a.uh (a.dV.auk h)
structure LI(bk:AV)(p N:Nat)(H:List ae)(y:ay)(nD:AV)(W:List ae)(lo:oN):Prop where
 at':At p y nD W
 fr:bP p H W
 ok:aW y.s
 fx:fx y<=2048
 lo: (eF N lo/\ (nD=bk\/nD= .av))\/lo=some p
section
variable{bk:AV}{p N:Nat}{H:List ae}{y:ay}{nD:AV}{W:List ae}{ny:oN}(oI:p<N)(h:LI bk p N H y nD W ny)
include h
theorem LI.dU:Old p W (.box (ba y nD) none):=⟨h.at'.box⟩
theorem LI.app(L:List ae):LI bk p N H y nD (W++L) ny:=⟨⟨bf h.at'.box,h.at'.own.ext⟩,h.fr.trans (bP.app p W L (acW.1 h.at'.box).1),h.ok,h.fx,h.lo⟩
theorem LI.set{z:ay}(a:aW z.s)(b:z.back=y.back)(c: (bc z.s.T.b).length<=(bc y.s.T.b).length):LI bk p N H z nD (W.set p (.box (ba z nD) none)) ny:=
 ⟨⟨by rw[aed h.dU.lt],by rw[b];exact aT.nz h.at'.own h.at'.box⟩,h.fr.trans (bP.set _ _ _),a,by have:=h.fx;unfold Go.Proofs.YteplichagkpciaaGreatDoor.fx at*;grind,h.lo⟩
include oI
theorem LI.next{z:ay}{a:AV}{c:List ae}{b:oN}(k:At p z a c)(i:bP p W c)(g:vT (a=nD\/a= .av) p W c ny b)(e:aW z.s)(f:Go.Proofs.YteplichagkpciaaGreatDoor.fx z<=Go.Proofs.YteplichagkpciaaGreatDoor.fx y):LI bk p N H z a c b:=by
 refine⟨k,h.fr.trans i,e,ag2 f h.fx,?_⟩;rcases g with⟨rfl,_,q⟩|rfl
 ·rcases h.lo with⟨d,l⟩|d
  ·grind
  grind
 ·right
  rcases h.lo with⟨rfl| ⟨j,m,rfl⟩,_⟩|rfl
  ·rfl
  ·exact ag3 some (apW (show p<=j by omega))
  ·exact ag3 some (ax7 p)
theorem LI.gone(a:Nat)(f:a<4294967296): ∃c d b,D XA (.fn (.func 258) [] []) [.ptr p 0,.int .u32 a] ⟨W,ny⟩=some (.ret (.az []) ⟨d,b⟩)/\LI bk p N H (ef y a) c d b/\bP p W d:=by
 obtain⟨c,d,b,g1,g2,e,g⟩:=TD h.at' h.ok a f (by have:=TL h.ok a;have:=h.fx;omega) ny;exact⟨c,d,b,g1,h.next oI g2 e g (FY h.ok a) (TJ h.ok a),e⟩
theorem LI.done(k:H.length=N)(i:At p x bk H)(j:v.refs<=N):
  ∃b a,finish N lo v ⟨W,ny⟩=(v,⟨b,a⟩)/\At p y nD b/\bP p H b/\vT (nD=bk\/nD= .av) p H b lo a:=by
 rcases h.lo with⟨f,d⟩|rfl
 ·refine⟨_,lo,jD f j,⟨by rw[afD oI];exact h.at'.box,h.at'.own.1,?_⟩,h.fr.take k oI,.inl ⟨rfl,by rw[afC];have:=h.fr.len;omega,d⟩⟩;rcases h.at'.own.2 with q| ⟨id,aj,s,r,o⟩
  ·grind
  ·rcases d with rfl|rfl
   ·rcases i.own.2 with⟨e,_⟩| ⟨g,c,n,m,l⟩
    ·grind
    grind
   grind
 ·exact⟨_,cJ lo p,vU oI,h.at',h.fr,.inr rfl⟩
theorem LI.err(e:H.length=N)(d:v.refs<=N): ∃b a,finish N lo v ⟨W,ny⟩=(v,⟨b,a⟩)/\bP p H b/\z5 p H b lo a:=by
 rcases h.lo with⟨c,f⟩|rfl
 ·exact⟨_,lo,jD c d,h.fr.take e oI,.inl ⟨rfl,by rw[afC];have:=h.fr.len;omega,trivial⟩⟩
 ·exact⟨_,cJ lo p,vU oI,h.fr,.inr rfl⟩
end
theorem aiK{m:Nat}{I:Nat->Env->List ae->oN->Prop}{Q:bR}{a:Fr}{E:AS}:AX k m I Q (.panic v) a E=Q (.panic v) a E:=rfl
instance:Inhabited fg:=⟨zH⟩
def auZ(bk:AV)(p:Nat)(H:List ae)(lo:oN):R ay->aV->Prop
 |.ok y,b=> ∃a H' ak,b= .ret (.az []) ⟨H',ak⟩/\At p y a H'/\bP p H H'/\vT (a=bk\/a= .av) p H H' lo ak
 |.error e,b=> ∃H' ak,b= .panic (jE e) ⟨H',ak⟩/\bP p H H'/\z5 p H H' lo ak
def uj(y:ay)(m:fg):R ay:=if m.aJ=0\/m.share=true then pure y else if y.s.alive m.fr then kQ y m.aJ m.fr else pure (ef y m.aJ)
def nE(x:ay)(aa:Nat):ay:={x.bx aa rC with s:={(x.bx aa rC).s with alive:=ao (x.bx aa rC).s.alive aa false}}
def LN(y:ay)(aa:Nat):R ay:=
 ((bc y.s.T.b).filter λh=>decide (root y.s.T h=h)&&decide ((bu y.s.O y.s.T h).kind=3)&& (decide (aa<8)&&fU (bu y.s.O y.s.T h).hold aa)).foldlM (λy h=>ji y h aa) y
def TM(y:ay)(aa:Nat):R ay:=do
 let y:=((bc y.s.T.b).filter λh=>decide (root y.s.T h=h)&&decide ((bu y.s.O y.s.T h).kind=1)&&decide ((bu y.s.O y.s.T h).aa=aa)).foldl ef y
 ((bc y.s.T.b).filter λh=>decide (root y.s.T h=h)&&decide ((bu y.s.O y.s.T h).kind=3)&& (decide (aa<8)&&fU (bu y.s.O y.s.T h).hold aa)).foldlM (λy h=>ji y h aa) y
def Cr(y:ay)(aa:Nat):R ay:=do
 let y:=(rA y.s.K aa).foldl (λy h=>y.k (jB y.s.K h).1) y
 let y:=((bc y.s.T.b).filter λh=>decide (root y.s.T h=h)&&decide ((bu y.s.O y.s.T h).kind=1)&&decide ((bu y.s.O y.s.T h).aa=aa)).foldl ef y
 ((bc y.s.T.b).filter λh=>decide (root y.s.T h=h)&&decide ((bu y.s.O y.s.T h).kind=3)&& (decide (aa<8)&&fU (bu y.s.O y.s.T h).hold aa)).foldlM (λy h=>ji y h aa) y
theorem LO(x:ay)(aa:Nat):lG x aa=(du (x.s.bp aa)).foldlM uj (nE x aa)>>=λy=>Cr y aa:=rfl
def foldlM_succ[Inhabited β]{f:α->β->R α}{l:List β}{a:α}(h:k<l.length): (l.take (k+1)).foldlM f a=((l.take k).foldlM f a>>=λy=>f y (l.getD k default)):=by grind [List.take_add_one,List.getElem?_eq_getElem,List.foldlM_append]
def aiL{f:α->β->R α}{l:List β}{a:α}(h: (l.take k).foldlM f a= .error e):l.foldlM f a= .error e:=by
 rw[<-akP k l,List.foldlM_append,h];rfl
def z7(y:ay)(h:Nat):ay:=y.k (jB y.s.K h).1
def foldl_succ{f:α->Nat->α}{l:lN}{a:α}(h:k<l.length): (l.take (k+1)).foldl f a=f ((l.take k).foldl f a) (l.getD k default):=by grind [List.take_add_one,List.getElem?_eq_getElem,getD_eq]
def aiM{z:ay}{h:Nat}(hs:aW y.s)(d:h<4294967296)(b:ji y h aa= .ok z):aW z.s/\fx z<=fx y:=by
 have f:ji y h aa=ch (c7 y.s.O y.s.T h aa false).2.2>>=λ_=>.ok (if(c7 y.s.O y.s.T h aa false).2.1=0 then ef (y.o (c7 y.s.O y.s.T h aa false).1) h else y.o (c7 y.s.O y.s.T h aa false).1):=rfl
 rw[f]at b;have a:aW (y.o (c7 y.s.O y.s.T h aa false).1).s:=hs.qh (hs.O.held d);cases c:ch (c7 y.s.O y.s.T h aa false).2.2 with
 |error e=>rw[c]at b;cases b
 |ok _=>
  rw[c]at b;cases b;split
  ·exact⟨FY a h,TJ a h⟩
  ·exact⟨a,aef _⟩
section
variable{x:ay}{bk:AV}{p:Nat}{H:List ae}(lo:oN)(ha:At p x bk H)(hs:aW x.s)
include ha hs
theorem aiN(aa:Nat)(ht:aa<8)(hp:fx x<=2048):
  ∃cr,D XA (.fn (.func 218) [] []) [.ptr p 0,.int .i64 aa] ⟨H,lo⟩=some cr/\auZ bk p H lo (lG x aa) cr:=by
 refine cN QU λN hN=>?_
 have ho:Old p H (.box (ba x bk) none):=⟨ha.box⟩;have O:p<N:=by rw[<-hN];exact ho.lt
 obtain⟨w,d1,d2,d3⟩:=auc (x.s.bp aa) (hs.bx aa) H none;have d1:=lx d1;have c1: (aa:Int)<8:=by omega
 have c2:784+aa*19<=945:=by omega
 have c3:936+aa<=963:=by omega
 have hb:=λ (y:ay) bk=> @Ly y bk aa ht
 have hsb:=λ (y:ay) bk b=> @Lz y bk aa b ht
 have hsa:=λ (y:ay) bk v=> @aia y bk aa v ht
 have J:=λE=>(show Rd E w 4 ((du (x.s.bp aa)).map eO)from d2 E).bY
 have hbl: (du (x.s.bp aa)).length<=4:=by have:=(hs.bx aa).n;simp[du];omega
 have hml: ∀m∈du (x.s.bp aa),qg m:=λm hm=>by
  obtain⟨i,_,rfl⟩:=afq.1 hm;exact(hs.bx aa).ring _
 rw[LO];generalize hl:du (x.s.bp aa)=l at*;simp only[go_sem,simprocAttr,QU,hN,ho.at',ho.g,ho.s,ho.g2,ho.s2,CS,c1,c2,c3,↓hb,hsb,hsa,d1,J,MB];have FZ:aW (nE x aa).s:=(hs.vR gW.gone).FV;have au0:LI bk p N H (nE x aa) bk (H.set p (.box (ba (nE x aa) bk) none)) none:=LI.set ⟨ha,bP.refl _ _,hs,hp,.inl ⟨.inl rfl,.inl rfl⟩⟩ FZ rfl (aef _);refine ja l.length (λk e W' ak=> ∃y I,(l.take k).foldlM uj (nE x aa)= .ok y/\LI bk p N H y I W' ak/\e 0= .ptr p 0/\e 1= .int .i64 aa/\e 38=w/\e 39= .int .i64 l.length/\e 40= .int .i64 k) 0 (by omega) ?_ ?_
 ·simp only[go_sem,simprocAttr];exact⟨nE x aa,bk,rfl,au0.app _⟩
 rintro k hk e U s ⟨y,A,y1,d,C,B,r,o,j⟩ n hn;simp only[cb,go_sem,simprocAttr,ae2,d.dU.at',↓CL,C,B,r,o,j];refine⟨λW=>?_,λW=>?_⟩
 ·have g:k<l.length:=by omega
  have F:=(show Rd ⟨U,s⟩ w 4 (l.map eO)from d2 _);have c:=foldlM_succ (f:=uj) (a:=nE x aa) g;rw[y1,okB]at c;have hmo:qg (l.getD k default):=by
   exact hml _ (by simp[List.getD,g])
  have TN:=hmo.aJ;have hmf:=hmo.fr;have L2:=d.app [ae.box (eO (l.getD k default)) none];have oY:=d.dU;have o6:=λ (z:ay) bk=> @Tq z bk (l.getD k default).fr hmf
  have c4: ((l.getD k default).fr:Int)<8:=by omega
  have e1:uj y (l.getD k default)=if(l.getD k default).aJ=0\/ (l.getD k default).share=true then .ok y else if y.s.alive (l.getD k default).fr then kQ y (l.getD k default).aJ (l.getD k default).fr else .ok (ef y (l.getD k default).aJ):=rfl
  rw[e1]at c;by_cases h0: (l.getD k default).aJ=0
  ·have S:decide (((l.getD k default).aJ:Int)=0)=true:=aec (by omega);rw[adG (.inl h0)]at c;simp(disch:=omega) only[go_sem,simprocAttr,F.cD,F.di,oG,S,hn,C,B,r,o,j];exact⟨by omega,g,y,A,c,L2⟩
  ·have S:decide (((l.getD k default).aJ:Int)=0)=false:=adO (by omega);cases G: (l.getD k default).share with
   |true=>
    rw[adG (.inr G)]at c;rw[oG,G]at L2;simp(disch:=omega) only[go_sem,simprocAttr,F.cD,F.di,oG,S,G,hn,C,B,r,o,j];exact⟨by omega,g,y,A,c,L2⟩
   |false=>
    rw[adE (by rintro(q|q);exact h0 q;rw[G]at q;cases q)]at c;rw[oG,G]at L2;cases Y:y.s.alive (l.getD k default).fr with
    |false=>
     rw[Y,adE (by simp)]at c;obtain⟨T,W2,Q,g1,g2,Z⟩:=L2.gone O (l.getD k default).aJ TN;simp(disch:=omega) only[go_sem,simprocAttr,F.cD,F.di,oG,S,G,Y,oY.g,c4,↓o6,g1,hn,C,B,r,o,j];exact⟨by omega,g,_,T,c,g2⟩
    |true=>
     rw[Y,adG rfl]at c;have hw:=LJ (ho:=L2.dU) (lo:=s) L2.ok (l.getD k default).aJ TN (l.getD k default).fr (by omega);simp(disch:=omega) only[go_sem,simprocAttr,F.cD,F.di,oG,S,G,Y,oY.g,oY.s,c4,↓o6,hw,aiK,ek,en,EP,hn,C,B,r,o,j];refine⟨by omega,λm1=>⟨g,_,A,?_,(d.set (z:=y.o (ow y.s.O y.s.T (l.getD k default).aJ (l.getD k default).fr).1) (d.ok.qh (d.ok.O.gR TN)) rfl (aef _)).app _⟩,λe' m1=>?_⟩
     ·rw[c];unfold kQ;rw[m1];rfl
     ·obtain⟨H2,Q,g1,g2,Z⟩:=LI.err (v:=jE e') (lo:=lo) O L2 hN (aee _);have c: (l.take (k+1)).foldlM uj (nE x aa)= .error e':=by rw[c];unfold kQ;rw[m1];rfl
      rw[aiL c,dk];rw[g1];exact⟨_,_,rfl,g2,Z⟩
 ·obtain rfl:k=l.length:=by omega
  rw[aft]at y1;rw[y1,okB];clear hsa hsb hb d1 J hml;have aiS:=d.ok;obtain⟨wt,t1,t2,t3⟩:=atu y.s.K aiS.K aa U s;have t1:=ly t1;have TO:=λE=>(show Rd E wt 1 ((rA y.s.K aa).map hC)from t2 E).bY
  simp only[go_sem,simprocAttr,t1,TO];have e1:Cr y aa=TM ((rA y.s.K aa).foldl z7 y) aa:=rfl;rw[e1];have K: (rA y.s.K aa).length<=32:=ag2 (aka _ _) (mG _);generalize AP:rA y.s.K aa=M at*;have u: ∀z∈M,z<4294967296:=λz hz=>by
   rw[<-AP]at hz;exact fV ((ia aiS.K.b).1 (afI.1 hz).1)
  refine ja M.length (λk e W' ak=> ∃I,LI bk p N H ((M.take k).foldl z7 y) I W' ak/\e 0= .ptr p 0/\e 1= .int .i64 aa/\e 80=wt/\e 81= .int .i64 M.length/\e 82= .int .i64 k) 0 (by omega) ?_ ?_
  ·simp only[go_sem,simprocAttr,C,B];exact⟨A,d⟩
  clear d y1 hk C B r o j W t1 d2 d3;rintro k hk e U s ⟨A,d,C,B,r,o,j⟩ n hn;simp only[cb,go_sem,simprocAttr,ae1,d.dU.at',↓CL,C,B,r,o,j];refine⟨λW=>?_,λW=>?_⟩
  ·have g:k<M.length:=by omega
   have F:=(show Rd ⟨U,s⟩ wt 1 (M.map hC)from t2 _);have c:=foldl_succ (f:=z7) (a:=y) g;have P:=u (M.getD k default) (by simp[List.getD,g]);obtain⟨w',L⟩:=ahJ ((M.take k).foldl z7 y).s.K d.ok.K (M.getD k default) P (d.ok.th _) U s;have L:=ly L;simp(disch:=omega) only[go_sem,simprocAttr,F.cD,F.di,↓pH,d.dU.at',↓CL,CS,L,C,B,r,o,j];rw[c];exact⟨by omega,g,A,d.set (z:=z7 ((M.take k).foldl z7 y) (M.getD k default)) (d.ok.xL (d.ok.tok.ret _)) rfl (aef _)⟩
  ·obtain rfl:k=M.length:=by omega
   simp only[aft]at d⊢;clear AP K u TO t2 hk W;generalize M.foldl z7 y=z at*;obtain⟨wr,L,r2,r3⟩:=atM z.s.O d.ok.O z.s.T d.ok.T d.ok.tr aa U s;have L:=ly L;have R:=λE=>(show Rd E wr 1 ((kf z.s.O z.s.T (qf aa)).map hC)from r2 E).bY
   simp only[go_sem,simprocAttr,L,R];have e1:TM z aa=LN ((kf z.s.O z.s.T (qf aa)).foldl ef z) aa:=by
    have: (λh=>decide (root z.s.T h=h)&&decide ((bu z.s.O z.s.T h).kind=1)&&decide ((bu z.s.O z.s.T h).aa=aa))=xF z.s.O z.s.T (qf aa):=by funext h;simp[xF,qf,Bool.and_assoc]
    unfold TM kf LN;rw[this]
   rw[e1];have K: (kf z.s.O z.s.T (qf aa)).length<=32:=ag2 (aka _ _) (mG _);have u: ∀a∈kf z.s.O z.s.T (qf aa),a<4294967296:=λa ha=>fV ((ia d.ok.T.b).1 (afI.1 ha).1)
   generalize kf z.s.O z.s.T (qf aa)=X at*;refine ja X.length (λk e W' ak=> ∃I,LI bk p N H ((X.take k).foldl ef z) I W' ak/\e 0= .ptr p 0/\e 1= .int .i64 aa/\e 117=wr/\e 118= .int .i64 X.length/\e 119= .int .i64 k) 0 (by omega) ?_ ?_
   ·simp only[go_sem,simprocAttr,C,B];exact⟨A,d⟩
   clear d C B r o j L e1 R;rintro k hk e U s ⟨A,d,C,B,r,o,j⟩ n hn;simp only[cb,go_sem,simprocAttr,ae0,d.dU.at',↓CL,C,B,r,o,j];refine⟨λW=>?_,λW=>?_⟩
   ·have g:k<X.length:=by omega
    have F:=(show Rd ⟨U,s⟩ wr 1 (X.map hC)from r2 _);have c:=foldl_succ (f:=ef) (a:=z) g;have P:=u (X.getD k default) (by simp[List.getD,g]);obtain⟨T,W2,Q,g1,g2,Z⟩:=d.gone O (X.getD k default) P;simp(disch:=omega) only[go_sem,simprocAttr,F.cD,F.di,↓pH,g1,C,B,r,o,j];rw[c];exact⟨by omega,g,T,g2⟩
   ·obtain rfl:k=X.length:=by omega
    simp only[aft]at d⊢;clear K u r2 hk W;generalize X.foldl ef z=t at*;obtain⟨wh,L,r2,r3⟩:=atN t.s.O d.ok.O t.s.T d.ok.T d.ok.tr aa (by omega) U s;have L:=ly L;have R:=λE=>(show Rd E wh 1 ((kf t.s.O t.s.T (oF aa)).map hC)from r2 E).bY
    simp only[go_sem,simprocAttr,L,R];have e1:LN t aa=(kf t.s.O t.s.T (oF aa)).foldlM (λy h=>ji y h aa) t:=by
     have: (λh=>decide (root t.s.T h=h)&&decide ((bu t.s.O t.s.T h).kind=3)&& (decide (aa<8)&&fU (bu t.s.O t.s.T h).hold aa))=xF t.s.O t.s.T (oF aa):=by funext h;simp[xF,oF,Bool.and_assoc]
     unfold kf LN;rw[this]
    rw[e1];have K: (kf t.s.O t.s.T (oF aa)).length<=32:=ag2 (aka _ _) (mG _);have u: ∀a∈kf t.s.O t.s.T (oF aa),a<4294967296:=λa ha=>fV ((ia d.ok.T.b).1 (afI.1 ha).1)
    generalize kf t.s.O t.s.T (oF aa)=V at*;refine ja V.length (λk e W' ak=> ∃y I,(V.take k).foldlM (λy h=>ji y h aa) t= .ok y/\LI bk p N H y I W' ak/\e 0= .ptr p 0/\e 1= .int .i64 aa/\e 140=wh/\e 141= .int .i64 V.length/\e 142= .int .i64 k) 0 (by omega) ?_ ?_
    ·simp only[go_sem,simprocAttr,C,B];exact⟨t,A,rfl,d⟩
    clear d C B r o j L e1 R;rintro k hk e U s ⟨y,A,y1,d,C,B,r,o,j⟩ n hn;simp only[cb,go_sem,simprocAttr,aeZ,r,o,j];refine⟨λW=>?_,λW=>?_⟩
    ·have g:k<V.length:=by omega
     have F:=(show Rd ⟨U,s⟩ wh 1 (V.map hC)from r2 _);have c:=foldlM_succ (f:=λy h=>ji y h aa) (a:=t) g;rw[y1,okB]at c;have P:=u (V.getD k default) (by simp[List.getD,g]);obtain⟨cr,g1,g2⟩:=aiH s d.at' d.ok (V.getD k default) P aa (by omega) (by have:=TL d.ok (V.getD k default);have:=d.fx;omega);cases C9:ji y (V.getD k default) aa with
     |ok z3=>
      rw[C9]at g2 c;obtain⟨T,W2,Q,rfl,g2,Z,g4⟩:=g2;have hd:=aiM d.ok P C9;simp(disch:=omega) only[go_sem,simprocAttr,F.cD,F.di,↓pH,g1,C,B,r,o,j];exact⟨by omega,g,z3,T,c,d.next O g2 Z g4 hd.1 hd.2⟩
     |error e'=>
      rw[C9]at g2 c;have g2:cr=_:=g2;rw[g2]at g1;simp(disch:=omega) only[go_sem,simprocAttr,F.cD,F.di,↓pH,g1,aiK,EP,C,B];refine⟨by omega,?_⟩;obtain⟨H2,Q,g1,g2,Z⟩:=LI.err (v:=jE e') (lo:=lo) O d hN (aee _);rw[aiL c,g1];exact⟨_,_,rfl,g2,Z⟩
    ·obtain rfl:k=V.length:=by omega
     rw[aft]at y1;rw[y1];obtain⟨H2,Q,g1,g2,Z,g4⟩:=d.done O (v:=.az []) (lo:=lo) hN ha (aee _);rw[g1];exact⟨_,_,_,rfl,g2,Z,g4⟩
end
section
variable{x:ay}{bk:AV}{p:Nat}{H:List ae}(lo:oN)(ha:At p x bk H)(hx:mP x)
include ha hx
theorem au2(l:fx x<=2048): ∃j,D XA (.fn (.func 243) [] []) [.ptr p 0] ⟨H,lo⟩=some j/\ui p H lo (lG x x.aa>>=λy=>.ok (y,bD)) j:=by
 refine cN Kj λN f=>?_
 have ho:Old p H (.box (ba x bk) none):=⟨ha.box⟩;have c:p<N:=by rw[<-f];exact ho.lt
 obtain⟨j,g1,g2⟩:=aiN (bk:=bk) (H:=H++[.box [.int .i64 0,.int .u64 0,.int .u32 0] none]) none ⟨ho.g _,ha.own.ext⟩ hx.s x.aa hx.t l;cases k:lG x x.aa with
 |error e=>
  rw[k]at g2;obtain⟨W,ak,rfl,g,i⟩:=g2;simp only[go_sem,simprocAttr,Kj,f,ho.g,↓CL,g1,EP];obtain⟨n,h,f1,f2,f3⟩:=LM (v:=jE e) (lo:=lo) f c g (i.imp And.left id) (aee _);rw[f1,dk];exact⟨_,_,rfl,f2,f3⟩
 |ok y=>
  rw[k]at g2;obtain⟨m,W,ak,rfl,g2,g,i⟩:=g2;have b:W[N]?=some (.box [.int .i64 0,.int .u64 0,.int .u32 0] none):=g.box N _ (by omega) (λa d e=>by cases e) (by grind);simp only[go_sem,simprocAttr,Kj,f,ho.g,↓CL,g1,b,de b];obtain⟨n,h,f1,f2,f3,f4⟩:=z6 (v:=.agg [.int .i64 0,.int .u64 0,.int .u32 0]) (lo:=lo) f c Cq g2 g (i.imp (λq=>⟨q.1,.inl q.2.1,trivial⟩) id) (aee _) b (.box [.int .i64 0,.int .u64 0,.int .u32 0] none);rw[f1,okB];exact⟨_,_,_,rfl,f2,f3,f4⟩
theorem au3(o:fx x<=2048): ∃m,D XA (.fn (.func 244) [] []) [.ptr p 0] ⟨H,lo⟩=some m/\ui p H lo (xu x) m:=by
 refine cN E7 λN f=>?_
 have ho:Old p H (.box (ba x bk) none):=⟨ha.box⟩;have g:p<N:=by rw[<-f];exact ho.lt
 have r:xu x=mH x x.c.a>>=λ_=>lG x x.c.a>>=λy=>.ok (y,bD):=rfl
 have h:=λB lo=>LG (ho.app B) lo x.c.a
 rw[r];by_cases k:x.c.a<8
 ·obtain⟨m,g1,g2⟩:=aiN (bk:=bk) (H:=H++[.box [.int .i64 0,.int .u64 0,.int .u32 0] none]) none ⟨ho.g _,ha.own.ext⟩ hx.s x.c.a k o;cases n:lG x x.c.a with
  |error e=>
   rw[n]at g2;obtain⟨W,ak,rfl,i,l⟩:=g2;simp(disch:=omega) only[F1,go_sem,simprocAttr,E7,f,ho.g,↓CL,h,g1,ek,en,EP];obtain⟨u,j,f1,f2,f3⟩:=LM (v:=jE e) (lo:=lo) f g i (l.imp And.left id) (aee _);rw[f1]
   (repeat' (first| (refine⟨?_,?_⟩)|intro _))
   ·rename_i b;rw[b,okB,dk];exact⟨_,_,rfl,f2,f3⟩
   ·rename_i s b;rw[b,dk];exact .err
  |ok y=>
   rw[n]at g2;obtain⟨t,W,ak,rfl,g2,i,l⟩:=g2;have c:W[N]?=some (.box [.int .i64 0,.int .u64 0,.int .u32 0] none):=i.box N _ (by omega) (λa d e=>by cases e) (by rw[dI f];rfl);simp(disch:=omega) only[F1,go_sem,simprocAttr,E7,f,ho.g,↓CL,h,g1,c,de c,ek,en,EP];obtain⟨u,j,f1,f2,f3,f4⟩:=z6 (v:=.agg [.int .i64 0,.int .u64 0,.int .u32 0]) (lo:=lo) f g Cq g2 i (l.imp (λq=>⟨q.1,.inl q.2.1,trivial⟩) id) (aee _) c (.box [.int .i64 0,.int .u64 0,.int .u32 0] none);rw[f1]
   (repeat' (first| (refine⟨?_,?_⟩)|intro _))
   ·rename_i b;rw[b,okB,okB];exact⟨_,_,_,rfl,f2,f3,f4⟩
   ·rename_i s b;rw[b,dk];exact .err
 ·rw[xM k]at h;simp only[F1,go_sem,simprocAttr,E7,f,ho.g,↓CL,h,ez,EP];rw[xM k,dk];exact .err
end
def rP:Nat->oN
 |1=>some 225|2=>some 226|3=>some 227|4=>some 228|5=>some 229
 |6=>some 230|7=>some 231|8=>some 232|9=>some 233|10=>some 234
 |11=>some 235|12=>some 236|13=>some 237|14=>some 238|15=>some 239
 |16=>some 239|17=>some 240|18=>some 241|19=>some 242|20=>some 243
 |21=>some 244|22=>some 245|_=>none
def au4{H:List ae}(lo:oN)(d:At p x bk H)(b:mP x)(j:fx x<=2048){f:Nat}(g:rP x.c.op=some f):
  ∃c,D XA (.fn (.func f) [] []) [.ptr p 0] ⟨H,lo⟩=some c/\ui p H lo (ib x) c:=by
 have ho:Old p H (.box (ba x bk) none):=⟨d.box⟩;have hB: ∀a,x.back.length+64*(under x.s.T a).length<=4294967296:=λa=>by have:=TL b.s a;omega
 have i:x.back.length<=4294967296:=by have:=hB 0;omega
 have ex: ∀ {f:Nat} {m:R (ay×bt)},(∃c,D XA (.fn (.func f) [] []) [.ptr p 0] ⟨H,lo⟩=some c/\bg x.back bk p H lo m c)-> ∃c,D XA (.fn (.func f) [] []) [.ptr p 0] ⟨H,lo⟩=some c/\ui p H lo m c:=λh=>by
  obtain⟨c,l,k⟩:=h;exact⟨c,l,k.c d⟩
 unfold rP at g;unfold ib;split at g<;>(try cases g)<;>(rename_i e;simp only[e])
 ·exact ex (auG ho b)
 ·exact ex (auJ ho b)
 ·exact ex (aus ho b)
 ·exact ex (aut ho b)
 ·exact auP lo d b i
 ·exact auO lo d b (hB _)
 ·exact ex (auD ho b)
 ·exact ex (auw ho b)
 ·exact ex (auE ho b)
 ·exact ex (auy ho b)
 ·exact auS lo d b (hB _)
 ·exact ex (auH ho b)
 ·exact ex (auA ho b)
 ·exact ex (auI ho b)
 ·exact ex (aiz ho b)
 ·exact ex (aiz ho b)
 ·exact ex (auz ho b)
 ·exact ex (auC ho b)
 ·exact ex (auv ho b)
 ·exact au2 lo d b j
 ·exact au3 lo d b j
 ·exact ex (auB ho b)
def au5(h:rP x.c.op=none):ib x= .error 2:=by
 unfold rP at h;unfold ib
 grind
noncomputable def F0:lA->AS->Option aV:=wE XA (D XA) Lw xJ 91 xc
def au6(p:Nat)(H:List ae)(lo:oN):R (ay×bt)->aV->Prop
 |.ok (y,r),a=> ∃b H' ak,a= .ret (.agg (bE r)) ⟨H',ak⟩/\At p y b H'/\bP p H H'/\z5 p H H' lo ak
 |.error e,a=> ∃H' ak,a= .ret (.agg (bE {bD with e:=e})) ⟨H',ak⟩/\bP p H H'/\z5 p H H' lo ak
def au7{K:AS->Prop}{H:List ae}{q:Nat}(h:K ⟨H,lo⟩):qR XA xJ (.fn (.func 115) [] [.ptr q 0]) [] .eZ ⟨H,lo⟩ K:=by
 refine HZ (pr:=xd) rfl rfl λn a=>?_
 simp(disch:=omega) only[F1,go_sem,simprocAttr,xd,aij];exact⟨.inl trivial,.az [],rfl,by trivial⟩
def LP{K:AS->Prop}{H:List ae}{q:Nat}{a b c:AV}(e:Nat)(d:H[q]?=some (.box [a,b,c] none))(h:K ⟨H.set q (.box [.int .i64 e,.int .u64 0,.int .u32 0] none),lo⟩):qR XA xJ (.fn (.func 115) [] [.ptr q 0]) [] (jE e) ⟨H,lo⟩ K:=by
 refine HZ (pr:=xd) rfl rfl λn f=>?_
 simp only[F1,go_sem,simprocAttr,xd,aik,d,ail];refine⟨.inl trivial,.az [],rfl,?_⟩;rw[adG (show(AV.az []).refs<=n from aee _),adP (by grind)];exact h
def aiT{H:List ae}(lo:oN)(J:At p x bk H)(K:aW x.s)(P:gE x.c)(M:x.run.1<4294967296/\x.run.2<4294967296)(T:x.aa<4294967296)(O:fx x<=2048)
  (o: ∀E,jJ XA.gl E .int .dA (.lP uS) (.int .u8 x.c.op) true=some (match rP x.c.op with|some f=>.az [.fn (.func f) [] [],.bool true]|none=>.az [.dA,.bool false])):
  ∃G,F0 [.ptr p 0] ⟨H,lo⟩=some G/\au6 p H lo (gS x) G:=by
 refine OM xc rfl rfl λN g=>?_
 have ho:Old p H (.box (ba x bk) none):=⟨J.box⟩;have m:p<N:=by rw[<-g];exact ho.lt
 have c: ∀b H lo,D XA (.fn (.func 116) [] []) [.bool b,.int .i64 12] ⟨H,lo⟩=_:=λb=>lL b 12
 by_cases w:x.aa<8
 ·have s: (x.aa:Int)<8:=by omega
  have c0: (x.aa:Int)>=0:=by omega
  have hand:dB .and (.int .i64 (x.aa:Nat)) (.int .i64 7)=some (.int .i64 (x.aa:Nat)):=by
   rcases(show x.aa=0\/x.aa=1\/x.aa=2\/x.aa=3\/x.aa=4\/x.aa=5\/x.aa=6\/x.aa=7 by omega)with h|h|h|h|h|h|h|h<;>rw[h]<;>rfl
  have n: ∀E,cq XA E false 1 (.dR uS)=some (.lP uS):=λE=>rfl
  have i:=λbk=> @Tq x bk x.aa w
  cases l:x.s.alive x.aa with
  |false=>
   rw[l]at i;have c: ∀H lo,D XA (.fn (.func 116) [] []) [.bool false,.int .i64 12] ⟨H,lo⟩=_:=λH lo=>lx (zW 12 H lo)
   simp only[go_sem,simprocAttr,xc,g,kz,ky,ho.g,↓CL,s,c0,hand,↓i,c,jF];refine⟨rfl,?_⟩;rw[nX];refine LP 12 (by rw[dI g];rfl) ?_;have u:gS x= .error 12:=by
    have: (decide (x.aa<8)&&x.s.alive x.aa)=false:=by rw[l,aqb]
    unfold gS;rw[this];rfl
   simp(disch:=omega) only[F1,go_sem,simprocAttr];rw[u];exact⟨_,_,rfl,bP.refl _ _,.inl ⟨rfl,rfl,trivial⟩⟩
  |true=>
   rw[l]at i;have c: ∀H lo,D XA (.fn (.func 116) [] []) [.bool true,.int .i64 12] ⟨H,lo⟩=_:=λH lo=>lx (FR 12 H lo)
   have u:gS x=ib x:=by
    have: (decide (x.aa<8)&&x.s.alive x.aa)=true:=by rw[l,aec w];rfl
    unfold gS;rw[this];rfl
   rw[u];cases k:rP x.c.op with
   |none=>
    rw[k]at o;have z: ∀H lo,D XA (.fn (.func 116) [] []) [.bool false,.int .i64 2] ⟨H,lo⟩=_:=λH lo=>lx (zW 2 H lo)
    simp only at o;simp only[go_sem,simprocAttr,xc,g,kz,ky,ho.g,↓CL,s,c0,hand,↓i,c,n,o,z];refine⟨rfl,?_⟩;rw[nX];refine LP 2 (by rw[dI g];rfl) ?_;simp(disch:=omega) only[F1,go_sem,simprocAttr];rw[au5 k];exact⟨_,_,rfl,bP.refl _ _,.inl ⟨rfl,rfl,trivial⟩⟩
   |some f=>
    rw[k]at o;simp only at o;have z: ∀H lo,D XA (.fn (.func 116) [] []) [.bool true,.int .i64 2] ⟨H,lo⟩=_:=λH lo=>lx (FR 2 H lo)
    obtain⟨G,g1,g2⟩:=au4 (bk:=bk) (H:=H++[.box [.int .i64 0,.int .u64 0,.int .u32 0] none]) none ⟨ho.g _,J.own.ext⟩ ⟨K,w,P,M⟩ O k;cases I:ib x with
    |error e=>
     rw[I]at g2;obtain⟨W,ak,rfl,t,F⟩:=g2;have j:W[N]?=some (.box [.int .i64 0,.int .u64 0,.int .u32 0] none):=t.box N _ (by omega) (λa d e=>by cases e) (by rw[dI g];rfl);simp only[go_sem,simprocAttr,xc,g,kz,ky,ho.g,↓CL,s,c0,hand,↓i,c,n,o,z,g1];refine⟨rfl,?_⟩;rw[nX];refine LP e j ?_;simp only[go_sem,simprocAttr,de j];have Q:bP p (H++[]) (W.set N (.box [.int .i64 (e:Nat),.int .u64 0,.int .u32 0] none)):=by
      rw[agT];exact aiG g m (TE (N:=N) t (by omega)) _
     obtain⟨S,A,f1,f2,f3⟩:=LM (v:=.agg [.int .i64 (e:Nat),.int .u64 0,.int .u32 0]) (lo:=lo) g m Q (F.imp And.left id) (aee _);rw[f1];exact⟨_,_,rfl,f2,f3⟩
    |ok a=>
     rw[I]at g2;obtain⟨y,r⟩:=a;obtain⟨R,W,ak,rfl,g2,t,F⟩:=g2;have j:W[N]?=some (.box [.int .i64 0,.int .u64 0,.int .u32 0] none):=t.box N _ (by omega) (λa d e=>by cases e) (by rw[dI g];rfl);simp only[go_sem,simprocAttr,xc,g,kz,ky,ho.g,↓CL,s,c0,hand,↓i,c,n,o,z,g1,j];refine⟨rfl,rfl,?_⟩;rw[DE];refine au7 ?_;have L:List.drop (bE r).length [AV.int .i64 0,.int .u64 0,.int .u32 0]=[]:=rfl;have B:List.take 3 (bE r)=bE r:=rfl;have C: (bE r).length=3:=rfl;simp only[go_sem,simprocAttr,de j,B,C];obtain⟨S,A,f1,f2,f3,f4⟩:=z6 (v:=.agg (bE r)) (lo:=lo) g m Cq g2 t (F.imp (λq=>⟨q.1,.inl q.2.1,trivial⟩) id) (aee _) j (.box (bE r) none);rw[adG (show aL (bE r)<=N+1 from aee _),f1];exact⟨_,_,_,rfl,f2,f3,f4⟩
 ·have s: ¬(x.aa:Int)<8:=by omega
  have c0: (x.aa:Int)>=0:=by omega
  have c: ∀H lo,D XA (.fn (.func 116) [] []) [.bool false,.int .i64 12] ⟨H,lo⟩=_:=λH lo=>lx (zW 12 H lo)
  simp only[go_sem,simprocAttr,xc,g,kz,ky,ho.g,↓CL,s,c0,c,jF];refine⟨rfl,?_⟩;rw[nX];refine LP 12 (by rw[dI g];rfl) ?_;have u:gS x= .error 12:=by
   have: (decide (x.aa<8)&&x.s.alive x.aa)=false:=by rw[adO w];rfl
   unfold gS;rw[this];rfl
  simp(disch:=omega) only[F1,go_sem,simprocAttr];rw[u];exact⟨_,_,rfl,bP.refl _ _,.inl ⟨rfl,rfl,trivial⟩⟩
noncomputable def XB:Ctx:={XA with bW:=λf=>if f=91 then some F0 else XA.bW f}
theorem aiU:Ext XA XB where
 dR:=rfl
 gl:=rfl
 code:=rfl
 bW:=λf=>by
  by_cases a:f=91
  ·subst a;exact .inr ⟨rfl,rfl⟩
  ·left;show(if f=91 then some F0 else XA.bW f)=XA.bW f
   grind
theorem LQ{args:lA}{E:AS}{a:AS}(h:F0 args E=some (.ret v a)):D XB (.fn (.func 91) [] []) args E=some (.ret v a):=DD rfl h
def NE{α:Type}(m:R α):Prop:= ∀e,m= .error e->e≠0/\e<13
theorem NE.ok{a:α}:NE (.ok a:R α):=by intro e h;cases h
theorem NE.pure{a:α}:NE (Pure.pure a:R α):=NE.ok
def NE.err(a:e≠0/\e<13):NE (.error e:R α):=by intro e h;grind
def NE.bind{m:R α}{f:α->R β}(b:NE m)(c: ∀a,NE (f a)):NE (m>>=f):=by
 cases m with
 |error e=>intro e h;cases h;exact b _ rfl
 |ok a=>exact c a
def NE.ask{b:Bool}(a:e≠0/\e<13):NE (ask b e):=by
 unfold Go.Proofs.YteplichagkpciaaGreatDoor.ask;split
 ·exact NE.ok
 ·exact NE.err a
def NE.ch(a:e<13):NE (ch e):=by
 unfold Go.Proofs.YteplichagkpciaaGreatDoor.ch;split
 ·exact NE.ok
 ·exact NE.err ⟨‹_›,a⟩
theorem NE.foldlM{α β:Type}{f:α->β->R α}(h: ∀a b,NE (f a b)): ∀ (l:List β) (a:α),NE (l.foldlM f a)
 | [],_=>NE.ok
 |b::l,a=>NE.bind (h a b) λa=>NE.foldlM h l a
def aiV(h: (n+1).ble 13=true):n<13:=apN h
def au8{h:Nat}: (aG t h).2<13:=by unfold aG;grind
def au9{k:bo}{h:Nat}: (ck k h).2<13:=by unfold ck;grind
def ava{T:au}{O:bI}{K:bo}{b c:Nat}:vA T O K a b c<13:=by unfold vA;grind
def LR{o:bI}{x:Ow}: (eV o t r a x).2<13:=by unfold eV;grind
def aiW{o:bI}{b:Bool}: (c7 o t r a b).2.2<13:=by unfold c7;repeat' (first|simp|exact LR|split)
def avb{o:bI}: (vy o t r).2<13:=LR
def avc{o:bI}: (zD o t r a).2<13:=LR
def avd{h t:Nat}: (vC x h t).2<13:=aiW
def aiX{h:Nat}{r:cP}: (ew t h r).2<13:=by unfold ew;grind
def aiY{h u:Nat}: (jA t h u).2<13:=by unfold jA;grind
def ave{h:Nat}: (iv t h).2<13:=by unfold iv;split;exact aiV rfl;exact aiY
def avf{h u:Nat}: (mF t h u).2<13:=by unfold mF;repeat' (first|exact aiV rfl|exact aiY|split)
def avg{h u:Nat}: (fh t h u).2.2<13:=by unfold fh ka;grind
def avh{k:bo}{x:Tok}: (lD k x).2.2<13:=by unfold lD pN;grind
def avi{x:fg}: (iw b x).2<13:=by unfold iw;grind
def avj: (iz b).2.2<13:=by unfold iz;grind
def avk: (pQ b).2<13:=by unfold pQ;grind
def avl{b c:Nat}{f:Bool}: (lF t a b c f).2<13:=by unfold lF;repeat' (first|simp|exact aiX|split)
def avm{b:Nat}: (sX t a b).2<13:=by unfold sX;grind
def avn{h w:Nat}:NE (gi x h w):=NE.ch ava
def avo{t:Nat}:NE (mH x t):=NE.ask (by decide)
def aiZ{h t:Nat}:NE (kQ x h t):=NE.bind (NE.ch LR) λ_=>NE.ok
def avp{h:Nat}{r:cP}:NE (mI x h r):=NE.bind (NE.ch aiX) λ_=>NE.ok
def avq{h:Nat}:NE (sY x h):=NE.bind (NE.ch ave) λ_=>NE.ok
def avr{h:Nat}:NE (zI x h):=NE.bind (NE.ask (by decide)) λ_=>NE.bind (NE.ask (by decide)) λ_=>NE.ask (by decide)
def ai0{h t:Nat}:NE (ji x h t):=NE.bind (NE.ch aiW) λ_=>NE.ok
def avs{t:Nat}:NE (lG x t):=by
 unfold lG
 repeat with_reducible (first| (refine NE.bind ?_ λ_=>?_)| (refine NE.foldlM (λ_ _=>?_) _ _)|exact aiZ|exact ai0|exact NE.pure|split|rfl)
def avt(x:ay):NE (ib x):=by
 unfold ib;split
 all_goals try(first|unfold pR|unfold jh|unfold pT|unfold sZ|unfold vB|unfold xo|unfold xp|unfold xq|unfold vD|unfold xr|unfold pU|unfold vE|unfold mJ|unfold nu|unfold vF|unfold ox|unfold vG|unfold xu|unfold pV)
 all_goals repeat with_reducible (first| (refine NE.bind ?_ λ_=>?_)|exact NE.pure|exact NE.err (by decide)|exact NE.ask (by decide)|exact avn|exact avo|exact aiZ|exact avp|exact avq|exact avr|exact ai0|exact avs| (refine NE.ch ?_;first|exact au8|exact avg|exact avf|exact avb|exact avc|exact avd|exact au9|exact avh|exact avi|exact avj|exact avk|exact avl|exact avm)|split|dsimp only)
def avu(h:gS x= .error e):e≠0/\e<13:=NE.bind (NE.ask (by decide)) (λ_=>avt x) _ h
def TP(h:gS x= .error e):e≠0:=(avu h).1
def EZ(m:R (ay×bt)):Prop:= ∀a,m= .ok a->a.2.e=0
theorem EZ.ok{a:ay×bt}(h:a.2.e=0):EZ (.ok a):=by intro b c;grind
theorem EZ.pure{a:ay×bt}(h:a.2.e=0):EZ (Pure.pure a:R (ay×bt)):=EZ.ok h
def EZ.err:EZ (.error e):=by intro b a;cases a
def EZ.bind{m:R α}{f:α->R (ay×bt)}(c: ∀a,EZ (f a)):EZ (m>>=f):=by
 cases m with
 |error e=>intro b d;cases d
 |ok a=>exact c a
def avv(x:ay):EZ (ib x):=by
 unfold ib;split
 all_goals try(first|unfold pR|unfold jh|unfold pT|unfold sZ|unfold vB|unfold xo|unfold xp|unfold xq|unfold vD|unfold xr|unfold pU|unfold vE|unfold mJ|unfold nu|unfold vF|unfold ox|unfold vG|unfold xu|unfold pV)
 all_goals repeat with_reducible (first| (refine EZ.bind λ_=>?_)|exact EZ.pure rfl|exact EZ.err|split|dsimp only)
def LS{r:bt}(h:gS x= .ok (y,r)):r.e=0:=(show EZ (gS x)from EZ.bind λ_=>avv x) _ h
theorem F2(s:bm)(aa:Nat)(c:cn)(run:aD):dg s aa c run=match gS ⟨s,aa,c,run,0,false,[]⟩with
  |.ok (y,r)=>(y.s,r,y.back)
  |.error e=>(s,{bD with e:=e},[]):=by
 unfold dg;cases h:gS ⟨s,aa,c,run,0,false,[]⟩with
 |error e=>rfl
 |ok a=>exact adG (LS h)
theorem ai1{t:Nat}:aO (ba x bk) 952 [.int .i64 t]=ba {x with aa:=t} bk:=by rw[Ci (by omega)];rfl
theorem ai2{c:cn}:aO (ba x bk) 953 (bn c)=ba {x with c:=c} bk:=by rw[Ci (by omega)];rfl
theorem ai3{r:aD}:aO (ba x bk) 959 (aA r)=ba {x with run:=r} bk:=by rw[Ci (by omega)];rfl
theorem ai4{s:bm}:bz s++List.drop 952 Ic=ba ⟨s,0,jm,(0,0),0,false,[]⟩ .av:=rfl
def ai5:Ic.length=964:=by decide
def TQ:m2.length=952:=by decide
def ai6:List.drop 952 m2=[]:=ag5 (by rw[TQ];omega)
def LU{s:bm}:List.take 952 (bz s)=bz s:=adP (by rw[eP];omega)
theorem TR{s:bm}:List.drop 952 (bz s)=[]:=by rfl
theorem F3{c:cn}: (bn c).length=6:=rfl
theorem LV{c:cn}:List.take 6 (bn c)=bn c:=rfl
theorem xN{r:bt}:List.take 3 (bE r)=bE r:=rfl
theorem uk{r:bt}: (bE r).length=3:=rfl
def DZ:=gG @ai1<|gG @ai2<|gG @ai3<|gG @ai4<|gG @ai5<|gG @TQ<|gG @ai6<|gG @LU<|gG @TR<|gG @F3<|gG @LV<|gG @xN<|gG @uk<|gG @eP @Lx
def TS(s:bm)(S:aW s)(aa:Nat)(R:aa<4294967296)(c:cn)(V:gE c)(run:aD)(T:run.1<4294967296/\run.2<4294967296)
  (Y: ∀E,jJ XA.gl E .int .dA (.lP uS) (.int .u8 c.op) true=some (match rP c.op with|some f=>.az [.fn (.func f) [] [],.bool true]|none=>.az [.dA,.bool false])) (H:List ae) (lo:oN):
  ∃v,D XB (.fn (.func 54) [] []) [.agg (bz s),.int .i64 aa,.agg (bn c),.agg (aA run)] ⟨H,lo⟩=some (.ret (.az [.agg (bz (dg s aa c run).1),.agg (bE (dg s aa c run).2.1),v]) ⟨H,lo⟩)/\Rv v 2 ((dg s aa c run).2.2.map aA):=by
 suffices j: ∃u,D XB (.fn (.func 54) [] []) [.agg (bz s),.int .i64 aa,.agg (bn c),.agg (aA run)] ⟨H,lo⟩=some u/\ (λu=> ∃v,u=aV.ret (.az [.agg (bz (dg s aa c run).1),.agg (bE (dg s aa c run).2.1),v]) ⟨H,lo⟩/\Rv v 2 ((dg s aa c run).2.2.map aA)) u by
  obtain⟨u,h1,v,rfl,Z⟩:=j;exact⟨v,h1,Z⟩
 refine cN EL λN h=>?_
 obtain⟨x,j⟩: ∃x:ay,x=⟨s,aa,c,run,0,false,[]⟩:=⟨_,rfl⟩;obtain⟨L,b⟩: ∃L:List ae,L=[.box (bz s) none,.box (bn c) none,.box (aA run) none,.box m2 none,.box [.int .i64 0,.int .u64 0,.int .u32 0] none,.box (ba x .av) none]:=⟨_,rfl⟩;have K:At (N+5) x .av (H++L):=⟨by rw[bF h,b];rfl,by rw[j];exact aT.av⟩;obtain⟨u,g1,g2⟩:=aiT (x:=x) none K (by rw[j];exact S) (by rw[j];exact V) (by rw[j];exact T) (by rw[j];exact R) (by rw[j];unfold fx;have:=mG s.T.b;simp;omega) (by rw[j];exact Y);have m:dg s aa c run=match gS x with
  |.ok (y,r)=>if r.e=0 then(y.s,r,y.back)else(s,r,[])
  |.error e=>(s,{bD with e:=e},[]):=by rw[j];rfl
 rw[b,j]at g1;have rest: ∀W:List ae,bP (N+5) (H++L) W-> ∀cs bs A B:lA,(∀i,i<N->(((W++[ae.box cs none]).set (N+3) (ae.box A none)).set (N+4) (ae.box B none))[i]?=H[i]?):=by
  intro W g cs bs A B i hi;have U:=g.len;simp at U;rw[acT (by omega),acT (by omega),acV (by omega),g.low i (by omega),acV (by omega)]
 cases J:gS x with
 |error e=>
  rw[J]at g2 m;obtain⟨W,ak,rfl,g,F⟩:=g2;have g1:=LQ g1;have w0:W[N]?=some (.box (bz s) none):=g.box N _ (by omega) (λa d e=>by cases e) (by rw[dI h,b];rfl);have w1:W[N+3]?=some (.box m2 none):=g.box (N+3) _ (by omega) (λa d e=>by cases e) (by rw[bF h,b];rfl);have G:W[N+4]?=some (.box [.int .i64 0,.int .u64 0,.int .u32 0] none):=g.box (N+4) _ (by omega) (λa d e=>by cases e) (by rw[bF h,b];rfl);have I:=λL=>bf (L:=L) w0
  have p:=λL=>bf (L:=L) w1
  have n:=λL=>bf (L:=L) G
  have z:=λL o=>de (o:=o) (p L)
  have w:=λL o o'=>de (o:=o') ((acT (by omega:N+3≠N+4)).trans (n L): ((W++L).set (N+3) o)[N+4]?=_)
  have he:=TP J;have k: ¬((e:Nat):Int)=0:=by omega
  obtain⟨M,C⟩: ∃M,W.length=M:=⟨_,rfl⟩;have l: (M !=N+3)=true:=by
   have:=g.len;rw[b]at this;simp at this;simp;omega
  simp(disch:=omega) only[go_sem,simprocAttr,EL,h,DZ,g1,C,I,p,n,z,w,k,bE,l,ar2,zX,ou];rw[jD (eF.le (N:=N+5) ?_ (by omega)) ?_]
  ·rw[m];exact⟨_,dx rfl (lJ h (rest W g _ [] _ _)),.av⟩
  ·exact F.elim (λq=>.inl q.1) λq=>.inr ⟨N+5,aef _,q⟩
  ·simp[AV.refs,aL,ou]
 |ok a=>
  obtain⟨y,r⟩:=a;rw[J]at g2 m;obtain⟨nD,W,ak,rfl,g2,g,F⟩:=g2;have m:dg s aa c run=if r.e=0 then(y.s,r,y.back)else(s,r,[]):=m
  have g1:=LQ g1;have w0:W[N]?=some (.box (bz s) none):=g.box N _ (by omega) (λa d e=>by cases e) (by rw[dI h,b];rfl);have w1:W[N+3]?=some (.box m2 none):=g.box (N+3) _ (by omega) (λa d e=>by cases e) (by rw[bF h,b];rfl);have G:W[N+4]?=some (.box [.int .i64 0,.int .u64 0,.int .u32 0] none):=g.box (N+4) _ (by omega) (λa d e=>by cases e) (by rw[bF h,b];rfl);have I:=λL=>bf (L:=L) w0
  have p:=λL=>bf (L:=L) w1
  have n:=λL=>bf (L:=L) G
  have Q:=λL=>bf (L:=L) g2.box
  have z:=λL o=>de (o:=o) (p L)
  have w:=λL o o'=>de (o:=o') ((acT (by omega:N+3≠N+4)).trans (n L): ((W++L).set (N+3) o)[N+4]?=_)
  obtain⟨M,C⟩: ∃M,W.length=M:=⟨_,rfl⟩;have X:N+6<=M:=by
   have:=g.len;rw[b]at this;simp at this;omega
  have l: (M !=N+3)=true:=by simp;omega
  have P: (M !=N+4)=true:=by simp;omega
  by_cases t:r.e=0
  ·rw[adG t]at m;have k: ((r.e:Nat):Int)=0:=by omega
   simp(disch:=omega) only[go_sem,simprocAttr,EL,h,DZ,↓CL,g1,C,p,n,z,w,Q,k,bE,l,ar2,zX,ou];have O:=aT.nz (o:=.box (bE r) none) (aT.nz (o:=.box (bz y.s) none) (aT.ext (L:=[ae.box (bE r) none]) (aT.le g2.own (show N<=N+5+1 by omega))) (p _)) ((acT (by omega:N+3≠N+4)).trans (n _));have er: [AV.int .i64 0,AV.int .u64 (r.v:Nat),AV.int .u32 (r.w:Nat)]=bE r:=by unfold bE;rw[t];rfl
   rw[er];refine⟨by simp,by simp,?_⟩;rw[uR (eF.le (N:=N+5) ?_ (by omega)) (Fz.az (d:=11) (iJ.cons ((Fz.low (d:=0) ?_).mono (by omega)) (iJ.cons ((Fz.low (d:=0) ?_).mono (by omega)) (iJ.cons ((Fz.own (d:=0) O ?_).mono (by omega)) iJ.nil))))]
   ·rw[m];refine⟨_,dx rfl (lJ h (rest W g _ [] _ _)),?_⟩;exact aT.ss O
   ·exact F.elim (λq=>.inl q.1) λq=>.inr ⟨N+5,aef _,q⟩
   ·simp[AV.refs,ou]
   ·exact aee _
   ·rw[bH (λx=>rfl)];exact aee _
  ·rw[adE t]at m;have k: ¬((r.e:Nat):Int)=0:=by omega
   simp(disch:=omega) only[go_sem,simprocAttr,EL,h,DZ,g1,C,I,p,n,z,w,k,bE,l,ar2,zX,ou];rw[jD (eF.le (N:=N+5) ?_ (by omega)) ?_]
   ·rw[m];exact⟨_,dx rfl (lJ h (rest W g _ [] _ _)),.av⟩
   ·exact F.elim (λq=>.inl q.1) λq=>.inr ⟨N+5,aef _,q⟩
   ·simp[AV.refs,aL,ou]
def lz{args:lA}{E:AS}{r:aV}(h:D X0 v args E=some r):D XB v args E=some r:=vJ aiU (lx h)
def lX{args:lA}{E:AS}{r:aV}(h:D X v args E=some r):D XB v args E=some r:=vJ aiU (ly h)
theorem ai7{b:Bool}:aO (ba x bk) 962 [.bool b]=ba {x with asks:=b} bk:=by rw[Ci (by omega)];rfl
theorem ai8{c:cn}: (bn c)[0]?=some (.int .u8 c.op):=rfl
theorem ai9{c:cn}: (bn c)[1]?=some (.int .u32 c.r):=rfl
theorem aja{c:cn}: (bn c)[2]?=some (.int .u32 c.s):=rfl
theorem ajb{c:cn}: (bn c)[3]?=some (.int .u32 c.a):=rfl
theorem ajc{c:cn}: (bn c)[4]?=some (.int .u32 c.b):=rfl
theorem ajd{c:cn}: (bn c)[5]?=some (.int .u64 c.v):=rfl
def gF:=gG @ai8<|gG @ai9<|gG @aja<|gG @ajb<|gG @ajc @ajd
def SL:=gG @KR<|gG @So<|gG @Sp<|gG @Sm @Sn
def TT(s:bm)(t:aW s)(aa:Nat)(p:aa<4294967296)(c:cn)(v:gE c)
  (w: ∀E,jJ XA.gl E .int .dA (.lP uS) (.int .u8 c.op) true=some (match rP c.op with|some f=>.az [.fn (.func f) [] [],.bool true]|none=>.az [.dA,.bool false])) (H:List ae) (lo:oN):
  D XB (.fn (.func 53) [] []) [.agg (bz s),.int .i64 aa,.agg (bn c)] ⟨H,lo⟩=some (.ret (.int .i64 (dO s aa c:Nat)) ⟨H,lo⟩):=by
 refine aH EJ λN j=>?_
 obtain⟨x,b⟩: ∃x:ay,x=⟨s,aa,c,(0,0),0,true,[]⟩:=⟨_,rfl⟩;by_cases z:c.op=2
 ·have l: (c.op:Int)=2:=by omega
  obtain⟨L,m⟩: ∃L:List ae,L=[.box (bz s) none,.box (bn c) none,.box (ba x .av) none]:=⟨_,rfl⟩;have n:At (N+2) x .av (H++L):=⟨by grind,by rw[b];exact aT.av⟩;obtain⟨C,g1,g2⟩:=aiT (x:=x) none n (by rw[b];exact t) (by rw[b];exact v) (by rw[b];exact⟨show 0<4294967296 by omega,show 0<4294967296 by omega⟩) (by rw[b];exact p) (by rw[b];unfold fx;have:=mG s.T.b;simp;omega) (by rw[b];exact w);have k:dO s aa c=match gS x with
   |.ok (y,_)=>y.kO
   |.error e=>0:=by rw[b];unfold dO;rw[adE (by omega)];rfl
  rw[m,b]at g1;have rest: ∀W:List ae,bP (N+2) (H++L) W->W.take N=H:=by
   intro W g;refine lJ j λi B=>?_
   rw[g.low i (by omega),acV (by omega)]
  cases h:gS x with
  |error e=>
   rw[h]at g2 k;obtain⟨W,ak,rfl,g,o⟩:=g2;have g1:=LQ g1;have he:=TP h;have d: ¬((e:Nat):Int)=0:=by omega
   simp only[go_sem,simprocAttr,EJ,j,DZ,gF,ai7,l,g1,bE,d];rw[jD (eF.le (N:=N+2) (o.elim (λq=>.inl q.1) λq=>.inr ⟨N+2,aef _,q⟩) (by omega)) (aee _),k,rest W g];rfl
  |ok a=>
   obtain⟨y,r⟩:=a;rw[h]at g2 k;obtain⟨A,W,ak,rfl,g2,g,o⟩:=g2;have g1:=LQ g1;have u:=LS h;have d: ((r.e:Nat):Int)=0:=by omega
   simp only[go_sem,simprocAttr,EJ,j,DZ,gF,↓CL,ai7,l,g1,bE,d,g2.box];rw[jD (eF.le (N:=N+2) (o.elim (λq=>.inl q.1) λq=>.inr ⟨N+2,aef _,q⟩) (by omega)) (aee _),k,rest W g]
 ·have l: ¬(c.op:Int)=2:=by omega
  simp only[F1,go_sem,simprocAttr,EJ,j,DZ,gF,l];rw[show dO s aa c=0 by unfold dO;rw[adG z]];rfl
def iD(n:Nat):lA:=[.int .i64 n]
def avw(H:List ae)(lo:oN):D X0 (.fn (.func 177) [] []) [.av] ⟨H,lo⟩=some (.ret .av ⟨H,lo⟩):=by
 refine aH E3 λN b=>?_
 have a:gJ 1 .av none (some (.int .i64 0)) (some (.int .i64 0))=some .av:=by rfl
 simp(disch:=omega) only[F1,go_sem,simprocAttr,E3,a]
def avx(id aj n:Nat)(H:List ae)(c:id<H.length)(lo:oN):D X0 (.fn (.func 177) [] []) [.ref id aj 1 0 n false] ⟨H,lo⟩=some (.ret (.ref id aj 1 0 n true) ⟨H,lo⟩):=by
 refine aH E3 λN d=>?_
 have b:gJ 1 (.ref id aj 1 0 n false) none (some (.int .i64 (n:Nat))) (some (.int .i64 (n:Nat)))=some (.ref id aj 1 0 n true):=by simp[gJ,gI,lQ,lR]
 have a: ∀E,gv E .sl (.ref id aj 1 0 n false)=some (.int .i64 n):=λE=>rfl
 simp only[go_sem,simprocAttr,E3,b,a];rw[jD (.inl rfl) (by simp only[AV.refs];omega),adP (by omega)]
def avy(s:bm)(Q:aW s)(c:cn)(l:gE c)(H:List ae)(lo:oN):
  ∃v,D XB (.fn (.func 156) [] []) [.agg (bz s),.agg (bn c)] ⟨H,lo⟩=some (.ret (.az [v,.int .i64 (iR s c).2]) ⟨H,lo⟩)/\Rv v 1 ((iR s c).1.map iD):=by
 suffices W: ∃x,D XB (.fn (.func 156) [] []) [.agg (bz s),.agg (bn c)] ⟨H,lo⟩=some x/\ (λx=> ∃v,x=aV.ret (.az [v,.int .i64 (iR s c).2]) ⟨H,lo⟩/\Rv v 1 ((iR s c).1.map iD)) x by
  obtain⟨x,w,v,rfl,z⟩:=W;exact⟨v,w,z⟩
 refine cN EY λN p=>?_
 have b:=λH lo=>lz (ua s.T Q.T c.r l.r H lo)
 have o:=Q.T.get c.r;simp only[mc]at b;generalize R: (aG s.T c.r).1=r at*;generalize he: (aG s.T c.r).2=e at*;have hb:=l.b;have ha:=l.a;have X:=l.op;have y:=o.len;by_cases Y:e=0
 ·have c0:decide ((e:Int)=0)=true:=aec (by omega);by_cases w: (c.op≠3/\c.op≠4)\/c.b<1\/8<c.b
  ·have f:iR s c=([],2):=by unfold iR;rw[he,adE (by omega),adG w]
   rw[f];simp only[↓aol,↓R1,Zz,go_sem,simprocAttr,EY,p,b,c0,gF,↓SL];refine wz 25 (.bool true) [3,4,5,6] rfl rfl ?_ λf=>?_
   ·simp(disch:=omega) only[R4,↓R1,Zz,go_sem,simprocAttr,gF]
    (repeat' (first|apply And.intro|intro _))
    all_goals(try(refine ag3 AV.bool (al4.2 ?_);simp[];try(intros;omega)))
    all_goals first|trivial|omega
   ·simp(disch:=omega) only[F1,↓R1,Zz,go_sem,simprocAttr];exact⟨.av,rfl,.av⟩
  ·simp only[↓R1,Zz,go_sem,simprocAttr,EY,p,b,c0,gF,↓SL];refine wz 25 (.bool false) [3,4,5,6] rfl rfl ?_ λe1=>?_
   ·simp(disch:=omega) only[R4,↓R1,Zz,go_sem,simprocAttr,gF]
    (repeat' (first|apply And.intro|intro _))
    all_goals(try(refine ag3 AV.bool (al4.2 ?_);simp[];try(intros;omega)))
    all_goals first|trivial|omega
   ·by_cases z:r.len<c.a+c.b
    ·have O: (r.len:Int)-c.b<c.a:=by omega
     have f:iR s c=([],9):=by unfold iR;rw[he,adE (by omega),adE w,R,adG z]
     rw[f];simp(disch:=omega) only[F1,↓aol,↓R1,↓MP,Zz,go_sem,simprocAttr,gF,O];exact⟨.av,rfl,.av⟩
    ·have O: ¬(r.len:Int)-c.b<c.a:=by omega
     have f:iR s c=((List.range c.b).map λi=>(kR r.runs 0 (c.a+i)).getD 0,0):=by unfold iR;rw[he,adE (by omega),adE w,R,adE z]
     rw[f];simp(disch:=omega) only[↓aol,↓R1,↓MP,Zz,go_sem,simprocAttr,gF,O];obtain⟨B,hB⟩: ∃B:List ae,B=[.box (bz s) none,.box (bn c) none,.box (bM r) none]:=⟨_,rfl⟩;have M: (H++B).length=N+3:=by rw[hB];simp[p]
     rw[<-hB];refine ja c.b (λk e H' ak=>ak=none/\ (H++B)<+:H'/\ (∃v,e 8=v/\aT (N+3) H' v 1 qT ((List.range k).map λi=>iD ((kR r.runs 0 (c.a+i)).getD 0)))/\e 3= .ptr (N+1) 0/\e 6= .ptr (N+2) 0/\e 58= .int .i64 c.b/\e 59= .int .i64 k) 0 (by omega) ?_ ?_
     ·simp only[↓aol,Zz,go_sem,simprocAttr];exact⟨aqe,_,rfl,aT.av⟩
     rintro k hk e H' ak ⟨rfl,⟨L,rfl⟩,⟨v,S,a⟩,U,T,u,t⟩ n hn;have C: (B++L)[1]?=some (.box (bn c) none):=by rw[hB];rfl
     have A: (B++L)[2]?=some (.box (bM r) none):=by rw[hB];rfl
     simp only[adK]at a;simp only[cb,↓R1,Zz,go_sem,simprocAttr,aeM,T,S,u,t];refine⟨λl=>?_,λl=>?_⟩
     ·have J:k<c.b:=by omega
      have m:=λH lo=>lz (asX (eu r.runs) r.len r.runs (mD r.runs) o.rb.1 (c.a+k) (by omega) H lo)
      simp only[Lk,anF]at m;have E:List.take 2 (List.drop 2 (bM r))=[eu r.runs,.int .i64 r.len]:=rfl;simp(disch:=omega) only[↓R1,Zz,go_sem,simprocAttr,U,S,C,A,gF,E,m];refine qQ (H0:=H++B) (ys:=[iD ((kR r.runs 0 (c.a+k)).getD 0)]) a ⟨L,adK _ _ _⟩ M (by omega) (by intro el K;rw[aeh.1 K];rfl) rfl (by rw[afm,axl];show(k+1)*8<=room;unfold room;omega) λv' H2 g I=>?_
      simp(disch:=omega) only[↓aol,↓R1,Zz,go_sem,simprocAttr,U,T,u,t];refine⟨J,I,v',rfl,?_⟩
      (try rw[anC]);rw[afr]
      exact g
     ·obtain rfl:k=c.b:=by omega
      have G:ca ((List.range c.b).map λi=>iD ((kR r.runs 0 (c.a+i)).getD 0))=0:=bH (λ_=>rfl) _;have F: (H++(B++L)).take N=H:=by rw[<-p];simp
      rw[aqE];rcases a.2 with⟨rfl,q⟩| ⟨id,aj,Z,rfl,P⟩
      ·have h:=λH lo=>lz (avw H lo)
       simp(disch:=omega) only[F1,↓R1,Zz,go_sem,simprocAttr,h];refine⟨.av,rfl,?_⟩;have V: ((List.range c.b).map λi=>iD ((kR r.runs 0 (c.a+i)).getD 0))=[]:=q;exact(ag3 (Rv .av 1) V).mpr .av
      ·have h:=λn=>lz (avx id aj n (H++(B++L)) (eg P) none)
       simp only[↓R1,Zz,go_sem,simprocAttr,h];rw[uR (.inl rfl) (Fz.az (d:=11) (iJ.cons (a':=.sl ((List.range c.b).map λi=>iD ((kR r.runs 0 (c.a+i)).getD 0)) true) (λj=>?_) (iJ.cons ((Fz.low (d:=0) (aee _)).mono (by omega)) iJ.nil)))]
       ·exact⟨_,dx rfl F,Rv.sl a.1⟩
       ·rw[show j+10=(j+6)+4 by omega];exact aih (by omega) P (by simp) (by rw[G];omega)
 ·have c0:decide ((e:Int)=0)=false:=adO (by omega);have f:iR s c=([],e):=by unfold iR;rw[he,adG Y]
  rw[f];simp only[F1,↓R1,Zz,go_sem,simprocAttr,EY,p,b,c0,gF,↓SL];exact⟨.av,rfl,.av⟩
def fP(l:fN):lA:=[.int .u8 l.has,.int .i64 l.n]++arr 8 λi=>[.int .u8 (l.wait i)]
theorem z8(l:fN): (fP l).length=10:=rfl
theorem F4(l:fN):aL (fP l)=0:=rfl
def c9(m:Marks):lA:=arr 32 λi=>fP (m i)
theorem eA(m:Marks): (c9 m).length=320:=by rfl
theorem kh(m:Marks):aL (c9 m)=0:=by rfl
structure iU(l:fN):Prop where
 has:l.has<=8
 n:l.n<=8
 lt: ∀i,l.wait i<8
 inj: ∀i j,i<l.n->j<l.n->l.wait i=l.wait j->i=j
def um(f:Nat->Nat)(x n:Nat):oN:=(List.range n).find? λi=>decide (f i=x)
def z9(o:oN):Int:=match o with|some i=>i|none=> -1
def avz{f:Nat->Nat}{x:Nat}(h:um f x k=none):um f x (k+1)=if f k=x then some k else none:=by
 unfold um at*;rw[anC,List.find?_append,h]
 grind
def avA{f:Nat->Nat}{x:Nat}{j:Nat}(h:um f x k=some j): ∀n,k<=n->um f x n=some j:=by
 intro n a;obtain⟨m,rfl⟩:=Nat.exists_eq_add_of_le a;unfold um at*;rw[List.range_add,List.find?_append,h];rfl
def aje{f:Nat->Nat}{x:Nat}(h:um f x n=some i):i<n/\f i=x:=by
 unfold um at h
 grind
def avB(f:Nat->Nat)(x n M off:Nat)(s:n<2147483648)(H:List ae)(cs:lA)(h:H[M]?=some (.box cs none))(r: ∀i,i<n->cs[off+i]?=some (.int .u8 (f i)))(lo:oN):
  D X0 (.fn (.func 181) [] []) [.fH M 1 off n,.int .u8 x] ⟨H,lo⟩=some (.ret (.int .i64 (z9 (um f x n))) ⟨H,lo⟩):=by
 refine aH QH λN v=>?_
 simp only[go_sem,simprocAttr,QH];refine eN n (λk e H'=>H'=H/\um f x k=none/\e 0= .fH M 1 off n/\e 1= .int .u8 x/\e 7= .int .i64 n/\e 8= .int .i64 k) 0 (by omega) ?_ ?_
 ·trivial
 rintro k t e H' ⟨rfl,g,p,o,l,j⟩ m hm;simp(disch:=omega) only[cb,F1,go_sem,simprocAttr,aeP,p,o,l,j];refine⟨λq=>?_,λq=>?_⟩
 ·have b:k<n:=by omega
  have c:=r k b;have u:kr 1 (.fH M 1 off n) (.int .i64 k)=some (.ptr M (off+k)):=by
   rw[OJ,adG ⟨by omega,by omega,rfl⟩];simp
  have d:=avz g;by_cases e1:f k=x
  ·have a: ((x:Nat):Int)=f k:=by omega
   rw[adG e1]at d;simp(disch:=omega) only[F1,go_sem,simprocAttr,h,c,a];rw[avA d n (by omega)];exact⟨by omega,rfl⟩
  ·have a: ¬((x:Nat):Int)=f k:=by omega
   rw[adE e1]at d;simp(disch:=omega) only[go_sem,simprocAttr,p,o,l,j,h,c,a];exact⟨by omega,b,d⟩
 ·obtain rfl:k=n:=by omega
  rw[g];rfl
theorem ajf(n:Nat):IntKind.wrap .u8 (n:Int)=((n % 256:Nat):Int):=by rfl
def ajg(l:fN)(b:iU l)(aa:Nat)(f:aa<4294967296)(H:List ae)(lo:oN):
  D X0 (.fn (.func 162) [] []) [.agg (fP l),.int .i64 aa] ⟨H,lo⟩=some (.ret (.int .i64 (z9 (rD l aa))) ⟨H,lo⟩):=by
 refine aH Qy λN c=>?_
 have g:=b.n;have a:=λlo=>avB l.wait (aa % 256) l.n N 2 (by omega) (H++[.box (fP l) none]) (fP l) (by grind) (λi a=>by
  rcases(show i=0\/i=1\/i=2\/i=3\/i=4\/i=5\/i=6\/i=7 by omega)with h|h|h|h|h|h|h|h<;>subst h<;>rfl) lo
 have hw:=ajf aa;have e: (fP l)[1]?=some (.int .i64 l.n):=rfl;have d: (0:Int)<=l.n/\ (l.n:Int)<=8:=by omega
 simp only[F1,go_sem,simprocAttr,Qy,c,e,hw,a,d];rfl
def ajh(l:fN)(i:Nat):fN:={l with wait:=λj=>if i<=j/\j<7 then l.wait (j+1)else l.wait j}
def avC{X:Ctx}{id off:Nat}{k:IntKind}{a:Int}:qz X n sz (.ptr id off) (some (.int k a)) none=if 0<=a/\a<=n then some (.fH id sz (off+a.toNat*sz) (n-a.toNat))else none:=by
 simp only[qz,gI,lQ]
 grind
def avD{H:List ae}{N:Nat}(h:H[N]?=some (.box (fP l) none))(a:i<8):
  r6 ⟨H,lo⟩ 1 (.fH N 1 (2+i) (8-i)) (.fH N 1 (2+(i+1)) (7-i))=some (.int .i64 (7-i:Nat),⟨H.set N (.box (fP (ajh l i)) none),lo⟩):=by
 rcases(show i=0\/i=1\/i=2\/i=3\/i=4\/i=5\/i=6\/i=7 by omega)with q|q|q|q|q|q|q|q<;>subst q<;>
  (simp only[r6,CP,Den.elems,h];rfl)
def avE(a:k<8):aO (fP l) (2+k) [.int .u8 0]=fP {l with wait:=ao l.wait k 0}:=by
 rcases(show k=0\/k=1\/k=2\/k=3\/k=4\/k=5\/k=6\/k=7 by omega)with q|q|q|q|q|q|q|q<;>subst q<;>rfl
def avF{v:Nat}(a:k<8):aO (fP l) (2+k) [.int .u8 v]=fP {l with wait:=ao l.wait k v}:=by
 rcases(show k=0\/k=1\/k=2\/k=3\/k=4\/k=5\/k=6\/k=7 by omega)with q|q|q|q|q|q|q|q<;>subst q<;>rfl
def aji(l:fN)(s:iU l)(aa:Nat)(t:aa<4294967296)(H:List ae)(lo:oN):
  D X0 (.fn (.func 147) [] []) [.agg (fP l),.int .i64 aa] ⟨H,lo⟩=some (.ret (.agg (fP (xv l aa))) ⟨H,lo⟩):=by
 refine aH JZ λN r=>?_
 have a:=λH lo=>ajg l s aa t H lo
 have v:=s.n;have b: ∀l:fN,List.take 10 (fP l)=fP l:=λ_=>rfl
 unfold xv;cases p:rD l aa with
 |none=>
  rw[p]at a;simp only[z9]at a;simp only[F1,go_sem,simprocAttr,JZ,r,a,b,z8,F4]
 |some i=>
  rw[p]at a;simp only[z9]at a;have u:=(aje p).1;have o: ¬((i:Nat):Int)<0:=by omega
  have m: (0:Int)<=i/\ (i:Int)<=8:=by omega
  have k: (0:Int)<=(i:Int)+1/\ (i:Int)+1<=8:=by omega
  have e: ((i:Int)+1).toNat=i+1:=by omega
  have j: ∀l:fN,(fP l)[1]?=some (.int .i64 l.n):=λ_=>rfl
  have f: ∀ (l:fN) (n:Nat),aO (fP l) 1 [.int .i64 n]=fP {l with n:=n}:=λ_ _=>rfl
  have c: (l.n:Int)-1=((l.n-1:Nat):Int):=by omega
  have g:l.n-1<8:=by omega
  have d:=λl:fN=>avE (l:=l) g
  have h: (ajh l i).n=l.n:=rfl;have q:=λB lo=>avD (H:=H++(.box (fP l) none::B)) (lo:=lo) (N:=N) (l:=l) (by rw[dI r];rfl) (show i<8 by omega)
  simp(disch:=omega) only[F1,go_sem,simprocAttr,JZ,r,a,b,z8,F4,avC,o,m,k,e,q,h,j,f,c,d];exact⟨by omega,by omega,rfl⟩
def rQ:Den.part true 320 (c9 m) 0=some (.agg (c9 m)):=Fs (eA m)
def xO(h:i<32):Den.part true 10 (c9 m) (i*10)=some (.agg (fP (m i))):=kM (k:=10) (o:=0) (f:=λi=>fP (m i)) (λ_=>rfl) h (by omega) (by omega)
def vV(h:i<32):Den.part false 1 (c9 m) (i*10)=some (.int .u8 (m i).has):=kM (k:=10) (o:=0) (f:=λi=>fP (m i)) (λ_=>rfl) h (by omega) (by omega)
def F5(h:i<32):Den.part false 1 (c9 m) (i*10+1)=some (.int .i64 (m i).n):=kM (k:=10) (o:=1) (f:=λi=>fP (m i)) (λ_=>rfl) h (by omega) (by omega)
def Cs{o:Nat}{vs:lA}(h:i<32)(ho:o+vs.length<=10)(a:aO (fP (m i)) o vs=fP l):aO (c9 m) (i*10+o) vs=c9 (ao m i l):=by
 unfold c9;rw[nf (k:=10) (f:=λi=>fP (m i)) (λ_=>rfl) h ho,a,om fP]
def TU(i aa:Nat)(H:List ae)(lo:oN):D X0 (.fn (.func 139) [] []) [.int .i64 i,.int .i64 aa] ⟨H,lo⟩=some (.ret (.bool (jC i aa)) ⟨H,lo⟩):=by
 refine aH JX λN d=>?_
 have b: (i:Int)>=0:=by omega
 have c: (aa:Int)>=0:=by omega
 by_cases f:i<32
 ·have a: (i:Int)<32:=by omega
  have e:jC i aa=decide ((aa:Int)<8):=by unfold jC;grind
  rw[e];simp(disch:=omega) only[F1,go_sem,simprocAttr,JX,b,c,a]
 ·have a: ¬(i:Int)<32:=by omega
  have e:jC i aa=false:=by unfold jC;grind
  rw[e];simp(disch:=omega) only[F1,go_sem,simprocAttr,JX,b,a]
def ajj(d:iU l)(g:aa<8)(h:rD l aa=none):l.n<8:=by
 have k:=d.n;by_cases e:l.n=8
 ·have p: ∀i,i<8->l.wait i≠aa:=by
    unfold rD at h
    grind
  have j: ((List.range 8).map l.wait++[aa]).Nodup:=by
   rw[aBu];refine⟨?_,by simp,?_⟩
   ·rw[awE,aA3];refine ar1 (λ {a b} c m f he=>f ?_) (awE.1 (aB7 (n:=8)));exact d.inj a b (by grind) (by grind) he
   grind
  have o:=LF 8 _ j (by
   intro a c;rcases aeg.1 c with c|c
   ·obtain⟨i,_,rfl⟩:=afq.1 c;exact d.lt i
   ·rw[aeh.1 c];exact g)
  grind
 ·omega
def avG(m:Marks)(E: ∀i,iU (m i))(a aa:Nat)(P:aa<4294967296)(H:List ae)(lo:oN):
  D X0 (.fn (.func 153) [] []) [.agg (c9 m),.int .i64 a,.int .i64 aa] ⟨H,lo⟩=some (.ret (.az [.agg (c9 (jk m a aa).1),.bool (jk m a aa).2]) ⟨H,lo⟩):=by
 refine aH sQ λN u=>?_
 have s:o7.length=320:=by decide
 have d:List.drop 320 o7=[]:=ag5 (by rw[s];omega);have W:List.take 320 (c9 m)=c9 m:=adP (by rw[eA];omega);have b:=λH lo=>TU a aa H lo
 have T: ∀m:Marks,(AV.az [.agg (c9 m),.bool false]).refs<=N:=λm=>by simp[AV.refs,aL,kh]
 cases r:jC a aa with
 |false=>
  rw[r]at b;have t:jk m a aa=(m,false):=by unfold jk;rw[adG r]
  rw[t];simp only[F1,go_sem,simprocAttr,sQ,u,b,↓rQ,eA,kh,s,d]
 |true=>
  rw[r]at b;have c:a<32/\aa<8:=by unfold jC at r;simpa using r
  have L: ¬jC a aa=false:=by rw[r];simp
  obtain⟨c,X⟩:=c;have f: (0:Int)<=a/\ (a:Int)<32:=by omega
  have p:=λH lo=>ajg (m a) (E a) aa P H lo
  have w:=λH lo=>aji (m a) (E a) aa P H lo
  have F:a*10+10<=320:=by omega
  have S:=(E a).has;have V:=(E a).n;have G:a*10<=319:=by omega
  by_cases M: (m a).has=aa+1
  ·have e: (((m a).has:Nat):Int)=(aa:Int)+1:=by omega
   have t:jk m a aa=(m,true):=by unfold jk;rw[adE L,adG M]
   rw[t];simp only[F1,go_sem,simprocAttr,sQ,u,b,f,p,↓xO c,↓vV c,e,↓rQ,eA,kh,s,d]
  ·have e:decide ((((m a).has:Nat):Int)=(aa:Int)+1)=false:=adO (by omega);have A: ∀ (m:Marks) (l:fN),aO (c9 m) (a*10) (fP l)=c9 (ao m a l):=λm l=>Cs (o:=0) c (by rw[z8];omega) rfl
   have z: ∀m:Marks,aO (c9 m) (a*10) [.int .u8 ((aa:Int)+1)]=c9 (ao m a {m a with has:=aa+1}):=λm=>Cs (o:=0) c (by simp) rfl
   have y: ∀m':Marks,aO (c9 m') (a*10+1) [.int .i64 (((m a).n:Int)+1)]=c9 (ao m' a {m' a with n:=(m a).n+1}):=λm'=>Cs c (by simp) rfl
   have I:a*10<=318:=by omega
   have Q: ∀m:Marks,List.take 320 (c9 m)=c9 m:=λm=>adP (by rw[eA];omega)
   by_cases K: (m a).has=0/\ ((m a).n=0\/rD (m a) aa=some 0)
   ·have t:jk m a aa=(ao m a {xv (m a) aa with has:=aa+1},true):=by unfold jk;rw[adE L,adE M,adG K]
    rw[t];have J:decide ((((m a).has:Nat):Int)=0)=true:=aec (by omega);have hw:IntKind.wrap .u8 ((aa:Int)+1)=((aa+1:Nat):Int):=by rw[wrap_u8 (by omega) (by omega)];rfl
    by_cases Y: (m a).n=0
    ·have g:decide ((((m a).n:Nat):Int)=0)=true:=aec (by omega);simp(disch:=omega) only[F1,go_sem,simprocAttr,sQ,u,b,f,p,w,↓xO c,↓vV c,↓F5 c,e,J,g,hw,A,z,bS,rp,↓rQ,eA,kh,s,d,z8,F4,F,G]
    ·have g:decide ((((m a).n:Nat):Int)=0)=false:=adO (by omega);have O:rD (m a) aa=some 0:=K.2.resolve_left Y;rw[O]at p;simp only[z9]at p;simp(disch:=omega) only[F1,go_sem,simprocAttr,sQ,u,b,f,p,w,↓xO c,↓vV c,↓F5 c,e,J,g,hw,A,z,bS,rp,↓rQ,eA,kh,s,d,z8,F4,F,G]
   ·have Z: ∀h:Nat,decide ((h:Int)=0)=decide (h=0):=λh=>afB.2 (by omega)
    cases v:rD (m a) aa with
    |none=>
     have U:=ajj (E a) X v;have C: ((m a).n:Int)<8:=by omega
     have B:a*10+2+(m a).n<=319:=by omega
     have t:jk m a aa=(ao m a {m a with n:=(m a).n+1,wait:=ao (m a).wait (m a).n aa},false):=by unfold jk;rw[adE L,adE M,adE K,adG v]
     rw[t];rw[v]at p;simp only[z9]at p;have x: ∀ (m':Marks),(m' a).n=(m a).n->aO (c9 m') (a*10+2+(m a).n) [.int .u8 aa]=c9 (ao m' a {m' a with wait:=ao (m' a).wait (m a).n aa}):=λm' h=>(ag3 (λo=>aO (c9 m') o _) (aiO _ _ _)).trans (Cs c (by simp;omega) (avF U))
     by_cases J: (m a).has=0
     ·have k:decide ((((m a).has:Nat):Int)=0)=true:=aec (by omega);have g:decide ((((m a).n:Nat):Int)=0)=false:=adO (by omega);simp(disch:=omega) only[F1,go_sem,simprocAttr,sQ,u,b,f,p,↓xO c,↓vV c,↓F5 c,e,k,g,C,B,I,y,x,bS,rp,↓rQ,eA,kh,s,d]
     ·have k:decide ((((m a).has:Nat):Int)=0)=false:=adO (by omega);simp(disch:=omega) only[F1,go_sem,simprocAttr,sQ,u,b,f,p,↓xO c,↓vV c,↓F5 c,e,k,C,B,I,y,x,bS,rp,↓rQ,eA,kh,s,d]
    |some j=>
     have t:jk m a aa=(m,false):=by unfold jk;rw[adE L,adE M,adE K,adE (by rw[v];simp)]
     rw[t];rw[v]at p;simp only[z9]at p;have R: ¬((j:Nat):Int)<0:=by omega
     by_cases J: (m a).has=0
     ·have k:decide ((((m a).has:Nat):Int)=0)=true:=aec (by omega);have g:decide ((((m a).n:Nat):Int)=0)=false:=adO (by omega);have O:decide (((j:Nat):Int)=0)=false:=adO (λq=>K ⟨J,.inr (by rw[v];congr 1;omega)⟩);simp(disch:=omega) only[F1,go_sem,simprocAttr,sQ,u,b,f,p,↓xO c,↓vV c,↓F5 c,e,k,g,O,R,↓rQ,eA,kh,s,d]
     ·have k:decide ((((m a).has:Nat):Int)=0)=false:=adO (by omega);simp(disch:=omega) only[F1,go_sem,simprocAttr,sQ,u,b,f,p,↓xO c,↓vV c,e,k,R,↓rQ,eA,kh,s,d]
end Go.Proofs.YteplichagkpciaaGreatDoor
