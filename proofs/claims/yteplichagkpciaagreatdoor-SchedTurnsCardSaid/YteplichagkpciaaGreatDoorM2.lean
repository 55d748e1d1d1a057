/- What functions do; conditions as stated. -/
import Derived.Test.YteplichagkpciaaGreatDoorM1
import Derived.Test.YteplichagkpciaaGreatDoorD2
set_option linter.all false
set_option maxRecDepth 10000
set_option maxHeartbeats 1000000
namespace Go.Proofs.YteplichagkpciaaGreatDoor
open Go Go.Den
variable{t:aw}{n a p k e j sz i aa q:Nat}{v bk:AV}{lo:oN}{x y:ar}{b:cE}{m:Marks}{vs:lA}{af:List lA}{r:bE}{α β:Type}{l:fh}{tg:Option TypeId}{f:Nat->Nat}
def arW:=@List.take_set_of_le
def auz:=@List.Pairwise.imp_of_mem
def au4:=@of_decide_eq_true
def ayO:=@List.nodup_iff_pairwise_ne
def aBi:=@Nat.div_le_self
def aBj:=@List.nodup_cons
def aC3:=@eq_false
def xF(o:bM)(t:aw)(p:Ow->Bool)(h:Nat):Bool:=decide (root t h=h)&&p (b0 o t h)
def jO(o:bM)(t:aw)(p:Ow->Bool):lN:=(bm t.b).filter (xF o t p)
def xG(o:bM)(t:aw)(p:Ow->Bool)(n:Nat):lN:=((bm t.b).take n).filter (xF o t p)
def avB{o:bM}{p:Ow->Bool}(h:n< (bm t.b).length):xG o t p (n+1)=if xF o t p ((bm t.b).getD n default)then xG o t p n++[(bm t.b).getD n default]else xG o t p n:=by
 unfold xG;rw[aiV,ag6 h,azt,getD_eq h]
 grind
theorem avC{o:bM}{p:Ow->Bool}: (xG o t p n).length<=n:=akH (amL _ _) (by grind)
def ajB(o:bM)(ho:fF o)(t:aw)(z:bN t)(V:cm t)(fv:AV)(p:Ow->Bool)(N:Nat)(H:List ae)(A:H.length=N)
  (hf: ∀x L,xB x->D X fv [.agg (jK x)] ⟨H++L,none⟩=some (.ret (.bool (p x)) ⟨H++L,none⟩)) (lo:oN):
  ∃w,D X (.fn (.func Eu) [] []) [.agg (cF o),.agg (aJ t),fv] ⟨H,lo⟩=some (.ret w ⟨H,lo⟩)/\Rv w 1 ((jO o t p).map hC)/\w.refs=0:=by
 suffices hs: ∃E,D X (.fn (.func Eu) [] []) [.agg (cF o),.agg (aJ t),fv] ⟨H,lo⟩=some E/\ (λE=> ∃w,E=aS.ret w ⟨H,lo⟩/\Rv w 1 ((jO o t p).map hC)/\w.refs=0) E by
  obtain⟨E,h1,w,rfl,h2⟩:=hs;exact⟨w,h1,h2⟩
 refine cy Tt λM W=>?_
 obtain rfl:M=N:=by rw[<-W,A]
 obtain⟨v,J,e1,G⟩:=aiO t.b z.b (M+2) (H++[.box (cF o) none,.box (aJ t) none]) (by simp[A]) none;have y:D X (.fn (.func j9) [] []) [.agg (bY t.b)] ⟨H++[.box (cF o) none,.box (aJ t) none],none⟩=some _:=s7 (p:=nG) rfl e1;have b:=(mc G none).bL;have sd:=nm t.b;rw[afL]at y G b;obtain⟨q,u⟩: ∃q,q=[ae.box (cF o) none,.box (aJ t) none]++J:=⟨_,rfl⟩;have Y: ∀L,(H++(q++L))[M]?=some (.box (cF o) none):=λL=>by rw[di A,u];rfl
 have g1: ∀L,(H++(q++L))[M+1]?=some (.box (aJ t) none):=λL=>by rw[bA A,u];rfl
 rw[<-u]at y G b;simp only[go_sem,simprocAttr,Tt,W,y,b];refine dV (bm t.b).length (λn e H'=> ∃L,H'=H++(q++L)/\ (∃B,e 7=B/\aQ (M+q.length) H' B 1 bZ ((xG o t p n).map hC))/\e 2=fv/\e 3= .ptr M 0/\e 4= .ptr (M+1) 0/\e 12=v/\e 13= .int .i64 (bm t.b).length/\e 14= .int .i64 n) 0 (by omega) ?_ ?_
 ·simp only[go_sem,simprocAttr];exact⟨[],by simp,_,rfl,aQ.ai⟩
 rintro n hn e H' ⟨L,rfl,⟨B,e7,a⟩,O,K,I,m,l,k⟩ n' HC;simp only[bR,go_sem,simprocAttr,agQ,e7,m,l,k];refine⟨λhc=>?_,λhc=>?_⟩
 ·have f:n< (bm t.b).length:=by omega
  have Q:=(jm z.b).1 (eX f);have d:=avB (o:=o) (p:=p) f;have g:Rd ⟨H++(q++L),none⟩ v 1 ((bm t.b).map hC):=mc (by have:=G.ext (L:=L);rwa[afL]at this) none;have F:=g.cD (X:=X) (off:=0) (n:=1) (agg:=false) f;rw[pH]at F;have sc:=avC (o:=o) (t:=t) (p:=p) (n:=n);generalize(bm t.b).getD n default=h at*;have T:=gg Q;have r:=λH lo=>up dk (zN t z V h T H lo)
  have C:=λH lo=>up dk (Ct o ho t z V h T H lo)
  have i:=hf (b0 o t h) (q++L) (ho.of t h);have c:xF o t p h=(decide (root t h=h)&&p (b0 o t h)):=rfl;have U: ∀ak:oN,True:=λ_=>trivial
  by_cases Z:root t h=h
  ·have j:decide ((root t h:Int)=(h:Nat))=true:=ag9 (by omega);rw[ag9 Z,ao1]at c;cases S:p (b0 o t h)
   ·rw[S]at i c;rw[c,afB (by simp)]at d;simp(disch:=omega) only[go_sem,simprocAttr,O,K,I,e7,m,l,k,g.ck,F,Y,g1,r,C,j,i];exact⟨by omega,f,L,rfl,B,rfl,by rw[d];exact a⟩
   ·rw[S]at i c;rw[c,afJ rfl]at d;simp only[go_sem,simprocAttr,O,K,I,e7,g.ck,F,Y,g1,r,C,j,i];refine⟨by omega,po (H0:=H++q) (ys:=[[.int .u32 (h:Nat)]]) a ⟨_,afL _ _ _⟩ (by simp[A]) (by omega) (by intro el R;rw[ahe.1 R];rfl) rfl (by unfold room;simp;omega) λv' H2 s P=>?_⟩;obtain⟨L2,rfl⟩:=P;simp(disch:=omega) only[go_sem,simprocAttr,O,K,I,m,l,k];refine⟨f,L2,by simp,v',rfl,?_⟩;rw[d,ahs];rwa[afL]at s
  ·have j: ¬((root t h:Nat):Int)=(h:Nat):=by omega
   rw[ag7 Z,akI]at c;rw[c,afB (by simp)]at d;simp(disch:=omega) only[go_sem,simprocAttr,O,K,I,e7,m,l,k,g.ck,F,g1,r,j];exact⟨by omega,f,L,rfl,B,rfl,by rw[d];exact a⟩
 ·obtain rfl:n=(bm t.b).length:=by omega
  have z:xG o t p (bm t.b).length=jO o t p:=by unfold xG jO;rw[ahn]
  rw[z]at a;have h0:b8 ((jO o t p).map hC)=0:=bD (λ_=>rfl) _;rw[aQ.PM (aQ.le a (by omega)) (by omega)];refine⟨_,da rfl (mr A),a.sh,cO a.sh h0⟩
def qj(aa:Nat)(x:Ow):Bool:=decide (x.kind=1)&&decide (x.aa=aa)
def oK(aa:Nat)(x:Ow):Bool:=decide (x.kind=3)&& (decide (aa<8)&&oz x.hold aa)
theorem Cw(x:Ow):jK x=[.int .u8 x.kind,.int .u8 x.aa,.int .u8 x.hold]:=rfl
def avD(aa:Nat)(x:Ow)(d:xB x)(q:Nat)(H:List ae)(e:H[q]?=some (.box [.int .i64 (aa:Nat)] none))(lo:oN):
  D X (.fn (.func JU) [] [.ptr q 0]) [.agg (jK x)] ⟨H,lo⟩=some (.ret (.bool (qj aa x)) ⟨H,lo⟩):=by
 refine eP L4 λN b=>?_
 have f: ∀L,(H++L)[q]?=_:=λL=>bc e
 have:=d.aa;by_cases c:x.kind=1
 ·have a: (x.kind:Int)=1:=by omega
  simp(disch:=omega) only[F1,go_sem,simprocAttr,L4,b,Cw,f,a];refine da (akG AV.bool ?_) rfl;unfold qj;grind
 ·have a: ¬(x.kind:Int)=1:=by omega
  simp only[F1,go_sem,simprocAttr,L4,b,Cw,a];unfold qj;grind
def avE(aa:Nat)(k:aa<256)(x:Ow)(h:xB x)(q:Nat)(H:List ae)(i:H[q]?=some (.box [.int .i64 (aa:Nat)] none))(lo:oN):
  D X (.fn (.func JL) [] [.ptr q 0]) [.agg (jK x)] ⟨H,lo⟩=some (.ret (.bool (oK aa x)) ⟨H,lo⟩):=by
 refine eP FZ λN e=>?_
 have f: ∀L,(H++L)[q]?=_:=λL=>bc i
 have j:=λH lo=>up dk (VF aa (by omega) H lo)
 have hand:=MK h.hold (zR aa);have d:=aji (x:=x.hold) (aa:=aa);by_cases c:x.kind=3
 ·have b: (x.kind:Int)=3:=by omega
  have c0: (aa:Int)>=0:=by omega
  by_cases g:aa<8
  ·have a: (aa:Int)<8:=by omega
   simp only[F1,go_sem,simprocAttr,FZ,e,Cw,f,b,c0,a,j,hand,d];unfold oK;rw[ag9 c,ag9 g];rfl
  ·have a: ¬(aa:Int)<8:=by omega
   simp only[F1,go_sem,simprocAttr,FZ,e,Cw,f,b,c0,a];unfold oK;rw[ag9 c,ag7 g];rfl
 ·have b: ¬(x.kind:Int)=3:=by omega
  simp only[F1,go_sem,simprocAttr,FZ,e,Cw,b];unfold oK;rw[ag7 c];rfl
def avF(o:bM)(ho:fF o)(t:aw)(c:bN t)(d:cm t)(aa:Nat)(H:List ae)(lo:oN):
  ∃w,D X (.fn (.func Rg) [] []) [.agg (cF o),.agg (aJ t),.int .i64 aa] ⟨H,lo⟩=some (.ret w ⟨H,lo⟩)/\Rv w 1 ((jO o t (qj aa)).map hC)/\w.refs=0:=by
 obtain⟨N,f⟩: ∃N,H.length=N:=⟨_,rfl⟩;obtain⟨w,e1,e,e3⟩:=ajB o ho t c d (.fn (.func JU) [] [.ptr (N+2) 0]) (qj aa) (N+3) (H++[.box (cF o) none,.box (aJ t) none,.box [.int .i64 aa] none]) (by grind)
  (λx L b=>avD aa x b (N+2) _ (by simp_all) none) none
 refine⟨w,?_,e,e3⟩;refine aF Ts λM a=>?_
 obtain rfl:M=N:=by omega
 simp only[go_sem,simprocAttr,Ts,a,e1];rw[xC e3,mr a]
def avG(o:bM)(ho:fF o)(t:aw)(d:bN t)(e:cm t)(aa:Nat)(a:aa<256)(H:List ae)(lo:oN):
  ∃w,D X (.fn (.func QX) [] []) [.agg (cF o),.agg (aJ t),.int .i64 aa] ⟨H,lo⟩=some (.ret w ⟨H,lo⟩)/\Rv w 1 ((jO o t (oK aa)).map hC)/\w.refs=0:=by
 obtain⟨N,g⟩: ∃N,H.length=N:=⟨_,rfl⟩;obtain⟨w,e1,f,e3⟩:=ajB o ho t d e (.fn (.func JL) [] [.ptr (N+2) 0]) (oK aa) (N+3) (H++[.box (cF o) none,.box (aJ t) none,.box [.int .i64 aa] none]) (by grind)
  (λx L c=>avE aa a x c (N+2) _ (by simp_all) none) none
 refine⟨w,?_,f,e3⟩;refine aF SZ λM b=>?_
 obtain rfl:M=N:=by omega
 simp only[go_sem,simprocAttr,SZ,b,e1];rw[xC e3,mr b]
theorem ajC(a b:Int):oX (.int .u8 a) (.int .u8 b)=some (decide (a=b)):=by rfl
def MN{a b:Int}{es:List (AV×AV)}:dS (.int .u8 a) ((.int .u8 b,v)::es)=if a=b then some (some v)else dS (.int .u8 a) es:=by
 simp only[dS,ajC]
 grind
theorem ajD{a:Int}{v:AV}: ∀ {es:List (AV×AV)},(∀e∈es,∃j:Int,e.1= .int .u8 j/\a≠j)->lM (.int .u8 a) v es=some (es++[(.int .u8 a,v)])
 | [],_=>rfl
 | (k,u)::es,h=>by
   obtain⟨j,c,b⟩:=h _ (amM ..);subst c;simp only[lM,ajC,b,aDx];rw[ajD λe he=>h e (aiF _ he)];rfl
def VJ{H:List ae}(b:H.length=p){a:Int}{es:List (AV×AV)}(h: ∀e∈es,∃j:Int,e.1= .int .u8 j/\a≠j)(c:v.refs<=p+1):
  mj ⟨H++[.map es],lo⟩ .int (.mp p) (.int .u8 a) v=some ⟨H++[.map (es++[(.int .u8 a,v)])],lo⟩:=by
 unfold mj;rw[afJ (show kS .int (.int .u8 a)=true from rfl)];simp only[di b,arY,ajD h];simp only[AS.set];simp_all
def VK{gm:Nat->Option (List (AV×AV))}{H:List ae}{id:Nat}{es:List (AV×AV)}{a:Int}{z:AV}{r:Option AV}(h:H[id]?=some (.map es))(b:dS (.int .u8 a) es=some r):
  gP gm ⟨H,lo⟩ .int z (.mp id) (.int .u8 a) true=some (match r with|some v=>.au [v,.bool true]|none=>.au [z,.bool false]):=by
 unfold gP;rw[afJ (show kS .int (.int .u8 a)=true from rfl)];simp only[mapOf,h,b]
 grind
section
variable(T:aw)(hT:bN T)(xH:cm T)(O:bM)(K:bg)(hK:gy K)(h:Nat)(hh:h<4294967296)(pw ph:Nat)(H:List ae)(hw:H[pw]?=some (.box (gd T O K) none))(o8:H[ph]?=some (.box [.int .u32 h] none))(lo:oN)
include hT xH hK hh hw o8
omit hT xH hh in
theorem avH:D X (.fn (.func wI) [] [.ptr pw 0,.ptr ph 0]) [] ⟨H,lo⟩=some (.ret (.bool (xl K h 0)) ⟨H,lo⟩):=by
 refine eP TL λN a=>?_
 have hr: ∀H lo,D X (.fn (.func Ez) [] []) [.agg (bW K),.int .u32 h,.int .u32 0] ⟨H,lo⟩=_:=ajq K hK h 0 (by omega);simp(disch:=omega) only[F1,go_sem,simprocAttr,TL,a,hw,o8,↓rl,hr]
omit hT xH hh in
theorem avI:D X (.fn (.func wJ) [] [.ptr pw 0,.ptr ph 0]) [] ⟨H,lo⟩=some (.ret (.bool (zD K h 0)) ⟨H,lo⟩):=by
 refine eP TM λN a=>?_
 have hr: ∀H lo,D X (.fn (.func EA) [] []) [.agg (bW K),.int .u32 h,.int .u32 0] ⟨H,lo⟩=_:=ajr K hK h 0 (by omega);simp(disch:=omega) only[F1,go_sem,simprocAttr,TM,a,hw,o8,↓rl,hr]
omit hT xH hh o8 in
theorem avJ(x:Nat):D X (.fn (.func JW) [] [.ptr pw 0]) [.int .u32 x] ⟨H,lo⟩=some (.ret (.bool (decide (0< (nq K x).length))) ⟨H,lo⟩):=by
 refine eP TP λN a=>?_
 obtain⟨w,e1,b,e3⟩:=VH K hK x H none;simp(disch:=omega) only[F1,go_sem,simprocAttr,TP,a,hw,↓rl,e1,b.bL];exact da (akG AV.bool (aht.2 (by omega))) rfl
theorem avK:D X (.fn (.func yL) [] [.ptr pw 0,.ptr ph 0]) [] ⟨H,lo⟩=some (.ret (.bool (!((under T h).any λx=>decide (0< (nq K x).length)))) ⟨H,lo⟩):=by
 refine eP TN λN b=>?_
 obtain⟨v,J,a,e,d,c⟩:=MA T hT xH h hh N H b none;have f:=ait dk v (.fn (.func JW) [] [.ptr pw 0]) (under T h) (H++J) d.rd (by have:=Gr xH h;omega) (λx=>decide (0< (nq K x).length)) a (λx _=>avJ T O K hK pw (H++J) (bc hw) none x);simp only[go_sem,simprocAttr,TN,hw,o8,↓pW,e,f];rw[iU (dI.of c) (aha _),mr b]
end
def avL(T:aw)(hT:bN T)(xH:cm T)(O:bM)(K:bg)(hK:gy K)(h:Nat)(hh:h<4294967296)(b:Nat)(s:b<=2)(H:List ae)(lo:oN):
  D X (.fn (.func QZ) [] []) [.agg (gd T O K),.int .u32 h,.int .u8 b] ⟨H,lo⟩=some (.ret (.bool (Gj T K h b)) ⟨H,lo⟩):=by
 refine aF FO λN i=>?_
 obtain⟨n,l⟩: ∃n,n=H++[ae.box (gd T O K) none,.box [.int .u32 h] none]:=⟨_,rfl⟩;have g:n.length=N+2:=by rw[l];simp[i]
 have hr: ∀f,(AV.fn (.func f) [] [.ptr N 0,.ptr (N+1) 0]).refs<=N+2+1:=λf=>by simp only[AV.refs,aG];omega
 have k:=VJ g (a:=0) (es:=[]) (lo:=none) (by simp) (hr wI);have j:=VJ g (a:=1) (es:=[(.int .u8 0,.fn (.func wI) [] [.ptr N 0,.ptr (N+1) 0])]) (lo:=none) (by simp) (hr wJ);have m3:=VJ g (a:=2) (es:=[(.int .u8 0,.fn (.func wI) [] [.ptr N 0,.ptr (N+1) 0]),(.int .u8 1,.fn (.func wJ) [] [.ptr N 0,.ptr (N+1) 0])]) (lo:=none) (by simp) (hr yL);rw[l]at k j m3;simp only[afL,alb,aj8]at k j m3;obtain⟨e,c⟩: ∃e,e=H++[ae.box (gd T O K) none,.box [.int .u32 h] none,.map [(.int .u8 0,.fn (.func wI) [] [.ptr N 0,.ptr (N+1) 0]),(.int .u8 1,.fn (.func wJ) [] [.ptr N 0,.ptr (N+1) 0]),(.int .u8 2,.fn (.func yL) [] [.ptr N 0,.ptr (N+1) 0])]]:=⟨_,rfl⟩;have m:e[N]?=some (.box (gd T O K) none):=by rw[c,di i];rfl
 have g1:e[N+1]?=some (.box [.int .u32 h] none):=by rw[c,bA i];rfl
 have g2:e[N+2]?=some (.map [(.int .u8 0,.fn (.func wI) [] [.ptr N 0,.ptr (N+1) 0]),(.int .u8 1,.fn (.func wJ) [] [.ptr N 0,.ptr (N+1) 0]),(.int .u8 2,.fn (.func yL) [] [.ptr N 0,.ptr (N+1) 0])]):=by rw[c,bA i];rfl
 have q:=avH O K hK h N (N+1) e (T:=T) m g1 none;have p:=avI O K hK h N (N+1) e (T:=T) m g1 none;have o:=avK T hT xH O K hK h hh N (N+1) e m g1 none;have hw:b=0\/b=1\/b=2:=by omega
 rcases hw with rfl|rfl|rfl
 ·have d:=VK (gm:=X.fb) (lo:=none) (a:=0) (z:=.cJ) g2 (r:=some _) (by simp only[MN,aiZ];rfl);rw[c]at q d;simp only[F1,go_sem,simprocAttr,FO,i,k,j,m3,d,q];rfl
 ·have d:=VK (gm:=X.fb) (lo:=none) (a:=1) (z:=.cJ) g2 (r:=some (.fn (.func wJ) [] [.ptr N 0,.ptr (N+1) 0])) (by simp[MN]);rw[c]at p d;simp only[F1,go_sem,simprocAttr,FO,i,k,j,m3,d,p];rfl
 ·have d:=VK (gm:=X.fb) (lo:=none) (a:=2) (z:=.cJ) g2 (r:=some (.fn (.func yL) [] [.ptr N 0,.ptr (N+1) 0])) (by simp[MN]);rw[c]at o d;simp only[F1,go_sem,simprocAttr,FO,i,k,j,m3,d,o];rfl
def MO(K:bg)(aa h a t:Nat):Bool:=decide ((b9 K t).1.to=aa)&& ((decide (a=0)&&xl K h t)|| (decide (a=1)&& (b9 K t).1.mu&&zD K h t))
def avM(T:aw)(O:bM)(K:bg)(m:gy K)(aa h a t:Nat)(w:t<4294967296)(n o q p:Nat)(H:List ae)(i:H[n]?=some (.box (gd T O K) none))(u:H[o]?=some (.box [.int .i64 aa] none))
  (z:H[q]?=some (.box [.int .u8 a] none)) (y:H[p]?=some (.box [.int .u32 h] none)) (lo:oN):
  D X (.fn (.func J0) [] [.ptr n 0,.ptr o 0,.ptr q 0,.ptr p 0]) [.int .u32 t] ⟨H,lo⟩=some (.ret (.bool (MO K aa h a t)) ⟨H,lo⟩):=by
 refine eP xc λN j=>?_
 have g1: ∀L,(H++L)[n]?=_:=λL=>bc i
 have g2: ∀L,(H++L)[o]?=_:=λL=>bc u
 have l: ∀L,(H++L)[q]?=_:=λL=>bc z
 have A: ∀L,(H++L)[p]?=_:=λL=>bc y
 have b:=λH lo=>up dk (Cu K m t w H lo)
 have hr:=ajq K m h t w;have s:=ajr K m h t w;have r:=m.get t;have c:MO K aa h a t=(decide ((b9 K t).1.to=aa)&& ((decide (a=0)&&xl K h t)|| (decide (a=1)&& (b9 K t).1.mu&&zD K h t))):=rfl;generalize G: (b9 K t).1=x at*;have v:=nI x;rw[v]at b;have F:=r.to;by_cases E:x.to=aa
 ·have d:decide ((x.to:Int)=aa)=true:=ag9 (by omega);rw[ag9 E,ao1]at c;by_cases C:a=0
  ·have f:decide ((a:Int)=0)=true:=ag9 (by omega);have e:decide ((a:Int)=1)=false:=ag7 (by omega);rw[ag9 C,ag7 (by omega: ¬a=1),ao1,akI,akI,Bool.or_false]at c;cases k:xl K h t
   ·rw[k]at hr c;simp(disch:=omega) only[F1,go_sem,simprocAttr,xc,j,i,g1,g2,l,A,↓rl,b,d,f,e,hr,c]
   ·rw[k]at hr c;simp(disch:=omega) only[F1,go_sem,simprocAttr,xc,j,i,g1,g2,l,A,↓rl,b,d,f,hr,c]
  ·have f: ¬(a:Int)=0:=by omega
   rw[ag7 C,akI,au3]at c;by_cases B:a=1
   ·have e:decide ((a:Int)=1)=true:=ag9 (by omega);rw[ag9 B,ao1]at c;cases g:x.mu
    ·rw[g,akI]at c;simp(disch:=omega) only[F1,go_sem,simprocAttr,xc,j,i,g2,l,↓rl,b,d,f,e,g,c]
    ·rw[g,ao1]at c;simp(disch:=omega) only[F1,go_sem,simprocAttr,xc,j,i,g1,g2,l,A,↓rl,b,d,f,e,g,s,c]
   ·have e: ¬(a:Int)=1:=by omega
    rw[ag7 B,akI,akI]at c;simp(disch:=omega) only[F1,go_sem,simprocAttr,xc,j,i,g2,l,↓rl,b,d,f,e,c]
 ·have d: ¬(x.to:Int)=aa:=by omega
  rw[ag7 E,akI]at c;simp(disch:=omega) only[F1,go_sem,simprocAttr,xc,j,i,g2,↓rl,b,d,c]
def avN(T:aw)(O:bM)(K:bg)(f:gy K)(aa h a:Nat)(H:List ae)(lo:oN):
  D X (.fn (.func Rr) [] []) [.agg (gd T O K),.int .i64 aa,.int .u32 h,.int .u8 a] ⟨H,lo⟩=some (.ret (.bool (Gk K aa h a)) ⟨H,lo⟩):=by
 refine aF TJ λN e=>?_
 obtain⟨d,b⟩: ∃d,d=H++[ae.box (gd T O K) none,.box [.int .i64 aa] none,.box [.int .u32 h] none,.box [.int .u8 a] none]:=⟨_,rfl⟩;have k:d[N]?=some (.box (gd T O K) none):=by rw[b,di e];rfl
 have g1:d[N+1]?=some (.box [.int .i64 aa] none):=by rw[b,bA e];rfl
 have g2:d[N+2]?=some (.box [.int .u32 h] none):=by rw[b,bA e];rfl
 have j:d[N+3]?=some (.box [.int .u8 a] none):=by rw[b,bA e];rfl
 obtain⟨w,e1,l,e3⟩:=VH K f h d none;have c: (nq K h).length<2^40:=by
  have:=nm K.b;have: (nq K h).length<=_:=amL _ _;omega
 have g:=ait dk w (.fn (.func J0) [] [.ptr N 0,.ptr (N+1) 0,.ptr (N+3) 0,.ptr (N+2) 0]) (nq K h) d (l _) c (MO K aa h a) none
  (λt i=>avM T O K f aa h a t (gg ((jm f.b).1 (aiJ.1 i).1)) N (N+1) (N+3) (N+2) d k g1 j g2 none)
 have m:Gk K aa h a=(nq K h).any (MO K aa h a):=rfl;rw[b]at e1 g;simp only[F1,go_sem,simprocAttr,TJ,e,↓rl,e1,g,m]
def ajE{x:Nat}(a:x<256)(b:k<8):decide ((x/2^k) % 2=1)=x.testBit k:=by grind
def avO(T:aw)(M:bN T)(v:cm T)(O:bM)(P:fF O)(K:bg)(Q:gy K)(aa:Nat)(S:aa<256)(h:Nat)(F:h<4294967296)(c:Nat)(B:c<=2)(H:List ae)(lo:oN):
  D X (.fn (.func Rh) [] []) [.agg (gd T O K),.int .i64 aa,.int .u32 h,.int .u8 c] ⟨H,lo⟩=some (.ret (.int .i64 (xm T O K aa h c:Nat)) ⟨H,lo⟩):=by
 refine aF nd λN n=>?_
 have g:=λH lo=>up dk (eo T.b h F H lo)
 have G: ∀h,ax T.b h=T.ax h:=λh=>rfl
 simp only[G]at g;have k:=λH lo=>up dk (Ct O P T M v h F H lo)
 have m:=avL T M v O K Q h F c B;have hle:=avN T O K Q aa h c;have s:=P.of T h;have a:Den.part true 96 (gd T O K) 0=some (.agg (bY T.b)):=by
  have e:gd T O K=bY T.b++(xg T.r++(cF O++bW K)):=by simp[gd,aJ]
  rw[e];exact xi (ow _) (by omega)
 have d:Den.part true 784 (gd T O K) 0=some (.agg (gd T O K)):=F8 (lj _ _ _);have f:xm T O K aa h c=if T.ax h=false then 4
  else if(b0 O T h).kind=3 then(if c=0/\aa<8/\ (b0 O T h).hold.testBit aa=true then 0 else 5)
  else if(b0 O T h).kind=1 then(if((b0 O T h).aa=aa/\Gj T K h c=true)\/Gk K aa h c=true then 0 else 5)
  else 5:=rfl
 generalize V:b0 O T h=x at*;have C:=Cw x;rw[C]at k;cases z:T.ax h with
 |false=>
  rw[afJ z]at f;rw[z]at g;simp only[F1,go_sem,simprocAttr,nd,n,↓a,g,f]
 |true=>
  rw[afB (by rw[z];simp)]at f;rw[z]at g;by_cases J:x.kind=3
  ·have j:decide ((x.kind:Int)=3)=true:=ag9 (by omega);rw[afJ J]at f;by_cases w:c=0
   ·have i: (c:Int)=0:=by omega
    have c0: (aa:Int)>=0:=by omega
    by_cases I:aa<8
    ·have r: (aa:Int)<8:=by omega
     have t:k5 .shr (.int .u8 (x.hold:Nat)) (.int .i64 (aa:Nat))=some (.int .u8 ((x.hold/2^aa:Nat):Int)):=by
      rw[DR,afJ (by omega)];have U:IntKind.u8.bits=8:=rfl;rw[U,azD,arI (by omega)]
      congr 2
      rw[Int.fdiv_eq_ediv_of_nonneg _ (Int.le_of_lt (Int.pow_pos (by decide)))];simp
     have E:x.hold/2^aa<256:=Nat.lt_of_le_of_lt (aBi _ _) s.hold;have hand:dh .and (.int .u8 ((x.hold/2^aa:Nat):Int)) (.int .u8 1)=some (.int .u8 ((x.hold/2^aa % 2:Nat):Int)):=by
      have:=MK (b:=1) E (by omega);have e:x.hold/2^aa&&&1=x.hold/2^aa % 2:=Nat.and_one_is_mod _;rw[e]at this;exact this
     have p:=ajE s.hold I;cases A:x.hold.testBit aa
     ·rw[A,afB (by simp)]at f;rw[A]at p;have o: ¬((x.hold/2^aa % 2:Nat):Int)=1:=by
       have:=of_decide_eq_false p;omega
      simp only[F1,go_sem,simprocAttr,nd,n,↓a,↓pX,↓pW,g,k,j,i,c0,r,t,hand,o,f]
     ·rw[A,afJ ⟨w,I,rfl⟩]at f;rw[A]at p;have o:decide (((x.hold/2^aa % 2:Nat):Int)=1)=true:=by
       have:=au4 p;exact ag9 (by omega)
      simp only[F1,go_sem,simprocAttr,nd,n,↓a,↓pX,↓pW,g,k,j,i,c0,r,t,hand,o,f]
    ·have r: ¬(aa:Int)<8:=by omega
     rw[afB (λq=>I q.2.1)]at f;simp only[F1,go_sem,simprocAttr,nd,n,↓a,↓pX,↓pW,g,k,j,i,c0,r,f]
   ·have i: ¬(c:Int)=0:=by omega
    rw[afB (λq=>w q.1)]at f;simp only[F1,go_sem,simprocAttr,nd,n,↓a,↓pX,↓pW,g,k,j,i,f]
  ·have j: ¬(x.kind:Int)=3:=by omega
   rw[afB J]at f;by_cases L:x.kind=1
   ·have l:decide ((x.kind:Int)=1)=true:=ag9 (by omega);rw[afJ L]at f;have R:=s.aa;cases y:Gk K aa h c<;>by_cases w:x.aa=aa
    ·have i:decide ((x.aa:Int)=aa)=true:=ag9 (by omega);rw[y]at hle f;cases u:Gj T K h c
     ·rw[u]at m f;rw[afB (by simp)]at f;simp(disch:=omega) only[F1,go_sem,simprocAttr,nd,n,↓a,↓pX,↓pW,↓d,g,k,j,l,i,m,hle,f]
     ·rw[u]at m f;rw[afJ (.inl ⟨w,rfl⟩)]at f;simp(disch:=omega) only[F1,go_sem,simprocAttr,nd,n,↓a,↓pX,↓pW,↓d,g,k,j,l,i,m,f]
    ·have i: ¬(x.aa:Int)=aa:=by omega
     rw[y]at hle f;rw[afB (by simp[w])]at f;simp(disch:=omega) only[F1,go_sem,simprocAttr,nd,n,↓a,↓pX,↓pW,↓d,g,k,j,l,i,hle,f]
    ·have i:decide ((x.aa:Int)=aa)=true:=ag9 (by omega);rw[y]at hle f;rw[afJ (.inr rfl)]at f;cases u:Gj T K h c
     ·rw[u]at m;simp(disch:=omega) only[F1,go_sem,simprocAttr,nd,n,↓a,↓pX,↓pW,↓d,g,k,j,l,i,m,hle,f]
     ·rw[u]at m;simp(disch:=omega) only[F1,go_sem,simprocAttr,nd,n,↓a,↓pX,↓pW,↓d,g,k,j,l,i,m,f]
    ·have i: ¬(x.aa:Int)=aa:=by omega
     rw[y]at hle f;rw[afJ (.inr rfl)]at f;simp(disch:=omega) only[F1,go_sem,simprocAttr,nd,n,↓a,↓pX,↓pW,↓d,g,k,j,l,i,hle,f]
   ·have l: ¬(x.kind:Int)=1:=by omega
    rw[afB L]at f;simp only[F1,go_sem,simprocAttr,nd,n,↓a,↓pX,↓pW,g,k,j,l,f]
structure vK(m:kj):Prop where
 fr:m.fr<8
 word:m.word<18446744073709551616
 aL:m.aL<4294967296
structure iV(b:cK):Prop where
 fr:b.fr<4
 n:b.n<=4
 ring: ∀i,vK (b.ring i)
theorem VL:vK zE:=⟨by trivial,by trivial,by trivial⟩
theorem iV.gone:iV zF:=⟨by trivial,by trivial,λ_=>VL⟩
def iV.close{b:cK}(h:iV b):iV (vk b).1:=by
 unfold vk;split
 ·exact h
 ·exact⟨h.fr,h.n,h.ring⟩
def iV.put{b:cK}(h:iV b){m:kj}(a:vK m):iV (oA b m).1:=by
 unfold oA;split
 ·exact h
 ·split
  ·exact h
  ·refine⟨h.fr,by have:=h.n;grind,λi=>?_⟩;show vK (aq b.ring (l8 b b.n) m i);by_cases e:i=l8 b b.n
   ·rw[e,cT];exact a
   ·rw[dj e];exact h.ring i
def iV.take{b:cK}(h:iV b):iV (mK b).1/\vK (mK b).2.1:=by
 unfold mK;split
 ·exact⟨h,VL⟩
 ·exact⟨⟨ao3 _ (by omega),by have:=h.n;grind,h.ring⟩,h.ring _⟩
theorem ajF(b:cK)(i:Nat):l8 b i<4:=ao3 _ (by omega)
def zB:lA:=[.int .u8 0,.int .u64 0,.int .u32 0,.bool false,.int .u8 0,.int .u64 0,.int .u32 0,.bool false,.int .u8 0,.int .u64 0,.int .u32 0,.bool false,.int .u8 0,.int .u64 0,.int .u32 0,.bool false,.int .i64 0,.int .i64 0,.bool false]
theorem ajG{b:cK}:List.take 19 (cq b)=cq b:=by rfl
def MB:=gG @ajG<|gG @zv @ahD
theorem oL(m:kj):eh m=[.int .u8 m.fr,.int .u64 m.word,.int .u32 m.aL,.bool m.share]:=rfl
def VM(b:cK)(d:b.fr<4)(i:Nat)(c:i<1000)(H:List ae)(lo:oN):D X0 (.fn (.func Br) [] []) [.agg (cq b),.int .i64 i] ⟨H,lo⟩=some (.ret (.int .i64 (l8 b i:Nat)) ⟨H,lo⟩):=by
 refine aF TH λN a=>?_
 have e: ((b.fr:Int)+i).tmod 4=(l8 b i:Nat):=by rfl
 simp(disch:=omega) only[F1,go_sem,simprocAttr,TH,a,↓ahU,e]
def VN(b:cK)(l:iV b)(m:kj)(H:List ae)(lo:oN):
  D X0 (.fn (.func Ra) [] []) [.agg (cq b),.agg (eh m)] ⟨H,lo⟩=some (.ret (.au [.agg (cq (oA b m).1),.int .i64 (oA b m).2]) ⟨H,lo⟩):=by
 refine aF FX λN j=>?_
 have e:oA b m=if b.closed then(b,11)else if b.n=4 then(b,7)else({b with ring:=aq b.ring (l8 b b.n) m,n:=b.n+1},0):=rfl
 have hm:=oL m;cases f:b.closed
 ·rw[f,afB (by simp)]at e;by_cases k:b.n=4
  ·rw[afJ k]at e;have d:decide ((b.n:Int)=4)=true:=ag9 (by omega);simp only[F1,go_sem,simprocAttr,FX,j,hm,↓zw,f,↓B9,d,MB,↓rk,e]
  ·rw[afB k]at e;have d: ¬(b.n:Int)=4:=by omega
   have p:=l.n;have i:=VM b l.fr b.n (by omega);have h:=ajF b b.n;have a:=atb (b:=b) (x:=m) h;rw[hm]at a;have g: ∀c,aH (cq ⟨aq b.ring (l8 b b.n) m,b.fr,b.n,c⟩) 17 [.int .i64 ((b.n:Int)+1)]=cq ⟨aq b.ring (l8 b b.n) m,b.fr,b.n+1,c⟩:=λc=>ahV (x:=b.n+1)
   have o: (N+1 !=N)=true:=by simp
   simp(disch:=omega) only[F1,go_sem,simprocAttr,FX,j,hm,↓zw,f,↓B9,d,MB,↓rk,i,a,g,e];exact⟨by omega,by omega⟩
 ·rw[f,afJ rfl]at e;simp only[F1,go_sem,simprocAttr,FX,j,hm,↓zw,f,MB,↓rk,e]
def aV(x:ar)(bk:AV):lA:=bz x.s++([.int .i64 x.aa]++(bf x.c++(ay x.run++[.int .i64 x.mL,.bool x.asks,bk])))
def MQ(x:ar)(bk:AV): (aV x bk).length=964:=by simp only[aV,ahc,eU];rfl
section
variable{x:ar}{bk:AV}
theorem vL{ag:Bool}{m o:Nat}(ho:o+m<=952)(a:0<m):Den.part ag m (aV x bk) o=Den.part ag m (bz x.s) o:=by
 unfold aV;exact rh (by rw[eU];exact ho) a
def oM{ag:Bool}{m o:Nat}(ho:952<=o):Den.part ag m (aV x bk) o=Den.part ag m ([.int .i64 x.aa]++(bf x.c++(ay x.run++[.int .i64 x.mL,.bool x.asks,bk]))) (o-952):=by
 unfold aV;rw[kh (by rw[eU];exact ho),eU]
def ajH:Den.part true 480 (aV x bk) 0=some (.agg (aJ x.s.T)):=by grind [vL,UH]
theorem VO:Den.part true 96 (aV x bk) 0=some (.agg (bY x.s.T.b)):=by rfl
def ajI:Den.part true 128 (aV x bk) 480=some (.agg (cF x.s.O)):=by grind [vL,UI]
def ajJ:Den.part true 176 (aV x bk) 608=some (.agg (bW x.s.K)):=by grind [vL,UJ]
def ajK:Den.part true 784 (aV x bk) 0=some (.agg (gd x.s.T x.s.O x.s.K)):=by grind [vL,UF]
def ajL:Den.part true 952 (aV x bk) 0=some (.agg (bz x.s)):=by grind [vL,UG]
def MR{i:Nat}(h:i<8):Den.part true 19 (aV x bk) (784+i*19)=some (.agg (cq (x.s.c8 i))):=by grind [vL,atf]
def VP{i:Nat}(h:i<8):Den.part false 1 (aV x bk) (936+i)=some (.bool (x.s.alive i)):=by grind [vL,ahX]
def avP{i:Nat}(h:i<8):Den.part false 1 (aV x bk) (944+i)=some (.bool (x.s.born i)):=by grind [vL,atg]
def ajM:Den.part false 1 (aV x bk) 952=some (.int .i64 x.aa):=by rw[oM (by omega)];rfl
def ajN:Den.part false 1 (aV x bk) 953=some (.int .u8 x.c.op):=by rw[oM (by omega)];rfl
def ajO:Den.part false 1 (aV x bk) 954=some (.int .u32 x.c.r):=by rw[oM (by omega)];rfl
def ajP:Den.part false 1 (aV x bk) 955=some (.int .u32 x.c.s):=by rw[oM (by omega)];rfl
def ajQ:Den.part false 1 (aV x bk) 956=some (.int .u32 x.c.a):=by rw[oM (by omega)];rfl
def ajR:Den.part false 1 (aV x bk) 957=some (.int .u32 x.c.b):=by rw[oM (by omega)];rfl
def ajS:Den.part false 1 (aV x bk) 958=some (.int .u64 x.c.v):=by rw[oM (by omega)];rfl
def ajT:Den.part true 6 (aV x bk) 953=some (.agg (bf x.c)):=by rw[oM (by omega)];rfl
def ajU:Den.part true 2 (aV x bk) 959=some (.agg (ay x.run)):=by rw[oM (by omega)];rfl
def ajV:Den.part false 1 (aV x bk) 960=some (.int .i64 x.run.2):=by rw[oM (by omega)];rfl
def ajW:Den.part false 1 (aV x bk) 961=some (.int .i64 x.mL):=by rw[oM (by omega)];rfl
def ajX:Den.part false 1 (aV x bk) 962=some (.bool x.asks):=by rw[oM (by omega)];rfl
def ajY:Den.part false 1 (aV x bk) 963=some bk:=by rw[oM (by omega)];rfl
def CL:=gG @ajH<|gG @VO<|gG @ajI<|gG @ajJ<|gG @ajK<|gG @ajL<|gG @ajM<|gG @ajN<|gG @ajO<|gG @ajP<|gG @ajQ<|gG @ajR<|gG @ajS<|gG @ajT<|gG @ajU<|gG @ajV<|gG @ajW<|gG @ajX @ajY
def Cx{s:bG}{o:Nat}(ho:o+vs.length<=952)(h:aH (bz x.s) o vs=bz s):aH (aV x bk) o vs=aV {x with s:=s} bk:=by
 unfold aV;rw[ri (by rw[eU];exact ho),h]
theorem VQ:aH (aV x bk) 0 (aJ t)=aV (x.t t) bk:=Cx (by rw[iq];omega) ath
theorem ajZ{w:bM}:aH (aV x bk) 480 (cF w)=aV (x.o w) bk:=Cx (by rw[sL];omega) ati
theorem aj0{k:bg}:aH (aV x bk) 608 (bW k)=aV (x.k k) bk:=Cx (by rw[zu];omega) atj
theorem MS{i:Nat}{b:cK}(h:i<8):aH (aV x bk) (784+i*19) (cq b)=aV (x.bx i b) bk:=Cx (by rw[zv];omega) (atk h)
theorem aj1{i:Nat}{v:Bool}(h:i<8):aH (aV x bk) (936+i) [.bool v]=aV {x with s:={x.s with alive:=aq x.s.alive i v}} bk:=Cx (by grind) (ahZ h)
theorem avQ{i:Nat}{v:Bool}(h:i<8):aH (aV x bk) (944+i) [.bool v]=aV {x with s:={x.s with born:=aq x.s.born i v}} bk:=Cx (by grind) (ah0 h)
def Cy{o:Nat}(ho:952<=o):aH (aV x bk) o vs=bz x.s++aH ([.int .i64 x.aa]++(bf x.c++(ay x.run++[.int .i64 x.mL,.bool x.asks,bk]))) (o-952) vs:=by
 unfold aV;rw[gr (by rw[eU];exact ho),eU]
def aj2:aH (aV x bk) 961 [.int .i64 n]=aV {x with mL:=n} bk:=by rw[Cy (by omega)];rfl
def aj3:aH (aV x bk) 963 [v]=aV x v:=by rw[Cy (by omega)];rfl
def CS:=gG @VQ<|gG @ajZ<|gG @aj0<|gG @aj2<|gG @aj3 @MQ
end
abbrev iW(e:Nat):AV:=.c9 ss (.int .i64 (e:Nat))
theorem aj4{t:TypeId}:ZF (.c9 t v)=some (.c9 t v):=rfl
def aj5{X:Ctx}{a:List RV}{R:aS->Prop}{e:Env}{E:AS}:dp X n lo a R (.panic v) ⟨e,[]⟩ E=R (.panic (finish n lo v E).1 (finish n lo v E).2):=by
 simp[dp,dA]
def EP:=gG @aj4 @aj5
def Gy(e:Int)(H:List ae)(lo:oN):D X0 (.fn (.func cQ) [] []) [.bool true,.int .i64 e] ⟨H,lo⟩=some (.ret (.au []) ⟨H,lo⟩):=by
 refine aF FB λN a=>?_
 simp(disch:=omega) only[F1,go_sem,simprocAttr,FB]
def zS(e:Nat)(H:List ae)(lo:oN):D X0 (.fn (.func cQ) [] []) [.bool false,.int .i64 e] ⟨H,lo⟩=some (.panic (iW e) ⟨H,lo⟩):=by
 refine aF FB λN a=>?_
 simp(disch:=omega) only[F1,go_sem,simprocAttr,FB,EP]
def avR(H:List ae)(lo:oN):D X0 (.fn (.func gU) [] []) [.int .i64 0] ⟨H,lo⟩=some (.ret (.au []) ⟨H,lo⟩):=by
 refine aF FT λN a=>?_
 simp(disch:=omega) only[F1,go_sem,simprocAttr,FT,Gy]
def avS(e:Nat)(b:e≠0)(H:List ae)(lo:oN):D X0 (.fn (.func gU) [] []) [.int .i64 e] ⟨H,lo⟩=some (.panic (iW e) ⟨H,lo⟩):=by
 refine aF FT λN c=>?_
 have a: ¬(e:Int)=0:=by omega
 simp(disch:=omega) only[F1,go_sem,simprocAttr,FT,zS,a,EP]
def zT{X:Ctx}{e:Env}{E:AS}{R:aS->Prop}{b c m:Nat}{ag d:Bool}:dp X n lo [.cell a ag m,.cell b d k,.t c] R .ret ⟨e,[]⟩ E=okV (cg X E ag m (e a)) (λv E=>okV (cg X E d k (e b)) (λu E=>mv n lo R (.au [v,u,e c]) E) E) E:=by
 simp only[wm,wo,fk,jz,nT];cases h:cg X E ag m (e a)with
 |none=>simp[okV,h]
 |some v=>
  cases f:cg X E d k (e b)with
  |none=>simp[okV,h,f]
  |some u=>simp[okV,mv,h,f]
def avT(b:cK)(i:iV b)(H:List ae)(lo:oN):
  D X0 (.fn (.func Rb) [] []) [.agg (cq b)] ⟨H,lo⟩=some (.ret (.au [.agg (cq (mK b).1),.agg (eh (mK b).2.1),.int .i64 (mK b).2.2]) ⟨H,lo⟩):=by
 refine aF FY λN k=>?_
 have d:mK b=if b.n=0 then(b,zE,if b.closed then 11 else 10)else({b with fr:=l8 b 1,n:=b.n-1},b.ring b.fr,0):=rfl
 have e:eh zE=[.int .u8 0,.int .u64 0,.int .u32 0,.bool false]:=rfl;by_cases l:b.n=0
 ·rw[afJ l]at d;have a:decide ((b.n:Int)=0)=true:=ag9 (by omega);cases g:b.closed
  ·rw[g,afB (by simp)]at d;simp only[F1,go_sem,simprocAttr,FY,k,↓zw,g,↓B9,a,MB,↓rk,d,e,zT]
  ·rw[g,afJ rfl]at d;simp only[F1,go_sem,simprocAttr,FY,k,↓zw,g,↓B9,a,MB,↓rk,d,e,zT]
 ·rw[afB l]at d;have a: ¬(b.n:Int)=0:=by omega
  have m:=i.n;have j: ∀H lo,D X0 (.fn (.func Br) [] []) [.agg (cq b),.int .i64 1] ⟨H,lo⟩=_:=VM b i.fr 1 (by omega);have h:=i.fr;have f: (b.fr:Int)<4:=by omega
  have hm:=oL (b.ring b.fr);have c:=ahT (b:=b) h;have o: ((b.n:Int)-1)=((b.n-1:Nat):Int):=by omega
  rw[hm]at c;simp(disch:=omega) only[F1,go_sem,simprocAttr,FY,k,↓B9,↓ahU,a,MB,↓rk,j,↓c,f,o,atc,ahV,d,hm,zT];simp
def avU(b:cK)(H:List ae)(lo:oN):
  D X0 (.fn (.func Rc) [] []) [.agg (cq b)] ⟨H,lo⟩=some (.ret (.au [.agg (cq (vk b).1),.int .i64 (vk b).2]) ⟨H,lo⟩):=by
 refine aF LW λN c=>?_
 have d:vk b=if b.closed then(b,11)else({b with closed:=true},0):=rfl
 cases a:b.closed
 ·simp only[F1,go_sem,simprocAttr,LW,c,↓zw,a,MB,↓rk,atd,d]
 ·simp only[F1,go_sem,simprocAttr,LW,c,↓zw,a,MB,↓rk,d]
def avV(b:cK)(N:Nat)(H:List ae)(c:H.length=N)(lo:oN):D X0 (.fn (.func Rw) [] []) [.agg (cq b)] ⟨H,lo⟩=some (.ret (.fn (.func Bu) [] [.ptr N 0]) ⟨H++[.box (cq b) none],lo⟩):=by
 refine aF TW λM a=>?_
 obtain rfl:M=N:=by omega
 simp only[go_sem,simprocAttr,TW,a];rw[Cn (by omega)]
def xI(b:cK):List lA:=(fQ b).map λm=>[.agg (eh m)]
def VS(b:cK): (xI b).length=b.n:=by simp[xI,fQ]
def aj6{b:cK}(h:j<b.n): (xI b)[j]?=some [.agg (eh (b.ring (l8 b j)))]:=by
 unfold xI fQ
 grind
def avW(b:cK)(L:iV b)(a:Nat):uL X0 (.fn (.func Bu) [] [.ptr a 0]) a [.box (cq b) none] (xI b):=by
 intro S V y I J base M j A W s hP h0 wC g hG lo;have t: ∀i,V.dP i->i<base:=λi hi=>(j i hi).1
 suffices h: ∃x,D X0 (.fn (.func Bu) [] [.ptr a 0]) [y] ⟨W,lo⟩=some x/\
   (λx=> ∃d f ak,x=aS.ret (.au []) ⟨f,ak⟩/\V.P d f/\ (I (xI b).length d\/J d)/\base<=f.length/\
     (∀i,i<base-> ¬V.dP i-> ¬(a<=i/\i<a+[ae.box (cq b) none].length)->f[i]?=W[i]?)/\m0 V.c base lo ak none (V.row d)) x by
  obtain⟨x,h1,d,f,ak,rfl,Y,X,U,T,R⟩:=h;exact⟨d,f,ak,h1,Y,X,U,T,R⟩
 refine vE TZ rfl rfl rfl λN hN=>?_
 obtain rfl:N=base:=by omega
 have E:W[a]?=some (.box (cq b) none):=hG 0 (by simp);have ha:=eY E;have B: ¬V.dP a:=λq=>(j a q).2 ⟨by omega,by simp⟩
 have Oo:=L.n;simp only[go_sem,simprocAttr,TZ,E,↓B9];refine gS b.n (λk e f ak=> ∃d,I k d/\j6 V N W (λi=>a<=i/\i<a+[ae.box (cq b) none].length) d f ak/\f[a]?=some (.box (cq b) none)/\e 0=y/\e 1= .ptr a 0/\e 5= .int .i64 b.n/\e 6= .int .i64 k) 0 (by omega) ?_ ?_
 ·simp only[go_sem,simprocAttr];exact⟨s,h0,⟨hP,by omega,λ_ _ _ _=>rfl,.inl ⟨rfl,g⟩,λr e=>by rw[g]at e;cases e⟩,E⟩
 rintro k hk e W1 z ⟨s1,O,p,w0,Q,e1,P,e6⟩ n hn;simp only[bR,go_sem,simprocAttr,ag2,Q,e1,P,e6];refine⟨λh=>?_,λh=>?_⟩
 ·have u:k<b.n:=by omega
  have hx:=aj6 u;have v:=VM b L.fr k (by omega);have C:=ajF b k;have m: (l8 b k:Int)<4:=by omega
  have l:=ahT (b:=b) C;obtain⟨c,s2,W2,jB,K,p2,H,p4,Z,G⟩:=A k _ s1 hx O W1 p.P p.len z;have w:=p.step p2 H p4 Z;have Vj:N<=n:=by have:=p.len;omega
  have v0:W2[a]?=some (.box (cq b) none):=by rw[H.2 a (by omega) B (λq=>by have:=p.row _ q;omega)];exact w0
  cases c
  ·obtain⟨F,o,f1,f2,f3,f4,f5⟩:=w.fin M t (dy:=lo);simp only[go_sem,simprocAttr,e1,w0,MB,v,m,↓l,K,f1];exact⟨s2,F,o,rfl,f2,.inr G,f3,f4,f5⟩
  ·simp(disch:=omega) only[go_sem,simprocAttr,Q,e1,P,e6,w0,MB,v,m,↓l,K];exact⟨u,s2,G,w,v0⟩
 ·obtain⟨F,o,f1,f2,f3,f4,f5⟩:=p.fin M t (dy:=lo);simp only[go_sem,simprocAttr,f1];exact⟨s1,F,o,rfl,f2,.inl (by rw[VS,show b.n=k by omega];exact O),f3,f4,f5⟩
def aj7{N id aj:Nat}{H:List ae}{ty:TypeId}(e:N<=id)(c:H[id]?=some (.row aj sz ty af))(d:n=af.length)(a:b8 af<=N):Den.freeze ⟨H,lo⟩ N (k+4) (.ref id aj sz 0 n true)=some (.sl af true):=by
 subst d;have b: ¬(AV.ref id aj sz 0 af.length true).refs<=N:=by simp only[AV.refs];omega
 rw[Den.freeze,afB b];simp only[c];rw[afJ ⟨trivial,trivial,by omega⟩];simp only[amS,ahn];rw[PK af a]
def avX(H:List ae)(lo:oN):D X0 (.fn (.func JZ) [] []) [.ai] ⟨H,lo⟩=some (.ret .ai ⟨H,lo⟩):=by
 refine aF F6 λN b=>?_
 have a:fX 4 .ai none (some (.int .i64 0)) (some (.int .i64 0))=some .ai:=by rfl
 simp(disch:=omega) only[F1,go_sem,simprocAttr,F6,a]
def avY(id aj n:Nat)(H:List ae)(c:id<H.length)(lo:oN):D X0 (.fn (.func JZ) [] []) [.ref id aj 4 0 n false] ⟨H,lo⟩=some (.ret (.ref id aj 4 0 n true) ⟨H,lo⟩):=by
 refine aF F6 λN d=>?_
 have b:fX 4 (.ref id aj 4 0 n false) none (some (.int .i64 (n:Nat))) (some (.int .i64 (n:Nat)))=some (.ref id aj 4 0 n true):=by simp[fX,fW,lK,lL]
 have a: ∀E,fj E .sl (.ref id aj 4 0 n false)=some (.int .i64 n):=λE=>rfl
 simp only[go_sem,simprocAttr,F6,b,a];rw[iU (.inl rfl) (by simp only[AV.refs];omega),ag8 (by omega)]
structure MSt where
 l:List kj
 row:oN
def mV(H:List ae)(N:Nat):YV MSt:=⟨λs W=>j8 N H W/\SV (N+1) 4 EG W s.row (s.l.map eh),MSt.row,λi=>i<N+2,N+1⟩
def avZ{H:List ae}{N:Nat}: (mV H N).Ok where
 st:=λs W d ⟨c,b⟩ hs=>by
  refine⟨λi a=>?_,b.st (hs _ (.inl (awf _))) λi a=>hs i (.inr a)⟩;have:i<N+2:=by omega
  rw[hs i (.inl this)];exact c i a
 lt:=λs W r ⟨_,b⟩ hr=>b.row hr
def av0(b:cK)(hb:iV b)(H:List ae)(lo:oN):
  ∃w,D X0 (.fn (.func JT) [] []) [.agg (cq b)] ⟨H,lo⟩=some (.ret w ⟨H,lo⟩)/\Rv w 4 ((fQ b).map eh)/\w.refs=0:=by
 suffices hs: ∃B,D X0 (.fn (.func JT) [] []) [.agg (cq b)] ⟨H,lo⟩=some B/\ (λB=> ∃w,B=aS.ret w ⟨H,lo⟩/\Rv w 4 ((fQ b).map eh)/\w.refs=0) B by
  obtain⟨B,h1,w,rfl,h2⟩:=hs;exact⟨w,h1,h2⟩
 refine cy TI λN l=>?_
 have he:=avV b (N+2) (H++[.box (cq b) none,.box [.ai] none]) (by simp[l]) none;have Oo:=hb.n;simp only[go_sem,simprocAttr,TI,l,he,↓rk];obtain⟨p,c⟩: ∃p,p=H++[ae.box (cq b) none,.box [.ai] none,.box (cq b) none]:=⟨_,rfl⟩;rw[<-c];have A:p.length=N+3:=by rw[c];simp[l]
 generalize o: ((((((cZ _).set 1 _).set 2 _).set 3 _).set 5 _).set 6 _)=e;have E:e 3= .ptr (N+1) 0:=by rw[<-o];rfl
 have Z: (ao.t 6).get e= .fn (.func Bu) [] [.ptr (N+2) 0]:=by rw[<-o];rfl
 clear o;refine ID (mV H N) avZ (xI b) (N+2) [.box (cq b) none] p ⟨[],none⟩ (by rw[Z];rfl) (by rw[Z];exact avW b hb (N+2)) (λi a=>?_) (by simp[A]) (λi a=>?_) ⟨?_,?_⟩ rfl
  (λj s=>s.l=(fQ b).take j) (λ_ _=>False) rfl (λ_ _ h=>h.elim) ?_ ?_ (λ_ _ _ _ h=>h.elim)
 ·have:i=0:=by simpa using a
  subst this;rw[c,ahu,bA l];rfl
 ·have:i<N+2:=a;exact⟨by omega,by omega⟩
 ·rw[c];exact j8.app l
 ·exact .inl ⟨rfl,rfl,by rw[c,bA l];rfl⟩
 ·intro j y s L U;have hj:j<b.n:=by
   have:=(afA.1 L).1;rwa[VS]at this
  have d:s.l=(fQ b).take j:=U;have z: (fQ b)[j]?=some (b.ring (l8 b j)):=by unfold fQ;rw[aiY,arB hj];rfl
  rw[aj6 hj]at L;cases L;generalize b.ring (l8 b j)=m at*;refine⟨rfl,λW hP wC=>?_⟩;obtain⟨n,hn⟩: ∃n,W.length=n:=⟨_,rfl⟩;have hm:=oL m;simp only[go_sem,simprocAttr,iE,hn,hm];refine⟨[.box (eh m) none],rfl,λC hW2 T=>?_⟩;obtain⟨F,r⟩:=T;have t:C.length=n:=by omega
  have f: ∀i,s.row=some i->N+1<i/\i<n:=by
   intro i a;rcases r with⟨q,_⟩| ⟨id,aj,q,_,J,E,q4⟩
   ·rw[q]at a;cases a
   ·rw[q]at a;cases a;exact⟨J,by have:=eY q4;omega⟩
  have M:SV (N+1) 4 EG (C++[.box (eh m) none]) s.row (s.l.map eh):=r.st (by rw[aeT (by omega)]) λi a=>by
   rw[aeT (by have:=f i a;omega)]
  have wk:s.l.length<=4:=by rw[d,ai1];have: (fQ b).length=b.n:=by simp[fQ]
                            omega
  obtain⟨vv,v',W3,V,Y,a1,a2,a3,a4,a5,a6,a7⟩:=M.append (bytes:=24) (el:=eh m) (by simp;omega) (by omega) rfl rfl (by rw[ahh];unfold room;omega) none;have G: (C++[ae.box (eh m) none]).length=n+1:=by simp[t]
  have u: (C++[ae.box (eh m) none])[n]?=some (.box (eh m) none):=by rw[<-t];simp
  rw[hm]at a1 a2 u⊢;simp only[go_sem,simprocAttr,ag0,E,a1,a2,a3,u,D0];refine⟨⟨s.l++[m],Y⟩,⟨λi a=>?_,?_⟩,⟨by show C.length<=V.length;omega,λi a hp hr=>?_⟩,.inr ⟨N+1,ahd _,by omega,rfl,?_⟩,?_⟩
  ·show V[i]?=_;rw[a6 i (by omega) (by omega) (λq=>by have:=f i q;omega),aeT (by omega)];exact F i a
  ·show SV (N+1) 4 EG V Y ((s.l++[m]).map eh);rw[ahs];exact a4
  ·have nZ: ¬i<N+2:=hp;rw[a6 i (by omega) (by omega) hr,aeT a]
  ·rcases a7 with q| ⟨q,K,J⟩
   ·exact .inl q
   ·exact .inr ⟨q,K,by omega⟩
  ·show s.l++[m]=(fQ b).take (j+1);rw[d,aiV,z];rfl
 ·intro X W' ak U hP hl S pt Q;obtain⟨F,r⟩:=hP;have d:X.l=fQ b:=by
   have:X.l=(fQ b).take (xI b).length:=U;rw[this,VS];exact ag8 (by simp[fQ])
  have g:dI N ak:=by
   rcases Q with⟨rfl,_⟩| ⟨q,K,J,rfl⟩
   ·exact .inl rfl
   ·exact .inr ⟨q,by have:N+1<=q:=K;omega,rfl⟩
  rw[d]at r;have h0:b8 ((fQ b).map eh)=0:=bD (λ_=>rfl) _;rcases r with⟨c1,c2,c3⟩| ⟨id,aj,c1,c2,c3,c4,I⟩
  ·simp only[go_sem,simprocAttr,E,c3,avX,S,nE];rw[iU g (aha _)];refine⟨.ai,da rfl ((F.set (by omega)).take l),by rw[arX.1 c2];exact .ai,rfl⟩
  ·have v:=avY id aj ((fQ b).map eh).length W' (eY I);rw[ahh]at v c4;have P:p.length≠id:=by rintro rfl;rw[S]at I;cases I
   simp only[go_sem,simprocAttr,E,c4,v,S,nE];have O: (W'.set p.length ae.dead)[id]?=some (.row aj 4 EG ((fQ b).map eh)):=by rw[aeR P];exact I
   rw[uM g (v':=.sl ((fQ b).map eh) true) λk=>by rw[show k+12=(k+8)+4 by omega];exact aj7 (by omega) O (by simp) (by rw[h0];omega)];exact⟨_,da rfl ((F.set (by omega)).take l),.sl (by intro el R;obtain⟨x,_,rfl⟩:=ahk.1 R;rfl),h0⟩
theorem av1:cq zF=[.int .u8 0,.int .u64 0,.int .u32 0,.bool false,.int .u8 0,.int .u64 0,.int .u32 0,.bool false,.int .u8 0,.int .u64 0,.int .u32 0,.bool false,.int .u8 0,.int .u64 0,.int .u32 0,.bool false,.int .i64 0,.int .i64 0,.bool true]:=rfl
def av2(b:cK)(d:iV b)(H:List ae)(lo:oN):
  ∃w,D X0 (.fn (.func Rf) [] []) [.agg (cq b)] ⟨H,lo⟩=some (.ret (.au [.agg (cq zF),w]) ⟨H,lo⟩)/\Rv w 4 ((fQ b).map eh)/\w.refs=0:=by
 obtain⟨w,e1,e,e3⟩:=av0 b d (H++[.box (cq b) none,.box zB none]) none;refine⟨w,?_,e,e3⟩;refine aF Tr λM a=>?_
 have c:zB=[.int .u8 0,.int .u64 0,.int .u32 0,.bool false,.int .u8 0,.int .u64 0,.int .u32 0,.bool false,.int .u8 0,.int .u64 0,.int .u32 0,.bool false,.int .u8 0,.int .u64 0,.int .u32 0,.bool false,.int .i64 0,.int .i64 0,.bool false]:=rfl;rw[c]at e1;simp only[go_sem,simprocAttr,Tr,a,↓rk,e1];rw[xC (by simp[AV.refs,aG,e3]),mr a,av1]
def xJ:pn:=λg=>if g=yK then some xb else if g=A7 then some w8 else none
noncomputable def Cz:lA->AS->Option aS:=wz X (D X) Lw xJ yI rf
noncomputable def CA:lA->AS->Option aS:=wz X (D X) Lw xJ yG xa
noncomputable def XA:Ctx:={X with bU:=λf=>if f=yI then some Cz else if f=yG then some CA else X.bU f}
theorem DP:Ext X XA where
 dg:=rfl
 fb:=rfl
 code:=rfl
 bU:=λf=>by
  by_cases b:f=yI
  ·subst b;exact .inr ⟨rfl,rfl⟩
  ·by_cases a:f=yG
   ·subst a;exact .inr ⟨rfl,rfl⟩
   ·left;show(if f=yI then some Cz else if f=yG then some CA else X.bU f)=X.bU f
    grind
def CB(e:Int)(H:List ae)(lo:oN):D X (.fn (.func k7) [] []) [.bool true,.int .i64 e] ⟨H,lo⟩=some (.ret (.au []) ⟨H,lo⟩):=by
 refine aF F4 λN a=>?_
 simp(disch:=omega) only[F1,go_sem,simprocAttr,F4]
def CD(e:Nat)(H:List ae)(lo:oN):D X (.fn (.func k7) [] []) [.bool false,.int .i64 e] ⟨H,lo⟩=some (.panic (iW e) ⟨H,lo⟩):=by
 refine aF F4 λN a=>?_
 simp(disch:=omega) only[F1,go_sem,simprocAttr,F4,EP]
theorem aj9:ed .c9 .ez .ez=some true:=rfl
theorem aka{t:TypeId}:ed .c9 (.c9 t v) .ez=some false:=rfl
theorem akb{z:AV}{t:TypeId}:Ai z (.c9 t v) t true=some (.au [v,.bool true]):=afJ rfl
def MT{K:AS->Prop}{H:List ae}(h:K ⟨H,lo⟩):qL X xJ (cf yK|>.get λ_=>.ai) [.ptr p 0] .ez ⟨H,lo⟩ K:=by
 refine IA (pr:=xb) rfl rfl λn a=>?_
 simp(disch:=omega) only[F1,go_sem,simprocAttr,xb,aj9];exact⟨.inl trivial,.au [],rfl,by trivial⟩
def vN{K:AS->Prop}{H:List ae}{v0:AV}(e:Nat)(a:H[p]?=some (.box [v0] none))(h:K ⟨H.set p (.box [.int .i64 e] none),lo⟩):qL X xJ (cf yK|>.get λ_=>.ai) [.ptr p 0] (iW e) ⟨H,lo⟩ K:=by
 refine IA (pr:=xb) rfl rfl λn b=>?_
 simp only[F1,go_sem,simprocAttr,xb,aka,a,akb];refine⟨.inl trivial,.au [],rfl,?_⟩;rw[afJ (show(AV.au []).refs<=n from aha _),ag8 (by grind)];exact h
def akc(t:aw)(d:bN t)(r:Nat)(e:r<4294967296)(i:t.ax r=true)(c:Nat)(j:c<8)(H:List ae)(lo:oN):
  D X (.fn (.func Bt) [] []) [.agg (aJ t),.int .u32 r,.int .i64 c] ⟨H,lo⟩=some (.ret (.agg (bS (aK t r).1)) ⟨H,lo⟩):=by
 refine aF zn λN f=>?_
 have a:=λH lo=>up dk (vB t d r e H lo)
 have b: (aK t r).2=0:=by unfold aK;grind
 have h: (c:Int)>=0:=by omega
 have g: (c:Int)<8:=by omega
 simp only[F1,go_sem,simprocAttr,zn,f,a,nD,b,kq,CB,h,g]
def akd(t:aw)(d:bN t)(r:Nat)(e:r<4294967296)(j:t.ax r=true)(c:Nat)(k:8<=c)(H:List ae)(lo:oN):
  D X (.fn (.func Bt) [] []) [.agg (aJ t),.int .u32 r,.int .i64 c] ⟨H,lo⟩=some (.panic (iW 2) ⟨H,lo⟩):=by
 refine aF zn λN g=>?_
 have a:=λH lo=>up dk (vB t d r e H lo)
 have b: (aK t r).2=0:=by unfold aK;grind
 have i: (c:Int)>=0:=by omega
 have h: ¬(c:Int)<8:=by omega
 have f: ∀H lo,D X (.fn (.func k7) [] []) [.bool false,.int .i64 2] ⟨H,lo⟩=_:=CD 2;simp only[F1,go_sem,simprocAttr,zn,g,a,nD,b,kq,CB,f,i,h,EP]
def av3(t:aw)(d:bN t)(r:Nat)(e:r<4294967296)(h:t.ax r=false)(c:Nat)(H:List ae)(lo:oN):
  D X (.fn (.func Bt) [] []) [.agg (aJ t),.int .u32 r,.int .i64 c] ⟨H,lo⟩=some (.panic (iW 4) ⟨H,lo⟩):=by
 refine aF zn λN g=>?_
 have a:=λH lo=>up dk (vB t d r e H lo)
 have b: (aK t r).2=4:=by unfold aK;grind
 have f: ∀H lo,D X (.fn (.func k7) [] []) [.bool false,.int .i64 4] ⟨H,lo⟩=_:=CD 4;simp only[F1,go_sem,simprocAttr,zn,g,a,nD,b,kq,f,EP]
def uc(t:aw)(r a to:Nat)(b:Bool):Nat:=
 if t.ax r=false\/ (to≠0/\t.ax to=false)then 4 else if 8<=a then 2 else if to≠0/\b=false/\kn t to r=false then 5
 else(fD t r {(aK t r).1 with cells:=aq (aK t r).1.cells a to}).2
theorem av4{r:dc}{v:Nat}(h:i<8):aH (bS r) (4+i) [.int .u32 (v:Nat)]=bS {r with cells:=aq r.cells i v}:=ahN h
def av5(t:aw)(A:bN t)(T:cm t)(r a to:Nat)(b:Bool)(E:r<4294967296)(s:to<4294967296)(S:a<4294967296)(H:List ae)(lo:oN):
  ∃cs,Cz [.agg (aJ t),.int .u32 r,.int .i64 a,.int .u32 to,.bool b] ⟨H,lo⟩=some (.ret (.au [.agg cs,.int .i64 (uc t r a to b)]) ⟨H,lo⟩)/\cs.length=480/\aG cs=0/\
   (uc t r a to b=0->cs=aJ (fD t r {(aK t r).1 with cells:=aq (aK t r).1.cells a to}).1):=by
 suffices hs: ∃I,Cz [.agg (aJ t),.int .u32 r,.int .i64 a,.int .u32 to,.bool b] ⟨H,lo⟩=some I/\ (λI=> ∃cs,I=aS.ret (.au [.agg cs,.int .i64 (uc t r a to b)]) ⟨H,lo⟩/\cs.length=480/\aG cs=0/\
   (uc t r a to b=0->cs=aJ (fD t r {(aK t r).1 with cells:=aq (aK t r).1.cells a to}).1)) I by
  obtain⟨I,p,cs,rfl,U⟩:=hs;exact⟨cs,p,U⟩
 refine PR rf rfl rfl λN j=>?_
 have c:=λH lo=>up dk (eo t.b r E H lo)
 have d:=λH lo=>up dk (eo t.b to s H lo)
 have L: ∀h,ax t.b h=t.ax h:=λh=>rfl
 simp only[L]at c d;have m:=λH lo=>up dk (Vw t A T to r s E H lo)
 have F: ∀H lo,D X (.fn (.func k7) [] []) [.bool false,.int .i64 4] ⟨H,lo⟩=_:=CD 4;have O: ∀H lo,D X (.fn (.func k7) [] []) [.bool false,.int .i64 5] ⟨H,lo⟩=_:=CD 5;have z:aG jD=0:=by decide
 have f:uc t r a to b=if t.ax r=false\/ (to≠0/\t.ax to=false)then 4 else if 8<=a then 2 else if to≠0/\b=false/\kn t to r=false then 5
  else(fD t r {(aK t r).1 with cells:=aq (aK t r).1.cells a to}).2:=rfl
 cases y:t.ax r with
 |false=>
  rw[y]at c;rw[afJ (.inl y)]at f;simp(disch:=omega) only[go_sem,simprocAttr,rf,j,j5,j4,c,F];refine⟨rfl,?_⟩;rw[og];refine vN 4 (v0:=.int .i64 0) (by rw[bA j];rfl) ?_;simp(disch:=omega) only[F1,go_sem,simprocAttr,cL];rw[f];exact⟨_,rfl,Cl,z,λh=>by cases h⟩
 |true=>
  rw[y]at c;have K:to=0\/ (¬(to:Int)=0/\t.ax to=true)\/ (¬(to:Int)=0/\t.ax to=false):=by
   by_cases n:to=0
   ·exact .inl n
   ·cases V:t.ax to
    ·exact .inr (.inr ⟨by omega,rfl⟩)
    ·exact .inr (.inl ⟨by omega,rfl⟩)
  by_cases J:to≠0/\t.ax to=false
  ·rw[afJ (.inr J)]at f;rw[J.2]at d;have n: ¬(to:Int)=0:=by omega
   simp(disch:=omega) only[go_sem,simprocAttr,rf,j,j5,j4,c,n,d,F];refine⟨rfl,?_⟩;rw[og];refine vN 4 (v0:=.int .i64 0) (by rw[bA j];rfl) ?_;simp(disch:=omega) only[F1,go_sem,simprocAttr,cL];rw[f];exact⟨_,rfl,Cl,z,λh=>by cases h⟩
  ·rw[afB (by rw[y];simpa using J)]at f;have p: ∀H lo,D X (.fn (.func k7) [] []) [.bool true,.int .i64 4] ⟨H,lo⟩=_:=CB 4;have o:to=0\/ (¬(to:Int)=0/\t.ax to=true):=by
    rcases K with h|h|h
    ·exact .inl h
    ·exact .inr h
    ·exact absurd ⟨by omega,h.2⟩ J
   by_cases P:8<=a
   ·rw[afJ P]at f;have g:=akd t A r E y a P;rcases o with rfl| ⟨n,M⟩
    ·simp(disch:=omega) only[go_sem,simprocAttr,rf,j,j5,j4,c,p,g];refine⟨rfl,?_⟩;rw[og];refine vN 2 (v0:=.int .i64 0) (by rw[bA j];rfl) ?_;simp(disch:=omega) only[F1,go_sem,simprocAttr,cL];rw[f];exact⟨_,rfl,Cl,z,λh=>by cases h⟩
    ·rw[M]at d;simp(disch:=omega) only[go_sem,simprocAttr,rf,j,j5,j4,c,n,d,p,g];refine⟨rfl,?_⟩;rw[og];refine vN 2 (v0:=.int .i64 0) (by rw[bA j];rfl) ?_;simp(disch:=omega) only[F1,go_sem,simprocAttr,cL];rw[f];exact⟨_,rfl,Cl,z,λh=>by cases h⟩
   ·rw[afB P]at f;have G:a<8:=by omega
    have l: (a:Int)<8:=by omega
    have g:=akc t A r E y a G;have Q: ∀H lo,D X (.fn (.func k7) [] []) [.bool true,.int .i64 5] ⟨H,lo⟩=_:=CB 5;have C:=A.get r;generalize R: (aK t r).1=x at*;have q:fP {x with cells:=aq x.cells a to}:=fP.setCells C λi=>by
     by_cases e:i=a
     ·rw[e,cT];exact s
     ·rw[dj e];exact C.cells i
    have k:=λH lo=>up dk (Vx t A r E {x with cells:=aq x.cells a to} q.rb.1 (by have:=q.rb.2;show x.runs.length<=65;exact akH this (by omega)) (by have:=q.len;show x.len<4294967296;have:x.len<=2048:=this;omega) H lo)
    have u:=av4 (r:=x) (v:=to) G;have w:4+a<=11:=by omega
    rcases o with rfl| ⟨n,M⟩
    ·rw[afB (by simp)]at f;have B:aH (bS x) (4+a) [.int .u32 0]=bS {x with cells:=aq x.cells a 0}:=u;simp(disch:=omega) only[go_sem,simprocAttr,rf,j,j5,j4,c,p,g,kq,Q,l,B,w,k,s9,cL];refine⟨rfl,?_⟩;rw[DW];refine MT ?_;simp(disch:=omega) only[F1,go_sem,simprocAttr];rw[f];exact⟨_,rfl,iq _,xh _,λ_=>rfl⟩
    ·rw[M]at d;cases b with
     |true=>
      rw[afB (by simp)]at f;simp(disch:=omega) only[go_sem,simprocAttr,rf,j,j5,j4,c,n,d,p,g,kq,Q,l,u,w,k,s9,cL];refine⟨rfl,?_⟩;rw[DW];refine MT ?_;simp(disch:=omega) only[F1,go_sem,simprocAttr];rw[f];exact⟨_,rfl,iq _,xh _,λ_=>rfl⟩
     |false=>
      cases ho:kn t to r with
      |true=>
       rw[ho]at m f;rw[afB (by simp)]at f;simp(disch:=omega) only[go_sem,simprocAttr,rf,j,j5,j4,c,n,d,p,g,kq,Q,m,l,u,w,k,s9,cL];refine⟨rfl,?_⟩;rw[DW];refine MT ?_;simp(disch:=omega) only[F1,go_sem,simprocAttr];rw[f];exact⟨_,rfl,iq _,xh _,λ_=>rfl⟩
      |false=>
       rw[ho]at m f;rw[afJ ⟨by omega,rfl,rfl⟩]at f;simp(disch:=omega) only[go_sem,simprocAttr,rf,j,j5,j4,c,n,d,p,g,kq,O,m];refine⟨rfl,?_⟩;rw[og];refine vN 5 (v0:=.int .i64 0) (by rw[bA j];rfl) ?_;simp(disch:=omega) only[F1,go_sem,simprocAttr,cL];rw[f];exact⟨_,rfl,Cl,z,λh=>by cases h⟩
def Gz{X:Ctx}{e:Env}{E:AS}{R:aS->Prop}{b:Nat}{c:Bool}:dp X n lo [.t a,.cell b c k] R .ret ⟨e,[]⟩ E=okV (cg X E c k (e b)) (λu E=>mv n lo R (.au [e a,u]) E) E:=by
 simp only[wm,wo,fk,jz,nT];cases h:cg X E c k (e b)with
 |none=>simp[okV,h]
 |some v=>simp[okV,mv,h]
def av6(t:aw)(s:bN t)(r a:Nat)(v:r<4294967296)(F:a<4294967296)(H:List ae)(lo:oN):
  CA [.agg (aJ t),.int .u32 r,.int .i64 a] ⟨H,lo⟩=some (.ret (.au [.int .u32 (sS t r a).1,.int .i64 (sS t r a).2]) ⟨H,lo⟩):=by
 suffices hs: ∃E,CA [.agg (aJ t),.int .u32 r,.int .i64 a] ⟨H,lo⟩=some E/\E=aS.ret (.au [.int .u32 (sS t r a).1,.int .i64 (sS t r a).2]) ⟨H,lo⟩ by grind
 refine PR xa rfl rfl λN g=>?_
 have c:sS t r a=if t.ax r=false then(0,4)else if 8<=a then(0,2)else if(aK t r).1.cells a=0 then(0,10)else if t.ax ((aK t r).1.cells a)=false then(0,4)else((aK t r).1.cells a,0):=rfl
 cases q:t.ax r with
 |false=>
  rw[afJ q]at c;have b:=av3 t s r v q a;simp only[go_sem,simprocAttr,xa,g,j5,j4,b];refine⟨rfl,?_⟩;rw[og];refine vN 4 (v0:=.int .i64 0) (by rw[bA g];rfl) ?_;simp(disch:=omega) only[F1,go_sem,simprocAttr,c,Gz]
 |true=>
  rw[afB (by rw[q];simp)]at c;by_cases z:8<=a
  ·rw[afJ z]at c;have b:=akd t s r v q a z;simp only[go_sem,simprocAttr,xa,g,j5,j4,b];refine⟨rfl,?_⟩;rw[og];refine vN 2 (v0:=.int .i64 0) (by rw[bA g];rfl) ?_;simp(disch:=omega) only[F1,go_sem,simprocAttr,c,Gz]
  ·rw[afB z]at c;have l:a<8:=by omega
   have B: (a:Int)<8:=by omega
   have b:=akc t s r v q a l;have u:=s.get r;generalize(aK t r).1=x at*;have hw:=u.cells a;have d:qz false 8 1 (.agg (arr 8 λi=>[AV.int .u32 (x.cells i)])) (.int .i64 a)=some (.int .u32 (x.cells a)):=
    Us l (by have:=ki (ag:=false) (m:=1) (n:=8) (k:=1) (i:=a) (o:=0) (f:=λi=>[AV.int .u32 (x.cells i)]) (λ_=>rfl) l (by omega) (by omega);rw[ahu]at this;rw[this];rfl)
   have p: ∀H lo,D X (.fn (.func k7) [] []) [.bool false,.int .i64 10] ⟨H,lo⟩=_:=CD 10;have y: ∀H lo,D X (.fn (.func k7) [] []) [.bool false,.int .i64 4] ⟨H,lo⟩=_:=CD 4;have e:=λH lo=>up dk (eo t.b (x.cells a) hw H lo)
   have w: ∀h,ax t.b h=t.ax h:=λh=>rfl
   simp only[w]at e;by_cases A:x.cells a=0
   ·rw[afJ A]at c;have j:decide ((x.cells a:Int)=0)=true:=by simp[A]
    simp only[go_sem,simprocAttr,xa,g,j5,j4,b,↓Mf,d,j,p];refine⟨rfl,?_⟩;rw[og];refine vN 10 (v0:=.int .i64 0) (by rw[bA g];rfl) ?_;simp(disch:=omega) only[F1,go_sem,simprocAttr,c,Gz]
   ·rw[afB A]at c;have j:decide ((x.cells a:Int)=0)=false:=by simp;omega
    cases C:t.ax (x.cells a)with
    |false=>
     rw[C]at e c;rw[afJ rfl]at c;simp only[go_sem,simprocAttr,xa,g,j5,j4,b,↓Mf,d,j,e,CB,y];refine⟨rfl,?_⟩;rw[og];refine vN 4 (v0:=.int .i64 0) (by rw[bA g];rfl) ?_;simp(disch:=omega) only[F1,go_sem,simprocAttr,c,Gz]
    |true=>
     rw[C]at e c;rw[afB (by simp)]at c;simp only[go_sem,simprocAttr,xa,g,j5,j4,b,↓Mf,d,j,e,CB];refine⟨rfl,?_⟩;rw[DW];refine MT ?_;simp(disch:=omega) only[F1,go_sem,simprocAttr,c,Gz]
theorem av7{args:lA}{E:AS}{a:AS}(h:Cz args E=some (.ret v a)):D XA (.fn (.func yI) [] []) args E=some (.ret v a):=DV rfl h
def ake(t:aw)(r a to:Nat)(b:Bool):nu t r a to b=if uc t r a to b=0 then((fD t r {(aK t r).1 with cells:=aq (aK t r).1.cells a to}).1,0)else(t,uc t r a to b):=by
 unfold nu uc
 grind
def av8(t:aw)(l:bN t)(p:cm t)(r a to:Nat)(b:Bool)(m:r<4294967296)(e:to<4294967296)(i:a<4294967296)(H:List ae)(lo:oN):
  D XA (.fn (.func Re) [] []) [.agg (aJ t),.int .u32 r,.int .i64 a,.int .u32 to,.bool b] ⟨H,lo⟩=some (.ret (.au [.agg (aJ (nu t r a to b).1),.int .i64 (nu t r a to b).2]) ⟨H,lo⟩):=by
 refine aF LX λN k=>?_
 obtain⟨cs,q,n,f,o⟩:=av5 t l p r a to b m e i (H++[.box (aJ t) none,.box jD none]) none;have g:=av7 q;have d:=ake t r a to b;by_cases c:uc t r a to b=0
 ·rw[afJ c]at d;have h:=o c;subst h;rw[c]at g;simp only[F1,go_sem,simprocAttr,LX,k,g,cL,d]
 ·rw[afB c]at d;have j:decide ((uc t r a to b:Int)=0)=false:=by simp;omega
  simp only[F1,go_sem,simprocAttr,LX,k,g,j,n,f,cL,d]
def akf{a:aw}(b:cm t)(h: ∀x,bI a x=bI t x\/bI a x=0):cm a:=by
 have key: ∀n x,(en a n x).length<=(aR t x).length:=by
  intro n
  induction n with
  |zero=>simp[en]
  |succ n c=>
   intro x;simp only[en];by_cases hu:bI a x=0
   ·grind
   ·rw[afB hu];have e:bI a x=bI t x:=(h x).resolve_right hu;rw[e]at hu⊢;rw[sR b,afB hu,aho,aho]
    grind
 intro x;have:=key 32 x;have:=b x;unfold aR at*;omega
theorem akg(t:aw): ∀n x,(en t n x).length<=(en t (n+1) x).length
 |0,_=>by simp[en]
 |n+1,x=>by
  rw[en,en];by_cases hu:bI t x=0
  ·grind
  ·rw[afB hu,afB hu,aho,aho];exact Nat.succ_le_succ (akg t n _)
def nK(b:cE)(h:Nat):Prop:= ∀i,eC h=some i->h/256< (b i).gen\/ (h/256=(b i).gen/\nh b i=false)
theorem CE(b:cE):nK b 0:=λi e=>by trivial
def VT{h:Nat}(a:ax b h=true):nK b h:=by
 intro i e;unfold ax at a;rw[e]at a;have:=au4 a
 right;rw[this];exact⟨rfl,by unfold nh;grind⟩
def MU{h:Nat}(ho:nK b h):nK (aq b i {b i with eH:=true}) h:=by
 intro j e;by_cases q:j=i
 ·subst q;rcases ho j e with a| ⟨a,c⟩
  ·left;rw[cT];exact a
  ·unfold nh;rw[cT];grind
 ·unfold nh at*;rw[dj q];exact ho j e
def akh{h y:Nat}(ho:nK b h):nK (ek b y).1 h:=by
 unfold ek;split
 ·show nK (aq b (aN y) _) h;intro j e;by_cases q:j=aN y
  ·subst q;unfold nh;rw[cT];unfold rm;have a:=ho _ e
   grind
  ·unfold nh at*;rw[dj q];exact ho j e
 omega
def VU{h:Nat}(a:ni b=some i)(d:gL b):ax (aq b i {b i with eH:=true}) h=true↔ax b h=true\/h=c7 i (b i).gen:=by
 obtain⟨i1,i2,i3,_⟩:=sQ a;have c:ax (aq b i {b i with eH:=true}) (c7 i (b i).gen)=true:=by grind [UO,UP,cT]
 constructor
 ·grind [lp,cT,UM,dj]
 ·grind [lp,dj]
theorem VV{y h:Nat}(c:ax (ek b y).1 h=true):ax b h=true:=by
 unfold ek at c;split at c
 ·obtain⟨j,e,a⟩:=lp.1 c;have a:aq b (aN y) (rm (b (aN y))) j=_:=a;by_cases q:j=aN y
  ·subst q;rw[cT]at a;unfold rm at a
   grind
  ·grind [dj,lp]
 omega
def GA(a:ni b=some i)(c:gL b):ax b (c7 i (b i).gen)=false:=by grind [UO,sQ]
def aki(c:ni b=some i)(d:gL b): ¬nK b (c7 i (b i).gen):=by
 obtain⟨i1,i2,i3,_⟩:=sQ c;intro h;have f:ax (aq b i {b i with eH:=true}) (c7 i (b i).gen)=true:=(VU c d).2 (.inr rfl);obtain⟨j,e,a⟩:=lp.1 f;have q:j=i:=aph λq=>by
  rw[dj q]at a;have:=GA c d;rw[lp.2 ⟨j,e,a⟩]at this;grind
 subst q;rw[cT]at a;injection a with l
 rcases h j e with k| ⟨_,g⟩
 ·omega
 ·unfold nh at g;grind
def av9(t:aw):Prop:= ∀i,nK t.b (t.r i).up
structure ep(t:aw):Prop where
 ok:bN t
 tr:cm t
 up:av9 t
theorem ep.same{a:aw}(h:ep t)(b:iz t a)(c:bN a):ep a:=⟨c,b.tree h.tr,λi=>by rw[b.1,b.2];exact h.up i⟩
theorem ep.set(h:ep t){r:dc}(b:fP r):ep (fD t a r).1:=h.same (.set t a r) (h.ok.set b)
theorem ep.drop(h:ep t)(y:Nat):ep (ll t y).1:=by
 refine⟨h.ok.drop y,akf h.tr λx=>?_,λi=>?_⟩
 ·unfold ll;split
  ·have a: ∀x,ax (ek t.b y).1 x=true->t.ax x=true:=λx=>VV
   unfold bI;by_cases q:aw.ax {b:=(ek t.b y).1,r:=aq t.r (aN y) dC} x=true
   ·rw[afJ q,afJ (a x q)];unfold km;by_cases e:aN x=aN y
    ·right
     show(if _ then(aq t.r (aN y) dC (aN x)).up else 0)=0;rw[e,cT];split<;>rfl
    ·show(if aw.ax _ (aq t.r (aN y) dC (aN x)).up=true then(aq t.r (aN y) dC (aN x)).up else 0)=_\/ (if aw.ax _ (aq t.r (aN y) dC (aN x)).up=true then(aq t.r (aN y) dC (aN x)).up else 0)=0;rw[dj e];by_cases c:aw.ax {b:=(ek t.b y).1,r:=aq t.r (aN y) dC} (t.r (aN x)).up=true
     ·rw[afJ c,afJ (a _ c)];omega
     grind
   grind
  grind
 ·unfold ll;split
  ·show nK (ek t.b y).1 (aq t.r (aN y) dC i).up;by_cases e:i=aN y
   ·rw[e,cT];exact CE _
   ·rw[dj e];exact akh (h.up i)
  ·exact h.up i
theorem ep.kr{t:aw}(h:ep t): ∀l,ep (kr t l)
 | []=>h
 |x::xs=>ep.kr (h.drop x) xs
def ep.awa(h:ep t)(a:Nat):ep (l7 t a).1:=by
 unfold l7;split
 ·exact h
 ·exact h.kr _
def ep.awb(h:ep t)(a:Nat):ep (l6 t a 0).1:=by
 refine⟨h.ok.raise (by omega),akf h.tr λx=>?_,λi=>?_⟩
 ·unfold l6;split
  ·simp
  ·split
   ·simp
   ·unfold bI;have b: ∀r z,aw.ax {t with r:=r} z=t.ax z:=λ_ _=>rfl
    simp only[b];split
    ·unfold km;simp only[b];by_cases e:aN x=aN a
     ·rw[e,cT];grind
     ·rw[dj e];omega
    omega
 ·unfold l6;split
  ·exact h.up i
  ·split
   ·omega
   ·show nK t.b (aq t.r (aN a) {t.r (aN a)with up:=0} i).up;by_cases e:i=aN a
    ·rw[e,cT];exact CE _
    ·rw[dj e];exact h.up i
def ep.cut(h:ep t)(a:Nat):ep (jl t a).1:=by
 rw[VC];split
 ·exact h
 ·exact(h.same (VB t a _ t) (VA h.ok a _)).awb a
def ep.new(h:ep t)(up n:Nat)(J:up<4294967296):ep (hH t up n).1:=by
 unfold hH;dsimp only;split
 ·exact h
 ·rename_i l;unfold l5 at l⊢;split
  ·exact h
  ·rename_i N;rw[afB N]at l;split
   ·exact h
   ·rename_i M;rw[afB M]at l;split
    ·rename_i i g;rw[g]at l;have l: ¬6<=depth t up:=λq=>l ⟨.inl rfl,q⟩
     obtain⟨i1,i2,i3,_⟩:=sQ g;have s:=h.ok.b;have d:up=0\/t.ax up=true:=by grind
     have a: ∀z,aw.ax {b:=aq t.b i {t.b i with eH:=true},r:=aq t.r i {dC with up:=up,dt:=n}} z=true↔t.ax z=true\/z=c7 i (t.b i).gen:=λz=>VU g s
     have D: ∀z,t.ax z=true->aN z≠i:=by
      intro z p q;obtain⟨_,u,_⟩:=Cc p;rw[q]at u;rw[u]at i2;cases i2
     generalize m: ({b:=aq t.b i {t.b i with eH:=true},r:=aq t.r i {dC with up:=up,dt:=n}}:aw)=f at*;have o: ∀j,(f.r j).up=if j=i then up else(t.r j).up:=by
      intro j;rw[<-m];show(aq t.r i _ j).up=_;by_cases e:j=i
      ·rw[e,cT,afJ rfl]
      ·rw[dj e,afB e]
     have w:f.b=aq t.b i {t.b i with eH:=true}:=by rw[<-m]
     have C:aN (c7 i (t.b i).gen)=i:=by
      have:f.ax (c7 i (t.b i).gen)=true:=(a _).2 (.inr rfl);have v:=this;unfold aw.ax at v;obtain⟨j,e,G⟩:=lp.1 v;rw[Gd e];refine aph λq=>?_
      rw[w,dj q]at G;have:=GA g s;rw[lp.2 ⟨j,e,G⟩]at this;cases this
     have hold: ∀z,nK t.b z->(f.ax z=true↔t.ax z=true):=λz p=>⟨λq=>by
      rcases(a z).1 q with q|q
      ·exact q
      ·rw[q]at p;exact absurd p (aki g s),λq=>(a z).2 (.inl q)⟩
     have B: ∀x,x≠c7 i (t.b i).gen->bI f x=bI t x:=by
      intro x B;have e1: (f.ax x=true)=(t.ax x=true):=propext ⟨λq=>((a x).1 q).resolve_right B,λq=>(a x).2 (.inl q)⟩;unfold bI;simp only[e1];split
      ·rename_i F;unfold km;rw[o,afB (D x F)];simp only[propext (hold _ (h.up (aN x)))]
      ·rfl
     have K:bI f (c7 i (t.b i).gen)=up:=by
      unfold bI;rw[afJ ((a _).2 (.inr rfl))];unfold km;rw[o,afJ C];rcases d with q|q
      ·rw[q];split<;>rfl
      ·rw[afJ ((a _).2 (.inl q))]
     have E: ∀x,bI t x≠c7 i (t.b i).gen:=by
      intro x q;have p:bI t x≠0:=by rw[q];unfold c7;omega
      have:=(Gg p).1;rw[q]at this;have c:=GA g s;unfold aw.ax at this;rw[this]at c;cases c
     have y: ∀k x,x≠c7 i (t.b i).gen->en f k x=en t k x:=by
      intro k
      induction k with
      |zero=>intro x _;rfl
      |succ k I=>
       intro x A;simp only[en,B x A];rw[I _ (E x)]
     refine⟨?_,?_,?_⟩
     ·rw[<-m];refine⟨UP s g,λj=>?_⟩;show fP (aq t.r i _ j);by_cases e:j=i
      ·rw[e,cT];exact⟨J,by show n<=64;omega,Cs.len,Cs.cells,Cs.runs,Cs.aM⟩
      ·rw[dj e];exact h.ok.r j
     ·intro x;by_cases e:x=c7 i (t.b i).gen
      ·rw[e];unfold aR;rw[show(32:Nat)=31+1 from rfl,en,K];by_cases q:up=0
       ·rw[afJ q];simp
       ·rw[afB q,y 31 up (λH=>by
          have:=d.resolve_left q;rw[H]at this;have c:=GA g s;unfold aw.ax at this;rw[this]at c;cases c)]
        have F:=d.resolve_left q;unfold depth at l;rw[afJ F]at l;have L:=h.tr up;have:en t 31 up=aR t up:=(UQ 31 up (by
         have: (en t 31 up).length<=(en t 32 up).length:=akg t 31 up;unfold aR at L;omega) 32 (by omega)).symm
        rw[this,aho];omega
      ·unfold aR;rw[y 32 x e];exact h.tr x
     ·intro j;rw[o,w];by_cases e:j=i
      ·rw[afJ e];rcases d with q|q
       ·rw[q];exact CE _
       ·exact MU (VT q)
      ·rw[afB e];exact MU (h.up j)
    omega
theorem CF(b:cm t){x:Nat}(a:bI t x≠0):aR t x=bI t x::aR t (bI t x):=by rw[sR b,afB a]
def MV(c:cm t){h:Nat}: ∀ (n x:Nat),dep t x<=n->h∈aR t x->dep t h<dep t x:=by
 intro n
 induction n with
 |zero=>intro x b a;unfold dep at b;grind
 |succ n d=>
  intro x b a;by_cases hu:bI t x=0
  ·rw[sR c,afJ hu]at a;cases a
  ·grind [Cd,CF]
def awc(d:cm t){h:Nat}: ∀ (n x:Nat),dep t x<=n->h∈aR t x-> ∃c,bI t c=h/\h≠0/\t.ax c=true/\ (c=x\/c∈aR t x):=by
 intro n
 induction n with
 |zero=>intro x b a;unfold dep at b;grind
 |succ n e=>
  intro x b a;by_cases hu:bI t x=0
  ·rw[sR d,afJ hu]at a;cases a
  ·grind [Cd,CF,Gg]
def akj(a:cm t)(x:Nat):x∈dv t x:=by rw[US a];grind
def awd(i:gL t.b)(a:cm t){x:Nat}: ∀ (n h:Nat),dep t x-dep t h<=n->h∈aR t x->x∈dv t h:=by
 intro n
 induction n with
 |zero=>intro h f b;have:=MV a _ x (ahd _) b;omega
 |succ n k=>
  intro h f b;obtain⟨c,l,c0,j,e⟩:=awc a _ x (ahd _) b;have d:c∈kids t h:=by
   have g:t.ax h=true:=by grind [Gg]
   unfold kids;rw[afJ g];exact aiJ.2 ⟨(jm i).2 j,by grind⟩
  rw[US a];refine aiF _ (arC.2 ⟨c,d,?_⟩);rcases e with rfl|e
  ·exact akj a c
  ·have:=Ce a d
   grind
theorem akk{α:Type}{f:α->Nat}: ∀ (l:List α) (s:Nat),s<=l.foldl (λn x=>max n (f x)) s/\ ∀x∈l,f x<=l.foldl (λn x=>max n (f x)) s
 | [],s=>⟨ahd _,by simp⟩
 |a::l,s=>by
  have h:=akk (f:=f) l (max s (f a))
  grind
theorem VW{x y:Nat}(c:ax b x=true)(a:ax b y=true)(e:aN x=aN y):x=y:=by
 obtain⟨_,h,g⟩:=Cc c;obtain⟨_,f,d⟩:=Cc a
 grind
def ep.awe(h:ep t)(a w:Nat)(J:w<4294967296):ep (vi t a w).1:=by
 unfold vi;split
 ·exact h
 ·rename_i N;split
  ·exact h
  ·rename_i G;split
   ·exact h
   ·rename_i M;have c:t.ax a=true:=by grind
    have g:t.ax w=true:=by grind
    have d:root t a=a:=aph λq=>G (.inl q)
    have B: ¬kn t a w=true:=λq=>G (.inr q)
    have s:a≠w/\a∉aR t w:=by
     unfold kn at B
     grind
    have D:aR t a=[]:=by
     unfold root at d;rw[afJ c]at d;cases e:aR t a with
     |nil=>rfl
     |cons b bs=>
      exfalso;have hm:a∈aR t a:=by
       have p:aR t a≠[]:=by rw[e];simp
       rw[List.getLastD_eq_getLast?,List.getLast?_eq_getLast p,anc]at d;have:=List.getLast_mem p;rw[d]at this;exact this
      have:=MV h.tr _ a (ahd _) hm;omega
    unfold l6;split
    ·exact h
    ·split
     ·exact h
     ·have C: ∀z,aw.ax {t with r:=aq t.r (aN a) {t.r (aN a)with up:=w}} z=t.ax z:=λ_=>rfl
      have y:bI {t with r:=aq t.r (aN a) {t.r (aN a)with up:=w}} a=w:=by
       unfold bI km;simp only[C];rw[afJ c,cT,afJ g]
      have v: ∀x,x≠a->bI {t with r:=aq t.r (aN a) {t.r (aN a)with up:=w}} x=bI t x:=by
       intro x I;unfold bI;simp only[C];split
       ·rename_i m;unfold km;simp only[C];rw[dj λe=>I (VW m c e)]
       ·rfl
      generalize l: ({t with r:=aq t.r (aN a) {t.r (aN a)with up:=w}}:aw)=u at*;have w0:w≠0:=UN g;have key: ∀n x,(en u n x).length<=if x=a\/a∈aR t x then dep t x+1+dep t w else dep t x:=by
       intro n
       induction n with
       |zero=>intro x;simp[en]
       |succ n E=>
        intro x;rw[en];by_cases e:x=a
        ·rw[afJ (show x=a\/a∈aR t x from .inl e),e,y,afB w0,aho];have:=E w;rw[afB (by rintro(q|q);exact s.1 q.symm;exact s.2 q)]at this;omega
        ·rw[v x e];by_cases hu:bI t x=0
         ·rw[afJ hu];simp
         ·rw[afB hu,aho];have L:=Cd h.tr hu;have:=E (bI t x);have j: (x=a\/a∈aR t x)↔(bI t x=a\/a∈aR t (bI t x)):=by
           rw[CF h.tr hu,ai2];constructor
           ·rintro(q|q|q)
            ·exact absurd q e
            ·exact .inl q.symm
            ·exact .inr q
           ·rintro(q|q)
            ·exact .inr (.inl q.symm)
            ·exact .inr (.inr q)
          by_cases q:x=a\/a∈aR t x
          ·rw[afJ q];rw[afJ (j.1 q)]at this;omega
          ·rw[afB q];rw[afB λH=>q (j.2 H)]at this;omega
      show ep u;refine⟨?_,λx=>?_,λi=>?_⟩
      ·rw[<-l];exact h.ok.aq ((h.ok.r _).MH J)
      ·have F:=key 32 x;unfold aR;split at F
       ·rename_i q;have o:x∈dv t a:=by
         rcases q with q|q
         ·rw[q];exact akj h.tr a
         ·exact awd h.ok.b h.tr _ a (ahd _) q
        have m:=Gi h.ok.b c o;have k:=(akk (f:=λx=>depth t x-depth t a+1) (dv t a) 0).2 x o;have A:sM t a=(dv t a).foldl (λn x=>max n (depth t x-depth t a+1)) 0:=rfl;rw[<-A]at k;have d1:depth t x=1+dep t x:=by unfold depth;rw[afJ m];rfl
        have d2:depth t a=1:=by unfold depth;rw[afJ c,D];rfl
        have d3:depth t w=1+dep t w:=by unfold depth;rw[afJ g];rfl
        have k:depth t x-depth t a+1<=sM t a:=k;omega
       ·have:=h.tr x;unfold dep at F;omega
      ·have e1:u.b=t.b:=by rw[<-l]
       have K: (u.r i).up=(aq t.r (aN a) {t.r (aN a)with up:=w} i).up:=by rw[<-l]
       rw[e1,K];by_cases e:i=aN a
       ·rw[e,cT];exact VT g
       ·rw[dj e];exact h.up i
structure jP(k:bg):Prop where
 ok:gy k
 dB: ∀i,nK k.b (k.t i).aR
 ord: ∃L:lN,L.Nodup/\ (∀h∈L,ax k.b h=true)/\ (∀h,ax k.b h=true->h∈L)/\L.Pairwise (λa b=>(k.t (aN a)).aR≠b)/\ ∀h∈L,(k.t (aN h)).aR≠h
def akl{k:bg}{h:Nat}(a:ax k.b h=true): (b9 k h).1=k.t (aN h):=by unfold b9;grind
theorem VX{k:bg}: ∀ {n m h:Nat},n<=m->xD k n h->xD k m h
 |0,_,_,_,h=>h.elim
 |n+1,0,_,a,_=>by omega
 |n+1,m+1,_,a,h=>λx b=>VX (Nat.le_of_succ_le_succ a) (h x b)
theorem MW: ∀ (n:Nat) (l:lN),l.Nodup->(∀x∈l,x<n)->l.length<=n
 |0,[],_,_=>ahd _
 |0,x::_,_,h=>by grind [List.mem_cons_self]
 |n+1,l,a,h=>by
  have c:=MW n (l.erase n) (a.erase n) λx b=>by grind
  grind
def jP.th{k:bg}(h:jP k){x:Nat}(s:ax k.b x=true):xD k 16 x:=by
 obtain⟨L,w,o,e,i,l⟩:=h.ord;have j:L.length<=16:=by
  rw[<-ahh (f:=aN)];refine MW 16 _ ?_ λy r=>?_
  ·grind [List.Pairwise.imp_of_mem,VW]
  ·obtain⟨z,g,rfl⟩:=ahk.1 r;exact h.ok.slot (o z g)
 have key: ∀ (n:Nat) (P S:lN) (y:Nat),S.length<=n->L=P++y::S->xD k (S.length+1) y:=by
  intro n
  induction n with
  |zero=>
   intro P S y m d z g;have b:=aiJ.1 g;have a:ax k.b z=true:=(jm h.ok.b).1 b.1;have c: (k.t (aN z)).aR=y:=by have:=b.2;rw[akl a]at this;simpa using this
   have t:S=[]:=amK.1 (by omega);subst t;exfalso;have hm:=e z a;rw[d]at hm;rcases ahb.1 hm with q|q
   ·rw[d]at i;exact(apC.1 i).2.2 z q y (amM ..) c
   ·rcases ai2.1 q with q|q
    ·subst q;exact l z (e z a) c
    ·cases q
  |succ n p=>
   intro P S y m d z g;have b:=aiJ.1 g;have a:ax k.b z=true:=(jm h.ok.b).1 b.1;have c: (k.t (aN z)).aR=y:=by have:=b.2;rw[akl a]at this;simpa using this
   have hm:=e z a;rw[d]at hm;rcases ahb.1 hm with q|q
   ·exfalso;rw[d]at i;exact(apC.1 i).2.2 z q y (amM ..) c
   ·rcases ai2.1 q with q|q
    ·exfalso;subst q;exact l z (e z a) c
    ·obtain⟨v,u,rfl⟩:=azu q;have:=p (P++y::v) u z (by simp at m;omega) (by rw[d];simp);exact VX (by simp) this
 obtain⟨P,S,rfl⟩:=azu (e x s);refine VX ?_ (key S.length P S x (ahd _) rfl)
 grind
def jP.void{k:bg}(h:jP k)(y:Nat):jP {k with b:=(ek k.b y).1}:=by
 obtain⟨L,f,g,e,d,c⟩:=h.ord;refine⟨ajv h.ok [y],λi=>akh (h.dB i),L.filter λx=>ax (ek k.b y).1 x,f.filter _,λx a=>(aiJ.1 a).2,λx a=>aiJ.2 ⟨e x (VV a),a⟩,d.filter _,λx a=>c x (aiJ.1 a).1⟩
def jP.akm{k:bg}(h:jP k)(l:lN):jP (nr k l):=by
 induction l generalizing k with
 |nil=>exact h
 |cons y l a=>exact a (h.void y)
theorem jP.clear{k:bg}(h:jP k)(r:Nat):jP (Mj k r):=h.akm _
def jP.ret{k:bg}(h:jP k)(a:Nat):jP (mJ k a).1:=by
 unfold mJ;split
 ·exact h.akm _
 omega
def jP.akn{k:bg}(h:jP k){x:Tok}(F:ub x):jP (ln k x).1:=by
 unfold ln;split
 ·exact h
 ·rename_i hm;have hm:p7 k x=0:=aph λq=>hm q
  have g:x.aR=0\/ax k.b x.aR=true:=by
   unfold p7 at hm;split at hm
   ·omega
   ·have:nj k x.aR=true:=by grind
    unfold nj at this
    grind
  split
  ·rename_i i s;split
   ·rename_i r;obtain⟨i1,i2,i3,_⟩:=sQ s;have t:=h.ok.b;have c:=GA s t;have p:=aki s t;have f:=λz=>VU (h:=z) s t
    have A: ∀z,ax k.b z=true->aN z≠i:=by
     intro z d q;obtain⟨_,o,_⟩:=Cc d;rw[q]at o;rw[o]at i2;cases i2
    have y:aN (c7 i (k.b i).gen)=i:=by
     obtain⟨j,e,l⟩:=lp.1 ((f _).2 (.inr rfl));rw[Gd e];refine aph λq=>?_
     rw[dj q]at l;rw[lp.2 ⟨j,e,l⟩]at c;cases c
    have v:x.aR≠c7 i (k.b i).gen:=by
     intro q;rcases g with e|e
     ·rw[e]at q;unfold c7 at q;omega
     ·rw[q,c]at e;cases e
    obtain⟨L,E,u,D,C,B⟩:=h.ord;have w: ∀z∈L,aq k.t i x (aN z)=k.t (aN z):=λz d=>dj (A z (u z d))
    refine⟨⟨UP t s,λj l=>?_,λj=>?_⟩,λj=>?_,L++[c7 i (k.b i).gen],?_,λz d=>?_,λz d=>?_,?_,λz d=>?_⟩
    ·by_cases e:j=i
     ·rw[e];exact r
     ·have l: (aq k.b i {k.b i with eH:=true} j).eH=true:=l;rw[dj e]at l;exact h.ok.lt j l
    ·show ub (aq k.t i x j);by_cases e:j=i
     ·rw[e,cT];exact F
     ·rw[dj e];exact h.ok.t j
    ·show nK _ (aq k.t i x j).aR;by_cases e:j=i
     ·rw[e,cT];rcases g with q|q
      ·rw[q];exact CE _
      ·exact MU (VT q)
     ·rw[dj e];exact MU (h.dB j)
    ·refine List.nodup_append.2 ⟨E,by simp,λa n b m=>?_⟩;rw[ahe.1 m];intro q;rw[q]at n;rw[u _ n]at c;cases c
    ·rcases ahb.1 d with q|q
     ·exact(f z).2 (.inl (u z q))
     ·exact(f z).2 (.inr (ahe.1 q))
    ·rcases(f z).1 d with q|q
     ·exact ahb.2 (.inl (D z q))
     ·exact ahb.2 (.inr (ahe.2 q))
    ·refine apC.2 ⟨?_,by simp,λa n b m=>?_⟩
     ·exact auz (λn _ g=>by show(aq k.t i x (aN _)).aR≠_;rw[w _ n];exact g) C
     ·rw[ahe.1 m];show(aq k.t i x (aN a)).aR≠_;rw[w a n];intro q;have:=h.dB (aN a);rw[q]at this;exact p this
    ·rcases ahb.1 d with q|q
     ·show(aq k.t i x (aN z)).aR≠_;rw[w z q];exact B z q
     ·rw[ahe.1 q];show(aq k.t i x (aN _)).aR≠_;rw[y,cT];exact v
   omega
  omega
structure bh(s:bG):Prop where
 eB:ep s.T
 O:fF s.O
 tok:jP s.K
 bx: ∀i,iV (s.c8 i)
theorem bh.T{s:bG}(h:bh s):bN s.T:=h.eB.ok
theorem bh.tr{s:bG}(h:bh s):cm s.T:=h.eB.tr
theorem bh.K{s:bG}(h:bh s):gy s.K:=h.tok.ok
theorem bh.th{s:bG}(h:bh s): ∀a,ax s.K.b a=true->xD s.K 16 a:=λ_ b=>h.tok.th b
theorem bh.vO{s:bG}(h:bh s)(a:ep t):bh {s with T:=t}:=⟨a,h.O,h.tok,h.bx⟩
theorem bh.vP{s:bG}(h:bh s){o:bM}(ho:fF o):bh {s with O:=o}:=⟨h.eB,ho,h.tok,h.bx⟩
theorem bh.CG{s:bG}(h:bh s){k:bg}(a:jP k):bh {s with K:=k}:=⟨h.eB,h.O,a,h.bx⟩
theorem bh.CH{s:bG}(h:bh s){i:Nat}{b:cK}(a:iV b):bh {s with c8:=aq s.c8 i b}:=⟨h.eB,h.O,h.tok,λj=>by
 show iV (aq s.c8 i b j);by_cases e:j=i
 ·rw[e,cT];exact a
 ·rw[dj e];exact h.bx j⟩
theorem bh.VY{s:bG}(h:bh s){a b:Nat->Bool}:bh {s with alive:=a,born:=b}:=⟨h.eB,h.O,h.tok,h.bx⟩
theorem fF.ir{o:bM}(ho:fF o){r:Nat}(a:r<4294967296):fF (rn o t r aa).1:=ho.MJ a ⟨by simp,ao3 _ (by omega),by simp⟩
theorem fF.fly{o:bM}(ho:fF o){r:Nat}(a:r<4294967296):fF (zy o t r).1:=ho.MJ a ⟨by simp,by simp,by simp⟩
theorem fF.freeze{o:bM}(ho:fF o){r:Nat}(a:r<4294967296):fF (Ca o t r aa).1:=ho.MJ a ⟨by simp,by simp,zR aa⟩
def fF.held{o:bM}(ho:fF o){r:Nat}{b:Bool}(c:r<4294967296):fF (du o t r aa b).1:=by
 unfold du;dsimp only;split
 ·omega
 ·split
  ·omega
  ·split
   ·omega
   ·split
    ·omega
    ·split
     ·omega
     ·have a:=ho.of t r;exact ho.MJ c ⟨a.kind,a.aa,aC4 (n:=8) a.hold (zR aa)⟩
section
theorem lx{args:lA}{E:AS}{r:aS}(h:D X0 v args E=some r):D XA v args E=some r:=xw DP (up dk h)
theorem ly{args:lA}{E:AS}{r:aS}(h:D X v args E=some r):D XA v args E=some r:=xw DP h
structure jQ(c:cp):Prop where
 op:c.op<256
 r:c.r<4294967296
 s:c.s<4294967296
 a:c.a<4294967296
 b:c.b<4294967296
 v:c.v<18446744073709551616
def dR{α:Type}(f:α->AV×AS)(E:AS):R α->aS
 |.ok a=>.ret (f a).1 (f a).2
 |.error e=>.panic (iW e) E
abbrev un(E:AS):Unit->AV×AS:=λ_=>(.au [],E)
def lv(b:Bool)(e:Nat)(H:List ae)(lo:oN):D XA (.fn (.func cQ) [] []) [.bool b,.int .i64 e] ⟨H,lo⟩=some (dR (un ⟨H,lo⟩) ⟨H,lo⟩ (ask b e)):=by
 cases b
 ·exact lx (zS e H lo)
 ·exact lx (Gy e H lo)
def gO(e:Nat)(H:List ae)(lo:oN):D XA (.fn (.func gU) [] []) [.int .i64 e] ⟨H,lo⟩=some (dR (un ⟨H,lo⟩) ⟨H,lo⟩ (bb e)):=by
 by_cases h:e=0
 ·subst h;exact lx (avR H lo)
 ·unfold bb;rw[afB h];exact lx (avS e h H lo)
def iX{a:List FP}{f:ao}{b:List ao}{d:oN}{e:Env}{c:lN}{Q:bQ}{E:AS}:kF a (.call f b) d [] [] e c Q v E=Q (.panic v) ⟨e,c⟩ E:=by
 have h:Dd a (⟨none,d,.call f b⟩,[]) []=true:=by rfl
 simp only[kF,h,aBV]
def take_set{H L:List ae}{N:Nat}{o:ae}(a:H.length=N):List.take N (H.set p o++L)=H.set p o:=by grind
theorem aDX{H:List ae}{N:Nat}{o:ae}(a:H.length=N):List.take N (H.set p o)=H.set p o:=ag8 (by grind)
def awg:aJ t++List.drop 480 (aV x bk)=aV (x.t t) bk:=by
 rw[<-VQ];simp[aH,iq]
structure Old(p:Nat)(H:List ae)(v:ae):Prop where
 at':H[p]?=some v
namespace Old
variable{p:Nat}{H:List ae}{v:ae}(h:Old p H v)
include h
theorem lt:p<H.length:=(afA.1 h.at').1
theorem g(B:List ae): (H++B)[p]?=some v:=bc h.at'
theorem s(B:List ae)(w:ae): (H++B).set p w=H.set p w++B:=asa _ _ h.lt
theorem g1(w:ae): (H.set p w)[p]?=some w:=by rw[ahj h.lt]
theorem g2(w:ae)(B:List ae): (H.set p w++B)[p]?=some w:=bc (h.g1 w)
theorem s2(w w':ae)(B:List ae): (H.set p w++B).set p w'=H.set p w'++B:=by
 rw[asa _ _ (by rw[ahq];exact h.lt),anu]
theorem same:H.set p v=H:=qg h.at'
theorem app(B:List ae):Old p (H++B) v:=⟨h.g B⟩
theorem set(w:ae):Old p (H.set p w) w:=⟨h.g1 w⟩
end Old
def awh{x:Nat}(a:k<8):k5 .shr (.int .u8 (x:Nat)) (.int .i64 (k:Nat))=some (.int .u8 ((x/2^k:Nat):Int)):=by
 rw[DR,afJ (by omega)];have b:IntKind.u8.bits=8:=rfl
 grind
def awi{x:Nat}(c:x<256):dh .and (.int .u8 ((x/2^k:Nat):Int)) (.int .u8 1)=some (.int .u8 ((x/2^k % 2:Nat):Int)):=by
 have a:x/2^k<256:=Nat.lt_of_le_of_lt (aBi _ _) c;have:=MK (b:=1) a (by omega)
 grind
section
variable{x:ar}{bk:AV}{p:Nat}{H:List ae}(ho:Old p H (.box (aV x bk) none))(lo:oN)
include ho
theorem MX(aa:Nat):D XA (.fn (.func Bm) [] []) [.ptr p 0,.int .u32 aa] ⟨H,lo⟩=some (dR (un ⟨H,lo⟩) ⟨H,lo⟩ (l9 x aa)):=by
 refine aF LS λN f=>?_
 have e:=ho.at';by_cases h:aa<8
 ·have c: (aa:Int)<8:=by omega
  have b:l9 x aa=ask (x.s.alive aa) 2:=by unfold l9;simp[h]
  have a: ∀H lo,D XA (.fn (.func cQ) [] []) [.bool (x.s.alive aa),.int .i64 2] ⟨H,lo⟩=_:=lv _ 2;rw[b];cases d:x.s.alive aa<;>rw[d]at a<;>simp(disch:=omega) only[F1,go_sem,simprocAttr,LS,e,c,↓VP h,d,a,ask,dR,EP]
 ·have c: ¬(aa:Int)<8:=by omega
  have b:l9 x aa= .error 2:=by unfold l9 ask;simp[h]
  have a: ∀H lo,D XA (.fn (.func cQ) [] []) [.bool false,.int .i64 2] ⟨H,lo⟩=_:=lv _ 2;rw[b];simp(disch:=omega) only[F1,go_sem,simprocAttr,LS,c,a,ask,dR,EP]
theorem VZ(b:bh x.s)(i:x.aa<8)(h:Nat)(e:h<4294967296)(a:Nat)(d:a<=2):
  D XA (.fn (.func jC) [] []) [.ptr p 0,.int .u32 h,.int .u8 a] ⟨H,lo⟩=some (dR (un ⟨H,lo⟩) ⟨H,lo⟩ (fE x h a)):=by
 refine aF Th λN g=>?_
 have hm:=λH lo=>ly (avO x.s.T b.T b.tr x.s.O b.O x.s.K b.K x.aa (by omega) h e a d H lo)
 have c:=gO (xm x.s.T x.s.O x.s.K x.aa h a);unfold fE;cases f:bb (xm x.s.T x.s.O x.s.K x.aa h a)<;>rw[f]at c<;>simp only[F1,go_sem,simprocAttr,Th,g,ho.at',↓CL,hm,c,dR,EP,iX]
theorem MY(b:bh x.s)(h:Nat)(c:h<4294967296):
  D XA (.fn (.func Bl) [] []) [.ptr p 0,.int .u32 h] ⟨H,lo⟩=some (dR (λ_=>(.agg (bS (aK x.s.T h).1),⟨H,lo⟩)) ⟨H,lo⟩ (bb (aK x.s.T h).2)):=by
 refine aF Tj λN e=>?_
 have hm:=λH lo=>lx (vB x.s.T b.T h c H lo)
 have a:=gO (aK x.s.T h).2;cases d:bb (aK x.s.T h).2<;>rw[d]at a<;>simp only[F1,go_sem,simprocAttr,Tj,e,ho.g,↓CL,hm,nD,a,dR,EP]
theorem V0(a:bh x.s)(h:Nat)(d:h<4294967296):
  D XA (.fn (.func Er) [] []) [.ptr p 0,.int .u32 h] ⟨H,lo⟩=some (dR (λ_=>(.au [],⟨H.set p (.box (aV (x.t (jl x.s.T h).1) bk) none),lo⟩)) ⟨H,lo⟩ (bb (jl x.s.T h).2)):=by
 refine aF Tn λN c=>?_
 have hm:=λH lo=>ly (au2 x.s.T a.T a.tr h d H lo)
 have b:=gO (jl x.s.T h).2;cases e:bb (jl x.s.T h).2<;>rw[e]at b<;>simp only[F1,go_sem,simprocAttr,Tn,c,ho.at',ho.g,ho.s,↓CL,hm,MI,b,dR,EP,CS,cL,take_set c]
theorem MZ(a:bh x.s)(h:Nat)(e:h<4294967296)(aa:Nat)(d:aa<256):
  D XA (.fn (.func Bk) [] []) [.ptr p 0,.int .u32 h,.int .i64 aa] ⟨H,lo⟩=some (dR (λ_=>(.au [],⟨H.set p (.box (aV (x.o (rn x.s.O x.s.T h aa).1) bk) none),lo⟩)) ⟨H,lo⟩ (bb (rn x.s.O x.s.T h aa).2)):=by
 refine aF Ti λN c=>?_
 have hm:=λH lo=>lx (avb x.s.O x.s.T a.T a.tr h e aa d H lo)
 have b:=gO (rn x.s.O x.s.T h aa).2;cases f:bb (rn x.s.O x.s.T h aa).2<;>rw[f]at b<;>simp only[F1,go_sem,simprocAttr,Ti,c,ho.g,ho.s,↓CL,hm,b,dR,EP,CS,gj,take_set c]
theorem V4(d:bh x.s)(h:Nat)(g:h<4294967296)(r:dc)(e:RB r.runs)(f:r.runs.length<=65)(a:r.len<4294967296):
  D XA (.fn (.func JH) [] []) [.ptr p 0,.int .u32 h,.agg (bS r)] ⟨H,lo⟩=some (dR (λ_=>(.au [],⟨H.set p (.box (aV (x.t (fD x.s.T h r).1) bk) none),lo⟩)) ⟨H,lo⟩ (bb (fD x.s.T h r).2)):=by
 refine aF Tl λN c=>?_
 have hm:=λH lo=>lx (Vx x.s.T d.T h g r e f a H lo)
 have b:=gO (fD x.s.T h r).2;cases i:bb (fD x.s.T h r).2<;>rw[i]at b<;>simp only[F1,go_sem,simprocAttr,Tl,c,ho.g,ho.s,↓CL,hm,s9,b,dR,EP,CS,cL,take_set c]
theorem GB(f:bh x.s)(t:x.aa<8)(h:Nat)(n:h<4294967296):
  D XA (.fn (.func Es) [] []) [.ptr p 0,.int .u32 h] ⟨H,lo⟩=some (dR (un ⟨H,lo⟩) ⟨H,lo⟩ (xn x h)):=by
 refine aF B3 λN r=>?_
 have a:=λH lo=>lx (eo x.s.T.b h n H lo)
 have o:ax x.s.T.b h=x.s.T.ax h:=rfl;rw[o]at a;have d:=λH lo=>lx (Ct x.s.O f.O x.s.T f.T f.tr h n H lo)
 have c:=λH lo=>lx (zN x.s.T f.T f.tr h n H lo)
 have j:=f.O.of x.s.T h;have z:xn x h=ask (x.s.T.ax h) 4>>=λ_=>ask (decide (root x.s.T h=h)&&decide ((b0 x.s.O x.s.T h).kind=3)) 12>>=λ_=>ask ((b0 x.s.O x.s.T h).hold.testBit x.aa) 5:=rfl
 generalize b0 x.s.O x.s.T h=w at*;have g: ∀H lo,D XA (.fn (.func cQ) [] []) [.bool (x.s.T.ax h),.int .i64 4] ⟨H,lo⟩=_:=lv _ 4;have e: ∀b H lo,D XA (.fn (.func cQ) [] []) [.bool b,.int .i64 12] ⟨H,lo⟩=_:=λb=>lv b 12
 have A: ∀b H lo,D XA (.fn (.func cQ) [] []) [.bool b,.int .i64 5] ⟨H,lo⟩=_:=λb=>lv b 5
 rw[z];cases u:x.s.T.ax h with
 |false=>
  rw[u]at a g;simp(disch:=omega) only[F1,go_sem,simprocAttr,B3,ho.at',↓CL,a,g,ask,dR,EP,Except.bind,bind]
 |true=>
  rw[u]at a g;by_cases hr:root x.s.T h=h
  ·have k:decide ((root x.s.T h:Int)=h)=true:=ag9 (by omega);by_cases s:w.kind=3
   ·have i:decide ((w.kind:Int)=3)=true:=ag9 (by omega);have m:k5 .shr (.int .u8 (w.hold:Nat)) (.int .i64 (x.aa:Nat))=some (.int .u8 ((w.hold/2^x.aa:Nat):Int)):=awh t;have hand:dh .and (.int .u8 ((w.hold/2^x.aa:Nat):Int)) (.int .u8 1)=some (.int .u8 ((w.hold/2^x.aa % 2:Nat):Int)):=awi j.hold;have q:=ajE j.hold t;have l:decide (((w.hold/2^x.aa % 2:Nat):Int)=1)=w.hold.testBit x.aa:=by rw[<-q];exact aht.2 (by omega)
    cases y:w.hold.testBit x.aa<;>rw[y]at l<;>
     simp only[F1,go_sem,simprocAttr,B3,r,ho.at',ho.g,↓CL,jK,a,g,d,c,hr,s,e,A,m,hand,l,ask,dR,EP,iX,Except.bind,bind]
   ·have i:decide ((w.kind:Int)=3)=false:=ag7 (by omega);simp only[F1,go_sem,simprocAttr,B3,r,ho.at',ho.g,↓CL,jK,a,g,d,c,hr,i,s,e,ask,dR,EP,Except.bind,bind]
  ·have k:decide ((root x.s.T h:Int)=h)=false:=ag7 (by omega);simp only[F1,go_sem,simprocAttr,B3,r,ho.at',ho.g,↓CL,jK,a,g,d,c,k,hr,e,ask,dR,akI,EP,Except.bind,bind]
end
def ako(c:cp)(H:List ae)(lo:oN):D XA (.fn (.func JI) [] []) [.agg (bf c)] ⟨H,lo⟩=some (dR (un ⟨H,lo⟩) ⟨H,lo⟩ (ask (decide (1<=c.b)&&decide (c.b<=8)) 2)):=by
 refine aF FV λN e=>?_
 have g: ∀b H lo,D XA (.fn (.func cQ) [] []) [.bool b,.int .i64 2] ⟨H,lo⟩=_:=λb=>lv b 2
 by_cases f:1<=c.b
 ·have a:decide ((c.b:Int)>=1)=true:=ag9 (by omega);by_cases i:c.b<=8
  ·have d:decide ((c.b:Int)<=8)=true:=ag9 (by omega);simp only[F1,go_sem,simprocAttr,FV,e,bf,a,d,f,i,g,ask,dR]
  ·have d:decide ((c.b:Int)<=8)=false:=ag7 (by omega);simp only[F1,go_sem,simprocAttr,FV,e,bf,a,d,f,i,g,ask,dR,EP]
 ·have a:decide ((c.b:Int)>=1)=false:=ag7 (by omega);simp only[F1,go_sem,simprocAttr,FV,e,bf,a,f,g,ask,dR,akI,EP]
def awj(r:dc)(g:r.len<4294967296)(c:cp)(d:jQ c)(H:List ae)(lo:oN):
  D XA (.fn (.func Ep) [] []) [.agg (bS r),.agg (bf c)] ⟨H,lo⟩=some (dR (un ⟨H,lo⟩) ⟨H,lo⟩ (ask (decide (c.a+c.b<=r.len)) 9)):=by
 refine aF LQ λN e=>?_
 have j:=d.a;have i:=d.b;have f: ∀b H lo,D XA (.fn (.func cQ) [] []) [.bool b,.int .i64 9] ⟨H,lo⟩=_:=λb=>lv b 9
 by_cases h:c.a+c.b<=r.len
 ·have a:decide ((c.a:Int)<=(r.len:Int)-c.b)=true:=ag9 (by omega);simp(disch:=omega) only[F1,go_sem,simprocAttr,LQ,e,bf,a,h,f,ask,dR]
 ·have a:decide ((c.a:Int)<=(r.len:Int)-c.b)=false:=ag7 (by omega);simp(disch:=omega) only[F1,go_sem,simprocAttr,LQ,e,bf,a,h,f,ask,dR,EP]
end
structure mQ(x:ar):Prop where
 s:bh x.s
 t:x.aa<8
 c:jQ x.c
 run:x.run.1<4294967296/\x.run.2<4294967296
def a0(b:List aE)(bk:AV)(p:Nat)(H:List ae)(lo:oN):R (ar×bE)->aS->Prop
 |.ok (y,r),a=>y.back=b/\a= .ret (.agg (bF r)) ⟨H.set p (.box (aV y bk) none),lo⟩
 |.error e,a=> ∃y,a= .panic (iW e) ⟨H.set p (.box (aV y bk) none),lo⟩
theorem okB{a:α}{f:α->R β}: (Except.ok a>>=f:R β)=f a:=rfl
theorem cV{f:α->R β}: (Except.error e>>=f:R β)= .error e:=rfl
def OL{H:List ae}{N:Nat}(a:H.length=N): (∀p w L,(H.set p w++L)[N]?=L[0]?)/\ (∀p w L k,(H.set p w++L)[N+k]?=L[k]?)/\ (∀p w L o,(H.set p w++L).set N o=H.set p w++L.set 0 o)/\ (∀p w L k o,(H.set p w++L).set (N+k) o=H.set p w++L.set k o)/\
  (∀p w L,List.take N (H.set p w++L)=H.set p w)/\ ∀p w,List.take N (H.set p w)=H.set p w:=by
 have h: ∀p w,(H.set p w).length=N:=λp w=>by grind
 grind
theorem gz{a:α}: (pure a:R α)= .ok a:=rfl
def dL{K c:AV->AS->Prop}{f:α->AV×AS}{E:AS}{m:R α}:H6 K c (some (dR f E m))=((∀a,m= .ok a->K (f a).1 (f a).2)/\ ∀e,m= .error e->c (iW e) E):=by
 apply propext;cases m with
 |ok a=>
  refine⟨λh=>⟨λb e=>?_,λ_ e=>?_⟩,λh=>h.1 a rfl⟩
  ·cases e;exact h
  grind
 |error e=>
  refine⟨λh=>⟨λb q=>?_,λb q=>?_⟩,λh=>h.2 e rfl⟩
  ·cases q
  ·cases q;exact h
def dM{q:Unit->Prop}: (∀a,q a)=q ():=by grind
section
variable{x:ar}{bk:AV}{p:Nat}{H:List ae}{lo:oN}(ho:Old p H (.box (aV x bk) none))(hx:mQ x)
include ho
theorem a0.err:a0 x.back bk p H lo (.error e) (.panic (iW e) ⟨H,lo⟩):=⟨x,by rw[ho.same]⟩
theorem a0.here(a:v= .agg (bF r)):a0 x.back bk p H lo (.ok (x,r)) (.ret v ⟨H,lo⟩):=by
 refine⟨rfl,?_⟩;rw[ho.same,a]
omit ho in
theorem a0.set(a:v= .agg (bF r))(b:y.back=x.back):a0 x.back bk p H lo (.ok (y,r)) (.ret v ⟨H.set p (.box (aV y bk) none),lo⟩):=by
 refine⟨b,?_⟩;rw[a]
omit ho in
theorem zU{h w:Nat}(a:fE x h w= .ok ()):bb (aK x.s.T h).2= .ok ():=by
 unfold fE xm at a;cases b:x.s.T.ax h with
 |true=>unfold aK;rw[afJ b];rfl
 |false=>rw[afJ b]at a;cases a
include hx
theorem M0(h:Nat)(a:h<4294967296)(B:List ae)(lo:oN):D XA (.fn (.func jC) [] []) [.ptr p 0,.int .u32 h,.int .u8 0] ⟨H++B,lo⟩=some (dR (un ⟨H++B,lo⟩) ⟨H++B,lo⟩ (fE x h 0)):=VZ (ho.app B) lo hx.s hx.t h a 0 (by omega)
theorem M1(h:Nat)(a:h<4294967296)(B:List ae)(lo:oN):D XA (.fn (.func jC) [] []) [.ptr p 0,.int .u32 h,.int .u8 1] ⟨H++B,lo⟩=some (dR (un ⟨H++B,lo⟩) ⟨H++B,lo⟩ (fE x h 1)):=VZ (ho.app B) lo hx.s hx.t h a 1 (by omega)
theorem M2(h:Nat)(a:h<4294967296)(B:List ae)(lo:oN):D XA (.fn (.func jC) [] []) [.ptr p 0,.int .u32 h,.int .u8 2] ⟨H++B,lo⟩=some (dR (un ⟨H++B,lo⟩) ⟨H++B,lo⟩ (fE x h 2)):=VZ (ho.app B) lo hx.s hx.t h a 2 (by omega)
omit ho in
theorem Bs(L:List ae)(lo:oN):D XA (.fn (.func Ep) [] []) [.agg (bS (aK x.s.T x.c.r).1),.agg (bf x.c)] ⟨L,lo⟩=some (dR (un ⟨L,lo⟩) ⟨L,lo⟩ (ask (decide (x.c.a+x.c.b<=(aK x.s.T x.c.r).1.len)) 9)):=
 awj (aK x.s.T x.c.r).1 (by have:=(hx.s.T.get x.c.r).len;omega) x.c hx.c L lo
end
section
variable{x:ar}{bk:AV}{p:Nat}{H:List ae}{lo:oN}(ho:Old p H (.box (aV x bk) none))(hx:mQ x)
include ho hx
theorem awk: ∃a,D XA (.fn (.func Jo) [] []) [.ptr p 0] ⟨H,lo⟩=some a/\a0 x.back bk p H lo (rq x 0) a:=by
 refine cy S7 λN b=>?_
 simp only[F1,go_sem,simprocAttr,S7,b,ho.g,↓CL,λB=>ako x.c (H++B),M0 ho hx x.c.r hx.c.r,λB lo=>MY (ho.app B) lo hx.s x.c.r hx.c.r,λL=>Bs hx L,dL,dM,EP,iX];have c:=zU (x:=x) (h:=x.c.r) (w:=0)
 (repeat' (first| (refine⟨?_,?_⟩)|intro _))<;>first
   | (simp only[rq,gz,okB,cV, *];first|exact a0.err ho|exact a0.here ho rfl)
   | (exfalso;simp_all)
theorem awl: ∃a,D XA (.fn (.func Jp) [] []) [.ptr p 0] ⟨H,lo⟩=some a/\a0 x.back bk p H lo (rq x 1) a:=by
 refine cy S8 λN b=>?_
 simp only[F1,go_sem,simprocAttr,S8,b,ho.g,↓CL,λB=>ako x.c (H++B),M1 ho hx x.c.r hx.c.r,λB lo=>MY (ho.app B) lo hx.s x.c.r hx.c.r,λL=>Bs hx L,dL,dM,EP,iX];have c:=zU (x:=x) (h:=x.c.r) (w:=1)
 (repeat' (first| (refine⟨?_,?_⟩)|intro _))<;>first
   | (simp only[rq,gz,okB,cV, *];first|exact a0.err ho|exact a0.here ho rfl)
   | (exfalso;simp_all)
end
theorem awm{args:lA}{E:AS}{a:AS}(h:CA args E=some (.ret v a)):D XA (.fn (.func yG) [] []) args E=some (.ret v a):=DV rfl h
def xK(h: ¬a<8):l9 x a= .error 2:=by unfold l9 ask;simp[h]
def akp(h:a<4294967296):min a 8<4294967296:=by omega
section
variable{x:ar}{bk:AV}{p:Nat}{H:List ae}{lo:oN}(ho:Old p H (.box (aV x bk) none))(hx:mQ x)
include ho hx
theorem awn: ∃b,D XA (.fn (.func JC) [] []) [.ptr p 0] ⟨H,lo⟩=some b/\a0 x.back bk p H lo (vy x) b:=by
 refine cy Tg λN c=>?_
 have a:=λH lo=>awm (av6 x.s.T hx.s.T x.c.r (min x.c.a 8) hx.c.r (akp hx.c.a) H lo)
 have em: ((min x.c.a 8:Nat):Int)=min (x.c.a:Int) 8:=by omega
 simp only[em]at a;simp(disch:=omega) only[F1,go_sem,simprocAttr,Tg,c,ho.g,↓CL,M0 ho hx x.c.r hx.c.r,a,λH=>gO (sS x.s.T x.c.r (min x.c.a 8)).2 H,dL,dM,EP]
 (repeat' (first| (refine⟨?_,?_⟩)|intro _))<;>(simp only[vy,gz,okB,cV, *];first|exact a0.err ho|exact a0.here ho rfl)
theorem awo: ∃b,D XA (.fn (.func Jt) [] []) [.ptr p 0] ⟨H,lo⟩=some b/\a0 x.back bk p H lo (vo x) b:=by
 refine cy Tc λN a=>?_
 have c:=λH lo=>ly (auY x.s.T hx.s.T hx.s.tr x.c.r x.c.s hx.c.r hx.c.s H lo)
 simp only[F1,go_sem,simprocAttr,Tc,a,ho.g,ho.s,↓CL,CS,M2 ho hx x.c.r hx.c.r,M1 ho hx x.c.s hx.c.s,c,xA,λH=>gO (vi x.s.T x.c.r x.c.s).2 H,dL,dM,EP,cL,OL a]
 (repeat' (first| (refine⟨?_,?_⟩)|intro _))<;>(simp only[vo,gz,okB,cV, *];first|exact a0.err ho|trivial)
theorem awp: ∃d,D XA (.fn (.func Jv) [] []) [.ptr p 0] ⟨H,lo⟩=some d/\a0 x.back bk p H lo (sV x) d:=by
 refine cy LH λN b=>?_
 have a:=λB lo=>MX (ho.app B) lo x.c.a
 by_cases c:x.c.a<8
 ·have e:=λH lo=>lx (ajl x.s.O hx.s.O x.s.T hx.s.T hx.s.tr x.c.r hx.c.r x.c.a (by omega) H lo)
  simp(disch:=omega) only[F1,go_sem,simprocAttr,LH,b,ho.g,ho.s,↓CL,CS,a,λB lo=>GB (ho.app B) lo hx.s hx.t x.c.r hx.c.r,e,λH=>gO (du x.s.O x.s.T x.c.r x.c.a true).2.2 H,dL,dM,EP,gj,OL b]
  (repeat' (first| (refine⟨?_,?_⟩)|intro _))<;>(simp only[sV,Cf,gz,okB,cV, *];first|exact a0.err ho|exact a0.set rfl rfl)
 ·rw[xK c]at a;simp only[F1,go_sem,simprocAttr,LH,b,ho.g,↓CL,a,dR,EP];simp only[sV,cV,xK c];exact a0.err ho
theorem awq: ∃d,D XA (.fn (.func JA) [] []) [.ptr p 0] ⟨H,lo⟩=some d/\a0 x.back bk p H lo (vx x) d:=by
 refine cy Tf λN c=>?_
 have e:=λH lo=>lx (avU (x.s.c8 x.aa) H lo)
 have i:=hx.t;have h: (x.aa:Int)<8:=by omega
 have g:784+x.aa*19<=945:=by omega
 have f:=λbk=> @MR x bk x.aa hx.t
 have a:=λbk b=> @MS x bk x.aa b hx.t
 simp only[F1,go_sem,simprocAttr,Tf,c,ho.g,ho.s,↓CL,CS,e,h,↓f,a,g,MB,λH=>gO (vk (x.s.c8 x.aa)).2 H,dL,dM,EP,OL c]
 (repeat' (first| (refine⟨?_,?_⟩)|intro _))<;>(simp only[vx,gz,okB,cV, *];first|exact a0.err ho|trivial)
theorem awr: ∃e,D XA (.fn (.func Jy) [] []) [.ptr p 0] ⟨H,lo⟩=some e/\a0 x.back bk p H lo (vu x) e:=by
 refine cy Te λN d=>?_
 have c:=λH lo=>lx (Cu x.s.K hx.s.K x.c.s hx.c.s H lo)
 have a:=hx.s.K.get x.c.s;generalize i:b9 x.s.K x.c.s=g at*;have f:=a.to;have he: ((g.1.to:Int)=x.aa)=(g.1.to=x.aa):=propext (by omega);obtain⟨w,hr⟩:=ajA x.s.K hx.s.K x.c.s hx.c.s (hx.s.th x.c.s) (H++[.box [.int .i64 0,.int .u64 0,.int .u32 0] none,.box (fC g.1) none]) none;have hr:=ly hr;simp only[fC]at hr c;have h: ∀b H lo,D XA (.fn (.func cQ) [] []) [.bool b,.int .i64 5] ⟨H,lo⟩=_:=λb=>lv b 5
 simp(disch:=omega) only[F1,go_sem,simprocAttr,Te,d,ho.g,ho.s,↓CL,CS,c,hr,he,h,λH=>gO g.2 H,dL,dM,EP,iX,OL d]
 (repeat' (first| (refine⟨?_,?_⟩)|intro _))<;>(simp only[vu,gz,okB,cV, *];first|exact a0.err ho|exact a0.set rfl rfl)
theorem aws: ∃g,D XA (.fn (.func JF) [] []) [.ptr p 0] ⟨H,lo⟩=some g/\a0 x.back bk p H lo (rr x) g:=by
 refine cy LN λN c=>?_
 have f: ∀b H lo,D XA (.fn (.func cQ) [] []) [.bool b,.int .i64 2] ⟨H,lo⟩=_:=λb=>lv b 2
 by_cases a:x.c.a<8
 ·have e: (x.c.a:Int)<8:=by omega
  have l: (x.c.a:Int).tmod 8=x.c.a:=Int.tmod_eq_of_lt (by omega) (by omega);have k: (decide (x.c.a<8)&& !x.s.born (x.c.a % 8))= !x.s.born x.c.a:=by rw[apy a];simp[a]
  have j:=λbk=> @avP x bk x.c.a a
  have s1:=λ (y:ar) bk v=> @aj1 y bk x.c.a v a
  have s2:=λ (y:ar) bk v=> @avQ y bk x.c.a v a
  have i:936+x.c.a<=963:=by omega
  have h:944+x.c.a<=963:=by omega
  simp only[F1,go_sem,simprocAttr,LN,c,ho.g,ho.s,ho.g2,ho.s2,↓CL,CS,e,l,i,h,↓j,f,s1,s2,dL,dM,EP,iX,OL c];have d:rr x=ask (!x.s.born x.c.a) 2>>=λ_=>.ok ({x with s:={x.s with alive:=aq x.s.alive x.c.a true,born:=aq x.s.born x.c.a true}},bX):=by unfold rr;rw[k];rfl
  rw[d]
  (repeat' (first| (refine⟨?_,?_⟩)|intro _))<;>(simp only[okB,cV, *];first|exact a0.err ho|exact a0.set rfl rfl)
 ·have e: ¬(x.c.a:Int)<8:=by omega
  have f: ∀H lo,D XA (.fn (.func cQ) [] []) [.bool false,.int .i64 2] ⟨H,lo⟩=_:=λH lo=>lx (zS 2 H lo)
  have d:rr x= .error 2:=by unfold rr;rw[ag7 a];rfl
  simp only[F1,go_sem,simprocAttr,LN,c,ho.g,↓CL,e,f,EP,iX];rw[d];exact a0.err ho
theorem awt: ∃h,D XA (.fn (.func JB) [] []) [.ptr p 0] ⟨H,lo⟩=some h/\a0 x.back bk p H lo (oC x) h:=by
 refine cy LK λN d=>?_
 have b:=λH lo=>lx (Ct x.s.O hx.s.O x.s.T hx.s.T hx.s.tr x.c.s hx.c.s H lo)
 have f:=λH lo=>av8 x.s.T hx.s.T hx.s.tr x.c.r (min x.c.a 8) x.c.s (decide ((b0 x.s.O x.s.T x.c.s).kind=3)) hx.c.r hx.c.s (akp hx.c.a) H lo
 have em: ((min x.c.a 8:Nat):Int)=min (x.c.a:Int) 8:=by omega
 have c:decide ((b0 x.s.O x.s.T x.c.s).kind=3)=decide (((b0 x.s.O x.s.T x.c.s).kind:Int)=3):=aht.2 (by omega);simp only[em,c]at f;by_cases e:x.c.s=0
 ·have a:decide ((x.c.s:Int)=0)=true:=ag9 (by omega);simp(disch:=omega) only[F1,go_sem,simprocAttr,LK,d,ho.g,ho.s,↓CL,CS,M1 ho hx x.c.r hx.c.r,a,b,jK,f,λH=>gO (nu x.s.T x.c.r (min x.c.a 8) x.c.s (decide (((b0 x.s.O x.s.T x.c.s).kind:Int)=3))).2 H,dL,dM,EP,OL d,cL];have g:oC x=fE x x.c.r 1>>=λ_=>bb (nu x.s.T x.c.r (min x.c.a 8) x.c.s (decide (((b0 x.s.O x.s.T x.c.s).kind:Int)=3))).2>>=λ_=>.ok (x.t (nu x.s.T x.c.r (min x.c.a 8) x.c.s (decide (((b0 x.s.O x.s.T x.c.s).kind:Int)=3))).1,bX):=by
   unfold oC;rw[afB (by simpa using e),c];rfl
  rw[g];clear e a c em
  (repeat' (first| (refine⟨?_,?_⟩)|intro _))<;>(simp only[okB,cV, *];first|exact a0.err ho|exact a0.set rfl rfl)
 ·have a:decide ((x.c.s:Int)=0)=false:=ag7 (by omega);simp(disch:=omega) only[F1,go_sem,simprocAttr,LK,d,ho.g,ho.s,↓CL,CS,M1 ho hx x.c.r hx.c.r,M0 ho hx x.c.s hx.c.s,a,b,jK,f,λH=>gO (nu x.s.T x.c.r (min x.c.a 8) x.c.s (decide (((b0 x.s.O x.s.T x.c.s).kind:Int)=3))).2 H,dL,dM,EP,OL d,cL];have g:oC x=fE x x.c.r 1>>=λ_=>fE x x.c.s 0>>=λ_=>bb (nu x.s.T x.c.r (min x.c.a 8) x.c.s (decide (((b0 x.s.O x.s.T x.c.s).kind:Int)=3))).2>>=λ_=>.ok (x.t (nu x.s.T x.c.r (min x.c.a 8) x.c.s (decide (((b0 x.s.O x.s.T x.c.s).kind:Int)=3))).1,bX):=by
   unfold oC;rw[afJ (by simpa using e),c];rfl
  rw[g];clear e a c em
  (repeat' (first| (refine⟨?_,?_⟩)|intro _))<;>(simp only[okB,cV, *];first|exact a0.err ho|exact a0.set rfl rfl)
end
theorem vQ: (x.t t).c=x.c/\ (x.t t).aa=x.aa/\ (x.t t).s.T=t/\ (x.t t).s.O=x.s.O/\ (x.t t).s.K=x.s.K/\ (x.t t).s.c8=x.s.c8/\ (x.t t).run=x.run:=⟨rfl,rfl,rfl,rfl,rfl,rfl,rfl⟩
theorem M3{t:bM}: (x.o t).c=x.c/\ (x.o t).aa=x.aa/\ (x.o t).s.O=t/\ (x.o t).s.T=x.s.T/\ (x.o t).s.K=x.s.K/\ (x.o t).s.c8=x.s.c8:=⟨rfl,rfl,rfl,rfl,rfl,rfl⟩
theorem akq{b:cK}: (x.bx i b).c=x.c/\ (x.bx i b).aa=x.aa/\ (x.bx i b).s.O=x.s.O/\ (x.bx i b).s.T=x.s.T/\ (x.bx i b).s.K=x.s.K/\ (x.bx i b).s.c8=aq x.s.c8 i b:=⟨rfl,rfl,rfl,rfl,rfl,rfl⟩
section
variable{x:ar}{bk:AV}{p:Nat}{H:List ae}{lo:oN}(ho:Old p H (.box (aV x bk) none))(hx:mQ x)
include ho hx
omit ho hx in
theorem a0.mR:a0 x.back bk p H lo (.error e) (.panic (iW e) ⟨H.set p (.box (aV y bk) none),lo⟩):=⟨y,rfl⟩
theorem awu: ∃f,D XA (.fn (.func Js) [] []) [.ptr p 0] ⟨H,lo⟩=some f/\a0 x.back bk p H lo (vm x) f:=by
 refine cy Tb λN e=>?_
 have c:=λH lo=>lx (zN x.s.T hx.s.T hx.s.tr x.c.r hx.c.r H lo)
 have g:decide (root x.s.T x.c.r≠x.c.r)=decide (¬((root x.s.T x.c.r:Nat):Int)=x.c.r):=aht.2 (by omega);have d: ∀b H lo,D XA (.fn (.func cQ) [] []) [.bool b,.int .i64 12] ⟨H,lo⟩=_:=λb=>lv b 12
 have a:bh (x.t (jl x.s.T x.c.r).1).s:=hx.s.vO (hx.s.eB.cut _);have hw:=λB lo=>MZ (x:=x.t (jl x.s.T x.c.r).1) (bk:=bk) ((ho.set _).app B) lo a x.c.r hx.c.r x.aa (by have:=hx.t;omega)
 simp only[F1,go_sem,simprocAttr,Tb,e,ho.g,ho.s,ho.g2,ho.s2,↓CL,M2 ho hx x.c.r hx.c.r,c,d,λB lo=>V0 (ho.app B) lo hx.s x.c.r hx.c.r,hw,vQ,dL,dM,EP,iX,OL e]
 (repeat' (first| (refine⟨?_,?_⟩)|intro _))<;>(simp only[vm,vl,mM,vQ,gz,okB,cV, *];first|exact a0.err ho|exact a0.mR|exact a0.set rfl rfl)
theorem awv: ∃c,D XA (.fn (.func Ju) [] []) [.ptr p 0] ⟨H,lo⟩=some c/\a0 x.back bk p H lo (vq x) c:=by
 refine cy Td λN b=>?_
 have a:=hx.s.eB.cut x.c.r;have hw:=λH lo=>lx (avc x.s.O (jl x.s.T x.c.r).1 a.ok a.tr x.c.r hx.c.r x.aa (by have:=hx.t;omega) H lo)
 simp only[F1,go_sem,simprocAttr,Td,b,ho.g,ho.s,ho.g2,ho.s2,↓CL,CS,M2 ho hx x.c.r hx.c.r,λB lo=>V0 (ho.app B) lo hx.s x.c.r hx.c.r,hw,vQ,λH=>gO (Ca x.s.O (jl x.s.T x.c.r).1 x.c.r x.aa).2 H,dL,dM,EP,OL b,gj]
 (repeat' (first| (refine⟨?_,?_⟩)|intro _))<;>(simp only[vq,vl,vQ,gz,okB,cV, *];first|exact a0.err ho|exact a0.mR|exact a0.set rfl rfl)
theorem akr: ∃t,D XA (.fn (.func Bj) [] []) [.ptr p 0] ⟨H,lo⟩=some t/\a0 x.back bk p H lo (oB x) t:=by
 refine cy FQ λN h=>?_
 have u:=hx.t;have s: (x.aa:Int)<8:=by omega
 have r:784+x.aa*19<=945:=by omega
 have o:=λbk=> @MR x bk x.aa hx.t
 have d:=λbk b=> @MS x bk x.aa b hx.t
 have f:=λH lo=>lx (avT (x.s.c8 x.aa) (hx.s.bx _) H lo)
 have i:=(hx.s.bx x.aa).take;have l:bh (x.bx x.aa (mK (x.s.c8 x.aa)).1).s:=hx.s.CH i.1;have m:=i.2.aL;have hw:=λB lo=>MZ (x:=x.bx x.aa (mK (x.s.c8 x.aa)).1) (bk:=bk) ((ho.set _).app B) lo l (mK (x.s.c8 x.aa)).2.1.aL m x.aa (by omega)
 generalize n:mK (x.s.c8 x.aa)=g at*;simp only[oL]at f;have e:N+1+1=N+2:=rfl;by_cases j:g.2.1.aL=0
 ·have a:decide ((g.2.1.aL:Int)=0)=true:=ag9 (by omega);have k: (g.2.1.aL≠0/\g.2.1.share=false)=False:=aC3 λq=>q.1 j
  simp only[F1,go_sem,simprocAttr,FQ,h,ho.g,ho.s,↓CL,CS,f,s,↓o,d,r,e,a,MB,λH=>gO g.2.2 H,dL,dM,EP,OL h];clear j a
  (repeat' (first| (refine⟨?_,?_⟩)|intro _))<;>(simp only[oB,n,k,amJ];simp only[gz,okB,cV, *];first|exact a0.err ho|exact a0.set rfl rfl)
 ·have a:decide ((g.2.1.aL:Int)=0)=false:=ag7 (by omega);cases c:g.2.1.share with
  |true=>
   rw[c]at f;have k: (g.2.1.aL≠0/\g.2.1.share=false)=False:=aC3 λq=>by rw[c]at q;cases q.2
   simp only[F1,go_sem,simprocAttr,FQ,h,ho.g,ho.s,↓CL,CS,f,s,↓o,d,r,e,a,MB,λH=>gO g.2.2 H,dL,dM,EP,OL h];clear j a c
   (repeat' (first| (refine⟨?_,?_⟩)|intro _))<;>(simp only[oB,n,k,amJ];simp only[gz,okB,cV, *];first|exact a0.err ho|exact a0.set rfl rfl)
  |false=>
   rw[c]at f;have k: (g.2.1.aL≠0/\g.2.1.share=false)=True:=aC9 ⟨j,c⟩;simp only[F1,go_sem,simprocAttr,FQ,h,ho.g,ho.s,ho.g2,ho.s2,↓CL,CS,f,s,↓o,d,r,e,a,hw,akq,MB,λH=>gO g.2.2 H,dL,dM,EP,iX,OL h];clear j a c
   (repeat' (first| (refine⟨?_,?_⟩)|intro _))<;>(simp only[oB,n,k,aiZ];simp only[mM,akq,gz,okB,cV, *];first|exact a0.err ho|exact a0.mR|exact a0.set rfl rfl)
end
def aww(c:gL t.b): (l5 t a n).2.1<4294967296:=by
 unfold l5;split
 ·simp
 ·split
  ·simp
  ·split
   ·rename_i i b;exact Ge (sQ b).1 (c i).1
   grind
def aks(b:gL t.b): (hH t a n).2.1<4294967296:=by
 unfold hH;dsimp only;split
 ·simp
 ·exact aww b
section
variable{x:ar}{bk:AV}{p:Nat}{H:List ae}{lo:oN}(ho:Old p H (.box (aV x bk) none))(hx:mQ x)
include ho hx
theorem awx: ∃i,D XA (.fn (.func Jm) [] []) [.ptr p 0] ⟨H,lo⟩=some i/\a0 x.back bk p H lo (p9 x) i:=by
 refine cy LG λN d=>?_
 have j:=hx.t;have g:=λH lo=>lx (auQ x.s.T hx.s.T hx.s.tr x.c.r (min x.c.a 65) hx.c.r H lo)
 have em: ((min x.c.a 65:Nat):Int)=min (x.c.a:Int) 65:=by omega
 have e:bh (x.t (hH x.s.T x.c.r (min x.c.a 65)).1).s:=hx.s.vO (hx.s.eB.new _ _ hx.c.r);have f: (hH x.s.T x.c.r (min x.c.a 65)).2.1<4294967296:=aks hx.s.T.b;have hw:=λB lo=>MZ (x:=x.t (hH x.s.T x.c.r (min x.c.a 65)).1) (bk:=bk) ((ho.set _).app B) lo e _ f x.aa (by omega)
 have h:=λH=>gO (hH x.s.T x.c.r (min x.c.a 65)).2.2 H
 have e1:p9 x=(if x.c.r≠0 then fE x x.c.r 1 else .ok ())>>=λ_=>bb (hH x.s.T x.c.r (min x.c.a 65)).2.2>>=λ_=>(if x.c.r=0 then mM (x.t (hH x.s.T x.c.r (min x.c.a 65)).1) (hH x.s.T x.c.r (min x.c.a 65)).2.1 x.aa else .ok (x.t (hH x.s.T x.c.r (min x.c.a 65)).1))>>=λy=>.ok (y,{bX with w:=(hH x.s.T x.c.r (min x.c.a 65)).2.1}):=by
  unfold p9;by_cases q:x.c.r=0
  ·rw[afB (by simpa using q),afB (by simpa using q)];simp only[afJ q];rfl
  ·rw[afJ (by simpa using q),afJ (by simpa using q)];simp only[afB q];rfl
 simp only[zQ,em]at g;generalize hH x.s.T x.c.r (min x.c.a 65)=n at*;rw[e1];by_cases b:x.c.r=0
 ·have a:decide ((x.c.r:Int)=0)=true:=ag9 (by omega);have c: (x.c.r≠0)=False:=aC3 λq=>q b
  have e3: (x.c.r=0)=True:=aC9 b;simp only[c,e3,amJ,aiZ];simp(disch:=omega) only[F1,go_sem,simprocAttr,LG,d,ho.g,ho.s,ho.g2,ho.s2,↓CL,CS,g,a,h,hw,vQ,cL,dL,dM,EP,OL d];clear b a c e3
  (repeat' (first| (refine⟨?_,?_⟩)|intro _))<;>(simp only[mM,vQ,gz,okB,cV, *];first|exact a0.err ho|exact a0.mR|exact a0.set rfl rfl)
 ·have a:decide ((x.c.r:Int)=0)=false:=ag7 (by omega);have c: (x.c.r≠0)=True:=aC9 b;have e3: (x.c.r=0)=False:=aC3 b;simp only[c,e3,amJ,aiZ];simp(disch:=omega) only[F1,go_sem,simprocAttr,LG,d,ho.g,ho.s,ho.g2,↓CL,CS,M1 ho hx x.c.r hx.c.r,g,a,h,vQ,cL,dL,dM,EP,OL d];clear b a c e3
  (repeat' (first| (refine⟨?_,?_⟩)|intro _))<;>(simp only[okB,cV, *];first|exact a0.err ho|exact a0.mR|exact a0.set rfl rfl)
theorem awy: ∃I,D XA (.fn (.func Jx) [] []) [.ptr p 0] ⟨H,lo⟩=some I/\a0 x.back bk p H lo (qb x) I:=by
 refine cy zk λN h=>?_
 have M:=hx.t;have l:=λB lo=>MX (ho.app B) lo x.c.a
 by_cases G:x.c.a<8
 ·have y: ∀b H lo,D XA (.fn (.func cQ) [] []) [.bool b,.int .i64 2] ⟨H,lo⟩=_:=λb=>lv b 2
  have v: ∀b H lo,D XA (.fn (.func cQ) [] []) [.bool b,.int .i64 4] ⟨H,lo⟩=_:=λb=>lv b 4
  have u: ∀b H lo,D XA (.fn (.func cQ) [] []) [.bool b,.int .i64 5] ⟨H,lo⟩=_:=λb=>lv b 5
  have L:decide (x.c.b<=1)=decide ((x.c.b:Int)<=1):=aht.2 (by omega);have s:decide (x.c.b=1)=decide ((x.c.b:Int)=1):=aht.2 (by omega);have d:=λH lo=>lx (eo x.s.T.b x.c.r hx.c.r H lo)
  have C:ax x.s.T.b x.c.r=x.s.T.ax x.c.r:=rfl;rw[C]at d;have o:=λH lo=>ly (avq x.s.K hx.s.K ⟨x.c.r,x.aa % 256,x.c.a % 256,decide (x.c.b=1),x.c.s⟩ ⟨hx.c.r,ao3 _ (by omega),ao3 _ (by omega),hx.c.s⟩ H lo)
  have F:x.aa % 256=x.aa:=apy (by omega);have E:x.c.a % 256=x.c.a:=apy (by omega);simp only[nI,F,E,s]at o;have t:=λH=>gO (ln x.s.K ⟨x.c.r,x.aa,x.c.a,decide ((x.c.b:Int)=1),x.c.s⟩).2.2 H
  have k:=λH lo=>lx (Ct x.s.O hx.s.O x.s.T hx.s.T hx.s.tr x.c.r hx.c.r H lo)
  have A:=hx.s.O.of x.s.T x.c.r;have j:=λH lo=>lx (Cu x.s.K hx.s.K x.c.s hx.c.s H lo)
  have z:=hx.s.K.get x.c.s;have e1:qb x=l9 x x.c.a>>=λ_=>ask (decide ((x.c.b:Int)<=1)) 2>>=λ_=>ask (x.s.T.ax x.c.r) 4>>=λ_=>(if x.c.s=0 then ask (decide ((b0 x.s.O x.s.T x.c.r).kind=1)&&decide ((b0 x.s.O x.s.T x.c.r).aa=x.aa)) 5 else bb (b9 x.s.K x.c.s).2>>=λ_=>ask (decide ((b9 x.s.K x.c.s).1.to=x.aa)&&decide ((b9 x.s.K x.c.s).1.aL=x.c.r)) 5)>>=λ_=>
    bb (ln x.s.K ⟨x.c.r,x.aa,x.c.a,decide ((x.c.b:Int)=1),x.c.s⟩).2.2>>=λ_=>.ok (x.k (ln x.s.K ⟨x.c.r,x.aa,x.c.a,decide ((x.c.b:Int)=1),x.c.s⟩).1,{bX with w:=(ln x.s.K ⟨x.c.r,x.aa,x.c.a,decide ((x.c.b:Int)=1),x.c.s⟩).2.1}):=by
   unfold qb;rw[L,s,F,E];by_cases q:x.c.s=0
   ·simp only[afJ q];rfl
   ·simp only[afB q];cases l9 x x.c.a with
    |error e=>rfl
    |ok _=>
     simp only[okB];cases ask (decide ((x.c.b:Int)<=1)) 2 with
     |error e=>rfl
     |ok _=>
      simp only[okB];cases ask (x.s.T.ax x.c.r) 4 with
      |error e=>rfl
      |ok _=>
       simp only[okB];cases bb (b9 x.s.K x.c.s).2<;>rfl
  rw[e1];generalize ln x.s.K ⟨x.c.r,x.aa,x.c.a,decide ((x.c.b:Int)=1),x.c.s⟩=g at*;generalize b0 x.s.O x.s.T x.c.r=w at*;generalize b9 x.s.K x.c.s=tg at*;simp only[jK]at k;by_cases m:x.c.s=0
  ·have c:decide ((x.c.s:Int)=0)=true:=ag9 (by omega);have e3: (x.c.s=0)=True:=aC9 m;simp only[e3,aiZ];by_cases f:w.kind=1
   ·have a:decide ((w.kind:Int)=1)=true:=ag9 (by omega);have r:decide (w.aa=x.aa)=decide ((w.aa:Int)=x.aa):=aht.2 (by omega);have J:=A.aa;simp only[f,r,decide_true,ao1];simp(disch:=omega) only[F1,go_sem,simprocAttr,zk,h,ho.g,ho.s,↓CL,CS,l,y,d,v,c,k,a,u,o,t,qi,dL,dM,EP,iX,OL h];clear m c e3 f a r
    (repeat' (first| (refine⟨?_,?_⟩)|intro _))<;>(simp only[okB,cV, *];first|exact a0.err ho|exact a0.mR|exact a0.set rfl rfl)
   ·have a:decide ((w.kind:Int)=1)=false:=ag7 (by omega);have i:decide (w.kind=1)=false:=ag7 f;simp only[i,akI];simp(disch:=omega) only[F1,go_sem,simprocAttr,zk,h,ho.g,ho.s,↓CL,CS,l,y,d,v,c,k,a,u,o,t,qi,dL,dM,EP,iX,OL h];clear m c e3 f a i
    (repeat' (first| (refine⟨?_,?_⟩)|intro _))<;>(simp only[okB,cV, *];first|exact a0.err ho|exact a0.mR|exact a0.set rfl rfl)
  ·have c:decide ((x.c.s:Int)=0)=false:=ag7 (by omega);have e3: (x.c.s=0)=False:=aC3 m;simp only[e3,amJ];simp only[fC]at j;have K:=z.to;have n:=λH=>gO tg.2 H
   by_cases f:tg.1.to=x.aa
   ·have a:decide ((tg.1.to:Int)=x.aa)=true:=ag9 (by omega);have r:decide (tg.1.aL=x.c.r)=decide ((tg.1.aL:Int)=x.c.r):=aht.2 (by omega);have i:decide (tg.1.to=x.aa)=true:=ag9 f;simp only[i,r,ao1];simp(disch:=omega) only[F1,go_sem,simprocAttr,zk,h,ho.g,ho.s,↓CL,CS,l,y,d,v,c,j,n,a,u,o,t,qi,dL,dM,EP,iX,OL h];clear m c e3 f a i r
    (repeat' (first| (refine⟨?_,?_⟩)|intro _))<;>(simp only[okB,cV, *];first|exact a0.err ho|exact a0.mR|exact a0.set rfl rfl)
   ·have a:decide ((tg.1.to:Int)=x.aa)=false:=ag7 (by omega);have i:decide (tg.1.to=x.aa)=false:=ag7 f;simp only[i,akI];simp(disch:=omega) only[F1,go_sem,simprocAttr,zk,h,ho.g,ho.s,↓CL,CS,l,y,d,v,c,j,n,a,u,o,t,qi,dL,dM,EP,iX,OL h];clear m c e3 f a i
    (repeat' (first| (refine⟨?_,?_⟩)|intro _))<;>(simp only[okB,cV, *];first|exact a0.err ho|exact a0.mR|exact a0.set rfl rfl)
 ·rw[xK G]at l;simp(disch:=omega) only[F1,go_sem,simprocAttr,zk,h,ho.g,↓CL,l,dR,EP];simp only[qb,cV,xK G];exact a0.err ho
end
section
variable{x:ar}{bk:AV}{p:Nat}{H:List ae}{lo:oN}(ho:Old p H (.box (aV x bk) none))(hx:mQ x)
include ho hx
theorem awz: ∃E,D XA (.fn (.func Jz) [] []) [.ptr p 0] ⟨H,lo⟩=some E/\a0 x.back bk p H lo (nw x) E:=by
 refine cy zl λN f=>?_
 have G:=hx.t;have l:=λB lo=>MX (ho.app B) lo x.c.a
 by_cases u:x.c.a<8
 ·have w: (x.c.a:Int)<8:=by omega
  have v:784+x.c.a*19<=945:=by omega
  have t:=λ (y:ar) bk=> @MR y bk x.c.a u
  have d:=λ (y:ar) bk b=> @MS y bk x.c.a b u
  have z: ∀b H lo,D XA (.fn (.func cQ) [] []) [.bool b,.int .i64 2] ⟨H,lo⟩=_:=λb=>lv b 2
  have i:decide (x.c.b<=1)=decide ((x.c.b:Int)<=1):=aht.2 (by omega);have g:x.aa % 256=x.aa:=apy (by omega);have F:=hx.c.v;by_cases h:x.c.r=0
  ·have a:decide ((x.c.r:Int)=0)=true:=ag9 (by omega);have j: (x.c.r≠0)=False:=aC3 λq=>q h
   have es: (decide (x.c.r≠0)&&decide (x.c.b=1))=false:=by rw[ag7 (by simpa using h)];rfl
   have e:=λH lo=>lx (VN (x.s.c8 x.c.a) (hx.s.bx _) ⟨x.aa,x.c.v,x.c.r,false⟩ H lo)
   simp only[oL]at e;have m:=λH=>gO (oA (x.s.c8 x.c.a) ⟨x.aa,x.c.v,x.c.r,false⟩).2 H
   simp(disch:=omega) only[F1,go_sem,simprocAttr,zl,f,ho.g,ho.s,↓CL,CS,l,z,a,w,v,↓t,d,e,m,MB,dL,dM,EP,OL f];simp only[nw,es,ahf,amJ,i,g];simp only[j,amJ];clear h a j es i g
   (repeat' (first| (refine⟨?_,?_⟩)|intro _))<;>(simp only[gz,okB,cV, *];first|exact a0.err ho|exact a0.mR|exact a0.set rfl rfl)
  ·have a:decide ((x.c.r:Int)=0)=false:=ag7 (by omega);have j: (x.c.r≠0)=True:=aC9 h;by_cases s:x.c.b=1
   ·have c:decide ((x.c.b:Int)=1)=true:=ag9 (by omega);have es: (decide (x.c.r≠0)&&decide (x.c.b=1))=true:=by rw[ag9 (by simpa using h),ag9 s];rfl
    have r:=λH lo=>lx (ajl x.s.O hx.s.O x.s.T hx.s.T hx.s.tr x.c.r hx.c.r x.c.a (by omega) H lo)
    have e:=λH lo=>lx (VN (x.s.c8 x.c.a) (hx.s.bx _) ⟨x.aa,x.c.v,x.c.r,true⟩ H lo)
    simp only[oL]at e;have m:=λH=>gO (oA (x.s.c8 x.c.a) ⟨x.aa,x.c.v,x.c.r,true⟩).2 H
    by_cases k: (du x.s.O x.s.T x.c.r x.c.a true).2.2=0
    ·have k':decide (((du x.s.O x.s.T x.c.r x.c.a true).2.2:Int)=0)=true:=ag9 (by omega);simp(disch:=omega) only[F1,go_sem,simprocAttr,zl,f,ho.g,ho.s,ho.g2,ho.s2,↓CL,CS,l,z,a,c,λB lo=>GB (ho.app B) lo hx.s hx.t x.c.r hx.c.r,r,k',w,v,↓t,d,e,m,MB,gj,M3,dL,dM,EP,OL f];simp only[nw,es,aiZ,i,g,Cf];have n: ((du x.s.O x.s.T x.c.r x.c.a true).2.2=0)=True:=aC9 k;simp only[n,aiZ];clear h a j es i g k k' n s c
     (repeat' (first| (refine⟨?_,?_⟩)|intro _))<;>(simp only[M3,gz,okB,cV, *];first|exact a0.err ho|exact a0.mR|exact a0.set rfl rfl)
    ·have k':decide (((du x.s.O x.s.T x.c.r x.c.a true).2.2:Int)=0)=false:=ag7 (by omega);simp(disch:=omega) only[F1,go_sem,simprocAttr,zl,f,ho.g,ho.s,↓CL,CS,l,z,a,c,λB lo=>GB (ho.app B) lo hx.s hx.t x.c.r hx.c.r,r,k',w,v,↓t,d,e,m,MB,gj,dL,dM,EP,OL f];simp only[nw,es,aiZ,i,g,Cf];have n: ((du x.s.O x.s.T x.c.r x.c.a true).2.2=0)=False:=aC3 k;simp only[n,amJ];clear h a j es i g k k' n s c
     (repeat' (first| (refine⟨?_,?_⟩)|intro _))<;>(simp only[gz,okB,cV, *];first|exact a0.err ho|exact a0.mR|exact a0.set rfl rfl)
   ·have c:decide ((x.c.b:Int)=1)=false:=ag7 (by omega);have es: (decide (x.c.r≠0)&&decide (x.c.b=1))=false:=by rw[ag7 s,atO]
    have o:=hx.s.eB.cut x.c.r;have A:=λH lo=>lx (avd x.s.O (jl x.s.T x.c.r).1 o.ok o.tr x.c.r hx.c.r H lo)
    have C:=λH=>gO (zy x.s.O (jl x.s.T x.c.r).1 x.c.r).2 H
    have e:=λH lo=>lx (VN (x.s.c8 x.c.a) (hx.s.bx _) ⟨x.aa,x.c.v,x.c.r,false⟩ H lo)
    simp only[oL]at e;have m:=λH=>gO (oA (x.s.c8 x.c.a) ⟨x.aa,x.c.v,x.c.r,false⟩).2 H
    simp(disch:=omega) only[F1,go_sem,simprocAttr,zl,f,ho.g,ho.s,ho.g2,ho.s2,↓CL,CS,l,z,a,c,M2 ho hx x.c.r hx.c.r,λB lo=>V0 (ho.app B) lo hx.s x.c.r hx.c.r,A,C,w,v,↓t,d,e,m,MB,gj,M3,vQ,dL,dM,EP,OL f];simp only[nw,es,ahf,amJ,i,g];simp only[j,aiZ];clear h a j es i g s c
    (repeat' (first| (refine⟨?_,?_⟩)|intro _))<;>(simp only[vl,vQ,M3,gz,okB,cV, *];first|exact a0.err ho|exact a0.mR|exact a0.set rfl rfl)
 ·rw[xK u]at l;simp(disch:=omega) only[F1,go_sem,simprocAttr,zl,f,ho.g,↓CL,l,dR,EP];simp only[nw,cV,xK u];exact a0.err ho
end
theorem V5{r:dc}{l:List aE}:aH (bS r) 2 [eg l,.int .i64 n]=bS {r with runs:=l,len:=n}:=rfl
def akt(l:List aE)(r:aE):aM (l++[r])=aM l+r.2:=by unfold aM;simp
def CI{l:List aE}{s:Nat}(h:gM l n s a=some k):k+s<=aM l*32:=by
 unfold gM at h
 grind
section
variable{x:ar}{bk:AV}{p:Nat}{H:List ae}{lo:oN}(ho:Old p H (.box (aV x bk) none))(hx:mQ x)
include ho hx
theorem awA: ∃cr,D XA (.fn (.func Jn) [] []) [.ptr p 0] ⟨H,lo⟩=some cr/\a0 x.back bk p H lo (jL x) cr:=by
 refine cy zj λN G=>?_
 have ht:=hx.t;have o: ((min x.c.a 129:Nat):Int)=min (x.c.a:Int) 129:=by omega
 have m: ((min x.c.b 9:Nat):Int)=min (x.c.b:Int) 9:=by omega
 have u:min x.c.a 129<2147483648:=by omega
 have F:min x.c.b 9<2147483648:=by omega
 have d:=λH lo=>lx (auJ (min x.c.a 129) (min x.c.b 9) u F H lo)
 have T: ∀b H lo,D XA (.fn (.func cQ) [] []) [.bool b,.int .i64 2] ⟨H,lo⟩=_:=λb=>lv b 2
 have W: ∀b H lo,D XA (.fn (.func cQ) [] []) [.bool b,.int .i64 6] ⟨H,lo⟩=_:=λb=>lv b 6
 have E:=M1 ho hx x.c.r hx.c.r;have z:=λB lo=>MY (ho.app B) lo hx.s x.c.r hx.c.r
 have I:=hx.s.T.get x.c.r;have a:=I.rb;have AX:=I.len;have J: ∀l:List aE,(eg l).refs=0:=λl=>cO (ng l) (bD (λ_=>rfl) l)
 have zV:=I.aM;cases C:qa (min x.c.a 129) (min x.c.b 9)with
 |none=>
  rw[C]at d;simp only[o,m]at d;simp(disch:=omega) only[F1,go_sem,simprocAttr,zj,G,ho.g,↓CL,d,T,ask,dR,EP];simp only[jL,C,cV];exact a0.err ho
 |some n=>
  have hn5:n<=5:=by
   unfold qa at C;split at C
   ·cases C;omega
   ·cases C
  have f:=λH lo=>lx (aja (eg (aK x.s.T x.c.r).1.runs) (aK x.s.T x.c.r).1.len (aK x.s.T x.c.r).1.runs (by omega) (ng _) a.1 (min x.c.a 129) (min x.c.b 9) u F H lo)
  have i:=λH lo=>lx (ajb (eg (aK x.s.T x.c.r).1.runs) (aK x.s.T x.c.r).1.len (aK x.s.T x.c.r).1.runs (by omega) (ng _) a.1 (min x.c.a 129) (min x.c.b 9) u F H lo)
  rw[C]at d;cases O:gM (aK x.s.T x.c.r).1.runs (aK x.s.T x.c.r).1.len (min x.c.a 129) (min x.c.b 9)with
  |some k=>
   have hk:=CI O;have V:vG (aK x.s.T x.c.r).1.runs (aK x.s.T x.c.r).1.len (min x.c.a 129) (min x.c.b 9)=k+min x.c.a 129:=by unfold vG;rw[O]
   have e:=λB lo=>V4 (ho.app B) lo hx.s x.c.r hx.c.r {(aK x.s.T x.c.r).1 with len:=k+min x.c.a 129} a.1 (by have:=a.2;show(aK x.s.T x.c.r).1.runs.length<=65;omega) (by show k+min x.c.a 129<4294967296;omega)
   rw[V,O]at i;simp only[O,xy]at f;generalize hsv:min x.c.a 129=sz at*;generalize hav:min x.c.b 9=al at*;have U:aH (bS (aK x.s.T x.c.r).1) 2 [eg (aK x.s.T x.c.r).1.runs,.int .i64 ((k:Int)+sz)]=bS {(aK x.s.T x.c.r).1 with len:=k+sz}:=by
    rw[<-apM];exact V5
   simp(disch:=omega) only[F1,go_sem,simprocAttr,zj,G,ho.g,ho.s,↓CL,d,T,E,z,f,i,e,U,J,<-o,<-m,kq,dL,dM,EP,iX,OL G];have L:=zU (x:=x) (h:=x.c.r) (w:=1)
   (repeat' (first| (refine⟨?_,?_⟩)|intro _))<;>first
     | (simp only[jL,nv,gz,okB,cV, *];first|exact a0.err ho|exact a0.set rfl rfl)
     | (exfalso;simp_all[ask])
  |none=>
   have A:=λH lo=>lx (ME (eg (aK x.s.T x.c.r).1.runs) (aK x.s.T x.c.r).1.len (aK x.s.T x.c.r).1.runs (ng _) a.1 H lo)
   have M:=λH lo=>lx (auN (eg (aK x.s.T x.c.r).1.runs) (aK x.s.T x.c.r).1.len (aK x.s.T x.c.r).1.runs (ng _) a.1 x.run H lo)
   have g:RB ((aK x.s.T x.c.r).1.runs++[x.run]):=⟨by have:=a.2;simp;omega,λy hy=>by
    rcases ahb.1 hy with q|q
    ·exact a.1.2 y q
    ·rw[ahe.1 q];exact hx.run⟩
   have S: ((aK x.s.T x.c.r).1.runs++[x.run]).length<=65:=by have:=a.2;simp;omega
   have D1:=akt (aK x.s.T x.c.r).1.runs x.run;have j:aM (aK x.s.T x.c.r).1.runs*32<4294967296:=by omega
   have R:=λH lo=>lx (ai9 (eg ((aK x.s.T x.c.r).1.runs++[x.run])) (aM (aK x.s.T x.c.r).1.runs*32) ((aK x.s.T x.c.r).1.runs++[x.run]) j (ng _) g S H lo)
   have i:=λH lo=>lx (ajb (eg ((aK x.s.T x.c.r).1.runs++[x.run])) (aM (aK x.s.T x.c.r).1.runs*32) ((aK x.s.T x.c.r).1.runs++[x.run]) j (ng _) g (min x.c.a 129) (min x.c.b 9) u F H lo)
   have K:decide (aM (aK x.s.T x.c.r).1.runs+n<=(aK x.s.T x.c.r).1.dt)=decide (((aM (aK x.s.T x.c.r).1.runs:Nat):Int)+n<=(aK x.s.T x.c.r).1.dt):=aht.2 (by omega);have t:IntKind.i64.wrap ((aM (aK x.s.T x.c.r).1.runs:Nat)+(n:Int))=(aM (aK x.s.T x.c.r).1.runs:Nat)+(n:Int):=wrap_i64 (by omega) (by omega);simp only[O,xy]at f;cases has:x.asks with
   |true=>
    simp(disch:=omega) only[F1,go_sem,simprocAttr,zj,G,ho.g,ho.s,ho.g2,↓CL,CS,d,T,W,E,z,f,A,t,has,<-o,<-m,kq,dL,dM,EP,iX,OL G];have L:=zU (x:=x) (h:=x.c.r) (w:=1)
    (repeat' (first| (refine⟨?_,?_⟩)|intro _))<;>first
      | (simp only[jL,gz,okB,cV,aiZ, *];first|exact a0.err ho|exact a0.set rfl rfl)
      | (exfalso;simp_all[ask])
   |false=>
    by_cases Z:x.run.2=n
    ·have r:decide ((x.run.2:Int)=n)=true:=ag9 (by omega);have Q:vG ((aK x.s.T x.c.r).1.runs++[x.run]) (aM (aK x.s.T x.c.r).1.runs*32) (min x.c.a 129) (min x.c.b 9)<4294967296:=by
      unfold vG;split
      ·rename_i q;have:=CI q;omega
      ·omega
     have P:IntKind.u64.wrap (((gM ((aK x.s.T x.c.r).1.runs++[x.run]) (aM (aK x.s.T x.c.r).1.runs*32) (min x.c.a 129) (min x.c.b 9)).getD 0:Nat):Int)=((gM ((aK x.s.T x.c.r).1.runs++[x.run]) (aM (aK x.s.T x.c.r).1.runs*32) (min x.c.a 129) (min x.c.b 9)).getD 0:Nat):=by
      cases q:gM ((aK x.s.T x.c.r).1.runs++[x.run]) (aM (aK x.s.T x.c.r).1.runs*32) (min x.c.a 129) (min x.c.b 9)with
      |none=>rfl
      |some k=>have:=CI q;exact wrap_u64 (by simp) (by simp;omega)
     have e1:jL x=fE x x.c.r 1>>=λ_=>bb (aK x.s.T x.c.r).2>>=λ_=>ask (decide (((aM (aK x.s.T x.c.r).1.runs:Nat):Int)+n<=(aK x.s.T x.c.r).1.dt)) 6>>=λ_=>ask (pZ ((aK x.s.T x.c.r).1.runs++[x.run]) (aM (aK x.s.T x.c.r).1.runs*32)) 2>>=λ_=>
       nv {s:=x.s,aa:=x.aa,c:=x.c,run:=x.run,mL:=n,asks:=false,back:=x.back} x.c.r {(aK x.s.T x.c.r).1 with runs:=(aK x.s.T x.c.r).1.runs++[x.run],len:=vG ((aK x.s.T x.c.r).1.runs++[x.run]) (aM (aK x.s.T x.c.r).1.runs*32) (min x.c.a 129) (min x.c.b 9)}>>=λy=>
       .ok (y,{bX with v:=(gM ((aK x.s.T x.c.r).1.runs++[x.run]) (aM (aK x.s.T x.c.r).1.runs*32) (min x.c.a 129) (min x.c.b 9)).getD 0}):=by
      unfold jL;simp only[C,O,K,has,Z,decide_true,ao1,ahf,amJ,gz,okB];rfl
     have e:=λB lo=>V4 (x:={s:=x.s,aa:=x.aa,c:=x.c,run:=x.run,mL:=n,asks:=false,back:=x.back}) (bk:=bk) ((ho.set _).app B) lo hx.s x.c.r hx.c.r
      {(aK x.s.T x.c.r).1 with runs:=(aK x.s.T x.c.r).1.runs++[x.run],len:=vG ((aK x.s.T x.c.r).1.runs++[x.run]) (aM (aK x.s.T x.c.r).1.runs*32) (min x.c.a 129) (min x.c.b 9)} g S Q
     simp(disch:=omega) only[F1,go_sem,simprocAttr,zj,G,ho.g,ho.s,ho.g2,ho.s2,↓CL,CS,d,T,W,E,z,f,A,M,t,has,J,r,R,i,e,P,V5,<-o,<-m,kq,dL,dM,EP,iX,OL G];have L:=zU (x:=x) (h:=x.c.r) (w:=1);rw[e1];clear e Q P r e1 R i M A K t j
     (repeat' (first| (refine⟨?_,?_⟩)|intro _))<;>first
       | (simp only[nv,gz,okB,cV, *];first|exact a0.err ho|exact a0.mR|exact a0.set rfl rfl)
       | (exfalso;simp_all[ask])
    ·have r:decide ((x.run.2:Int)=n)=false:=ag7 (by omega);have e1:jL x=fE x x.c.r 1>>=λ_=>bb (aK x.s.T x.c.r).2>>=λ_=>ask (decide (((aM (aK x.s.T x.c.r).1.runs:Nat):Int)+n<=(aK x.s.T x.c.r).1.dt)) 6>>=λ_=>.error 2:=by
      unfold jL;simp only[C,O,K,has,ag7 Z,akI,ahf,amJ,gz,okB];rfl
     have Y: ∀H lo,D XA (.fn (.func cQ) [] []) [.bool false,.int .i64 2] ⟨H,lo⟩=_:=λH lo=>lx (zS 2 H lo)
     have X: ∀H lo,D XA (.fn (.func cQ) [] []) [.bool true,.int .i64 2] ⟨H,lo⟩=_:=λH lo=>lx (Gy 2 H lo)
     simp(disch:=omega) only[F1,go_sem,simprocAttr,zj,G,ho.g,ho.s,ho.g2,↓CL,CS,d,Y,X,W,E,z,f,A,M,t,has,J,r,V5,<-o,<-m,kq,dL,dM,EP,iX,OL G];have L:=zU (x:=x) (h:=x.c.r) (w:=1);rw[e1]
     (repeat' (first| (refine⟨?_,?_⟩)|intro _))<;>first
       | (simp only[okB,cV, *];first|exact a0.err ho|exact a0.mR|exact a0.set rfl rfl)
       | (exfalso;simp_all[ask])
end
structure bP(p:Nat)(H H':List ae):Prop where
 len:H.length<=H'.length
 low: ∀i,i<p->H'[i]?=H[i]?
 box: ∀i o,i≠p->(∀a d,o≠ .row a 2 fg d)->H[i]?=some o->H'[i]?=some o
theorem bP.refl(p:Nat)(H:List ae):bP p H H:=⟨ahd _,λ_ _=>rfl,λ_ _ _ _ h=>h⟩
theorem bP.trans{A B C:List ae}(h:bP p A B)(g:bP p B C):bP p A C:=
 ⟨akH h.len g.len,λi a=>(g.low i a).trans (h.low i a),λi o a ho b=>g.box i o a ho (h.box i o a ho b)⟩
theorem bP.app(p:Nat)(H L:List ae)(a:p<H.length):bP p H (H++L):=⟨by simp,λi b=>aeT (by omega),λi o _ _ h=>bc h⟩
theorem bP.set(p:Nat)(H:List ae)(o:ae):bP p H (H.set p o):=⟨by simp,λi a=>aeR (by omega),λi w a _ h=>by grind⟩
theorem bP.take{N:Nat}{A B:List ae}(h:bP p A B)(d:A.length=N)(c:p<N):bP p A (B.take N):=⟨by rw[ai1];have:=h.len;omega,λi a=>by rw[aiX (by omega)];exact h.low i a,λi o a ho b=>by
 have:=(afA.1 b).1;rw[aiX (by omega)];exact h.box i o a ho b⟩
def bP.own{N:Nat}{A B:List ae}{ty:TypeId}(h:bP p A B)(ho:aQ N A v sz ty af)(k:p<N)(j:sz≠2):aQ N B v sz ty af:=by
 obtain⟨i,b⟩:=ho;refine⟨i,?_⟩;rcases b with b| ⟨id,aj,g,f,c⟩
 ·grind
 ·exact .inr ⟨id,aj,g,f,h.box id _ (by omega) (λa d e=>by grind) c⟩
def aku{E:AS}(l:List aE):Den.elems E 2 (eg l)=some (l.map ay):=by
 unfold eg;split
 ·rename_i h;rw[aDA.1 h];rfl
 ·exact arK (by simp[UK])
structure At(p:Nat)(x:ar)(bk:AV)(H:List ae):Prop where
 box:H[p]?=some (.box (aV x bk) none)
 own:aQ (p+1) H bk 2 fg (x.back.map ay)
def vR(Q:Prop)(p:Nat)(H H':List ae)(lo ak:oN):Prop:=(ak=lo/\H'.length=H.length/\Q)\/ak=cA lo p
def akv(l:lN): ∀x:ar,(l.foldl iN x).s.T=x.s.T:=by
 induction l with
 |nil=>simp
 |cons h l a=>intro x;exact a _
def V6(l:lN): ∀x:ar,bh x.s->bh (l.foldl iN x).s:=by
 induction l with
 |nil=>simp
 |cons h l b=>intro x a;exact b _ (a.CG (a.tok.clear h))
def akw(l:lN): ∀x:ar,bN x.s.T->(l.foldl iN x).back.length<=x.back.length+64*l.length:=by
 induction l with
 |nil=>simp
 |cons h l b=>
  intro x a;have e:=b (iN x h) a;have d: (iN x h).back.length=x.back.length+(aK x.s.T h).1.runs.length:=by simp[iN]
  have c:=(a.get h).rb.2
  grind
def awB{x:ar}{l:lN}{k:Nat}(h:k<l.length): (l.take (k+1)).foldl iN x=iN ((l.take k).foldl iN x) (l.getD k default):=by grind [List.take_add_one,List.getElem?_eq_getElem,getD_eq]
def vS{H:List ae}(a:p<n):finish n lo v ⟨H,some p⟩=(v,⟨H,cA lo p⟩):=by
 unfold finish;rw[afB (by grind)];rfl
def V7{H:List ae}(K:At p x bk H)(c:bh x.s)(h:Nat)(hh:h<4294967296)(hB:x.back.length+64*(under x.s.T h).length<=4294967296)(lo:oN):
  ∃a H' ak,D XA (.fn (.func wF) [] []) [.ptr p 0,.int .u32 h] ⟨H,lo⟩=some (.ret (.au []) ⟨H',ak⟩)/\At p (gu x h) a H'/\bP p H H'/\vR (a=bk\/a= .ai) p H H' lo ak:=by
 suffices c: ∃S,D XA (.fn (.func wF) [] []) [.ptr p 0,.int .u32 h] ⟨H,lo⟩=some S/\ (λS=> ∃a H' ak,S=aS.ret (.au []) ⟨H',ak⟩/\At p (gu x h) a H'/\bP p H H'/\vR (a=bk\/a= .ai) p H H' lo ak) S by
  obtain⟨S,h1,a,H',ak,rfl,h2⟩:=c;exact⟨a,H',ak,h1,h2⟩
 refine cy Tm λN X=>?_
 have f:p<N:=by rw[<-X];exact(afA.1 K.box).1
 obtain⟨v,J,V8,V,u2,u3⟩:=MA x.s.T c.T c.tr h hh N H X none;have V:=ly V;have hul:=Gr c.tr h;have b:=(mc u2 V8).bL;have hbp:=K.box;obtain⟨Y,m⟩: ∃Y,Y=H++J:=⟨_,rfl⟩;rw[<-m]at V u2 b;have w0:Y[p]?=some (.box (aV x bk) none):=by rw[m];exact bc K.box
 have pt:bP p H Y:=by rw[m];exact bP.app p H J (by omega)
 simp only[↓R1,Zz,go_sem,simprocAttr,Tm,hbp,↓CL,V,b];refine gS (under x.s.T h).length (λk e U ak=> ∃a,U[p]?=some (.box (aV (((under x.s.T h).take k).foldl iN x) a) none)/\aQ (p+1) U a 2 fg ((((under x.s.T h).take k).foldl iN x).back.map ay)/\bP p H U/\aQ N U v 1 bZ ((under x.s.T h).map hC)/\
  ((dI N ak/\aQ (p+1) (U.take N) a 2 fg ((((under x.s.T h).take k).foldl iN x).back.map ay)/\ (a=bk\/a= .ai))\/ak=some p)/\e 0= .ptr p 0/\e 1= .int .u32 h/\e 15=v/\e 16= .int .i64 (under x.s.T h).length/\e 17= .int .i64 k) 0 (by omega) ?_ ?_
 ·simp only[↓arl,Zz,go_sem,simprocAttr];refine⟨bk,w0,by rw[m];exact K.own.ext,pt,u2,.inl ⟨dI.of u3,?_,.inl rfl⟩⟩;rw[m,apE X];exact K.own
 rintro k hk e T u ⟨a,E,p1,F,p3,p4,e0,e1,Q,P,O⟩ n hn;have jt:=V6 ((under x.s.T h).take k) x c;have d:=akv ((under x.s.T h).take k) x;have HU:=akw ((under x.s.T h).take k) x c.T;rw[ai1]at HU;have PD:= @awB x (under x.s.T h) k;generalize hy: ((under x.s.T h).take k).foldl iN x=y at*;have A:Old p T (.box (aV y a) none):=⟨E⟩;simp only[bR,↓R1,Zz,go_sem,simprocAttr,agN,E,↓CL,e0,e1,Q,P,O];refine⟨λhc=>?_,λhc=>?_⟩
 ·have B:k< (under x.s.T h).length:=by omega
  have hr:=mc p3 u;have hg:=λH lo=>lx (vB y.s.T (by rw[d];exact c.T) ((under x.s.T h).getD k default) (gg (MC c.T (eX B))) H lo)
  simp(disch:=omega) only[↓R1,↓MP,Zz,ag4,go_sem,simprocAttr,hr.ck,hr.cD,↓pH,hn,E,A.g,↓CL,hg,nD,aku,e0];have AX:=(c.T.get ((under x.s.T h).getD k default)).rb.2;rw[d];generalize hR: (aK x.s.T ((under x.s.T h).getD k default)).1=R at*;refine⟨by omega,?_⟩;obtain⟨v',Z,q1,q2,q3,q4,q5⟩:=aQ.aeV (bytes:=16) (ys:=R.runs.map ay) (lo:=u) (aQ.ext (L:=[ae.box (bS R) none]) p1) (by simp[hn];have:=F.len;omega) (by omega) (by intro el vF;obtain⟨r,_,rfl⟩:=ahk.1 vF;rfl) (bD (λ_=>rfl) _) (by
   unfold room;simp only[ahh];omega)
  have z:Z[p]?=some (.box (aV y a) none):=by rw[q4 p (by omega)];exact A.g _
  have s:Old p Z (.box (aV y a) none):=⟨z⟩;have o6:=λH lo=>ly (avs y.s.K jt.K ((under x.s.T h).getD k default) H lo)
  have hvt:v'.cb=false/\v'.cells=[v']:=by
   rcases q2.2 with⟨rfl,_⟩| ⟨_,_,_,rfl,_⟩<;>exact⟨rfl,rfl⟩
  rw[q1];simp(disch:=omega) only[↓arl,↓R1,Zz,ag5,go_sem,simprocAttr,hvt,z,s.g1,↓CL,CS,o6,e0,e1,Q,P,O];rw[anu,PD B];have l: (iN y ((under x.s.T h).getD k default)).back.map ay=y.back.map ay++R.runs.map ay:=by
   rw[<-ahs];unfold iN;rw[d,hR]
  have f2:bP p (T++[ae.box (bS R) none]) Z:=⟨q3,λi hi=>q4 i (by omega),λi o _ ho hg=>q5 i o ho hg⟩;have f3:=(bP.app p T [ae.box (bS R) none] (by have:=F.len;omega)).trans (f2.trans (bP.set p Z (.box (aV (iN y ((under x.s.T h).getD k default)) v') none)));refine⟨B,v',s.g1 _,?_,F.trans f3,f3.own p3 f (by omega),?_⟩
  ·rw[l];exact aQ.nH q2 z
  ·by_cases W:v'.refs<=p+1
   ·rw[afJ W];have g:v'= .ai/\y.back.map ay++R.runs.map ay=[]:=by
     rcases q2.2 with q| ⟨id,aj,i1,i2,_⟩
     ·exact q
     ·rw[i2]at W;simp only[AV.refs]at W;omega
    rcases p4 with⟨G,_⟩|G
    ·refine .inl ⟨G,?_,.inr g.1⟩;rw[l,g.1,g.2];exact aQ.ai
    ·exact .inr G
   ·rw[afB W]
    right
    rcases p4 with⟨rfl| ⟨j,hj,rfl⟩,_⟩|rfl
    ·rfl
    ·exact akG some (arI (show p<=j by omega))
    ·exact akG some (aBh p)
 ·obtain rfl:k=(under x.s.T h).length:=by omega
  have M:bN y.s.T:=by rw[d];exact c.T
  obtain⟨w,C⟩:=auw y.s.T M (by rw[d];exact c.tr) h hh T u;have C:=ly C;have I:=A.set (.box (aV (y.t (l7 y.s.T h).1) a) none);have e2:gu x h=y.t (l7 y.s.T h).1:=by
   unfold gu;rw[ahn]at hy;rw[hy]
  simp only[↓R1,Zz,go_sem,simprocAttr,E,CS,C];rw[e2];rw[awg];have t:=F.trans (bP.set p T (.box (aV (y.t (l7 y.s.T h).1) a) none));rcases p4 with⟨G,l2,l3⟩|rfl
  ·rw[iU G (aha _)];refine⟨a,_,lo,rfl,⟨?_,?_⟩,t.take X f,.inl ⟨rfl,by rw[ai1,ahq];have:=F.len;omega,l3⟩⟩
   ·rw[aiX f];exact I.at'
   ·rw[List.take_set];exact aQ.nH l2 (by rw[aiX f];exact E)
  ·rw[vS f];exact⟨a,_,_,rfl,⟨I.at',aQ.nH p1 E⟩,t,.inr rfl⟩
abbrev zW(p:Nat)(H H':List ae)(lo ak:oN):Prop:=vR True p H H' lo ak
def ud(p:Nat)(H:List ae)(lo:oN):R (ar×bE)->aS->Prop
 |.ok (y,r),a=> ∃b H' ak,a= .ret (.agg (bF r)) ⟨H',ak⟩/\At p y b H'/\bP p H H'/\zW p H H' lo ak
 |.error e,a=> ∃H' ak,a= .panic (iW e) ⟨H',ak⟩/\bP p H H'/\zW p H H' lo ak
def a0.c{H:List ae}(ha:At p x bk H){m:R (ar×bE)}{c:aS}(h:a0 x.back bk p H lo m c):ud p H lo m c:=by
 cases m with
 |ok a=>
  obtain⟨f,b⟩:=h;have d:=(afA.1 ha.box).1;exact⟨bk,_,lo,b,⟨by grind,by rw[f];exact aQ.nH ha.own ha.box⟩,bP.set _ _ _,.inl ⟨rfl,by simp,trivial⟩⟩
 |error e=>
  obtain⟨y,b⟩:=h;exact⟨_,lo,b,bP.set _ _ _,.inl ⟨rfl,by simp,trivial⟩⟩
theorem ud.err{H:List ae}:ud p H lo (.error e) (.panic (iW e) ⟨H,lo⟩):=⟨H,lo,rfl,bP.refl _ _,.inl ⟨rfl,rfl,trivial⟩⟩
theorem awE{N:Nat}{H B W:List ae}(r:H.length=N)(b:p<N)(l: ∀o∈B,∃cs tg,o=ae.box cs tg)(f:At p y bk W)(k:bP p (H++B) W)(i:W.length=(H++B).length):At p y bk (W.take N):=by
 refine⟨by rw[aiX b];exact f.box,f.own.1,?_⟩;rcases f.own.2 with q| ⟨id,aj,n,m,h⟩
 ·grind
 ·by_cases j:id<N
  ·grind
  ·have c:=(afA.1 h).1;rw[i,ahc]at c;have g: (H++B)[id]?=some B[id-N]:=by grind
   obtain⟨cs,tg,ho⟩:=l _ (atQ (show id-N<B.length by omega));rw[ho]at g;have:=k.box id _ (by omega) (λa d e=>by cases e) g
   grind
theorem V9{N:Nat}{H B W:List ae}(b:bP p (H++B) W)(a:p<H.length):bP p H W:=(bP.app p H B a).trans b
theorem akx{N:Nat}{H W:List ae}(e:H.length=N)(d:p<N)(b:bP p H W)(o:ae):bP p H (W.set N o):=
 ⟨by rw[ahq];exact b.len,λi a=>by rw[aeR (by omega)];exact b.low i a,λi w a hw c=>by
   have:=(afA.1 c).1;rw[aeR (by omega)];exact b.box i w a hw c⟩
def zX{N:Nat}{H B W:List ae}{ak:oN}{Q:Prop}(i:H.length=N)(a:p<N)(n: ∀o∈B,∃cs tg,o=ae.box cs tg)(h:At p y bk W)(l:bP p (H++B) W)(d: (ak=none/\ (W.length=(H++B).length\/ (bk= .ai/\y.back=[]))/\Q)\/ak=cA none p)(j:v.refs<=N)
  {cs:lA}  (g:W[N]?=some (.box cs tg)) (o:ae):
  ∃f b,finish N lo v ⟨W.set N o,ak⟩=(v,⟨f,b⟩)/\At p y bk f/\bP p H f/\vR Q p H f lo b:=by
 have c:=akx i a (V9 (N:=N) l (by omega)) o;rcases d with⟨rfl,d,k⟩|rfl
 ·refine⟨_,lo,iU (.inl rfl) j,?_,c.take i a,.inl ⟨rfl,?_,k⟩⟩
  ·have:At p y bk (W.take N):=by
     rcases d with d| ⟨rfl,m⟩
     ·grind [awE]
     ·exact⟨by rw[aiX a];exact h.box,by rw[m];exact aQ.ai⟩
   have e: (W.set N o).take N=W.take N:=by rw[List.take_set];exact List.set_eq_of_length_le (by grind)
   grind
  grind
 ·refine⟨_,cA lo p,?_,⟨?_,aQ.nH h.own g⟩,c,.inr rfl⟩
  ·have:cA none p=some p:=rfl;rw[this];exact vS a
  ·rw[aeR (by omega)];exact h.box
def M4{N:Nat}{H B W:List ae}{ak:oN}(g:H.length=N)(c:p<N)(h:bP p (H++B) W)(f:ak=none\/ak=cA none p)(e:v.refs<=N):
  ∃d b,finish N lo v ⟨W,ak⟩=(v,⟨d,b⟩)/\bP p H d/\zW p H d lo b:=by
 have a:=V9 (N:=N) h (by omega);rcases f with rfl|rfl
 ·refine⟨_,lo,iU (.inl rfl) e,a.take g c,.inl ⟨rfl,?_,trivial⟩⟩;rw[ai1];have:=a.len;omega
 ·refine⟨_,cA lo p,?_,a,.inr rfl⟩;exact vS c
def CJ{cs:lA}: ∀o∈[ae.box cs tg],∃cs tg,o=ae.box cs tg:=by simp
section
variable{x:ar}{bk:AV}{p:Nat}{H:List ae}(lo:oN)(ha:At p x bk H)(hx:mQ x)
include ha hx
theorem awF(j:x.back.length+64*(under x.s.T x.c.r).length<=4294967296): ∃h,D XA (.fn (.func Jr) [] []) [.ptr p 0] ⟨H,lo⟩=some h/\ud p H lo (sU x) h:=by
 refine cy Ta λN f=>?_
 have ho:Old p H (.box (aV x bk) none):=⟨ha.box⟩;have c:p<N:=by rw[<-f];exact ho.lt
 obtain⟨l,W,ak,g1,g2,g,k⟩:=V7 (bk:=bk) (H:=H++[.box [.int .i64 0,.int .u64 0,.int .u32 0] none]) ⟨ho.g _,ha.own.ext⟩ hx.s x.c.r hx.c.r j none;have b:W[N]?=some (.box [.int .i64 0,.int .u64 0,.int .u32 0] none):=g.box N _ (by omega) (λa d e=>by cases e) (by grind);simp only[F1,go_sem,simprocAttr,Ta,f,ho.g,↓CL,M2 ho hx x.c.r hx.c.r,g1,b,cG b,dL,dM,EP];obtain⟨m,i,f1,f2,f3,f4⟩:=zX (v:=.agg [.int .i64 0,.int .u64 0,.int .u32 0]) (lo:=lo) f c CJ g2 g (k.imp (λq=>⟨q.1,.inl q.2.1,trivial⟩) id) (aha _) b (.box [.int .i64 0,.int .u64 0,.int .u32 0] none);rw[f1]
 (repeat' (first| (refine⟨?_,?_⟩)|intro _))
 ·simp only[sU,gz,okB, *];exact⟨_,_,_,rfl,f2,f3,f4⟩
 ·simp only[sU,cV, *];exact .err
theorem awG(hB:x.back.length<=4294967296): ∃S,D XA (.fn (.func Jq) [] []) [.ptr p 0] ⟨H,lo⟩=some S/\ud p H lo (sT x) S:=by
 refine cy S9 λN k=>?_
 have ho:Old p H (.box (aV x bk) none):=⟨ha.box⟩;have m:p<N:=by rw[<-k];exact ho.lt
 have G:=λB lo=>MY (ho.app B) lo hx.s x.c.r hx.c.r
 have F:=(hx.s.T.get x.c.r);have Y:=zU (x:=x) (h:=x.c.r) (w:=1);have e0:sT x=fE x x.c.r 1>>=λ_=>bb (aK x.s.T x.c.r).2>>=λ_=>nv {x with back:=x.back++(aK x.s.T x.c.r).1.runs} x.c.r {dC with up:=0,dt:=(aK x.s.T x.c.r).1.dt}>>=λy=>.ok (y,bX):=rfl
 rw[e0];generalize hR: (aK x.s.T x.c.r).1=R at*;obtain⟨v',c,V,z,U,P,u⟩:=aQ.aeV (bytes:=16) (ys:=R.runs.map ay) (lo:=none) (aQ.ext (L:=[ae.box [.int .i64 0,.int .u64 0,.int .u32 0] none,.box (bS R) none]) ha.own) (by simp[k];omega) (by omega) (by intro el J;obtain⟨r,_,rfl⟩:=ahk.1 J;rfl) (bD (λ_=>rfl) _) (by
  have:=F.rb.2;unfold room;simp only[ahh];omega)
 have C:v'.cb=false/\v'.cells=[v']:=by
  rcases z.2 with⟨rfl,_⟩| ⟨_,_,_,rfl,_⟩<;>exact⟨rfl,rfl⟩
 have j:c[p]?=some (.box (aV x bk) none):=by rw[P p (by omega)];exact ho.g _
 have b:Old p c (.box (aV x bk) none):=⟨j⟩;have w0:c[N]?=some (.box [.int .i64 0,.int .u64 0,.int .u32 0] none):=u N _ (λa d e=>by cases e) (by rw[di k];rfl);have w1:c[N+1]?=some (.box (bS R) none):=u (N+1) _ (λa d e=>by cases e) (by rw[bA k];rfl);have n:=b.set (.box (aV {x with back:=x.back++R.runs} v') none);have f:=λlo=>V4 (x:={x with back:=x.back++R.runs}) (bk:=v') n lo hx.s x.c.r hx.c.r {dC with up:=0,dt:=R.dt} ⟨by simp[dC],by simp[dC]⟩ (by simp[dC]) (by simp[dC])
 have K:aV {x with back:=x.back++R.runs} v'=aV x v':=rfl;rw[K]at f;have M:N<c.length:=(afA.1 w0).1;have E: ∀A B o,(((c.set p A).set p B).set N o)[N]?=some o:=λA B o=>ahj (by simp only[ahq];exact M)
 have I:p≠N:=by omega
 have X:p≠N+1:=by omega
 simp(disch:=omega) only[F1,go_sem,simprocAttr,S9,k,ho.g,↓CL,CS,M1 ho hx x.c.r hx.c.r,G,kq,aku,V,C,j,w0,w1,b.g1,E,f,aio,dL,dM,EP,iX];have s: (if v'.refs<=p+1 then none else cA none p)=none/\ (v'= .ai/\x.back++R.runs=[])\/ (if v'.refs<=p+1 then none else cA none p)=cA none p:=by
  by_cases t:v'.refs<=p+1
  ·rw[afJ t];refine .inl ⟨rfl,?_⟩;rcases z.2 with⟨T,O⟩| ⟨id,aj,i1,i2,_⟩
   ·refine⟨T,?_⟩;rw[<-ahs]at O;exact arX.1 O
   ·rw[i2]at t;simp only[AV.refs]at t;omega
  ·rw[afB t];exact .inr rfl
 have f0:bP p (H++[ae.box [.int .i64 0,.int .u64 0,.int .u32 0] none,.box (bS R) none]) c:=⟨U,λi hi=>P i (by omega),λi o _ ho Z=>u i o ho Z⟩;have f1:=f0.trans (bP.set p c (.box (aV x v') none));generalize Q: (if v'.refs<=p+1 then none else cA none p)=ak at*
 (repeat' (first| (refine⟨?_,?_⟩)|intro _))
 ·rename_i g l m3;have hA:At p (({x with back:=x.back++R.runs}:ar).t (fD x.s.T x.c.r {dC with up:=0,dt:=R.dt}).1) v' ((c.set p (.box (aV x v') none)).set p (.box (aV (({x with back:=x.back++R.runs}:ar).t (fD x.s.T x.c.r {dC with up:=0,dt:=R.dt}).1) v') none)):=
   ⟨by rw[anu];exact b.g1 _,by rw[anu];show aQ _ _ _ _ _ (List.map ay (x.back++R.runs));rw[ahs];exact aQ.nH z j⟩
  have f2:=f1.trans (bP.set p (c.set p (.box (aV x v') none)) (.box (aV (({x with back:=x.back++R.runs}:ar).t (fD x.s.T x.c.r {dC with up:=0,dt:=R.dt}).1) v') none));obtain⟨H3,W,g1,g2,g3,g4⟩:=zX (v:=.agg [.int .i64 0,.int .u64 0,.int .u32 0]) (lo:=lo) k m (B:=[ae.box [.int .i64 0,.int .u64 0,.int .u32 0] none,.box (bS R) none]) (by simp) hA f2 (s.imp (λq=>⟨q.1,.inr q.2,trivial⟩) id) (aha _)
   (by rw[anu,aeR I];exact w0) (.box [.int .i64 0,.int .u64 0,.int .u32 0] none)
  rw[g1];simp only[nv,gz,okB,g,l,m3];exact⟨_,_,_,rfl,g2,g3,g4⟩
 ·rename_i g l e m3;obtain⟨E1,l1,e1,e2,e3⟩:=M4 (v:=iW e) (lo:=lo) k m f1 (s.imp And.left id) (aha _);rw[e1];simp only[nv,gz,okB,cV,g,l,m3];exact⟨_,_,rfl,e2,e3⟩
 ·rename_i g e l;simp only[okB,cV,g,l];exact .err
 ·rename_i e g;simp only[cV,g];exact .err
end
def awH{N:Nat}{H B W:List ae}{ak:oN}{Q:Prop}(g:H.length=N)(d:p<N)(i: ∀o∈B,∃cs tg,o=ae.box cs tg)(j:At p y bk W)(h:bP p (H++B) W)(f: (ak=none/\ (W.length=(H++B).length\/ (bk= .ai/\y.back=[]))/\Q)\/ak=cA none p)(e:v.refs<=N)
  {cs:lA}  (b:W[N]?=some (.box cs tg)):
  ∃c a,finish N lo v ⟨W,ak⟩=(v,⟨c,a⟩)/\At p y bk c/\bP p H c/\vR Q p H c lo a:=by
 have:=zX (v:=v) (lo:=lo) g d i j h f e b (.box cs tg);rwa[qg b]at this
def awI(bk:AV)(p:Nat)(H:List ae)(lo:oN):R ar->aS->Prop
 |.ok y,b=> ∃a H' ak,b= .ret (.au []) ⟨H',ak⟩/\At p y a H'/\bP p H H'/\vR (a=bk\/a= .ai) p H H' lo ak
 |.error e,b=>b= .panic (iW e) ⟨H,lo⟩
section
variable{x:ar}{bk:AV}{p:Nat}{H:List ae}(lo:oN)(ha:At p x bk H)(hs:bh x.s)
include ha hs
theorem aky(h:Nat)(n:h<4294967296)(aa:Nat)(I:aa<256)(J:x.back.length+64*(under x.s.T h).length<=4294967296):
  ∃A,D XA (.fn (.func JK) [] []) [.ptr p 0,.int .u32 h,.int .i64 aa] ⟨H,lo⟩=some A/\awI bk p H lo (jM x h aa) A:=by
 refine cy LU λN f=>?_
 have ho:Old p H (.box (aV x bk) none):=⟨ha.box⟩;have k:p<N:=by rw[<-f];exact ho.lt
 have y:=λH lo=>lx (avh x.s.O hs.O x.s.T hs.T hs.tr h n aa I H lo)
 have w:=λH=>gO (du x.s.O x.s.T h aa false).2.2 H
 have L:jM x h aa=bb (du x.s.O x.s.T h aa false).2.2>>=λ_=>.ok (if(du x.s.O x.s.T h aa false).2.1=0 then gu (x.o (du x.s.O x.s.T h aa false).1) h else x.o (du x.s.O x.s.T h aa false).1):=rfl
 have l:fF (du x.s.O x.s.T h aa false).1:=hs.O.held n;rw[L];have i:=ajm hs.O (t:=x.s.T) (r:=h) (aa:=aa) (hold:=false);generalize du x.s.O x.s.T h aa false=g at*;have s: ∀v,(H++[ae.box (cF g.1) none]).set p v=H.set p v++[ae.box (cF g.1) none]:=λv=>ho.s _ _
 have u:At p (x.o g.1) bk (H.set p (.box (aV (x.o g.1) bk) none)++[ae.box (cF g.1) none]):=⟨ho.g2 _ _,aQ.ext (aQ.nH ha.own ha.box)⟩;obtain⟨M,W,ak,g1,g2,z,K⟩:=V7 u (hs.vP l) h n J none;have f1:bP p (H++[ae.box (cF g.1) none]) (H.set p (.box (aV (x.o g.1) bk) none)++[ae.box (cF g.1) none]):=by rw[<-s];exact bP.set _ _ _
 by_cases j:g.2.1=0
 ·have c:decide ((Gx g.2.1:Int)=0)=true:=ag9 (by rw[j];rfl);simp only[F1,go_sem,simprocAttr,LU,f,ho.g,ho.s,↓CL,CS,y,w,c,g1,dL,dM,EP,gj];have o:W[N]?=some (.box (cF g.1) none):=z.box N _ (by omega) (λa d e=>by cases e) (by rw[(OL f).1];rfl);have m: (H.set p (.box (aV (x.o g.1) bk) none)++[ae.box (cF g.1) none]).length=(H++[ae.box (cF g.1) none]).length:=by simp
  obtain⟨O,B,G,F,E,C⟩:=awH (v:=.au []) (lo:=lo) f k CJ g2 (f1.trans z) (K.imp (λq=>⟨q.1,.inl (q.2.1.trans m),q.2.2⟩) id) (aha _) o;rw[G]
  (repeat' (first| (refine⟨?_,?_⟩)|intro _))
  ·rename_i b;simp only[b,okB,afJ j];exact⟨_,_,_,rfl,F,E,C⟩
  ·rename_i e b;simp only[b,cV];rfl
 ·have c:decide ((Gx g.2.1:Int)=0)=false:=ag7 (by
    have:=mt (avg _ i).1 j;omega)
  simp only[F1,go_sem,simprocAttr,LU,f,ho.g,ho.s,↓CL,CS,y,w,c,dL,dM,EP,gj,OL f]
  (repeat' (first| (refine⟨?_,?_⟩)|intro _))
  ·rename_i b;simp only[b,okB,afB j];exact⟨bk,_,lo,rfl,⟨ho.g1 _,aQ.nH ha.own ha.box⟩,bP.set _ _ _,.inl ⟨rfl,by simp,.inl rfl⟩⟩
  ·rename_i e b;simp only[b,cV];rfl
end
section
variable{x:ar}{bk:AV}{p:Nat}{H:List ae}(lo:oN)(ha:At p x bk H)(hx:mQ x)
include ha hx
theorem awJ(l:x.back.length+64*(under x.s.T x.c.r).length<=4294967296): ∃g,D XA (.fn (.func Jw) [] []) [.ptr p 0] ⟨H,lo⟩=some g/\ud p H lo (vt x) g:=by
 refine cy LJ λN f=>?_
 have ho:Old p H (.box (aV x bk) none):=⟨ha.box⟩;have h:p<N:=by rw[<-f];exact ho.lt
 have s:=hx.t;obtain⟨g,g1,g2⟩:=aky (bk:=bk) (H:=H++[.box [.int .i64 0,.int .u64 0,.int .u32 0] none]) none ⟨ho.g _,ha.own.ext⟩ hx.s x.c.r hx.c.r x.aa (by omega) l;have n:vt x=xn x x.c.r>>=λ_=>jM x x.c.r x.aa>>=λy=>.ok (y,bX):=rfl
 rw[n];cases i:jM x x.c.r x.aa with
 |error e=>
  rw[i]at g2;have g2:g=_:=g2;rw[g2]at g1;simp only[F1,go_sem,simprocAttr,LJ,f,ho.g,↓CL,λB lo=>GB (ho.app B) lo hx.s hx.t x.c.r hx.c.r,g1,dL,dM,EP,iX]
  (repeat' (first| (refine⟨?_,?_⟩)|intro _))
  ·rename_i b;simp only[b,okB,cV];exact .err
  ·rename_i o b;simp only[b,cV];exact .err
 |ok y=>
  rw[i]at g2;obtain⟨r,W,ak,rfl,g2,j,m⟩:=g2;have c:W[N]?=some (.box [.int .i64 0,.int .u64 0,.int .u32 0] none):=j.box N _ (by omega) (λa d e=>by cases e) (by rw[di f];rfl);simp only[F1,go_sem,simprocAttr,LJ,f,ho.g,↓CL,λB lo=>GB (ho.app B) lo hx.s hx.t x.c.r hx.c.r,g1,c,cG c,dL,dM,EP];obtain⟨t,k,f1,f2,f3,f4⟩:=zX (v:=.agg [.int .i64 0,.int .u64 0,.int .u32 0]) (lo:=lo) f h CJ g2 j (m.imp (λq=>⟨q.1,.inl q.2.1,trivial⟩) id) (aha _) c (.box [.int .i64 0,.int .u64 0,.int .u32 0] none);rw[f1]
  (repeat' (first| (refine⟨?_,?_⟩)|intro _))
  ·rename_i b;simp only[b,okB];exact⟨_,_,_,rfl,f2,f3,f4⟩
  ·rename_i o b;simp only[b,cV];exact .err
end
def awK(d:cm t): ∀ (n x:Nat),dep t x<=n->k∈aR t x-> ∀c∈aR t k,c∈aR t x:=by
 intro n
 induction n with
 |zero=>intro x b a;unfold dep at b;grind
 |succ n e=>
  intro x b a c f;by_cases hu:bI t x=0
  ·rw[sR d,afJ hu]at a;cases a
  ·grind [Cd,CF]
def Wa(d:cm t){x:Nat}: ∀n c,x∈gZ t n c->x=c\/c∈aR t x:=by
 intro n
 induction n with
 |zero=>intro c h;left;simpa[gZ]using h
 |succ n e=>
  intro c h;rcases ai2.1 h with h|h
  ·omega
  ·right
   obtain⟨k,f,a⟩:=arC.1 h;obtain⟨g1,g2,_⟩:=Mi f;have b:c∈aR t k:=by rw[CF d (x:=k) (by rw[g2];exact UN g1),g2];grind
   rcases e k a with rfl|a
   ·omega
   ·exact awK d _ x (ahd _) a c b
def awL(f:cm t): ∀ (n x a b:Nat),dep t x<=n->a∈x::aR t x->b∈x::aR t x->dep t a=dep t b->a=b:=by
 intro n
 induction n with
 |zero=>
  intro x a b g d e _;unfold dep at g
  grind
 |succ n i=>
  intro x a b g d e he;have lt: ∀c∈aR t x,dep t c<dep t x:=λc h=>MV f _ x (ahd _) h
  rcases ai2.1 d with rfl|d
  ·grind
  ·rcases ai2.1 e with rfl|e
   ·grind
   ·by_cases hu:bI t x=0
    ·rw[sR f,afJ hu]at d;cases d
    ·have j:=Cd f hu;rw[CF f hu]at d e
     grind
def akz(b:cE): (bm b).Nodup:=by
 refine List.Pairwise.map _ (λi j c=>?_) (auz (S:=λi j=>i<32/\j<32/\i≠j) (λe d a=>⟨?_,?_,a⟩) (List.nodup_range.filter _))
 ·unfold c7;omega
 ·grind
 grind
def awM(t:aw)(h:Nat): (kids t h).Nodup:=by
 unfold kids;split
 ·exact(akz _).filter _
 grind
def awN(a:cm t): ∀n h,(gZ t n h).Nodup:=by
 intro n
 induction n with
 |zero=>simp[gZ]
 |succ n g=>
  intro h;refine aBj.2 ⟨λhm=>?_,?_⟩
  ·obtain⟨k,j,b⟩:=arC.1 hm;have o:=Ce a j;rcases Wa a n k b with e|e
   ·grind
   ·have:=MV a _ h (ahd _) e;omega
  ·refine List.pairwise_flatMap.2 ⟨λk _=>g k,auz (λr p d x b y i e=>?_) (awM t h)⟩;subst e;have m:=Wa a n _ b;have l:=Wa a n _ i;have f: ∀c,(x=c\/c∈aR t x)->c∈x::aR t x:=λc q=>q.elim (λe=>by grind) (aiF _)
   exact d (awL a _ x _ _ (ahd _) (f _ m) (f _ l) (by grind [Ce]))
def akA(a:cm t)(h:Nat): (under t h).Nodup:=by
 unfold under;split
 ·exact awN a 32 h
 grind
theorem Wb: ∀ (l m:lN),l.Nodup->(∀z∈l,z∈m)->l.length<=m.length
 | [],_,_,_=>aha _
 |a::l,m,c,h=>by
  obtain⟨e,d⟩:=aBj.1 c;have:=Wb l (m.erase a) d λz b=>(List.mem_erase_of_ne λq=>by grind).2 (h z (aiF _ b))
  grind
def awO{y z:Nat}(c:ax b z=true)(d:ax b y=true)(a:z≠y):ax (ek b y).1 z=true:=by
 obtain⟨j,e,f⟩:=lp.1 c;unfold ek;rw[afJ d];refine lp.2 ⟨j,e,?_⟩;show aq b (aN y) _ j=_;rw[dj λq=>a (VW c d (by rw[Gd e];exact q))];exact f
def awP(g:gL b){y:Nat}(c:ax b y=true): (bm (ek b y).1).length+1<=(bm b).length:=by
 have d:=akz (ek b y).1;have i:y∉bm (ek b y).1:=λhm=>by
  have f:=(jm (Gf g y)).1 hm;obtain⟨j,e,a⟩:=lp.1 f;unfold ek at a;rw[afJ c]at a;have a:aq b (aN y) (rm (b (aN y))) j=_:=a;rw[Gd e,cT]at a;unfold rm at a
  grind
 have h: ∀z∈y::bm (ek b y).1,z∈bm b:=λz k=>by grind [jm,VV,Gf]
 have:=Wb _ _ (aBj.2 ⟨i,d⟩) h;omega
theorem akB: ∀ (l:lN) (t:aw),gL t.b->l.Nodup->(∀z∈l,t.ax z=true)->(bm (kr t l).b).length+l.length<=(bm t.b).length
 | [],t,_,_,_=>by simp[kr]
 |y::l,t,d,h,c=>by
  have a:ax t.b y=true:=c y (amM ..);have e: (ll t y).1={b:=(ek t.b y).1,r:=aq t.r (aN y) dC}:=by
   unfold ll;grind
  have f: (ll t y).1.b=(ek t.b y).1:=by rw[e]
  have i:=akB l (ll t y).1 (by rw[f];exact Gf d y) (aBj.1 h).2 λz g=>by
   show ax (ll t y).1.b z=true;rw[f];exact awO (c z (aiF _ g)) a λq=>by grind
  have j:=awP d a;have k:kr t (y::l)=kr (ll t y).1 l:=rfl
  grind
theorem awQ(h:ep t)(a:Nat): (under t a).length<=(bm t.b).length:=
 Wb _ _ (akA h.tr a) λz b=>(jm h.ok.b).2 (MC h.ok b)
def awR(h:ep t)(a:Nat): (bm (l7 t a).1.b).length+(under t a).length<=(bm t.b).length:=by
 unfold l7;split
 ·grind
 ·exact akB (under t a) t h.ok.b (akA h.tr a) λz b=>MC h.ok b
def eI(x:ar):Nat:=x.back.length+64*(bm x.s.T.b).length
def Wc(a:bh x.s)(h:Nat):eI (gu x h)<=eI x:=by
 have d:=akw (under x.s.T h) x a.T;have c:=akv (under x.s.T h) x;have b:=awR a.eB h;have e1: (gu x h).back=((under x.s.T h).foldl iN x).back:=rfl;have e: (gu x h).s.T=(l7 ((under x.s.T h).foldl iN x).s.T h).1:=rfl;unfold eI
 grind
def Wd(a:bh x.s)(h:Nat):x.back.length+64*(under x.s.T h).length<=eI x:=by
 have:=awQ a.eB h;unfold eI;omega
def We(b:bh x.s)(h:Nat):bh (gu x h).s:=by
 have a:=V6 (under x.s.T h) x b;exact a.vO (a.eB.awa h)
structure LI(bk:AV)(p N:Nat)(H:List ae)(y:ar)(nL:AV)(W:List ae)(lo:oN):Prop where
 at':At p y nL W
 fr:bP p H W
 ok:bh y.s
 eI:eI y<=2048
 lo: (dI N lo/\ (nL=bk\/nL= .ai))\/lo=some p
section
variable{bk:AV}{p N:Nat}{H:List ae}{y:ar}{nL:AV}{W:List ae}{jB:oN}(oO:p<N)(h:LI bk p N H y nL W jB)
include h
theorem LI.dB:Old p W (.box (aV y nL) none):=⟨h.at'.box⟩
theorem LI.app(L:List ae):LI bk p N H y nL (W++L) jB:=⟨⟨bc h.at'.box,h.at'.own.ext⟩,h.fr.trans (bP.app p W L (afA.1 h.at'.box).1),h.ok,h.eI,h.lo⟩
theorem LI.set{z:ar}(a:bh z.s)(b:z.back=y.back)(c: (bm z.s.T.b).length<=(bm y.s.T.b).length):LI bk p N H z nL (W.set p (.box (aV z nL) none)) jB:=
 ⟨⟨by rw[ahj h.dB.lt],by rw[b];exact aQ.nH h.at'.own h.at'.box⟩,h.fr.trans (bP.set _ _ _),a,by have:=h.eI;unfold Go.Proofs.YteplichagkpciaaGreatDoor.eI at*;grind,h.lo⟩
include oO
theorem LI.next{z:ar}{a:AV}{c:List ae}{b:oN}(k:At p z a c)(i:bP p W c)(g:vR (a=nL\/a= .ai) p W c jB b)(e:bh z.s)(f:Go.Proofs.YteplichagkpciaaGreatDoor.eI z<=Go.Proofs.YteplichagkpciaaGreatDoor.eI y):LI bk p N H z a c b:=by
 refine⟨k,h.fr.trans i,e,akH f h.eI,?_⟩;rcases g with⟨rfl,_,q⟩|rfl
 ·rcases h.lo with⟨d,l⟩|d
  ·grind
  grind
 ·right
  rcases h.lo with⟨rfl| ⟨j,m,rfl⟩,_⟩|rfl
  ·rfl
  ·exact akG some (arI (show p<=j by omega))
  ·exact akG some (aBh p)
theorem LI.gone(a:Nat)(f:a<4294967296): ∃c d b,D XA (.fn (.func wF) [] []) [.ptr p 0,.int .u32 a] ⟨W,jB⟩=some (.ret (.au []) ⟨d,b⟩)/\LI bk p N H (gu y a) c d b/\bP p W d:=by
 obtain⟨c,d,b,g1,g2,e,g⟩:=V7 h.at' h.ok a f (by have:=Wd h.ok a;have:=h.eI;omega) jB;exact⟨c,d,b,g1,h.next oO g2 e g (We h.ok a) (Wc h.ok a),e⟩
theorem LI.done(k:H.length=N)(i:At p x bk H)(j:v.refs<=N):
  ∃b a,finish N lo v ⟨W,jB⟩=(v,⟨b,a⟩)/\At p y nL b/\bP p H b/\vR (nL=bk\/nL= .ai) p H b lo a:=by
 rcases h.lo with⟨f,d⟩|rfl
 ·refine⟨_,lo,iU f j,⟨by rw[aiX oO];exact h.at'.box,h.at'.own.1,?_⟩,h.fr.take k oO,.inl ⟨rfl,by rw[ai1];have:=h.fr.len;omega,d⟩⟩;rcases h.at'.own.2 with q| ⟨id,aj,s,r,o⟩
  ·grind
  ·rcases d with rfl|rfl
   ·rcases i.own.2 with⟨e,_⟩| ⟨g,c,n,m,l⟩
    ·grind
    grind
   grind
 ·exact⟨_,cA lo p,vS oO,h.at',h.fr,.inr rfl⟩
theorem LI.err(e:H.length=N)(d:v.refs<=N): ∃b a,finish N lo v ⟨W,jB⟩=(v,⟨b,a⟩)/\bP p H b/\zW p H b lo a:=by
 rcases h.lo with⟨c,f⟩|rfl
 ·exact⟨_,lo,iU c d,h.fr.take e oO,.inl ⟨rfl,by rw[ai1];have:=h.fr.len;omega,trivial⟩⟩
 ·exact⟨_,cA lo p,vS oO,h.fr,.inr rfl⟩
end
theorem akC{m:Nat}{I:Nat->Env->List ae->oN->Prop}{Q:bQ}{a:Fr}{E:AS}:AO k m I Q (.panic v) a E=Q (.panic v) a E:=rfl
instance:Inhabited kj:=⟨zE⟩
def awS(bk:AV)(p:Nat)(H:List ae)(lo:oN):R ar->aS->Prop
 |.ok y,b=> ∃a H' ak,b= .ret (.au []) ⟨H',ak⟩/\At p y a H'/\bP p H H'/\vR (a=bk\/a= .ai) p H H' lo ak
 |.error e,b=> ∃H' ak,b= .panic (iW e) ⟨H',ak⟩/\bP p H H'/\zW p H H' lo ak
def CK(y:ar)(m:kj):R ar:=if m.aL=0\/m.share=true then pure y else if y.s.alive m.fr then mM y m.aL m.fr else pure (gu y m.aL)
def vT(x:ar)(aa:Nat):ar:={x.bx aa zF with s:={(x.bx aa zF).s with alive:=aq (x.bx aa zF).s.alive aa false}}
def M5(y:ar)(aa:Nat):R ar:=
 ((bm y.s.T.b).filter λh=>decide (root y.s.T h=h)&&decide ((b0 y.s.O y.s.T h).kind=3)&& (decide (aa<8)&&oz (b0 y.s.O y.s.T h).hold aa)).foldlM (λy h=>jM y h aa) y
def Wg(y:ar)(aa:Nat):R ar:=do
 let y:=((bm y.s.T.b).filter λh=>decide (root y.s.T h=h)&&decide ((b0 y.s.O y.s.T h).kind=1)&&decide ((b0 y.s.O y.s.T h).aa=aa)).foldl gu y
 ((bm y.s.T.b).filter λh=>decide (root y.s.T h=h)&&decide ((b0 y.s.O y.s.T h).kind=3)&& (decide (aa<8)&&oz (b0 y.s.O y.s.T h).hold aa)).foldlM (λy h=>jM y h aa) y
def Wh(y:ar)(aa:Nat):R ar:=do
 let y:=(xk y.s.K aa).foldl (λy h=>y.k (mJ y.s.K h).1) y
 let y:=((bm y.s.T.b).filter λh=>decide (root y.s.T h=h)&&decide ((b0 y.s.O y.s.T h).kind=1)&&decide ((b0 y.s.O y.s.T h).aa=aa)).foldl gu y
 ((bm y.s.T.b).filter λh=>decide (root y.s.T h=h)&&decide ((b0 y.s.O y.s.T h).kind=3)&& (decide (aa<8)&&oz (b0 y.s.O y.s.T h).hold aa)).foldlM (λy h=>jM y h aa) y
theorem akD(x:ar)(aa:Nat):ny x aa=(fQ (x.s.c8 aa)).foldlM CK (vT x aa)>>=λy=>Wh y aa:=rfl
def foldlM_succ[Inhabited β]{f:α->β->R α}{l:List β}{a:α}(h:k<l.length): (l.take (k+1)).foldlM f a=((l.take k).foldlM f a>>=λy=>f y (l.getD k default)):=by grind [List.take_add_one,List.getElem?_eq_getElem,List.foldlM_append]
def akE{f:α->β->R α}{l:List β}{a:α}(h: (l.take k).foldlM f a= .error e):l.foldlM f a= .error e:=by
 rw[<-aqj k l,List.foldlM_append,h];rfl
def zY(y:ar)(h:Nat):ar:=y.k (mJ y.s.K h).1
def foldl_succ{f:α->Nat->α}{l:lN}{a:α}(h:k<l.length): (l.take (k+1)).foldl f a=f ((l.take k).foldl f a) (l.getD k default):=by grind [List.take_add_one,List.getElem?_eq_getElem,getD_eq]
def awT{z:ar}{h:Nat}(hs:bh y.s)(d:h<4294967296)(b:jM y h aa= .ok z):bh z.s/\eI z<=eI y:=by
 have f:jM y h aa=bb (du y.s.O y.s.T h aa false).2.2>>=λ_=>.ok (if(du y.s.O y.s.T h aa false).2.1=0 then gu (y.o (du y.s.O y.s.T h aa false).1) h else y.o (du y.s.O y.s.T h aa false).1):=rfl
 rw[f]at b;have a:bh (y.o (du y.s.O y.s.T h aa false).1).s:=hs.vP (hs.O.held d);cases c:bb (du y.s.O y.s.T h aa false).2.2 with
 |error e=>rw[c]at b;cases b
 |ok _=>
  rw[c]at b;cases b;split
  ·exact⟨We a h,Wc a h⟩
  ·exact⟨a,ahd _⟩
section
variable{x:ar}{bk:AV}{p:Nat}{H:List ae}(lo:oN)(ha:At p x bk H)(hs:bh x.s)
include ha hs
theorem akF(aa:Nat)(ht:aa<8)(hp:eI x<=2048):
  ∃cr,D XA (.fn (.func Jj) [] []) [.ptr p 0,.int .i64 aa] ⟨H,lo⟩=some cr/\awS bk p H lo (ny x aa) cr:=by
 refine cy S1 λN hN=>?_
 have ho:Old p H (.box (aV x bk) none):=⟨ha.box⟩;have M:p<N:=by rw[<-hN];exact ho.lt
 obtain⟨w,d1,d2,d3⟩:=av2 (x.s.c8 aa) (hs.bx aa) H none;have d1:=lx d1;have c1: (aa:Int)<8:=by omega
 have c2:784+aa*19<=945:=by omega
 have c3:936+aa<=963:=by omega
 have hb:=λ (y:ar) bk=> @MR y bk aa ht
 have hsb:=λ (y:ar) bk b=> @MS y bk aa b ht
 have hsa:=λ (y:ar) bk v=> @aj1 y bk aa v ht
 have I:=λE=>(show Rd E w 4 ((fQ (x.s.c8 aa)).map eh)from d2 E).bL
 have hbl: (fQ (x.s.c8 aa)).length<=4:=by have:=(hs.bx aa).n;simp[fQ];omega
 have hml: ∀m∈fQ (x.s.c8 aa),vK m:=λm hm=>by
  obtain⟨i,_,rfl⟩:=ahk.1 hm;exact(hs.bx aa).ring _
 rw[akD];generalize hl:fQ (x.s.c8 aa)=l at*;simp only[go_sem,simprocAttr,S1,hN,ho.at',ho.g,ho.s,ho.g2,ho.s2,CS,c1,c2,c3,↓hb,hsb,hsa,d1,I,MB];have GC:bh (vT x aa).s:=(hs.CH iV.gone).VY;have awU:LI bk p N H (vT x aa) bk (H.set p (.box (aV (vT x aa) bk) none)) none:=LI.set ⟨ha,bP.refl _ _,hs,hp,.inl ⟨.inl rfl,.inl rfl⟩⟩ GC rfl (ahd _);refine gS l.length (λk e W' ak=> ∃y G,(l.take k).foldlM CK (vT x aa)= .ok y/\LI bk p N H y G W' ak/\e 0= .ptr p 0/\e 1= .int .i64 aa/\e 38=w/\e 39= .int .i64 l.length/\e 40= .int .i64 k) 0 (by omega) ?_ ?_
 ·simp only[go_sem,simprocAttr];exact⟨vT x aa,bk,rfl,awU.app _⟩
 rintro k hk e T s ⟨y,A,Z,d,C,B,r,o,j⟩ n hn;simp only[bR,go_sem,simprocAttr,agL,d.dB.at',↓CL,C,B,r,o,j];refine⟨λV=>?_,λV=>?_⟩
 ·have g:k<l.length:=by omega
  have hr:=(show Rd ⟨T,s⟩ w 4 (l.map eh)from d2 _);have c:=foldlM_succ (f:=CK) (a:=vT x aa) g;rw[Z,okB]at c;have Wi:vK (l.getD k default):=by
   exact hml _ (by simp[List.getD,g])
  have Wj:=Wi.aL;have hmf:=Wi.fr;have L2:=d.app [ae.box (eh (l.getD k default)) none];have pa:=d.dB;have pt:=λ (z:ar) bk=> @VP z bk (l.getD k default).fr hmf
  have c4: ((l.getD k default).fr:Int)<8:=by omega
  have e1:CK y (l.getD k default)=if(l.getD k default).aL=0\/ (l.getD k default).share=true then .ok y else if y.s.alive (l.getD k default).fr then mM y (l.getD k default).aL (l.getD k default).fr else .ok (gu y (l.getD k default).aL):=rfl
  rw[e1]at c;by_cases h0: (l.getD k default).aL=0
  ·have R:decide (((l.getD k default).aL:Int)=0)=true:=ag9 (by omega);rw[afJ (.inl h0)]at c;simp(disch:=omega) only[go_sem,simprocAttr,hr.ck,hr.cD,oL,R,hn,C,B,r,o,j];exact⟨by omega,g,y,A,c,L2⟩
  ·have R:decide (((l.getD k default).aL:Int)=0)=false:=ag7 (by omega);cases F: (l.getD k default).share with
   |true=>
    rw[afJ (.inr F)]at c;rw[oL,F]at L2;simp(disch:=omega) only[go_sem,simprocAttr,hr.ck,hr.cD,oL,R,F,hn,C,B,r,o,j];exact⟨by omega,g,y,A,c,L2⟩
   |false=>
    rw[afB (by rintro(q|q);exact h0 q;rw[F]at q;cases q)]at c;rw[oL,F]at L2;cases X:y.s.alive (l.getD k default).fr with
    |false=>
     rw[X,afB (by simp)]at c;obtain⟨S,W2,P,g1,g2,Y⟩:=L2.gone M (l.getD k default).aL Wj;simp(disch:=omega) only[go_sem,simprocAttr,hr.ck,hr.cD,oL,R,F,X,pa.g,c4,↓pt,g1,hn,C,B,r,o,j];exact⟨by omega,g,_,S,c,g2⟩
    |true=>
     rw[X,afJ rfl]at c;have hw:=MZ (ho:=L2.dB) (lo:=s) L2.ok (l.getD k default).aL Wj (l.getD k default).fr (by omega);simp(disch:=omega) only[go_sem,simprocAttr,hr.ck,hr.cD,oL,R,F,X,pa.g,pa.s,c4,↓pt,hw,akC,dL,dM,EP,hn,C,B,r,o,j];refine⟨by omega,λm1=>⟨g,_,A,?_,(d.set (z:=y.o (rn y.s.O y.s.T (l.getD k default).aL (l.getD k default).fr).1) (d.ok.vP (d.ok.O.ir Wj)) rfl (ahd _)).app _⟩,λe' m1=>?_⟩
     ·rw[c];unfold mM;rw[m1];rfl
     ·obtain⟨H2,P,g1,g2,Y⟩:=LI.err (v:=iW e') (lo:=lo) M L2 hN (aha _);have c: (l.take (k+1)).foldlM CK (vT x aa)= .error e':=by rw[c];unfold mM;rw[m1];rfl
      rw[akE c,cV];rw[g1];exact⟨_,_,rfl,g2,Y⟩
 ·obtain rfl:k=l.length:=by omega
  rw[ahn]at Z;rw[Z,okB];clear hsa hsb hb d1 I hml;have akJ:=d.ok;obtain⟨wt,t1,t2,t3⟩:=avn y.s.K akJ.K aa T s;have t1:=ly t1;have Wk:=λE=>(show Rd E wt 1 ((xk y.s.K aa).map hC)from t2 E).bL
  simp only[go_sem,simprocAttr,t1,Wk];have e1:Wh y aa=Wg ((xk y.s.K aa).foldl zY y) aa:=rfl;rw[e1];have J: (xk y.s.K aa).length<=32:=akH (amL _ _) (nm _);generalize AH:xk y.s.K aa=L at*;have u: ∀z∈L,z<4294967296:=λz hz=>by
   rw[<-AH]at hz;exact gg ((jm akJ.K.b).1 (aiJ.1 hz).1)
  refine gS L.length (λk e W' ak=> ∃G,LI bk p N H ((L.take k).foldl zY y) G W' ak/\e 0= .ptr p 0/\e 1= .int .i64 aa/\e 80=wt/\e 81= .int .i64 L.length/\e 82= .int .i64 k) 0 (by omega) ?_ ?_
  ·simp only[go_sem,simprocAttr,C,B];exact⟨A,d⟩
  clear d Z hk C B r o j V t1 d2 d3;rintro k hk e T s ⟨A,d,C,B,r,o,j⟩ n hn;simp only[bR,go_sem,simprocAttr,agK,d.dB.at',↓CL,C,B,r,o,j];refine⟨λV=>?_,λV=>?_⟩
  ·have g:k<L.length:=by omega
   have hr:=(show Rd ⟨T,s⟩ wt 1 (L.map hC)from t2 _);have c:=foldl_succ (f:=zY) (a:=y) g;have O:=u (L.getD k default) (by simp[List.getD,g]);obtain⟨w',K⟩:=ajA ((L.take k).foldl zY y).s.K d.ok.K (L.getD k default) O (d.ok.th _) T s;have K:=ly K;simp(disch:=omega) only[go_sem,simprocAttr,hr.ck,hr.cD,↓pH,d.dB.at',↓CL,CS,K,C,B,r,o,j];rw[c];exact⟨by omega,g,A,d.set (z:=zY ((L.take k).foldl zY y) (L.getD k default)) (d.ok.CG (d.ok.tok.ret _)) rfl (ahd _)⟩
  ·obtain rfl:k=L.length:=by omega
   simp only[ahn]at d⊢;clear AH J u Wk t2 hk V;generalize L.foldl zY y=z at*;obtain⟨wr,K,r2,r3⟩:=avF z.s.O d.ok.O z.s.T d.ok.T d.ok.tr aa T s;have K:=ly K;have Q:=λE=>(show Rd E wr 1 ((jO z.s.O z.s.T (qj aa)).map hC)from r2 E).bL
   simp only[go_sem,simprocAttr,K,Q];have e1:Wg z aa=M5 ((jO z.s.O z.s.T (qj aa)).foldl gu z) aa:=by
    have: (λh=>decide (root z.s.T h=h)&&decide ((b0 z.s.O z.s.T h).kind=1)&&decide ((b0 z.s.O z.s.T h).aa=aa))=xF z.s.O z.s.T (qj aa):=by funext h;simp[xF,qj,Bool.and_assoc]
    unfold Wg jO M5;rw[this]
   rw[e1];have J: (jO z.s.O z.s.T (qj aa)).length<=32:=akH (amL _ _) (nm _);have u: ∀a∈jO z.s.O z.s.T (qj aa),a<4294967296:=λa ha=>gg ((jm d.ok.T.b).1 (aiJ.1 ha).1)
   generalize jO z.s.O z.s.T (qj aa)=W at*;refine gS W.length (λk e W' ak=> ∃G,LI bk p N H ((W.take k).foldl gu z) G W' ak/\e 0= .ptr p 0/\e 1= .int .i64 aa/\e 117=wr/\e 118= .int .i64 W.length/\e 119= .int .i64 k) 0 (by omega) ?_ ?_
   ·simp only[go_sem,simprocAttr,C,B];exact⟨A,d⟩
   clear d C B r o j K e1 Q;rintro k hk e T s ⟨A,d,C,B,r,o,j⟩ n hn;simp only[bR,go_sem,simprocAttr,agJ,d.dB.at',↓CL,C,B,r,o,j];refine⟨λV=>?_,λV=>?_⟩
   ·have g:k<W.length:=by omega
    have hr:=(show Rd ⟨T,s⟩ wr 1 (W.map hC)from r2 _);have c:=foldl_succ (f:=gu) (a:=z) g;have O:=u (W.getD k default) (by simp[List.getD,g]);obtain⟨S,W2,P,g1,g2,Y⟩:=d.gone M (W.getD k default) O;simp(disch:=omega) only[go_sem,simprocAttr,hr.ck,hr.cD,↓pH,g1,C,B,r,o,j];rw[c];exact⟨by omega,g,S,g2⟩
   ·obtain rfl:k=W.length:=by omega
    simp only[ahn]at d⊢;clear J u r2 hk V;generalize W.foldl gu z=t at*;obtain⟨wh,K,r2,r3⟩:=avG t.s.O d.ok.O t.s.T d.ok.T d.ok.tr aa (by omega) T s;have K:=ly K;have Q:=λE=>(show Rd E wh 1 ((jO t.s.O t.s.T (oK aa)).map hC)from r2 E).bL
    simp only[go_sem,simprocAttr,K,Q];have e1:M5 t aa=(jO t.s.O t.s.T (oK aa)).foldlM (λy h=>jM y h aa) t:=by
     have: (λh=>decide (root t.s.T h=h)&&decide ((b0 t.s.O t.s.T h).kind=3)&& (decide (aa<8)&&oz (b0 t.s.O t.s.T h).hold aa))=xF t.s.O t.s.T (oK aa):=by funext h;simp[xF,oK,Bool.and_assoc]
     unfold jO M5;rw[this]
    rw[e1];have J: (jO t.s.O t.s.T (oK aa)).length<=32:=akH (amL _ _) (nm _);have u: ∀a∈jO t.s.O t.s.T (oK aa),a<4294967296:=λa ha=>gg ((jm d.ok.T.b).1 (aiJ.1 ha).1)
    generalize jO t.s.O t.s.T (oK aa)=U at*;refine gS U.length (λk e W' ak=> ∃y G,(U.take k).foldlM (λy h=>jM y h aa) t= .ok y/\LI bk p N H y G W' ak/\e 0= .ptr p 0/\e 1= .int .i64 aa/\e 140=wh/\e 141= .int .i64 U.length/\e 142= .int .i64 k) 0 (by omega) ?_ ?_
    ·simp only[go_sem,simprocAttr,C,B];exact⟨t,A,rfl,d⟩
    clear d C B r o j K e1 Q;rintro k hk e T s ⟨y,A,Z,d,C,B,r,o,j⟩ n hn;simp only[bR,go_sem,simprocAttr,agI,r,o,j];refine⟨λV=>?_,λV=>?_⟩
    ·have g:k<U.length:=by omega
     have hr:=(show Rd ⟨T,s⟩ wh 1 (U.map hC)from r2 _);have c:=foldlM_succ (f:=λy h=>jM y h aa) (a:=t) g;rw[Z,okB]at c;have O:=u (U.getD k default) (by simp[List.getD,g]);obtain⟨cr,g1,g2⟩:=aky s d.at' d.ok (U.getD k default) O aa (by omega) (by have:=Wd d.ok (U.getD k default);have:=d.eI;omega);cases Ds:jM y (U.getD k default) aa with
     |ok z3=>
      rw[Ds]at g2 c;obtain⟨S,W2,P,rfl,g2,Y,g4⟩:=g2;have hd:=awT d.ok O Ds;simp(disch:=omega) only[go_sem,simprocAttr,hr.ck,hr.cD,↓pH,g1,C,B,r,o,j];exact⟨by omega,g,z3,S,c,d.next M g2 Y g4 hd.1 hd.2⟩
     |error e'=>
      rw[Ds]at g2 c;have g2:cr=_:=g2;rw[g2]at g1;simp(disch:=omega) only[go_sem,simprocAttr,hr.ck,hr.cD,↓pH,g1,akC,EP,C,B];refine⟨by omega,?_⟩;obtain⟨H2,P,g1,g2,Y⟩:=LI.err (v:=iW e') (lo:=lo) M d hN (aha _);rw[akE c,g1];exact⟨_,_,rfl,g2,Y⟩
    ·obtain rfl:k=U.length:=by omega
     rw[ahn]at Z;rw[Z];obtain⟨H2,P,g1,g2,Y,g4⟩:=d.done M (v:=.au []) (lo:=lo) hN ha (aha _);rw[g1];exact⟨_,_,_,rfl,g2,Y,g4⟩
end
section
variable{x:ar}{bk:AV}{p:Nat}{H:List ae}(lo:oN)(ha:At p x bk H)(hx:mQ x)
include ha hx
theorem awW(l:eI x<=2048): ∃j,D XA (.fn (.func JD) [] []) [.ptr p 0] ⟨H,lo⟩=some j/\ud p H lo (ny x x.aa>>=λy=>.ok (y,bX)) j:=by
 refine cy LM λN f=>?_
 have ho:Old p H (.box (aV x bk) none):=⟨ha.box⟩;have c:p<N:=by rw[<-f];exact ho.lt
 obtain⟨j,g1,g2⟩:=akF (bk:=bk) (H:=H++[.box [.int .i64 0,.int .u64 0,.int .u32 0] none]) none ⟨ho.g _,ha.own.ext⟩ hx.s x.aa hx.t l;cases k:ny x x.aa with
 |error e=>
  rw[k]at g2;obtain⟨W,ak,rfl,g,i⟩:=g2;simp only[go_sem,simprocAttr,LM,f,ho.g,↓CL,g1,EP];obtain⟨n,h,f1,f2,f3⟩:=M4 (v:=iW e) (lo:=lo) f c g (i.imp And.left id) (aha _);rw[f1,cV];exact⟨_,_,rfl,f2,f3⟩
 |ok y=>
  rw[k]at g2;obtain⟨m,W,ak,rfl,g2,g,i⟩:=g2;have b:W[N]?=some (.box [.int .i64 0,.int .u64 0,.int .u32 0] none):=g.box N _ (by omega) (λa d e=>by cases e) (by grind);simp only[go_sem,simprocAttr,LM,f,ho.g,↓CL,g1,b,cG b];obtain⟨n,h,f1,f2,f3,f4⟩:=zX (v:=.agg [.int .i64 0,.int .u64 0,.int .u32 0]) (lo:=lo) f c CJ g2 g (i.imp (λq=>⟨q.1,.inl q.2.1,trivial⟩) id) (aha _) b (.box [.int .i64 0,.int .u64 0,.int .u32 0] none);rw[f1,okB];exact⟨_,_,_,rfl,f2,f3,f4⟩
theorem awX(o:eI x<=2048): ∃m,D XA (.fn (.func JE) [] []) [.ptr p 0] ⟨H,lo⟩=some m/\ud p H lo (xo x) m:=by
 refine cy FR λN f=>?_
 have ho:Old p H (.box (aV x bk) none):=⟨ha.box⟩;have g:p<N:=by rw[<-f];exact ho.lt
 have r:xo x=l9 x x.c.a>>=λ_=>ny x x.c.a>>=λy=>.ok (y,bX):=rfl
 have h:=λB lo=>MX (ho.app B) lo x.c.a
 rw[r];by_cases k:x.c.a<8
 ·obtain⟨m,g1,g2⟩:=akF (bk:=bk) (H:=H++[.box [.int .i64 0,.int .u64 0,.int .u32 0] none]) none ⟨ho.g _,ha.own.ext⟩ hx.s x.c.a k o;cases n:ny x x.c.a with
  |error e=>
   rw[n]at g2;obtain⟨W,ak,rfl,i,l⟩:=g2;simp(disch:=omega) only[F1,go_sem,simprocAttr,FR,f,ho.g,↓CL,h,g1,dL,dM,EP];obtain⟨u,j,f1,f2,f3⟩:=M4 (v:=iW e) (lo:=lo) f g i (l.imp And.left id) (aha _);rw[f1]
   (repeat' (first| (refine⟨?_,?_⟩)|intro _))
   ·rename_i b;rw[b,okB,cV];exact⟨_,_,rfl,f2,f3⟩
   ·rename_i s b;rw[b,cV];exact .err
  |ok y=>
   rw[n]at g2;obtain⟨t,W,ak,rfl,g2,i,l⟩:=g2;have c:W[N]?=some (.box [.int .i64 0,.int .u64 0,.int .u32 0] none):=i.box N _ (by omega) (λa d e=>by cases e) (by rw[di f];rfl);simp(disch:=omega) only[F1,go_sem,simprocAttr,FR,f,ho.g,↓CL,h,g1,c,cG c,dL,dM,EP];obtain⟨u,j,f1,f2,f3,f4⟩:=zX (v:=.agg [.int .i64 0,.int .u64 0,.int .u32 0]) (lo:=lo) f g CJ g2 i (l.imp (λq=>⟨q.1,.inl q.2.1,trivial⟩) id) (aha _) c (.box [.int .i64 0,.int .u64 0,.int .u32 0] none);rw[f1]
   (repeat' (first| (refine⟨?_,?_⟩)|intro _))
   ·rename_i b;rw[b,okB,okB];exact⟨_,_,_,rfl,f2,f3,f4⟩
   ·rename_i s b;rw[b,cV];exact .err
 ·rw[xK k]at h;simp only[F1,go_sem,simprocAttr,FR,f,ho.g,↓CL,h,dR,EP];rw[xK k,cV];exact .err
end
def rM:Nat->oN
 |1=>some Jm|2=>some Jn|3=>some Jo|4=>some Jp|5=>some Jq
 |6=>some Jr|7=>some Js|8=>some Jt|9=>some Ju|10=>some Jv
 |11=>some Jw|12=>some Jx|13=>some Jy|14=>some Jz|15=>some Bj
 |16=>some Bj|17=>some JA|18=>some JB|19=>some JC|20=>some JD
 |21=>some JE|22=>some JF|_=>none
def awY{H:List ae}(lo:oN)(d:At p x bk H)(b:mQ x)(j:eI x<=2048){f:Nat}(g:rM x.c.op=some f):
  ∃c,D XA (.fn (.func f) [] []) [.ptr p 0] ⟨H,lo⟩=some c/\ud p H lo (kp x) c:=by
 have ho:Old p H (.box (aV x bk) none):=⟨d.box⟩;have hB: ∀a,x.back.length+64*(under x.s.T a).length<=4294967296:=λa=>by have:=Wd b.s a;omega
 have i:x.back.length<=4294967296:=by have:=hB 0;omega
 have ex: ∀ {f:Nat} {m:R (ar×bE)},(∃c,D XA (.fn (.func f) [] []) [.ptr p 0] ⟨H,lo⟩=some c/\a0 x.back bk p H lo m c)-> ∃c,D XA (.fn (.func f) [] []) [.ptr p 0] ⟨H,lo⟩=some c/\ud p H lo m c:=λh=>by
  obtain⟨c,l,k⟩:=h;exact⟨c,l,k.c d⟩
 unfold rM at g;unfold kp;split at g<;>(try cases g)<;>(rename_i e;simp only[e])
 ·exact ex (awx ho b)
 ·exact ex (awA ho b)
 ·exact ex (awk ho b)
 ·exact ex (awl ho b)
 ·exact awG lo d b i
 ·exact awF lo d b (hB _)
 ·exact ex (awu ho b)
 ·exact ex (awo ho b)
 ·exact ex (awv ho b)
 ·exact ex (awp ho b)
 ·exact awJ lo d b (hB _)
 ·exact ex (awy ho b)
 ·exact ex (awr ho b)
 ·exact ex (awz ho b)
 ·exact ex (akr ho b)
 ·exact ex (akr ho b)
 ·exact ex (awq ho b)
 ·exact ex (awt ho b)
 ·exact ex (awn ho b)
 ·exact awW lo d b j
 ·exact awX lo d b j
 ·exact ex (aws ho b)
def awZ(h:rM x.c.op=none):kp x= .error 2:=by
 unfold rM at h;unfold kp
 grind
noncomputable def GD:lA->AS->Option aS:=wz XA (D XA) Lw xJ wD w5
def aw0(p:Nat)(H:List ae)(lo:oN):R (ar×bE)->aS->Prop
 |.ok (y,r),a=> ∃b H' ak,a= .ret (.agg (bF r)) ⟨H',ak⟩/\At p y b H'/\bP p H H'/\zW p H H' lo ak
 |.error e,a=> ∃H' ak,a= .ret (.agg (bF {bX with e:=e})) ⟨H',ak⟩/\bP p H H'/\zW p H H' lo ak
def aw1{K:AS->Prop}{H:List ae}(h:K ⟨H,lo⟩):qL XA xJ (.fn (.func A7) [] [.ptr q 0]) [] .ez ⟨H,lo⟩ K:=by
 refine IA (pr:=w8) rfl rfl λn a=>?_
 simp(disch:=omega) only[F1,go_sem,simprocAttr,w8,aj9];exact⟨.inl trivial,.au [],rfl,by trivial⟩
def M6{K:AS->Prop}{H:List ae}{a b c:AV}(e:Nat)(d:H[q]?=some (.box [a,b,c] none))(h:K ⟨H.set q (.box [.int .i64 e,.int .u64 0,.int .u32 0] none),lo⟩):qL XA xJ (.fn (.func A7) [] [.ptr q 0]) [] (iW e) ⟨H,lo⟩ K:=by
 refine IA (pr:=w8) rfl rfl λn f=>?_
 simp only[F1,go_sem,simprocAttr,w8,aka,d,akb];refine⟨.inl trivial,.au [],rfl,?_⟩;rw[afJ (show(AV.au []).refs<=n from aha _),ag8 (by grind)];exact h
def akK{H:List ae}(lo:oN)(J:At p x bk H)(K:bh x.s)(P:jQ x.c)(M:x.run.1<4294967296/\x.run.2<4294967296)(T:x.aa<4294967296)(O:eI x<=2048)
  (o: ∀E,gP XA.fb E .int .cJ (.jb uS) (.int .u8 x.c.op) true=some (match rM x.c.op with|some f=>.au [.fn (.func f) [] [],.bool true]|none=>.au [.cJ,.bool false])):
  ∃G,GD [.ptr p 0] ⟨H,lo⟩=some G/\aw0 p H lo (jn x) G:=by
 refine PR w5 rfl rfl λN g=>?_
 have ho:Old p H (.box (aV x bk) none):=⟨J.box⟩;have m:p<N:=by rw[<-g];exact ho.lt
 have c: ∀b H lo,D XA (.fn (.func cQ) [] []) [.bool b,.int .i64 12] ⟨H,lo⟩=_:=λb=>lv b 12
 by_cases w:x.aa<8
 ·have s: (x.aa:Int)<8:=by omega
  have c0: (x.aa:Int)>=0:=by omega
  have hand:dh .and (.int .i64 (x.aa:Nat)) (.int .i64 7)=some (.int .i64 (x.aa:Nat)):=by
   rcases(show x.aa=0\/x.aa=1\/x.aa=2\/x.aa=3\/x.aa=4\/x.aa=5\/x.aa=6\/x.aa=7 by omega)with h|h|h|h|h|h|h|h<;>rw[h]<;>rfl
  have n: ∀E,cg XA E false 1 (.dg uS)=some (.jb uS):=λE=>rfl
  have i:=λbk=> @VP x bk x.aa w
  cases l:x.s.alive x.aa with
  |false=>
   rw[l]at i;have c: ∀H lo,D XA (.fn (.func cQ) [] []) [.bool false,.int .i64 12] ⟨H,lo⟩=_:=λH lo=>lx (zS 12 H lo)
   simp only[go_sem,simprocAttr,w5,g,j5,j4,ho.g,↓CL,s,c0,hand,↓i,c,iX];refine⟨rfl,?_⟩;rw[og];refine M6 12 (by rw[di g];rfl) ?_;have u:jn x= .error 12:=by
    have: (decide (x.aa<8)&&x.s.alive x.aa)=false:=by rw[l,atO]
    unfold jn;rw[this];rfl
   simp(disch:=omega) only[F1,go_sem,simprocAttr];rw[u];exact⟨_,_,rfl,bP.refl _ _,.inl ⟨rfl,rfl,trivial⟩⟩
  |true=>
   rw[l]at i;have c: ∀H lo,D XA (.fn (.func cQ) [] []) [.bool true,.int .i64 12] ⟨H,lo⟩=_:=λH lo=>lx (Gy 12 H lo)
   have u:jn x=kp x:=by
    have: (decide (x.aa<8)&&x.s.alive x.aa)=true:=by rw[l,ag9 w];rfl
    unfold jn;rw[this];rfl
   rw[u];cases k:rM x.c.op with
   |none=>
    rw[k]at o;have z: ∀H lo,D XA (.fn (.func cQ) [] []) [.bool false,.int .i64 2] ⟨H,lo⟩=_:=λH lo=>lx (zS 2 H lo)
    simp only at o;simp only[go_sem,simprocAttr,w5,g,j5,j4,ho.g,↓CL,s,c0,hand,↓i,c,n,o,z];refine⟨rfl,?_⟩;rw[og];refine M6 2 (by rw[di g];rfl) ?_;simp(disch:=omega) only[F1,go_sem,simprocAttr];rw[awZ k];exact⟨_,_,rfl,bP.refl _ _,.inl ⟨rfl,rfl,trivial⟩⟩
   |some f=>
    rw[k]at o;simp only at o;have z: ∀H lo,D XA (.fn (.func cQ) [] []) [.bool true,.int .i64 2] ⟨H,lo⟩=_:=λH lo=>lx (Gy 2 H lo)
    obtain⟨G,g1,g2⟩:=awY (bk:=bk) (H:=H++[.box [.int .i64 0,.int .u64 0,.int .u32 0] none]) none ⟨ho.g _,J.own.ext⟩ ⟨K,w,P,M⟩ O k;cases I:kp x with
    |error e=>
     rw[I]at g2;obtain⟨W,ak,rfl,t,F⟩:=g2;have j:W[N]?=some (.box [.int .i64 0,.int .u64 0,.int .u32 0] none):=t.box N _ (by omega) (λa d e=>by cases e) (by rw[di g];rfl);simp only[go_sem,simprocAttr,w5,g,j5,j4,ho.g,↓CL,s,c0,hand,↓i,c,n,o,z,g1];refine⟨rfl,?_⟩;rw[og];refine M6 e j ?_;simp only[go_sem,simprocAttr,cG j];have Q:bP p (H++[]) (W.set N (.box [.int .i64 (e:Nat),.int .u64 0,.int .u32 0] none)):=by
      rw[aiH];exact akx g m (V9 (N:=N) t (by omega)) _
     obtain⟨S,A,f1,f2,f3⟩:=M4 (v:=.agg [.int .i64 (e:Nat),.int .u64 0,.int .u32 0]) (lo:=lo) g m Q (F.imp And.left id) (aha _);rw[f1];exact⟨_,_,rfl,f2,f3⟩
    |ok a=>
     rw[I]at g2;obtain⟨y,r⟩:=a;obtain⟨R,W,ak,rfl,g2,t,F⟩:=g2;have j:W[N]?=some (.box [.int .i64 0,.int .u64 0,.int .u32 0] none):=t.box N _ (by omega) (λa d e=>by cases e) (by rw[di g];rfl);simp only[go_sem,simprocAttr,w5,g,j5,j4,ho.g,↓CL,s,c0,hand,↓i,c,n,o,z,g1,j];refine⟨rfl,rfl,?_⟩;rw[DW];refine aw1 ?_;have L:List.drop (bF r).length [AV.int .i64 0,.int .u64 0,.int .u32 0]=[]:=rfl;have B:List.take 3 (bF r)=bF r:=rfl;have C: (bF r).length=3:=rfl;simp only[go_sem,simprocAttr,cG j,B,C];obtain⟨S,A,f1,f2,f3,f4⟩:=zX (v:=.agg (bF r)) (lo:=lo) g m CJ g2 t (F.imp (λq=>⟨q.1,.inl q.2.1,trivial⟩) id) (aha _) j (.box (bF r) none);rw[afJ (show aG (bF r)<=N+1 from aha _),f1];exact⟨_,_,_,rfl,f2,f3,f4⟩
 ·have s: ¬(x.aa:Int)<8:=by omega
  have c0: (x.aa:Int)>=0:=by omega
  have c: ∀H lo,D XA (.fn (.func cQ) [] []) [.bool false,.int .i64 12] ⟨H,lo⟩=_:=λH lo=>lx (zS 12 H lo)
  simp only[go_sem,simprocAttr,w5,g,j5,j4,ho.g,↓CL,s,c0,c,iX];refine⟨rfl,?_⟩;rw[og];refine M6 12 (by rw[di g];rfl) ?_;have u:jn x= .error 12:=by
   have: (decide (x.aa<8)&&x.s.alive x.aa)=false:=by rw[ag7 w];rfl
   unfold jn;rw[this];rfl
  simp(disch:=omega) only[F1,go_sem,simprocAttr];rw[u];exact⟨_,_,rfl,bP.refl _ _,.inl ⟨rfl,rfl,trivial⟩⟩
noncomputable def XB:Ctx:={XA with bU:=λf=>if f=wD then some GD else XA.bU f}
theorem akL:Ext XA XB where
 dg:=rfl
 fb:=rfl
 code:=rfl
 bU:=λf=>by
  by_cases a:f=wD
  ·subst a;exact .inr ⟨rfl,rfl⟩
  ·left;show(if f=wD then some GD else XA.bU f)=XA.bU f
   grind
theorem M7{args:lA}{E:AS}{a:AS}(h:GD args E=some (.ret v a)):D XB (.fn (.func wD) [] []) args E=some (.ret v a):=DV rfl h
def NE{α:Type}(m:R α):Prop:=m≠ .error 0
theorem NE.ok{a:α}:NE (.ok a:R α):=by intro h;cases h
theorem NE.pure{a:α}:NE (Pure.pure a:R α):=by intro h;cases h
def NE.err(a:e≠0):NE (.error e:R α):=by intro h;grind
def NE.bind{m:R α}{f:α->R β}(b:NE m)(c: ∀a,NE (f a)):NE (m>>=f):=by
 cases m with
 |error e=>intro h;cases h;exact b rfl
 |ok a=>exact c a
def NE.ask{b:Bool}(a:e≠0):NE (ask b e):=by
 unfold Go.Proofs.YteplichagkpciaaGreatDoor.ask;split
 ·exact NE.ok
 ·exact NE.err a
def NE.bb:NE (bb e):=by
 unfold Go.Proofs.YteplichagkpciaaGreatDoor.bb;split
 ·exact NE.ok
 ·exact NE.err ‹_›
theorem NE.foldlM{α β:Type}{f:α->β->R α}(h: ∀a b,NE (f a b)): ∀ (l:List β) (a:α),NE (l.foldlM f a)
 | [],_=>NE.pure
 |b::l,a=>NE.bind (h a b) λa=>NE.foldlM h l a
theorem ku{h w:Nat}:NE (fE x h w):=NE.bb
theorem kx{t:Nat}:NE (l9 x t):=NE.ask (by decide)
def ju{h t:Nat}:NE (mM x h t):=by(repeat (first|rfl|exact NE.pure|exact NE.bb|rfl|rfl|rfl|rfl|rfl| (refine NE.bind ?_ λ_=>?_)|rfl|split|rfl))
def ky{h:Nat}{r:dc}:NE (nv x h r):=by(repeat (first|rfl|exact NE.pure|exact NE.bb|rfl|rfl|rfl|rfl|rfl| (refine NE.bind ?_ λ_=>?_)|rfl|split|rfl))
def kz{h:Nat}:NE (vl x h):=by(repeat (first|rfl|exact NE.pure|exact NE.bb|rfl|rfl|rfl|rfl|rfl| (refine NE.bind ?_ λ_=>?_)|rfl|split|rfl))
def kA{h:Nat}:NE (xn x h):=by(repeat (first|rfl|rfl|rfl|exact NE.ask (by decide)|rfl|rfl|rfl|rfl| (refine NE.bind ?_ λ_=>?_)|rfl|split|rfl))
def jv{h t:Nat}:NE (jM x h t):=by unfold jM;(repeat (first|rfl|exact NE.pure|exact NE.bb|rfl|rfl|rfl|rfl|rfl| (refine NE.bind ?_ λ_=>?_)| (refine NE.foldlM (λ_ _=>?_) _ _)|split|dsimp only))
def jR{t:Nat}:NE (ny x t):=by
 have b:= @ju;have a:= @jv;unfold ny;(repeat (first|exact NE.ok|exact NE.pure|exact NE.bb|exact NE.ask (by decide)|exact NE.err (by decide)|exact ku|exact kx|assumption| (refine NE.bind ?_ λ_=>?_)| (refine NE.foldlM (λ_ _=>?_) _ _)|split|dsimp only))
 all_goals first|exact ju|exact jv
def aw2{t:Nat}:NE (rq x t):=by(repeat (first|rfl|exact NE.pure|exact NE.bb|exact NE.ask (by decide)|rfl|rfl|rfl|rfl| (refine NE.bind ?_ λ_=>?_)|rfl|split|rfl))
def aw3(x:ar):NE (p9 x):=by
 unfold p9;(repeat (first|exact NE.ok|exact NE.pure|exact NE.bb|exact NE.ask (by decide)|exact NE.err (by decide)|exact ku|exact kx|assumption| (refine NE.bind ?_ λ_=>?_)| (refine NE.foldlM (λ_ _=>?_) _ _)|split|dsimp only))
 all_goals first|exact ju|exact ky|exact kz|exact kA|exact jv|exact jR
def aw4(x:ar):NE (jL x):=by
 unfold jL;(repeat (first|exact NE.ok|exact NE.pure|exact NE.bb|exact NE.ask (by decide)|exact NE.err (by decide)|exact ku|exact kx|assumption| (refine NE.bind ?_ λ_=>?_)| (refine NE.foldlM (λ_ _=>?_) _ _)|split|dsimp only))
 all_goals first|exact ju|exact ky|exact kz|exact kA|exact jv|exact jR
def aw5(x:ar):NE (sT x):=by
 unfold sT;(repeat (first|exact NE.ok|exact NE.pure|exact NE.bb|exact NE.ask (by decide)|exact NE.err (by decide)|exact ku|exact kx|assumption| (refine NE.bind ?_ λ_=>?_)| (refine NE.foldlM (λ_ _=>?_) _ _)|split|dsimp only))
 all_goals first|exact ju|exact ky|exact kz|exact kA|exact jv|exact jR
def aw6(x:ar):NE (sU x):=by
 unfold sU;(repeat (first|rfl|exact NE.pure|rfl|rfl|rfl|exact ku|exact kx|assumption| (refine NE.bind ?_ λ_=>?_)| (refine NE.foldlM (λ_ _=>?_) _ _)|split|dsimp only))
 all_goals first|exact ju|exact ky|exact kz|exact kA|exact jv|exact jR
def aw7(x:ar):NE (vm x):=by
 unfold vm;(repeat (first|exact NE.ok|exact NE.pure|exact NE.bb|exact NE.ask (by decide)|exact NE.err (by decide)|exact ku|exact kx|assumption| (refine NE.bind ?_ λ_=>?_)| (refine NE.foldlM (λ_ _=>?_) _ _)|split|dsimp only))
 all_goals first|exact ju|exact ky|exact kz|exact kA|exact jv|exact jR
def aw8(x:ar):NE (vo x):=by
 unfold vo;(repeat (first|exact NE.ok|exact NE.pure|exact NE.bb|exact NE.ask (by decide)|exact NE.err (by decide)|exact ku|exact kx|assumption| (refine NE.bind ?_ λ_=>?_)| (refine NE.foldlM (λ_ _=>?_) _ _)|split|dsimp only))
 all_goals first|exact ju|exact ky|exact kz|exact kA|exact jv|exact jR
def aw9(x:ar):NE (vq x):=by
 unfold vq;(repeat (first|exact NE.ok|exact NE.pure|exact NE.bb|exact NE.ask (by decide)|exact NE.err (by decide)|exact ku|exact kx|assumption| (refine NE.bind ?_ λ_=>?_)| (refine NE.foldlM (λ_ _=>?_) _ _)|split|dsimp only))
 all_goals first|exact ju|exact ky|exact kz|exact kA|exact jv|exact jR
def axa(x:ar):NE (sV x):=by
 unfold sV;(repeat (first|rfl|exact NE.pure|exact NE.bb|exact NE.ask (by decide)|exact NE.err (by decide)|exact ku|exact kx|assumption| (refine NE.bind ?_ λ_=>?_)| (refine NE.foldlM (λ_ _=>?_) _ _)|split|dsimp only))
 all_goals first|exact ju|exact ky|exact kz|exact kA|exact jv|exact jR
def axb(x:ar):NE (qb x):=by
 unfold qb;(repeat (first|exact NE.ok|exact NE.pure|exact NE.bb|exact NE.ask (by decide)|exact NE.err (by decide)|exact ku|exact kx|assumption| (refine NE.bind ?_ λ_=>?_)| (refine NE.foldlM (λ_ _=>?_) _ _)|split|dsimp only))
 all_goals first|exact ju|exact ky|exact kz|exact kA|exact jv|exact jR
def axc(x:ar):NE (vu x):=by
 unfold vu;(repeat (first|exact NE.ok|exact NE.pure|exact NE.bb|exact NE.ask (by decide)|exact NE.err (by decide)|exact ku|exact kx|assumption| (refine NE.bind ?_ λ_=>?_)| (refine NE.foldlM (λ_ _=>?_) _ _)|split|dsimp only))
 all_goals first|exact ju|exact ky|exact kz|exact kA|exact jv|exact jR
def axd(x:ar):NE (nw x):=by
 unfold nw;(repeat (first|exact NE.ok|exact NE.pure|exact NE.bb|exact NE.ask (by decide)|exact NE.err (by decide)|exact ku|exact kx|assumption| (refine NE.bind ?_ λ_=>?_)| (refine NE.foldlM (λ_ _=>?_) _ _)|split|dsimp only))
 all_goals first|exact ju|exact ky|exact kz|exact kA|exact jv|exact jR
def axe(x:ar):NE (oB x):=by
 unfold oB;(repeat (first|exact NE.ok|exact NE.pure|exact NE.bb|exact NE.ask (by decide)|exact NE.err (by decide)|exact ku|exact kx|assumption| (refine NE.bind ?_ λ_=>?_)| (refine NE.foldlM (λ_ _=>?_) _ _)|split|dsimp only))
 all_goals first|exact ju|exact ky|exact kz|exact kA|exact jv|exact jR
def axf(x:ar):NE (vx x):=by
 unfold vx;(repeat (first|rfl|exact NE.pure|exact NE.bb|exact NE.ask (by decide)|exact NE.err (by decide)|exact ku|exact kx|assumption| (refine NE.bind ?_ λ_=>?_)| (refine NE.foldlM (λ_ _=>?_) _ _)|split|dsimp only))
 all_goals first|exact ju|exact ky|exact kz|exact kA|exact jv|exact jR
def axg(x:ar):NE (oC x):=by
 unfold oC;(repeat (first|exact NE.ok|exact NE.pure|exact NE.bb|exact NE.ask (by decide)|exact NE.err (by decide)|exact ku|exact kx|assumption| (refine NE.bind ?_ λ_=>?_)| (refine NE.foldlM (λ_ _=>?_) _ _)|split|dsimp only))
 all_goals first|exact ju|exact ky|exact kz|exact kA|exact jv|exact jR
def axh(x:ar):NE (vy x):=by
 unfold vy;(repeat (first|exact NE.ok|exact NE.pure|exact NE.bb|exact NE.ask (by decide)|exact NE.err (by decide)|exact ku|exact kx|assumption| (refine NE.bind ?_ λ_=>?_)| (refine NE.foldlM (λ_ _=>?_) _ _)|split|dsimp only))
 all_goals first|exact ju|exact ky|exact kz|exact kA|exact jv|exact jR
def axi(x:ar):NE (rr x):=by
 unfold rr;(repeat (first|rfl|exact NE.pure|rfl|exact NE.ask (by decide)|rfl|rfl|rfl|rfl| (refine NE.bind ?_ λ_=>?_)| (refine NE.foldlM (λ_ _=>?_) _ _)|split|dsimp only))
 all_goals first|exact ju|exact ky|exact kz|exact kA|exact jv|exact jR
def axj(x:ar):NE (vt x):=by
 unfold vt;(repeat (first|exact NE.ok|exact NE.pure|exact NE.bb|exact NE.ask (by decide)|exact NE.err (by decide)|exact ku|exact kx|assumption| (refine NE.bind ?_ λ_=>?_)| (refine NE.foldlM (λ_ _=>?_) _ _)|split|dsimp only))
 all_goals first|exact ju|exact ky|exact kz|exact kA|exact jv|exact jR
def axk(x:ar):NE (xo x):=by
 unfold xo;(repeat (first|exact NE.ok|exact NE.pure|exact NE.bb|exact NE.ask (by decide)|exact NE.err (by decide)|exact ku|exact kx|assumption| (refine NE.bind ?_ λ_=>?_)| (refine NE.foldlM (λ_ _=>?_) _ _)|split|dsimp only))
 all_goals first|exact ju|exact ky|exact kz|exact kA|exact jv|exact jR
def axl(x:ar):NE (kp x):=by
 unfold kp;split<;>first|exact aw3 x|exact aw4 x|exact aw2|exact aw5 x|exact aw6 x|exact aw7 x|exact aw8 x|exact aw9 x|exact axa x|exact axj x|exact axb x|exact axc x|exact axd x|exact axe x|exact axf x|exact axg x|exact axh x|exact axk x|exact axi x|exact NE.err (by decide)|exact NE.bind jR λ_=>NE.pure
def akM(h:jn x= .error e):e≠0:=by
 intro he;subst he;exact NE.bind (NE.ask (by decide)) (λ_=>axl x) h
def EZ(m:R (ar×bE)):Prop:= ∀a,m= .ok a->a.2.e=0
theorem EZ.ok{a:ar×bE}(h:a.2.e=0):EZ (.ok a):=by intro b c;grind
theorem EZ.pure{a:ar×bE}(h:a.2.e=0):EZ (Pure.pure a:R (ar×bE)):=by intro b c;cases c;exact h
def EZ.err:EZ (.error e):=by intro b a;cases a
def EZ.bind{m:R α}{f:α->R (ar×bE)}(c: ∀a,EZ (f a)):EZ (m>>=f):=by
 cases m with
 |error e=>intro b d;cases d
 |ok a=>exact c a
def axm(x:ar):EZ (p9 x):=by unfold p9;(repeat (first|rfl|exact EZ.pure rfl|rfl|rfl| (refine EZ.bind λ_=>?_)|split|rfl))
def axn(x:ar):EZ (jL x):=by unfold jL;(repeat (first|rfl|exact EZ.pure rfl|rfl|rfl| (refine EZ.bind λ_=>?_)|split|simp))
def axo(x:ar):EZ (sT x):=by(repeat (first|rfl|exact EZ.pure rfl|rfl|rfl| (refine EZ.bind λ_=>?_)|split|rfl))
def axp(x:ar):EZ (sU x):=by(repeat (first|rfl|exact EZ.pure rfl|rfl|rfl| (refine EZ.bind λ_=>?_)|split|rfl))
def axq(x:ar):EZ (vm x):=by(repeat (first|rfl|exact EZ.pure rfl|rfl|rfl| (refine EZ.bind λ_=>?_)|split|rfl))
def axr(x:ar):EZ (vo x):=by(repeat (first|rfl|exact EZ.pure rfl|rfl|rfl| (refine EZ.bind λ_=>?_)|split|rfl))
def axs(x:ar):EZ (vq x):=by(repeat (first|rfl|exact EZ.pure rfl|rfl|rfl| (refine EZ.bind λ_=>?_)|split|rfl))
def axt(x:ar):EZ (sV x):=by(repeat (first|rfl|exact EZ.pure rfl|rfl|rfl| (refine EZ.bind λ_=>?_)|split|rfl))
def axu(x:ar):EZ (qb x):=by(repeat (first|rfl|exact EZ.pure rfl|rfl|rfl| (refine EZ.bind λ_=>?_)|split|rfl))
def axv(x:ar):EZ (vu x):=by(repeat (first|rfl|exact EZ.pure rfl|rfl|rfl| (refine EZ.bind λ_=>?_)|split|rfl))
def axw(x:ar):EZ (nw x):=by(repeat (first|rfl|exact EZ.pure rfl|rfl|rfl| (refine EZ.bind λ_=>?_)|split|simp))
def axx(x:ar):EZ (oB x):=by(repeat (first|rfl|exact EZ.pure rfl|rfl|rfl| (refine EZ.bind λ_=>?_)|split|simp))
def axy(x:ar):EZ (vx x):=by(repeat (first|rfl|exact EZ.pure rfl|rfl|rfl| (refine EZ.bind λ_=>?_)|split|rfl))
def axz(x:ar):EZ (oC x):=by(repeat (first|rfl|exact EZ.pure rfl|rfl|rfl| (refine EZ.bind λ_=>?_)|split|rfl))
def axA(x:ar):EZ (vy x):=by(repeat (first|rfl|exact EZ.pure rfl|rfl|rfl| (refine EZ.bind λ_=>?_)|split|rfl))
def axB(x:ar):EZ (rr x):=by(repeat (first|rfl|exact EZ.pure rfl|rfl|rfl| (refine EZ.bind λ_=>?_)|split|rfl))
def axC(x:ar):EZ (vt x):=by(repeat (first|rfl|exact EZ.pure rfl|rfl|rfl| (refine EZ.bind λ_=>?_)|split|rfl))
def axD(x:ar):EZ (xo x):=by(repeat (first|rfl|exact EZ.pure rfl|rfl|rfl| (refine EZ.bind λ_=>?_)|split|rfl))
def axE{t:Nat}:EZ (rq x t):=by(repeat (first|rfl|exact EZ.pure rfl|rfl|rfl| (refine EZ.bind λ_=>?_)|split|rfl))
def axF(x:ar):EZ (kp x):=by
 unfold kp;split<;>first|exact axm x|exact axn x|exact axE|exact axo x|exact axp x|exact axq x|exact axr x|exact axs x|exact axt x|exact axC x|exact axu x|exact axv x|exact axw x|exact axx x|exact axy x|exact axz x|exact axA x|exact axD x|exact axB x|exact EZ.err|exact EZ.bind λ_=>EZ.pure rfl
theorem Wl(h:jn x= .ok (y,r)):r.e=0:=(show EZ (jn x)from EZ.bind λ_=>axF x) _ h
theorem axG(s:bG)(aa:Nat)(c:cp)(run:aE):dJ s aa c run=match jn ⟨s,aa,c,run,0,false,[]⟩with
  |.ok (y,r)=>(y.s,r,y.back)
  |.error e=>(s,{bX with e:=e},[]):=by
 unfold dJ;cases h:jn ⟨s,aa,c,run,0,false,[]⟩with
 |error e=>rfl
 |ok a=>exact afJ (Wl h)
def akN{t:Nat}:aH (aV x bk) 952 [.int .i64 t]=aV {x with aa:=t} bk:=by rw[Cy (by omega)];rfl
def akO{c:cp}:aH (aV x bk) 953 (bf c)=aV {x with c:=c} bk:=by rw[Cy (by omega)];rfl
def akP{r:aE}:aH (aV x bk) 959 (ay r)=aV {x with run:=r} bk:=by rw[Cy (by omega)];rfl
theorem akQ{s:bG}:bz s++List.drop 952 J5=aV ⟨s,0,nz,(0,0),0,false,[]⟩ .ai:=rfl
def akR:J5.length=964:=by decide
def Wm:pE.length=952:=by decide
theorem akS:List.drop 952 pE=[]:=al6 (by rw[Wm];omega)
theorem M8{s:bG}:List.take 952 (bz s)=bz s:=ag8 (by rw[eU];omega)
theorem Wn{s:bG}:List.drop 952 (bz s)=[]:=by rfl
theorem GF{c:cp}: (bf c).length=6:=rfl
theorem M9{c:cp}:List.take 6 (bf c)=bf c:=rfl
theorem xL:List.take 3 (bF r)=bF r:=rfl
theorem ue: (bF r).length=3:=rfl
def DZ:=gG @akN<|gG @akO<|gG @akP<|gG @akQ<|gG @akR<|gG @Wm<|gG @akS<|gG @M8<|gG @Wn<|gG @GF<|gG @M9<|gG @xL<|gG @ue<|gG @eU @MQ
def Wo(s:bG)(S:bh s)(aa:Nat)(R:aa<4294967296)(c:cp)(V:jQ c)(run:aE)(T:run.1<4294967296/\run.2<4294967296)
  (Y: ∀E,gP XA.fb E .int .cJ (.jb uS) (.int .u8 c.op) true=some (match rM c.op with|some f=>.au [.fn (.func f) [] [],.bool true]|none=>.au [.cJ,.bool false])) (H:List ae) (lo:oN):
  ∃v,D XB (.fn (.func A5) [] []) [.agg (bz s),.int .i64 aa,.agg (bf c),.agg (ay run)] ⟨H,lo⟩=some (.ret (.au [.agg (bz (dJ s aa c run).1),.agg (bF (dJ s aa c run).2.1),v]) ⟨H,lo⟩)/\Rv v 2 ((dJ s aa c run).2.2.map ay):=by
 suffices j: ∃u,D XB (.fn (.func A5) [] []) [.agg (bz s),.int .i64 aa,.agg (bf c),.agg (ay run)] ⟨H,lo⟩=some u/\ (λu=> ∃v,u=aS.ret (.au [.agg (bz (dJ s aa c run).1),.agg (bF (dJ s aa c run).2.1),v]) ⟨H,lo⟩/\Rv v 2 ((dJ s aa c run).2.2.map ay)) u by
  obtain⟨u,h1,v,rfl,Z⟩:=j;exact⟨v,h1,Z⟩
 refine cy Fu λN h=>?_
 obtain⟨x,j⟩: ∃x:ar,x=⟨s,aa,c,run,0,false,[]⟩:=⟨_,rfl⟩;obtain⟨L,b⟩: ∃L:List ae,L=[.box (bz s) none,.box (bf c) none,.box (ay run) none,.box pE none,.box [.int .i64 0,.int .u64 0,.int .u32 0] none,.box (aV x .ai) none]:=⟨_,rfl⟩;have K:At (N+5) x .ai (H++L):=⟨by rw[bA h,b];rfl,by rw[j];exact aQ.ai⟩;obtain⟨u,g1,g2⟩:=akK (x:=x) none K (by rw[j];exact S) (by rw[j];exact V) (by rw[j];exact T) (by rw[j];exact R) (by rw[j];unfold eI;have:=nm s.T.b;simp;omega) (by rw[j];exact Y);have m:dJ s aa c run=match jn x with
  |.ok (y,r)=>if r.e=0 then(y.s,r,y.back)else(s,r,[])
  |.error e=>(s,{bX with e:=e},[]):=by rw[j];rfl
 rw[b,j]at g1;have rest: ∀W:List ae,bP (N+5) (H++L) W-> ∀cs bs A B:lA,(∀i,i<N->(((W++[ae.box cs none]).set (N+3) (ae.box A none)).set (N+4) (ae.box B none))[i]?=H[i]?):=by
  intro W g cs bs A B i hi;have U:=g.len;simp at U;rw[aeR (by omega),aeR (by omega),aeT (by omega),g.low i (by omega),aeT (by omega)]
 cases J:jn x with
 |error e=>
  rw[J]at g2 m;obtain⟨W,ak,rfl,g,F⟩:=g2;have g1:=M7 g1;have w0:W[N]?=some (.box (bz s) none):=g.box N _ (by omega) (λa d e=>by cases e) (by rw[di h,b];rfl);have w1:W[N+3]?=some (.box pE none):=g.box (N+3) _ (by omega) (λa d e=>by cases e) (by rw[bA h,b];rfl);have G:W[N+4]?=some (.box [.int .i64 0,.int .u64 0,.int .u32 0] none):=g.box (N+4) _ (by omega) (λa d e=>by cases e) (by rw[bA h,b];rfl);have I:=λL=>bc (L:=L) w0
  have p:=λL=>bc (L:=L) w1
  have n:=λL=>bc (L:=L) G
  have z:=λL o=>cG (o:=o) (p L)
  have w:=λL o o'=>cG (o:=o') ((aeR (by omega:N+3≠N+4)).trans (n L): ((W++L).set (N+3) o)[N+4]?=_)
  have he:=akM J;have k: ¬((e:Nat):Int)=0:=by omega
  obtain⟨M,C⟩: ∃M,W.length=M:=⟨_,rfl⟩;have l: (M !=N+3)=true:=by
   have:=g.len;rw[b]at this;simp at this;simp;omega
  simp(disch:=omega) only[go_sem,simprocAttr,Fu,h,DZ,g1,C,I,p,n,z,w,k,bF,l,auP,zT,ox];rw[iU (dI.le (N:=N+5) ?_ (by omega)) ?_]
  ·rw[m];exact⟨_,da rfl (lr h (rest W g _ [] _ _)),.ai⟩
  ·exact F.elim (λq=>.inl q.1) λq=>.inr ⟨N+5,ahd _,q⟩
  ·simp[AV.refs,aG,ox]
 |ok a=>
  obtain⟨y,r⟩:=a;rw[J]at g2 m;obtain⟨nL,W,ak,rfl,g2,g,F⟩:=g2;have m:dJ s aa c run=if r.e=0 then(y.s,r,y.back)else(s,r,[]):=m
  have g1:=M7 g1;have w0:W[N]?=some (.box (bz s) none):=g.box N _ (by omega) (λa d e=>by cases e) (by rw[di h,b];rfl);have w1:W[N+3]?=some (.box pE none):=g.box (N+3) _ (by omega) (λa d e=>by cases e) (by rw[bA h,b];rfl);have G:W[N+4]?=some (.box [.int .i64 0,.int .u64 0,.int .u32 0] none):=g.box (N+4) _ (by omega) (λa d e=>by cases e) (by rw[bA h,b];rfl);have I:=λL=>bc (L:=L) w0
  have p:=λL=>bc (L:=L) w1
  have n:=λL=>bc (L:=L) G
  have Q:=λL=>bc (L:=L) g2.box
  have z:=λL o=>cG (o:=o) (p L)
  have w:=λL o o'=>cG (o:=o') ((aeR (by omega:N+3≠N+4)).trans (n L): ((W++L).set (N+3) o)[N+4]?=_)
  obtain⟨M,C⟩: ∃M,W.length=M:=⟨_,rfl⟩;have X:N+6<=M:=by
   have:=g.len;rw[b]at this;simp at this;omega
  have l: (M !=N+3)=true:=by simp;omega
  have P: (M !=N+4)=true:=by simp;omega
  by_cases t:r.e=0
  ·rw[afJ t]at m;have k: ((r.e:Nat):Int)=0:=by omega
   simp(disch:=omega) only[go_sem,simprocAttr,Fu,h,DZ,↓CL,g1,C,p,n,z,w,Q,k,bF,l,auP,zT,ox];have O:=aQ.nH (o:=.box (bF r) none) (aQ.nH (o:=.box (bz y.s) none) (aQ.ext (L:=[ae.box (bF r) none]) (aQ.le g2.own (show N<=N+5+1 by omega))) (p _)) ((aeR (by omega:N+3≠N+4)).trans (n _));have er: [AV.int .i64 0,AV.int .u64 (r.v:Nat),AV.int .u32 (r.w:Nat)]=bF r:=by unfold bF;rw[t];rfl
   rw[er];refine⟨by simp,by simp,?_⟩;rw[uM (dI.le (N:=N+5) ?_ (by omega)) (Fz.au (d:=11) (gT.cons ((Fz.low (d:=0) ?_).mono (by omega)) (gT.cons ((Fz.low (d:=0) ?_).mono (by omega)) (gT.cons ((Fz.own (d:=0) O ?_).mono (by omega)) gT.nil))))]
   ·rw[m];refine⟨_,da rfl (lr h (rest W g _ [] _ _)),?_⟩;exact aQ.sh O
   ·exact F.elim (λq=>.inl q.1) λq=>.inr ⟨N+5,ahd _,q⟩
   ·simp[AV.refs,ox]
   ·exact aha _
   ·rw[bD (λx=>rfl)];exact aha _
  ·rw[afB t]at m;have k: ¬((r.e:Nat):Int)=0:=by omega
   simp(disch:=omega) only[go_sem,simprocAttr,Fu,h,DZ,g1,C,I,p,n,z,w,k,bF,l,auP,zT,ox];rw[iU (dI.le (N:=N+5) ?_ (by omega)) ?_]
   ·rw[m];exact⟨_,da rfl (lr h (rest W g _ [] _ _)),.ai⟩
   ·exact F.elim (λq=>.inl q.1) λq=>.inr ⟨N+5,ahd _,q⟩
   ·simp[AV.refs,aG,ox]
theorem lz{args:lA}{E:AS}{r:aS}(h:D X0 v args E=some r):D XB v args E=some r:=xw akL (lx h)
theorem lX{args:lA}{E:AS}{r:aS}(h:D X v args E=some r):D XB v args E=some r:=xw akL (ly h)
def akT{b:Bool}:aH (aV x bk) 962 [.bool b]=aV {x with asks:=b} bk:=by rw[Cy (by omega)];rfl
theorem akU{c:cp}: (bf c)[0]?=some (.int .u8 c.op):=rfl
theorem akV{c:cp}: (bf c)[1]?=some (.int .u32 c.r):=rfl
theorem akW{c:cp}: (bf c)[2]?=some (.int .u32 c.s):=rfl
theorem akX{c:cp}: (bf c)[3]?=some (.int .u32 c.a):=rfl
theorem akY{c:cp}: (bf c)[4]?=some (.int .u32 c.b):=rfl
theorem akZ{c:cp}: (bf c)[5]?=some (.int .u64 c.v):=rfl
def fS:=gG @akU<|gG @akV<|gG @akW<|gG @akX<|gG @akY @akZ
def SL:=gG @UH<|gG @UI<|gG @UJ<|gG @UF @UG
def Wp(s:bG)(t:bh s)(aa:Nat)(p:aa<4294967296)(c:cp)(v:jQ c)
  (w: ∀E,gP XA.fb E .int .cJ (.jb uS) (.int .u8 c.op) true=some (match rM c.op with|some f=>.au [.fn (.func f) [] [],.bool true]|none=>.au [.cJ,.bool false])) (H:List ae) (lo:oN):
  D XB (.fn (.func D4) [] []) [.agg (bz s),.int .i64 aa,.agg (bf c)] ⟨H,lo⟩=some (.ret (.int .i64 (eV s aa c:Nat)) ⟨H,lo⟩):=by
 refine aF Ft λN j=>?_
 obtain⟨x,b⟩: ∃x:ar,x=⟨s,aa,c,(0,0),0,true,[]⟩:=⟨_,rfl⟩;by_cases z:c.op=2
 ·have l: (c.op:Int)=2:=by omega
  obtain⟨L,m⟩: ∃L:List ae,L=[.box (bz s) none,.box (bf c) none,.box (aV x .ai) none]:=⟨_,rfl⟩;have n:At (N+2) x .ai (H++L):=⟨by grind,by rw[b];exact aQ.ai⟩;obtain⟨C,g1,g2⟩:=akK (x:=x) none n (by rw[b];exact t) (by rw[b];exact v) (by rw[b];exact⟨show 0<4294967296 by omega,show 0<4294967296 by omega⟩) (by rw[b];exact p) (by rw[b];unfold eI;have:=nm s.T.b;simp;omega) (by rw[b];exact w);have k:eV s aa c=match jn x with
   |.ok (y,_)=>y.mL
   |.error e=>0:=by rw[b];unfold eV;rw[afB (by omega)];rfl
  rw[m,b]at g1;have rest: ∀W:List ae,bP (N+2) (H++L) W->W.take N=H:=by
   intro W g;refine lr j λi B=>?_
   rw[g.low i (by omega),aeT (by omega)]
  cases h:jn x with
  |error e=>
   rw[h]at g2 k;obtain⟨W,ak,rfl,g,o⟩:=g2;have g1:=M7 g1;have he:=akM h;have d: ¬((e:Nat):Int)=0:=by omega
   simp only[go_sem,simprocAttr,Ft,j,DZ,fS,akT,l,g1,bF,d];rw[iU (dI.le (N:=N+2) (o.elim (λq=>.inl q.1) λq=>.inr ⟨N+2,ahd _,q⟩) (by omega)) (aha _),k,rest W g];rfl
  |ok a=>
   obtain⟨y,r⟩:=a;rw[h]at g2 k;obtain⟨A,W,ak,rfl,g2,g,o⟩:=g2;have g1:=M7 g1;have u:=Wl h;have d: ((r.e:Nat):Int)=0:=by omega
   simp only[go_sem,simprocAttr,Ft,j,DZ,fS,↓CL,akT,l,g1,bF,d,g2.box];rw[iU (dI.le (N:=N+2) (o.elim (λq=>.inl q.1) λq=>.inr ⟨N+2,ahd _,q⟩) (by omega)) (aha _),k,rest W g]
 ·have l: ¬(c.op:Int)=2:=by omega
  simp only[F1,go_sem,simprocAttr,Ft,j,DZ,fS,l];rw[show eV s aa c=0 by unfold eV;rw[afJ z]];rfl
def iY(n:Nat):lA:=[.int .i64 n]
def axH(H:List ae)(lo:oN):D X0 (.fn (.func Je) [] []) [.ai] ⟨H,lo⟩=some (.ret .ai ⟨H,lo⟩):=by
 refine aF FL λN b=>?_
 have a:fX 1 .ai none (some (.int .i64 0)) (some (.int .i64 0))=some .ai:=by rfl
 simp(disch:=omega) only[F1,go_sem,simprocAttr,FL,a]
def axI(id aj n:Nat)(H:List ae)(c:id<H.length)(lo:oN):D X0 (.fn (.func Je) [] []) [.ref id aj 1 0 n false] ⟨H,lo⟩=some (.ret (.ref id aj 1 0 n true) ⟨H,lo⟩):=by
 refine aF FL λN d=>?_
 have b:fX 1 (.ref id aj 1 0 n false) none (some (.int .i64 (n:Nat))) (some (.int .i64 (n:Nat)))=some (.ref id aj 1 0 n true):=by simp[fX,fW,lK,lL]
 have a: ∀E,fj E .sl (.ref id aj 1 0 n false)=some (.int .i64 n):=λE=>rfl
 simp only[go_sem,simprocAttr,FL,b,a];rw[iU (.inl rfl) (by simp only[AV.refs];omega),ag8 (by omega)]
def axJ(s:bG)(Q:bh s)(c:cp)(l:jQ c)(H:List ae)(lo:oN):
  ∃v,D XB (.fn (.func I7) [] []) [.agg (bz s),.agg (bf c)] ⟨H,lo⟩=some (.ret (.au [v,.int .i64 (iO s c).2]) ⟨H,lo⟩)/\Rv v 1 ((iO s c).1.map iY):=by
 suffices W: ∃x,D XB (.fn (.func I7) [] []) [.agg (bz s),.agg (bf c)] ⟨H,lo⟩=some x/\ (λx=> ∃v,x=aS.ret (.au [v,.int .i64 (iO s c).2]) ⟨H,lo⟩/\Rv v 1 ((iO s c).1.map iY)) x by
  obtain⟨x,w,v,rfl,z⟩:=W;exact⟨v,w,z⟩
 refine cy FI λN p=>?_
 have b:=λH lo=>lz (vB s.T Q.T c.r l.r H lo)
 have o:=Q.T.get c.r;simp only[nD]at b;generalize R: (aK s.T c.r).1=r at*;generalize he: (aK s.T c.r).2=e at*;have hb:=l.b;have ha:=l.a;have X:=l.op;have y:=o.len;by_cases Y:e=0
 ·have c0:decide ((e:Int)=0)=true:=ag9 (by omega);by_cases w: (c.op≠3/\c.op≠4)\/c.b<1\/8<c.b
  ·have f:iO s c=([],2):=by unfold iO;rw[he,afB (by omega),afJ w]
   rw[f];simp only[↓arl,↓R1,Zz,go_sem,simprocAttr,FI,p,b,c0,fS,↓SL];refine uI 25 (.bool true) [3,4,5,6] rfl rfl ?_ λf=>?_
   ·simp(disch:=omega) only[R4,↓R1,Zz,go_sem,simprocAttr,fS]
    (repeat' (first|apply And.intro|intro _))
    all_goals(try(refine akG AV.bool (apN.2 ?_);simp[];try(intros;omega)))
    all_goals first|trivial|omega
   ·simp(disch:=omega) only[F1,↓R1,Zz,go_sem,simprocAttr];exact⟨.ai,rfl,.ai⟩
  ·simp only[↓R1,Zz,go_sem,simprocAttr,FI,p,b,c0,fS,↓SL];refine uI 25 (.bool false) [3,4,5,6] rfl rfl ?_ λe1=>?_
   ·simp(disch:=omega) only[R4,↓R1,Zz,go_sem,simprocAttr,fS]
    (repeat' (first|apply And.intro|intro _))
    all_goals(try(refine akG AV.bool (apN.2 ?_);simp[];try(intros;omega)))
    all_goals first|trivial|omega
   ·by_cases z:r.len<c.a+c.b
    ·have O: (r.len:Int)-c.b<c.a:=by omega
     have f:iO s c=([],9):=by unfold iO;rw[he,afB (by omega),afB w,R,afJ z]
     rw[f];simp(disch:=omega) only[F1,↓arl,↓R1,↓MP,Zz,go_sem,simprocAttr,fS,O];exact⟨.ai,rfl,.ai⟩
    ·have O: ¬(r.len:Int)-c.b<c.a:=by omega
     have f:iO s c=((List.range c.b).map λi=>(ko r.runs 0 (c.a+i)).getD 0,0):=by unfold iO;rw[he,afB (by omega),afB w,R,afB z]
     rw[f];simp(disch:=omega) only[↓arl,↓R1,↓MP,Zz,go_sem,simprocAttr,fS,O];obtain⟨B,hB⟩: ∃B:List ae,B=[.box (bz s) none,.box (bf c) none,.box (bS r) none]:=⟨_,rfl⟩;have M: (H++B).length=N+3:=by rw[hB];simp[p]
     rw[<-hB];refine gS c.b (λk e H' ak=>ak=none/\ (H++B)<+:H'/\ (∃v,e 8=v/\aQ (N+3) H' v 1 my ((List.range k).map λi=>iY ((ko r.runs 0 (c.a+i)).getD 0)))/\e 3= .ptr (N+1) 0/\e 6= .ptr (N+2) 0/\e 58= .int .i64 c.b/\e 59= .int .i64 k) 0 (by omega) ?_ ?_
     ·simp only[↓arl,Zz,go_sem,simprocAttr];exact⟨arT,_,rfl,aQ.ai⟩
     rintro k hk e H' ak ⟨rfl,⟨L,rfl⟩,⟨v,S,a⟩,U,T,u,t⟩ n hn;have C: (B++L)[1]?=some (.box (bf c) none):=by rw[hB];rfl
     have A: (B++L)[2]?=some (.box (bS r) none):=by rw[hB];rfl
     simp only[afL]at a;simp only[bR,↓R1,Zz,go_sem,simprocAttr,agw,T,S,u,t];refine⟨λl=>?_,λl=>?_⟩
     ·have J:k<c.b:=by omega
      have m:=λH lo=>lz (auO (eg r.runs) r.len r.runs (ng r.runs) o.rb.1 (c.a+k) (by omega) H lo)
      simp only[MG,apM]at m;have E:List.take 2 (List.drop 2 (bS r))=[eg r.runs,.int .i64 r.len]:=rfl;simp(disch:=omega) only[↓R1,Zz,go_sem,simprocAttr,U,S,C,A,fS,E,m];refine po (H0:=H++B) (ys:=[iY ((ko r.runs 0 (c.a+k)).getD 0)]) a ⟨L,afL _ _ _⟩ M (by omega) (by intro el K;rw[ahe.1 K];rfl) rfl (by rw[ahh,aDn];show(k+1)*8<=room;unfold room;omega) λv' H2 g I=>?_
      simp(disch:=omega) only[↓arl,↓R1,Zz,go_sem,simprocAttr,U,T,u,t];refine⟨J,I,v',rfl,?_⟩
      (try rw[ary]);rw[ahs]
      exact g
     ·obtain rfl:k=c.b:=by omega
      have G:b8 ((List.range c.b).map λi=>iY ((ko r.runs 0 (c.a+i)).getD 0))=0:=bD (λ_=>rfl) _;have F: (H++(B++L)).take N=H:=by rw[<-p];simp
      rw[aDz];rcases a.2 with⟨rfl,q⟩| ⟨id,aj,Z,rfl,P⟩
      ·have h:=λH lo=>lz (axH H lo)
       simp(disch:=omega) only[F1,↓R1,Zz,go_sem,simprocAttr,h];refine⟨.ai,rfl,?_⟩;have V: ((List.range c.b).map λi=>iY ((ko r.runs 0 (c.a+i)).getD 0))=[]:=q;exact(akG (Rv .ai 1) V).mpr .ai
      ·have h:=λn=>lz (axI id aj n (H++(B++L)) (eY P) none)
       simp only[↓R1,Zz,go_sem,simprocAttr,h];rw[uM (.inl rfl) (Fz.au (d:=11) (gT.cons (a':=.sl ((List.range c.b).map λi=>iY ((ko r.runs 0 (c.a+i)).getD 0)) true) (λj=>?_) (gT.cons ((Fz.low (d:=0) (aha _)).mono (by omega)) gT.nil)))]
       ·exact⟨_,da rfl F,Rv.sl a.1⟩
       ·rw[show j+10=(j+6)+4 by omega];exact aj7 (by omega) P (by simp) (by rw[G];omega)
 ·have c0:decide ((e:Int)=0)=false:=ag7 (by omega);have f:iO s c=([],e):=by unfold iO;rw[he,afJ Y]
  rw[f];simp only[F1,↓R1,Zz,go_sem,simprocAttr,FI,p,b,c0,fS,↓SL];exact⟨.ai,rfl,.ai⟩
def fi(l:fh):lA:=[.int .u8 l.has,.int .i64 l.n]++arr 8 λi=>[.int .u8 (l.wait i)]
theorem zZ(l:fh): (fi l).length=10:=rfl
theorem GG(l:fh):aG (fi l)=0:=rfl
def cI(m:Marks):lA:=arr 32 λi=>fi (m i)
theorem dW(m:Marks): (cI m).length=320:=by rfl
theorem jS(m:Marks):aG (cI m)=0:=by rfl
structure hY(l:fh):Prop where
 has:l.has<=8
 n:l.n<=8
 lt: ∀i,l.wait i<8
 inj: ∀i j,i<l.n->j<l.n->l.wait i=l.wait j->i=j
def uf(f:Nat->Nat)(x n:Nat):oN:=(List.range n).find? λi=>decide (f i=x)
def z0(o:oN):Int:=match o with|some i=>i|none=> -1
def axK{x:Nat}(h:uf f x k=none):uf f x (k+1)=if f k=x then some k else none:=by
 unfold uf at*;rw[ary,List.find?_append,h]
 grind
def axL{x:Nat}(h:uf f x k=some j): ∀n,k<=n->uf f x n=some j:=by
 intro n a;obtain⟨m,rfl⟩:=Nat.exists_eq_add_of_le a;unfold uf at*;rw[List.range_add,List.find?_append,h];rfl
def ak0{x:Nat}(h:uf f x n=some i):i<n/\f i=x:=by
 unfold uf at h
 grind
def axM(f:Nat->Nat)(x n M off:Nat)(r:n<2147483648)(H:List ae)(cs:lA)(g:H[M]?=some (.box cs none))(q: ∀i,i<n->cs[off+i]?=some (.int .u8 (f i)))(lo:oN):
  D X0 (.fn (.func Ej) [] []) [.fa M 1 off n,.int .u8 x] ⟨H,lo⟩=some (.ret (.int .i64 (z0 (uf f x n))) ⟨H,lo⟩):=by
 refine aF FM λN u=>?_
 simp only[go_sem,simprocAttr,FM];refine dV n (λk e H'=>H'=H/\uf f x k=none/\e 0= .fa M 1 off n/\e 1= .int .u8 x/\e 7= .int .i64 n/\e 8= .int .i64 k) 0 (by omega) ?_ ?_
 ·trivial
 rintro k s e H' ⟨rfl,d,o,l,j,h⟩ m hm;simp(disch:=omega) only[bR,F1,go_sem,simprocAttr,SM,o,l,j,h];refine⟨λp=>?_,λp=>?_⟩
 ·have b:k<n:=by omega
  have c:=q k b;have t:jY 1 (.fa M 1 off n) (.int .i64 k)=some (.ptr M (off+k)):=by
   rw[PO,afJ ⟨by omega,by omega,rfl⟩];simp
  have hs:=axK d;by_cases e1:f k=x
  ·have a: ((x:Nat):Int)=f k:=by omega
   rw[afJ e1]at hs;simp(disch:=omega) only[F1,go_sem,simprocAttr,g,c,a];rw[axL hs n (by omega)];exact⟨by omega,rfl⟩
  ·have a: ¬((x:Nat):Int)=f k:=by omega
   rw[afB e1]at hs;simp(disch:=omega) only[go_sem,simprocAttr,o,l,j,h,g,c,a];exact⟨by omega,b,hs⟩
 ·obtain rfl:k=n:=by omega
  rw[d];rfl
theorem ak1(n:Nat):IntKind.wrap .u8 (n:Int)=((n % 256:Nat):Int):=by rfl
def ak2(l:fh)(b:hY l)(aa:Nat)(f:aa<4294967296)(H:List ae)(lo:oN):
  D X0 (.fn (.func Jb) [] []) [.agg (fi l),.int .i64 aa] ⟨H,lo⟩=some (.ret (.int .i64 (z0 (ru l aa))) ⟨H,lo⟩):=by
 refine aF SA λN c=>?_
 have g:=b.n;have a:=λlo=>axM l.wait (aa % 256) l.n N 2 (by omega) (H++[.box (fi l) none]) (fi l) (by grind) (λi a=>by
  rcases(show i=0\/i=1\/i=2\/i=3\/i=4\/i=5\/i=6\/i=7 by omega)with h|h|h|h|h|h|h|h<;>subst h<;>rfl) lo
 have hw:=ak1 aa;have e: (fi l)[1]?=some (.int .i64 l.n):=rfl;have d: (0:Int)<=l.n/\ (l.n:Int)<=8:=by omega
 simp only[F1,go_sem,simprocAttr,SA,c,e,hw,a,d];rfl
def ak3(l:fh)(i:Nat):fh:={l with wait:=λj=>if i<=j/\j<7 then l.wait (j+1)else l.wait j}
def axN{X:Ctx}{id off:Nat}{k:IntKind}{a:Int}:qx X n sz (.ptr id off) (some (.int k a)) none=if 0<=a/\a<=n then some (.fa id sz (off+a.toNat*sz) (n-a.toNat))else none:=by
 simp only[qx,fW,lK]
 grind
def axO{H:List ae}{N:Nat}(h:H[N]?=some (.box (fi l) none))(a:i<8):
  rW ⟨H,lo⟩ 1 (.fa N 1 (2+i) (8-i)) (.fa N 1 (2+(i+1)) (7-i))=some (.int .i64 (7-i:Nat),⟨H.set N (.box (fi (ak3 l i)) none),lo⟩):=by
 rcases(show i=0\/i=1\/i=2\/i=3\/i=4\/i=5\/i=6\/i=7 by omega)with q|q|q|q|q|q|q|q<;>subst q<;>
  (simp only[rW,Db,Den.elems,h];rfl)
def axP(a:k<8):aH (fi l) (2+k) [.int .u8 0]=fi {l with wait:=aq l.wait k 0}:=by
 rcases(show k=0\/k=1\/k=2\/k=3\/k=4\/k=5\/k=6\/k=7 by omega)with q|q|q|q|q|q|q|q<;>subst q<;>rfl
def axQ{v:Nat}(a:k<8):aH (fi l) (2+k) [.int .u8 v]=fi {l with wait:=aq l.wait k v}:=by
 rcases(show k=0\/k=1\/k=2\/k=3\/k=4\/k=5\/k=6\/k=7 by omega)with q|q|q|q|q|q|q|q<;>subst q<;>rfl
def ak4(l:fh)(s:hY l)(aa:Nat)(t:aa<4294967296)(H:List ae)(lo:oN):
  D X0 (.fn (.func I4) [] []) [.agg (fi l),.int .i64 aa] ⟨H,lo⟩=some (.ret (.agg (fi (xq l aa))) ⟨H,lo⟩):=by
 refine aF Lp λN r=>?_
 have a:=λH lo=>ak2 l s aa t H lo
 have v:=s.n;have b: ∀l:fh,List.take 10 (fi l)=fi l:=λ_=>rfl
 unfold xq;cases p:ru l aa with
 |none=>
  rw[p]at a;simp only[z0]at a;simp only[F1,go_sem,simprocAttr,Lp,r,a,b,zZ,GG]
 |some i=>
  rw[p]at a;simp only[z0]at a;have u:=(ak0 p).1;have o: ¬((i:Nat):Int)<0:=by omega
  have m: (0:Int)<=i/\ (i:Int)<=8:=by omega
  have k: (0:Int)<=(i:Int)+1/\ (i:Int)+1<=8:=by omega
  have e: ((i:Int)+1).toNat=i+1:=by omega
  have j: ∀l:fh,(fi l)[1]?=some (.int .i64 l.n):=λ_=>rfl
  have f: ∀ (l:fh) (n:Nat),aH (fi l) 1 [.int .i64 n]=fi {l with n:=n}:=λ_ _=>rfl
  have c: (l.n:Int)-1=((l.n-1:Nat):Int):=by omega
  have g:l.n-1<8:=by omega
  have d:=λl:fh=>axP (l:=l) g
  have h: (ak3 l i).n=l.n:=rfl;have q:=λB lo=>axO (H:=H++(.box (fi l) none::B)) (lo:=lo) (N:=N) (l:=l) (by rw[di r];rfl) (show i<8 by omega)
  simp(disch:=omega) only[F1,go_sem,simprocAttr,Lp,r,a,b,zZ,GG,axN,o,m,k,e,q,h,j,f,c,d];exact⟨by omega,by omega,rfl⟩
theorem rN:Den.part true 320 (cI m) 0=some (.agg (cI m)):=F8 (dW m)
theorem xM(h:i<32):Den.part true 10 (cI m) (i*10)=some (.agg (fi (m i))):=ki (k:=10) (o:=0) (f:=λi=>fi (m i)) (λ_=>rfl) h (by omega) (by omega)
theorem vU(h:i<32):Den.part false 1 (cI m) (i*10)=some (.int .u8 (m i).has):=ki (k:=10) (o:=0) (f:=λi=>fi (m i)) (λ_=>rfl) h (by omega) (by omega)
theorem GH(h:i<32):Den.part false 1 (cI m) (i*10+1)=some (.int .i64 (m i).n):=ki (k:=10) (o:=1) (f:=λi=>fi (m i)) (λ_=>rfl) h (by omega) (by omega)
def CM{o:Nat}(h:i<32)(ho:o+vs.length<=10)(a:aH (fi (m i)) o vs=fi l):aH (cI m) (i*10+o) vs=cI (aq m i l):=by
 unfold cI;rw[nf (k:=10) (f:=λi=>fi (m i)) (λ_=>rfl) h ho,a,pT fi]
def Wq(i aa:Nat)(H:List ae)(lo:oN):D X0 (.fn (.func Ee) [] []) [.int .i64 i,.int .i64 aa] ⟨H,lo⟩=some (.ret (.bool (iP i aa)) ⟨H,lo⟩):=by
 refine aF Ln λN d=>?_
 have b: (i:Int)>=0:=by omega
 have c: (aa:Int)>=0:=by omega
 by_cases f:i<32
 ·have a: (i:Int)<32:=by omega
  have e:iP i aa=decide ((aa:Int)<8):=by unfold iP;grind
  rw[e];simp(disch:=omega) only[F1,go_sem,simprocAttr,Ln,b,c,a]
 ·have a: ¬(i:Int)<32:=by omega
  have e:iP i aa=false:=by unfold iP;grind
  rw[e];simp(disch:=omega) only[F1,go_sem,simprocAttr,Ln,b,a]
def ak5(d:hY l)(g:aa<8)(h:ru l aa=none):l.n<8:=by
 have k:=d.n;by_cases e:l.n=8
 ·have p: ∀i,i<8->l.wait i≠aa:=by
    unfold ru at h
    grind
  have j: ((List.range 8).map l.wait++[aa]).Nodup:=by
   rw[List.nodup_append];refine⟨?_,by simp,?_⟩
   ·rw[ayO,aDm];refine auz (λ {a b} c m f he=>f ?_) (ayO.1 (List.nodup_range (n:=8)));exact d.inj a b (by grind) (by grind) he
   grind
  have o:=MW 8 _ j (by
   intro a c;rcases ahb.1 c with c|c
   ·obtain⟨i,_,rfl⟩:=ahk.1 c;exact d.lt i
   ·rw[ahe.1 c];exact g)
  grind
 ·omega
def axR(m:Marks)(C: ∀i,hY (m i))(a aa:Nat)(O:aa<4294967296)(H:List ae)(lo:oN):
  D X0 (.fn (.func QI) [] []) [.agg (cI m),.int .i64 a,.int .i64 aa] ⟨H,lo⟩=some (.ret (.au [.agg (cI (iQ m a aa).1),.bool (iQ m a aa).2]) ⟨H,lo⟩):=by
 refine aF sH λN t=>?_
 have r:qR.length=320:=by decide
 have c:List.drop 320 qR=[]:=al6 (by rw[r];omega);have U:List.take 320 (cI m)=cI m:=ag8 (by rw[dW];omega);have b:=λH lo=>Wq a aa H lo
 have S: ∀m:Marks,(AV.au [.agg (cI m),.bool false]).refs<=N:=λm=>by simp[AV.refs,aG,jS]
 cases p:iP a aa with
 |false=>
  rw[p]at b;have s:iQ m a aa=(m,false):=by unfold iQ;rw[afJ p]
  rw[s];simp only[F1,go_sem,simprocAttr,sH,t,b,↓rN,dW,jS,r,c]
 |true=>
  rw[p]at b;have hs:a<32/\aa<8:=by unfold iP at p;simpa using p
  have K: ¬iP a aa=false:=by rw[p];simp
  obtain⟨hs,V⟩:=hs;have e: (0:Int)<=a/\ (a:Int)<32:=by omega
  have k:=λH lo=>ak2 (m a) (C a) aa O H lo
  have v:=λH lo=>ak4 (m a) (C a) aa O H lo
  have E:a*10+10<=320:=by omega
  have R:=(C a).has;have T:=(C a).n;have F:a*10<=319:=by omega
  by_cases L: (m a).has=aa+1
  ·have d: (((m a).has:Nat):Int)=(aa:Int)+1:=by omega
   have s:iQ m a aa=(m,true):=by unfold iQ;rw[afB K,afJ L]
   rw[s];simp only[F1,go_sem,simprocAttr,sH,t,b,e,k,↓xM hs,↓vU hs,d,↓rN,dW,jS,r,c]
  ·have d:decide ((((m a).has:Nat):Int)=(aa:Int)+1)=false:=ag7 (by omega);have z: ∀ (m:Marks) (l:fh),aH (cI m) (a*10) (fi l)=cI (aq m a l):=λm l=>CM (o:=0) hs (by rw[zZ];omega) rfl
   have y: ∀m:Marks,aH (cI m) (a*10) [.int .u8 ((aa:Int)+1)]=cI (aq m a {m a with has:=aa+1}):=λm=>CM (o:=0) hs (by simp) rfl
   have x: ∀m':Marks,aH (cI m') (a*10+1) [.int .i64 (((m a).n:Int)+1)]=cI (aq m' a {m' a with n:=(m a).n+1}):=λm'=>CM hs (by simp) rfl
   have G:a*10<=318:=by omega
   have P: ∀m:Marks,List.take 320 (cI m)=cI m:=λm=>ag8 (by rw[dW];omega)
   by_cases J: (m a).has=0/\ ((m a).n=0\/ru (m a) aa=some 0)
   ·have s:iQ m a aa=(aq m a {xq (m a) aa with has:=aa+1},true):=by unfold iQ;rw[afB K,afB L,afJ J]
    rw[s];have I:decide ((((m a).has:Nat):Int)=0)=true:=ag9 (by omega);have hw:IntKind.wrap .u8 ((aa:Int)+1)=((aa+1:Nat):Int):=by rw[wrap_u8 (by omega) (by omega)];rfl
    by_cases W: (m a).n=0
    ·have f:decide ((((m a).n:Nat):Int)=0)=true:=ag9 (by omega);simp(disch:=omega) only[F1,go_sem,simprocAttr,sH,t,b,e,k,v,↓xM hs,↓vU hs,↓GH hs,d,I,f,hw,z,y,cT,sI,↓rN,dW,jS,r,c,zZ,GG,E,F]
    ·have f:decide ((((m a).n:Nat):Int)=0)=false:=ag7 (by omega);have M:ru (m a) aa=some 0:=J.2.resolve_left W;rw[M]at k;simp only[z0]at k;simp(disch:=omega) only[F1,go_sem,simprocAttr,sH,t,b,e,k,v,↓xM hs,↓vU hs,↓GH hs,d,I,f,hw,z,y,cT,sI,↓rN,dW,jS,r,c,zZ,GG,E,F]
   ·have X: ∀h:Nat,decide ((h:Int)=0)=decide (h=0):=λh=>aht.2 (by omega)
    cases u:ru (m a) aa with
    |none=>
     have hr:=ak5 (C a) V u;have B: ((m a).n:Int)<8:=by omega
     have A:a*10+2+(m a).n<=319:=by omega
     have s:iQ m a aa=(aq m a {m a with n:=(m a).n+1,wait:=aq (m a).wait (m a).n aa},false):=by unfold iQ;rw[afB K,afB L,afB J,afJ u]
     rw[s];rw[u]at k;simp only[z0]at k;have w: ∀ (m':Marks),(m' a).n=(m a).n->aH (cI m') (a*10+2+(m a).n) [.int .u8 aa]=cI (aq m' a {m' a with wait:=aq (m' a).wait (m a).n aa}):=λm' h=>(akG (λo=>aH (cI m') o _) (anW _ _ _)).trans (CM hs (by simp;omega) (axQ hr))
     by_cases I: (m a).has=0
     ·have g:decide ((((m a).has:Nat):Int)=0)=true:=ag9 (by omega);have f:decide ((((m a).n:Nat):Int)=0)=false:=ag7 (by omega);simp(disch:=omega) only[F1,go_sem,simprocAttr,sH,t,b,e,k,↓xM hs,↓vU hs,↓GH hs,d,g,f,B,A,G,x,w,cT,sI,↓rN,dW,jS,r,c]
     ·have g:decide ((((m a).has:Nat):Int)=0)=false:=ag7 (by omega);simp(disch:=omega) only[F1,go_sem,simprocAttr,sH,t,b,e,k,↓xM hs,↓vU hs,↓GH hs,d,g,B,A,G,x,w,cT,sI,↓rN,dW,jS,r,c]
    |some j=>
     have s:iQ m a aa=(m,false):=by unfold iQ;rw[afB K,afB L,afB J,afB (by rw[u];simp)]
     rw[s];rw[u]at k;simp only[z0]at k;have Q: ¬((j:Nat):Int)<0:=by omega
     by_cases I: (m a).has=0
     ·have g:decide ((((m a).has:Nat):Int)=0)=true:=ag9 (by omega);have f:decide ((((m a).n:Nat):Int)=0)=false:=ag7 (by omega);have M:decide (((j:Nat):Int)=0)=false:=ag7 (λq=>J ⟨I,.inr (by rw[u];congr 1;omega)⟩);simp(disch:=omega) only[F1,go_sem,simprocAttr,sH,t,b,e,k,↓xM hs,↓vU hs,↓GH hs,d,g,f,M,Q,↓rN,dW,jS,r,c]
     ·have g:decide ((((m a).has:Nat):Int)=0)=false:=ag7 (by omega);simp(disch:=omega) only[F1,go_sem,simprocAttr,sH,t,b,e,k,↓xM hs,↓vU hs,d,g,Q,↓rN,dW,jS,r,c]
def Na(m:Marks)(a aa:Nat):Marks:=if iP a aa then aq m a (Ch (m a) aa)else m
def axS(m:Marks)(q: ∀i,hY (m i))(a aa:Nat)(r:aa<4294967296)(H:List ae)(lo:oN):
  D X0 (.fn (.func QE) [] []) [.agg (cI m),.int .i64 a,.int .i64 aa] ⟨H,lo⟩=some (.ret (.agg (cI (Na m a aa))) ⟨H,lo⟩):=by
 refine aF FH λN k=>?_
 have g:qR.length=320:=by rfl
 have d:List.drop 320 qR=[]:=al6 (by omega);have p: ∀m:Marks,List.take 320 (cI m)=cI m:=λm=>ag8 (by rw[dW];omega)
 have b:=λH lo=>Wq a aa H lo
 unfold Na;cases c:iP a aa with
 |false=>
  rw[c]at b;simp only[F1,go_sem,simprocAttr,FH,k,b,↓rN,dW,jS,g,d]
  try rfl
 |true=>
  rw[c]at b;obtain⟨hs,s⟩:a<32/\aa<8:=by unfold iP at c;simpa using c
  have f: (0:Int)<=a/\ (a:Int)<32:=by omega
  have j:a*10<=319:=by omega
  have l:=(q a).has;simp only[aiZ];unfold Ch;by_cases n: (m a).has=aa+1
  ·have e: (((m a).has:Nat):Int)=(aa:Int)+1:=by omega
   have h:aH (cI m) (a*10) [.int .u8 0]=cI (aq m a {m a with has:=0}):=CM (o:=0) hs (by simp) rfl;rw[afJ n];simp only[F1,go_sem,simprocAttr,FH,k,b,f,↓vU hs,e,h,j,↓rN,dW,jS,g,d]
  ·have e: ¬(((m a).has:Nat):Int)=(aa:Int)+1:=by omega
   rw[afB n,mH];simp(disch:=omega) only[F1,go_sem,simprocAttr,FH,k,b,f,↓vU hs,e,↓rN,dW,jS,g,d]
def qk(m:Marks)(aa k:Nat):Marks:=λi=>if i<k then ry m aa i else m i
def axT(m:Marks)(a:aa<8)(b:k<32):qk m aa (k+1)=aq (qk m aa k) k (xq (Ch (m k) aa) aa):=by
 funext i
 unfold qk aq;by_cases e:i=k
 ·subst e;rw[afJ (by omega),afJ rfl];unfold ry;rw[afJ (by unfold iP;grind)]
 grind
def axU(m:Marks)(aa:Nat):qk m aa 32=ry m aa:=by
 funext i
 unfold qk;by_cases h:i<32
 ·grind
 ·rw[afB h];unfold ry;rw[afB (by unfold iP;grind)]
def axV(m:Marks)(k:Nat)(a: ¬aa<8):qk m aa k=m:=by
 funext i
 unfold qk ry;split
 ·rw[afB (by unfold iP;grind)]
 ·rfl
def ak6(h:hY l)(aa:Nat):hY (Ch l aa):=by
 unfold Ch;split
 ·exact⟨by simp,h.n,h.lt,h.inj⟩
 omega
def axW(h:hY l)(n:i<l.n):hY (UX l i):=by
 have m:=h.n;have f:=h.lt;unfold UX;refine⟨h.has,by grind,λj=>?_,λa b k g c=>?_⟩
 ·show(if j=l.n-1 then 0 else if i<=j/\j<7 then l.wait (j+1)else l.wait j)<8
  grind
 ·have e:a<l.n-1:=k;have d:b<l.n-1:=g;simp only[aq,afB (show a≠l.n-1 by omega),afB (show b≠l.n-1 by omega)]at c;have key: ∀j,j<l.n-1->(if i<=j/\j<7 then l.wait (j+1)else l.wait j)=l.wait (if i<=j then j+1 else j):=by grind
  rw[key a e,key b d]at c;have:=h.inj _ _ (by grind) (by grind) c
  grind
def ak7(h:hY l)(aa:Nat):hY (xq l aa):=by
 unfold xq;split
 ·exact h
 ·rename_i i a;exact axW h (ak0 a).1
def Wr(a: ∀i,hY (m i))(aa:Nat): ∀i,hY (ry m aa i):=by
 intro i;unfold ry;split
 ·exact ak7 (ak6 (a i) aa) aa
 grind
def axX(a: ∀i,hY (m i))(aa k:Nat): ∀i,hY (qk m aa k i):=by
 intro i;unfold qk;split
 ·exact Wr a aa i
 grind
def axY(g: ∀i,hY (m i))(c:Nat): ∀i,hY ((iQ m c aa).1 i):=by
 unfold iQ;split
 ·omega
 rename_i h;obtain⟨hs,p⟩:c<32/\aa<8:=by unfold iP at h;grind
 split
 ·omega
 split
 ·intro i;show hY (aq _ _ _ _);unfold aq;split
  ·have:=ak7 (g c) aa;exact⟨by show aa+1<=8;omega,this.n,this.lt,this.inj⟩
  grind
 split
 ·rename_i f;intro i;show hY (aq _ _ _ _);unfold aq;split
  ·have hr:=ak5 (g c) p f;have k:=g c;have e: ∀j,j< (m c).n->(m c).wait j≠aa:=by
    intro j q he;unfold ru at f;rw[aC5]at f;have:=f j (aq9.2 q);simp at this;omega
   refine⟨k.has,by show(m c).n+1<=8;omega,λj=>?_,λa b u s l=>?_⟩
   ·show(if j=(m c).n then aa else(m c).wait j)<8;split
    ·exact p
    ·exact k.lt j
   ·have t:a< (m c).n+1:=u;have r:b< (m c).n+1:=s;have d: (if a=(m c).n then aa else(m c).wait a)=(if b=(m c).n then aa else(m c).wait b):=l;by_cases o:a=(m c).n<;>by_cases n:b=(m c).n
    ·omega
    ·rw[afJ o,afB n]at d;exact absurd d.symm (e b (by omega))
    ·rw[afB o,afJ n]at d;exact absurd d (e a (by omega))
    ·rw[afB o,afB n]at d;exact k.inj a b (by omega) (by omega) d
  ·exact g i
 omega
def axZ(m:Marks)(z: ∀i,hY (m i))(aa:Nat)(y:aa<4294967296)(H:List ae)(lo:oN):
  D X0 (.fn (.func QA) [] []) [.agg (cI m),.int .i64 aa] ⟨H,lo⟩=some (.ret (.agg (cI (ry m aa))) ⟨H,lo⟩):=by
 refine aF Sn λN C=>?_
 have x:qR.length=320:=by rfl
 have j:List.drop 320 qR=[]:=al6 (by rw[x];omega);have f: ∀m:Marks,List.take 320 (cI m)=cI m:=λm=>ag8 (by rw[dW];omega)
 have g: ∀m:Marks,List.drop 320 (cI m)=[]:=λm=>al6 (by rw[dW];omega)
 simp only[go_sem,simprocAttr,Sn,C];refine dV 32 (λk e H'=>H'=H++[.box (cI (qk m aa k)) none,.box qR none]/\e 1= .int .i64 aa/\e 2= .ptr N 0/\e 4= .ptr (N+1) 0/\e 6= .int .i64 k) 0 (by omega) ?_ ?_
 ·simp only[go_sem,simprocAttr];rfl
 rintro k F e H' ⟨rfl,w,v,u,t⟩ n E;simp(disch:=omega) only[bR,go_sem,simprocAttr,agt,w,v,u,t];refine⟨λB=>?_,λB=>?_⟩
 ·have d:k<32:=by omega
  have h: (0:Int)<=k/\ (k:Int)<32:=by omega
  have r:k*10+10<=320:=by omega
  have a:=λH lo=>axS _ (axX z aa k) k aa y H lo
  have b:=λH lo=>Wq k aa H lo
  have s:qk m aa k k=m k:=by unfold qk;rw[afB (by omega)]
  by_cases A:aa<8
  ·have c:iP k aa=true:=by unfold iP;simp;omega
   have hs:=axT m A d;unfold Na at a;rw[c,s,afJ rfl]at a;rw[c]at b;have p:=λH lo=>ak4 _ (ak6 (z k) aa) aa y H lo
   have q: ∀ (m:Marks) (l:fh),aH (cI m) (k*10) (fi l)=cI (aq m k l):=λm l=>CM (o:=0) d (by rw[zZ];omega) rfl
   simp(disch:=omega) only[go_sem,simprocAttr,w,v,u,t,b,a,h,r,↓xM d,p,q,cT,sI,dW,jS,zZ,GG,f,g,aiH];rw[hs];exact⟨d,rfl⟩
  ·have c:iP k aa=false:=by unfold iP;simp;omega
   unfold Na at a;rw[c,afB (by simp)]at a;rw[c]at b;simp only[axV m _ A]at a⊢;simp(disch:=omega) only[go_sem,simprocAttr,w,v,u,t,b,a,h,dW,jS,f,g,aiH];exact d
 ·obtain rfl:k=32:=by omega
  rw[axU];simp(disch:=omega) only[F1,go_sem,simprocAttr,dW,jS,x,j,f]
noncomputable def GJ:lA->AS->Option aS:=oh XB (D XB) Lw pA Lu
def CN(args:lA)(E:AS):Option aS:=match args with
 | [.ai,.int .i64 n]=>if n=0 then some (.ret .ai E)else if 0<n/\n<=1024 then some (.ret (.ref E.heap.length 0 2 0 0 false) (E.push (.row 0 2 fg [])))else none
 |_=>none
noncomputable def XC:Ctx:={XB with bU:=λf=>if f=pA then some GJ else if f=qQ then some CN else XB.bU f}
theorem ak8:Ext XB XC where
 dg:=rfl
 fb:=rfl
 code:=rfl
 bU:=λf=>by
  by_cases b:f=pA
  ·subst b;exact .inr ⟨rfl,rfl⟩
  ·by_cases a:f=qQ
   ·subst a;exact .inr ⟨rfl,rfl⟩
   ·left;show(if f=pA then some GJ else if f=qQ then some CN else XB.bU f)=XB.bU f
    grind
section
variable{v:AV}{args:lA}{E:AS}{r:aS}
theorem cB(h:D XB v args E=some r):D XC v args E=some r:=xw ak8 h
theorem c0(h:D X0 v args E=some r):D XC v args E=some r:=xw ak8 (lz h)
end
def ax0{X:Ctx}{f:FuncId}{p:lA->AS->Option aS}{args a:lA}{E:AS}{b:aS}(c:X.bU f=some p)(h:p (args++a) E=some b):D X (.fn (.func f) [] a) args E=some b:=by
 refine HZ ?_;simp only[Go.Den.step,c,aj8];exact h
def Ws{s:bG}(f:bh s){c:cp}(l:jQ c){b:Nat}{H:List ae}(n:H[a]?=some (.box (bz s) none))(m:H[b]?=some (.box (bf c) none))(N:Nat)(o:H.length=N)(lo:oN):
  ∃v J ak,D XC (.fn (.func pA) [] [.ptr a 0,.ptr b 0]) [] ⟨H,lo⟩=some (.ret v ⟨H++J,ak⟩)/\aQ N (H++J) v 1 bZ ((under s.T c.r).map hC)/\ (ak=lo\/ ∃j,N<=j/\ak=cA lo j):=by
 suffices i: ∃d,GJ [.ptr a 0,.ptr b 0] ⟨H,lo⟩=some d/\ (λd=> ∃v J ak,d=aS.ret v ⟨H++J,ak⟩/\aQ N (H++J) v 1 bZ ((under s.T c.r).map hC)/\ (ak=lo\/ ∃j,N<=j/\ak=cA lo j)) d by
  obtain⟨d,t,v,J,ak,rfl,q⟩:=i;exact⟨v,J,ak,ax0 (p:=GJ) rfl t,q⟩
 refine wB (X:=XB) Lu rfl λM u=>?_
 obtain⟨v,J,ak,e,h,g⟩:=MA s.T f.T f.tr c.r l.r N H o none;have e:=lX e;simp only[go_sem,simprocAttr,Lu,n,m,↓SL,fS,e,sk];refine⟨_,_,_,rfl,h,?_⟩;rcases g with rfl| ⟨j,k,rfl⟩
 ·exact .inl rfl
 ·exact .inr ⟨j,k,rfl⟩
def ax1(n:Nat)(c:n<=1024)(H:List ae)(lo:oN):
  D XC (.fn (.func qQ) [] []) [.ai,.int .i64 n] ⟨H,lo⟩=some (.ret (if n=0 then .ai else .ref H.length 0 2 0 0 false) ⟨H++(if n=0 then[]else[.row 0 2 fg []]),lo⟩):=by
 refine DV (p:=CN) rfl ?_;unfold CN;by_cases h:n=0
 ·grind
 ·have b: ¬((n:Nat):Int)=0:=by omega
  have a: (0:Int)<n/\ (n:Int)<=1024:=by omega
  simp only[afB h,afB b,afJ a];rfl
abbrev VR:=AV×List aE
def fx(l:List VR):List aE:=l.flatMap (·.2)
def z5(x:VR):lA:=[x.1]
def Nb{l:List VR}(h:k<l.length):fx (l.take (k+1))=fx (l.take k)++(l.getD k default).2:=by
 unfold fx;rw[aiV,apR,ahm,ag6 h];simp
def ax2{N:Nat}{H:List ae}{bytes:Nat}{ty:TypeId}(h:aQ N H v sz ty af)(a:0<sz)(d:af.length*bytes<=room):dx ⟨H,lo⟩ ty sz bytes v []=some (v,⟨H,lo⟩):=by
 unfold dx;rw[afJ ⟨a,rfl⟩];rcases h.2 with⟨rfl,_⟩| ⟨id,aj,c,rfl,b⟩
 ·rfl
 grind
def ax3(l:List VR)(hl:l.length<=3)(Q: ∀x∈l,x.2.length<=64)(H:List ae)(S: ∀x∈l,Rd ⟨H,none⟩ x.1 2 (x.2.map ay))(lo:oN):
  D XC (.fn (.func QU) [] []) [.sl (l.map z5) true] ⟨H,lo⟩=some (.ret (eg (fx l)) ⟨H,lo⟩):=by
 refine aF SQ λN Y=>?_
 have s:Rv (.sl (l.map z5) true) 1 (l.map z5):=.sl (by intro el d;obtain⟨x,_,rfl⟩:=ahk.1 d;rfl);have y: ∀k,(fx (l.take k)).length<=64*k:=by
  intro k
  induction k with
  |zero=>simp[fx]
  |succ k ih=>
   by_cases h:k<l.length
   ·rw[Nb h,ahc];have:=Q _ (eX h);omega
   ·rw[ag8 (by omega)];rw[ag8 (by omega)]at ih;omega
 generalize(AV.sl (l.map z5) true)=V at*;simp only[go_sem,simprocAttr,SQ,s.bL];refine dV l.length (λk e H'=>H'=H/\e 0=V/\e 3= .int .i64 (fx (l.take k)).length/\e 9=V/\e 10= .int .i64 l.length/\e 11= .int .i64 k) 0 (by omega) ?_ ?_
 ·simp only[go_sem,simprocAttr];rfl
 rintro k hk e H' ⟨rfl,h0,O,Z,B,A⟩ n hn;simp only[bR,go_sem,simprocAttr,agB,O,Z,B,A];refine⟨λK=>?_,λK=>?_⟩
 ·have a:k<l.length:=by omega
  have j:=(S _ (eX a)).bL;have w:=y (k+1);have X:=y k;rw[Nb a,ahc]at w;have u: ((fx (l.take k)).length:Int)+(l.getD k default).2.length=((fx (l.take (k+1))).length:Nat):=by rw[Nb a,ahc];omega
  have I: ¬(((fx (l.take (k+1))).length:Nat):Int)<0:=by omega
  have g: (z5 (l.getD k default))[0]?=some (l.getD k default).1:=rfl;have U:=y (k+1);simp(disch:=omega) only[go_sem,simprocAttr,h0,O,Z,B,A,s.ck,s.cD,g,j,u,I];exact⟨by omega,a⟩
 ·obtain rfl:k=l.length:=by omega
  have c:fx (l.take l.length)=fx l:=by rw[ahn]
  rw[c]at O;have M:=ax1 (fx l).length (by have:=y l.length;rw[c]at this;omega);simp only[go_sem,simprocAttr,c,h0,M,s.bL];obtain⟨v0,t⟩: ∃v0,v0=(if(fx l).length=0 then .ai else AV.ref H'.length 0 2 0 0 false):=⟨_,rfl⟩;obtain⟨C,z⟩: ∃C,C=H'++(if(fx l).length=0 then[]else[ae.row 0 2 fg []]):=⟨_,rfl⟩;rw[<-t,<-z];have F:aQ N C v0 2 fg ([].map ay)/\ ((fx l).length=0->v0= .ai)/\H'<+:C:=by
   rw[t,z];by_cases h: (fx l).length=0
   ·rw[afJ h,afJ h];exact⟨aQ.ai,λ_=>rfl,by simp⟩
   ·rw[afB h,afB h];exact⟨⟨by simp,.inr ⟨H'.length,0,by omega,rfl,by simp⟩⟩,λq=>absurd q h,ar2 _ _⟩
  refine dV l.length (λk e W=>(∃v,e 6=v/\aQ N W v 2 fg ((fx (l.take k)).map ay)/\ ((fx l).length=0->v= .ai))/\H'<+:W/\e 25=V/\e 26= .int .i64 l.length/\e 27= .int .i64 k) 0 (by omega) ?_ ?_
  ·simp only[go_sem,simprocAttr];exact⟨⟨_,rfl,F.1,F.2.1⟩,F.2.2⟩
  rintro k hk e W ⟨⟨v,h6,r,f⟩,b,p,o,m⟩ n hn;simp only[bR,F1,go_sem,simprocAttr,agA,h6,p,o,m];refine⟨λK=>?_,λK=>?_⟩
  ·have a:k<l.length:=by omega
   have j:=Rd.mono (ak:=none) (S _ (eX a)) b;have g: (z5 (l.getD k default))[0]?=some (l.getD k default).1:=rfl;have d:=j.eq;have w:=y k;have hzk:=Q _ (eX a);have hs:=Nb a;simp(disch:=omega) only[go_sem,simprocAttr,h6,s.ck,s.cD,g,d];generalize AT: (l.getD k default).2=P at*;by_cases R:P=[]
   ·subst R;rw[aiH]at hs;rw[azp,ax2 r (by omega) (by rw[ahh];unfold room;omega)];simp(disch:=omega) only[go_sem,simprocAttr,p,o,m];rw[hs];exact⟨by omega,a,⟨v,rfl,r,f⟩,b⟩
   ·have J: ¬(fx l).length=0:=by
      intro q;have q2:fx l=[]:=amK.1 q;have:fx l=fx (l.take (k+1))++fx (l.drop (k+1)):=by
       unfold fx;rw[<-apR,aqj]
      rw[hs]at this;rw[q2]at this;simp[R]at this
    refine⟨by omega,?_⟩;refine po (bytes:=16) (ys:=P.map ay) r b Y (by omega) (by intro el d;obtain⟨x,_,rfl⟩:=ahk.1 d;rfl) (bD (λ_=>rfl) _) (by rw[ahh,ahh];unfold room;omega) λv' W2 E G=>?_
    simp(disch:=omega) only[go_sem,simprocAttr,p,o,m];rw[hs,ahs];exact⟨a,⟨v',rfl,E,λq=>absurd q J⟩,G⟩
  ·obtain rfl:k=l.length:=by omega
   rw[c]at r;have T:=r.PM (lo:=lo) (by rw[bD (λ_=>rfl)];omega);rw[AM]at T;rw[T];refine da ?_ (lr Y λi hi=>?_)
   ·unfold eg;by_cases h: (fx l).length=0
    ·rw[f h,amK.1 h];rfl
    ·have h1: (fx l).isEmpty=false:=by
       cases hq:fx l with
       |nil=>rw[hq]at h;exact absurd rfl h
       |cons=>rfl
     rw[h1];rcases r.2 with⟨_,q⟩| ⟨id,aj,_,rfl,_⟩
     ·rw[arX]at q;rw[q]at h;exact absurd rfl h
     ·rfl
   ·obtain⟨L,rfl⟩:=b;rw[aeT (by omega)]
def ax4(x y:aE)(c:x.1+x.2<4294967296)(b:y.1+y.2<4294967296)(p:Nat)(H:List ae)(lo:oN)(d:H[p]?=some (.box (ay x) none)):
  D X0 (.fn (.func Jg) [] [.ptr p 0]) [.agg (ay y)] ⟨H,lo⟩=some (.ret (.bool (holds y x)) ⟨H,lo⟩):=by
 refine eP SP λN e=>?_
 have a: ∀L,(H++L)[p]?=some (.box (ay x) none):=λL=>bc d
 simp only[F1,go_sem,simprocAttr,SP,e,a,aiu y x b c]
def ax5{l:List aE}(b:Rv v 2 (l.map ay))(d:l≠[]): ∃c,v= .sl (l.map ay) c:=by
 obtain⟨e,a,f⟩:=b ⟨[],none⟩;cases v<;>simp only[]at e
 ·simp only[Den.elems]at a;simp_all
 ·simp only[Den.elems]at a
  grind
 ·trivial
def ax6(b: ∀el∈af,el.length=sz){c:Bool}(f:i<=af.length): ∃w,fX sz (.sl af c) none (some (.int .i64 i)) none=some w/\Rv w sz (af.take i):=by
 refine⟨.sl (af.take i) (c&&i==af.length),?_,.sl λel a=>b el (al8 a)⟩;have d:fW af.length none (some (.int .i64 i))=some (0,i):=by
  have e: (i:Int)<=af.length:=by omega
  simp[fW,lK,e]
 simp only[fX,d,lL]
 grind
def ak9(b: ∀el∈af,el.length=sz){c:Bool}(g:i<=af.length): ∃w,fX sz (.sl af c) (some (.int .i64 i)) none none=some w/\Rv w sz (af.drop i):=by
 refine⟨.sl (af.drop i) (c&&af.length==af.length),?_,.sl λel a=>b el (arc a)⟩;have d:fW af.length (some (.int .i64 i)) none=some (i,af.length):=by
  have f: (i:Int)<=af.length:=by omega
  simp[fW,lK,f]
 have e:af.all (λel=>el.length==sz)=true:=by grind
 simp only[fX,d,lL];rw[afJ e,ag8 (by simp)]
def ala(l:List aE): ∀el∈l.map ay,el.length=2:=by intro el a;obtain⟨x,_,rfl⟩:=ahk.1 a;rfl
def Wt(v:AV)(l:List aE)(x:aE):AV:=match rA l x with
 |some a=>.au [.agg [eg a],.bool true]
 |none=>.au [.agg [v],.bool false]
def oP{E:AS}(h:Rd E v sz af):v.cb=false/\v.cells=[v]:=by
 have a:=h.kind;cases v<;>simp only[]at a<;>exact⟨rfl,rfl⟩
def ax7(v:AV)(l:List aE)(E:Rv v 2 (l.map ay))(G:zL l)(x:aE)(U6:x.1<4294967296)(U7:x.2<4294967296)(H:List ae)(lo:oN):
  D XC (.fn (.func QP) [] []) [.agg [v],.int .i64 (x.1:Nat),.int .i64 (x.2:Nat)] ⟨H,lo⟩=some (.ret (Wt v l x) ⟨H,lo⟩):=by
 refine aF FK λN p=>?_
 have hm:=λH lo=>c0 (U2 x U6 U7 H lo)
 have hr:ay x=[.int .i64 (x.1:Nat),.int .i64 (x.2:Nat)]:=rfl;rw[hr]at hm;have F:v.refs=0:=cO E (bD (λ_=>rfl) l);unfold Wt;cases f:lk x with
 |false=>
  have e0:rA l x=none:=by unfold rA;rw[afJ f]
  rw[e0];rw[f]at hm;simp only[F1,go_sem,simprocAttr,FK,p,hm,F]
 |true=>
  rw[f]at hm;have hx:1<=x.2/\x.1+x.2<=64:=by simpa[lk]using f
  have d:=λH lo h=>c0 (aip v (.fn (.func Jg) [] [.ptr (N+2) 0]) l E (by have:=G.1;omega) (λy=>holds y x) H lo h)
  have d:=d (H++[.box [v] none,.box [.ai] none,.box (ay x) none]) none (λy Z=>ax4 x y (by omega) (by have:=G.2 y Z;omega) (N+2) _ none (by rw[bA p];rfl));rw[hr]at d;have e1:rA l x=match l.findIdx? λy=>holds y x with
   |none=>none
   |some i=>some (l.take i++((if(l.getD i (0,0)).1<x.1 then[((l.getD i (0,0)).1,x.1- (l.getD i (0,0)).1)]else[])++(if x.1+x.2< (l.getD i (0,0)).1+(l.getD i (0,0)).2 then[(x.1+x.2,(l.getD i (0,0)).1+(l.getD i (0,0)).2- (x.1+x.2))]else[]))++l.drop (i+1)):=by
   unfold rA;rw[afB (by rw[f];simp)];rfl
  rw[e1];unfold fR at d;cases hi:l.findIdx? (λy=>holds y x)with
  |none=>
   rw[hi]at d;simp only at d;simp only[F1,go_sem,simprocAttr,FK,p,hm,d,F]
  |some i=>
   rw[hi]at d;simp only at d⊢;have I:i<l.length:=by
    obtain⟨h,_⟩:=arb.1 hi;exact h
   have hi0: ¬((i:Nat):Int)<0:=by omega
   have IF:=G.1;have hrv:=λl=>cO (ng l) (bD (g:=ay) (λ_=>rfl) l)
   have ij:l.getD i (0,0)=l.getD i default:=rfl;rw[ij];have hyb:=G.2 _ (eX I);have aD4:=E.ck (k:=.i64) (a:=i);obtain⟨c,hvc⟩:=ax5 E (by rintro rfl;simp at I);obtain⟨w1,s1,U⟩:=ax6 (c:=c) (ala l) (i:=i) (by rw[ahh];omega);obtain⟨R,s2,T⟩:=ak9 (c:=c) (ala l) (i:=i+1) (by rw[ahh];omega);rw[<-hvc]at s1 s2;rw[<-List.map_take]at U;rw[<-List.map_drop]at T;generalize Z:l.getD i default=y at*;obtain⟨B,hB⟩: ∃B:List ae,B=[.box [v] none,.box [.ai] none,.box (ay x) none,.box (ay y) none]:=⟨_,rfl⟩;have O: (H++B).length=N+4:=by rw[hB];simp[p]
   have j7: ∀W,(H++B)<+:W->W[N]?=some (.box [v] none)/\W[N+1]?=some (.box [.ai] none)/\W[N+2]?=some (.box (ay x) none)/\W[N+3]?=some (.box (ay y) none):=by
    rintro W ⟨L,rfl⟩;rw[hB,afL];refine⟨by rw[di p];rfl,by rw[bA p];rfl,by rw[bA p];rfl,by rw[bA p];rfl⟩
   have pc: (ay x)[0]?=some (.int .i64 x.1):=rfl;have DL: (ay y)[0]?=some (.int .i64 y.1):=rfl;have hex:=λH lo=>c0 (Cm x (by omega) H lo)
   have J:=λH lo=>c0 (Cm y (by omega) H lo)
   have tx:List.take 2 (ay x)=ay x:=rfl;have ty:List.take 2 (ay y)=ay y:=rfl;have dz: ∀r:aE,List.drop 2 (ay r)=[]:=λ_=>rfl
   have lx: ∀r:aE,(ay r).length=2:=λ_=>rfl
   have bl: ∀a b:Nat,[AV.int .i64 (a:Int),AV.int .i64 (b:Int)]=ay (a,b):=λ_ _=>rfl
   simp(disch:=omega) only[go_sem,simprocAttr,FK,p,hm,d,hi0,E.ck,E.cD,Z,lx];refine⟨by omega,?_⟩;refine acy (λe W ak=>ak=none/\ (H++B)<+:W/\aQ (N+4) W (e 12) 2 fg ((if y.1<x.1 then[(y.1,x.1-y.1)]else[]).map ay)/\e 3= .ptr N 0/\e 6= .ptr (N+1) 0/\e 8= .ptr (N+2) 0/\e 10= .int .i64 i/\e 11= .ptr (N+3) 0) ?_ ?_
   ·simp(disch:=omega) only[bR,go_sem,simprocAttr];refine⟨λa=>?_,λa=>?_⟩
    ·have V: (x.1:Int)-y.1=((x.1-y.1:Nat):Int):=by omega
     simp only[go_sem,simprocAttr,V];refine po (N:=N+4) (H0:=H++B) (af:=[]) (bytes:=16) (ys:=[ay (y.1,x.1-y.1)]) aQ.ai (by rw[hB];exact arT) O (by omega) (by intro el t;rw[ahe.1 t];rfl) rfl (by simp[room]) λv' W2 Y X=>?_
     simp only[go_sem,simprocAttr,Ih];rw[afJ (by omega)];exact⟨X,Y⟩
    ·simp only[go_sem,simprocAttr,Ih];rw[afB (by omega)];exact⟨by rw[hB];exact arT,aQ.ai⟩
   ·rintro e W ak ⟨rfl,s,q,e3,e6,e8,n,m⟩;obtain⟨C,M⟩: ∃C,C=(if y.1<x.1 then[(y.1,x.1-y.1)]else[]):=⟨_,rfl⟩;have aD5:C.length<=1:=by rw[M];split<;>simp
    rw[<-M]at q⊢;obtain⟨g0,g1,g2,Q⟩:=j7 W s;simp only[go_sem,simprocAttr,g2,Q,e8,m,hex,J];refine acy (λe W ak=>ak=none/\ (H++B)<+:W/\aQ (N+4) W (e 12) 2 fg ((C++(if x.1+x.2<y.1+y.2 then[(x.1+x.2,y.1+y.2- (x.1+x.2))]else[])).map ay)/\e 3= .ptr N 0/\e 6= .ptr (N+1) 0/\e 8= .ptr (N+2) 0/\e 10= .int .i64 i/\e 11= .ptr (N+3) 0) ?_ ?_
    ·simp only[bR,go_sem,simprocAttr];refine⟨λa=>?_,λa=>?_⟩
     ·have V: (y.1:Int)+y.2- ((x.1:Int)+x.2)=((y.1+y.2- (x.1+x.2):Nat):Int):=by omega
      have q2: (x.1:Int)+x.2=((x.1+x.2:Nat):Int):=by omega
      simp(disch:=omega) only[go_sem,simprocAttr,g2,Q,e8,m,hex,J,V];rw[q2];refine po (H0:=H++B) (bytes:=16) (ys:=[ay (x.1+x.2,y.1+y.2- (x.1+x.2))]) q s O (by omega) (by intro el t;rw[ahe.1 t];rfl) rfl (by rw[ahh];simp[room];omega) λv' W2 Y X=>?_
      simp only[go_sem,simprocAttr,Ih,e3,e6,e8,n,m];rw[afJ (by omega),ahs];exact⟨X,Y⟩
     ·simp only[go_sem,simprocAttr,Ih,e3,e6,e8,n,m];rw[afB (by omega),aiH];exact⟨s,q⟩
    ·clear g0 g1 g2 Q s q e3 e6 e8 n m e W;rintro e W ak ⟨rfl,s,q,e3,e6,e8,n,m⟩;obtain⟨P,A⟩: ∃P,P=C++(if x.1+x.2<y.1+y.2 then[(x.1+x.2,y.1+y.2- (x.1+x.2))]else[]):=⟨_,rfl⟩;have aD6:P.length<=2:=by rw[A];split<;>simp<;>omega
     rw[<-A]at q;generalize hw:e 12=w at*;obtain⟨g0,g1,g2,Q⟩:=j7 W s;have u:=λlo=>ax3 [(w1,l.take i),(w,P),(R,l.drop (i+1))] (by simp) (by have:=G.1;simp;omega) W (by
      intro z hz;simp only[ai2,List.not_mem_nil,or_false]at hz;rcases hz with rfl|rfl|rfl
      ·exact U _
      ·exact q.rd
      ·exact T _) lo
     have K:fx [(w1,l.take i),(w,P),(R,l.drop (i+1))]=l.take i++(C++((if x.1+x.2<y.1+y.2 then[(x.1+x.2,y.1+y.2- (x.1+x.2))]else[])++l.drop (i+1))):=by simp[fx,A]
     rw[K]at u;generalize(l.take i++(C++((if x.1+x.2<y.1+y.2 then[(x.1+x.2,y.1+y.2- (x.1+x.2))]else[])++l.drop (i+1))))=LL at*;obtain⟨t7,t8⟩:=oP (ng LL ⟨[],none⟩);have jq:W.take N=H:=lr p λj hj=>by
      obtain⟨L,rfl⟩:=s;rw[afL,aeT (by omega)]
     have uE: ∀o,(W.set (N+1) o).take N=H:=λo=>by rw[arW (by omega),jq]
     simp only[aoZ,azp,z5]at u;obtain⟨t1,t2⟩:=oP (U ⟨[],none⟩);obtain⟨t3,t4⟩:=oP (T ⟨[],none⟩);obtain⟨t5,t6⟩:=oP (q.rd (lo:=none));have S:fX 2 v (some (.int .i64 ((i:Int)+1))) none none=some R:=s2;simp(disch:=omega) only[F1,go_sem,simprocAttr,g0,g1,e3,e6,n,hw,s1,S,t1,t2,t3,t4,t5,t6,t7,t8,cG g1,uE,u,hrv]
abbrev xN(a b:aE):Prop:=a.1+a.2<b.1
structure eu(l:List aE):Prop where
 pw:l.Pairwise xN
 bd: ∀x∈l,1<=x.2/\x.1+x.2<=64
def eu.ok{l:List aE}(h:eu l):zL l:=by
 refine⟨?_,λx c=>(h.bd x c).2⟩;have f: (l.map (·.1)).Nodup:=by
  rw[ayO,aDm];refine h.pw.imp λ {a b} d he=>?_
  omega
 have:=MW 64 _ f (by
  intro a e;obtain⟨x,c,rfl⟩:=ahk.1 e;have:=h.bd x c;omega)
 grind
theorem eu.nil:eu []:=⟨.nil,by simp⟩
theorem eu.app{a b:List aE}(e:eu a)(d:eu b)(c: ∀x∈a,∀y∈b,xN x y):eu (a++b):=
 ⟨apC.2 ⟨e.pw,d.pw,c⟩,λx f=>(ahb.1 f).elim (e.bd x) (d.bd x)⟩
theorem eu.one{x:aE}(c:1<=x.2)(b:x.1+x.2<=64):eu [x]:=⟨List.pairwise_singleton _ _,λy a=>by grind⟩
def aya: ∀ (l:List aE) (x:aE) (put:Bool) (out k:List aE),1<=x.2->x.1+x.2<=64->eu l->eu out->(∀a∈out,∀b∈l,xN a b)->(put=false-> ∀a∈out,xN a x)->(put=true-> ∀b∈l,xN x b)->
  gY x put out l=some k->eu k:=by
 intro l
 induction l with
 |nil=>
  intro x put out k s r _ ho _ p _ h;unfold gY at h;cases h;cases put with
  |true=>grind
  |false=>exact ho.app (eu.one s r) λa d b e=>by rw[ahe.1 e];exact p rfl a d
 |cons y ys t=>
  intro x put out k s r A ho j p w h;have i:=ara.1 A.pw;have g:eu ys:=⟨i.2,λz B=>A.bd z (aiF _ B)⟩;have u:=A.bd y (amM ..);have m: ∀a∈out,xN a y:=λa d=>j a d y (amM ..)
  unfold gY at h;split at h
  ·rename_i c;refine t x put (out++[y]) k s r g (ho.app (eu.one u.1 u.2) λa d b e=>by rw[ahe.1 e];exact m a d) ?_ ?_ (λq b e=>w q b (aiF _ e)) h
   ·intro a d b e;rcases ahb.1 d with d|d
    ·exact j a d b (aiF _ e)
    ·rw[ahe.1 d];exact i.1 b e
   ·intro q a d;rcases ahb.1 d with d|d
    ·exact p q a d
    ·rw[ahe.1 d];exact c
  ·split at h
   ·rename_i c;have v:eu (out++(if put then[]else[x])):=by
     cases put with
     |true=>simpa using ho
     |false=>
      refine ho.app (eu.one s r) λa d b e=>?_
      have:b=x:=by simpa using e
      rw[this];exact p rfl a d
    have o: ∀a∈out++(if put then[]else[x]),xN a y:=by
     intro a d;rcases ahb.1 d with d|d
     ·exact m a d
     ·cases put with
      |true=>simp at d
      |false=>
       have:a=x:=by simpa using d
       rw[this];exact c
    refine t x true (out++(if put then[]else[x])++[y]) k s r g (v.app (eu.one u.1 u.2) λa d b e=>by rw[ahe.1 e];exact o a d) ?_ (λq=>by cases q) ?_ h
    ·intro a d b e;have n:xN y b:=i.1 b e;rcases ahb.1 d with d|d
     ·have:=o a d;have D:y.1+y.2<b.1:=n;have C:a.1+a.2<y.1:=this;show a.1+a.2<b.1;omega
     ·rw[ahe.1 d];exact n
    ·intro _ b e;have D:y.1+y.2<b.1:=i.1 b e;have C:x.1+x.2<y.1:=c;show x.1+x.2<b.1;omega
   ·split at h
    ·rename_i G F E;have f:put=false:=by
      cases put with
      |false=>rfl
      |true=>
       have:x.1+x.2<y.1:=w rfl y (amM ..);omega
     refine t (y.1,y.2+x.2) put out k (by show 1<=y.2+x.2;omega) (by show y.1+(y.2+x.2)<=64;omega) g ho (λa d b e=>j a d b (aiF _ e)) (λ_ a d=>m a d) (λq=>by rw[f]at q;cases q) h
    ·split at h
     ·rename_i G F E H;have f:put=false:=by
       cases put with
       |false=>rfl
       |true=>
        have:x.1+x.2<y.1:=w rfl y (amM ..);omega
      refine t (x.1,x.2+y.2) put out k (by show 1<=x.2+y.2;omega) (by show x.1+(x.2+y.2)<=64;omega) g ho (λa d b e=>j a d b (aiF _ e)) (λq a d=>p q a d) (λq=>by rw[f]at q;cases q) h
     ·cases h
theorem eu.ir{l a:List aE}{x:aE}(h:eu l)(b:ir l x=some a):eu a:=by
 unfold Go.Proofs.YteplichagkpciaaGreatDoor.ir at b;split at b
 ·rename_i hm;have c:1<=x.2/\x.1+x.2<=64:=by simpa[lk]using hm
  exact aya l x false [] a c.1 c.2 h eu.nil (by simp) (λ_=>by simp) (λq=>by cases q) b
 grind
theorem eu.take{l s:List aE}{x:aE}(h:eu l)(j:rA l x=some s):eu s:=by
 unfold rA at j;split at j
 ·cases j
 rename_i hm;have J:1<=x.2/\x.1+x.2<=64:=by simpa[lk]using hm
 split at j
 ·cases j
 rename_i i E;cases j;obtain⟨m,g,_⟩:=arb.1 E;have p:l.getD i (0,0)=l[i]:=by simp[ahm,ag6 m]
 rw[p];have d:l=l.take i++(l[i]::l.drop (i+1)):=by rw[<-apL m,aqj]
 generalize I:l[i]=y at*;generalize l.take i=A at*;generalize l.drop (i+1)=B at*;have k:=h.pw;have e:=h.bd;rw[d]at k e;obtain⟨w,v,r⟩:=apC.1 k;obtain⟨u,t⟩:=ara.1 v;have C:=e y (by simp);have F:x=y\/ (y.1<=x.1/\x.1+x.2<=y.1+y.2):=by simpa using g
 have D:y.1<=x.1/\x.1+x.2<=y.1+y.2:=by
  rcases F with rfl|q
  ·exact⟨ahd _,ahd _⟩
  ·exact q
 have H:eu A:=⟨w,λz o=>e z (by simp[o])⟩;have hB:eu B:=⟨t,λz o=>e z (by simp[o])⟩;have G:eu ((if y.1<x.1 then[(y.1,x.1-y.1)]else[])++(if x.1+x.2<y.1+y.2 then[(x.1+x.2,y.1+y.2- (x.1+x.2))]else[])):=by
  refine eu.app ?_ ?_ ?_
  ·split
   ·exact eu.one (by show 1<=x.1-y.1;omega) (by show y.1+(x.1-y.1)<=64;omega)
   ·exact eu.nil
  ·split
   ·exact eu.one (by show 1<=y.1+y.2- (x.1+x.2);omega) (by show x.1+x.2+(y.1+y.2- (x.1+x.2))<=64;omega)
   ·exact eu.nil
  ·intro a c b f;split at c<;>split at f<;>simp at c f;rw[c,f];show y.1+(x.1-y.1)<x.1+x.2;omega
 have n: ∀a∈((if y.1<x.1 then[(y.1,x.1-y.1)]else[])++(if x.1+x.2<y.1+y.2 then[(x.1+x.2,y.1+y.2- (x.1+x.2))]else[])),y.1<=a.1/\a.1+a.2<=y.1+y.2:=by
  intro a c;rcases ahb.1 c with c|c
  ·split at c
   ·rw[ahe.1 c];exact⟨ahd _,by show y.1+(x.1-y.1)<=_;omega⟩
   ·cases c
  ·split at c
   ·rw[ahe.1 c];exact⟨by show y.1<=x.1+x.2;omega,by show x.1+x.2+(y.1+y.2- (x.1+x.2))<=_;omega⟩
   ·cases c
 refine(H.app G λa c b f=>?_).app hB λa c b f=>?_
 ·have L:a.1+a.2<y.1:=r a c y (by simp);have:=n b f;show a.1+a.2<b.1;omega
 ·have K:y.1+y.2<b.1:=u b f;rcases ahb.1 c with c|c
  ·exact r a c b (by simp[f])
  ·have:=n a c;show a.1+a.2<b.1;omega
def ql(f:Nat->Nat):lA:=arr 32 λj=>[.int .u8 (f j)]
theorem Wu(f:Nat->Nat): (ql f).length=32:=by rfl
def oQ(p:cN):AV:=if p.free.isEmpty then .ai else .sl (p.free.map ay) p.cx
def CO(p:cN):Rv (oQ p) 2 (p.free.map ay):=by
 unfold oQ;split
 ·rename_i h;rw[aDA.1 h];exact .ai
 ·exact .sl (by intro el h;obtain⟨x,_,rfl⟩:=ahk.1 h;rfl)
def ca(p:cN):lA:=[.int .i64 p.n,oQ p]++arr 64 λi=>ql (p.bytes i)
def xO(p:cN): (ca p).length=2050:=by
 unfold ca;rw[ahc,zq (k:=32) (λi=>Wu (p.bytes i))];rfl
structure fK(p:cN):Prop where
 n:p.n<=64
 free:eu p.free
 bytes: ∀i j,p.bytes i j<256
theorem Wv{p:cN}:Den.part false 1 (ca p) 0=some (.int .i64 p.n):=rfl
def z6{p:cN}:Den.part true 1 (ca p) 1=some (.agg [oQ p]):=by
 unfold ca;rw[rh (by simp) (by omega)];rfl
def ayb{p:cN}(b:i<64)(a:j<32):Den.part false 1 (ca p) (2+i*32+j)=some (.int .u8 (p.bytes i j)):=by
 unfold ca;rw[kh (by grind),show 2+i*32+j- [AV.int .i64 p.n,oQ p].length=i*32+j by grind,ki (k:=32) (f:=λi=>ql (p.bytes i)) (λi=>Wu _) b (by omega) (by omega)];have:=ki (ag:=false) (m:=1) (n:=32) (k:=1) (i:=j) (o:=0) (f:=λj=>[AV.int .u8 (p.bytes i j)]) (λ_=>rfl) a (by omega) (by omega);rw[Nat.mul_one,ahu]at this;exact this
theorem alc{p:cN}{l:List aE}:aH (ca p) 1 [eg l]=ca {p with free:=l,cx:=false}:=by rfl
theorem ald{p:cN}:aH (ca p) 1 [oQ p]=ca p:=by rfl
def ale{p:cN}{o:Nat}(a:i<64)(ho:o+vs.length<=32)(b:aH (ql (p.bytes i)) o vs=ql f):aH (ca p) (2+i*32+o) vs=ca {p with bytes:=aq p.bytes i f}:=by
 unfold ca;rw[gr (by grind),show 2+i*32+o- [AV.int .i64 p.n,oQ p].length=i*32+o by grind,nf (k:=32) (f:=λi=>ql (p.bytes i)) (λi=>Wu _) a ho,b,pT ql];rfl
def ayc{p:cN}{v:Nat}(b:i<64)(a:j<32):aH (ca p) (2+i*32+j) [.int .u8 v]=ca {p with bytes:=aq p.bytes i (aq (p.bytes i) j v)}:=by
 refine ale b (by grind) ?_;unfold ql;have:=nf (n:=32) (k:=1) (i:=j) (o:=0) (vs:=[AV.int .u8 v]) (f:=λj=>[AV.int .u8 (p.bytes i j)]) (λ_=>rfl) a (by simp);rw[Nat.mul_one,ahu]at this;rw[this];have e:aH [AV.int .u8 (p.bytes i j)] 0 [AV.int .u8 v]=[AV.int .u8 v]:=rfl;rw[e,pT (λx:Nat=>[AV.int .u8 x])]
def ayd{p:cN}{H:List ae}(a:i<64)(h:H[q]?=some (.box (ca p) none)):
  rX ⟨H,lo⟩ [.int .u8 0] (.fa q 1 (2+i*32) 32)=some ⟨H.set q (.box (ca {p with bytes:=aq p.bytes i λ_=>0}) none),lo⟩:=by
 have e:aH (ca p) (2+i*32) (List.replicate 32 [AV.int .u8 0]).flatten=ca {p with bytes:=aq p.bytes i λ_=>0}:=by
  have:=ale (p:=p) (i:=i) (o:=0) (vs:=(List.replicate 32 [AV.int .u8 0]).flatten) (f:=λ_=>0) a (by decide) (by rfl);omega
 simp only[rX,h,AS.set];rw[afJ ⟨rfl,by rw[xO];omega,rfl⟩,e];simp
def alf{X:Ctx}{id off:Nat}:qx X n sz (.ptr id off) none none=some (.fa id sz off n):=by
 simp[qx,fW,lK]
def aye{p:cN}{H:List ae}(c:i<64)(h:H[q]?=some (.box (ca p) none))(lo:oN):
  D X0 (.fn (.func Jd) [] []) [.ptr q (2+i*32)] ⟨H,lo⟩=some (.ret (.au []) ⟨H.set q (.box (ca {p with bytes:=aq p.bytes i λ_=>0}) none),lo⟩):=by
 refine aF SG λN d=>?_
 have b:=λlo=>ayd (lo:=lo) c h
 have a: ∀o,(H.set q o).take N=H.set q o:=λo=>ag8 (by grind)
 simp only[F1,go_sem,simprocAttr,SG,alf,b,a]
theorem vV{o:Nat}:ed .ptr (.ptr q o) .dZ=some false:=rfl
def Ww{p:cN}(k:fK p){H:List ae}(m:i<2147483648)(h:H[q]?=some (.box (ca p) none)){fv:AV}{H':List ae}(r:H'.length=H.length)
  (n:gh p i=0->i<64->D X0 fv [.ptr q (2+i*32)] ⟨H,none⟩=some (.ret (.au []) ⟨H',none⟩)) (lo:oN):
  D X0 (.fn (.func D9) [] []) [.ptr q 0,.int .i64 i,fv] ⟨H,lo⟩=some (.ret (.int .i64 (gh p i)) ⟨if gh p i=0 then H' else H,lo⟩):=by
 have ho:Old q H (.box (ca p) none):=⟨h⟩;refine aF FC λN s=>?_
 have o:=k.n;have c: ¬((i:Nat):Int)<0:=by omega
 have a:=atC (oQ p) p.free (CO _) k.free.ok i m;have f:Ms p.free i=UY p.free i:=rfl;rw[f]at a;by_cases l:p.n<=i
 ·have b: (i:Int)>=p.n:=by omega
  have d:gh p i=2:=by unfold gh;grind
  rw[d];simp(disch:=omega) only[F1,go_sem,simprocAttr,FC,vV,c,h,↓Wv,b]
 ·have b: ¬(i:Int)>=p.n:=by omega
  cases g:UY p.free i with
  |true=>
   rw[g]at a;have d:gh p i=12:=by unfold gh;rw[afB l,afJ g]
   rw[d];simp(disch:=omega) only[F1,go_sem,simprocAttr,FC,vV,c,h,↓Wv,↓z6,b,a]
  |false=>
   rw[g]at a;have d:gh p i=0:=by unfold gh;rw[afB l,g];rfl
   rw[d];have j:=n d (by omega);have e: (0:Int)<=i/\ (i:Int)<64:=by omega
   simp(disch:=omega) only[F1,go_sem,simprocAttr,FC,vV,c,h,↓Wv,↓z6,b,a,e,j]
theorem GK{E:AS}{o:Nat}:qJ E (.ptr i o) tg=some (.ptr E.heap.length 0,E.push (.box [.ptr i o] tg)):=rfl
theorem alg{E:AS}{f:Fn}{bs cs:lA}:qJ E (.fn f bs cs) tg=some (.ptr E.heap.length 0,E.push (.box [.fn f bs cs] tg)):=rfl
theorem alh(n:Nat): ((n:Nat):Int).tdiv 32=((n/32:Nat):Int):=by rfl
theorem ayf(n:Nat): ((n:Nat):Int).tmod 32=((n % 32:Nat):Int):=by rfl
section
variable{p:cN}(hp:fK p){i q:Nat}{H:List ae}(h:H[q]?=some (.box (ca p) none))(lo:oN)
include hp h
theorem ayg(e:i<2147483648):D X0 (.fn (.func I6) [] []) [.ptr q 0,.int .i64 i] ⟨H,lo⟩=some (.ret (.int .i64 (gh p i)) ⟨H.set q (.box (ca (rB p i)) none),lo⟩):=by
 have ho:Old q H (.box (ca p) none):=⟨h⟩;refine aF Lq λN g=>?_
 have a:=λlo=>Ww hp e h (fv:=.fn (.func Jd) [] []) (H':=H.set q (.box (ca (rB p i)) none)) (by simp) (λd c=>by
  rw[aye c h];unfold rB;grind) lo
 have b: ∀o,(H.set q o).take N=H.set q o:=λo=>ag8 (by grind)
 by_cases d:gh p i=0
 ·rw[d]at a;simp only[F1,go_sem,simprocAttr,Lq,a,b]
  grind
 ·simp only[afB d]at a;have f:rB p i=p:=by unfold rB;grind
  rw[f,qg h];simp(disch:=omega) only[F1,go_sem,simprocAttr,Lq,a]
theorem ayh(t:i<64){b:Nat}(r:H[a]?=some (.box [.ptr q 0] none))(n:H[b]?=some (.box [.int .i64 i] none))(v:AV):
  D X0 (.fn (.func I2) [] [.ptr a 0,.ptr b 0]) [v] ⟨H,lo⟩=some (.ret (.au []) ⟨H.set q (.box (ca (Mk p i)) none),lo⟩):=by
 refine eP Lg λN s=>?_
 have f: ∀H lo,D X0 (.fn (.func A8) [] []) [.agg [oQ p],.int .i64 i,.int .i64 1] ⟨H,lo⟩=some (.ret (qe (oQ p) p.free (i,1)) ⟨H,lo⟩):=λH lo=>aiE (oQ p) p.free (CO _) hp.free.ok (i,1) (by omega) (by simp) H lo
 have c: ∀o,(H.set q o).take N=H.set q o:=λo=>ag8 (by grind)
 unfold qe at f;have j:= @alc p;have d:= @ald p;have k:=λl=>cO (ng l) (bD (g:=ay) (λ_=>rfl) l)
 have m:=cO (CO p) (bD (g:=ay) (λ_=>rfl) _);unfold Mk;cases e:ir p.free (i,1)with
 |some l=>
  simp only[e]at f⊢;simp only[F1,go_sem,simprocAttr,Lg,s,r,n,h,↓z6,f,j,c,xO,k]
 |none=>
  simp only[e]at f⊢;simp only[F1,go_sem,simprocAttr,Lg,s,r,n,h,↓z6,f,d,c,xO,m]
theorem ayi(g:i<2147483648):D X0 (.fn (.func Qr) [] []) [.ptr q 0,.int .i64 i] ⟨H,lo⟩=some (.ret (.int .i64 (gh p i)) ⟨H.set q (.box (ca (rC p i)) none),lo⟩):=by
 have ho:Old q H (.box (ca p) none):=⟨h⟩;refine aF Lc λN e=>?_
 have f:q<N:=by grind
 obtain⟨B,hB⟩: ∃B:List ae,B=[.box [.ptr q 0] none,.box [.int .i64 i] none]:=⟨_,rfl⟩;have a:=λlo=>Ww hp g (bc (L:=B) h) (fv:=.fn (.func I2) [] [.ptr N 0,.ptr (N+1) 0]) (H':=(H++B).set q (.box (ca (rC p i)) none)) (by simp) (λc d=>by
  rw[ayh hp (bc (L:=B) h) none d (by grind) (by grind)];unfold rC;grind) lo
 have b: ∀o,((H++B).set q o).take N=H.set q o:=λo=>by grind
 rw[hB]at a b;by_cases c:gh p i=0
 ·rw[c]at a;simp only[aiZ]at a;simp only[F1,go_sem,simprocAttr,Lc,GK,e,a,b];rw[c];rfl
 ·simp only[afB c]at a;have j:rC p i=p:=by unfold rC;rw[afB c]
  rw[j,qg h];simp only[F1,go_sem,simprocAttr,Lc,GK,e,a]
theorem ali{at':Nat}(r:at'<68719476736){f:Fn}{cs:lA}{H':List ae}(o:H'.length=H.length)
  (m: ∀L,gh p (at'/32)=0->at'/32<64->D X0 (.fn f [] cs) [.ptr q (2+at'/32*32+at' % 32)] ⟨H++L,none⟩=some (.ret (.au []) ⟨H'++L,none⟩)):
  D X0 (.fn (.func Jf) [] []) [.ptr q 0,.int .i64 at',.fn f [] cs] ⟨H,lo⟩=some (.ret (.int .i64 (gh p (at'/32))) ⟨if gh p (at'/32)=0 then H' else H,lo⟩):=by
 have ho:Old q H (.box (ca p) none):=⟨h⟩;refine aF LB λN g=>?_
 have l:q<N:=by rw[<-g];exact ho.lt
 have n:H'.length=N:=by omega
 have e:gh p (at'/32)=0->at'/32<64->D X0 (.fn (.func QV) [] [.ptr (N+1) 0,.ptr N 0]) [.ptr q (2+at'/32*32)] ⟨H++[.box [.int .i64 at'] none,.box [.fn f [] cs] none],none⟩=some (.ret (.au []) ⟨H'++[.box [.int .i64 at'] none,.box [.fn f [] cs] none],none⟩):=by
  intro b j;refine eP SR λM k=>?_
  have d:=m [.box [.int .i64 at'] none,.box [.fn f [] cs] none] b j;simp(disch:=omega) only[F1,go_sem,simprocAttr,SR,ayf,k,d];exact⟨by omega,da rfl (ag8 (by simp at k⊢;omega))⟩
 have a:=λlo=>Ww hp (i:=at'/32) (by omega) (bc (L:=[.box [.int .i64 at'] none,.box [.fn f [] cs] none]) h) (H':=H'++[.box [.int .i64 at'] none,.box [.fn f [] cs] none]) (by simp;omega) e lo
 have c: ¬((at':Nat):Int)<0:=by omega
 by_cases b:gh p (at'/32)=0
 ·rw[b]at a;simp only[aiZ]at a;simp(disch:=omega) only[F1,go_sem,simprocAttr,LB,alg,vV,alh,g,c,a];rw[b,afJ rfl];rfl
 ·simp only[afB b]at a;simp(disch:=omega) only[F1,go_sem,simprocAttr,LB,alg,vV,alh,g,c,a];rw[afB b]
theorem ayj{at':Nat}(k:at'<68719476736):D X0 (.fn (.func QL) [] []) [.ptr q 0,.int .i64 at'] ⟨H,lo⟩=some (.ret (.au [.int .u8 (sX p at'),.int .i64 (gh p (at'/32))]) ⟨H,lo⟩):=by
 have ho:Old q H (.box (ca p) none):=⟨h⟩;refine aF Ls λN d=>?_
 have g:q<N:=by grind
 have a:=λlo=>ali hp (bc (L:=[.box [.int .u8 0] none]) h) lo k (f:=.func QS) (cs:=[.ptr N 0]) (H':=H++[.box [.int .u8 (p.bytes (at'/32) (at' % 32))] none]) (by simp) (λL c b=>by
  refine eP SJ λM l=>?_
  have j: ∀L,(H++L)[q]?=some (.box (ca p) none):=λL=>bc h
  have e:=ayb (p:=p) b (show at' % 32<32 by omega);simp(disch:=omega) only[F1,go_sem,simprocAttr,SJ,j,↓e];exact da rfl (ag8 (by simp at l⊢;omega)))
 unfold sX;by_cases c:gh p (at'/32)=0
 ·rw[c]at a⊢;simp only[aiZ]at a⊢;simp only[F1,go_sem,simprocAttr,Ls,d,a,pq]
 ·simp only[afB c]at a⊢;simp only[F1,go_sem,simprocAttr,Ls,d,a,pq]
theorem ayk{at' b:Nat}(m:at'<68719476736):D X0 (.fn (.func QK) [] []) [.ptr q 0,.int .i64 at',.int .u8 b] ⟨H,lo⟩=some (.ret (.int .i64 (gh p (at'/32))) ⟨H.set q (.box (ca (vz p at' b)) none),lo⟩):=by
 have ho:Old q H (.box (ca p) none):=⟨h⟩;refine aF Lr λN d=>?_
 have k:q<N:=by grind
 have a:=λlo=>ali hp (bc (L:=[.box [.int .u8 b] none]) h) lo m (f:=.func QR) (cs:=[.ptr N 0]) (H':=(H++[ae.box [.int .u8 b] none]).set q (.box (ca {p with bytes:=aq p.bytes (at'/32) (aq (p.bytes (at'/32)) (at' % 32) b)}) none)) (by simp) (λL g e=>by
  refine eP SI λM n=>?_
  have l: ∀L,(H++L)[q]?=some (.box (ca p) none):=λL=>bc h
  have j:=ayc (p:=p) (v:=b) e (show at' % 32<32 by omega);simp(disch:=omega) only[F1,go_sem,simprocAttr,SI,l,j,xO]
  grind)
 unfold vz;have c: ∀L o,((H++L).set q o).take N=H.set q o:=λL o=>by
  rw[asa _ _ (by omega),mr (by simp[d])]
 by_cases g:gh p (at'/32)=0
 ·rw[g]at a⊢;simp only[aiZ]at a⊢;simp only[F1,go_sem,simprocAttr,Lr,d,a,c]
 ·simp only[afB g]at a⊢;rw[qg h];simp only[F1,go_sem,simprocAttr,Lr,d,a]
theorem ayl(w:n<=1024):D XC (.fn (.func QJ) [] []) [.ptr q 0,.int .i64 n] ⟨H,lo⟩=some (.ret (.au [.int .i64 (jo p n).2.1,.int .i64 (jo p n).2.2]) ⟨H.set q (.box (ca (jo p n).1) none),lo⟩):=by
 have ho:Old q H (.box (ca p) none):=⟨h⟩;refine aF B1 λN y=>?_
 have u:q<N:=by grind
 have k:=λl=>cO (ng l) (bD (g:=ay) (λ_=>rfl) l)
 have j:= @alc p;have e:= @ald p;have m:=cO (CO p) (bD (g:=ay) (λ_=>rfl) _);have c: ∀o,(H.set q o).take N=H.set q o:=λo=>ag8 (by grind)
 by_cases s:n<1
 ·have a: ((n:Nat):Int)<1:=by omega
  have v:jo p n=(p,0,2):=by unfold jo;rw[afJ s]
  rw[v,qg h];simp(disch:=omega) only[F1,go_sem,simprocAttr,B1,vV,a]
 ·have a: ¬((n:Nat):Int)<1:=by omega
  have b:=λH lo=>c0 (atH (oQ p) p.free (CO _) hp.free.ok n H lo)
  unfold Mv at b;have e1:jo p n=match p.free.find? (fits n)with
   |none=>(p,0,6)
   |some x=>(match rA p.free (x.1,n)with|some l=>{p with free:=l,cx:=false}|none=>p,x.1,0):=by unfold jo;rw[afB s];rfl
  rw[e1];cases f:p.free.find? (fits n)with
  |none=>
   simp only[f]at b⊢;rw[qg h];simp(disch:=omega) only[F1,go_sem,simprocAttr,B1,vV,a,h,↓z6,b]
  |some x=>
   simp only[f]at b⊢;have t:=hp.free.bd x (ase f);have d:=λH lo=>ax7 (oQ p) p.free (CO _) hp.free.ok (x.1,n) (by simp;omega) (by simp;omega) H lo
   unfold Wt at d;cases r:rA p.free (x.1,n)with
   |none=>
    simp only[r]at d⊢;simp only[F1,go_sem,simprocAttr,B1,vV,a,h,↓z6,b,d,e,c,xO,m]
   |some l=>
    simp only[r]at d⊢;simp only[F1,go_sem,simprocAttr,B1,vV,a,h,↓z6,b,d,j,c,xO,k]
end
def me(a:Nat):Prop:= ∀E,gP XA.fb E .int .cJ (.jb uS) (.int .u8 a) true=some (match rM a with|some f=>.au [.fn (.func f) [] [],.bool true]|none=>.au [.cJ,.bool false])
theorem rO{r:bE}:aG (bF r)=0:=rfl
def alj(s:bG)(g:bh s)(aa:Nat)(f:aa<4294967296)(c:cp)(i:jQ c)(k:me c.op)(H:List ae)(lo:oN):
  D XC (.fn (.func IZ) [] []) [.agg (bz s),.int .i64 aa,.agg (bf c)] ⟨H,lo⟩=some (.ret (.int .i64 (oD s aa c)) ⟨H,lo⟩):=by
 refine aF Lf λN j=>?_
 have h:=λH lo=>cB (Wp s g aa f c i k H lo)
 unfold oD;by_cases l:0<eV s aa c
 ·have a: ((eV s aa c:Nat):Int)>0:=by omega
  rw[afJ l];simp only[F1,go_sem,simprocAttr,Lf,j,DZ,h,a]
 ·have a: ¬((eV s aa c:Nat):Int)>0:=by omega
  rw[afB l];obtain⟨v,d1,d2⟩:=Wo s g aa f c i (0,0) ⟨show 0<4294967296 by omega,show 0<4294967296 by omega⟩ k (H++[.box (bz s) none,.box (bf c) none]) none;have d1:=cB d1;have b:ay (0,0)=[.int .i64 0,.int .i64 0]:=rfl;rw[b]at d1;generalize dJ s aa c (0,0)=d at*;have e: (bF d.2.1)[0]?=some (.int .i64 d.2.1.e):=rfl;simp only[F1,go_sem,simprocAttr,Lf,j,DZ,h,a,d1,e,ox,rO]
def alk(s:bG)(f:bh s)(aa:Nat)(e:aa<4294967296)(c:cp)(h:jQ c)(i:me c.op)(H:List ae)(lo:oN):
  D XC (.fn (.func IP) [] []) [.agg (bz s),.int .i64 aa,.agg (bf c)] ⟨H,lo⟩=some (.ret (.bool (Cg s aa c)) ⟨H,lo⟩):=by
 refine aF K9 λN b=>?_
 have g:=alj s f aa e c h i;unfold Cg;by_cases d:c.op=15
 ·have a: (c.op:Int)=15:=by omega
  have j:decide (oD s aa c=10)=decide (((oD s aa c:Nat):Int)=10):=aht.2 (by omega);rw[ag9 d,ao1,j];simp only[F1,go_sem,simprocAttr,K9,b,DZ,fS,a,g]
 ·have a: ¬(c.op:Int)=15:=by omega
  rw[ag7 d,akI];simp only[F1,go_sem,simprocAttr,K9,b,fS,a]
def GL(s:bG)(h:Nat):AV:=if s.T.ax h then .sl [hC h] true else .ai
def alm(s:bG)(g:bh s)(h:Nat)(f:h<4294967296)(H:List ae)(lo:oN):
  D XC (.fn (.func Jc) [] []) [.agg (bz s),.int .u32 h] ⟨H,lo⟩=some (.ret (GL s h) ⟨H,lo⟩):=by
 refine aF Lt λN d=>?_
 have b:=λH lo=>c0 (eo s.T.b h f H lo)
 have c:ax s.T.b h=s.T.ax h:=rfl;rw[c]at b;unfold GL;have a:Den.part true 96 (bz s) 0=some (.agg (bY s.T.b)):=by rfl
 cases e:s.T.ax h with
 |true=>
  rw[e]at b;simp only[F1,go_sem,simprocAttr,Lt,d,↓a,b];rfl
 |false=>
  rw[e]at b;simp only[F1,go_sem,simprocAttr,Lt,d,↓a,b]
def z7(s:bG)(h:Nat):Rv (GL s h) 1 ((oE s h).map hC):=by
 unfold GL oE;split
 ·exact .sl (by intro el a;rw[ahe.1 a];rfl)
 ·exact .ai
def aym(l:lN)(p:l.length<2147483648)(v:AV)(H:List ae)(b:Rd ⟨H,none⟩ v 1 (l.map hC))(x:Nat)(lo:oN):
  D X0 (.fn (.func QT) [] []) [v,.int .u32 x] ⟨H,lo⟩=some (.ret (.int .i64 (fR (λy=>decide (y=x)) l)) ⟨H,lo⟩):=by
 refine aF SO λN t=>?_
 simp only[go_sem,simprocAttr,SO,b.bL];refine dV l.length (λk e H'=>H'=H/\ (∀j,j<k->decide (l.getD j default=x)=false)/\e 0=v/\e 1= .int .u32 x/\e 7= .int .i64 l.length/\e 8= .int .i64 k) 0 (by omega) ?_ ?_
 ·simp only[go_sem,simprocAttr];omega
 rintro k r e H' ⟨rfl,f,n,i,h,g⟩ m hm;simp(disch:=omega) only[bR,F1,go_sem,simprocAttr,agz,n,i,h,g];refine⟨λo=>?_,λo=>?_⟩
 ·have c:k<l.length:=by omega
  have d: ∀y,(hC y)[0]?=some (.int .u32 y):=λ_=>rfl
  by_cases e1:l.getD k default=x
  ·have a: ((x:Nat):Int)=(l.getD k default:Nat):=by omega
   simp(disch:=omega) only[F1,go_sem,simprocAttr,b.ck,b.cD,d,a];rw[vC c f (ag9 e1)];exact⟨by omega,rfl⟩
  ·have a: ¬((x:Nat):Int)=(l.getD k default:Nat):=by omega
   simp(disch:=omega) only[go_sem,simprocAttr,n,i,h,g,b.ck,b.cD,d,a];refine⟨by omega,c,λj s=>?_⟩;rcases(show j<k\/j=k by omega)with q|rfl
   ·exact f j q
   ·exact ag7 e1
 ·obtain rfl:k=l.length:=by omega
  rw[vD f]
def ayn(l:lN)(b:l.length<2147483648)(v:AV)(H:List ae)(a:Rd ⟨H,none⟩ v 1 (l.map hC))(x:Nat)(lo:oN):
  D X0 (.fn (.func QN) [] []) [v,.int .u32 x] ⟨H,lo⟩=some (.ret (.bool (l.contains x)) ⟨H,lo⟩):=by
 refine aF SD λN c=>?_
 simp(disch:=omega) only[F1,go_sem,simprocAttr,SD,aym l b v H a x none,xu]
 grind
section
variable{s:bG}(hs:bh s){c:cp}(hc:jQ c){a b:Nat}{H:List ae}(ha:H[a]?=some (.box (bz s) none))(hb:H[b]?=some (.box (bf c) none))(lo:oN)
include hs hc ha hb
theorem aln:D XC (.fn (.func Ef) [] [.ptr a 0,.ptr b 0]) [] ⟨H,lo⟩=some (.ret (GL s c.r) ⟨H,lo⟩):=by
 refine eP SC λN e=>?_
 have d:=cO (z7 s c.r) (bD (λ_=>rfl) _);simp(disch:=omega) only[F1,go_sem,simprocAttr,SC,ha,hb,↓SL,fS,alm s hs c.r hc.r,d]
theorem ayo{u:Nat}(p:H[u]?=some (.box [.fn (.func pA) [] [.ptr a 0,.ptr b 0]] none)):
  ∃v,D XC (.fn (.func Eg) [] [.ptr u 0,.ptr a 0,.ptr b 0]) [] ⟨H,lo⟩=some (.ret v ⟨H,lo⟩)/\Rv v 1 ((if under s.T c.r=[]\/s.T.ax c.s=false then[]else if(under s.T c.r).contains c.s then under s.T c.r else under s.T c.r++[c.s]).map hC):=by
 suffices E: ∃o,D XC (.fn (.func Eg) [] [.ptr u 0,.ptr a 0,.ptr b 0]) [] ⟨H,lo⟩=some o/\ (λo=> ∃v,o=aS.ret v ⟨H,lo⟩/\Rv v 1 ((if under s.T c.r=[]\/s.T.ax c.s=false then[]else if(under s.T c.r).contains c.s then under s.T c.r else under s.T c.r++[c.s]).map hC)) o by
  obtain⟨o,K,v,rfl,I⟩:=E;exact⟨v,K,I⟩
 refine vE B2 rfl rfl rfl λN q=>?_
 obtain⟨v,J,ak,g1,g2,M⟩:=Ws hs hc ha hb N q none;have e:=λH lo=>c0 (eo s.T.b c.s hc.s H lo)
 have z:ax s.T.b c.s=s.T.ax c.s:=rfl;rw[z]at e;have k:Den.part true 96 (bz s) 0=some (.agg (bY s.T.b)):=by rw[<-vL (x:=⟨s,0,nz,(0,0),0,false,[]⟩) (bk:=.ai) (by omega) (by omega)];exact VO
 have F:=Gr hs.tr c.r;have hr:=mc g2 ak;have d:=hr.bL;have w:=λL=>bc (L:=L) ha
 have t:=λL=>bc (L:=L) hb
 have h:=λlo=>c0 (ayn (under s.T c.r) (by omega) v (H++J) (mc g2 none) c.s lo)
 have f:dI N ak:=dI.of M;have j: (H++J).take N=H:=by rw[<-q];simp
 have y:=bD (g:=hC) (λ_=>rfl) (under s.T c.r);by_cases r:under s.T c.r=[]
 ·have n: ((under s.T c.r).length:Int)=0:=by rw[r];rfl
  rw[afJ (.inl r)];simp only[go_sem,simprocAttr,B2,p,g1,d,n];rw[iU f (aha _),j];exact⟨_,rfl,.ai⟩
 ·have n: ¬((under s.T c.r).length:Int)=0:=by
    have:=apP.2 r;omega
  cases B:s.T.ax c.s with
  |false=>
   rw[B]at e;rw[afJ (.inr rfl)];simp only[go_sem,simprocAttr,B2,p,g1,d,n,w,t,↓k,fS,e];rw[iU f (aha _),j];exact⟨_,rfl,.ai⟩
  |true=>
   rw[B]at e;rw[afB (by simp[r])];cases m: (under s.T c.r).contains c.s with
   |true=>
    rw[m]at h;rw[afJ rfl];simp only[go_sem,simprocAttr,B2,p,g1,d,n,w,t,↓k,fS,e,h];rw[Gs f g2 (by rw[y];omega),j];exact⟨_,rfl,aQ.sh g2⟩
   |false=>
    rw[m]at h;rw[afB (by simp)];simp only[go_sem,simprocAttr,B2,p,g1,d,n,w,t,↓k,fS,e,h];refine po (H0:=H) (ys:=[[.int .u32 c.s]]) g2 (ar2 _ _) q (by omega) (by intro el A;rw[ahe.1 A];rfl) rfl (by unfold room;simp;omega) λv' W C G=>?_
    simp only[go_sem,simprocAttr];have l:aQ N W v' 1 bZ ((under s.T c.r++[c.s]).map hC):=by rw[ahs];exact C
    rw[Gs f l (by rw[bD (λ_=>rfl)];omega)];refine⟨_,da rfl (lr q λi O=>?_),aQ.sh l⟩;obtain⟨L,rfl⟩:=G;rw[aeT (by omega)]
theorem ayp: ∃v,D XC (.fn (.func Eh) [] [.ptr a 0,.ptr b 0]) [] ⟨H,lo⟩=some (.ret v ⟨H,lo⟩)/\Rv v 1 ((if(b9 s.K c.s).2=0 then oE s (b9 s.K c.s).1.aL else[]).map hC):=by
 suffices n: ∃g,D XC (.fn (.func Eh) [] [.ptr a 0,.ptr b 0]) [] ⟨H,lo⟩=some g/\ (λg=> ∃v,g=aS.ret v ⟨H,lo⟩/\Rv v 1 ((if(b9 s.K c.s).2=0 then oE s (b9 s.K c.s).1.aL else[]).map hC)) g by grind
 refine vE Lv rfl rfl rfl λN k=>?_
 have j:=λH lo=>c0 (Cu s.K hs.K c.s hc.s H lo)
 have m:=λL=>bc (L:=L) ha
 have f: ∀t:Tok,(fC t).length=5:=λ_=>rfl
 have e: ∀t:Tok,aG (fC t)=0:=λ_=>rfl
 have h: ∀t:Tok,(fC t)[0]?=some (.int .u32 t.aL):=λ_=>rfl
 by_cases l: (b9 s.K c.s).2=0
 ·have d: (((b9 s.K c.s).2:Nat):Int)=0:=by omega
  have ho:=alm s hs (b9 s.K c.s).1.aL (hs.K.get c.s).aL;have i:=cO (z7 s (b9 s.K c.s).1.aL) (bD (λ_=>rfl) _);rw[afJ l];simp only[F1,go_sem,simprocAttr,Lv,k,ha,hb,↓SL,fS,m,f,e,h,j,d,ho,i];exact⟨_,rfl,z7 s _⟩
 ·have d: ¬(((b9 s.K c.s).2:Nat):Int)=0:=by omega
  rw[afB l];simp only[F1,go_sem,simprocAttr,Lv,k,ha,hb,↓SL,fS,f,e,j,d];exact⟨_,rfl,.ai⟩
theorem ayq{u:Nat}(l:H[u]?=some (.box [.fn (.func pA) [] [.ptr a 0,.ptr b 0]] none))(h:H[i]?=some (.box [.fn (.func Ef) [] [.ptr a 0,.ptr b 0]] none)):
  ∃v,D XC (.fn (.func Ei) [] [.ptr b 0,.ptr i 0,.ptr u 0]) [] ⟨H,lo⟩=some (.ret v ⟨H,lo⟩)/\Rv v 1 ((if c.b=1 then oE s c.r else under s.T c.r).map hC):=by
 suffices n: ∃e,D XC (.fn (.func Ei) [] [.ptr b 0,.ptr i 0,.ptr u 0]) [] ⟨H,lo⟩=some e/\ (λe=> ∃v,e=aS.ret v ⟨H,lo⟩/\Rv v 1 ((if c.b=1 then oE s c.r else under s.T c.r).map hC)) e by grind
 refine vE Ly rfl rfl rfl λN j=>?_
 by_cases k:c.b=1
 ·have d: (c.b:Int)=1:=by omega
  have g:=cO (z7 s c.r) (bD (λ_=>rfl) _);rw[afJ k];simp(disch:=omega) only[F1,go_sem,simprocAttr,Ly,hb,h,fS,d,aln hs hc ha hb,g];exact⟨_,rfl,z7 s _⟩
 ·have d: ¬(c.b:Int)=1:=by omega
  obtain⟨v,J,ak,g1,g2,m⟩:=Ws hs hc ha hb N j none;have f: (H++J).take N=H:=by rw[<-j];simp
  rw[afB k];simp only[go_sem,simprocAttr,Ly,hb,l,fS,d,g1];rw[Gs (dI.of m) g2 (by rw[bD (λ_=>rfl)];omega),f];exact⟨_,rfl,aQ.sh g2⟩
end
abbrev eZ(N:Nat):AV:=.fn (.func Ef) [] [.ptr N 0,.ptr (N+1) 0]
abbrev lC(N:Nat):AV:=.fn (.func pA) [] [.ptr N 0,.ptr (N+1) 0]
abbrev Nc(N:Nat):AV:=.fn (.func Eg) [] [.ptr (N+3) 0,.ptr N 0,.ptr (N+1) 0]
abbrev Nd(N:Nat):AV:=.fn (.func Eh) [] [.ptr N 0,.ptr (N+1) 0]
abbrev Nf(N:Nat):AV:=.fn (.func Ei) [] [.ptr (N+1) 0,.ptr (N+2) 0,.ptr (N+3) 0]
def ayr(N:Nat):List (AV×AV):=[(.int .u8 1,eZ N),(.int .u8 2,eZ N),(.int .u8 3,eZ N),(.int .u8 4,eZ N),(.int .u8 5,eZ N),(.int .u8 10,eZ N),(.int .u8 12,eZ N),(.int .u8 18,eZ N),(.int .u8 19,eZ N),(.int .u8 6,lC N),(.int .u8 7,lC N),(.int .u8 9,lC N),(.int .u8 11,lC N),(.int .u8 8,Nc N),(.int .u8 13,Nd N),(.int .u8 14,Nf N)]
def nN(N k:Nat):List (AV×AV):=(ayr N).take k
theorem ays(N:Nat):ae.map []= .map (nN N 0):=rfl
def mf{N:Nat}{H:List ae}(d:H.length=N)(B:List ae)(f:B.length=4){key:Int}(i:v.refs<=N+5)(h:lM (.int .u8 key) v (nN N k)=some (nN N (k+1)))(lo:oN):
  mj ⟨H++(B++[.map (nN N k)]),lo⟩ .int (.mp (N+4)) (.int .u8 key) v=some ⟨H++(B++[.map (nN N (k+1))]),lo⟩:=by
 simp only[mj,kS,aiZ];have e: (H++(B++[ae.map (nN N k)]))[N+4]?=some (.map (nN N k)):=by grind
 simp only[e,h];have g: (H++(B++[ae.map (nN N k)])).set (N+4) (.map (nN N (k+1)))=H++(B++[.map (nN N (k+1))]):=by
  rw[aqk _ _ (by omega),aqk _ _ (by omega)];simp[d,f]
 simp only[AS.set,g]
 grind
def GM(N d:Nat):Option AV:=
 if[1,2,3,4,5,10,12,18,19].contains d then some (eZ N)
 else if[6,7,9,11].contains d then some (lC N)
 else if d=8 then some (Nc N)else if d=13 then some (Nd N)else if d=14 then some (Nf N)else none
def ayt(N d:Nat):dS (.int .u8 d) (nN N 16)=some (GM N d):=by
 have key: ∀ (es:List (Nat×AV)),dS (.int .u8 d) (es.map λx=>(.int .u8 (x.1:Nat),x.2))=some ((es.find? λx=>decide (x.1=d)).map (·.2)):=by
  intro es
  induction es with
  |nil=>rfl
  |cons x xs j=>
   simp only[aoZ,dS,oX,aiZ,List.find?_cons]
   grind
 have e:nN N 16=[(1,eZ N),(2,eZ N),(3,eZ N),(4,eZ N),(5,eZ N),(10,eZ N),(12,eZ N),(18,eZ N),(19,eZ N),(6,lC N),(7,lC N),(9,lC N),(11,lC N),(8,Nc N),(13,Nd N),(14,Nf N)].map λx:Nat×AV=>(.int .u8 (x.1:Nat),x.2):=rfl
 rw[e,key];by_cases h:d<=19
 ·rcases(show d=0\/d=1\/d=2\/d=3\/d=4\/d=5\/d=6\/d=7\/d=8\/d=9\/d=10\/d=11\/d=12\/d=13\/d=14\/d=15\/d=16\/d=17\/d=18\/d=19 by omega)with q|q|q|q|q|q|q|q|q|q|q|q|q|q|q|q|q|q|q|q<;>subst q<;>rfl
 ·have hc: ∀l:lN,l.all (λk=>decide (k<=19))=true->l.contains d=false:=by
    intro l g;rw[Bool.eq_false_iff];intro hm;have:=ahp.1 g d (by simpa using hm);simp at this;omega
  have f: ∀l:List (Nat×AV),(l.map (·.1)).all (λk=>decide (k<=19))=true->l.find? (λx=>decide (x.1=d))=none:=by
   intro l g;rw[aC5];intro x i;have:=ahp.1 g x.1 (List.mem_map_of_mem i);simp at this⊢;omega
  rw[f _ rfl];unfold GM;rw[hc _ rfl,hc _ rfl,afB (by simp),afB (by simp),afB (by omega),afB (by omega),afB (by omega)];rfl
def ayu{s:bG}(hs:bh s){c:cp}(hc:jQ c)(H:List ae)(lo:oN):
  ∃v,D XC (.fn (.func I5) [] []) [.agg (bz s),.agg (bf c)] ⟨H,lo⟩=some (.ret v ⟨H,lo⟩)/\Rv v 1 ((sW s c).map hC):=by
 suffices X: ∃r,D XC (.fn (.func I5) [] []) [.agg (bz s),.agg (bf c)] ⟨H,lo⟩=some r/\ (λr=> ∃v,r=aS.ret v ⟨H,lo⟩/\Rv v 1 ((sW s c).map hC)) r by
  obtain⟨r,h1,v,rfl,Z⟩:=X;exact⟨v,h1,Z⟩
 refine cy Sw λN d=>?_
 have V:N<=N+1:=by omega
 have U:N<=N+2:=by omega
 have Y: (eZ N).refs=N+2:=by simp[AV.refs,aG]
 have P: (lC N).refs=N+2:=by simp[AV.refs,aG]
 obtain⟨B,hB⟩: ∃B:List ae,B=[.box (bz s) none,.box (bf c) none,.box [eZ N] none,.box [lC N] none]:=⟨_,rfl⟩;have hm:=ays N;have G:=mf (k:=0) (key:=1) (v:=eZ N) d B (by rw[hB];rfl) (by simp[AV.refs,aG]) rfl;have F:=mf (k:=1) (key:=2) (v:=eZ N) d B (by rw[hB];rfl) (by simp[AV.refs,aG]) rfl;have C:=mf (k:=2) (key:=3) (v:=eZ N) d B (by rw[hB];rfl) (by simp[AV.refs,aG]) rfl;have A:=mf (k:=3) (key:=4) (v:=eZ N) d B (by rw[hB];rfl) (by simp[AV.refs,aG]) rfl;have z:=mf (k:=4) (key:=5) (v:=eZ N) d B (by rw[hB];rfl) (by simp[AV.refs,aG]) rfl;have y:=mf (k:=5) (key:=10) (v:=eZ N) d B (by rw[hB];rfl) (by simp[AV.refs,aG]) rfl;have x:=mf (k:=6) (key:=12) (v:=eZ N) d B (by rw[hB];rfl) (by simp[AV.refs,aG]) rfl;have w:=mf (k:=7) (key:=18) (v:=eZ N) d B (by rw[hB];rfl) (by simp[AV.refs,aG]) rfl;have p8:=mf (k:=8) (key:=19) (v:=eZ N) d B (by rw[hB];rfl) (by simp[AV.refs,aG]) rfl;have u:=mf (k:=9) (key:=6) (v:=lC N) d B (by rw[hB];rfl) (by simp[AV.refs,aG]) rfl;have o:=mf (k:=10) (key:=7) (v:=lC N) d B (by rw[hB];rfl) (by simp[AV.refs,aG]) rfl;have n:=mf (k:=11) (key:=9) (v:=lC N) d B (by rw[hB];rfl) (by simp[AV.refs,aG]) rfl;have m:=mf (k:=12) (key:=11) (v:=lC N) d B (by rw[hB];rfl) (by simp[AV.refs,aG]) rfl;have l:=mf (k:=13) (key:=8) (v:=Nc N) d B (by rw[hB];rfl) (by simp[AV.refs,aG]) rfl;have j:=mf (k:=14) (key:=13) (v:=Nd N) d B (by rw[hB];rfl) (by simp[AV.refs,aG]) rfl;have i:=mf (k:=15) (key:=14) (v:=Nf N) d B (by rw[hB];rfl) (by simp[AV.refs,aG]) rfl;rw[hB]at G F C A z y x w p8 u o n m l j i;simp only[alb,aj8]at G F C A z y x w p8 u o n m l j i;simp only[go_sem,simprocAttr,Sw,d,V,U,hm,Y,P,fS,G,F,C,A,z,y,x,w,p8,u,o,n,m,l,j,i];have O: ∀E:AS,E.heap[N+4]?=some (.map (nN N 16))->gP XC.fb E .int .cJ (.mp (N+4)) (.int .u8 c.op) true=some (match GM N c.op with|some v=>.au [v,.bool true]|none=>.au [.cJ,.bool false]):=by
  intro E h;simp only[gP,kS,aiZ,mapOf,h,ayt];cases GM N c.op<;>rfl
 rw[O _ (by rw[bA d];rfl)];obtain⟨W,g⟩: ∃W,W=H++[.box (bz s) none,.box (bf c) none,.box [eZ N] none,.box [lC N] none,.map (nN N 16)]:=⟨_,rfl⟩;have w0:W[N]?=some (.box (bz s) none):=by rw[g,di d];rfl
 have w1:W[N+1]?=some (.box (bf c) none):=by rw[g,bA d];rfl
 have T:W[N+2]?=some (.box [eZ N] none):=by rw[g,bA d];rfl
 have R:W[N+3]?=some (.box [lC N] none):=by rw[g,bA d];rfl
 have wt: ∀L,(W++L).take N=H:=λL=>by rw[g,afL,mr d]
 have e:W.take N=H:=by rw[g,mr d]
 have Q:W.length=N+5:=by rw[g];simp[d]
 rw[<-g];unfold sW GM;by_cases p: [1,2,3,4,5,10,12,18,19].contains c.op
 ·simp only[p,aiZ];have K:=cO (z7 s c.r) (bD (λ_=>rfl) _);simp only[F1,go_sem,simprocAttr,aln hs hc w0 w1,K,e];exact⟨_,rfl,z7 s _⟩
 ·by_cases q: [6,7,9,11].contains c.op
  ·obtain⟨v,J,ak,g1,g2,g3⟩:=Ws hs hc w0 w1 (N+5) Q none;simp only[p,q,aiZ,amJ,ahf];simp only[go_sem,simprocAttr,g1];rw[Gs (dI.le (dI.of g3) (by omega)) (aQ.le (M:=N) g2 (by omega)) (by rw[bD (λ_=>rfl)];omega),wt];exact⟨_,rfl,aQ.sh g2⟩
  ·by_cases t:c.op=8
   ·obtain⟨v,g1,g2⟩:=ayo hs hc w0 w1 none R;have f:=cO g2 (bD (λ_=>rfl) _);simp only[afB p,afB q,afJ t];simp only[F1,go_sem,simprocAttr,g1,f,e];exact⟨_,rfl,g2⟩
   ·by_cases I:c.op=13
    ·obtain⟨v,g1,g2⟩:=ayp hs hc w0 w1 none;have f:=cO g2 (bD (λ_=>rfl) _);simp only[afB p,afB q,afB t,afJ I];simp only[F1,go_sem,simprocAttr,g1,f,e];exact⟨_,rfl,g2⟩
    ·by_cases S:c.op=14
     ·obtain⟨v,g1,g2⟩:=ayq hs hc w0 w1 none R T;have f:=cO g2 (bD (λ_=>rfl) _);simp only[afB p,afB q,afB t,afB I,afJ S];simp only[F1,go_sem,simprocAttr,g1,f,e];exact⟨_,rfl,g2⟩
     ·simp only[p,q,t,I,S,amJ,ahf];simp only[F1,go_sem,simprocAttr,e];exact⟨_,rfl,.ai⟩
end Go.Proofs.YteplichagkpciaaGreatDoor
