/- A part. -/
import Derived.Test.YtcdeobefbpnfeaaGreatDoorM1
set_option linter.all false
set_option maxRecDepth 10000
set_option maxHeartbeats 1000000
namespace Go.Proofs.YtcdeobefbpnfeaaGreatDoor
open Go Go.Den
variable{t:aw}{n a p k e sz r i aa:Nat}{v bk:AV}{lo:oN}{x y:aC}{b:cT}{m:Marks}{α β:Type}{l:fA}
def asH:=@List.Pairwise.imp_of_mem
def au0:=@List.nodup_cons
def avk:=@List.nodup_iff_pairwise_ne
def az1:=@eq_false
def aAM:=@List.nodup_range
def rK(o:bK)(t:aw)(p:Ow->Bool)(h:Nat):Bool:=decide (root t h=h)&&p (bP o t h)
def fR(o:bK)(t:aw)(p:Ow->Bool):lN:=(bo t.b).filter (rK o t p)
def xy(o:bK)(t:aw)(p:Ow->Bool)(n:Nat):lN:=((bo t.b).take n).filter (rK o t p)
def auo{o:bK}{p:Ow->Bool}(h:n< (bo t.b).length):xy o t p (n+1)=if rK o t p ((bo t.b).getD n default)then xy o t p n++[(bo t.b).getD n default]else xy o t p n:=by
 unfold xy;rw[agu,adQ h,aoU,getD_eq h]
 grind
def aup{o:bK}{p:Ow->Bool}: (xy o t p n).length<=n:=agD (ahK _ _) (by grind)
def aiE(o:bK)(ho:fQ o)(t:aw)(z:bT t)(V:ca t)(fv:AV)(p:Ow->Bool)(N:Nat)(H:List ae)(A:H.length=N)
  (hf: ∀x L,xv x->D X fv [.agg (jZ x)] ⟨H++L,none⟩=some (.ret (.bool (p x)) ⟨H++L,none⟩)) (lo:oN):
  ∃w,D X (.fn (.func 104) [] []) [.agg (cP o),.agg (aN t),fv] ⟨H,lo⟩=some (.ret w ⟨H,lo⟩)/\Rv w 1 ((fR o t p).map hC)/\w.refs=0:=by
 suffices hs: ∃E,D X (.fn (.func 104) [] []) [.agg (cP o),.agg (aN t),fv] ⟨H,lo⟩=some E/\ (λE=> ∃w,E=aX.ret w ⟨H,lo⟩/\Rv w 1 ((fR o t p).map hC)/\w.refs=0) E by
  obtain⟨E,h1,w,rfl,h2⟩:=hs;exact⟨w,h1,h2⟩
 refine cA Q0 λM W=>?_
 obtain rfl:M=N:=by rw[<-W,A]
 obtain⟨v,J,e1,G⟩:=L6 t.b z.b (M+2) (H++[.box (cP o) none,.box (aN t) none]) (by simp[A]) none;have y:D X (.fn (.func 19) [] []) [.agg (b9 t.b)] ⟨H++[.box (cP o) none,.box (aN t) none],none⟩=some _:=ql (p:=mn) rfl e1;have b:=(iZ G none).bJ;have sd:=lC t.b;rw[aev]at y G b;obtain⟨q,u⟩: ∃q,q=[ae.box (cP o) none,.box (aN t) none]++J:=⟨_,rfl⟩;have Y: ∀L,(H++(q++L))[M]?=some (.box (cP o) none):=λL=>by rw[dq A,u];rfl
 have g1: ∀L,(H++(q++L))[M+1]?=some (.box (aN t) none):=λL=>by rw[bA A,u];rfl
 rw[<-u]at y G b;simp only[go_sem,simprocAttr,Q0,W,y,b];refine dQ (bo t.b).length (λn e H'=> ∃L,H'=H++(q++L)/\ (∃B,e 7=B/\aP (M+q.length) H' B 1 b8 ((xy o t p n).map hC))/\e 2=fv/\e 3= .ptr M 0/\e 4= .ptr (M+1) 0/\e 12=v/\e 13= .int .i64 (bo t.b).length/\e 14= .int .i64 n) 0 (by omega) ?_ ?_
 ·simp only[go_sem,simprocAttr];exact⟨[],by simp,_,rfl,aP.aq⟩
 rintro n hn e H' ⟨L,rfl,⟨B,e7,a⟩,O,K,I,m,l,k⟩ n' HI;simp only[bO,go_sem,simprocAttr,afA,e7,m,l,k];refine⟨λhc=>?_,λhc=>?_⟩
 ·have f:n< (bo t.b).length:=by omega
  have Q:=(gi z.b).1 (dY f);have d:=auo (o:=o) (p:=p) f;have g:Rd ⟨H++(q++L),none⟩ v 1 ((bo t.b).map hC):=iZ (by have:=G.ext (L:=L);rwa[aev]at this) none;have F:=g.cp (X:=X) (off:=0) (n:=1) (agg:=false) f;rw[pH]at F;have sc:=aup (o:=o) (t:=t) (p:=p) (n:=n);generalize(bo t.b).getD n default=h at*;have T:=fF Q;have r:=λH lo=>up dw (xn t z V h T H lo)
  have C:=λH lo=>up dw (z9 o ho t z V h T H lo)
  have i:=hf (bP o t h) (q++L) (ho.of t h);have c:rK o t p h=(decide (root t h=h)&&p (bP o t h)):=rfl;have U: ∀ak:oN,True:=λ_=>trivial
  by_cases Z:root t h=h
  ·have j:decide ((root t h:Int)=(h:Nat))=true:=aeD (by omega);rw[aeD Z,alk]at c;cases S:p (bP o t h)
   ·rw[S]at i c;rw[c,aeu (by simp)]at d;simp(disch:=omega) only[go_sem,simprocAttr,O,K,I,e7,m,l,k,g.bW,F,Y,g1,r,C,j,i];exact⟨by omega,f,L,rfl,B,rfl,by rw[d];exact a⟩
   ·rw[S]at i c;rw[c,aez rfl]at d;simp only[go_sem,simprocAttr,O,K,I,e7,g.bW,F,Y,g1,r,C,j,i];refine⟨by omega,pE (H0:=H++q) (ys:=[[.int .u32 (h:Nat)]]) a ⟨_,aev _ _ _⟩ (by simp[A]) (by omega) (by intro el R;rw[ae5.1 R];rfl) rfl (by unfold room;simp;omega) λv' H2 s P=>?_⟩;obtain⟨L2,rfl⟩:=P;simp(disch:=omega) only[go_sem,simprocAttr,O,K,I,m,l,k];refine⟨f,L2,by simp,v',rfl,?_⟩;rw[d,agp];rwa[aev]at s
  ·have j: ¬((root t h:Nat):Int)=(h:Nat):=by omega
   rw[aeC Z,ahM]at c;rw[c,aeu (by simp)]at d;simp(disch:=omega) only[go_sem,simprocAttr,O,K,I,e7,m,l,k,g.bW,F,g1,r,j];exact⟨by omega,f,L,rfl,B,rfl,by rw[d];exact a⟩
 ·obtain rfl:n=(bo t.b).length:=by omega
  have z:xy o t p (bo t.b).length=fR o t p:=by unfold xy fR;rw[agk]
  rw[z]at a;have h0:cb ((fR o t p).map hC)=0:=bB (λ_=>rfl) _;rw[aP.D5 (aP.le a (by omega)) (by omega)];refine⟨_,dk rfl (kj A),a.pG,cL a.pG h0⟩
def j5(aa:Nat)(x:Ow):Bool:=decide (x.kind=1)&&decide (x.aa=aa)
def j6(aa:Nat)(x:Ow):Bool:=decide (x.kind=3)&& (decide (aa<8)&&mO x.hold aa)
theorem Aa(x:Ow):jZ x=[.int .u8 x.kind,.int .u8 x.aa,.int .u8 x.hold]:=rfl
def auq(aa:Nat)(x:Ow)(d:xv x)(q:Nat)(H:List ae)(e:H[q]?=some (.box [.int .i64 (aa:Nat)] none))(lo:oN):
  D X (.fn (.func 107) [] [.ptr q 0]) [.agg (jZ x)] ⟨H,lo⟩=some (.ret (.bool (j5 aa x)) ⟨H,lo⟩):=by
 refine fj KH λN b=>?_
 have f: ∀L,(H++L)[q]?=_:=λL=>bf e
 have:=d.aa;by_cases c:x.kind=1
 ·have a: (x.kind:Int)=1:=by omega
  simp(disch:=omega) only[F1,go_sem,simprocAttr,KH,b,Aa,f,a];refine dk (ahX AV.bool ?_) rfl;unfold j5;grind
 ·have a: ¬(x.kind:Int)=1:=by omega
  simp only[F1,go_sem,simprocAttr,KH,b,Aa,a];unfold j5;grind
def aur(aa:Nat)(k:aa<256)(x:Ow)(h:xv x)(q:Nat)(H:List ae)(i:H[q]?=some (.box [.int .i64 (aa:Nat)] none))(lo:oN):
  D X (.fn (.func 105) [] [.ptr q 0]) [.agg (jZ x)] ⟨H,lo⟩=some (.ret (.bool (j6 aa x)) ⟨H,lo⟩):=by
 refine fj FA λN e=>?_
 have f: ∀L,(H++L)[q]?=_:=λL=>bf i
 have j:=λH lo=>up dw (Ud aa (by omega) H lo)
 have hand:=Mi h.hold (z7 aa);have d:=ail (x:=x.hold) (aa:=aa);by_cases c:x.kind=3
 ·have b: (x.kind:Int)=3:=by omega
  have c0: (aa:Int)>=0:=by omega
  by_cases g:aa<8
  ·have a: (aa:Int)<8:=by omega
   simp only[F1,go_sem,simprocAttr,FA,e,Aa,f,b,c0,a,j,hand,d];unfold j6;rw[aeD c,aeD g];rfl
  ·have a: ¬(aa:Int)<8:=by omega
   simp only[F1,go_sem,simprocAttr,FA,e,Aa,f,b,c0,a];unfold j6;rw[aeD c,aeC g];rfl
 ·have b: ¬(x.kind:Int)=3:=by omega
  simp only[F1,go_sem,simprocAttr,FA,e,Aa,b];unfold j6;rw[aeC c];rfl
def aiF(o:bK)(ho:fQ o)(t:aw)(c:bT t)(d:ca t)(aa:Nat)(H:List ae)(lo:oN):
  ∃w,D X (.fn (.func 72) [] []) [.agg (cP o),.agg (aN t),.int .i64 aa] ⟨H,lo⟩=some (.ret w ⟨H,lo⟩)/\Rv w 1 ((fR o t (j5 aa)).map hC)/\w.refs=0:=by
 obtain⟨N,f⟩: ∃N,H.length=N:=⟨_,rfl⟩;obtain⟨w,e1,e,e3⟩:=aiE o ho t c d (.fn (.func 107) [] [.ptr (N+2) 0]) (j5 aa) (N+3) (H++[.box (cP o) none,.box (aN t) none,.box [.int .i64 aa] none]) (by grind)
  (λx L b=>auq aa x b (N+2) _ (by simp_all) none) none
 refine⟨w,?_,e,e3⟩;refine aH QO λM a=>?_
 obtain rfl:M=N:=by omega
 simp only[go_sem,simprocAttr,QO,a,e1];rw[oR e3,kj a]
def aiG(o:bK)(ho:fQ o)(t:aw)(d:bT t)(e:ca t)(aa:Nat)(a:aa<256)(H:List ae)(lo:oN):
  ∃w,D X (.fn (.func 71) [] []) [.agg (cP o),.agg (aN t),.int .i64 aa] ⟨H,lo⟩=some (.ret w ⟨H,lo⟩)/\Rv w 1 ((fR o t (j6 aa)).map hC)/\w.refs=0:=by
 obtain⟨N,g⟩: ∃N,H.length=N:=⟨_,rfl⟩;obtain⟨w,e1,f,e3⟩:=aiE o ho t d e (.fn (.func 105) [] [.ptr (N+2) 0]) (j6 aa) (N+3) (H++[.box (cP o) none,.box (aN t) none,.box [.int .i64 aa] none]) (by grind)
  (λx L c=>aur aa a x c (N+2) _ (by simp_all) none) none
 refine⟨w,?_,f,e3⟩;refine aH QN λM b=>?_
 obtain rfl:M=N:=by omega
 simp only[go_sem,simprocAttr,QN,b,e1];rw[oR e3,kj b]
theorem aiH(a b:Int):o9 (.int .u8 a) (.int .u8 b)=some (decide (a=b)):=by rfl
def Mk{a b:Int}{es:List (AV×AV)}:eu (.int .u8 a) ((.int .u8 b,v)::es)=if a=b then some (some v)else eu (.int .u8 a) es:=by
 simp only[eu,aiH]
 grind
theorem aiI{a:Int}{v:AV}: ∀ {es:List (AV×AV)},(∀e∈es,∃j:Int,e.1= .int .u8 j/\a≠j)->lU (.int .u8 a) v es=some (es++[(.int .u8 a,v)])
 | [],_=>rfl
 | (k,u)::es,h=>by
   obtain⟨j,c,b⟩:=h _ (alc ..);subst c;simp only[lU,aiH,b,ax4];rw[aiI λe he=>h e (agE _ he)];rfl
def Ui{H:List ae}(b:H.length=p){a:Int}{es:List (AV×AV)}(h: ∀e∈es,∃j:Int,e.1= .int .u8 j/\a≠j)(c:v.refs<=p+1):
  mw ⟨H++[.map es],lo⟩ .int (.mp p) (.int .u8 a) v=some ⟨H++[.map (es++[(.int .u8 a,v)])],lo⟩:=by
 unfold mw;rw[aez (show kR .int (.int .u8 a)=true from rfl)];simp only[dq b,aqQ,aiI h];simp only[AS.set];simp_all
def Uj{gm:Nat->Option (List (AV×AV))}{H:List ae}{id:Nat}{es:List (AV×AV)}{a:Int}{z:AV}{r:Option AV}(h:H[id]?=some (.map es))(b:eu (.int .u8 a) es=some r):
  jx gm ⟨H,lo⟩ .int z (.mp id) (.int .u8 a) true=some (match r with|some v=>.ax [v,.bool true]|none=>.ax [z,.bool false]):=by
 unfold jx;rw[aez (show kR .int (.int .u8 a)=true from rfl)];simp only[mapOf,h,b]
 grind
section
variable(T:aw)(hT:bT T)(xz:ca T)(O:bK)(K:bq)(hK:gW K)(h:Nat)(hh:h<4294967296)(pw ph:Nat)(H:List ae)(hw:H[pw]?=some (.box (gL T O K) none))(pA:H[ph]?=some (.box [.int .u32 h] none))(lo:oN)
include hT xz hK hh hw pA
omit hT xz hh in
theorem aus:D X (.fn (.func 329) [] [.ptr pw 0,.ptr ph 0]) [] ⟨H,lo⟩=some (.ret (.bool (xf K h 0)) ⟨H,lo⟩):=by
 refine fj SE λN b=>?_
 have a: ∀H lo,D X (.fn (.func 330) [] []) [.agg (ch K),.int .u32 h,.int .u32 0] ⟨H,lo⟩=_:=ait K hK h 0 (by omega);simp(disch:=omega) only[F1,go_sem,simprocAttr,SE,b,hw,pA,↓rj,a]
omit hT xz hh in
theorem aut:D X (.fn (.func 331) [] [.ptr pw 0,.ptr ph 0]) [] ⟨H,lo⟩=some (.ret (.bool (zI K h 0)) ⟨H,lo⟩):=by
 refine fj SF λN b=>?_
 have a: ∀H lo,D X (.fn (.func 332) [] []) [.agg (ch K),.int .u32 h,.int .u32 0] ⟨H,lo⟩=_:=aiu K hK h 0 (by omega);simp(disch:=omega) only[F1,go_sem,simprocAttr,SF,b,hw,pA,↓rj,a]
omit hT xz hh pA in
theorem auu(x:Nat):D X (.fn (.func 335) [] [.ptr pw 0]) [.int .u32 x] ⟨H,lo⟩=some (.ret (.bool (decide (0< (nw K x).length))) ⟨H,lo⟩):=by
 refine fj SI λN a=>?_
 obtain⟨w,e1,b,e3⟩:=Uf K hK x H none;simp(disch:=omega) only[F1,go_sem,simprocAttr,SI,a,hw,↓rj,e1,b.bJ];exact dk (ahX AV.bool (agv.2 (by omega))) rfl
theorem auv:D X (.fn (.func 333) [] [.ptr pw 0,.ptr ph 0]) [] ⟨H,lo⟩=some (.ret (.bool (!((under T h).any λx=>decide (0< (nw K x).length)))) ⟨H,lo⟩):=by
 refine fj SG λN b=>?_
 obtain⟨v,J,a,e,d,c⟩:=Gl T hT xz h hh N H b none;have f:=ahB dw v (.fn (.func 335) [] [.ptr pw 0]) (under T h) (H++J) d.rd (by have:=z5 xz h;omega) (λx=>decide (0< (nw K x).length)) a (λx _=>auu T O K hK pw (H++J) (bf hw) none x);simp only[go_sem,simprocAttr,SG,hw,pA,↓qa,e,f];rw[iG (eA.of c) (ae4 _),kj b]
end
def auw(T:aw)(hT:bT T)(xz:ca T)(O:bK)(K:bq)(hK:gW K)(h:Nat)(hh:h<4294967296)(b:Nat)(t:b<=2)(H:List ae)(lo:oN):
  D X (.fn (.func 245) [] []) [.agg (gL T O K),.int .u32 h,.int .u8 b] ⟨H,lo⟩=some (.ret (.bool (Ga T K h b)) ⟨H,lo⟩):=by
 refine aH FM λN i=>?_
 obtain⟨o,l⟩: ∃o,o=H++[ae.box (gL T O K) none,.box [.int .u32 h] none]:=⟨_,rfl⟩;have g:o.length=N+2:=by rw[l];simp[i]
 have m: ∀f,(AV.fn (.func f) [] [.ptr N 0,.ptr (N+1) 0]).refs<=N+2+1:=λf=>by simp only[AV.refs,aI];omega
 have k:=Ui g (a:=0) (es:=[]) (lo:=none) (by simp) (m 329);have j:=Ui g (a:=1) (es:=[(.int .u8 0,.fn (.func 329) [] [.ptr N 0,.ptr (N+1) 0])]) (lo:=none) (by simp) (m 331);have m3:=Ui g (a:=2) (es:=[(.int .u8 0,.fn (.func 329) [] [.ptr N 0,.ptr (N+1) 0]),(.int .u8 1,.fn (.func 331) [] [.ptr N 0,.ptr (N+1) 0])]) (lo:=none) (by simp) (m 333);rw[l]at k j m3;simp only[aev,ahY,ah1]at k j m3;obtain⟨e,c⟩: ∃e,e=H++[ae.box (gL T O K) none,.box [.int .u32 h] none,.map [(.int .u8 0,.fn (.func 329) [] [.ptr N 0,.ptr (N+1) 0]),(.int .u8 1,.fn (.func 331) [] [.ptr N 0,.ptr (N+1) 0]),(.int .u8 2,.fn (.func 333) [] [.ptr N 0,.ptr (N+1) 0])]]:=⟨_,rfl⟩;have n:e[N]?=some (.box (gL T O K) none):=by rw[c,dq i];rfl
 have g1:e[N+1]?=some (.box [.int .u32 h] none):=by rw[c,bA i];rfl
 have g2:e[N+2]?=some (.map [(.int .u8 0,.fn (.func 329) [] [.ptr N 0,.ptr (N+1) 0]),(.int .u8 1,.fn (.func 331) [] [.ptr N 0,.ptr (N+1) 0]),(.int .u8 2,.fn (.func 333) [] [.ptr N 0,.ptr (N+1) 0])]):=by rw[c,bA i];rfl
 have s:=aus O K hK h N (N+1) e (T:=T) n g1 none;have q:=aut O K hK h N (N+1) e (T:=T) n g1 none;have p:=auv T hT xz O K hK h hh N (N+1) e n g1 none;have hw:b=0\/b=1\/b=2:=by omega
 rcases hw with rfl|rfl|rfl
 ·have d:=Uj (gm:=X.fV) (lo:=none) (a:=0) (z:=.du) g2 (r:=some _) (by simp only[Mk,ahJ];rfl);rw[c]at s d;simp only[F1,go_sem,simprocAttr,FM,i,k,j,m3,d,s];rfl
 ·have d:=Uj (gm:=X.fV) (lo:=none) (a:=1) (z:=.du) g2 (r:=some (.fn (.func 331) [] [.ptr N 0,.ptr (N+1) 0])) (by simp[Mk]);rw[c]at q d;simp only[F1,go_sem,simprocAttr,FM,i,k,j,m3,d,q];rfl
 ·have d:=Uj (gm:=X.fV) (lo:=none) (a:=2) (z:=.du) g2 (r:=some (.fn (.func 333) [] [.ptr N 0,.ptr (N+1) 0])) (by simp[Mk]);rw[c]at p d;simp only[F1,go_sem,simprocAttr,FM,i,k,j,m3,d,p];rfl
def Ml(K:bq)(aa h a t:Nat):Bool:=decide ((cn K t).1.to=aa)&& ((decide (a=0)&&xf K h t)|| (decide (a=1)&& (cn K t).1.mu&&zI K h t))
def auy(T:aw)(O:bK)(K:bq)(n:gW K)(aa h a t:Nat)(y:t<4294967296)(o p r q:Nat)(H:List ae)(i:H[o]?=some (.box (gL T O K) none))(v:H[p]?=some (.box [.int .i64 aa] none))
  (A:H[r]?=some (.box [.int .u8 a] none)) (z:H[q]?=some (.box [.int .u32 h] none)) (lo:oN):
  D X (.fn (.func 345) [] [.ptr o 0,.ptr p 0,.ptr r 0,.ptr q 0]) [.int .u32 t] ⟨H,lo⟩=some (.ret (.bool (Ml K aa h a t)) ⟨H,lo⟩):=by
 refine fj w8 λN j=>?_
 have g1: ∀L,(H++L)[o]?=_:=λL=>bf i
 have g2: ∀L,(H++L)[p]?=_:=λL=>bf v
 have l: ∀L,(H++L)[r]?=_:=λL=>bf A
 have B: ∀L,(H++L)[q]?=_:=λL=>bf z
 have b:=λH lo=>up dw (CD K n t y H lo)
 have m:=ait K n h t y;have u:=aiu K n h t y;have s:=n.get t;have c:Ml K aa h a t=(decide ((cn K t).1.to=aa)&& ((decide (a=0)&&xf K h t)|| (decide (a=1)&& (cn K t).1.mu&&zI K h t))):=rfl;generalize I: (cn K t).1=x at*;have w:=nH x;rw[w]at b;have G:=s.to;by_cases F:x.to=aa
 ·have d:decide ((x.to:Int)=aa)=true:=aeD (by omega);rw[aeD F,alk]at c;by_cases E:a=0
  ·have f:decide ((a:Int)=0)=true:=aeD (by omega);have e:decide ((a:Int)=1)=false:=aeC (by omega);rw[aeD E,aeC (by omega: ¬a=1),alk,ahM,ahM,Bool.or_false]at c;cases k:xf K h t
   ·rw[k]at m c;simp(disch:=omega) only[F1,go_sem,simprocAttr,w8,j,i,g1,g2,l,B,↓rj,b,d,f,e,m,c]
   ·rw[k]at m c;simp(disch:=omega) only[F1,go_sem,simprocAttr,w8,j,i,g1,g2,l,B,↓rj,b,d,f,m,c]
  ·have f: ¬(a:Int)=0:=by omega
   rw[aeC E,ahM,aqR]at c;by_cases C:a=1
   ·have e:decide ((a:Int)=1)=true:=aeD (by omega);rw[aeD C,alk]at c;cases g:x.mu
    ·rw[g,ahM]at c;simp(disch:=omega) only[F1,go_sem,simprocAttr,w8,j,i,g2,l,↓rj,b,d,f,e,g,c]
    ·rw[g,alk]at c;simp(disch:=omega) only[F1,go_sem,simprocAttr,w8,j,i,g1,g2,l,B,↓rj,b,d,f,e,g,u,c]
   ·have e: ¬(a:Int)=1:=by omega
    rw[aeC C,ahM,ahM]at c;simp(disch:=omega) only[F1,go_sem,simprocAttr,w8,j,i,g2,l,↓rj,b,d,f,e,c]
 ·have d: ¬(x.to:Int)=aa:=by omega
  rw[aeC F,ahM]at c;simp(disch:=omega) only[F1,go_sem,simprocAttr,w8,j,i,g2,↓rj,b,d,c]
def auz(T:aw)(O:bK)(K:bq)(f:gW K)(aa h a:Nat)(H:List ae)(lo:oN):
  D X (.fn (.func 328) [] []) [.agg (gL T O K),.int .i64 aa,.int .u32 h,.int .u8 a] ⟨H,lo⟩=some (.ret (.bool (Gb K aa h a)) ⟨H,lo⟩):=by
 refine aH SD λN e=>?_
 obtain⟨d,b⟩: ∃d,d=H++[ae.box (gL T O K) none,.box [.int .i64 aa] none,.box [.int .u32 h] none,.box [.int .u8 a] none]:=⟨_,rfl⟩;have k:d[N]?=some (.box (gL T O K) none):=by rw[b,dq e];rfl
 have g1:d[N+1]?=some (.box [.int .i64 aa] none):=by rw[b,bA e];rfl
 have g2:d[N+2]?=some (.box [.int .u32 h] none):=by rw[b,bA e];rfl
 have j:d[N+3]?=some (.box [.int .u8 a] none):=by rw[b,bA e];rfl
 obtain⟨w,e1,l,e3⟩:=Uf K f h d none;have c: (nw K h).length<2^40:=by
  have:=lC K.b;have: (nw K h).length<=_:=ahK _ _;omega
 have g:=ahB dw w (.fn (.func 345) [] [.ptr N 0,.ptr (N+1) 0,.ptr (N+3) 0,.ptr (N+2) 0]) (nw K h) d (l _) c (Ml K aa h a) none
  (λt i=>auy T O K f aa h a t (fF ((gi f.b).1 (agy.1 i).1)) N (N+1) (N+3) (N+2) d k g1 j g2 none)
 have m:Gb K aa h a=(nw K h).any (Ml K aa h a):=rfl;rw[b]at e1 g;simp only[F1,go_sem,simprocAttr,SD,e,↓rj,e1,g,m]
def Uk{x:Nat}(a:x<256)(b:k<8):decide ((x/2^k) % 2=1)=x.testBit k:=by grind
def auA(T:aw)(M:bT T)(v:ca T)(O:bK)(P:fQ O)(K:bq)(Q:gW K)(aa:Nat)(S:aa<256)(h:Nat)(F:h<4294967296)(c:Nat)(B:c<=2)(H:List ae)(lo:oN):
  D X (.fn (.func 302) [] []) [.agg (gL T O K),.int .i64 aa,.int .u32 h,.int .u8 c] ⟨H,lo⟩=some (.ret (.int .i64 (xg T O K aa h c:Nat)) ⟨H,lo⟩):=by
 refine aH nq λN n=>?_
 have g:=λH lo=>up dw (eP T.b h F H lo)
 have G: ∀h,az T.b h=T.az h:=λh=>rfl
 simp only[G]at g;have k:=λH lo=>up dw (z9 O P T M v h F H lo)
 have m:=auw T M v O K Q h F c B;have hle:=auz T O K Q aa h c;have s:=P.of T h;have a:Den.part true 96 (gL T O K) 0=some (.agg (b9 T.b)):=by
  have e:gL T O K=b9 T.b++(xb T.r++(cP O++ch K)):=by simp[gL,aN]
  rw[e];exact xd (oH _) (by omega)
 have d:Den.part true 784 (gL T O K) 0=some (.agg (gL T O K)):=vo (lp _ _ _);have f:xg T O K aa h c=if T.az h=false then 4
  else if(bP O T h).kind=3 then(if c=0/\aa<8/\ (bP O T h).hold.testBit aa=true then 0 else 5)
  else if(bP O T h).kind=1 then(if((bP O T h).aa=aa/\Ga T K h c=true)\/Gb K aa h c=true then 0 else 5)
  else 5:=rfl
 generalize V:bP O T h=x at*;have C:=Aa x;rw[C]at k;cases z:T.az h with
 |false=>
  rw[aez z]at f;rw[z]at g;simp only[F1,go_sem,simprocAttr,nq,n,↓a,g,f]
 |true=>
  rw[aeu (by rw[z];simp)]at f;rw[z]at g;by_cases J:x.kind=3
  ·have j:decide ((x.kind:Int)=3)=true:=aeD (by omega);rw[aez J]at f;by_cases w:c=0
   ·have i: (c:Int)=0:=by omega
    have c0: (aa:Int)>=0:=by omega
    by_cases I:aa<8
    ·have r: (aa:Int)<8:=by omega
     have t:k0 .shr (.int .u8 (x.hold:Nat)) (.int .i64 (aa:Nat))=some (.int .u8 ((x.hold/2^aa:Nat):Int)):=by
      rw[D1,aez (by omega)];have U:IntKind.u8.bits=8:=rfl;rw[U,aAH,aqC (by omega)]
      congr 2
      rw[Int.fdiv_eq_ediv_of_nonneg _ (Int.le_of_lt (Int.pow_pos (by decide)))];simp
     have E:x.hold/2^aa<256:=Nat.lt_of_le_of_lt (Nat.div_le_self _ _) s.hold;have hand:dp .and (.int .u8 ((x.hold/2^aa:Nat):Int)) (.int .u8 1)=some (.int .u8 ((x.hold/2^aa % 2:Nat):Int)):=by
      have:=Mi (b:=1) E (by omega);have e:x.hold/2^aa&&&1=x.hold/2^aa % 2:=Nat.and_one_is_mod _;rw[e]at this;exact this
     have p:=Uk s.hold I;cases A:x.hold.testBit aa
     ·rw[A,aeu (by simp)]at f;rw[A]at p;have o: ¬((x.hold/2^aa % 2:Nat):Int)=1:=by
       have:=of_decide_eq_false p;omega
      simp only[F1,go_sem,simprocAttr,nq,n,↓a,↓qb,↓qa,g,k,j,i,c0,r,t,hand,o,f]
     ·rw[A,aez ⟨w,I,rfl⟩]at f;rw[A]at p;have o:decide (((x.hold/2^aa % 2:Nat):Int)=1)=true:=by
       have:=aqA p;exact aeD (by omega)
      simp only[F1,go_sem,simprocAttr,nq,n,↓a,↓qb,↓qa,g,k,j,i,c0,r,t,hand,o,f]
    ·have r: ¬(aa:Int)<8:=by omega
     rw[aeu (λq=>I q.2.1)]at f;simp only[F1,go_sem,simprocAttr,nq,n,↓a,↓qb,↓qa,g,k,j,i,c0,r,f]
   ·have i: ¬(c:Int)=0:=by omega
    rw[aeu (λq=>w q.1)]at f;simp only[F1,go_sem,simprocAttr,nq,n,↓a,↓qb,↓qa,g,k,j,i,f]
  ·have j: ¬(x.kind:Int)=3:=by omega
   rw[aeu J]at f;by_cases L:x.kind=1
   ·have l:decide ((x.kind:Int)=1)=true:=aeD (by omega);rw[aez L]at f;have R:=s.aa;cases y:Gb K aa h c<;>by_cases w:x.aa=aa
    ·have i:decide ((x.aa:Int)=aa)=true:=aeD (by omega);rw[y]at hle f;cases u:Ga T K h c
     ·rw[u]at m f;rw[aeu (by simp)]at f;simp(disch:=omega) only[F1,go_sem,simprocAttr,nq,n,↓a,↓qb,↓qa,↓d,g,k,j,l,i,m,hle,f]
     ·rw[u]at m f;rw[aez (.inl ⟨w,rfl⟩)]at f;simp(disch:=omega) only[F1,go_sem,simprocAttr,nq,n,↓a,↓qb,↓qa,↓d,g,k,j,l,i,m,f]
    ·have i: ¬(x.aa:Int)=aa:=by omega
     rw[y]at hle f;rw[aeu (by simp[w])]at f;simp(disch:=omega) only[F1,go_sem,simprocAttr,nq,n,↓a,↓qb,↓qa,↓d,g,k,j,l,i,hle,f]
    ·have i:decide ((x.aa:Int)=aa)=true:=aeD (by omega);rw[y]at hle f;rw[aez (.inr rfl)]at f;cases u:Ga T K h c
     ·rw[u]at m;simp(disch:=omega) only[F1,go_sem,simprocAttr,nq,n,↓a,↓qb,↓qa,↓d,g,k,j,l,i,m,hle,f]
     ·rw[u]at m;simp(disch:=omega) only[F1,go_sem,simprocAttr,nq,n,↓a,↓qb,↓qa,↓d,g,k,j,l,i,m,f]
    ·have i: ¬(x.aa:Int)=aa:=by omega
     rw[y]at hle f;rw[aez (.inr rfl)]at f;simp(disch:=omega) only[F1,go_sem,simprocAttr,nq,n,↓a,↓qb,↓qa,↓d,g,k,j,l,i,hle,f]
   ·have l: ¬(x.kind:Int)=1:=by omega
    rw[aeu L]at f;simp only[F1,go_sem,simprocAttr,nq,n,↓a,↓qb,↓qa,g,k,j,l,f]
structure vK(m:kH):Prop where
 fr:m.fr<8
 word:m.word<18446744073709551616
 aQ:m.aQ<4294967296
structure jq(b:cT):Prop where
 fr:b.fr<4
 n:b.n<=4
 ring: ∀i,vK (b.ring i)
def Ul:vK zJ:=⟨by trivial,by trivial,by trivial⟩
def jq.gone:jq zK:=⟨by trivial,by trivial,λ_=>Ul⟩
def jq.close(h:jq b):jq (vy b).1:=by
 unfold vy;split
 ·exact h
 ·exact⟨h.fr,h.n,h.ring⟩
def jq.put(h:jq b){m:kH}(a:vK m):jq (oJ b m).1:=by
 unfold oJ;split
 ·exact h
 ·split
  ·exact h
  ·refine⟨h.fr,by have:=h.n;grind,λi=>?_⟩;show vK (au b.ring (mf b b.n) m i);by_cases e:i=mf b b.n
   ·rw[e,cw];exact a
   ·rw[cR e];exact h.ring i
def jq.take(h:jq b):jq (mQ b).1/\vK (mQ b).2.1:=by
 unfold mQ;split
 ·exact⟨h,Ul⟩
 ·exact⟨⟨aoo _ (by omega),by have:=h.n;grind,h.ring⟩,h.ring _⟩
def aiJ(b:cT)(i:Nat):mf b i<4:=aoo _ (by omega)
def zB:lA:=[.int .u8 0,.int .u64 0,.int .u32 0,.bool false,.int .u8 0,.int .u64 0,.int .u32 0,.bool false,.int .u8 0,.int .u64 0,.int .u32 0,.bool false,.int .u8 0,.int .u64 0,.int .u32 0,.bool false,.int .i64 0,.int .i64 0,.bool false]
theorem aiK:List.take 19 (cC b)=cC b:=by rfl
def MB:=gG @aiK<|gG @zD @agO
theorem oS(m:kH):eL m=[.int .u8 m.fr,.int .u64 m.word,.int .u32 m.aQ,.bool m.share]:=rfl
def Um(b:cT)(d:b.fr<4)(i:Nat)(c:i<1000)(H:List ae)(lo:oN):D X0 (.fn (.func 202) [] []) [.agg (cC b),.int .i64 i] ⟨H,lo⟩=some (.ret (.int .i64 (mf b i:Nat)) ⟨H,lo⟩):=by
 refine aH RJ λN a=>?_
 have e: ((b.fr:Int)+i).tmod 4=(mf b i:Nat):=by rfl
 simp(disch:=omega) only[F1,go_sem,simprocAttr,RJ,a,↓ag4,e]
def Un(b:cT)(l:jq b)(m:kH)(H:List ae)(lo:oN):
  D X0 (.fn (.func 296) [] []) [.agg (cC b),.agg (eL m)] ⟨H,lo⟩=some (.ret (.ax [.agg (cC (oJ b m).1),.int .i64 (oJ b m).2]) ⟨H,lo⟩):=by
 refine aH FU λN j=>?_
 have e:oJ b m=if b.closed then(b,11)else if b.n=4 then(b,7)else({b with ring:=au b.ring (mf b b.n) m,n:=b.n+1},0):=rfl
 have hm:=oS m;cases f:b.closed
 ·rw[f,aeu (by simp)]at e;by_cases k:b.n=4
  ·rw[aez k]at e;have d:decide ((b.n:Int)=4)=true:=aeD (by omega);simp only[F1,go_sem,simprocAttr,FU,j,hm,↓zE,f,↓B9,d,MB,↓ri,e]
  ·rw[aeu k]at e;have d: ¬(b.n:Int)=4:=by omega
   have p:=l.n;have i:=Um b l.fr b.n (by omega);have h:=aiJ b b.n;have a:=ar5 (b:=b) (x:=m) h;rw[hm]at a;have g: ∀c,aJ (cC ⟨au b.ring (mf b b.n) m,b.fr,b.n,c⟩) 17 [.int .i64 ((b.n:Int)+1)]=cC ⟨au b.ring (mf b b.n) m,b.fr,b.n+1,c⟩:=λc=>ag5 (x:=b.n+1)
   have o: (N+1 !=N)=true:=by simp
   simp(disch:=omega) only[F1,go_sem,simprocAttr,FU,j,hm,↓zE,f,↓B9,d,MB,↓ri,i,a,g,e];exact⟨by omega,by omega⟩
 ·rw[f,aez rfl]at e;simp only[F1,go_sem,simprocAttr,FU,j,hm,↓zE,f,MB,↓ri,e]
def bc(x:aC)(bk:AV):lA:=bn x.s++([.int .i64 x.aa]++(bp x.c++(aA x.run++[.int .i64 x.mR,.bool x.asks,bk])))
def Mm(x:aC)(bk:AV): (bc x bk).length=964:=by simp only[bc,aeZ,en];rfl
section
variable{x:aC}{bk:AV}
theorem vL{ag:Bool}{m o:Nat}(ho:o+m<=952)(a:0<m):Den.part ag m (bc x bk) o=Den.part ag m (bn x.s) o:=by
 unfold bc;exact mK (by rw[en];exact ho) a
def oT{ag:Bool}{m o:Nat}(ho:952<=o):Den.part ag m (bc x bk) o=Den.part ag m ([.int .i64 x.aa]++(bp x.c++(aA x.run++[.int .i64 x.mR,.bool x.asks,bk]))) (o-952):=by
 unfold bc;rw[jY (by rw[en];exact ho),en]
def aiL:Den.part true 480 (bc x bk) 0=some (.agg (aN x.s.T)):=by grind [vL,vt]
theorem Uo:Den.part true 96 (bc x bk) 0=some (.agg (b9 x.s.T.b)):=by rfl
def aiM:Den.part true 128 (bc x bk) 480=some (.agg (cP x.s.O)):=by grind [vL,Ca]
def aiN:Den.part true 176 (bc x bk) 608=some (.agg (ch x.s.K)):=by grind [vL,F4]
def aiO:Den.part true 784 (bc x bk) 0=some (.agg (gL x.s.T x.s.O x.s.K)):=by grind [vL,Tl]
def aiP:Den.part true 952 (bc x bk) 0=some (.agg (bn x.s)):=by grind [vL,Tm]
def Mo{i:Nat}(h:i<8):Den.part true 19 (bc x bk) (784+i*19)=some (.agg (cC (x.s.c8 i))):=by grind [vL,ar9]
def Up{i:Nat}(h:i<8):Den.part false 1 (bc x bk) (936+i)=some (.bool (x.s.alive i)):=by grind [vL,LK]
def auB{i:Nat}(h:i<8):Den.part false 1 (bc x bk) (944+i)=some (.bool (x.s.born i)):=by grind [vL,asa]
def aiQ:Den.part false 1 (bc x bk) 952=some (.int .i64 x.aa):=by rw[oT (by omega)];rfl
def aiR:Den.part false 1 (bc x bk) 953=some (.int .u8 x.c.op):=by rw[oT (by omega)];rfl
def aiS:Den.part false 1 (bc x bk) 954=some (.int .u32 x.c.r):=by rw[oT (by omega)];rfl
def aiT:Den.part false 1 (bc x bk) 955=some (.int .u32 x.c.s):=by rw[oT (by omega)];rfl
def aiU:Den.part false 1 (bc x bk) 956=some (.int .u32 x.c.a):=by rw[oT (by omega)];rfl
def aiV:Den.part false 1 (bc x bk) 957=some (.int .u32 x.c.b):=by rw[oT (by omega)];rfl
def aiW:Den.part false 1 (bc x bk) 958=some (.int .u64 x.c.v):=by rw[oT (by omega)];rfl
def aiX:Den.part true 6 (bc x bk) 953=some (.agg (bp x.c)):=by rw[oT (by omega)];rfl
def aiY:Den.part true 2 (bc x bk) 959=some (.agg (aA x.run)):=by rw[oT (by omega)];rfl
def aiZ:Den.part false 1 (bc x bk) 960=some (.int .i64 x.run.2):=by rw[oT (by omega)];rfl
def ai0:Den.part false 1 (bc x bk) 961=some (.int .i64 x.mR):=by rw[oT (by omega)];rfl
def ai1:Den.part false 1 (bc x bk) 962=some (.bool x.asks):=by rw[oT (by omega)];rfl
def ai2:Den.part false 1 (bc x bk) 963=some bk:=by rw[oT (by omega)];rfl
def CL:=gG @aiL<|gG @Uo<|gG @aiM<|gG @aiN<|gG @aiO<|gG @aiP<|gG @aiQ<|gG @aiR<|gG @aiS<|gG @aiT<|gG @aiU<|gG @aiV<|gG @aiW<|gG @aiX<|gG @aiY<|gG @aiZ<|gG @ai0<|gG @ai1 @ai2
def CF{s:bF}{o:Nat}{vs:lA}(ho:o+vs.length<=952)(h:aJ (bn x.s) o vs=bn s):aJ (bc x bk) o vs=bc {x with s:=s} bk:=by
 unfold bc;rw[nr (by rw[en];exact ho),h]
def Uq:aJ (bc x bk) 0 (aN t)=bc (x.t t) bk:=CF (by rw[iw];omega) asb
def ai3{w:bK}:aJ (bc x bk) 480 (cP w)=bc (x.o w) bk:=CF (by rw[sS];omega) asc
def ai4{k:bq}:aJ (bc x bk) 608 (ch k)=bc (x.k k) bk:=CF (by rw[zA];omega) asd
def Mp{i:Nat}{b:cT}(h:i<8):aJ (bc x bk) (784+i*19) (cC b)=bc (x.bx i b) bk:=CF (by rw[zD];omega) (ase h)
def ai5{i:Nat}{v:Bool}(h:i<8):aJ (bc x bk) (936+i) [.bool v]=bc {x with s:={x.s with alive:=au x.s.alive i v}} bk:=CF (by grind) (ag8 h)
def auC{i:Nat}{v:Bool}(h:i<8):aJ (bc x bk) (944+i) [.bool v]=bc {x with s:={x.s with born:=au x.s.born i v}} bk:=CF (by grind) (ag9 h)
def CG{o:Nat}{vs:lA}(ho:952<=o):aJ (bc x bk) o vs=bn x.s++aJ ([.int .i64 x.aa]++(bp x.c++(aA x.run++[.int .i64 x.mR,.bool x.asks,bk]))) (o-952) vs:=by
 unfold bc;rw[fy (by rw[en];exact ho),en]
theorem ai6:aJ (bc x bk) 961 [.int .i64 n]=bc {x with mR:=n} bk:=by rw[CG (by omega)];rfl
def ai7:aJ (bc x bk) 963 [v]=bc x v:=by rw[CG (by omega)];rfl
def CS:=gG @Uq<|gG @ai3<|gG @ai4<|gG @ai6<|gG @ai7 @Mm
end
abbrev ju(e:Nat):AV:=.di uQ (.int .i64 (e:Nat))
theorem ai8{t:TypeId}:Yv (.di t v)=some (.di t v):=rfl
def ai9{X:Ctx}{a:List RV}{R:aX->Prop}{e:Env}{E:AS}:dP X n lo a R (.panic v) ⟨e,[]⟩ E=R (.panic (finish n lo v E).1 (finish n lo v E).2):=by
 simp[dP,dN]
def EP:=gG @ai8 @ai9
def Gt(e:Int)(H:List ae)(lo:oN):D X0 (.fn (.func 161) [] []) [.bool true,.int .i64 e] ⟨H,lo⟩=some (.ret (.ax []) ⟨H,lo⟩):=by
 refine aH FC λN a=>?_
 simp(disch:=omega) only[F1,go_sem,simprocAttr,FC]
def Ab(e:Nat)(H:List ae)(lo:oN):D X0 (.fn (.func 161) [] []) [.bool false,.int .i64 e] ⟨H,lo⟩=some (.panic (ju e) ⟨H,lo⟩):=by
 refine aH FC λN a=>?_
 simp(disch:=omega) only[F1,go_sem,simprocAttr,FC,EP]
def auD(H:List ae)(lo:oN):D X0 (.fn (.func 274) [] []) [.int .i64 0] ⟨H,lo⟩=some (.ret (.ax []) ⟨H,lo⟩):=by
 refine aH FQ λN a=>?_
 simp(disch:=omega) only[F1,go_sem,simprocAttr,FQ,Gt]
def auE(e:Nat)(b:e≠0)(H:List ae)(lo:oN):D X0 (.fn (.func 274) [] []) [.int .i64 e] ⟨H,lo⟩=some (.panic (ju e) ⟨H,lo⟩):=by
 refine aH FQ λN c=>?_
 have a: ¬(e:Int)=0:=by omega
 simp(disch:=omega) only[F1,go_sem,simprocAttr,FQ,Ab,a,EP]
def Ac{X:Ctx}{e:Env}{E:AS}{R:aX->Prop}{b c m:Nat}{ag d:Bool}:dP X n lo [.cell a ag m,.cell b d k,.t c] R .ret ⟨e,[]⟩ E=okV (cm X E ag m (e a)) (λv E=>okV (cm X E d k (e b)) (λu E=>oh n lo R (.ax [v,u,e c]) E) E) E:=by
 simp only[yE,yG,fL,ki,pa];cases h:cm X E ag m (e a)with
 |none=>simp[okV,h]
 |some v=>
  cases f:cm X E d k (e b)with
  |none=>simp[okV,h,f]
  |some u=>simp[okV,oh,h,f]
def auF(b:cT)(i:jq b)(H:List ae)(lo:oN):
  D X0 (.fn (.func 297) [] []) [.agg (cC b)] ⟨H,lo⟩=some (.ret (.ax [.agg (cC (mQ b).1),.agg (eL (mQ b).2.1),.int .i64 (mQ b).2.2]) ⟨H,lo⟩):=by
 refine aH FV λN k=>?_
 have d:mQ b=if b.n=0 then(b,zJ,if b.closed then 11 else 10)else({b with fr:=mf b 1,n:=b.n-1},b.ring b.fr,0):=rfl
 have e:eL zJ=[.int .u8 0,.int .u64 0,.int .u32 0,.bool false]:=rfl;by_cases l:b.n=0
 ·rw[aez l]at d;have a:decide ((b.n:Int)=0)=true:=aeD (by omega);cases g:b.closed
  ·rw[g,aeu (by simp)]at d;simp only[F1,go_sem,simprocAttr,FV,k,↓zE,g,↓B9,a,MB,↓ri,d,e,Ac]
  ·rw[g,aez rfl]at d;simp only[F1,go_sem,simprocAttr,FV,k,↓zE,g,↓B9,a,MB,↓ri,d,e,Ac]
 ·rw[aeu l]at d;have a: ¬(b.n:Int)=0:=by omega
  have m:=i.n;have j: ∀H lo,D X0 (.fn (.func 202) [] []) [.agg (cC b),.int .i64 1] ⟨H,lo⟩=_:=Um b i.fr 1 (by omega);have h:=i.fr;have f: (b.fr:Int)<4:=by omega
  have hm:=oS (b.ring b.fr);have c:=ag3 (b:=b) h;have o: ((b.n:Int)-1)=((b.n-1:Nat):Int):=by omega
  rw[hm]at c;simp(disch:=omega) only[F1,go_sem,simprocAttr,FV,k,↓B9,↓ag4,a,MB,↓ri,j,↓c,f,o,ar6,ag5,d,hm,Ac];simp
def auG(b:cT)(H:List ae)(lo:oN):
  D X0 (.fn (.func 298) [] []) [.agg (cC b)] ⟨H,lo⟩=some (.ret (.ax [.agg (cC (vy b).1),.int .i64 (vy b).2]) ⟨H,lo⟩):=by
 refine aH Ln λN c=>?_
 have d:vy b=if b.closed then(b,11)else({b with closed:=true},0):=rfl
 cases a:b.closed
 ·simp only[F1,go_sem,simprocAttr,Ln,c,↓zE,a,MB,↓ri,ar7,d]
 ·simp only[F1,go_sem,simprocAttr,Ln,c,↓zE,a,MB,↓ri,d]
def auH(b:cT)(N:Nat)(H:List ae)(c:H.length=N)(lo:oN):D X0 (.fn (.func 181) [] []) [.agg (cC b)] ⟨H,lo⟩=some (.ret (.fn (.func 201) [] [.ptr N 0]) ⟨H++[.box (cC b) none],lo⟩):=by
 refine aH Rt λM a=>?_
 obtain rfl:M=N:=by omega
 simp only[go_sem,simprocAttr,Rt,a];rw[zX (by omega)]
def xA(b:cT):List lA:=(gk b).map λm=>[.agg (eL m)]
def Ur(b:cT): (xA b).length=b.n:=by simp[xA,gk]
def aja{j:Nat}(h:j<b.n): (xA b)[j]?=some [.agg (eL (b.ring (mf b j)))]:=by
 unfold xA gk
 grind
def auI(b:cT)(L:jq b)(a:Nat):uM X0 (.fn (.func 201) [] [.ptr a 0]) a [.box (cC b) none] (xA b):=by
 intro S V y I J base M j A W s hP h0 uP g hG lo;have t: ∀i,V.cH i->i<base:=λi hi=>(j i hi).1
 suffices h: ∃x,D X0 (.fn (.func 201) [] [.ptr a 0]) [y] ⟨W,lo⟩=some x/\
   (λx=> ∃d f ak,x=aX.ret (.ax []) ⟨f,ak⟩/\V.P d f/\ (I (xA b).length d\/J d)/\base<=f.length/\
     (∀i,i<base-> ¬V.cH i-> ¬(a<=i/\i<a+[ae.box (cC b) none].length)->f[i]?=W[i]?)/\k7 V.c base lo ak none (V.row d)) x by
  obtain⟨x,h1,d,f,ak,rfl,Y,X,U,T,R⟩:=h;exact⟨d,f,ak,h1,Y,X,U,T,R⟩
 refine uf RI rfl rfl rfl λN hN=>?_
 obtain rfl:N=base:=by omega
 have E:W[a]?=some (.box (cC b) none):=hG 0 (by simp);have ha:=dZ E;have B: ¬V.cH a:=λq=>(j a q).2 ⟨by omega,by simp⟩
 have N9:=L.n;simp only[go_sem,simprocAttr,RI,E,↓B9];refine gE b.n (λk e f ak=> ∃d,I k d/\ko V N W (λi=>a<=i/\i<a+[ae.box (cC b) none].length) d f ak/\f[a]?=some (.box (cC b) none)/\e 0=y/\e 1= .ptr a 0/\e 5= .int .i64 b.n/\e 6= .int .i64 k) 0 (by omega) ?_ ?_
 ·simp only[go_sem,simprocAttr];exact⟨s,h0,⟨hP,by omega,λ_ _ _ _=>rfl,.inl ⟨rfl,g⟩,λr e=>by rw[g]at e;cases e⟩,E⟩
 rintro k hk e W1 z ⟨s1,O,p,w0,Q,e1,P,e6⟩ n hn;simp only[bO,go_sem,simprocAttr,afQ,Q,e1,P,e6];refine⟨λh=>?_,λh=>?_⟩
 ·have u:k<b.n:=by omega
  have hx:=aja u;have v:=Um b L.fr k (by omega);have C:=aiJ b k;have m: (mf b k:Int)<4:=by omega
  have l:=ag3 (b:=b) C;obtain⟨c,s2,W2,mW,K,p2,H,p4,Z,G⟩:=A k _ s1 hx O W1 p.P p.len z;have w:=p.step p2 H p4 Z;have L4:N<=n:=by have:=p.len;omega
  have v0:W2[a]?=some (.box (cC b) none):=by rw[H.2 a (by omega) B (λq=>by have:=p.row _ q;omega)];exact w0
  cases c
  ·obtain⟨F,o,f1,f2,f3,f4,f5⟩:=w.fin M t (dM:=lo);simp only[go_sem,simprocAttr,e1,w0,MB,v,m,↓l,K,f1];exact⟨s2,F,o,rfl,f2,.inr G,f3,f4,f5⟩
  ·simp(disch:=omega) only[go_sem,simprocAttr,Q,e1,P,e6,w0,MB,v,m,↓l,K];exact⟨u,s2,G,w,v0⟩
 ·obtain⟨F,o,f1,f2,f3,f4,f5⟩:=p.fin M t (dM:=lo);simp only[go_sem,simprocAttr,f1];exact⟨s1,F,o,rfl,f2,.inl (by rw[Ur,show b.n=k by omega];exact O),f3,f4,f5⟩
def ajb{N id aj:Nat}{H:List ae}{ty:TypeId}{af:List lA}(e:N<=id)(c:H[id]?=some (.row aj sz ty af))(d:n=af.length)(a:cb af<=N):Den.freeze ⟨H,lo⟩ N (k+4) (.ref id aj sz 0 n true)=some (.sl af true):=by
 subst d;have b: ¬(AV.ref id aj sz 0 af.length true).refs<=N:=by simp only[AV.refs];omega
 rw[Den.freeze,aeu b];simp only[c];rw[aez ⟨trivial,trivial,by omega⟩];simp only[amR,agk];rw[Pu af a]
def auJ(H:List ae)(lo:oN):D X0 (.fn (.func 182) [] []) [.aq] ⟨H,lo⟩=some (.ret .aq ⟨H,lo⟩):=by
 refine aH FH λN b=>?_
 have a:gw 4 .aq none (some (.int .i64 0)) (some (.int .i64 0))=some .aq:=by rfl
 simp(disch:=omega) only[F1,go_sem,simprocAttr,FH,a]
def auK(id aj n:Nat)(H:List ae)(c:id<H.length)(lo:oN):D X0 (.fn (.func 182) [] []) [.ref id aj 4 0 n false] ⟨H,lo⟩=some (.ret (.ref id aj 4 0 n true) ⟨H,lo⟩):=by
 refine aH FH λN d=>?_
 have b:gw 4 (.ref id aj 4 0 n false) none (some (.int .i64 (n:Nat))) (some (.int .i64 (n:Nat)))=some (.ref id aj 4 0 n true):=by simp[gw,gv,lS,lT]
 have a: ∀E,fX E .sl (.ref id aj 4 0 n false)=some (.int .i64 n):=λE=>rfl
 simp only[go_sem,simprocAttr,FH,b,a];rw[iG (.inl rfl) (by simp only[AV.refs];omega),aeE (by omega)]
structure MSt where
 l:List kH
 row:oN
def mV(H:List ae)(N:Nat):YV MSt:=⟨λs W=>iR N H W/\SV (N+1) 4 Eb W s.row (s.l.map eL),MSt.row,λi=>i<N+2,N+1⟩
def auL{H:List ae}{N:Nat}: (mV H N).Ok where
 st:=λs W f ⟨e,c⟩ a=>by
  refine⟨λi b=>?_,c.st (a _ (.inl (aqS _))) λi b=>a i (.inr b)⟩;have:i<N+2:=by omega
  rw[a i (.inl this)];exact e i b
 lt:=λs W r ⟨_,c⟩ d=>c.row d
def auM(b:cT)(hb:jq b)(H:List ae)(lo:oN):
  ∃w,D X0 (.fn (.func 162) [] []) [.agg (cC b)] ⟨H,lo⟩=some (.ret w ⟨H,lo⟩)/\Rv w 4 ((gk b).map eL)/\w.refs=0:=by
 suffices hs: ∃A,D X0 (.fn (.func 162) [] []) [.agg (cC b)] ⟨H,lo⟩=some A/\ (λA=> ∃w,A=aX.ret w ⟨H,lo⟩/\Rv w 4 ((gk b).map eL)/\w.refs=0) A by
  obtain⟨A,h1,w,rfl,h2⟩:=hs;exact⟨w,h1,h2⟩
 refine cA Rl λN l=>?_
 have he:=auH b (N+2) (H++[.box (cC b) none,.box [.aq] none]) (by simp[l]) none;have N9:=hb.n;simp only[go_sem,simprocAttr,Rl,l,he,↓ri];obtain⟨W0,c⟩: ∃W0,W0=H++[ae.box (cC b) none,.box [.aq] none,.box (cC b) none]:=⟨_,rfl⟩;rw[<-c];have z:W0.length=N+3:=by rw[c];simp[l]
 generalize o: ((((((dj _).set 1 _).set 2 _).set 3 _).set 5 _).set 6 _)=e;have C:e 3= .ptr (N+1) 0:=by rw[<-o];rfl
 have Y: (ao.t 6).get e= .fn (.func 201) [] [.ptr (N+2) 0]:=by rw[<-o];rfl
 clear o;refine PJ (mV H N) auL (xA b) (N+2) [.box (cC b) none] W0 ⟨[],none⟩ (by rw[Y];rfl) (by rw[Y];exact auI b hb (N+2)) (λi a=>?_) (by simp[z]) (λi a=>?_) ⟨?_,?_⟩ rfl
  (λj s=>s.l=(gk b).take j) (λ_ _=>False) rfl (λ_ _ h=>h.elim) ?_ ?_ (λ_ _ _ _ h=>h.elim)
 ·have:i=0:=by simpa using a
  subst this;rw[c,agr,bA l];rfl
 ·have:i<N+2:=a;exact⟨by omega,by omega⟩
 ·rw[c];exact iR.app l
 ·exact .inl ⟨rfl,rfl,by rw[c,bA l];rfl⟩
 ·intro j y s K T;have Z:j<b.n:=by
   have:=(adN.1 K).1;rwa[Ur]at this
  have d:s.l=(gk b).take j:=T;have v: (gk b)[j]?=some (b.ring (mf b j)):=by unfold gk;rw[agA,apz Z];rfl
  rw[aja Z]at K;cases K;generalize b.ring (mf b j)=m at*;refine⟨rfl,λW hP uP=>?_⟩;obtain⟨n,hn⟩: ∃n,W.length=n:=⟨_,rfl⟩;have hm:=oS m;simp only[go_sem,simprocAttr,ij,hn,hm];refine⟨[.box (eL m) none],rfl,λB TL S=>?_⟩;obtain⟨E,p⟩:=S;have r:B.length=n:=by omega
  have f: ∀i,s.row=some i->N+1<i/\i<n:=by
   intro i a;rcases p with⟨q,_⟩| ⟨id,aj,q,_,I,C,q4⟩
   ·rw[q]at a;cases a
   ·rw[q]at a;cases a;exact⟨I,by have:=dZ q4;omega⟩
  have L:SV (N+1) 4 Eb (B++[.box (eL m) none]) s.row (s.l.map eL):=p.st (by rw[acK (by omega)]) λi a=>by
   rw[acK (by have:=f i a;omega)]
  have wq:s.l.length<=4:=by rw[d,agw];have: (gk b).length=b.n:=by simp[gk]
                            omega
  obtain⟨vv,v',W3,U,X,a1,a2,a3,a4,a5,a6,a7⟩:=L.append (bytes:=24) (el:=eL m) (by simp;omega) (by omega) rfl rfl (by rw[ae3];unfold room;omega) none;have F: (B++[ae.box (eL m) none]).length=n+1:=by simp[r]
  have t: (B++[ae.box (eL m) none])[n]?=some (.box (eL m) none):=by rw[<-r];simp
  rw[hm]at a1 a2 t⊢;simp only[go_sem,simprocAttr,afJ,C,a1,a2,a3,t,D8];refine⟨⟨s.l++[m],X⟩,⟨λi a=>?_,?_⟩,⟨by show B.length<=U.length;omega,λi a hp hr=>?_⟩,.inr ⟨N+1,ae0 _,by omega,rfl,?_⟩,?_⟩
  ·show U[i]?=_;rw[a6 i (by omega) (by omega) (λq=>by have:=f i q;omega),acK (by omega)];exact E i a
  ·show SV (N+1) 4 Eb U X ((s.l++[m]).map eL);rw[agp];exact a4
  ·have nZ: ¬i<N+2:=hp;rw[a6 i (by omega) (by omega) hr,acK a]
  ·rcases a7 with q| ⟨q,J,I⟩
   ·exact .inl q
   ·exact .inr ⟨q,J,by omega⟩
  ·show s.l++[m]=(gk b).take (j+1);rw[d,agu,v];rfl
 ·intro V W' ak T hP hl R om P;obtain⟨E,p⟩:=hP;have d:V.l=gk b:=by
   have:V.l=(gk b).take (xA b).length:=T;rw[this,Ur];exact aeE (by simp[gk])
  have g:eA N ak:=by
   rcases P with⟨rfl,_⟩| ⟨q,J,I,rfl⟩
   ·exact .inl rfl
   ·exact .inr ⟨q,by have:N+1<=q:=J;omega,rfl⟩
  rw[d]at p;have h0:cb ((gk b).map eL)=0:=bB (λ_=>rfl) _;rcases p with⟨c1,c2,c3⟩| ⟨id,aj,c1,c2,c3,c4,G⟩
  ·simp only[go_sem,simprocAttr,C,c3,auJ,R,lK];rw[iG g (ae4 _)];refine⟨.aq,dk rfl ((E.set (by omega)).take l),by rw[aqL.1 c2];exact .aq,rfl⟩
  ·have u:=auK id aj ((gk b).map eL).length W' (dZ G);rw[ae3]at u c4;have O:W0.length≠id:=by rintro rfl;rw[R]at G;cases G
   simp only[go_sem,simprocAttr,C,c4,u,R,lK];have M: (W'.set W0.length ae.dead)[id]?=some (.row aj 4 Eb ((gk b).map eL)):=by rw[acG O];exact G
   rw[uO g (v':=.sl ((gk b).map eL) true) λk=>by rw[show k+12=(k+8)+4 by omega];exact ajb (by omega) M (by simp) (by rw[h0];omega)];exact⟨_,dk rfl ((E.set (by omega)).take l),.sl (by intro el Q;obtain⟨x,_,rfl⟩:=ago.1 Q;rfl),h0⟩
theorem auN:cC zK=[.int .u8 0,.int .u64 0,.int .u32 0,.bool false,.int .u8 0,.int .u64 0,.int .u32 0,.bool false,.int .u8 0,.int .u64 0,.int .u32 0,.bool false,.int .u8 0,.int .u64 0,.int .u32 0,.bool false,.int .i64 0,.int .i64 0,.bool true]:=rfl
def auO(b:cT)(d:jq b)(H:List ae)(lo:oN):
  ∃w,D X0 (.fn (.func 301) [] []) [.agg (cC b)] ⟨H,lo⟩=some (.ret (.ax [.agg (cC zK),w]) ⟨H,lo⟩)/\Rv w 4 ((gk b).map eL)/\w.refs=0:=by
 obtain⟨w,e1,e,e3⟩:=auM b d (H++[.box (cC b) none,.box zB none]) none;refine⟨w,?_,e,e3⟩;refine aH St λM a=>?_
 have c:zB=[.int .u8 0,.int .u64 0,.int .u32 0,.bool false,.int .u8 0,.int .u64 0,.int .u32 0,.bool false,.int .u8 0,.int .u64 0,.int .u32 0,.bool false,.int .u8 0,.int .u64 0,.int .u32 0,.bool false,.int .i64 0,.int .i64 0,.bool false]:=rfl;rw[c]at e1;simp only[go_sem,simprocAttr,St,a,↓ri,e1];rw[oR (by simp[AV.refs,aI,e3]),kj a,auN]
def xB:pD:=λg=>if g=325 then some w5 else if g=160 then some wY else none
noncomputable def CH:lA->AS->Option aX:=wD X (D X) Lw xB 324 rh
noncomputable def CI:lA->AS->Option aX:=wD X (D X) Lw xB 300 w4
noncomputable def XA:Ctx:={X with cg:=λf=>if f=324 then some CH else if f=300 then some CI else X.cg f}
theorem DY:Ext X XA where
 dL:=rfl
 fV:=rfl
 code:=rfl
 cg:=λf=>by
  by_cases b:f=324
  ·subst b;exact .inr ⟨rfl,rfl⟩
  ·by_cases a:f=300
   ·subst a;exact .inr ⟨rfl,rfl⟩
   ·left;show(if f=324 then some CH else if f=300 then some CI else X.cg f)=X.cg f
    grind
def CJ(e:Int)(H:List ae)(lo:oN):D X (.fn (.func 327) [] []) [.bool true,.int .i64 e] ⟨H,lo⟩=some (.ret (.ax []) ⟨H,lo⟩):=by
 refine aH FZ λN a=>?_
 simp(disch:=omega) only[F1,go_sem,simprocAttr,FZ]
def CK(e:Nat)(H:List ae)(lo:oN):D X (.fn (.func 327) [] []) [.bool false,.int .i64 e] ⟨H,lo⟩=some (.panic (ju e) ⟨H,lo⟩):=by
 refine aH FZ λN a=>?_
 simp(disch:=omega) only[F1,go_sem,simprocAttr,FZ,EP]
theorem ajd:dA .di .eV .eV=some true:=rfl
theorem aje{t:TypeId}:dA .di (.di t v) .eV=some false:=rfl
theorem ajf{z:AV}{t:TypeId}:AA z (.di t v) t true=some (.ax [v,.bool true]):=aez rfl
def Mr{K:AS->Prop}{H:List ae}(h:K ⟨H,lo⟩):qU X xB (cf 325|>.get λ_=>.aq) [.ptr p 0] .eV ⟨H,lo⟩ K:=by
 refine IJ (pr:=w5) rfl rfl λn a=>?_
 simp(disch:=omega) only[F1,go_sem,simprocAttr,w5,ajd];exact⟨.inl trivial,.ax [],rfl,by trivial⟩
def vN{K:AS->Prop}{H:List ae}{v0:AV}(e:Nat)(a:H[p]?=some (.box [v0] none))(h:K ⟨H.set p (.box [.int .i64 e] none),lo⟩):qU X xB (cf 325|>.get λ_=>.aq) [.ptr p 0] (ju e) ⟨H,lo⟩ K:=by
 refine IJ (pr:=w5) rfl rfl λn b=>?_
 simp only[F1,go_sem,simprocAttr,w5,aje,a,ajf];refine⟨.inl trivial,.ax [],rfl,?_⟩;rw[aez (show(AV.ax []).refs<=n from ae4 _),aeE (by grind)];exact h
def ajg(t:aw)(d:bT t)(r:Nat)(e:r<4294967296)(i:t.az r=true)(c:Nat)(j:c<8)(H:List ae)(lo:oN):
  D X (.fn (.func 326) [] []) [.agg (aN t),.int .u32 r,.int .i64 c] ⟨H,lo⟩=some (.ret (.agg (bS (aM t r).1)) ⟨H,lo⟩):=by
 refine aH zt λN f=>?_
 have a:=λH lo=>up dw (ue t d r e H lo)
 have b: (aM t r).2=0:=by unfold aM;grind
 have h: (c:Int)>=0:=by omega
 have g: (c:Int)<8:=by omega
 simp only[F1,go_sem,simprocAttr,zt,f,a,ml,b,jK,CJ,h,g]
def ajh(t:aw)(d:bT t)(r:Nat)(e:r<4294967296)(j:t.az r=true)(c:Nat)(k:8<=c)(H:List ae)(lo:oN):
  D X (.fn (.func 326) [] []) [.agg (aN t),.int .u32 r,.int .i64 c] ⟨H,lo⟩=some (.panic (ju 2) ⟨H,lo⟩):=by
 refine aH zt λN g=>?_
 have a:=λH lo=>up dw (ue t d r e H lo)
 have b: (aM t r).2=0:=by unfold aM;grind
 have i: (c:Int)>=0:=by omega
 have h: ¬(c:Int)<8:=by omega
 have f: ∀H lo,D X (.fn (.func 327) [] []) [.bool false,.int .i64 2] ⟨H,lo⟩=_:=CK 2;simp only[F1,go_sem,simprocAttr,zt,g,a,ml,b,jK,CJ,f,i,h,EP]
def auP(t:aw)(d:bT t)(r:Nat)(e:r<4294967296)(h:t.az r=false)(c:Nat)(H:List ae)(lo:oN):
  D X (.fn (.func 326) [] []) [.agg (aN t),.int .u32 r,.int .i64 c] ⟨H,lo⟩=some (.panic (ju 4) ⟨H,lo⟩):=by
 refine aH zt λN g=>?_
 have a:=λH lo=>up dw (ue t d r e H lo)
 have b: (aM t r).2=4:=by unfold aM;grind
 have f: ∀H lo,D X (.fn (.func 327) [] []) [.bool false,.int .i64 4] ⟨H,lo⟩=_:=CK 4;simp only[F1,go_sem,simprocAttr,zt,g,a,ml,b,jK,f,EP]
def uk(t:aw)(r a to:Nat)(b:Bool):Nat:=
 if t.az r=false\/ (to≠0/\t.az to=false)then 4 else if 8<=a then 2 else if to≠0/\b=false/\kJ t to r=false then 5
 else(fP t r {(aM t r).1 with cells:=au (aM t r).1.cells a to}).2
def auQ{r:ds}{v:Nat}(h:i<8):aJ (bS r) (4+i) [.int .u32 (v:Nat)]=bS {r with cells:=au r.cells i v}:=agX h
def auR(t:aw)(A:bT t)(U:ca t)(r a to:Nat)(b:Bool)(E:r<4294967296)(s:to<4294967296)(T:a<4294967296)(H:List ae)(lo:oN):
  ∃cs,CH [.agg (aN t),.int .u32 r,.int .i64 a,.int .u32 to,.bool b] ⟨H,lo⟩=some (.ret (.ax [.agg cs,.int .i64 (uk t r a to b)]) ⟨H,lo⟩)/\cs.length=480/\aI cs=0/\
   (uk t r a to b=0->cs=aN (fP t r {(aM t r).1 with cells:=au (aM t r).1.cells a to}).1):=by
 suffices R: ∃I,CH [.agg (aN t),.int .u32 r,.int .i64 a,.int .u32 to,.bool b] ⟨H,lo⟩=some I/\ (λI=> ∃cs,I=aX.ret (.ax [.agg cs,.int .i64 (uk t r a to b)]) ⟨H,lo⟩/\cs.length=480/\aI cs=0/\
   (uk t r a to b=0->cs=aN (fP t r {(aM t r).1 with cells:=au (aM t r).1.cells a to}).1)) I by
  obtain⟨I,p,cs,rfl,V⟩:=R;exact⟨cs,p,V⟩
 refine Pz rh rfl rfl λN j=>?_
 have c:=λH lo=>up dw (eP t.b r E H lo)
 have d:=λH lo=>up dw (eP t.b to s H lo)
 have L: ∀h,az t.b h=t.az h:=λh=>rfl
 simp only[L]at c d;have m:=λH lo=>up dw (T4 t A U to r s E H lo)
 have F: ∀H lo,D X (.fn (.func 327) [] []) [.bool false,.int .i64 4] ⟨H,lo⟩=_:=CK 4;have O: ∀H lo,D X (.fn (.func 327) [] []) [.bool false,.int .i64 5] ⟨H,lo⟩=_:=CK 5;have z:aI k9=0:=by decide
 have f:uk t r a to b=if t.az r=false\/ (to≠0/\t.az to=false)then 4 else if 8<=a then 2 else if to≠0/\b=false/\kJ t to r=false then 5
  else(fP t r {(aM t r).1 with cells:=au (aM t r).1.cells a to}).2:=rfl
 cases y:t.az r with
 |false=>
  rw[y]at c;rw[aez (.inl y)]at f;simp(disch:=omega) only[go_sem,simprocAttr,rh,j,kn,km,c,F];refine⟨rfl,?_⟩;rw[oi];refine vN 4 (v0:=.int .i64 0) (by rw[bA j];rfl) ?_;simp(disch:=omega) only[F1,go_sem,simprocAttr,cV];rw[f];exact⟨_,rfl,Cs,z,λh=>by cases h⟩
 |true=>
  rw[y]at c;have K:to=0\/ (¬(to:Int)=0/\t.az to=true)\/ (¬(to:Int)=0/\t.az to=false):=by
   by_cases n:to=0
   ·exact .inl n
   ·cases W:t.az to
    ·exact .inr (.inr ⟨by omega,rfl⟩)
    ·exact .inr (.inl ⟨by omega,rfl⟩)
  by_cases J:to≠0/\t.az to=false
  ·rw[aez (.inr J)]at f;rw[J.2]at d;have n: ¬(to:Int)=0:=by omega
   simp(disch:=omega) only[go_sem,simprocAttr,rh,j,kn,km,c,n,d,F];refine⟨rfl,?_⟩;rw[oi];refine vN 4 (v0:=.int .i64 0) (by rw[bA j];rfl) ?_;simp(disch:=omega) only[F1,go_sem,simprocAttr,cV];rw[f];exact⟨_,rfl,Cs,z,λh=>by cases h⟩
  ·rw[aeu (by rw[y];simpa using J)]at f;have p: ∀H lo,D X (.fn (.func 327) [] []) [.bool true,.int .i64 4] ⟨H,lo⟩=_:=CJ 4;have o:to=0\/ (¬(to:Int)=0/\t.az to=true):=by
    rcases K with h|h|h
    ·exact .inl h
    ·exact .inr h
    ·exact absurd ⟨by omega,h.2⟩ J
   by_cases P:8<=a
   ·rw[aez P]at f;have g:=ajh t A r E y a P;rcases o with rfl| ⟨n,M⟩
    ·simp(disch:=omega) only[go_sem,simprocAttr,rh,j,kn,km,c,p,g];refine⟨rfl,?_⟩;rw[oi];refine vN 2 (v0:=.int .i64 0) (by rw[bA j];rfl) ?_;simp(disch:=omega) only[F1,go_sem,simprocAttr,cV];rw[f];exact⟨_,rfl,Cs,z,λh=>by cases h⟩
    ·rw[M]at d;simp(disch:=omega) only[go_sem,simprocAttr,rh,j,kn,km,c,n,d,p,g];refine⟨rfl,?_⟩;rw[oi];refine vN 2 (v0:=.int .i64 0) (by rw[bA j];rfl) ?_;simp(disch:=omega) only[F1,go_sem,simprocAttr,cV];rw[f];exact⟨_,rfl,Cs,z,λh=>by cases h⟩
   ·rw[aeu P]at f;have G:a<8:=by omega
    have l: (a:Int)<8:=by omega
    have g:=ajg t A r E y a G;have Q: ∀H lo,D X (.fn (.func 327) [] []) [.bool true,.int .i64 5] ⟨H,lo⟩=_:=CJ 5;have C:=A.get r;generalize S: (aM t r).1=x at*;have q:gj {x with cells:=au x.cells a to}:=gj.setCells C λi=>by
     by_cases e:i=a
     ·rw[e,cw];exact s
     ·rw[cR e];exact C.cells i
    have k:=λH lo=>up dw (T5 t A r E {x with cells:=au x.cells a to} q.rb.1 (by have:=q.rb.2;show x.runs.length<=65;exact agD this (by omega)) (by have:=q.len;show x.len<4294967296;have:x.len<=2048:=this;omega) H lo)
    have u:=auQ (r:=x) (v:=to) G;have w:4+a<=11:=by omega
    rcases o with rfl| ⟨n,M⟩
    ·rw[aeu (by simp)]at f;have B:aJ (bS x) (4+a) [.int .u32 0]=bS {x with cells:=au x.cells a 0}:=u;simp(disch:=omega) only[go_sem,simprocAttr,rh,j,kn,km,c,p,g,jK,Q,l,B,w,k,uh,cV];refine⟨rfl,?_⟩;rw[D7];refine Mr ?_;simp(disch:=omega) only[F1,go_sem,simprocAttr];rw[f];exact⟨_,rfl,iw _,xc _,λ_=>rfl⟩
    ·rw[M]at d;cases b with
     |true=>
      rw[aeu (by simp)]at f;simp(disch:=omega) only[go_sem,simprocAttr,rh,j,kn,km,c,n,d,p,g,jK,Q,l,u,w,k,uh,cV];refine⟨rfl,?_⟩;rw[D7];refine Mr ?_;simp(disch:=omega) only[F1,go_sem,simprocAttr];rw[f];exact⟨_,rfl,iw _,xc _,λ_=>rfl⟩
     |false=>
      cases ho:kJ t to r with
      |true=>
       rw[ho]at m f;rw[aeu (by simp)]at f;simp(disch:=omega) only[go_sem,simprocAttr,rh,j,kn,km,c,n,d,p,g,jK,Q,m,l,u,w,k,uh,cV];refine⟨rfl,?_⟩;rw[D7];refine Mr ?_;simp(disch:=omega) only[F1,go_sem,simprocAttr];rw[f];exact⟨_,rfl,iw _,xc _,λ_=>rfl⟩
      |false=>
       rw[ho]at m f;rw[aez ⟨by omega,rfl,rfl⟩]at f;simp(disch:=omega) only[go_sem,simprocAttr,rh,j,kn,km,c,n,d,p,g,jK,O,m];refine⟨rfl,?_⟩;rw[oi];refine vN 5 (v0:=.int .i64 0) (by rw[bA j];rfl) ?_;simp(disch:=omega) only[F1,go_sem,simprocAttr,cV];rw[f];exact⟨_,rfl,Cs,z,λh=>by cases h⟩
def Gu{X:Ctx}{e:Env}{E:AS}{R:aX->Prop}{b:Nat}{c:Bool}:dP X n lo [.t a,.cell b c k] R .ret ⟨e,[]⟩ E=okV (cm X E c k (e b)) (λu E=>oh n lo R (.ax [e a,u]) E) E:=by
 simp only[yE,yG,fL,ki,pa];cases h:cm X E c k (e b)with
 |none=>simp[okV,h]
 |some v=>simp[okV,oh,h]
def auS(t:aw)(s:bT t)(r a:Nat)(v:r<4294967296)(F:a<4294967296)(H:List ae)(lo:oN):
  CI [.agg (aN t),.int .u32 r,.int .i64 a] ⟨H,lo⟩=some (.ret (.ax [.int .u32 (sY t r a).1,.int .i64 (sY t r a).2]) ⟨H,lo⟩):=by
 suffices G: ∃E,CI [.agg (aN t),.int .u32 r,.int .i64 a] ⟨H,lo⟩=some E/\E=aX.ret (.ax [.int .u32 (sY t r a).1,.int .i64 (sY t r a).2]) ⟨H,lo⟩ by grind
 refine Pz w4 rfl rfl λN g=>?_
 have c:sY t r a=if t.az r=false then(0,4)else if 8<=a then(0,2)else if(aM t r).1.cells a=0 then(0,10)else if t.az ((aM t r).1.cells a)=false then(0,4)else((aM t r).1.cells a,0):=rfl
 cases q:t.az r with
 |false=>
  rw[aez q]at c;have b:=auP t s r v q a;simp only[go_sem,simprocAttr,w4,g,kn,km,b];refine⟨rfl,?_⟩;rw[oi];refine vN 4 (v0:=.int .i64 0) (by rw[bA g];rfl) ?_;simp(disch:=omega) only[F1,go_sem,simprocAttr,c,Gu]
 |true=>
  rw[aeu (by rw[q];simp)]at c;by_cases z:8<=a
  ·rw[aez z]at c;have b:=ajh t s r v q a z;simp only[go_sem,simprocAttr,w4,g,kn,km,b];refine⟨rfl,?_⟩;rw[oi];refine vN 2 (v0:=.int .i64 0) (by rw[bA g];rfl) ?_;simp(disch:=omega) only[F1,go_sem,simprocAttr,c,Gu]
  ·rw[aeu z]at c;have l:a<8:=by omega
   have B: (a:Int)<8:=by omega
   have b:=ajg t s r v q a l;have u:=s.get r;generalize(aM t r).1=x at*;have hw:=u.cells a;have d:qG false 8 1 (.agg (arr 8 λi=>[AV.int .u32 (x.cells i)])) (.int .i64 a)=some (.int .u32 (x.cells a)):=
    S7 l (by have:=jG (ag:=false) (m:=1) (n:=8) (k:=1) (i:=a) (o:=0) (f:=λi=>[AV.int .u32 (x.cells i)]) (λ_=>rfl) l (by omega) (by omega);rw[agr]at this;rw[this];rfl)
   have p: ∀H lo,D X (.fn (.func 327) [] []) [.bool false,.int .i64 10] ⟨H,lo⟩=_:=CK 10;have y: ∀H lo,D X (.fn (.func 327) [] []) [.bool false,.int .i64 4] ⟨H,lo⟩=_:=CK 4;have e:=λH lo=>up dw (eP t.b (x.cells a) hw H lo)
   have w: ∀h,az t.b h=t.az h:=λh=>rfl
   simp only[w]at e;by_cases A:x.cells a=0
   ·rw[aez A]at c;have j:decide ((x.cells a:Int)=0)=true:=by simp[A]
    simp only[go_sem,simprocAttr,w4,g,kn,km,b,↓LH,d,j,p];refine⟨rfl,?_⟩;rw[oi];refine vN 10 (v0:=.int .i64 0) (by rw[bA g];rfl) ?_;simp(disch:=omega) only[F1,go_sem,simprocAttr,c,Gu]
   ·rw[aeu A]at c;have j:decide ((x.cells a:Int)=0)=false:=by simp;omega
    cases C:t.az (x.cells a)with
    |false=>
     rw[C]at e c;rw[aez rfl]at c;simp only[go_sem,simprocAttr,w4,g,kn,km,b,↓LH,d,j,e,CJ,y];refine⟨rfl,?_⟩;rw[oi];refine vN 4 (v0:=.int .i64 0) (by rw[bA g];rfl) ?_;simp(disch:=omega) only[F1,go_sem,simprocAttr,c,Gu]
    |true=>
     rw[C]at e c;rw[aeu (by simp)]at c;simp only[go_sem,simprocAttr,w4,g,kn,km,b,↓LH,d,j,e,CJ];refine⟨rfl,?_⟩;rw[D7];refine Mr ?_;simp(disch:=omega) only[F1,go_sem,simprocAttr,c,Gu]
theorem auT{args:lA}{E:AS}{E':AS}(h:CH args E=some (.ret v E')):D XA (.fn (.func 324) [] []) args E=some (.ret v E'):=D6 rfl h
def aji(t:aw)(r a to:Nat)(b:Bool):nA t r a to b=if uk t r a to b=0 then((fP t r {(aM t r).1 with cells:=au (aM t r).1.cells a to}).1,0)else(t,uk t r a to b):=by
 unfold nA uk
 grind
def auU(t:aw)(l:bT t)(p:ca t)(r a to:Nat)(b:Bool)(m:r<4294967296)(e:to<4294967296)(i:a<4294967296)(H:List ae)(lo:oN):
  D XA (.fn (.func 299) [] []) [.agg (aN t),.int .u32 r,.int .i64 a,.int .u32 to,.bool b] ⟨H,lo⟩=some (.ret (.ax [.agg (aN (nA t r a to b).1),.int .i64 (nA t r a to b).2]) ⟨H,lo⟩):=by
 refine aH Lo λN k=>?_
 obtain⟨cs,q,n,f,o⟩:=auR t l p r a to b m e i (H++[.box (aN t) none,.box k9 none]) none;have g:=auT q;have d:=aji t r a to b;by_cases c:uk t r a to b=0
 ·rw[aez c]at d;have h:=o c;subst h;rw[c]at g;simp only[F1,go_sem,simprocAttr,Lo,k,g,cV,d]
 ·rw[aeu c]at d;have j:decide ((uk t r a to b:Int)=0)=false:=by simp;omega
  simp only[F1,go_sem,simprocAttr,Lo,k,g,j,n,f,cV,d]
def ajj{a:aw}(b:ca t)(h: ∀x,bt a x=bt t x\/bt a x=0):ca a:=by
 have key: ∀n x,(eO a n x).length<=(aS t x).length:=by
  intro n
  induction n with
  |zero=>simp[eO]
  |succ n c=>
   intro x;simp only[eO];by_cases hu:bt a x=0
   ·grind
   ·rw[aeu hu];have e:bt a x=bt t x:=(h x).resolve_right hu;rw[e]at hu⊢;rw[qf b,aeu hu,agt,agt]
    grind
 intro x;have:=key 32 x;have:=b x;unfold aS at*;omega
theorem ajk(t:aw): ∀n x,(eO t n x).length<=(eO t (n+1) x).length
 |0,_=>by simp[eO]
 |n+1,x=>by
  rw[eO,eO];by_cases hu:bt t x=0
  ·grind
  ·rw[aeu hu,aeu hu,agt,agt];exact Nat.succ_le_succ (ajk t n _)
def nJ(b:cO)(h:Nat):Prop:= ∀i,eY h=some i->h/256< (b i).gen\/ (h/256=(b i).gen/\ns b i=false)
def CM(b:cO):nJ b 0:=λi e=>by trivial
def Us{b:cO}{h:Nat}(a:az b h=true):nJ b h:=by
 intro i e;unfold az at a;rw[e]at a;have:=aqA a
 right;rw[this];exact⟨rfl,by unfold ns;grind⟩
def Ms{b:cO}{h:Nat}(ho:nJ b h):nJ (au b i {b i with fe:=true}) h:=by
 intro j e;by_cases q:j=i
 ·subst q;rcases ho j e with a| ⟨a,c⟩
  ·left;rw[cw];exact a
  ·unfold ns;rw[cw];grind
 ·unfold ns at*;rw[cR q];exact ho j e
def ajl{b:cO}{h y:Nat}(ho:nJ b h):nJ (eN b y).1 h:=by
 unfold eN;split
 ·show nJ (au b (aR y) _) h;intro j e;by_cases q:j=aR y
  ·subst q;unfold ns;rw[cw];unfold rk;have a:=ho _ e
   grind
  ·unfold ns at*;rw[cR q];exact ho j e
 omega
def Ut{b:cO}{h:Nat}(a:nu b=some i)(d:hY b):az (au b i {b i with fe:=true}) h=true↔az b h=true\/h=dg i (b i).gen:=by
 obtain⟨i1,i2,i3,_⟩:=sW a;have c:az (au b i {b i with fe:=true}) (dg i (b i).gen)=true:=by grind [Tr,Ts,cw]
 constructor
 ·grind [lv,cw,Tp,cR]
 ·grind [lv,cR]
theorem Uu{b:cO}{y h:Nat}(c:az (eN b y).1 h=true):az b h=true:=by
 unfold eN at c;split at c
 ·obtain⟨j,e,a⟩:=lv.1 c;have a:au b (aR y) (rk (b (aR y))) j=_:=a;by_cases q:j=aR y
  ·subst q;rw[cw]at a;unfold rk at a
   grind
  ·grind [cR,lv]
 omega
def Gv{b:cO}(a:nu b=some i)(c:hY b):az b (dg i (b i).gen)=false:=by grind [Tr,sW]
def ajm{b:cO}(c:nu b=some i)(d:hY b): ¬nJ b (dg i (b i).gen):=by
 obtain⟨i1,i2,i3,_⟩:=sW c;intro h;have f:az (au b i {b i with fe:=true}) (dg i (b i).gen)=true:=(Ut c d).2 (.inr rfl);obtain⟨j,e,a⟩:=lv.1 f;have q:j=i:=amp λq=>by
  rw[cR q]at a;have:=Gv c d;rw[lv.2 ⟨j,e,a⟩]at this;grind
 subst q;rw[cw]at a;injection a with l
 rcases h j e with k| ⟨_,g⟩
 ·omega
 ·unfold ns at g;grind
def auV(t:aw):Prop:= ∀i,nJ t.b (t.r i).up
structure dV(t:aw):Prop where
 ok:bT t
 tr:ca t
 up:auV t
def dV.same{a:aw}(h:dV t)(b:ja t a)(c:bT a):dV a:=⟨c,b.tree h.tr,λi=>by rw[b.1,b.2];exact h.up i⟩
theorem dV.set(h:dV t){r:ds}(b:gj r):dV (fP t a r).1:=h.same (.set t a r) (h.ok.set b)
theorem dV.drop(h:dV t)(y:Nat):dV (lr t y).1:=by
 refine⟨h.ok.drop y,ajj h.tr λx=>?_,λi=>?_⟩
 ·unfold lr;split
  ·have a: ∀x,az (eN t.b y).1 x=true->t.az x=true:=λx=>Uu
   unfold bt;by_cases q:aw.az {b:=(eN t.b y).1,r:=au t.r (aR y) dR} x=true
   ·rw[aez q,aez (a x q)];unfold kI;by_cases e:aR x=aR y
    ·right
     show(if _ then(au t.r (aR y) dR (aR x)).up else 0)=0;rw[e,cw];split<;>rfl
    ·show(if aw.az _ (au t.r (aR y) dR (aR x)).up=true then(au t.r (aR y) dR (aR x)).up else 0)=_\/ (if aw.az _ (au t.r (aR y) dR (aR x)).up=true then(au t.r (aR y) dR (aR x)).up else 0)=0;rw[cR e];by_cases c:aw.az {b:=(eN t.b y).1,r:=au t.r (aR y) dR} (t.r (aR x)).up=true
     ·rw[aez c,aez (a _ c)];omega
     grind
   grind
  grind
 ·unfold lr;split
  ·show nJ (eN t.b y).1 (au t.r (aR y) dR i).up;by_cases e:i=aR y
   ·rw[e,cw];exact CM _
   ·rw[cR e];exact ajl (h.up i)
  ·exact h.up i
theorem dV.kN{t:aw}(h:dV t): ∀l,dV (kN t l)
 | []=>h
 |x::xs=>dV.kN (h.drop x) xs
def dV.auW(h:dV t)(a:Nat):dV (me t a).1:=by
 unfold me;split
 ·exact h
 ·exact h.kN _
def dV.auX(h:dV t)(a:Nat):dV (mc t a 0).1:=by
 refine⟨h.ok.raise (by omega),ajj h.tr λx=>?_,λi=>?_⟩
 ·unfold mc;split
  ·simp
  ·split
   ·simp
   ·unfold bt;have b: ∀r z,aw.az {t with r:=r} z=t.az z:=λ_ _=>rfl
    simp only[b];split
    ·unfold kI;simp only[b];by_cases e:aR x=aR a
     ·rw[e,cw];grind
     ·rw[cR e];omega
    omega
 ·unfold mc;split
  ·exact h.up i
  ·split
   ·omega
   ·show nJ t.b (au t.r (aR a) {t.r (aR a)with up:=0} i).up;by_cases e:i=aR a
    ·rw[e,cw];exact CM _
    ·rw[cR e];exact h.up i
def dV.cut(h:dV t)(a:Nat):dV (jH t a).1:=by
 rw[Ua];split
 ·exact h
 ·exact(h.same (T9 t a _ t) (T8 h.ok a _)).auX a
def dV.new(h:dV t)(up n:Nat)(J:up<4294967296):dV (iB t up n).1:=by
 unfold iB;dsimp only;split
 ·exact h
 ·rename_i l;unfold mb at l⊢;split
  ·exact h
  ·rename_i N;rw[aeu N]at l;split
   ·exact h
   ·rename_i M;rw[aeu M]at l;split
    ·rename_i i g;rw[g]at l;have l: ¬6<=depth t up:=λq=>l ⟨.inl rfl,q⟩
     obtain⟨i1,i2,i3,_⟩:=sW g;have s:=h.ok.b;have d:up=0\/t.az up=true:=by grind
     have a: ∀z,aw.az {b:=au t.b i {t.b i with fe:=true},r:=au t.r i {dR with up:=up,dG:=n}} z=true↔t.az z=true\/z=dg i (t.b i).gen:=λz=>Ut g s
     have D: ∀z,t.az z=true->aR z≠i:=by
      intro z p q;obtain⟨_,u,_⟩:=Cc p;rw[q]at u;rw[u]at i2;cases i2
     generalize m: ({b:=au t.b i {t.b i with fe:=true},r:=au t.r i {dR with up:=up,dG:=n}}:aw)=f at*;have o: ∀j,(f.r j).up=if j=i then up else(t.r j).up:=by
      intro j;rw[<-m];show(au t.r i _ j).up=_;by_cases e:j=i
      ·rw[e,cw,aez rfl]
      ·rw[cR e,aeu e]
     have w:f.b=au t.b i {t.b i with fe:=true}:=by rw[<-m]
     have C:aR (dg i (t.b i).gen)=i:=by
      have:f.az (dg i (t.b i).gen)=true:=(a _).2 (.inr rfl);have v:=this;unfold aw.az at v;obtain⟨j,e,G⟩:=lv.1 v;rw[F6 e];refine amp λq=>?_
      rw[w,cR q]at G;have:=Gv g s;rw[lv.2 ⟨j,e,G⟩]at this;cases this
     have hold: ∀z,nJ t.b z->(f.az z=true↔t.az z=true):=λz p=>⟨λq=>by
      rcases(a z).1 q with q|q
      ·exact q
      ·rw[q]at p;exact absurd p (ajm g s),λq=>(a z).2 (.inl q)⟩
     have B: ∀x,x≠dg i (t.b i).gen->bt f x=bt t x:=by
      intro x B;have e1: (f.az x=true)=(t.az x=true):=propext ⟨λq=>((a x).1 q).resolve_right B,λq=>(a x).2 (.inl q)⟩;unfold bt;simp only[e1];split
      ·rename_i F;unfold kI;rw[o,aeu (D x F)];simp only[propext (hold _ (h.up (aR x)))]
      ·rfl
     have K:bt f (dg i (t.b i).gen)=up:=by
      unfold bt;rw[aez ((a _).2 (.inr rfl))];unfold kI;rw[o,aez C];rcases d with q|q
      ·rw[q];split<;>rfl
      ·rw[aez ((a _).2 (.inl q))]
     have E: ∀x,bt t x≠dg i (t.b i).gen:=by
      intro x q;have p:bt t x≠0:=by rw[q];unfold dg;omega
      have:=(F9 p).1;rw[q]at this;have c:=Gv g s;unfold aw.az at this;rw[this]at c;cases c
     have y: ∀k x,x≠dg i (t.b i).gen->eO f k x=eO t k x:=by
      intro k
      induction k with
      |zero=>intro x _;rfl
      |succ k I=>
       intro x A;simp only[eO,B x A];rw[I _ (E x)]
     refine⟨?_,?_,?_⟩
     ·rw[<-m];refine⟨Ts s g,λj=>?_⟩;show gj (au t.r i _ j);by_cases e:j=i
      ·rw[e,cw];exact⟨J,by show n<=64;omega,CB.len,CB.cells,CB.runs,CB.aL⟩
      ·rw[cR e];exact h.ok.r j
     ·intro x;by_cases e:x=dg i (t.b i).gen
      ·rw[e];unfold aS;rw[show(32:Nat)=31+1 from rfl,eO,K];by_cases q:up=0
       ·rw[aez q];simp
       ·rw[aeu q,y 31 up (λH=>by
          have:=d.resolve_left q;rw[H]at this;have c:=Gv g s;unfold aw.az at this;rw[this]at c;cases c)]
        have F:=d.resolve_left q;unfold depth at l;rw[aez F]at l;have L:=h.tr up;have:eO t 31 up=aS t up:=(Tt 31 up (by
         have: (eO t 31 up).length<=(eO t 32 up).length:=ajk t 31 up;unfold aS at L;omega) 32 (by omega)).symm
        rw[this,agt];omega
      ·unfold aS;rw[y 32 x e];exact h.tr x
     ·intro j;rw[o,w];by_cases e:j=i
      ·rw[aez e];rcases d with q|q
       ·rw[q];exact CM _
       ·exact Ms (Us q)
      ·rw[aeu e];exact Ms (h.up j)
    omega
theorem mZ(b:ca t){x:Nat}(a:bt t x≠0):aS t x=bt t x::aS t (bt t x):=by rw[qf b,aeu a]
def Ad(c:ca t){h:Nat}: ∀ (n x:Nat),dep t x<=n->h∈aS t x->dep t h<dep t x:=by
 intro n
 induction n with
 |zero=>intro x b a;unfold dep at b;grind
 |succ n d=>
  intro x b a;by_cases hu:bt t x=0
  ·rw[qf c,aez hu]at a;cases a
  ·grind [Cd,mZ]
def auY(d:ca t){h:Nat}: ∀ (n x:Nat),dep t x<=n->h∈aS t x-> ∃c,bt t c=h/\h≠0/\t.az c=true/\ (c=x\/c∈aS t x):=by
 intro n
 induction n with
 |zero=>intro x b a;unfold dep at b;grind
 |succ n e=>
  intro x b a;by_cases hu:bt t x=0
  ·rw[qf d,aez hu]at a;cases a
  ·grind [Cd,mZ,F9]
def Uv(a:ca t)(x:Nat):x∈dC t x:=by rw[Tv a];grind
def ajn(i:hY t.b)(a:ca t){x:Nat}: ∀ (n h:Nat),dep t x-dep t h<=n->h∈aS t x->x∈dC t h:=by
 intro n
 induction n with
 |zero=>intro h f b;have:=Ad a _ x (ae0 _) b;omega
 |succ n k=>
  intro h f b;obtain⟨c,l,c0,j,e⟩:=auY a _ x (ae0 _) b;have d:c∈kids t h:=by
   have g:t.az h=true:=by grind [F9]
   unfold kids;rw[aez g];exact agy.2 ⟨(gi i).2 j,by grind⟩
  rw[Tv a];refine agE _ (aqq.2 ⟨c,d,?_⟩);rcases e with rfl|e
  ·exact Uv a c
  ·have:=Ce a d
   grind
theorem ajo{α:Type}{f:α->Nat}: ∀ (l:List α) (s:Nat),s<=l.foldl (λn x=>max n (f x)) s/\ ∀x∈l,f x<=l.foldl (λn x=>max n (f x)) s
 | [],s=>⟨ae0 _,by simp⟩
 |a::l,s=>by
  have h:=ajo (f:=f) l (max s (f a))
  grind
theorem Uw{b:cO}{x y:Nat}(c:az b x=true)(a:az b y=true)(e:aR x=aR y):x=y:=by
 obtain⟨_,h,g⟩:=Cc c;obtain⟨_,f,d⟩:=Cc a
 grind
def dV.auZ(h:dV t)(a w:Nat)(J:w<4294967296):dV (vu t a w).1:=by
 unfold vu;split
 ·exact h
 ·rename_i N;split
  ·exact h
  ·rename_i G;split
   ·exact h
   ·rename_i M;have c:t.az a=true:=by grind
    have g:t.az w=true:=by grind
    have d:root t a=a:=amp λq=>G (.inl q)
    have B: ¬kJ t a w=true:=λq=>G (.inr q)
    have s:a≠w/\a∉aS t w:=by
     unfold kJ at B
     grind
    have D:aS t a=[]:=by
     unfold root at d;rw[aez c]at d;cases e:aS t a with
     |nil=>rfl
     |cons b bs=>
      exfalso;have hm:a∈aS t a:=by
       have p:aS t a≠[]:=by rw[e];simp
       rw[List.getLastD_eq_getLast?,List.getLast?_eq_getLast p,ala]at d;have:=List.getLast_mem p;rw[d]at this;exact this
      have:=Ad h.tr _ a (ae0 _) hm;omega
    unfold mc;split
    ·exact h
    ·split
     ·exact h
     ·have C: ∀z,aw.az {t with r:=au t.r (aR a) {t.r (aR a)with up:=w}} z=t.az z:=λ_=>rfl
      have y:bt {t with r:=au t.r (aR a) {t.r (aR a)with up:=w}} a=w:=by
       unfold bt kI;simp only[C];rw[aez c,cw,aez g]
      have v: ∀x,x≠a->bt {t with r:=au t.r (aR a) {t.r (aR a)with up:=w}} x=bt t x:=by
       intro x I;unfold bt;simp only[C];split
       ·rename_i m;unfold kI;simp only[C];rw[cR λe=>I (Uw m c e)]
       ·rfl
      generalize l: ({t with r:=au t.r (aR a) {t.r (aR a)with up:=w}}:aw)=u at*;have w0:w≠0:=Tq g;have key: ∀n x,(eO u n x).length<=if x=a\/a∈aS t x then dep t x+1+dep t w else dep t x:=by
       intro n
       induction n with
       |zero=>intro x;simp[eO]
       |succ n E=>
        intro x;rw[eO];by_cases e:x=a
        ·rw[aez (show x=a\/a∈aS t x from .inl e),e,y,aeu w0,agt];have:=E w;rw[aeu (by rintro(q|q);exact s.1 q.symm;exact s.2 q)]at this;omega
        ·rw[v x e];by_cases hu:bt t x=0
         ·rw[aez hu];simp
         ·rw[aeu hu,agt];have L:=Cd h.tr hu;have:=E (bt t x);have j: (x=a\/a∈aS t x)↔(bt t x=a\/a∈aS t (bt t x)):=by
           rw[mZ h.tr hu,agF];constructor
           ·rintro(q|q|q)
            ·exact absurd q e
            ·exact .inl q.symm
            ·exact .inr q
           ·rintro(q|q)
            ·exact .inr (.inl q.symm)
            ·exact .inr (.inr q)
          by_cases q:x=a\/a∈aS t x
          ·rw[aez q];rw[aez (j.1 q)]at this;omega
          ·rw[aeu q];rw[aeu λH=>q (j.2 H)]at this;omega
      show dV u;refine⟨?_,λx=>?_,λi=>?_⟩
      ·rw[<-l];exact h.ok.au ((h.ok.r _).Me J)
      ·have F:=key 32 x;unfold aS;split at F
       ·rename_i q;have o:x∈dC t a:=by
         rcases q with q|q
         ·rw[q];exact Uv h.tr a
         ·exact ajn h.ok.b h.tr _ a (ae0 _) q
        have m:=Cf h.ok.b c o;have k:=(ajo (f:=λx=>depth t x-depth t a+1) (dC t a) 0).2 x o;have A:sT t a=(dC t a).foldl (λn x=>max n (depth t x-depth t a+1)) 0:=rfl;rw[<-A]at k;have d1:depth t x=1+dep t x:=by unfold depth;rw[aez m];rfl
        have d2:depth t a=1:=by unfold depth;rw[aez c,D];rfl
        have d3:depth t w=1+dep t w:=by unfold depth;rw[aez g];rfl
        have k:depth t x-depth t a+1<=sT t a:=k;omega
       ·have:=h.tr x;unfold dep at F;omega
      ·have e1:u.b=t.b:=by rw[<-l]
       have K: (u.r i).up=(au t.r (aR a) {t.r (aR a)with up:=w} i).up:=by rw[<-l]
       rw[e1,K];by_cases e:i=aR a
       ·rw[e,cw];exact Us g
       ·rw[cR e];exact h.up i
structure j7(k:bq):Prop where
 ok:gW k
 dO: ∀i,nJ k.b (k.t i).aS
 ord: ∃L:lN,L.Nodup/\ (∀h∈L,az k.b h=true)/\ (∀h,az k.b h=true->h∈L)/\L.Pairwise (λa b=>(k.t (aR a)).aS≠b)/\ ∀h∈L,(k.t (aR h)).aS≠h
def ajp{k:bq}{h:Nat}(a:az k.b h=true): (cn k h).1=k.t (aR h):=by unfold cn;grind
theorem Ux{k:bq}: ∀ {n m h:Nat},n<=m->xw k n h->xw k m h
 |0,_,_,_,h=>h.elim
 |n+1,0,_,a,_=>by omega
 |n+1,m+1,_,a,h=>λx b=>Ux (Nat.le_of_succ_le_succ a) (h x b)
theorem Mt: ∀ (n:Nat) (l:lN),l.Nodup->(∀x∈l,x<n)->l.length<=n
 |0,[],_,_=>ae0 _
 |0,x::_,_,h=>by grind [List.mem_cons_self]
 |n+1,l,a,h=>by
  have c:=Mt n (l.erase n) (a.erase n) λx b=>by grind
  grind
def j7.th{k:bq}(h:j7 k){x:Nat}(s:az k.b x=true):xw k 16 x:=by
 obtain⟨L,w,o,e,i,l⟩:=h.ord;have j:L.length<=16:=by
  rw[<-ae3 (f:=aR)];refine Mt 16 _ ?_ λy r=>?_
  ·grind [List.Pairwise.imp_of_mem,Uw]
  ·obtain⟨z,g,rfl⟩:=ago.1 r;exact h.ok.slot (o z g)
 have key: ∀ (n:Nat) (P S:lN) (y:Nat),S.length<=n->L=P++y::S->xw k (S.length+1) y:=by
  intro n
  induction n with
  |zero=>
   intro P S y m d z g;have b:=agy.1 g;have a:az k.b z=true:=(gi h.ok.b).1 b.1;have c: (k.t (aR z)).aS=y:=by have:=b.2;rw[ajp a]at this;simpa using this
   have t:S=[]:=ajM.1 (by omega);subst t;exfalso;have hm:=e z a;rw[d]at hm;rcases ae2.1 hm with q|q
   ·rw[d]at i;exact(anh.1 i).2.2 z q y (alc ..) c
   ·rcases agF.1 q with q|q
    ·subst q;exact l z (e z a) c
    ·cases q
  |succ n p=>
   intro P S y m d z g;have b:=agy.1 g;have a:az k.b z=true:=(gi h.ok.b).1 b.1;have c: (k.t (aR z)).aS=y:=by have:=b.2;rw[ajp a]at this;simpa using this
   have hm:=e z a;rw[d]at hm;rcases ae2.1 hm with q|q
   ·exfalso;rw[d]at i;exact(anh.1 i).2.2 z q y (alc ..) c
   ·rcases agF.1 q with q|q
    ·exfalso;subst q;exact l z (e z a) c
    ·obtain⟨v,u,rfl⟩:=awC q;have:=p (P++y::v) u z (by simp at m;omega) (by rw[d];simp);exact Ux (by simp) this
 obtain⟨P,S,rfl⟩:=awC (e x s);refine Ux ?_ (key S.length P S x (ae0 _) rfl)
 grind
def j7.void{k:bq}(h:j7 k)(y:Nat):j7 {k with b:=(eN k.b y).1}:=by
 obtain⟨L,f,g,e,d,c⟩:=h.ord;refine⟨aiy h.ok [y],λi=>ajl (h.dO i),L.filter λx=>az (eN k.b y).1 x,f.filter _,λx a=>(agy.1 a).2,λx a=>agy.2 ⟨e x (Uu a),a⟩,d.filter _,λx a=>c x (agy.1 a).1⟩
def j7.ajq{k:bq}(h:j7 k)(l:lN):j7 (ny k l):=by
 induction l generalizing k with
 |nil=>exact h
 |cons y l a=>exact a (h.void y)
def j7.clear{k:bq}(h:j7 k)(r:Nat):j7 (LP k r):=h.ajq _
def j7.ret{k:bq}(h:j7 k)(a:Nat):j7 (mP k a).1:=by
 unfold mP;split
 ·exact h.ajq _
 omega
def j7.ajr{k:bq}(h:j7 k){x:Tok}(F:uj x):j7 (lu k x).1:=by
 unfold lu;split
 ·exact h
 ·rename_i hm;have hm:qe k x=0:=amp λq=>hm q
  have g:x.aS=0\/az k.b x.aS=true:=by
   unfold qe at hm;split at hm
   ·omega
   ·have:nv k x.aS=true:=by grind
    unfold nv at this
    grind
  split
  ·rename_i i s;split
   ·rename_i r;obtain⟨i1,i2,i3,_⟩:=sW s;have t:=h.ok.b;have c:=Gv s t;have p:=ajm s t;have f:=λz=>Ut (h:=z) s t
    have A: ∀z,az k.b z=true->aR z≠i:=by
     intro z d q;obtain⟨_,o,_⟩:=Cc d;rw[q]at o;rw[o]at i2;cases i2
    have y:aR (dg i (k.b i).gen)=i:=by
     obtain⟨j,e,l⟩:=lv.1 ((f _).2 (.inr rfl));rw[F6 e];refine amp λq=>?_
     rw[cR q]at l;rw[lv.2 ⟨j,e,l⟩]at c;cases c
    have v:x.aS≠dg i (k.b i).gen:=by
     intro q;rcases g with e|e
     ·rw[e]at q;unfold dg at q;omega
     ·rw[q,c]at e;cases e
    obtain⟨L,E,u,D,C,B⟩:=h.ord;have w: ∀z∈L,au k.t i x (aR z)=k.t (aR z):=λz d=>cR (A z (u z d))
    refine⟨⟨Ts t s,λj l=>?_,λj=>?_⟩,λj=>?_,L++[dg i (k.b i).gen],?_,λz d=>?_,λz d=>?_,?_,λz d=>?_⟩
    ·by_cases e:j=i
     ·rw[e];exact r
     ·have l: (au k.b i {k.b i with fe:=true} j).fe=true:=l;rw[cR e]at l;exact h.ok.lt j l
    ·show uj (au k.t i x j);by_cases e:j=i
     ·rw[e,cw];exact F
     ·rw[cR e];exact h.ok.t j
    ·show nJ _ (au k.t i x j).aS;by_cases e:j=i
     ·rw[e,cw];rcases g with q|q
      ·rw[q];exact CM _
      ·exact Ms (Us q)
     ·rw[cR e];exact Ms (h.dO j)
    ·refine List.nodup_append.2 ⟨E,by simp,λa n b m=>?_⟩;rw[ae5.1 m];intro q;rw[q]at n;rw[u _ n]at c;cases c
    ·rcases ae2.1 d with q|q
     ·exact(f z).2 (.inl (u z q))
     ·exact(f z).2 (.inr (ae5.1 q))
    ·rcases(f z).1 d with q|q
     ·exact ae2.2 (.inl (D z q))
     ·exact ae2.2 (.inr (ae5.2 q))
    ·refine anh.2 ⟨?_,by simp,λa n b m=>?_⟩
     ·exact asH (λn _ g=>by show(au k.t i x (aR _)).aS≠_;rw[w _ n];exact g) C
     ·rw[ae5.1 m];show(au k.t i x (aR a)).aS≠_;rw[w a n];intro q;have:=h.dO (aR a);rw[q]at this;exact p this
    ·rcases ae2.1 d with q|q
     ·show(au k.t i x (aR z)).aS≠_;rw[w z q];exact B z q
     ·rw[ae5.1 q];show(au k.t i x (aR _)).aS≠_;rw[y,cw];exact v
   omega
  omega
structure br(s:bF):Prop where
 eB:dV s.T
 O:fQ s.O
 tok:j7 s.K
 bx: ∀i,jq (s.c8 i)
def br.T{s:bF}(h:br s):bT s.T:=h.eB.ok
def br.tr{s:bF}(h:br s):ca s.T:=h.eB.tr
def br.K{s:bF}(h:br s):gW s.K:=h.tok.ok
theorem br.th{s:bF}(h:br s): ∀a,az s.K.b a=true->xw s.K 16 a:=λ_ b=>h.tok.th b
def br.vO{s:bF}(h:br s)(a:dV t):br {s with T:=t}:=⟨a,h.O,h.tok,h.bx⟩
def br.vP{s:bF}(h:br s){o:bK}(ho:fQ o):br {s with O:=o}:=⟨h.eB,ho,h.tok,h.bx⟩
def br.CN{s:bF}(h:br s){k:bq}(a:j7 k):br {s with K:=k}:=⟨h.eB,h.O,a,h.bx⟩
def br.CO{s:bF}(h:br s){i:Nat}(a:jq b):br {s with c8:=au s.c8 i b}:=⟨h.eB,h.O,h.tok,λj=>by
 show jq (au s.c8 i b j);by_cases e:j=i
 ·rw[e,cw];exact a
 ·rw[cR e];exact h.bx j⟩
def br.Uy{s:bF}(h:br s){a b:Nat->Bool}:br {s with alive:=a,born:=b}:=⟨h.eB,h.O,h.tok,h.bx⟩
def fQ.iW{o:bK}(ho:fQ o)(a:r<4294967296):fQ (rl o t r aa).1:=ho.Mh a ⟨by simp,aoo _ (by omega),by simp⟩
def fQ.fly{o:bK}(ho:fQ o)(a:r<4294967296):fQ (xe o t r).1:=ho.Mh a ⟨by simp,by simp,by simp⟩
def fQ.freeze{o:bK}(ho:fQ o)(a:r<4294967296):fQ (zG o t r aa).1:=ho.Mh a ⟨by simp,by simp,z7 aa⟩
def fQ.held{o:bK}(ho:fQ o){b:Bool}(c:r<4294967296):fQ (dH o t r aa b).1:=by
 unfold dH;dsimp only;split
 ·omega
 ·split
  ·omega
  ·split
   ·omega
   ·split
    ·omega
    ·split
     ·omega
     ·have a:=ho.of t r;exact ho.Mh c ⟨a.kind,a.aa,az3 (n:=8) a.hold (z7 aa)⟩
section
def lx{args:lA}{E:AS}{r:aX}(h:D X0 v args E=some r):D XA v args E=some r:=vF DY (up dw h)
def ly{args:lA}{E:AS}{r:aX}(h:D X v args E=some r):D XA v args E=some r:=vF DY h
structure j8(c:cy):Prop where
 op:c.op<256
 r:c.r<4294967296
 s:c.s<4294967296
 a:c.a<4294967296
 b:c.b<4294967296
 v:c.v<18446744073709551616
def ep{α:Type}(f:α->AV×AS)(E:AS):R α->aX
 |.ok a=>.ret (f a).1 (f a).2
 |.error e=>.panic (ju e) E
abbrev un(E:AS):Unit->AV×AS:=λ_=>(.ax [],E)
def lO(b:Bool)(e:Nat)(H:List ae)(lo:oN):D XA (.fn (.func 161) [] []) [.bool b,.int .i64 e] ⟨H,lo⟩=some (ep (un ⟨H,lo⟩) ⟨H,lo⟩ (ask b e)):=by
 cases b
 ·exact lx (Ab e H lo)
 ·exact lx (Gt e H lo)
def ia(e:Nat)(H:List ae)(lo:oN):D XA (.fn (.func 274) [] []) [.int .i64 e] ⟨H,lo⟩=some (ep (un ⟨H,lo⟩) ⟨H,lo⟩ (cD e)):=by
 by_cases h:e=0
 ·subst h;exact lx (auD H lo)
 ·unfold cD;rw[aeu h];exact lx (auE e h H lo)
def jv{a:List FP}{f:ao}{b:List ao}{d:oN}{e:Env}{c:lN}{Q:bZ}{E:AS}:kF a (.call f b) d [] [] e c Q v E=Q (.panic v) ⟨e,c⟩ E:=by
 have h:Dh a (⟨none,d,.call f b⟩,[]) []=true:=by rfl
 simp only[kF,h,azs]
def take_set{H L:List ae}{N:Nat}{o:ae}(a:H.length=N):List.take N (H.set p o++L)=H.set p o:=by grind
def aCH{H:List ae}{N:Nat}{o:ae}(a:H.length=N):List.take N (H.set p o)=H.set p o:=aeE (by grind)
def au1:aN t++List.drop 480 (bc x bk)=bc (x.t t) bk:=by
 rw[<-Uq];simp[aJ,iw]
structure Old(p:Nat)(H:List ae)(v:ae):Prop where
 at':H[p]?=some v
namespace Old
variable{p:Nat}{H:List ae}{v:ae}(h:Old p H v)
include h
theorem lt:p<H.length:=(adN.1 h.at').1
theorem g(B:List ae): (H++B)[p]?=some v:=bf h.at'
theorem s(B:List ae)(w:ae): (H++B).set p w=H.set p w++B:=ard _ _ h.lt
theorem g1(w:ae): (H.set p w)[p]?=some w:=by rw[ae1 h.lt]
theorem g2(w:ae)(B:List ae): (H.set p w++B)[p]?=some w:=bf (h.g1 w)
theorem s2(w w':ae)(B:List ae): (H.set p w++B).set p w'=H.set p w'++B:=by
 rw[ard _ _ (by rw[agq];exact h.lt),alY]
theorem same:H.set p v=H:=qm h.at'
theorem app(B:List ae):Old p (H++B) v:=⟨h.g B⟩
theorem set(w:ae):Old p (H.set p w) w:=⟨h.g1 w⟩
end Old
def ajs{x:Nat}(a:k<8):k0 .shr (.int .u8 (x:Nat)) (.int .i64 (k:Nat))=some (.int .u8 ((x/2^k:Nat):Int)):=by
 rw[D1,aez (by omega)];have b:IntKind.u8.bits=8:=rfl
 grind
def ajt{x:Nat}(c:x<256):dp .and (.int .u8 ((x/2^k:Nat):Int)) (.int .u8 1)=some (.int .u8 ((x/2^k % 2:Nat):Int)):=by
 have a:x/2^k<256:=Nat.lt_of_le_of_lt (Nat.div_le_self _ _) c;have:=Mi (b:=1) a (by omega)
 grind
section
variable{x:aC}{bk:AV}{p:Nat}{H:List ae}(ho:Old p H (.box (bc x bk) none))(lo:oN)
include ho
theorem Mv(aa:Nat):D XA (.fn (.func 289) [] []) [.ptr p 0,.int .u32 aa] ⟨H,lo⟩=some (ep (un ⟨H,lo⟩) ⟨H,lo⟩ (mS x aa)):=by
 refine aH Lk λN f=>?_
 have e:=ho.at';by_cases h:aa<8
 ·have c: (aa:Int)<8:=by omega
  have b:mS x aa=ask (x.s.alive aa) 2:=by unfold mS;simp[h]
  have a: ∀H lo,D XA (.fn (.func 161) [] []) [.bool (x.s.alive aa),.int .i64 2] ⟨H,lo⟩=_:=lO _ 2;rw[b];cases d:x.s.alive aa<;>rw[d]at a<;>simp(disch:=omega) only[F1,go_sem,simprocAttr,Lk,e,c,↓Up h,d,a,ask,ep,EP]
 ·have c: ¬(aa:Int)<8:=by omega
  have b:mS x aa= .error 2:=by unfold mS ask;simp[h]
  have a: ∀H lo,D XA (.fn (.func 161) [] []) [.bool false,.int .i64 2] ⟨H,lo⟩=_:=lO _ 2;rw[b];simp(disch:=omega) only[F1,go_sem,simprocAttr,Lk,c,a,ask,ep,EP]
theorem Uz(b:br x.s)(i:x.aa<8)(h:Nat)(e:h<4294967296)(a:Nat)(d:a<=2):
  D XA (.fn (.func 272) [] []) [.ptr p 0,.int .u32 h,.int .u8 a] ⟨H,lo⟩=some (ep (un ⟨H,lo⟩) ⟨H,lo⟩ (ga x h a)):=by
 refine aH Si λN g=>?_
 have hm:=λH lo=>ly (auA x.s.T b.T b.tr x.s.O b.O x.s.K b.K x.aa (by omega) h e a d H lo)
 have c:=ia (xg x.s.T x.s.O x.s.K x.aa h a);unfold ga;cases f:cD (xg x.s.T x.s.O x.s.K x.aa h a)<;>rw[f]at c<;>simp only[F1,go_sem,simprocAttr,Si,g,ho.at',↓CL,hm,c,ep,EP,jv]
theorem Mw(b:br x.s)(h:Nat)(c:h<4294967296):
  D XA (.fn (.func 277) [] []) [.ptr p 0,.int .u32 h] ⟨H,lo⟩=some (ep (λ_=>(.agg (bS (aM x.s.T h).1),⟨H,lo⟩)) ⟨H,lo⟩ (cD (aM x.s.T h).2)):=by
 refine aH Sk λN e=>?_
 have hm:=λH lo=>lx (ue x.s.T b.T h c H lo)
 have a:=ia (aM x.s.T h).2;cases d:cD (aM x.s.T h).2<;>rw[d]at a<;>simp only[F1,go_sem,simprocAttr,Sk,e,ho.g,↓CL,hm,ml,a,ep,EP]
theorem UA(a:br x.s)(h:Nat)(d:h<4294967296):
  D XA (.fn (.func 286) [] []) [.ptr p 0,.int .u32 h] ⟨H,lo⟩=some (ep (λ_=>(.ax [],⟨H.set p (.box (bc (x.t (jH x.s.T h).1) bk) none),lo⟩)) ⟨H,lo⟩ (cD (jH x.s.T h).2)):=by
 refine aH Sp λN c=>?_
 have hm:=λH lo=>ly (atO x.s.T a.T a.tr h d H lo)
 have b:=ia (jH x.s.T h).2;cases e:cD (jH x.s.T h).2<;>rw[e]at b<;>simp only[F1,go_sem,simprocAttr,Sp,c,ho.at',ho.g,ho.s,↓CL,hm,Mf,b,ep,EP,CS,cV,take_set c]
theorem Mx(a:br x.s)(h:Nat)(e:h<4294967296)(aa:Nat)(d:aa<256):
  D XA (.fn (.func 275) [] []) [.ptr p 0,.int .u32 h,.int .i64 aa] ⟨H,lo⟩=some (ep (λ_=>(.ax [],⟨H.set p (.box (bc (x.o (rl x.s.O x.s.T h aa).1) bk) none),lo⟩)) ⟨H,lo⟩ (cD (rl x.s.O x.s.T h aa).2)):=by
 refine aH Sj λN c=>?_
 have hm:=λH lo=>lx (atX x.s.O x.s.T a.T a.tr h e aa d H lo)
 have b:=ia (rl x.s.O x.s.T h aa).2;cases f:cD (rl x.s.O x.s.T h aa).2<;>rw[f]at b<;>simp only[F1,go_sem,simprocAttr,Sj,c,ho.g,ho.s,↓CL,hm,b,ep,EP,CS,gO,take_set c]
theorem UB(d:br x.s)(h:Nat)(g:h<4294967296)(r:ds)(e:RB r.runs)(f:r.runs.length<=65)(a:r.len<4294967296):
  D XA (.fn (.func 282) [] []) [.ptr p 0,.int .u32 h,.agg (bS r)] ⟨H,lo⟩=some (ep (λ_=>(.ax [],⟨H.set p (.box (bc (x.t (fP x.s.T h r).1) bk) none),lo⟩)) ⟨H,lo⟩ (cD (fP x.s.T h r).2)):=by
 refine aH Sn λN c=>?_
 have hm:=λH lo=>lx (T5 x.s.T d.T h g r e f a H lo)
 have b:=ia (fP x.s.T h r).2;cases i:cD (fP x.s.T h r).2<;>rw[i]at b<;>simp only[F1,go_sem,simprocAttr,Sn,c,ho.g,ho.s,↓CL,hm,uh,b,ep,EP,CS,cV,take_set c]
theorem Gw(f:br x.s)(u:x.aa<8)(h:Nat)(o:h<4294967296):
  D XA (.fn (.func 290) [] []) [.ptr p 0,.int .u32 h] ⟨H,lo⟩=some (ep (un ⟨H,lo⟩) ⟨H,lo⟩ (zN x h)):=by
 refine aH B2 λN s=>?_
 have a:=λH lo=>lx (eP x.s.T.b h o H lo)
 have q:az x.s.T.b h=x.s.T.az h:=rfl;rw[q]at a;have d:=λH lo=>lx (z9 x.s.O f.O x.s.T f.T f.tr h o H lo)
 have c:=λH lo=>lx (xn x.s.T f.T f.tr h o H lo)
 have j:=f.O.of x.s.T h;have A:zN x h=ask (x.s.T.az h) 4>>=λ_=>ask (decide (root x.s.T h=h)&&decide ((bP x.s.O x.s.T h).kind=3)) 12>>=λ_=>ask ((bP x.s.O x.s.T h).hold.testBit x.aa) 5:=rfl
 generalize bP x.s.O x.s.T h=w at*;have g: ∀H lo,D XA (.fn (.func 161) [] []) [.bool (x.s.T.az h),.int .i64 4] ⟨H,lo⟩=_:=lO _ 4;have e: ∀b H lo,D XA (.fn (.func 161) [] []) [.bool b,.int .i64 12] ⟨H,lo⟩=_:=λb=>lO b 12
 have B: ∀b H lo,D XA (.fn (.func 161) [] []) [.bool b,.int .i64 5] ⟨H,lo⟩=_:=λb=>lO b 5
 rw[A];cases y:x.s.T.az h with
 |false=>
  rw[y]at a g;simp(disch:=omega) only[F1,go_sem,simprocAttr,B2,ho.at',↓CL,a,g,ask,ep,EP,Except.bind,bind]
 |true=>
  rw[y]at a g;by_cases n:root x.s.T h=h
  ·have k:decide ((root x.s.T h:Int)=h)=true:=aeD (by omega);by_cases t:w.kind=3
   ·have i:decide ((w.kind:Int)=3)=true:=aeD (by omega);have m:k0 .shr (.int .u8 (w.hold:Nat)) (.int .i64 (x.aa:Nat))=some (.int .u8 ((w.hold/2^x.aa:Nat):Int)):=ajs u;have hand:dp .and (.int .u8 ((w.hold/2^x.aa:Nat):Int)) (.int .u8 1)=some (.int .u8 ((w.hold/2^x.aa % 2:Nat):Int)):=ajt j.hold;have r:=Uk j.hold u;have l:decide (((w.hold/2^x.aa % 2:Nat):Int)=1)=w.hold.testBit x.aa:=by rw[<-r];exact agv.2 (by omega)
    cases z:w.hold.testBit x.aa<;>rw[z]at l<;>
     simp only[F1,go_sem,simprocAttr,B2,s,ho.at',ho.g,↓CL,jZ,a,g,d,c,n,t,e,B,m,hand,l,ask,ep,EP,jv,Except.bind,bind]
   ·have i:decide ((w.kind:Int)=3)=false:=aeC (by omega);simp only[F1,go_sem,simprocAttr,B2,s,ho.at',ho.g,↓CL,jZ,a,g,d,c,n,i,t,e,ask,ep,EP,Except.bind,bind]
  ·have k:decide ((root x.s.T h:Int)=h)=false:=aeC (by omega);simp only[F1,go_sem,simprocAttr,B2,s,ho.at',ho.g,↓CL,jZ,a,g,d,c,k,n,e,ask,ep,ahM,EP,Except.bind,bind]
end
def aju(c:cy)(H:List ae)(lo:oN):D XA (.fn (.func 283) [] []) [.agg (bp c)] ⟨H,lo⟩=some (ep (un ⟨H,lo⟩) ⟨H,lo⟩ (ask (decide (1<=c.b)&&decide (c.b<=8)) 2)):=by
 refine aH FT λN e=>?_
 have g: ∀b H lo,D XA (.fn (.func 161) [] []) [.bool b,.int .i64 2] ⟨H,lo⟩=_:=λb=>lO b 2
 by_cases f:1<=c.b
 ·have a:decide ((c.b:Int)>=1)=true:=aeD (by omega);by_cases i:c.b<=8
  ·have d:decide ((c.b:Int)<=8)=true:=aeD (by omega);simp only[F1,go_sem,simprocAttr,FT,e,bp,a,d,f,i,g,ask,ep]
  ·have d:decide ((c.b:Int)<=8)=false:=aeC (by omega);simp only[F1,go_sem,simprocAttr,FT,e,bp,a,d,f,i,g,ask,ep,EP]
 ·have a:decide ((c.b:Int)>=1)=false:=aeC (by omega);simp only[F1,go_sem,simprocAttr,FT,e,bp,a,f,g,ask,ep,ahM,EP]
def au2(r:ds)(g:r.len<4294967296)(c:cy)(d:j8 c)(H:List ae)(lo:oN):
  D XA (.fn (.func 284) [] []) [.agg (bS r),.agg (bp c)] ⟨H,lo⟩=some (ep (un ⟨H,lo⟩) ⟨H,lo⟩ (ask (decide (c.a+c.b<=r.len)) 9)):=by
 refine aH Lh λN e=>?_
 have j:=d.a;have i:=d.b;have f: ∀b H lo,D XA (.fn (.func 161) [] []) [.bool b,.int .i64 9] ⟨H,lo⟩=_:=λb=>lO b 9
 by_cases h:c.a+c.b<=r.len
 ·have a:decide ((c.a:Int)<=(r.len:Int)-c.b)=true:=aeD (by omega);simp(disch:=omega) only[F1,go_sem,simprocAttr,Lh,e,bp,a,h,f,ask,ep]
 ·have a:decide ((c.a:Int)<=(r.len:Int)-c.b)=false:=aeC (by omega);simp(disch:=omega) only[F1,go_sem,simprocAttr,Lh,e,bp,a,h,f,ask,ep,EP]
end
structure m0(x:aC):Prop where
 s:br x.s
 t:x.aa<8
 c:j8 x.c
 run:x.run.1<4294967296/\x.run.2<4294967296
def bh(b:List aD)(bk:AV)(p:Nat)(H:List ae)(lo:oN):R (aC×bG)->aX->Prop
 |.ok (y,r),a=>y.back=b/\a= .ret (.agg (bH r)) ⟨H.set p (.box (bc y bk) none),lo⟩
 |.error e,a=> ∃y,a= .panic (ju e) ⟨H.set p (.box (bc y bk) none),lo⟩
theorem okB{a:α}{f:α->R β}: (Except.ok a>>=f:R β)=f a:=rfl
theorem da{f:α->R β}: (Except.error e>>=f:R β)= .error e:=rfl
def OL{H:List ae}{N:Nat}(a:H.length=N): (∀p w L,(H.set p w++L)[N]?=L[0]?)/\ (∀p w L k,(H.set p w++L)[N+k]?=L[k]?)/\ (∀p w L o,(H.set p w++L).set N o=H.set p w++L.set 0 o)/\ (∀p w L k o,(H.set p w++L).set (N+k) o=H.set p w++L.set k o)/\
  (∀p w L,List.take N (H.set p w++L)=H.set p w)/\ ∀p w,List.take N (H.set p w)=H.set p w:=by
 have h: ∀p w,(H.set p w).length=N:=λp w=>by grind
 grind
theorem gX{a:α}: (pure a:R α)= .ok a:=rfl
def ea{K c:AV->AS->Prop}{f:α->AV×AS}{E:AS}{m:R α}:Ic K c (some (ep f E m))=((∀a,m= .ok a->K (f a).1 (f a).2)/\ ∀e,m= .error e->c (ju e) E):=by
 apply propext;cases m with
 |ok a=>
  refine⟨λh=>⟨λb e=>?_,λ_ e=>?_⟩,λh=>h.1 a rfl⟩
  ·cases e;exact h
  grind
 |error e=>
  refine⟨λh=>⟨λb q=>?_,λb q=>?_⟩,λh=>h.2 e rfl⟩
  ·cases q
  ·cases q;exact h
def ed{q:Unit->Prop}: (∀a,q a)=q ():=by grind
section
variable{x:aC}{bk:AV}{p:Nat}{H:List ae}{lo:oN}(ho:Old p H (.box (bc x bk) none))(hx:m0 x)
include ho
theorem bh.err:bh x.back bk p H lo (.error e) (.panic (ju e) ⟨H,lo⟩):=⟨x,by rw[ho.same]⟩
theorem bh.here{r:bG}(a:v= .agg (bH r)):bh x.back bk p H lo (.ok (x,r)) (.ret v ⟨H,lo⟩):=by
 refine⟨rfl,?_⟩;rw[ho.same,a]
omit ho in
theorem bh.set{r:bG}(a:v= .agg (bH r))(b:y.back=x.back):bh x.back bk p H lo (.ok (y,r)) (.ret v ⟨H.set p (.box (bc y bk) none),lo⟩):=by
 refine⟨b,?_⟩;rw[a]
omit ho in
theorem Ae{h w:Nat}(a:ga x h w= .ok ()):cD (aM x.s.T h).2= .ok ():=by
 unfold ga xg at a;cases b:x.s.T.az h with
 |true=>unfold aM;rw[aez b];rfl
 |false=>rw[aez b]at a;cases a
include hx
theorem M0(h:Nat)(a:h<4294967296)(B:List ae)(lo:oN):D XA (.fn (.func 272) [] []) [.ptr p 0,.int .u32 h,.int .u8 0] ⟨H++B,lo⟩=some (ep (un ⟨H++B,lo⟩) ⟨H++B,lo⟩ (ga x h 0)):=Uz (ho.app B) lo hx.s hx.t h a 0 (by omega)
theorem M1(h:Nat)(a:h<4294967296)(B:List ae)(lo:oN):D XA (.fn (.func 272) [] []) [.ptr p 0,.int .u32 h,.int .u8 1] ⟨H++B,lo⟩=some (ep (un ⟨H++B,lo⟩) ⟨H++B,lo⟩ (ga x h 1)):=Uz (ho.app B) lo hx.s hx.t h a 1 (by omega)
theorem M2(h:Nat)(a:h<4294967296)(B:List ae)(lo:oN):D XA (.fn (.func 272) [] []) [.ptr p 0,.int .u32 h,.int .u8 2] ⟨H++B,lo⟩=some (ep (un ⟨H++B,lo⟩) ⟨H++B,lo⟩ (ga x h 2)):=Uz (ho.app B) lo hx.s hx.t h a 2 (by omega)
omit ho in
theorem Bs(L:List ae)(lo:oN):D XA (.fn (.func 284) [] []) [.agg (bS (aM x.s.T x.c.r).1),.agg (bp x.c)] ⟨L,lo⟩=some (ep (un ⟨L,lo⟩) ⟨L,lo⟩ (ask (decide (x.c.a+x.c.b<=(aM x.s.T x.c.r).1.len)) 9)):=
 au2 (aM x.s.T x.c.r).1 (by have:=(hx.s.T.get x.c.r).len;omega) x.c hx.c L lo
end
section
variable{x:aC}{bk:AV}{p:Nat}{H:List ae}{lo:oN}(ho:Old p H (.box (bc x bk) none))(hx:m0 x)
include ho hx
theorem au3: ∃a,D XA (.fn (.func 253) [] []) [.ptr p 0] ⟨H,lo⟩=some a/\bh x.back bk p H lo (vz x 0) a:=by
 refine cA R7 λN b=>?_
 simp only[F1,go_sem,simprocAttr,R7,b,ho.g,↓CL,λB=>aju x.c (H++B),M0 ho hx x.c.r hx.c.r,λB lo=>Mw (ho.app B) lo hx.s x.c.r hx.c.r,λL=>Bs hx L,ea,ed,EP,jv];have c:=Ae (x:=x) (h:=x.c.r) (w:=0)
 (repeat' (first| (refine⟨?_,?_⟩)|intro _))<;>first
   | (simp only[vz,gX,okB,da, *];first|exact bh.err ho|exact bh.here ho rfl)
   | (exfalso;simp_all)
theorem au4: ∃a,D XA (.fn (.func 254) [] []) [.ptr p 0] ⟨H,lo⟩=some a/\bh x.back bk p H lo (vz x 1) a:=by
 refine cA R8 λN b=>?_
 simp only[F1,go_sem,simprocAttr,R8,b,ho.g,↓CL,λB=>aju x.c (H++B),M1 ho hx x.c.r hx.c.r,λB lo=>Mw (ho.app B) lo hx.s x.c.r hx.c.r,λL=>Bs hx L,ea,ed,EP,jv];have c:=Ae (x:=x) (h:=x.c.r) (w:=1)
 (repeat' (first| (refine⟨?_,?_⟩)|intro _))<;>first
   | (simp only[vz,gX,okB,da, *];first|exact bh.err ho|exact bh.here ho rfl)
   | (exfalso;simp_all)
end
theorem au5{args:lA}{E:AS}{E':AS}(h:CI args E=some (.ret v E')):D XA (.fn (.func 300) [] []) args E=some (.ret v E'):=D6 rfl h
def xC(h: ¬a<8):mS x a= .error 2:=by unfold mS ask;simp[h]
def ajv(h:a<4294967296):min a 8<4294967296:=by omega
section
variable{x:aC}{bk:AV}{p:Nat}{H:List ae}{lo:oN}(ho:Old p H (.box (bc x bk) none))(hx:m0 x)
include ho hx
theorem au6: ∃b,D XA (.fn (.func 268) [] []) [.ptr p 0] ⟨H,lo⟩=some b/\bh x.back bk p H lo (Cm x) b:=by
 refine cA Sh λN c=>?_
 have a:=λH lo=>au5 (auS x.s.T hx.s.T x.c.r (min x.c.a 8) hx.c.r (ajv hx.c.a) H lo)
 have em: ((min x.c.a 8:Nat):Int)=min (x.c.a:Int) 8:=by omega
 simp only[em]at a;simp(disch:=omega) only[F1,go_sem,simprocAttr,Sh,c,ho.g,↓CL,M0 ho hx x.c.r hx.c.r,a,λH=>ia (sY x.s.T x.c.r (min x.c.a 8)).2 H,ea,ed,EP]
 (repeat' (first| (refine⟨?_,?_⟩)|intro _))<;>(simp only[Cm,gX,okB,da, *];first|exact bh.err ho|exact bh.here ho rfl)
theorem au7: ∃b,D XA (.fn (.func 258) [] []) [.ptr p 0] ⟨H,lo⟩=some b/\bh x.back bk p H lo (Ch x) b:=by
 refine cA Sc λN a=>?_
 have c:=λH lo=>ly (atK x.s.T hx.s.T hx.s.tr x.c.r x.c.s hx.c.r hx.c.s H lo)
 simp only[F1,go_sem,simprocAttr,Sc,a,ho.g,ho.s,↓CL,CS,M2 ho hx x.c.r hx.c.r,M1 ho hx x.c.s hx.c.s,c,xu,λH=>ia (vu x.s.T x.c.r x.c.s).2 H,ea,ed,EP,cV,OL a]
 (repeat' (first| (refine⟨?_,?_⟩)|intro _))<;>(simp only[Ch,gX,okB,da, *];first|exact bh.err ho|trivial)
theorem au8: ∃d,D XA (.fn (.func 260) [] []) [.ptr p 0] ⟨H,lo⟩=some d/\bh x.back bk p H lo (zP x) d:=by
 refine cA La λN b=>?_
 have a:=λB lo=>Mv (ho.app B) lo x.c.a
 by_cases c:x.c.a<8
 ·have e:=λH lo=>lx (aio x.s.O hx.s.O x.s.T hx.s.T hx.s.tr x.c.r hx.c.r x.c.a (by omega) H lo)
  simp(disch:=omega) only[F1,go_sem,simprocAttr,La,b,ho.g,ho.s,↓CL,CS,a,λB lo=>Gw (ho.app B) lo hx.s hx.t x.c.r hx.c.r,e,λH=>ia (dH x.s.O x.s.T x.c.r x.c.a true).2.2 H,ea,ed,EP,gO,OL b]
  (repeat' (first| (refine⟨?_,?_⟩)|intro _))<;>(simp only[zP,zO,gX,okB,da, *];first|exact bh.err ho|exact bh.set rfl rfl)
 ·rw[xC c]at a;simp only[F1,go_sem,simprocAttr,La,b,ho.g,↓CL,a,ep,EP];simp only[zP,da,xC c];exact bh.err ho
theorem au9: ∃d,D XA (.fn (.func 266) [] []) [.ptr p 0] ⟨H,lo⟩=some d/\bh x.back bk p H lo (Cl x) d:=by
 refine cA Sg λN c=>?_
 have e:=λH lo=>lx (auG (x.s.c8 x.aa) H lo)
 have i:=hx.t;have h: (x.aa:Int)<8:=by omega
 have g:784+x.aa*19<=945:=by omega
 have f:=λbk=> @Mo x bk x.aa hx.t
 have a:=λbk b=> @Mp x bk x.aa b hx.t
 simp only[F1,go_sem,simprocAttr,Sg,c,ho.g,ho.s,↓CL,CS,e,h,↓f,a,g,MB,λH=>ia (vy (x.s.c8 x.aa)).2 H,ea,ed,EP,OL c]
 (repeat' (first| (refine⟨?_,?_⟩)|intro _))<;>(simp only[Cl,gX,okB,da, *];first|exact bh.err ho|trivial)
theorem ava: ∃f,D XA (.fn (.func 263) [] []) [.ptr p 0] ⟨H,lo⟩=some f/\bh x.back bk p H lo (Ck x) f:=by
 refine cA Sf λN e=>?_
 have d:=λH lo=>lx (CD x.s.K hx.s.K x.c.s hx.c.s H lo)
 have c:=hx.s.K.get x.c.s;generalize j:cn x.s.K x.c.s=g at*;have h:=c.to;have he: ((g.1.to:Int)=x.aa)=(g.1.to=x.aa):=propext (by omega);obtain⟨w,a⟩:=aiD x.s.K hx.s.K x.c.s hx.c.s (hx.s.th x.c.s) (H++[.box [.int .i64 0,.int .u64 0,.int .u32 0] none,.box (fO g.1) none]) none;have a:=ly a;simp only[fO]at a d;have i: ∀b H lo,D XA (.fn (.func 161) [] []) [.bool b,.int .i64 5] ⟨H,lo⟩=_:=λb=>lO b 5
 simp(disch:=omega) only[F1,go_sem,simprocAttr,Sf,e,ho.g,ho.s,↓CL,CS,d,a,he,i,λH=>ia g.2 H,ea,ed,EP,jv,OL e]
 (repeat' (first| (refine⟨?_,?_⟩)|intro _))<;>(simp only[Ck,gX,okB,da, *];first|exact bh.err ho|exact bh.set rfl rfl)
theorem avb: ∃g,D XA (.fn (.func 271) [] []) [.ptr p 0] ⟨H,lo⟩=some g/\bh x.back bk p H lo (vB x) g:=by
 refine cA Le λN c=>?_
 have f: ∀b H lo,D XA (.fn (.func 161) [] []) [.bool b,.int .i64 2] ⟨H,lo⟩=_:=λb=>lO b 2
 by_cases a:x.c.a<8
 ·have e: (x.c.a:Int)<8:=by omega
  have l: (x.c.a:Int).tmod 8=x.c.a:=Int.tmod_eq_of_lt (by omega) (by omega);have k: (decide (x.c.a<8)&& !x.s.born (x.c.a % 8))= !x.s.born x.c.a:=by rw[ane a];simp[a]
  have j:=λbk=> @auB x bk x.c.a a
  have s1:=λ (y:aC) bk v=> @ai5 y bk x.c.a v a
  have s2:=λ (y:aC) bk v=> @auC y bk x.c.a v a
  have i:936+x.c.a<=963:=by omega
  have h:944+x.c.a<=963:=by omega
  simp only[F1,go_sem,simprocAttr,Le,c,ho.g,ho.s,ho.g2,ho.s2,↓CL,CS,e,l,i,h,↓j,f,s1,s2,ea,ed,EP,jv,OL c];have d:vB x=ask (!x.s.born x.c.a) 2>>=λ_=>.ok ({x with s:={x.s with alive:=au x.s.alive x.c.a true,born:=au x.s.born x.c.a true}},bX):=by unfold vB;rw[k];rfl
  rw[d]
  (repeat' (first| (refine⟨?_,?_⟩)|intro _))<;>(simp only[okB,da, *];first|exact bh.err ho|exact bh.set rfl rfl)
 ·have e: ¬(x.c.a:Int)<8:=by omega
  have f: ∀H lo,D XA (.fn (.func 161) [] []) [.bool false,.int .i64 2] ⟨H,lo⟩=_:=λH lo=>lx (Ab 2 H lo)
  have d:vB x= .error 2:=by unfold vB;rw[aeC a];rfl
  simp only[F1,go_sem,simprocAttr,Le,c,ho.g,↓CL,e,f,EP,jv];rw[d];exact bh.err ho
theorem avc: ∃h,D XA (.fn (.func 267) [] []) [.ptr p 0] ⟨H,lo⟩=some h/\bh x.back bk p H lo (s6 x) h:=by
 refine cA Lc λN d=>?_
 have b:=λH lo=>lx (z9 x.s.O hx.s.O x.s.T hx.s.T hx.s.tr x.c.s hx.c.s H lo)
 have f:=λH lo=>auU x.s.T hx.s.T hx.s.tr x.c.r (min x.c.a 8) x.c.s (decide ((bP x.s.O x.s.T x.c.s).kind=3)) hx.c.r hx.c.s (ajv hx.c.a) H lo
 have em: ((min x.c.a 8:Nat):Int)=min (x.c.a:Int) 8:=by omega
 have c:decide ((bP x.s.O x.s.T x.c.s).kind=3)=decide (((bP x.s.O x.s.T x.c.s).kind:Int)=3):=agv.2 (by omega);simp only[em,c]at f;by_cases e:x.c.s=0
 ·have a:decide ((x.c.s:Int)=0)=true:=aeD (by omega);simp(disch:=omega) only[F1,go_sem,simprocAttr,Lc,d,ho.g,ho.s,↓CL,CS,M1 ho hx x.c.r hx.c.r,a,b,jZ,f,λH=>ia (nA x.s.T x.c.r (min x.c.a 8) x.c.s (decide (((bP x.s.O x.s.T x.c.s).kind:Int)=3))).2 H,ea,ed,EP,OL d,cV];have g:s6 x=ga x x.c.r 1>>=λ_=>cD (nA x.s.T x.c.r (min x.c.a 8) x.c.s (decide (((bP x.s.O x.s.T x.c.s).kind:Int)=3))).2>>=λ_=>.ok (x.t (nA x.s.T x.c.r (min x.c.a 8) x.c.s (decide (((bP x.s.O x.s.T x.c.s).kind:Int)=3))).1,bX):=by
   unfold s6;rw[aeu (by simpa using e),c];rfl
  rw[g];clear e a c em
  (repeat' (first| (refine⟨?_,?_⟩)|intro _))<;>(simp only[okB,da, *];first|exact bh.err ho|exact bh.set rfl rfl)
 ·have a:decide ((x.c.s:Int)=0)=false:=aeC (by omega);simp(disch:=omega) only[F1,go_sem,simprocAttr,Lc,d,ho.g,ho.s,↓CL,CS,M1 ho hx x.c.r hx.c.r,M0 ho hx x.c.s hx.c.s,a,b,jZ,f,λH=>ia (nA x.s.T x.c.r (min x.c.a 8) x.c.s (decide (((bP x.s.O x.s.T x.c.s).kind:Int)=3))).2 H,ea,ed,EP,OL d,cV];have g:s6 x=ga x x.c.r 1>>=λ_=>ga x x.c.s 0>>=λ_=>cD (nA x.s.T x.c.r (min x.c.a 8) x.c.s (decide (((bP x.s.O x.s.T x.c.s).kind:Int)=3))).2>>=λ_=>.ok (x.t (nA x.s.T x.c.r (min x.c.a 8) x.c.s (decide (((bP x.s.O x.s.T x.c.s).kind:Int)=3))).1,bX):=by
   unfold s6;rw[aez (by simpa using e),c];rfl
  rw[g];clear e a c em
  (repeat' (first| (refine⟨?_,?_⟩)|intro _))<;>(simp only[okB,da, *];first|exact bh.err ho|exact bh.set rfl rfl)
end
theorem vQ: (x.t t).c=x.c/\ (x.t t).aa=x.aa/\ (x.t t).s.T=t/\ (x.t t).s.O=x.s.O/\ (x.t t).s.K=x.s.K/\ (x.t t).s.c8=x.s.c8/\ (x.t t).run=x.run:=⟨rfl,rfl,rfl,rfl,rfl,rfl,rfl⟩
theorem My{t:bK}: (x.o t).c=x.c/\ (x.o t).aa=x.aa/\ (x.o t).s.O=t/\ (x.o t).s.T=x.s.T/\ (x.o t).s.K=x.s.K/\ (x.o t).s.c8=x.s.c8:=⟨rfl,rfl,rfl,rfl,rfl,rfl⟩
theorem ajw: (x.bx i b).c=x.c/\ (x.bx i b).aa=x.aa/\ (x.bx i b).s.O=x.s.O/\ (x.bx i b).s.T=x.s.T/\ (x.bx i b).s.K=x.s.K/\ (x.bx i b).s.c8=au x.s.c8 i b:=⟨rfl,rfl,rfl,rfl,rfl,rfl⟩
section
variable{x:aC}{bk:AV}{p:Nat}{H:List ae}{lo:oN}(ho:Old p H (.box (bc x bk) none))(hx:m0 x)
include ho hx
omit ho hx in
theorem bh.m2:bh x.back bk p H lo (.error e) (.panic (ju e) ⟨H.set p (.box (bc y bk) none),lo⟩):=⟨y,rfl⟩
theorem avd: ∃f,D XA (.fn (.func 257) [] []) [.ptr p 0] ⟨H,lo⟩=some f/\bh x.back bk p H lo (Cg x) f:=by
 refine cA Sb λN e=>?_
 have c:=λH lo=>lx (xn x.s.T hx.s.T hx.s.tr x.c.r hx.c.r H lo)
 have g:decide (root x.s.T x.c.r≠x.c.r)=decide (¬((root x.s.T x.c.r:Nat):Int)=x.c.r):=agv.2 (by omega);have d: ∀b H lo,D XA (.fn (.func 161) [] []) [.bool b,.int .i64 12] ⟨H,lo⟩=_:=λb=>lO b 12
 have a:br (x.t (jH x.s.T x.c.r).1).s:=hx.s.vO (hx.s.eB.cut _);have hw:=λB lo=>Mx (x:=x.t (jH x.s.T x.c.r).1) (bk:=bk) ((ho.set _).app B) lo a x.c.r hx.c.r x.aa (by have:=hx.t;omega)
 simp only[F1,go_sem,simprocAttr,Sb,e,ho.g,ho.s,ho.g2,ho.s2,↓CL,M2 ho hx x.c.r hx.c.r,c,d,λB lo=>UA (ho.app B) lo hx.s x.c.r hx.c.r,hw,vQ,ea,ed,EP,jv,OL e]
 (repeat' (first| (refine⟨?_,?_⟩)|intro _))<;>(simp only[Cg,xh,nC,vQ,gX,okB,da, *];first|exact bh.err ho|exact bh.m2|exact bh.set rfl rfl)
theorem ave: ∃c,D XA (.fn (.func 259) [] []) [.ptr p 0] ⟨H,lo⟩=some c/\bh x.back bk p H lo (Ci x) c:=by
 refine cA Se λN b=>?_
 have a:=hx.s.eB.cut x.c.r;have hw:=λH lo=>lx (atY x.s.O (jH x.s.T x.c.r).1 a.ok a.tr x.c.r hx.c.r x.aa (by have:=hx.t;omega) H lo)
 simp only[F1,go_sem,simprocAttr,Se,b,ho.g,ho.s,ho.g2,ho.s2,↓CL,CS,M2 ho hx x.c.r hx.c.r,λB lo=>UA (ho.app B) lo hx.s x.c.r hx.c.r,hw,vQ,λH=>ia (zG x.s.O (jH x.s.T x.c.r).1 x.c.r x.aa).2 H,ea,ed,EP,OL b,gO]
 (repeat' (first| (refine⟨?_,?_⟩)|intro _))<;>(simp only[Ci,xh,vQ,gX,okB,da, *];first|exact bh.err ho|exact bh.m2|exact bh.set rfl rfl)
theorem ajx: ∃t,D XA (.fn (.func 265) [] []) [.ptr p 0] ⟨H,lo⟩=some t/\bh x.back bk p H lo (sZ x) t:=by
 refine cA FN λN h=>?_
 have u:=hx.t;have s: (x.aa:Int)<8:=by omega
 have r:784+x.aa*19<=945:=by omega
 have o:=λbk=> @Mo x bk x.aa hx.t
 have d:=λbk b=> @Mp x bk x.aa b hx.t
 have f:=λH lo=>lx (auF (x.s.c8 x.aa) (hx.s.bx _) H lo)
 have i:=(hx.s.bx x.aa).take;have l:br (x.bx x.aa (mQ (x.s.c8 x.aa)).1).s:=hx.s.CO i.1;have m:=i.2.aQ;have hw:=λB lo=>Mx (x:=x.bx x.aa (mQ (x.s.c8 x.aa)).1) (bk:=bk) ((ho.set _).app B) lo l (mQ (x.s.c8 x.aa)).2.1.aQ m x.aa (by omega)
 generalize n:mQ (x.s.c8 x.aa)=g at*;simp only[oS]at f;have e:N+1+1=N+2:=rfl;by_cases j:g.2.1.aQ=0
 ·have a:decide ((g.2.1.aQ:Int)=0)=true:=aeD (by omega);have k: (g.2.1.aQ≠0/\g.2.1.share=false)=False:=az1 λq=>q.1 j
  simp only[F1,go_sem,simprocAttr,FN,h,ho.g,ho.s,↓CL,CS,f,s,↓o,d,r,e,a,MB,λH=>ia g.2.2 H,ea,ed,EP,OL h];clear j a
  (repeat' (first| (refine⟨?_,?_⟩)|intro _))<;>(simp only[sZ,n,k,ajc];simp only[gX,okB,da, *];first|exact bh.err ho|exact bh.set rfl rfl)
 ·have a:decide ((g.2.1.aQ:Int)=0)=false:=aeC (by omega);cases c:g.2.1.share with
  |true=>
   rw[c]at f;have k: (g.2.1.aQ≠0/\g.2.1.share=false)=False:=az1 λq=>by rw[c]at q;cases q.2
   simp only[F1,go_sem,simprocAttr,FN,h,ho.g,ho.s,↓CL,CS,f,s,↓o,d,r,e,a,MB,λH=>ia g.2.2 H,ea,ed,EP,OL h];clear j a c
   (repeat' (first| (refine⟨?_,?_⟩)|intro _))<;>(simp only[sZ,n,k,ajc];simp only[gX,okB,da, *];first|exact bh.err ho|exact bh.set rfl rfl)
  |false=>
   rw[c]at f;have k: (g.2.1.aQ≠0/\g.2.1.share=false)=True:=az4 ⟨j,c⟩;simp only[F1,go_sem,simprocAttr,FN,h,ho.g,ho.s,ho.g2,ho.s2,↓CL,CS,f,s,↓o,d,r,e,a,hw,ajw,MB,λH=>ia g.2.2 H,ea,ed,EP,jv,OL h];clear j a c
   (repeat' (first| (refine⟨?_,?_⟩)|intro _))<;>(simp only[sZ,n,k,ahJ];simp only[nC,ajw,gX,okB,da, *];first|exact bh.err ho|exact bh.m2|exact bh.set rfl rfl)
end
def avf(c:hY t.b): (mb t a n).2.1<4294967296:=by
 unfold mb;split
 ·simp
 ·split
  ·simp
  ·split
   ·rename_i i b;exact F7 (sW b).1 (c i).1
   grind
def ajy(b:hY t.b): (iB t a n).2.1<4294967296:=by
 unfold iB;dsimp only;split
 ·simp
 ·exact avf b
section
variable{x:aC}{bk:AV}{p:Nat}{H:List ae}{lo:oN}(ho:Old p H (.box (bc x bk) none))(hx:m0 x)
include ho hx
theorem avg: ∃i,D XA (.fn (.func 251) [] []) [.ptr p 0] ⟨H,lo⟩=some i/\bh x.back bk p H lo (xi x) i:=by
 refine cA K9 λN d=>?_
 have j:=hx.t;have g:=λH lo=>lx (atC x.s.T hx.s.T hx.s.tr x.c.r (min x.c.a 65) hx.c.r H lo)
 have em: ((min x.c.a 65:Nat):Int)=min (x.c.a:Int) 65:=by omega
 have e:br (x.t (iB x.s.T x.c.r (min x.c.a 65)).1).s:=hx.s.vO (hx.s.eB.new _ _ hx.c.r);have f: (iB x.s.T x.c.r (min x.c.a 65)).2.1<4294967296:=ajy hx.s.T.b;have hw:=λB lo=>Mx (x:=x.t (iB x.s.T x.c.r (min x.c.a 65)).1) (bk:=bk) ((ho.set _).app B) lo e _ f x.aa (by omega)
 have h:=λH=>ia (iB x.s.T x.c.r (min x.c.a 65)).2.2 H
 have e1:xi x=(if x.c.r≠0 then ga x x.c.r 1 else .ok ())>>=λ_=>cD (iB x.s.T x.c.r (min x.c.a 65)).2.2>>=λ_=>(if x.c.r=0 then nC (x.t (iB x.s.T x.c.r (min x.c.a 65)).1) (iB x.s.T x.c.r (min x.c.a 65)).2.1 x.aa else .ok (x.t (iB x.s.T x.c.r (min x.c.a 65)).1))>>=λy=>.ok (y,{bX with w:=(iB x.s.T x.c.r (min x.c.a 65)).2.1}):=by
  unfold xi;by_cases q:x.c.r=0
  ·rw[aeu (by simpa using q),aeu (by simpa using q)];simp only[aez q];rfl
  ·rw[aez (by simpa using q),aez (by simpa using q)];simp only[aeu q];rfl
 simp only[z6,em]at g;generalize iB x.s.T x.c.r (min x.c.a 65)=n at*;rw[e1];by_cases b:x.c.r=0
 ·have a:decide ((x.c.r:Int)=0)=true:=aeD (by omega);have c: (x.c.r≠0)=False:=az1 λq=>q b
  have e3: (x.c.r=0)=True:=az4 b;simp only[c,e3,ajc,ahJ];simp(disch:=omega) only[F1,go_sem,simprocAttr,K9,d,ho.g,ho.s,ho.g2,ho.s2,↓CL,CS,g,a,h,hw,vQ,cV,ea,ed,EP,OL d];clear b a c e3
  (repeat' (first| (refine⟨?_,?_⟩)|intro _))<;>(simp only[nC,vQ,gX,okB,da, *];first|exact bh.err ho|exact bh.m2|exact bh.set rfl rfl)
 ·have a:decide ((x.c.r:Int)=0)=false:=aeC (by omega);have c: (x.c.r≠0)=True:=az4 b;have e3: (x.c.r=0)=False:=az1 b;simp only[c,e3,ajc,ahJ];simp(disch:=omega) only[F1,go_sem,simprocAttr,K9,d,ho.g,ho.s,ho.g2,↓CL,CS,M1 ho hx x.c.r hx.c.r,g,a,h,vQ,cV,ea,ed,EP,OL d];clear b a c e3
  (repeat' (first| (refine⟨?_,?_⟩)|intro _))<;>(simp only[okB,da, *];first|exact bh.err ho|exact bh.m2|exact bh.set rfl rfl)
theorem avh: ∃I,D XA (.fn (.func 262) [] []) [.ptr p 0] ⟨H,lo⟩=some I/\bh x.back bk p H lo (vA x) I:=by
 refine cA zq λN h=>?_
 have M:=hx.t;have l:=λB lo=>Mv (ho.app B) lo x.c.a
 by_cases G:x.c.a<8
 ·have y: ∀b H lo,D XA (.fn (.func 161) [] []) [.bool b,.int .i64 2] ⟨H,lo⟩=_:=λb=>lO b 2
  have v: ∀b H lo,D XA (.fn (.func 161) [] []) [.bool b,.int .i64 4] ⟨H,lo⟩=_:=λb=>lO b 4
  have u: ∀b H lo,D XA (.fn (.func 161) [] []) [.bool b,.int .i64 5] ⟨H,lo⟩=_:=λb=>lO b 5
  have L:decide (x.c.b<=1)=decide ((x.c.b:Int)<=1):=agv.2 (by omega);have s:decide (x.c.b=1)=decide ((x.c.b:Int)=1):=agv.2 (by omega);have d:=λH lo=>lx (eP x.s.T.b x.c.r hx.c.r H lo)
  have C:az x.s.T.b x.c.r=x.s.T.az x.c.r:=rfl;rw[C]at d;have o:=λH lo=>ly (aud x.s.K hx.s.K ⟨x.c.r,x.aa % 256,x.c.a % 256,decide (x.c.b=1),x.c.s⟩ ⟨hx.c.r,aoo _ (by omega),aoo _ (by omega),hx.c.s⟩ H lo)
  have F:x.aa % 256=x.aa:=ane (by omega);have E:x.c.a % 256=x.c.a:=ane (by omega);simp only[nH,F,E,s]at o;have t:=λH=>ia (lu x.s.K ⟨x.c.r,x.aa,x.c.a,decide ((x.c.b:Int)=1),x.c.s⟩).2.2 H
  have k:=λH lo=>lx (z9 x.s.O hx.s.O x.s.T hx.s.T hx.s.tr x.c.r hx.c.r H lo)
  have A:=hx.s.O.of x.s.T x.c.r;have j:=λH lo=>lx (CD x.s.K hx.s.K x.c.s hx.c.s H lo)
  have z:=hx.s.K.get x.c.s;have e1:vA x=mS x x.c.a>>=λ_=>ask (decide ((x.c.b:Int)<=1)) 2>>=λ_=>ask (x.s.T.az x.c.r) 4>>=λ_=>(if x.c.s=0 then ask (decide ((bP x.s.O x.s.T x.c.r).kind=1)&&decide ((bP x.s.O x.s.T x.c.r).aa=x.aa)) 5 else cD (cn x.s.K x.c.s).2>>=λ_=>ask (decide ((cn x.s.K x.c.s).1.to=x.aa)&&decide ((cn x.s.K x.c.s).1.aQ=x.c.r)) 5)>>=λ_=>
    cD (lu x.s.K ⟨x.c.r,x.aa,x.c.a,decide ((x.c.b:Int)=1),x.c.s⟩).2.2>>=λ_=>.ok (x.k (lu x.s.K ⟨x.c.r,x.aa,x.c.a,decide ((x.c.b:Int)=1),x.c.s⟩).1,{bX with w:=(lu x.s.K ⟨x.c.r,x.aa,x.c.a,decide ((x.c.b:Int)=1),x.c.s⟩).2.1}):=by
   unfold vA;rw[L,s,F,E];by_cases q:x.c.s=0
   ·simp only[aez q];rfl
   ·simp only[aeu q];cases mS x x.c.a with
    |error e=>rfl
    |ok _=>
     simp only[okB];cases ask (decide ((x.c.b:Int)<=1)) 2 with
     |error e=>rfl
     |ok _=>
      simp only[okB];cases ask (x.s.T.az x.c.r) 4 with
      |error e=>rfl
      |ok _=>
       simp only[okB];cases cD (cn x.s.K x.c.s).2<;>rfl
  rw[e1];generalize lu x.s.K ⟨x.c.r,x.aa,x.c.a,decide ((x.c.b:Int)=1),x.c.s⟩=g at*;generalize bP x.s.O x.s.T x.c.r=w at*;generalize cn x.s.K x.c.s=tg at*;simp only[jZ]at k;by_cases m:x.c.s=0
  ·have c:decide ((x.c.s:Int)=0)=true:=aeD (by omega);have e3: (x.c.s=0)=True:=az4 m;simp only[e3,ahJ];by_cases f:w.kind=1
   ·have a:decide ((w.kind:Int)=1)=true:=aeD (by omega);have r:decide (w.aa=x.aa)=decide ((w.aa:Int)=x.aa):=agv.2 (by omega);have J:=A.aa;simp only[f,r,decide_true,alk];simp(disch:=omega) only[F1,go_sem,simprocAttr,zq,h,ho.g,ho.s,↓CL,CS,l,y,d,v,c,k,a,u,o,t,qo,ea,ed,EP,jv,OL h];clear m c e3 f a r
    (repeat' (first| (refine⟨?_,?_⟩)|intro _))<;>(simp only[okB,da, *];first|exact bh.err ho|exact bh.m2|exact bh.set rfl rfl)
   ·have a:decide ((w.kind:Int)=1)=false:=aeC (by omega);have i:decide (w.kind=1)=false:=aeC f;simp only[i,ahM];simp(disch:=omega) only[F1,go_sem,simprocAttr,zq,h,ho.g,ho.s,↓CL,CS,l,y,d,v,c,k,a,u,o,t,qo,ea,ed,EP,jv,OL h];clear m c e3 f a i
    (repeat' (first| (refine⟨?_,?_⟩)|intro _))<;>(simp only[okB,da, *];first|exact bh.err ho|exact bh.m2|exact bh.set rfl rfl)
  ·have c:decide ((x.c.s:Int)=0)=false:=aeC (by omega);have e3: (x.c.s=0)=False:=az1 m;simp only[e3,ajc];simp only[fO]at j;have K:=z.to;have n:=λH=>ia tg.2 H
   by_cases f:tg.1.to=x.aa
   ·have a:decide ((tg.1.to:Int)=x.aa)=true:=aeD (by omega);have r:decide (tg.1.aQ=x.c.r)=decide ((tg.1.aQ:Int)=x.c.r):=agv.2 (by omega);have i:decide (tg.1.to=x.aa)=true:=aeD f;simp only[i,r,alk];simp(disch:=omega) only[F1,go_sem,simprocAttr,zq,h,ho.g,ho.s,↓CL,CS,l,y,d,v,c,j,n,a,u,o,t,qo,ea,ed,EP,jv,OL h];clear m c e3 f a i r
    (repeat' (first| (refine⟨?_,?_⟩)|intro _))<;>(simp only[okB,da, *];first|exact bh.err ho|exact bh.m2|exact bh.set rfl rfl)
   ·have a:decide ((tg.1.to:Int)=x.aa)=false:=aeC (by omega);have i:decide (tg.1.to=x.aa)=false:=aeC f;simp only[i,ahM];simp(disch:=omega) only[F1,go_sem,simprocAttr,zq,h,ho.g,ho.s,↓CL,CS,l,y,d,v,c,j,n,a,u,o,t,qo,ea,ed,EP,jv,OL h];clear m c e3 f a i
    (repeat' (first| (refine⟨?_,?_⟩)|intro _))<;>(simp only[okB,da, *];first|exact bh.err ho|exact bh.m2|exact bh.set rfl rfl)
 ·rw[xC G]at l;simp(disch:=omega) only[F1,go_sem,simprocAttr,zq,h,ho.g,↓CL,l,ep,EP];simp only[vA,da,xC G];exact bh.err ho
end
section
variable{x:aC}{bk:AV}{p:Nat}{H:List ae}{lo:oN}(ho:Old p H (.box (bc x bk) none))(hx:m0 x)
include ho hx
theorem avi: ∃E,D XA (.fn (.func 264) [] []) [.ptr p 0] ⟨H,lo⟩=some E/\bh x.back bk p H lo (rn x) E:=by
 refine cA zr λN f=>?_
 have G:=hx.t;have l:=λB lo=>Mv (ho.app B) lo x.c.a
 by_cases u:x.c.a<8
 ·have w: (x.c.a:Int)<8:=by omega
  have v:784+x.c.a*19<=945:=by omega
  have t:=λ (y:aC) bk=> @Mo y bk x.c.a u
  have d:=λ (y:aC) bk b=> @Mp y bk x.c.a b u
  have z: ∀b H lo,D XA (.fn (.func 161) [] []) [.bool b,.int .i64 2] ⟨H,lo⟩=_:=λb=>lO b 2
  have i:decide (x.c.b<=1)=decide ((x.c.b:Int)<=1):=agv.2 (by omega);have g:x.aa % 256=x.aa:=ane (by omega);have F:=hx.c.v;by_cases h:x.c.r=0
  ·have a:decide ((x.c.r:Int)=0)=true:=aeD (by omega);have j: (x.c.r≠0)=False:=az1 λq=>q h
   have es: (decide (x.c.r≠0)&&decide (x.c.b=1))=false:=by rw[aeC (by simpa using h)];rfl
   have e:=λH lo=>lx (Un (x.s.c8 x.c.a) (hx.s.bx _) ⟨x.aa,x.c.v,x.c.r,false⟩ H lo)
   simp only[oS]at e;have m:=λH=>ia (oJ (x.s.c8 x.c.a) ⟨x.aa,x.c.v,x.c.r,false⟩).2 H
   simp(disch:=omega) only[F1,go_sem,simprocAttr,zr,f,ho.g,ho.s,↓CL,CS,l,z,a,w,v,↓t,d,e,m,MB,ea,ed,EP,OL f];simp only[rn,es,agm,ajc,i,g];simp only[j,ajc];clear h a j es i g
   (repeat' (first| (refine⟨?_,?_⟩)|intro _))<;>(simp only[gX,okB,da, *];first|exact bh.err ho|exact bh.m2|exact bh.set rfl rfl)
  ·have a:decide ((x.c.r:Int)=0)=false:=aeC (by omega);have j: (x.c.r≠0)=True:=az4 h;by_cases s:x.c.b=1
   ·have c:decide ((x.c.b:Int)=1)=true:=aeD (by omega);have es: (decide (x.c.r≠0)&&decide (x.c.b=1))=true:=by rw[aeD (by simpa using h),aeD s];rfl
    have r:=λH lo=>lx (aio x.s.O hx.s.O x.s.T hx.s.T hx.s.tr x.c.r hx.c.r x.c.a (by omega) H lo)
    have e:=λH lo=>lx (Un (x.s.c8 x.c.a) (hx.s.bx _) ⟨x.aa,x.c.v,x.c.r,true⟩ H lo)
    simp only[oS]at e;have m:=λH=>ia (oJ (x.s.c8 x.c.a) ⟨x.aa,x.c.v,x.c.r,true⟩).2 H
    by_cases k: (dH x.s.O x.s.T x.c.r x.c.a true).2.2=0
    ·have k':decide (((dH x.s.O x.s.T x.c.r x.c.a true).2.2:Int)=0)=true:=aeD (by omega);simp(disch:=omega) only[F1,go_sem,simprocAttr,zr,f,ho.g,ho.s,ho.g2,ho.s2,↓CL,CS,l,z,a,c,λB lo=>Gw (ho.app B) lo hx.s hx.t x.c.r hx.c.r,r,k',w,v,↓t,d,e,m,MB,gO,My,ea,ed,EP,OL f];simp only[rn,es,ahJ,i,g,zO];have n: ((dH x.s.O x.s.T x.c.r x.c.a true).2.2=0)=True:=az4 k;simp only[n,ahJ];clear h a j es i g k k' n s c
     (repeat' (first| (refine⟨?_,?_⟩)|intro _))<;>(simp only[My,gX,okB,da, *];first|exact bh.err ho|exact bh.m2|exact bh.set rfl rfl)
    ·have k':decide (((dH x.s.O x.s.T x.c.r x.c.a true).2.2:Int)=0)=false:=aeC (by omega);simp(disch:=omega) only[F1,go_sem,simprocAttr,zr,f,ho.g,ho.s,↓CL,CS,l,z,a,c,λB lo=>Gw (ho.app B) lo hx.s hx.t x.c.r hx.c.r,r,k',w,v,↓t,d,e,m,MB,gO,ea,ed,EP,OL f];simp only[rn,es,ahJ,i,g,zO];have n: ((dH x.s.O x.s.T x.c.r x.c.a true).2.2=0)=False:=az1 k;simp only[n,ajc];clear h a j es i g k k' n s c
     (repeat' (first| (refine⟨?_,?_⟩)|intro _))<;>(simp only[gX,okB,da, *];first|exact bh.err ho|exact bh.m2|exact bh.set rfl rfl)
   ·have c:decide ((x.c.b:Int)=1)=false:=aeC (by omega);have es: (decide (x.c.r≠0)&&decide (x.c.b=1))=false:=by rw[aeC s,aqy]
    have o:=hx.s.eB.cut x.c.r;have A:=λH lo=>lx (atZ x.s.O (jH x.s.T x.c.r).1 o.ok o.tr x.c.r hx.c.r H lo)
    have C:=λH=>ia (xe x.s.O (jH x.s.T x.c.r).1 x.c.r).2 H
    have e:=λH lo=>lx (Un (x.s.c8 x.c.a) (hx.s.bx _) ⟨x.aa,x.c.v,x.c.r,false⟩ H lo)
    simp only[oS]at e;have m:=λH=>ia (oJ (x.s.c8 x.c.a) ⟨x.aa,x.c.v,x.c.r,false⟩).2 H
    simp(disch:=omega) only[F1,go_sem,simprocAttr,zr,f,ho.g,ho.s,ho.g2,ho.s2,↓CL,CS,l,z,a,c,M2 ho hx x.c.r hx.c.r,λB lo=>UA (ho.app B) lo hx.s x.c.r hx.c.r,A,C,w,v,↓t,d,e,m,MB,gO,My,vQ,ea,ed,EP,OL f];simp only[rn,es,agm,ajc,i,g];simp only[j,ahJ];clear h a j es i g s c
    (repeat' (first| (refine⟨?_,?_⟩)|intro _))<;>(simp only[xh,vQ,My,gX,okB,da, *];first|exact bh.err ho|exact bh.m2|exact bh.set rfl rfl)
 ·rw[xC u]at l;simp(disch:=omega) only[F1,go_sem,simprocAttr,zr,f,ho.g,↓CL,l,ep,EP];simp only[rn,da,xC u];exact bh.err ho
end
theorem UC{r:ds}{l:List aD}:aJ (bS r) 2 [ek l,.int .i64 n]=bS {r with runs:=l,len:=n}:=rfl
def ajz(l:List aD)(r:aD):aL (l++[r])=aL l+r.2:=by unfold aL;simp
def CP{l:List aD}{s:Nat}(h:hZ l n s a=some k):k+s<=aL l*32:=by
 unfold hZ at h
 grind
section
variable{x:aC}{bk:AV}{p:Nat}{H:List ae}{lo:oN}(ho:Old p H (.box (bc x bk) none))(hx:m0 x)
include ho hx
theorem avj: ∃cr,D XA (.fn (.func 252) [] []) [.ptr p 0] ⟨H,lo⟩=some cr/\bh x.back bk p H lo (mT x) cr:=by
 refine cA zp λN G=>?_
 have ht:=hx.t;have o: ((min x.c.a 129:Nat):Int)=min (x.c.a:Int) 129:=by omega
 have m: ((min x.c.b 9:Nat):Int)=min (x.c.b:Int) 9:=by omega
 have u:min x.c.a 129<2147483648:=by omega
 have F:min x.c.b 9<2147483648:=by omega
 have d:=λH lo=>lx (atw (min x.c.a 129) (min x.c.b 9) u F H lo)
 have T: ∀b H lo,D XA (.fn (.func 161) [] []) [.bool b,.int .i64 2] ⟨H,lo⟩=_:=λb=>lO b 2
 have W: ∀b H lo,D XA (.fn (.func 161) [] []) [.bool b,.int .i64 6] ⟨H,lo⟩=_:=λb=>lO b 6
 have E:=M1 ho hx x.c.r hx.c.r;have z:=λB lo=>Mw (ho.app B) lo hx.s x.c.r hx.c.r
 have I:=hx.s.T.get x.c.r;have a:=I.rb;have uN:=I.len;have J: ∀l:List aD,(ek l).refs=0:=λl=>cL (mM l) (bB (λ_=>rfl) l)
 have hrp:=I.aL;cases C:qg (min x.c.a 129) (min x.c.b 9)with
 |none=>
  rw[C]at d;simp only[o,m]at d;simp(disch:=omega) only[F1,go_sem,simprocAttr,zp,G,ho.g,↓CL,d,T,ask,ep,EP];simp only[mT,C,da];exact bh.err ho
 |some n=>
  have hn5:n<=5:=by
   unfold qg at C;split at C
   ·cases C;omega
   ·cases C
  have f:=λH lo=>lx (aia (ek (aM x.s.T x.c.r).1.runs) (aM x.s.T x.c.r).1.len (aM x.s.T x.c.r).1.runs (by omega) (mM _) a.1 (min x.c.a 129) (min x.c.b 9) u F H lo)
  have i:=λH lo=>lx (aib (ek (aM x.s.T x.c.r).1.runs) (aM x.s.T x.c.r).1.len (aM x.s.T x.c.r).1.runs (by omega) (mM _) a.1 (min x.c.a 129) (min x.c.b 9) u F H lo)
  rw[C]at d;cases O:hZ (aM x.s.T x.c.r).1.runs (aM x.s.T x.c.r).1.len (min x.c.a 129) (min x.c.b 9)with
  |some k=>
   have hk:=CP O;have V:vG (aM x.s.T x.c.r).1.runs (aM x.s.T x.c.r).1.len (min x.c.a 129) (min x.c.b 9)=k+min x.c.a 129:=by unfold vG;rw[O]
   have e:=λB lo=>UB (ho.app B) lo hx.s x.c.r hx.c.r {(aM x.s.T x.c.r).1 with len:=k+min x.c.a 129} a.1 (by have:=a.2;show(aM x.s.T x.c.r).1.runs.length<=65;omega) (by show k+min x.c.a 129<4294967296;omega)
   rw[V,O]at i;simp only[O,xq]at f;generalize hsv:min x.c.a 129=sz at*;generalize hav:min x.c.b 9=al at*;have U:aJ (bS (aM x.s.T x.c.r).1) 2 [ek (aM x.s.T x.c.r).1.runs,.int .i64 ((k:Int)+sz)]=bS {(aM x.s.T x.c.r).1 with len:=k+sz}:=by
    rw[<-anc];exact UC
   simp(disch:=omega) only[F1,go_sem,simprocAttr,zp,G,ho.g,ho.s,↓CL,d,T,E,z,f,i,e,U,J,<-o,<-m,jK,ea,ed,EP,jv,OL G];have L:=Ae (x:=x) (h:=x.c.r) (w:=1)
   (repeat' (first| (refine⟨?_,?_⟩)|intro _))<;>first
     | (simp only[mT,oK,gX,okB,da, *];first|exact bh.err ho|exact bh.set rfl rfl)
     | (exfalso;simp_all[ask])
  |none=>
   have A:=λH lo=>lx (Mb (ek (aM x.s.T x.c.r).1.runs) (aM x.s.T x.c.r).1.len (aM x.s.T x.c.r).1.runs (mM _) a.1 H lo)
   have M:=λH lo=>lx (atA (ek (aM x.s.T x.c.r).1.runs) (aM x.s.T x.c.r).1.len (aM x.s.T x.c.r).1.runs (mM _) a.1 x.run H lo)
   have g:RB ((aM x.s.T x.c.r).1.runs++[x.run]):=⟨by have:=a.2;simp;omega,λy hy=>by
    rcases ae2.1 hy with q|q
    ·exact a.1.2 y q
    ·rw[ae5.1 q];exact hx.run⟩
   have S: ((aM x.s.T x.c.r).1.runs++[x.run]).length<=65:=by have:=a.2;simp;omega
   have yI:=ajz (aM x.s.T x.c.r).1.runs x.run;have j:aL (aM x.s.T x.c.r).1.runs*32<4294967296:=by omega
   have R:=λH lo=>lx (ah9 (ek ((aM x.s.T x.c.r).1.runs++[x.run])) (aL (aM x.s.T x.c.r).1.runs*32) ((aM x.s.T x.c.r).1.runs++[x.run]) j (mM _) g S H lo)
   have i:=λH lo=>lx (aib (ek ((aM x.s.T x.c.r).1.runs++[x.run])) (aL (aM x.s.T x.c.r).1.runs*32) ((aM x.s.T x.c.r).1.runs++[x.run]) j (mM _) g (min x.c.a 129) (min x.c.b 9) u F H lo)
   have K:decide (aL (aM x.s.T x.c.r).1.runs+n<=(aM x.s.T x.c.r).1.dG)=decide (((aL (aM x.s.T x.c.r).1.runs:Nat):Int)+n<=(aM x.s.T x.c.r).1.dG):=agv.2 (by omega);have t:IntKind.i64.wrap ((aL (aM x.s.T x.c.r).1.runs:Nat)+(n:Int))=(aL (aM x.s.T x.c.r).1.runs:Nat)+(n:Int):=wrap_i64 (by omega) (by omega);simp only[O,xq]at f;cases has:x.asks with
   |true=>
    simp(disch:=omega) only[F1,go_sem,simprocAttr,zp,G,ho.g,ho.s,ho.g2,↓CL,CS,d,T,W,E,z,f,A,t,has,<-o,<-m,jK,ea,ed,EP,jv,OL G];have L:=Ae (x:=x) (h:=x.c.r) (w:=1)
    (repeat' (first| (refine⟨?_,?_⟩)|intro _))<;>first
      | (simp only[mT,gX,okB,da,ahJ, *];first|exact bh.err ho|exact bh.set rfl rfl)
      | (exfalso;simp_all[ask])
   |false=>
    by_cases Z:x.run.2=n
    ·have r:decide ((x.run.2:Int)=n)=true:=aeD (by omega);have Q:vG ((aM x.s.T x.c.r).1.runs++[x.run]) (aL (aM x.s.T x.c.r).1.runs*32) (min x.c.a 129) (min x.c.b 9)<4294967296:=by
      unfold vG;split
      ·rename_i q;have:=CP q;omega
      ·omega
     have P:IntKind.u64.wrap (((hZ ((aM x.s.T x.c.r).1.runs++[x.run]) (aL (aM x.s.T x.c.r).1.runs*32) (min x.c.a 129) (min x.c.b 9)).getD 0:Nat):Int)=((hZ ((aM x.s.T x.c.r).1.runs++[x.run]) (aL (aM x.s.T x.c.r).1.runs*32) (min x.c.a 129) (min x.c.b 9)).getD 0:Nat):=by
      cases q:hZ ((aM x.s.T x.c.r).1.runs++[x.run]) (aL (aM x.s.T x.c.r).1.runs*32) (min x.c.a 129) (min x.c.b 9)with
      |none=>rfl
      |some k=>have:=CP q;exact wrap_u64 (by simp) (by simp;omega)
     have e1:mT x=ga x x.c.r 1>>=λ_=>cD (aM x.s.T x.c.r).2>>=λ_=>ask (decide (((aL (aM x.s.T x.c.r).1.runs:Nat):Int)+n<=(aM x.s.T x.c.r).1.dG)) 6>>=λ_=>ask (qd ((aM x.s.T x.c.r).1.runs++[x.run]) (aL (aM x.s.T x.c.r).1.runs*32)) 2>>=λ_=>
       oK {s:=x.s,aa:=x.aa,c:=x.c,run:=x.run,mR:=n,asks:=false,back:=x.back} x.c.r {(aM x.s.T x.c.r).1 with runs:=(aM x.s.T x.c.r).1.runs++[x.run],len:=vG ((aM x.s.T x.c.r).1.runs++[x.run]) (aL (aM x.s.T x.c.r).1.runs*32) (min x.c.a 129) (min x.c.b 9)}>>=λy=>
       .ok (y,{bX with v:=(hZ ((aM x.s.T x.c.r).1.runs++[x.run]) (aL (aM x.s.T x.c.r).1.runs*32) (min x.c.a 129) (min x.c.b 9)).getD 0}):=by
      unfold mT;simp only[C,O,K,has,Z,decide_true,alk,agm,ajc,gX,okB];rfl
     have e:=λB lo=>UB (x:={s:=x.s,aa:=x.aa,c:=x.c,run:=x.run,mR:=n,asks:=false,back:=x.back}) (bk:=bk) ((ho.set _).app B) lo hx.s x.c.r hx.c.r
      {(aM x.s.T x.c.r).1 with runs:=(aM x.s.T x.c.r).1.runs++[x.run],len:=vG ((aM x.s.T x.c.r).1.runs++[x.run]) (aL (aM x.s.T x.c.r).1.runs*32) (min x.c.a 129) (min x.c.b 9)} g S Q
     simp(disch:=omega) only[F1,go_sem,simprocAttr,zp,G,ho.g,ho.s,ho.g2,ho.s2,↓CL,CS,d,T,W,E,z,f,A,M,t,has,J,r,R,i,e,P,UC,<-o,<-m,jK,ea,ed,EP,jv,OL G];have L:=Ae (x:=x) (h:=x.c.r) (w:=1);rw[e1];clear e Q P r e1 R i M A K t j
     (repeat' (first| (refine⟨?_,?_⟩)|intro _))<;>first
       | (simp only[oK,gX,okB,da, *];first|exact bh.err ho|exact bh.m2|exact bh.set rfl rfl)
       | (exfalso;simp_all[ask])
    ·have r:decide ((x.run.2:Int)=n)=false:=aeC (by omega);have e1:mT x=ga x x.c.r 1>>=λ_=>cD (aM x.s.T x.c.r).2>>=λ_=>ask (decide (((aL (aM x.s.T x.c.r).1.runs:Nat):Int)+n<=(aM x.s.T x.c.r).1.dG)) 6>>=λ_=>.error 2:=by
      unfold mT;simp only[C,O,K,has,aeC Z,ahM,agm,ajc,gX,okB];rfl
     have Y: ∀H lo,D XA (.fn (.func 161) [] []) [.bool false,.int .i64 2] ⟨H,lo⟩=_:=λH lo=>lx (Ab 2 H lo)
     have X: ∀H lo,D XA (.fn (.func 161) [] []) [.bool true,.int .i64 2] ⟨H,lo⟩=_:=λH lo=>lx (Gt 2 H lo)
     simp(disch:=omega) only[F1,go_sem,simprocAttr,zp,G,ho.g,ho.s,ho.g2,↓CL,CS,d,Y,X,W,E,z,f,A,M,t,has,J,r,UC,<-o,<-m,jK,ea,ed,EP,jv,OL G];have L:=Ae (x:=x) (h:=x.c.r) (w:=1);rw[e1]
     (repeat' (first| (refine⟨?_,?_⟩)|intro _))<;>first
       | (simp only[okB,da, *];first|exact bh.err ho|exact bh.m2|exact bh.set rfl rfl)
       | (exfalso;simp_all[ask])
end
structure bY(p:Nat)(H H':List ae):Prop where
 len:H.length<=H'.length
 low: ∀i,i<p->H'[i]?=H[i]?
 box: ∀i o,i≠p->(∀a d,o≠ .row a 2 eX d)->H[i]?=some o->H'[i]?=some o
theorem bY.refl(p:Nat)(H:List ae):bY p H H:=⟨ae0 _,λ_ _=>rfl,λ_ _ _ _ h=>h⟩
theorem bY.trans{A B C:List ae}(h:bY p A B)(g:bY p B C):bY p A C:=
 ⟨agD h.len g.len,λi a=>(g.low i a).trans (h.low i a),λi o a ho b=>g.box i o a ho (h.box i o a ho b)⟩
def bY.app(p:Nat)(H L:List ae)(a:p<H.length):bY p H (H++L):=⟨by simp,λi b=>acK (by omega),λi o _ _ h=>bf h⟩
theorem bY.set(p:Nat)(H:List ae)(o:ae):bY p H (H.set p o):=⟨by simp,λi a=>acG (by omega),λi w a _ h=>by grind⟩
theorem bY.take{N:Nat}{A B:List ae}(h:bY p A B)(d:A.length=N)(c:p<N):bY p A (B.take N):=⟨by rw[agw];have:=h.len;omega,λi a=>by rw[agz (by omega)];exact h.low i a,λi o a ho b=>by
 have:=(adN.1 b).1;rw[agz (by omega)];exact h.box i o a ho b⟩
def bY.own{N:Nat}{A B:List ae}{ty:TypeId}{af:List lA}(h:bY p A B)(ho:aP N A v sz ty af)(k:p<N)(j:sz≠2):aP N B v sz ty af:=by
 obtain⟨i,b⟩:=ho;refine⟨i,?_⟩;rcases b with b| ⟨id,aj,g,f,c⟩
 ·grind
 ·exact .inr ⟨id,aj,g,f,h.box id _ (by omega) (λa d e=>by grind) c⟩
def ajA{E:AS}(l:List aD):Den.elems E 2 (ek l)=some (l.map aA):=by
 unfold ek;split
 ·rename_i h;rw[aAN.1 h];rfl
 ·exact aqX (by simp[Tn])
structure At(p:Nat)(x:aC)(bk:AV)(H:List ae):Prop where
 box:H[p]?=some (.box (bc x bk) none)
 own:aP (p+1) H bk 2 eX (x.back.map aA)
def vR(Q:Prop)(p:Nat)(H H':List ae)(lo ak:oN):Prop:=(ak=lo/\H'.length=H.length/\Q)\/ak=cM lo p
def ajB(l:lN): ∀x:aC,(l.foldl jk x).s.T=x.s.T:=by
 induction l with
 |nil=>simp
 |cons h l a=>intro x;exact a _
def UD(l:lN): ∀x:aC,br x.s->br (l.foldl jk x).s:=by
 induction l with
 |nil=>simp
 |cons h l b=>intro x a;exact b _ (a.CN (a.tok.clear h))
def ajC(l:lN): ∀x:aC,bT x.s.T->(l.foldl jk x).back.length<=x.back.length+64*l.length:=by
 induction l with
 |nil=>simp
 |cons h l b=>
  intro x a;have e:=b (jk x h) a;have d: (jk x h).back.length=x.back.length+(aM x.s.T h).1.runs.length:=by simp[jk]
  have c:=(a.get h).rb.2
  grind
def avl{x:aC}{l:lN}{k:Nat}(h:k<l.length): (l.take (k+1)).foldl jk x=jk ((l.take k).foldl jk x) (l.getD k default):=by grind [List.take_add_one,List.getElem?_eq_getElem,getD_eq]
def vS{H:List ae}(a:p<n):finish n lo v ⟨H,some p⟩=(v,⟨H,cM lo p⟩):=by
 unfold finish;rw[aeu (by grind)];rfl
def UE{H:List ae}(K:At p x bk H)(c:br x.s)(h:Nat)(hh:h<4294967296)(hB:x.back.length+64*(under x.s.T h).length<=4294967296)(lo:oN):
  ∃a H' ak,D XA (.fn (.func 285) [] []) [.ptr p 0,.int .u32 h] ⟨H,lo⟩=some (.ret (.ax []) ⟨H',ak⟩)/\At p (gU x h) a H'/\bY p H H'/\vR (a=bk\/a= .aq) p H H' lo ak:=by
 suffices c: ∃S,D XA (.fn (.func 285) [] []) [.ptr p 0,.int .u32 h] ⟨H,lo⟩=some S/\ (λS=> ∃a H' ak,S=aX.ret (.ax []) ⟨H',ak⟩/\At p (gU x h) a H'/\bY p H H'/\vR (a=bk\/a= .aq) p H H' lo ak) S by
  obtain⟨S,h1,a,H',ak,rfl,h2⟩:=c;exact⟨a,H',ak,h1,h2⟩
 refine cA So λN X=>?_
 have f:p<N:=by rw[<-X];exact(adN.1 K.box).1
 obtain⟨v,J,Af,V,Z,u3⟩:=Gl x.s.T c.T c.tr h hh N H X none;have V:=ly V;have hul:=z5 c.tr h;have b:=(iZ Z Af).bJ;have hbp:=K.box;obtain⟨W0,m⟩: ∃W0,W0=H++J:=⟨_,rfl⟩;rw[<-m]at V Z b;have w0:W0[p]?=some (.box (bc x bk) none):=by rw[m];exact bf K.box
 have om:bY p H W0:=by rw[m];exact bY.app p H J (by omega)
 simp only[↓R1,Zz,go_sem,simprocAttr,So,hbp,↓CL,V,b];refine gE (under x.s.T h).length (λk e U ak=> ∃a,U[p]?=some (.box (bc (((under x.s.T h).take k).foldl jk x) a) none)/\aP (p+1) U a 2 eX ((((under x.s.T h).take k).foldl jk x).back.map aA)/\bY p H U/\aP N U v 1 b8 ((under x.s.T h).map hC)/\
  ((eA N ak/\aP (p+1) (U.take N) a 2 eX ((((under x.s.T h).take k).foldl jk x).back.map aA)/\ (a=bk\/a= .aq))\/ak=some p)/\e 0= .ptr p 0/\e 1= .int .u32 h/\e 15=v/\e 16= .int .i64 (under x.s.T h).length/\e 17= .int .i64 k) 0 (by omega) ?_ ?_
 ·simp only[↓ao1,Zz,go_sem,simprocAttr];refine⟨bk,w0,by rw[m];exact K.own.ext,om,Z,.inl ⟨eA.of u3,?_,.inl rfl⟩⟩;rw[m,aop X];exact K.own
 rintro k hk e T u ⟨a,E,p1,F,p3,p4,e0,e1,Q,P,O⟩ n hn;have jM:=UD ((under x.s.T h).take k) x c;have d:=ajB ((under x.s.T h).take k) x;have DT:=ajC ((under x.s.T h).take k) x c.T;rw[agw]at DT;have Pn:= @avl x (under x.s.T h) k;generalize hy: ((under x.s.T h).take k).foldl jk x=y at*;have A:Old p T (.box (bc y a) none):=⟨E⟩;simp only[bO,↓R1,Zz,go_sem,simprocAttr,af4,E,↓CL,e0,e1,Q,P,O];refine⟨λhc=>?_,λhc=>?_⟩
 ·have B:k< (under x.s.T h).length:=by omega
  have hr:=iZ p3 u;have hg:=λH lo=>lx (ue y.s.T (by rw[d];exact c.T) ((under x.s.T h).getD k default) (fF (L8 c.T (dY B))) H lo)
  simp(disch:=omega) only[↓R1,↓MP,Zz,agh,go_sem,simprocAttr,hr.bW,hr.cp,↓pH,hn,E,A.g,↓CL,hg,ml,ajA,e0];have uN:=(c.T.get ((under x.s.T h).getD k default)).rb.2;rw[d];generalize hR: (aM x.s.T ((under x.s.T h).getD k default)).1=R at*;refine⟨by omega,?_⟩;obtain⟨v',Y,q1,q2,q3,q4,q5⟩:=aP.Ps (bytes:=16) (ys:=R.runs.map aA) (lo:=u) (aP.ext (L:=[ae.box (bS R) none]) p1) (by simp[hn];have:=F.len;omega) (by omega) (by intro el pt;obtain⟨r,_,rfl⟩:=ago.1 pt;rfl) (bB (λ_=>rfl) _) (by
   unfold room;simp only[ae3];omega)
  have z:Y[p]?=some (.box (bc y a) none):=by rw[q4 p (by omega)];exact A.g _
  have s:Old p Y (.box (bc y a) none):=⟨z⟩;have kZ:=λH lo=>ly (auf y.s.K jM.K ((under x.s.T h).getD k default) H lo)
  have hvt:v'.cq=false/\v'.cells=[v']:=by
   rcases q2.2 with⟨rfl,_⟩| ⟨_,_,_,rfl,_⟩<;>exact⟨rfl,rfl⟩
  rw[q1];simp(disch:=omega) only[↓ao1,↓R1,Zz,agi,go_sem,simprocAttr,hvt,z,s.g1,↓CL,CS,kZ,e0,e1,Q,P,O];rw[alY,Pn B];have l: (jk y ((under x.s.T h).getD k default)).back.map aA=y.back.map aA++R.runs.map aA:=by
   rw[<-agp];unfold jk;rw[d,hR]
  have f2:bY p (T++[ae.box (bS R) none]) Y:=⟨q3,λi hi=>q4 i (by omega),λi o _ ho hg=>q5 i o ho hg⟩;have f3:=(bY.app p T [ae.box (bS R) none] (by have:=F.len;omega)).trans (f2.trans (bY.set p Y (.box (bc (jk y ((under x.s.T h).getD k default)) v') none)));refine⟨B,v',s.g1 _,?_,F.trans f3,f3.own p3 f (by omega),?_⟩
  ·rw[l];exact aP.mX q2 z
  ·by_cases W:v'.refs<=p+1
   ·rw[aez W];have g:v'= .aq/\y.back.map aA++R.runs.map aA=[]:=by
     rcases q2.2 with q| ⟨id,aj,i1,i2,_⟩
     ·exact q
     ·rw[i2]at W;simp only[AV.refs]at W;omega
    rcases p4 with⟨G,_⟩|G
    ·refine .inl ⟨G,?_,.inr g.1⟩;rw[l,g.1,g.2];exact aP.aq
    ·exact .inr G
   ·rw[aeu W]
    right
    rcases p4 with⟨rfl| ⟨j,hj,rfl⟩,_⟩|rfl
    ·rfl
    ·exact ahX some (aqC (show p<=j by omega))
    ·exact ahX some (ax6 p)
 ·obtain rfl:k=(under x.s.T h).length:=by omega
  have M:bT y.s.T:=by rw[d];exact c.T
  obtain⟨w,C⟩:=atk y.s.T M (by rw[d];exact c.tr) h hh T u;have C:=ly C;have I:=A.set (.box (bc (y.t (me y.s.T h).1) a) none);have e2:gU x h=y.t (me y.s.T h).1:=by
   unfold gU;rw[agk]at hy;rw[hy]
  simp only[↓R1,Zz,go_sem,simprocAttr,E,CS,C];rw[e2];rw[au1];have t:=F.trans (bY.set p T (.box (bc (y.t (me y.s.T h).1) a) none));rcases p4 with⟨G,l2,l3⟩|rfl
  ·rw[iG G (ae4 _)];refine⟨a,_,lo,rfl,⟨?_,?_⟩,t.take X f,.inl ⟨rfl,by rw[agw,agq];have:=F.len;omega,l3⟩⟩
   ·rw[agz f];exact I.at'
   ·rw[List.take_set];exact aP.mX l2 (by rw[agz f];exact E)
  ·rw[vS f];exact⟨a,_,_,rfl,⟨I.at',aP.mX p1 E⟩,t,.inr rfl⟩
abbrev Ag(p:Nat)(H H':List ae)(lo ak:oN):Prop:=vR True p H H' lo ak
def um(p:Nat)(H:List ae)(lo:oN):R (aC×bG)->aX->Prop
 |.ok (y,r),a=> ∃b H' ak,a= .ret (.agg (bH r)) ⟨H',ak⟩/\At p y b H'/\bY p H H'/\Ag p H H' lo ak
 |.error e,a=> ∃H' ak,a= .panic (ju e) ⟨H',ak⟩/\bY p H H'/\Ag p H H' lo ak
def bh.c{H:List ae}(ha:At p x bk H){m:R (aC×bG)}{c:aX}(h:bh x.back bk p H lo m c):um p H lo m c:=by
 cases m with
 |ok a=>
  obtain⟨f,b⟩:=h;have d:=(adN.1 ha.box).1;exact⟨bk,_,lo,b,⟨by grind,by rw[f];exact aP.mX ha.own ha.box⟩,bY.set _ _ _,.inl ⟨rfl,by simp,trivial⟩⟩
 |error e=>
  obtain⟨y,b⟩:=h;exact⟨_,lo,b,bY.set _ _ _,.inl ⟨rfl,by simp,trivial⟩⟩
def um.err{H:List ae}:um p H lo (.error e) (.panic (ju e) ⟨H,lo⟩):=⟨H,lo,rfl,bY.refl _ _,.inl ⟨rfl,rfl,trivial⟩⟩
theorem avo{N:Nat}{H B W:List ae}(r:H.length=N)(b:p<N)(l: ∀o∈B,∃cs tg,o=ae.box cs tg)(f:At p y bk W)(k:bY p (H++B) W)(i:W.length=(H++B).length):At p y bk (W.take N):=by
 refine⟨by rw[agz b];exact f.box,f.own.1,?_⟩;rcases f.own.2 with q| ⟨id,aj,n,m,h⟩
 ·grind
 ·by_cases j:id<N
  ·grind
  ·have c:=(adN.1 h).1;rw[i,aeZ]at c;have g: (H++B)[id]?=some B[id-N]:=by grind
   obtain⟨cs,tg,ho⟩:=l _ (arj (show id-N<B.length by omega));rw[ho]at g;have:=k.box id _ (by omega) (λa d e=>by cases e) g
   grind
def UF{N:Nat}{H B W:List ae}(b:bY p (H++B) W)(a:p<H.length):bY p H W:=(bY.app p H B a).trans b
def ajD{N:Nat}{H W:List ae}(e:H.length=N)(d:p<N)(b:bY p H W)(o:ae):bY p H (W.set N o):=
 ⟨by rw[agq];exact b.len,λi a=>by rw[acG (by omega)];exact b.low i a,λi w a hw c=>by
   have:=(adN.1 c).1;rw[acG (by omega)];exact b.box i w a hw c⟩
def Ah{N:Nat}{H B W:List ae}{ak:oN}{Q:Prop}(i:H.length=N)(a:p<N)(n: ∀o∈B,∃cs tg,o=ae.box cs tg)(h:At p y bk W)(l:bY p (H++B) W)(d: (ak=none/\ (W.length=(H++B).length\/ (bk= .aq/\y.back=[]))/\Q)\/ak=cM none p)(j:v.refs<=N)
  {cs:lA} {tg:Option TypeId} (g:W[N]?=some (.box cs tg)) (o:ae):
  ∃f b,finish N lo v ⟨W.set N o,ak⟩=(v,⟨f,b⟩)/\At p y bk f/\bY p H f/\vR Q p H f lo b:=by
 have c:=ajD i a (UF (N:=N) l (by omega)) o;rcases d with⟨rfl,d,k⟩|rfl
 ·refine⟨_,lo,iG (.inl rfl) j,?_,c.take i a,.inl ⟨rfl,?_,k⟩⟩
  ·have:At p y bk (W.take N):=by
     rcases d with d| ⟨rfl,m⟩
     ·grind [avo]
     ·exact⟨by rw[agz a];exact h.box,by rw[m];exact aP.aq⟩
   have e: (W.set N o).take N=W.take N:=by rw[List.take_set];exact List.set_eq_of_length_le (by grind)
   grind
  grind
 ·refine⟨_,cM lo p,?_,⟨?_,aP.mX h.own g⟩,c,.inr rfl⟩
  ·have:cM none p=some p:=rfl;rw[this];exact vS a
  ·rw[acG (by omega)];exact h.box
def Mz{N:Nat}{H B W:List ae}{ak:oN}(g:H.length=N)(c:p<N)(h:bY p (H++B) W)(f:ak=none\/ak=cM none p)(e:v.refs<=N):
  ∃d b,finish N lo v ⟨W,ak⟩=(v,⟨d,b⟩)/\bY p H d/\Ag p H d lo b:=by
 have a:=UF (N:=N) h (by omega);rcases f with rfl|rfl
 ·refine⟨_,lo,iG (.inl rfl) e,a.take g c,.inl ⟨rfl,?_,trivial⟩⟩;rw[agw];have:=a.len;omega
 ·refine⟨_,cM lo p,?_,a,.inr rfl⟩;exact vS c
def CQ{cs:lA}{tg:Option TypeId}: ∀o∈[ae.box cs tg],∃cs tg,o=ae.box cs tg:=by simp
section
variable{x:aC}{bk:AV}{p:Nat}{H:List ae}(lo:oN)(ha:At p x bk H)(hx:m0 x)
include ha hx
theorem avp(j:x.back.length+64*(under x.s.T x.c.r).length<=4294967296): ∃h,D XA (.fn (.func 256) [] []) [.ptr p 0] ⟨H,lo⟩=some h/\um p H lo (zM x) h:=by
 refine cA Sa λN f=>?_
 have ho:Old p H (.box (bc x bk) none):=⟨ha.box⟩;have c:p<N:=by rw[<-f];exact ho.lt
 obtain⟨l,W,ak,g1,g2,g,k⟩:=UE (bk:=bk) (H:=H++[.box [.int .i64 0,.int .u64 0,.int .u32 0] none]) ⟨ho.g _,ha.own.ext⟩ hx.s x.c.r hx.c.r j none;have b:W[N]?=some (.box [.int .i64 0,.int .u64 0,.int .u32 0] none):=g.box N _ (by omega) (λa d e=>by cases e) (by grind);simp only[F1,go_sem,simprocAttr,Sa,f,ho.g,↓CL,M2 ho hx x.c.r hx.c.r,g1,b,cQ b,ea,ed,EP];obtain⟨m,i,f1,f2,f3,f4⟩:=Ah (v:=.agg [.int .i64 0,.int .u64 0,.int .u32 0]) (lo:=lo) f c CQ g2 g (k.imp (λq=>⟨q.1,.inl q.2.1,trivial⟩) id) (ae4 _) b (.box [.int .i64 0,.int .u64 0,.int .u32 0] none);rw[f1]
 (repeat' (first| (refine⟨?_,?_⟩)|intro _))
 ·simp only[zM,gX,okB, *];exact⟨_,_,_,rfl,f2,f3,f4⟩
 ·simp only[zM,da, *];exact .err
theorem avq(hB:x.back.length<=4294967296): ∃S,D XA (.fn (.func 255) [] []) [.ptr p 0] ⟨H,lo⟩=some S/\um p H lo (zL x) S:=by
 refine cA R9 λN k=>?_
 have ho:Old p H (.box (bc x bk) none):=⟨ha.box⟩;have m:p<N:=by rw[<-k];exact ho.lt
 have G:=λB lo=>Mw (ho.app B) lo hx.s x.c.r hx.c.r
 have F:=(hx.s.T.get x.c.r);have Y:=Ae (x:=x) (h:=x.c.r) (w:=1);have e0:zL x=ga x x.c.r 1>>=λ_=>cD (aM x.s.T x.c.r).2>>=λ_=>oK {x with back:=x.back++(aM x.s.T x.c.r).1.runs} x.c.r {dR with up:=0,dG:=(aM x.s.T x.c.r).1.dG}>>=λy=>.ok (y,bX):=rfl
 rw[e0];generalize hR: (aM x.s.T x.c.r).1=R at*;obtain⟨v',c,V,z,U,P,u⟩:=aP.Ps (bytes:=16) (ys:=R.runs.map aA) (lo:=none) (aP.ext (L:=[ae.box [.int .i64 0,.int .u64 0,.int .u32 0] none,.box (bS R) none]) ha.own) (by simp[k];omega) (by omega) (by intro el J;obtain⟨r,_,rfl⟩:=ago.1 J;rfl) (bB (λ_=>rfl) _) (by
  have:=F.rb.2;unfold room;simp only[ae3];omega)
 have C:v'.cq=false/\v'.cells=[v']:=by
  rcases z.2 with⟨rfl,_⟩| ⟨_,_,_,rfl,_⟩<;>exact⟨rfl,rfl⟩
 have j:c[p]?=some (.box (bc x bk) none):=by rw[P p (by omega)];exact ho.g _
 have b:Old p c (.box (bc x bk) none):=⟨j⟩;have w0:c[N]?=some (.box [.int .i64 0,.int .u64 0,.int .u32 0] none):=u N _ (λa d e=>by cases e) (by rw[dq k];rfl);have w1:c[N+1]?=some (.box (bS R) none):=u (N+1) _ (λa d e=>by cases e) (by rw[bA k];rfl);have n:=b.set (.box (bc {x with back:=x.back++R.runs} v') none);have f:=λlo=>UB (x:={x with back:=x.back++R.runs}) (bk:=v') n lo hx.s x.c.r hx.c.r {dR with up:=0,dG:=R.dG} ⟨by simp[dR],by simp[dR]⟩ (by simp[dR]) (by simp[dR])
 have K:bc {x with back:=x.back++R.runs} v'=bc x v':=rfl;rw[K]at f;have M:N<c.length:=(adN.1 w0).1;have E: ∀A B o,(((c.set p A).set p B).set N o)[N]?=some o:=λA B o=>ae1 (by simp only[agq];exact M)
 have I:p≠N:=by omega
 have X:p≠N+1:=by omega
 simp(disch:=omega) only[F1,go_sem,simprocAttr,R9,k,ho.g,↓CL,CS,M1 ho hx x.c.r hx.c.r,G,jK,ajA,V,C,j,w0,w1,b.g1,E,f,ahw,ea,ed,EP,jv];have s: (if v'.refs<=p+1 then none else cM none p)=none/\ (v'= .aq/\x.back++R.runs=[])\/ (if v'.refs<=p+1 then none else cM none p)=cM none p:=by
  by_cases t:v'.refs<=p+1
  ·rw[aez t];refine .inl ⟨rfl,?_⟩;rcases z.2 with⟨T,O⟩| ⟨id,aj,i1,i2,_⟩
   ·refine⟨T,?_⟩;rw[<-agp]at O;exact aqL.1 O
   ·rw[i2]at t;simp only[AV.refs]at t;omega
  ·rw[aeu t];exact .inr rfl
 have f0:bY p (H++[ae.box [.int .i64 0,.int .u64 0,.int .u32 0] none,.box (bS R) none]) c:=⟨U,λi hi=>P i (by omega),λi o _ ho Z=>u i o ho Z⟩;have f1:=f0.trans (bY.set p c (.box (bc x v') none));generalize Q: (if v'.refs<=p+1 then none else cM none p)=ak at*
 (repeat' (first| (refine⟨?_,?_⟩)|intro _))
 ·rename_i g l m3;have hA:At p (({x with back:=x.back++R.runs}:aC).t (fP x.s.T x.c.r {dR with up:=0,dG:=R.dG}).1) v' ((c.set p (.box (bc x v') none)).set p (.box (bc (({x with back:=x.back++R.runs}:aC).t (fP x.s.T x.c.r {dR with up:=0,dG:=R.dG}).1) v') none)):=
   ⟨by rw[alY];exact b.g1 _,by rw[alY];show aP _ _ _ _ _ (List.map aA (x.back++R.runs));rw[agp];exact aP.mX z j⟩
  have f2:=f1.trans (bY.set p (c.set p (.box (bc x v') none)) (.box (bc (({x with back:=x.back++R.runs}:aC).t (fP x.s.T x.c.r {dR with up:=0,dG:=R.dG}).1) v') none));obtain⟨H3,W,g1,g2,g3,g4⟩:=Ah (v:=.agg [.int .i64 0,.int .u64 0,.int .u32 0]) (lo:=lo) k m (B:=[ae.box [.int .i64 0,.int .u64 0,.int .u32 0] none,.box (bS R) none]) (by simp) hA f2 (s.imp (λq=>⟨q.1,.inr q.2,trivial⟩) id) (ae4 _)
   (by rw[alY,acG I];exact w0) (.box [.int .i64 0,.int .u64 0,.int .u32 0] none)
  rw[g1];simp only[oK,gX,okB,g,l,m3];exact⟨_,_,_,rfl,g2,g3,g4⟩
 ·rename_i g l e m3;obtain⟨E1,l1,e1,e2,e3⟩:=Mz (v:=ju e) (lo:=lo) k m f1 (s.imp And.left id) (ae4 _);rw[e1];simp only[oK,gX,okB,da,g,l,m3];exact⟨_,_,rfl,e2,e3⟩
 ·rename_i g e l;simp only[okB,da,g,l];exact .err
 ·rename_i e g;simp only[da,g];exact .err
end
def avr{N:Nat}{H B W:List ae}{ak:oN}{Q:Prop}(g:H.length=N)(d:p<N)(i: ∀o∈B,∃cs tg,o=ae.box cs tg)(j:At p y bk W)(h:bY p (H++B) W)(f: (ak=none/\ (W.length=(H++B).length\/ (bk= .aq/\y.back=[]))/\Q)\/ak=cM none p)(e:v.refs<=N)
  {cs:lA} {tg:Option TypeId} (b:W[N]?=some (.box cs tg)):
  ∃c a,finish N lo v ⟨W,ak⟩=(v,⟨c,a⟩)/\At p y bk c/\bY p H c/\vR Q p H c lo a:=by
 have:=Ah (v:=v) (lo:=lo) g d i j h f e b (.box cs tg);rwa[qm b]at this
def avs(bk:AV)(p:Nat)(H:List ae)(lo:oN):R aC->aX->Prop
 |.ok y,b=> ∃a H' ak,b= .ret (.ax []) ⟨H',ak⟩/\At p y a H'/\bY p H H'/\vR (a=bk\/a= .aq) p H H' lo ak
 |.error e,b=>b= .panic (ju e) ⟨H,lo⟩
section
variable{x:aC}{bk:AV}{p:Nat}{H:List ae}(lo:oN)(ha:At p x bk H)(hs:br x.s)
include ha hs
theorem ajE(h:Nat)(n:h<4294967296)(aa:Nat)(I:aa<256)(J:x.back.length+64*(under x.s.T h).length<=4294967296):
  ∃A,D XA (.fn (.func 292) [] []) [.ptr p 0,.int .u32 h,.int .i64 aa] ⟨H,lo⟩=some A/\avs bk p H lo (lD x h aa) A:=by
 refine cA Ll λN f=>?_
 have ho:Old p H (.box (bc x bk) none):=⟨ha.box⟩;have k:p<N:=by rw[<-f];exact ho.lt
 have y:=λH lo=>lx (at3 x.s.O hs.O x.s.T hs.T hs.tr h n aa I H lo)
 have w:=λH=>ia (dH x.s.O x.s.T h aa false).2.2 H
 have L:lD x h aa=cD (dH x.s.O x.s.T h aa false).2.2>>=λ_=>.ok (if(dH x.s.O x.s.T h aa false).2.1=0 then gU (x.o (dH x.s.O x.s.T h aa false).1) h else x.o (dH x.s.O x.s.T h aa false).1):=rfl
 have l:fQ (dH x.s.O x.s.T h aa false).1:=hs.O.held n;rw[L];have i:=aip hs.O (t:=x.s.T) (r:=h) (aa:=aa) (hold:=false);generalize dH x.s.O x.s.T h aa false=g at*;have s: ∀v,(H++[ae.box (cP g.1) none]).set p v=H.set p v++[ae.box (cP g.1) none]:=λv=>ho.s _ _
 have u:At p (x.o g.1) bk (H.set p (.box (bc (x.o g.1) bk) none)++[ae.box (cP g.1) none]):=⟨ho.g2 _ _,aP.ext (aP.mX ha.own ha.box)⟩;obtain⟨M,W,ak,g1,g2,z,K⟩:=UE u (hs.vP l) h n J none;have f1:bY p (H++[ae.box (cP g.1) none]) (H.set p (.box (bc (x.o g.1) bk) none)++[ae.box (cP g.1) none]):=by rw[<-s];exact bY.set _ _ _
 by_cases j:g.2.1=0
 ·have c:decide ((Gs g.2.1:Int)=0)=true:=aeD (by rw[j];rfl);simp only[F1,go_sem,simprocAttr,Ll,f,ho.g,ho.s,↓CL,CS,y,w,c,g1,ea,ed,EP,gO];have o:W[N]?=some (.box (cP g.1) none):=z.box N _ (by omega) (λa d e=>by cases e) (by rw[(OL f).1];rfl);have m: (H.set p (.box (bc (x.o g.1) bk) none)++[ae.box (cP g.1) none]).length=(H++[ae.box (cP g.1) none]).length:=by simp
  obtain⟨O,B,G,F,E,C⟩:=avr (v:=.ax []) (lo:=lo) f k CQ g2 (f1.trans z) (K.imp (λq=>⟨q.1,.inl (q.2.1.trans m),q.2.2⟩) id) (ae4 _) o;rw[G]
  (repeat' (first| (refine⟨?_,?_⟩)|intro _))
  ·rename_i b;simp only[b,okB,aez j];exact⟨_,_,_,rfl,F,E,C⟩
  ·rename_i e b;simp only[b,da];rfl
 ·have c:decide ((Gs g.2.1:Int)=0)=false:=aeC (by
    have:=mt (at2 _ i).1 j;omega)
  simp only[F1,go_sem,simprocAttr,Ll,f,ho.g,ho.s,↓CL,CS,y,w,c,ea,ed,EP,gO,OL f]
  (repeat' (first| (refine⟨?_,?_⟩)|intro _))
  ·rename_i b;simp only[b,okB,aeu j];exact⟨bk,_,lo,rfl,⟨ho.g1 _,aP.mX ha.own ha.box⟩,bY.set _ _ _,.inl ⟨rfl,by simp,.inl rfl⟩⟩
  ·rename_i e b;simp only[b,da];rfl
end
section
variable{x:aC}{bk:AV}{p:Nat}{H:List ae}(lo:oN)(ha:At p x bk H)(hx:m0 x)
include ha hx
theorem avt(l:x.back.length+64*(under x.s.T x.c.r).length<=4294967296): ∃g,D XA (.fn (.func 261) [] []) [.ptr p 0] ⟨H,lo⟩=some g/\um p H lo (Cj x) g:=by
 refine cA Lb λN f=>?_
 have ho:Old p H (.box (bc x bk) none):=⟨ha.box⟩;have h:p<N:=by rw[<-f];exact ho.lt
 have s:=hx.t;obtain⟨g,g1,g2⟩:=ajE (bk:=bk) (H:=H++[.box [.int .i64 0,.int .u64 0,.int .u32 0] none]) none ⟨ho.g _,ha.own.ext⟩ hx.s x.c.r hx.c.r x.aa (by omega) l;have n:Cj x=zN x x.c.r>>=λ_=>lD x x.c.r x.aa>>=λy=>.ok (y,bX):=rfl
 rw[n];cases i:lD x x.c.r x.aa with
 |error e=>
  rw[i]at g2;have g2:g=_:=g2;rw[g2]at g1;simp only[F1,go_sem,simprocAttr,Lb,f,ho.g,↓CL,λB lo=>Gw (ho.app B) lo hx.s hx.t x.c.r hx.c.r,g1,ea,ed,EP,jv]
  (repeat' (first| (refine⟨?_,?_⟩)|intro _))
  ·rename_i b;simp only[b,okB,da];exact .err
  ·rename_i o b;simp only[b,da];exact .err
 |ok y=>
  rw[i]at g2;obtain⟨r,W,ak,rfl,g2,j,m⟩:=g2;have c:W[N]?=some (.box [.int .i64 0,.int .u64 0,.int .u32 0] none):=j.box N _ (by omega) (λa d e=>by cases e) (by rw[dq f];rfl);simp only[F1,go_sem,simprocAttr,Lb,f,ho.g,↓CL,λB lo=>Gw (ho.app B) lo hx.s hx.t x.c.r hx.c.r,g1,c,cQ c,ea,ed,EP];obtain⟨t,k,f1,f2,f3,f4⟩:=Ah (v:=.agg [.int .i64 0,.int .u64 0,.int .u32 0]) (lo:=lo) f h CQ g2 j (m.imp (λq=>⟨q.1,.inl q.2.1,trivial⟩) id) (ae4 _) c (.box [.int .i64 0,.int .u64 0,.int .u32 0] none);rw[f1]
  (repeat' (first| (refine⟨?_,?_⟩)|intro _))
  ·rename_i b;simp only[b,okB];exact⟨_,_,_,rfl,f2,f3,f4⟩
  ·rename_i o b;simp only[b,da];exact .err
end
def avu(d:ca t): ∀ (n x:Nat),dep t x<=n->k∈aS t x-> ∀c∈aS t k,c∈aS t x:=by
 intro n
 induction n with
 |zero=>intro x b a;unfold dep at b;grind
 |succ n e=>
  intro x b a c f;by_cases hu:bt t x=0
  ·rw[qf d,aez hu]at a;cases a
  ·grind [Cd,mZ]
def MA(d:ca t){x:Nat}: ∀n c,x∈iA t n c->x=c\/c∈aS t x:=by
 intro n
 induction n with
 |zero=>intro c h;left;simpa[iA]using h
 |succ n e=>
  intro c h;rcases agF.1 h with h|h
  ·omega
  ·right
   obtain⟨k,f,a⟩:=aqq.1 h;obtain⟨g1,g2,_⟩:=LO f;have b:c∈aS t k:=by rw[mZ d (x:=k) (by rw[g2];exact Tq g1),g2];grind
   rcases e k a with rfl|a
   ·omega
   ·exact avu d _ x (ae0 _) a c b
def avv(f:ca t): ∀ (n x a b:Nat),dep t x<=n->a∈x::aS t x->b∈x::aS t x->dep t a=dep t b->a=b:=by
 intro n
 induction n with
 |zero=>
  intro x a b g d e _;unfold dep at g
  grind
 |succ n i=>
  intro x a b g d e he;have lt: ∀c∈aS t x,dep t c<dep t x:=λc h=>Ad f _ x (ae0 _) h
  rcases agF.1 d with rfl|d
  ·grind
  ·rcases agF.1 e with rfl|e
   ·grind
   ·by_cases hu:bt t x=0
    ·rw[qf f,aez hu]at d;cases d
    ·have j:=Cd f hu;rw[mZ f hu]at d e
     grind
def MC(b:cO): (bo b).Nodup:=by
 refine List.Pairwise.map _ (λi j c=>?_) (asH (S:=λi j=>i<32/\j<32/\i≠j) (λe d a=>⟨?_,?_,a⟩) (aAM.filter _))
 ·unfold dg;omega
 ·grind
 grind
def avw(t:aw)(h:Nat): (kids t h).Nodup:=by
 unfold kids;split
 ·exact(MC _).filter _
 grind
def avx(a:ca t): ∀n h,(iA t n h).Nodup:=by
 intro n
 induction n with
 |zero=>simp[iA]
 |succ n g=>
  intro h;refine au0.2 ⟨λhm=>?_,?_⟩
  ·obtain⟨k,j,b⟩:=aqq.1 hm;have o:=Ce a j;rcases MA a n k b with e|e
   ·grind
   ·have:=Ad a _ h (ae0 _) e;omega
  ·refine List.pairwise_flatMap.2 ⟨λk _=>g k,asH (λr p d x b y i e=>?_) (avw t h)⟩;subst e;have m:=MA a n _ b;have l:=MA a n _ i;have f: ∀c,(x=c\/c∈aS t x)->c∈x::aS t x:=λc q=>q.elim (λe=>by grind) (agE _)
   exact d (avv a _ x _ _ (ae0 _) (f _ m) (f _ l) (by grind [Ce]))
def UG(a:ca t)(h:Nat): (under t h).Nodup:=by
 unfold under;split
 ·exact avx a 32 h
 grind
theorem Gx: ∀ (l m:lN),l.Nodup->(∀z∈l,z∈m)->l.length<=m.length
 | [],_,_,_=>ae4 _
 |a::l,m,c,h=>by
  obtain⟨e,d⟩:=au0.1 c;have:=Gx l (m.erase a) d λz b=>(List.mem_erase_of_ne λq=>by grind).2 (h z (agE _ b))
  grind
def avy{b:cO}{y z:Nat}(c:az b z=true)(d:az b y=true)(a:z≠y):az (eN b y).1 z=true:=by
 obtain⟨j,e,f⟩:=lv.1 c;unfold eN;rw[aez d];refine lv.2 ⟨j,e,?_⟩;show au b (aR y) _ j=_;rw[cR λq=>a (Uw c d (by rw[F6 e];exact q))];exact f
def avz{b:cO}(g:hY b){y:Nat}(c:az b y=true): (bo (eN b y).1).length+1<=(bo b).length:=by
 have d:=MC (eN b y).1;have i:y∉bo (eN b y).1:=λhm=>by
  have f:=(gi (F8 g y)).1 hm;obtain⟨j,e,a⟩:=lv.1 f;unfold eN at a;rw[aez c]at a;have a:au b (aR y) (rk (b (aR y))) j=_:=a;rw[F6 e,cw]at a;unfold rk at a
  grind
 have h: ∀z∈y::bo (eN b y).1,z∈bo b:=λz k=>by grind [gi,Uu,F8]
 have:=Gx _ _ (au0.2 ⟨i,d⟩) h;omega
theorem ajF: ∀ (l:lN) (t:aw),hY t.b->l.Nodup->(∀z∈l,t.az z=true)->(bo (kN t l).b).length+l.length<=(bo t.b).length
 | [],t,_,_,_=>by simp[kN]
 |y::l,t,d,h,c=>by
  have a:az t.b y=true:=c y (alc ..);have e: (lr t y).1={b:=(eN t.b y).1,r:=au t.r (aR y) dR}:=by
   unfold lr;grind
  have f: (lr t y).1.b=(eN t.b y).1:=by rw[e]
  have i:=ajF l (lr t y).1 (by rw[f];exact F8 d y) (au0.1 h).2 λz g=>by
   show az (lr t y).1.b z=true;rw[f];exact avy (c z (agE _ g)) a λq=>by grind
  have j:=avz d a;have k:kN t (y::l)=kN (lr t y).1 l:=rfl
  grind
def avA(h:dV t)(a:Nat): (under t a).length<=(bo t.b).length:=
 Gx _ _ (UG h.tr a) λz b=>(gi h.ok.b).2 (L8 h.ok b)
def avB(h:dV t)(a:Nat): (bo (me t a).1.b).length+(under t a).length<=(bo t.b).length:=by
 unfold me;split
 ·grind
 ·exact ajF (under t a) t h.ok.b (UG h.tr a) λz b=>L8 h.ok b
def fg(x:aC):Nat:=x.back.length+64*(bo x.s.T.b).length
def UH(a:br x.s)(h:Nat):fg (gU x h)<=fg x:=by
 have d:=ajC (under x.s.T h) x a.T;have c:=ajB (under x.s.T h) x;have b:=avB a.eB h;have e1: (gU x h).back=((under x.s.T h).foldl jk x).back:=rfl;have e: (gU x h).s.T=(me ((under x.s.T h).foldl jk x).s.T h).1:=rfl;unfold fg
 grind
def UI(a:br x.s)(h:Nat):x.back.length+64*(under x.s.T h).length<=fg x:=by
 have:=avA a.eB h;unfold fg;omega
def UJ(b:br x.s)(h:Nat):br (gU x h).s:=by
 have a:=UD (under x.s.T h) x b;exact a.vO (a.eB.auW h)
structure LI(bk:AV)(p N:Nat)(H:List ae)(y:aC)(nK:AV)(W:List ae)(lo:oN):Prop where
 at':At p y nK W
 fr:bY p H W
 ok:br y.s
 fg:fg y<=2048
 lo: (eA N lo/\ (nK=bk\/nK= .aq))\/lo=some p
section
variable{bk:AV}{p N:Nat}{H:List ae}{y:aC}{nK:AV}{W:List ae}{mW:oN}(oU:p<N)(h:LI bk p N H y nK W mW)
include h
theorem LI.dO:Old p W (.box (bc y nK) none):=⟨h.at'.box⟩
theorem LI.app(L:List ae):LI bk p N H y nK (W++L) mW:=⟨⟨bf h.at'.box,h.at'.own.ext⟩,h.fr.trans (bY.app p W L (adN.1 h.at'.box).1),h.ok,h.fg,h.lo⟩
theorem LI.set{z:aC}(a:br z.s)(b:z.back=y.back)(c: (bo z.s.T.b).length<=(bo y.s.T.b).length):LI bk p N H z nK (W.set p (.box (bc z nK) none)) mW:=
 ⟨⟨by rw[ae1 h.dO.lt],by rw[b];exact aP.mX h.at'.own h.at'.box⟩,h.fr.trans (bY.set _ _ _),a,by have:=h.fg;unfold Go.Proofs.YtcdeobefbpnfeaaGreatDoor.fg at*;grind,h.lo⟩
include oU
theorem LI.next{z:aC}{a:AV}{c:List ae}{b:oN}(k:At p z a c)(i:bY p W c)(g:vR (a=nK\/a= .aq) p W c mW b)(e:br z.s)(f:Go.Proofs.YtcdeobefbpnfeaaGreatDoor.fg z<=Go.Proofs.YtcdeobefbpnfeaaGreatDoor.fg y):LI bk p N H z a c b:=by
 refine⟨k,h.fr.trans i,e,agD f h.fg,?_⟩;rcases g with⟨rfl,_,q⟩|rfl
 ·rcases h.lo with⟨d,l⟩|d
  ·grind
  grind
 ·right
  rcases h.lo with⟨rfl| ⟨j,m,rfl⟩,_⟩|rfl
  ·rfl
  ·exact ahX some (aqC (show p<=j by omega))
  ·exact ahX some (ax6 p)
theorem LI.gone(a:Nat)(f:a<4294967296): ∃c d b,D XA (.fn (.func 285) [] []) [.ptr p 0,.int .u32 a] ⟨W,mW⟩=some (.ret (.ax []) ⟨d,b⟩)/\LI bk p N H (gU y a) c d b/\bY p W d:=by
 obtain⟨c,d,b,g1,g2,e,g⟩:=UE h.at' h.ok a f (by have:=UI h.ok a;have:=h.fg;omega) mW;exact⟨c,d,b,g1,h.next oU g2 e g (UJ h.ok a) (UH h.ok a),e⟩
theorem LI.done(k:H.length=N)(i:At p x bk H)(j:v.refs<=N):
  ∃b a,finish N lo v ⟨W,mW⟩=(v,⟨b,a⟩)/\At p y nK b/\bY p H b/\vR (nK=bk\/nK= .aq) p H b lo a:=by
 rcases h.lo with⟨f,d⟩|rfl
 ·refine⟨_,lo,iG f j,⟨by rw[agz oU];exact h.at'.box,h.at'.own.1,?_⟩,h.fr.take k oU,.inl ⟨rfl,by rw[agw];have:=h.fr.len;omega,d⟩⟩;rcases h.at'.own.2 with q| ⟨id,aj,s,r,o⟩
  ·grind
  ·rcases d with rfl|rfl
   ·rcases i.own.2 with⟨e,_⟩| ⟨g,c,n,m,l⟩
    ·grind
    grind
   grind
 ·exact⟨_,cM lo p,vS oU,h.at',h.fr,.inr rfl⟩
theorem LI.err(e:H.length=N)(d:v.refs<=N): ∃b a,finish N lo v ⟨W,mW⟩=(v,⟨b,a⟩)/\bY p H b/\Ag p H b lo a:=by
 rcases h.lo with⟨c,f⟩|rfl
 ·exact⟨_,lo,iG c d,h.fr.take e oU,.inl ⟨rfl,by rw[agw];have:=h.fr.len;omega,trivial⟩⟩
 ·exact⟨_,cM lo p,vS oU,h.fr,.inr rfl⟩
end
theorem ajG{m:Nat}{I:Nat->Env->List ae->oN->Prop}{Q:bZ}{a:Fr}{E:AS}:A7 k m I Q (.panic v) a E=Q (.panic v) a E:=rfl
instance:Inhabited kH:=⟨zJ⟩
def avC(bk:AV)(p:Nat)(H:List ae)(lo:oN):R aC->aX->Prop
 |.ok y,b=> ∃a H' ak,b= .ret (.ax []) ⟨H',ak⟩/\At p y a H'/\bY p H H'/\vR (a=bk\/a= .aq) p H H' lo ak
 |.error e,b=> ∃H' ak,b= .panic (ju e) ⟨H',ak⟩/\bY p H H'/\Ag p H H' lo ak
def CR(y:aC)(m:kH):R aC:=if m.aQ=0\/m.share=true then pure y else if y.s.alive m.fr then nC y m.aQ m.fr else pure (gU y m.aQ)
def vT(x:aC)(aa:Nat):aC:={x.bx aa zK with s:={(x.bx aa zK).s with alive:=au (x.bx aa zK).s.alive aa false}}
def MD(y:aC)(aa:Nat):R aC:=
 ((bo y.s.T.b).filter λh=>decide (root y.s.T h=h)&&decide ((bP y.s.O y.s.T h).kind=3)&& (decide (aa<8)&&mO (bP y.s.O y.s.T h).hold aa)).foldlM (λy h=>lD y h aa) y
def UK(y:aC)(aa:Nat):R aC:=do
 let y:=((bo y.s.T.b).filter λh=>decide (root y.s.T h=h)&&decide ((bP y.s.O y.s.T h).kind=1)&&decide ((bP y.s.O y.s.T h).aa=aa)).foldl gU y
 ((bo y.s.T.b).filter λh=>decide (root y.s.T h=h)&&decide ((bP y.s.O y.s.T h).kind=3)&& (decide (aa<8)&&mO (bP y.s.O y.s.T h).hold aa)).foldlM (λy h=>lD y h aa) y
def UL(y:aC)(aa:Nat):R aC:=do
 let y:=(sX y.s.K aa).foldl (λy h=>y.k (mP y.s.K h).1) y
 let y:=((bo y.s.T.b).filter λh=>decide (root y.s.T h=h)&&decide ((bP y.s.O y.s.T h).kind=1)&&decide ((bP y.s.O y.s.T h).aa=aa)).foldl gU y
 ((bo y.s.T.b).filter λh=>decide (root y.s.T h=h)&&decide ((bP y.s.O y.s.T h).kind=3)&& (decide (aa<8)&&mO (bP y.s.O y.s.T h).hold aa)).foldlM (λy h=>lD y h aa) y
theorem ajH(x:aC)(aa:Nat):qh x aa=(gk (x.s.c8 aa)).foldlM CR (vT x aa)>>=λy=>UL y aa:=rfl
def foldlM_succ[Inhabited β]{f:α->β->R α}{l:List β}{a:α}(h:k<l.length): (l.take (k+1)).foldlM f a=((l.take k).foldlM f a>>=λy=>f y (l.getD k default)):=by grind [List.take_add_one,List.getElem?_eq_getElem,List.foldlM_append]
def ajI{f:α->β->R α}{l:List β}{a:α}(h: (l.take k).foldlM f a= .error e):l.foldlM f a= .error e:=by
 rw[<-amI k l,List.foldlM_append,h];rfl
def Ai(y:aC)(h:Nat):aC:=y.k (mP y.s.K h).1
def foldl_succ{f:α->Nat->α}{l:lN}{a:α}(h:k<l.length): (l.take (k+1)).foldl f a=f ((l.take k).foldl f a) (l.getD k default):=by grind [List.take_add_one,List.getElem?_eq_getElem,getD_eq]
def avD{z:aC}{h:Nat}(hs:br y.s)(d:h<4294967296)(b:lD y h aa= .ok z):br z.s/\fg z<=fg y:=by
 have f:lD y h aa=cD (dH y.s.O y.s.T h aa false).2.2>>=λ_=>.ok (if(dH y.s.O y.s.T h aa false).2.1=0 then gU (y.o (dH y.s.O y.s.T h aa false).1) h else y.o (dH y.s.O y.s.T h aa false).1):=rfl
 rw[f]at b;have a:br (y.o (dH y.s.O y.s.T h aa false).1).s:=hs.vP (hs.O.held d);cases c:cD (dH y.s.O y.s.T h aa false).2.2 with
 |error e=>rw[c]at b;cases b
 |ok _=>
  rw[c]at b;cases b;split
  ·exact⟨UJ a h,UH a h⟩
  ·exact⟨a,ae0 _⟩
section
variable{x:aC}{bk:AV}{p:Nat}{H:List ae}(lo:oN)(ha:At p x bk H)(hs:br x.s)
include ha hs
theorem ajJ(aa:Nat)(ht:aa<8)(hp:fg x<=2048):
  ∃cr,D XA (.fn (.func 249) [] []) [.ptr p 0,.int .i64 aa] ⟨H,lo⟩=some cr/\avC bk p H lo (qh x aa) cr:=by
 refine cA R6 λN hN=>?_
 have ho:Old p H (.box (bc x bk) none):=⟨ha.box⟩;have O:p<N:=by rw[<-hN];exact ho.lt
 obtain⟨w,d1,d2,d3⟩:=auO (x.s.c8 aa) (hs.bx aa) H none;have d1:=lx d1;have c1: (aa:Int)<8:=by omega
 have c2:784+aa*19<=945:=by omega
 have c3:936+aa<=963:=by omega
 have hb:=λ (y:aC) bk=> @Mo y bk aa ht
 have hsb:=λ (y:aC) bk b=> @Mp y bk aa b ht
 have xD:=λ (y:aC) bk v=> @ai5 y bk aa v ht
 have J:=λE=>(show Rd E w 4 ((gk (x.s.c8 aa)).map eL)from d2 E).bJ
 have hbl: (gk (x.s.c8 aa)).length<=4:=by have:=(hs.bx aa).n;simp[gk];omega
 have hml: ∀m∈gk (x.s.c8 aa),vK m:=λm hm=>by
  obtain⟨i,_,rfl⟩:=ago.1 hm;exact(hs.bx aa).ring _
 rw[ajH];generalize hl:gk (x.s.c8 aa)=l at*;simp only[go_sem,simprocAttr,R6,hN,ho.at',ho.g,ho.s,ho.g2,ho.s2,CS,c1,c2,c3,↓hb,hsb,xD,d1,J,MB];have Gy:br (vT x aa).s:=(hs.CO jq.gone).Uy;have avE:LI bk p N H (vT x aa) bk (H.set p (.box (bc (vT x aa) bk) none)) none:=LI.set ⟨ha,bY.refl _ _,hs,hp,.inl ⟨.inl rfl,.inl rfl⟩⟩ Gy rfl (ae0 _);refine gE l.length (λk e W' ak=> ∃y I,(l.take k).foldlM CR (vT x aa)= .ok y/\LI bk p N H y I W' ak/\e 0= .ptr p 0/\e 1= .int .i64 aa/\e 38=w/\e 39= .int .i64 l.length/\e 40= .int .i64 k) 0 (by omega) ?_ ?_
 ·simp only[go_sem,simprocAttr];exact⟨vT x aa,bk,rfl,avE.app _⟩
 rintro k hk e U s ⟨y,A,y1,d,C,B,r,o,j⟩ n hn;simp only[bO,go_sem,simprocAttr,af2,d.dO.at',↓CL,C,B,r,o,j];refine⟨λW=>?_,λW=>?_⟩
 ·have g:k<l.length:=by omega
  have F:=(show Rd ⟨U,s⟩ w 4 (l.map eL)from d2 _);have c:=foldlM_succ (f:=CR) (a:=vT x aa) g;rw[y1,okB]at c;have hmo:vK (l.getD k default):=by
   exact hml _ (by simp[List.getD,g])
  have UM:=hmo.aQ;have hmf:=hmo.fr;have L2:=d.app [ae.box (eL (l.getD k default)) none];have pC:=d.dO;have om:=λ (z:aC) bk=> @Up z bk (l.getD k default).fr hmf
  have c4: ((l.getD k default).fr:Int)<8:=by omega
  have e1:CR y (l.getD k default)=if(l.getD k default).aQ=0\/ (l.getD k default).share=true then .ok y else if y.s.alive (l.getD k default).fr then nC y (l.getD k default).aQ (l.getD k default).fr else .ok (gU y (l.getD k default).aQ):=rfl
  rw[e1]at c;by_cases h0: (l.getD k default).aQ=0
  ·have S:decide (((l.getD k default).aQ:Int)=0)=true:=aeD (by omega);rw[aez (.inl h0)]at c;simp(disch:=omega) only[go_sem,simprocAttr,F.bW,F.cp,oS,S,hn,C,B,r,o,j];exact⟨by omega,g,y,A,c,L2⟩
  ·have S:decide (((l.getD k default).aQ:Int)=0)=false:=aeC (by omega);cases G: (l.getD k default).share with
   |true=>
    rw[aez (.inr G)]at c;rw[oS,G]at L2;simp(disch:=omega) only[go_sem,simprocAttr,F.bW,F.cp,oS,S,G,hn,C,B,r,o,j];exact⟨by omega,g,y,A,c,L2⟩
   |false=>
    rw[aeu (by rintro(q|q);exact h0 q;rw[G]at q;cases q)]at c;rw[oS,G]at L2;cases Y:y.s.alive (l.getD k default).fr with
    |false=>
     rw[Y,aeu (by simp)]at c;obtain⟨T,W2,Q,g1,g2,Z⟩:=L2.gone O (l.getD k default).aQ UM;simp(disch:=omega) only[go_sem,simprocAttr,F.bW,F.cp,oS,S,G,Y,pC.g,c4,↓om,g1,hn,C,B,r,o,j];exact⟨by omega,g,_,T,c,g2⟩
    |true=>
     rw[Y,aez rfl]at c;have hw:=Mx (ho:=L2.dO) (lo:=s) L2.ok (l.getD k default).aQ UM (l.getD k default).fr (by omega);simp(disch:=omega) only[go_sem,simprocAttr,F.bW,F.cp,oS,S,G,Y,pC.g,pC.s,c4,↓om,hw,ajG,ea,ed,EP,hn,C,B,r,o,j];refine⟨by omega,λm1=>⟨g,_,A,?_,(d.set (z:=y.o (rl y.s.O y.s.T (l.getD k default).aQ (l.getD k default).fr).1) (d.ok.vP (d.ok.O.iW UM)) rfl (ae0 _)).app _⟩,λe' m1=>?_⟩
     ·rw[c];unfold nC;rw[m1];rfl
     ·obtain⟨H2,Q,g1,g2,Z⟩:=LI.err (v:=ju e') (lo:=lo) O L2 hN (ae4 _);have c: (l.take (k+1)).foldlM CR (vT x aa)= .error e':=by rw[c];unfold nC;rw[m1];rfl
      rw[ajI c,da];rw[g1];exact⟨_,_,rfl,g2,Z⟩
 ·obtain rfl:k=l.length:=by omega
  rw[agk]at y1;rw[y1,okB];clear xD hsb hb d1 J hml;have ajN:=d.ok;obtain⟨wt,t1,t2,t3⟩:=Ug y.s.K ajN.K aa U s;have t1:=ly t1;have UN:=λE=>(show Rd E wt 1 ((sX y.s.K aa).map hC)from t2 E).bJ
  simp only[go_sem,simprocAttr,t1,UN];have e1:UL y aa=UK ((sX y.s.K aa).foldl Ai y) aa:=rfl;rw[e1];have K: (sX y.s.K aa).length<=32:=agD (ahK _ _) (lC _);generalize A0:sX y.s.K aa=M at*;have u: ∀z∈M,z<4294967296:=λz hz=>by
   rw[<-A0]at hz;exact fF ((gi ajN.K.b).1 (agy.1 hz).1)
  refine gE M.length (λk e W' ak=> ∃I,LI bk p N H ((M.take k).foldl Ai y) I W' ak/\e 0= .ptr p 0/\e 1= .int .i64 aa/\e 80=wt/\e 81= .int .i64 M.length/\e 82= .int .i64 k) 0 (by omega) ?_ ?_
  ·simp only[go_sem,simprocAttr,C,B];exact⟨A,d⟩
  clear d y1 hk C B r o j W t1 d2 d3;rintro k hk e U s ⟨A,d,C,B,r,o,j⟩ n hn;simp only[bO,go_sem,simprocAttr,af1,d.dO.at',↓CL,C,B,r,o,j];refine⟨λW=>?_,λW=>?_⟩
  ·have g:k<M.length:=by omega
   have F:=(show Rd ⟨U,s⟩ wt 1 (M.map hC)from t2 _);have c:=foldl_succ (f:=Ai) (a:=y) g;have P:=u (M.getD k default) (by simp[List.getD,g]);obtain⟨w',L⟩:=aiD ((M.take k).foldl Ai y).s.K d.ok.K (M.getD k default) P (d.ok.th _) U s;have L:=ly L;simp(disch:=omega) only[go_sem,simprocAttr,F.bW,F.cp,↓pH,d.dO.at',↓CL,CS,L,C,B,r,o,j];rw[c];exact⟨by omega,g,A,d.set (z:=Ai ((M.take k).foldl Ai y) (M.getD k default)) (d.ok.CN (d.ok.tok.ret _)) rfl (ae0 _)⟩
  ·obtain rfl:k=M.length:=by omega
   simp only[agk]at d⊢;clear A0 K u UN t2 hk W;generalize M.foldl Ai y=z at*;obtain⟨wr,L,r2,r3⟩:=aiF z.s.O d.ok.O z.s.T d.ok.T d.ok.tr aa U s;have L:=ly L;have R:=λE=>(show Rd E wr 1 ((fR z.s.O z.s.T (j5 aa)).map hC)from r2 E).bJ
   simp only[go_sem,simprocAttr,L,R];have e1:UK z aa=MD ((fR z.s.O z.s.T (j5 aa)).foldl gU z) aa:=by
    have: (λh=>decide (root z.s.T h=h)&&decide ((bP z.s.O z.s.T h).kind=1)&&decide ((bP z.s.O z.s.T h).aa=aa))=rK z.s.O z.s.T (j5 aa):=by funext h;simp[rK,j5,Bool.and_assoc]
    unfold UK fR MD;rw[this]
   rw[e1];have K: (fR z.s.O z.s.T (j5 aa)).length<=32:=agD (ahK _ _) (lC _);have u: ∀a∈fR z.s.O z.s.T (j5 aa),a<4294967296:=λa ha=>fF ((gi d.ok.T.b).1 (agy.1 ha).1)
   generalize fR z.s.O z.s.T (j5 aa)=X at*;refine gE X.length (λk e W' ak=> ∃I,LI bk p N H ((X.take k).foldl gU z) I W' ak/\e 0= .ptr p 0/\e 1= .int .i64 aa/\e 117=wr/\e 118= .int .i64 X.length/\e 119= .int .i64 k) 0 (by omega) ?_ ?_
   ·simp only[go_sem,simprocAttr,C,B];exact⟨A,d⟩
   clear d C B r o j L e1 R;rintro k hk e U s ⟨A,d,C,B,r,o,j⟩ n hn;simp only[bO,go_sem,simprocAttr,af0,d.dO.at',↓CL,C,B,r,o,j];refine⟨λW=>?_,λW=>?_⟩
   ·have g:k<X.length:=by omega
    have F:=(show Rd ⟨U,s⟩ wr 1 (X.map hC)from r2 _);have c:=foldl_succ (f:=gU) (a:=z) g;have P:=u (X.getD k default) (by simp[List.getD,g]);obtain⟨T,W2,Q,g1,g2,Z⟩:=d.gone O (X.getD k default) P;simp(disch:=omega) only[go_sem,simprocAttr,F.bW,F.cp,↓pH,g1,C,B,r,o,j];rw[c];exact⟨by omega,g,T,g2⟩
   ·obtain rfl:k=X.length:=by omega
    simp only[agk]at d⊢;clear K u r2 hk W;generalize X.foldl gU z=t at*;obtain⟨wh,L,r2,r3⟩:=aiG t.s.O d.ok.O t.s.T d.ok.T d.ok.tr aa (by omega) U s;have L:=ly L;have R:=λE=>(show Rd E wh 1 ((fR t.s.O t.s.T (j6 aa)).map hC)from r2 E).bJ
    simp only[go_sem,simprocAttr,L,R];have e1:MD t aa=(fR t.s.O t.s.T (j6 aa)).foldlM (λy h=>lD y h aa) t:=by
     have: (λh=>decide (root t.s.T h=h)&&decide ((bP t.s.O t.s.T h).kind=3)&& (decide (aa<8)&&mO (bP t.s.O t.s.T h).hold aa))=rK t.s.O t.s.T (j6 aa):=by funext h;simp[rK,j6,Bool.and_assoc]
     unfold fR MD;rw[this]
    rw[e1];have K: (fR t.s.O t.s.T (j6 aa)).length<=32:=agD (ahK _ _) (lC _);have u: ∀a∈fR t.s.O t.s.T (j6 aa),a<4294967296:=λa ha=>fF ((gi d.ok.T.b).1 (agy.1 ha).1)
    generalize fR t.s.O t.s.T (j6 aa)=V at*;refine gE V.length (λk e W' ak=> ∃y I,(V.take k).foldlM (λy h=>lD y h aa) t= .ok y/\LI bk p N H y I W' ak/\e 0= .ptr p 0/\e 1= .int .i64 aa/\e 140=wh/\e 141= .int .i64 V.length/\e 142= .int .i64 k) 0 (by omega) ?_ ?_
    ·simp only[go_sem,simprocAttr,C,B];exact⟨t,A,rfl,d⟩
    clear d C B r o j L e1 R;rintro k hk e U s ⟨y,A,y1,d,C,B,r,o,j⟩ n hn;simp only[bO,go_sem,simprocAttr,afZ,r,o,j];refine⟨λW=>?_,λW=>?_⟩
    ·have g:k<V.length:=by omega
     have F:=(show Rd ⟨U,s⟩ wh 1 (V.map hC)from r2 _);have c:=foldlM_succ (f:=λy h=>lD y h aa) (a:=t) g;rw[y1,okB]at c;have P:=u (V.getD k default) (by simp[List.getD,g]);obtain⟨cr,g1,g2⟩:=ajE s d.at' d.ok (V.getD k default) P aa (by omega) (by have:=UI d.ok (V.getD k default);have:=d.fg;omega);cases Dz:lD y (V.getD k default) aa with
     |ok z3=>
      rw[Dz]at g2 c;obtain⟨T,W2,Q,rfl,g2,Z,g4⟩:=g2;have hd:=avD d.ok P Dz;simp(disch:=omega) only[go_sem,simprocAttr,F.bW,F.cp,↓pH,g1,C,B,r,o,j];exact⟨by omega,g,z3,T,c,d.next O g2 Z g4 hd.1 hd.2⟩
     |error e'=>
      rw[Dz]at g2 c;have g2:cr=_:=g2;rw[g2]at g1;simp(disch:=omega) only[go_sem,simprocAttr,F.bW,F.cp,↓pH,g1,ajG,EP,C,B];refine⟨by omega,?_⟩;obtain⟨H2,Q,g1,g2,Z⟩:=LI.err (v:=ju e') (lo:=lo) O d hN (ae4 _);rw[ajI c,g1];exact⟨_,_,rfl,g2,Z⟩
    ·obtain rfl:k=V.length:=by omega
     rw[agk]at y1;rw[y1];obtain⟨H2,Q,g1,g2,Z,g4⟩:=d.done O (v:=.ax []) (lo:=lo) hN ha (ae4 _);rw[g1];exact⟨_,_,_,rfl,g2,Z,g4⟩
end
section
variable{x:aC}{bk:AV}{p:Nat}{H:List ae}(lo:oN)(ha:At p x bk H)(hx:m0 x)
include ha hx
theorem avG(l:fg x<=2048): ∃j,D XA (.fn (.func 269) [] []) [.ptr p 0] ⟨H,lo⟩=some j/\um p H lo (qh x x.aa>>=λy=>.ok (y,bX)) j:=by
 refine cA Ld λN f=>?_
 have ho:Old p H (.box (bc x bk) none):=⟨ha.box⟩;have c:p<N:=by rw[<-f];exact ho.lt
 obtain⟨j,g1,g2⟩:=ajJ (bk:=bk) (H:=H++[.box [.int .i64 0,.int .u64 0,.int .u32 0] none]) none ⟨ho.g _,ha.own.ext⟩ hx.s x.aa hx.t l;cases k:qh x x.aa with
 |error e=>
  rw[k]at g2;obtain⟨W,ak,rfl,g,i⟩:=g2;simp only[go_sem,simprocAttr,Ld,f,ho.g,↓CL,g1,EP];obtain⟨n,h,f1,f2,f3⟩:=Mz (v:=ju e) (lo:=lo) f c g (i.imp And.left id) (ae4 _);rw[f1,da];exact⟨_,_,rfl,f2,f3⟩
 |ok y=>
  rw[k]at g2;obtain⟨m,W,ak,rfl,g2,g,i⟩:=g2;have b:W[N]?=some (.box [.int .i64 0,.int .u64 0,.int .u32 0] none):=g.box N _ (by omega) (λa d e=>by cases e) (by grind);simp only[go_sem,simprocAttr,Ld,f,ho.g,↓CL,g1,b,cQ b];obtain⟨n,h,f1,f2,f3,f4⟩:=Ah (v:=.agg [.int .i64 0,.int .u64 0,.int .u32 0]) (lo:=lo) f c CQ g2 g (i.imp (λq=>⟨q.1,.inl q.2.1,trivial⟩) id) (ae4 _) b (.box [.int .i64 0,.int .u64 0,.int .u32 0] none);rw[f1,okB];exact⟨_,_,_,rfl,f2,f3,f4⟩
theorem avH(o:fg x<=2048): ∃m,D XA (.fn (.func 270) [] []) [.ptr p 0] ⟨H,lo⟩=some m/\um p H lo (Cn x) m:=by
 refine cA FO λN f=>?_
 have ho:Old p H (.box (bc x bk) none):=⟨ha.box⟩;have g:p<N:=by rw[<-f];exact ho.lt
 have r:Cn x=mS x x.c.a>>=λ_=>qh x x.c.a>>=λy=>.ok (y,bX):=rfl
 have h:=λB lo=>Mv (ho.app B) lo x.c.a
 rw[r];by_cases k:x.c.a<8
 ·obtain⟨m,g1,g2⟩:=ajJ (bk:=bk) (H:=H++[.box [.int .i64 0,.int .u64 0,.int .u32 0] none]) none ⟨ho.g _,ha.own.ext⟩ hx.s x.c.a k o;cases n:qh x x.c.a with
  |error e=>
   rw[n]at g2;obtain⟨W,ak,rfl,i,l⟩:=g2;simp(disch:=omega) only[F1,go_sem,simprocAttr,FO,f,ho.g,↓CL,h,g1,ea,ed,EP];obtain⟨u,j,f1,f2,f3⟩:=Mz (v:=ju e) (lo:=lo) f g i (l.imp And.left id) (ae4 _);rw[f1]
   (repeat' (first| (refine⟨?_,?_⟩)|intro _))
   ·rename_i b;rw[b,okB,da];exact⟨_,_,rfl,f2,f3⟩
   ·rename_i s b;rw[b,da];exact .err
  |ok y=>
   rw[n]at g2;obtain⟨t,W,ak,rfl,g2,i,l⟩:=g2;have c:W[N]?=some (.box [.int .i64 0,.int .u64 0,.int .u32 0] none):=i.box N _ (by omega) (λa d e=>by cases e) (by rw[dq f];rfl);simp(disch:=omega) only[F1,go_sem,simprocAttr,FO,f,ho.g,↓CL,h,g1,c,cQ c,ea,ed,EP];obtain⟨u,j,f1,f2,f3,f4⟩:=Ah (v:=.agg [.int .i64 0,.int .u64 0,.int .u32 0]) (lo:=lo) f g CQ g2 i (l.imp (λq=>⟨q.1,.inl q.2.1,trivial⟩) id) (ae4 _) c (.box [.int .i64 0,.int .u64 0,.int .u32 0] none);rw[f1]
   (repeat' (first| (refine⟨?_,?_⟩)|intro _))
   ·rename_i b;rw[b,okB,okB];exact⟨_,_,_,rfl,f2,f3,f4⟩
   ·rename_i s b;rw[b,da];exact .err
 ·rw[xC k]at h;simp only[F1,go_sem,simprocAttr,FO,f,ho.g,↓CL,h,ep,EP];rw[xC k,da];exact .err
end
def rL:Nat->oN
 |1=>some 251|2=>some 252|3=>some 253|4=>some 254|5=>some 255
 |6=>some 256|7=>some 257|8=>some 258|9=>some 259|10=>some 260
 |11=>some 261|12=>some 262|13=>some 263|14=>some 264|15=>some 265
 |16=>some 265|17=>some 266|18=>some 267|19=>some 268|20=>some 269
 |21=>some 270|22=>some 271|_=>none
def avI{H:List ae}(lo:oN)(d:At p x bk H)(b:m0 x)(j:fg x<=2048){f:Nat}(g:rL x.c.op=some f):
  ∃c,D XA (.fn (.func f) [] []) [.ptr p 0] ⟨H,lo⟩=some c/\um p H lo (mg x) c:=by
 have ho:Old p H (.box (bc x bk) none):=⟨d.box⟩;have hB: ∀a,x.back.length+64*(under x.s.T a).length<=4294967296:=λa=>by have:=UI b.s a;omega
 have i:x.back.length<=4294967296:=by have:=hB 0;omega
 have ex: ∀ {f:Nat} {m:R (aC×bG)},(∃c,D XA (.fn (.func f) [] []) [.ptr p 0] ⟨H,lo⟩=some c/\bh x.back bk p H lo m c)-> ∃c,D XA (.fn (.func f) [] []) [.ptr p 0] ⟨H,lo⟩=some c/\um p H lo m c:=λh=>by
  obtain⟨c,l,k⟩:=h;exact⟨c,l,k.c d⟩
 unfold rL at g;unfold mg;split at g<;>(try cases g)<;>(rename_i e;simp only[e])
 ·exact ex (avg ho b)
 ·exact ex (avj ho b)
 ·exact ex (au3 ho b)
 ·exact ex (au4 ho b)
 ·exact avq lo d b i
 ·exact avp lo d b (hB _)
 ·exact ex (avd ho b)
 ·exact ex (au7 ho b)
 ·exact ex (ave ho b)
 ·exact ex (au8 ho b)
 ·exact avt lo d b (hB _)
 ·exact ex (avh ho b)
 ·exact ex (ava ho b)
 ·exact ex (avi ho b)
 ·exact ex (ajx ho b)
 ·exact ex (ajx ho b)
 ·exact ex (au9 ho b)
 ·exact ex (avc ho b)
 ·exact ex (au6 ho b)
 ·exact avG lo d b j
 ·exact avH lo d b j
 ·exact ex (avb ho b)
def avJ(h:rL x.c.op=none):mg x= .error 2:=by
 unfold rL at h;unfold mg
 grind
noncomputable def Gz:lA->AS->Option aX:=wD XA (D XA) Lw xB 115 wX
def avK(p:Nat)(H:List ae)(lo:oN):R (aC×bG)->aX->Prop
 |.ok (y,r),a=> ∃b H' ak,a= .ret (.agg (bH r)) ⟨H',ak⟩/\At p y b H'/\bY p H H'/\Ag p H H' lo ak
 |.error e,a=> ∃H' ak,a= .ret (.agg (bH {bX with e:=e})) ⟨H',ak⟩/\bY p H H'/\Ag p H H' lo ak
def avL{K:AS->Prop}{H:List ae}{q:Nat}(h:K ⟨H,lo⟩):qU XA xB (.fn (.func 160) [] [.ptr q 0]) [] .eV ⟨H,lo⟩ K:=by
 refine IJ (pr:=wY) rfl rfl λn a=>?_
 simp(disch:=omega) only[F1,go_sem,simprocAttr,wY,ajd];exact⟨.inl trivial,.ax [],rfl,by trivial⟩
def ME{K:AS->Prop}{H:List ae}{q:Nat}{a b c:AV}(e:Nat)(d:H[q]?=some (.box [a,b,c] none))(h:K ⟨H.set q (.box [.int .i64 e,.int .u64 0,.int .u32 0] none),lo⟩):qU XA xB (.fn (.func 160) [] [.ptr q 0]) [] (ju e) ⟨H,lo⟩ K:=by
 refine IJ (pr:=wY) rfl rfl λn f=>?_
 simp only[F1,go_sem,simprocAttr,wY,aje,d,ajf];refine⟨.inl trivial,.ax [],rfl,?_⟩;rw[aez (show(AV.ax []).refs<=n from ae4 _),aeE (by grind)];exact h
def ajO{H:List ae}(lo:oN)(J:At p x bk H)(K:br x.s)(P:j8 x.c)(M:x.run.1<4294967296/\x.run.2<4294967296)(T:x.aa<4294967296)(O:fg x<=2048)
  (o: ∀E,jx XA.fV E .int .du (.lR uR) (.int .u8 x.c.op) true=some (match rL x.c.op with|some f=>.ax [.fn (.func f) [] [],.bool true]|none=>.ax [.du,.bool false])):
  ∃G,Gz [.ptr p 0] ⟨H,lo⟩=some G/\avK p H lo (jI x) G:=by
 refine Pz wX rfl rfl λN g=>?_
 have ho:Old p H (.box (bc x bk) none):=⟨J.box⟩;have m:p<N:=by rw[<-g];exact ho.lt
 have c: ∀b H lo,D XA (.fn (.func 161) [] []) [.bool b,.int .i64 12] ⟨H,lo⟩=_:=λb=>lO b 12
 by_cases w:x.aa<8
 ·have s: (x.aa:Int)<8:=by omega
  have c0: (x.aa:Int)>=0:=by omega
  have hand:dp .and (.int .i64 (x.aa:Nat)) (.int .i64 7)=some (.int .i64 (x.aa:Nat)):=by
   rcases(show x.aa=0\/x.aa=1\/x.aa=2\/x.aa=3\/x.aa=4\/x.aa=5\/x.aa=6\/x.aa=7 by omega)with h|h|h|h|h|h|h|h<;>rw[h]<;>rfl
  have n: ∀E,cm XA E false 1 (.dL uR)=some (.lR uR):=λE=>rfl
  have i:=λbk=> @Up x bk x.aa w
  cases l:x.s.alive x.aa with
  |false=>
   rw[l]at i;have c: ∀H lo,D XA (.fn (.func 161) [] []) [.bool false,.int .i64 12] ⟨H,lo⟩=_:=λH lo=>lx (Ab 12 H lo)
   simp only[go_sem,simprocAttr,wX,g,kn,km,ho.g,↓CL,s,c0,hand,↓i,c,jv];refine⟨rfl,?_⟩;rw[oi];refine ME 12 (by rw[dq g];rfl) ?_;have u:jI x= .error 12:=by
    have: (decide (x.aa<8)&&x.s.alive x.aa)=false:=by rw[l,aqy]
    unfold jI;rw[this];rfl
   simp(disch:=omega) only[F1,go_sem,simprocAttr];rw[u];exact⟨_,_,rfl,bY.refl _ _,.inl ⟨rfl,rfl,trivial⟩⟩
  |true=>
   rw[l]at i;have c: ∀H lo,D XA (.fn (.func 161) [] []) [.bool true,.int .i64 12] ⟨H,lo⟩=_:=λH lo=>lx (Gt 12 H lo)
   have u:jI x=mg x:=by
    have: (decide (x.aa<8)&&x.s.alive x.aa)=true:=by rw[l,aeD w];rfl
    unfold jI;rw[this];rfl
   rw[u];cases k:rL x.c.op with
   |none=>
    rw[k]at o;have z: ∀H lo,D XA (.fn (.func 161) [] []) [.bool false,.int .i64 2] ⟨H,lo⟩=_:=λH lo=>lx (Ab 2 H lo)
    simp only at o;simp only[go_sem,simprocAttr,wX,g,kn,km,ho.g,↓CL,s,c0,hand,↓i,c,n,o,z];refine⟨rfl,?_⟩;rw[oi];refine ME 2 (by rw[dq g];rfl) ?_;simp(disch:=omega) only[F1,go_sem,simprocAttr];rw[avJ k];exact⟨_,_,rfl,bY.refl _ _,.inl ⟨rfl,rfl,trivial⟩⟩
   |some f=>
    rw[k]at o;simp only at o;have z: ∀H lo,D XA (.fn (.func 161) [] []) [.bool true,.int .i64 2] ⟨H,lo⟩=_:=λH lo=>lx (Gt 2 H lo)
    obtain⟨G,g1,g2⟩:=avI (bk:=bk) (H:=H++[.box [.int .i64 0,.int .u64 0,.int .u32 0] none]) none ⟨ho.g _,J.own.ext⟩ ⟨K,w,P,M⟩ O k;cases I:mg x with
    |error e=>
     rw[I]at g2;obtain⟨W,ak,rfl,t,F⟩:=g2;have j:W[N]?=some (.box [.int .i64 0,.int .u64 0,.int .u32 0] none):=t.box N _ (by omega) (λa d e=>by cases e) (by rw[dq g];rfl);simp only[go_sem,simprocAttr,wX,g,kn,km,ho.g,↓CL,s,c0,hand,↓i,c,n,o,z,g1];refine⟨rfl,?_⟩;rw[oi];refine ME e j ?_;simp only[go_sem,simprocAttr,cQ j];have Q:bY p (H++[]) (W.set N (.box [.int .i64 (e:Nat),.int .u64 0,.int .u32 0] none)):=by
      rw[agB];exact ajD g m (UF (N:=N) t (by omega)) _
     obtain⟨S,A,f1,f2,f3⟩:=Mz (v:=.agg [.int .i64 (e:Nat),.int .u64 0,.int .u32 0]) (lo:=lo) g m Q (F.imp And.left id) (ae4 _);rw[f1];exact⟨_,_,rfl,f2,f3⟩
    |ok a=>
     rw[I]at g2;obtain⟨y,r⟩:=a;obtain⟨R,W,ak,rfl,g2,t,F⟩:=g2;have j:W[N]?=some (.box [.int .i64 0,.int .u64 0,.int .u32 0] none):=t.box N _ (by omega) (λa d e=>by cases e) (by rw[dq g];rfl);simp only[go_sem,simprocAttr,wX,g,kn,km,ho.g,↓CL,s,c0,hand,↓i,c,n,o,z,g1,j];refine⟨rfl,rfl,?_⟩;rw[D7];refine avL ?_;have L:List.drop (bH r).length [AV.int .i64 0,.int .u64 0,.int .u32 0]=[]:=rfl;have B:List.take 3 (bH r)=bH r:=rfl;have C: (bH r).length=3:=rfl;simp only[go_sem,simprocAttr,cQ j,B,C];obtain⟨S,A,f1,f2,f3,f4⟩:=Ah (v:=.agg (bH r)) (lo:=lo) g m CQ g2 t (F.imp (λq=>⟨q.1,.inl q.2.1,trivial⟩) id) (ae4 _) j (.box (bH r) none);rw[aez (show aI (bH r)<=N+1 from ae4 _),f1];exact⟨_,_,_,rfl,f2,f3,f4⟩
 ·have s: ¬(x.aa:Int)<8:=by omega
  have c0: (x.aa:Int)>=0:=by omega
  have c: ∀H lo,D XA (.fn (.func 161) [] []) [.bool false,.int .i64 12] ⟨H,lo⟩=_:=λH lo=>lx (Ab 12 H lo)
  simp only[go_sem,simprocAttr,wX,g,kn,km,ho.g,↓CL,s,c0,c,jv];refine⟨rfl,?_⟩;rw[oi];refine ME 12 (by rw[dq g];rfl) ?_;have u:jI x= .error 12:=by
   have: (decide (x.aa<8)&&x.s.alive x.aa)=false:=by rw[aeC w];rfl
   unfold jI;rw[this];rfl
  simp(disch:=omega) only[F1,go_sem,simprocAttr];rw[u];exact⟨_,_,rfl,bY.refl _ _,.inl ⟨rfl,rfl,trivial⟩⟩
noncomputable def XB:Ctx:={XA with cg:=λf=>if f=115 then some Gz else XA.cg f}
theorem ajP:Ext XA XB where
 dL:=rfl
 fV:=rfl
 code:=rfl
 cg:=λf=>by
  by_cases a:f=115
  ·subst a;exact .inr ⟨rfl,rfl⟩
  ·left;show(if f=115 then some Gz else XA.cg f)=XA.cg f
   grind
theorem MF{args:lA}{E:AS}{E':AS}(h:Gz args E=some (.ret v E')):D XB (.fn (.func 115) [] []) args E=some (.ret v E'):=D6 rfl h
def NE{α:Type}(m:R α):Prop:= ∀e,m= .error e->e≠0/\e<13
theorem NE.ok{a:α}:NE (.ok a:R α):=by intro e h;cases h
theorem NE.pure{a:α}:NE (Pure.pure a:R α):=NE.ok
def NE.err(a:e≠0/\e<13):NE (.error e:R α):=by intro e h;grind
def NE.bind{m:R α}{f:α->R β}(b:NE m)(c: ∀a,NE (f a)):NE (m>>=f):=by
 cases m with
 |error e=>intro e h;cases h;exact b _ rfl
 |ok a=>exact c a
def NE.ask{b:Bool}(a:e≠0/\e<13):NE (ask b e):=by
 unfold Go.Proofs.YtcdeobefbpnfeaaGreatDoor.ask;split
 ·exact NE.ok
 ·exact NE.err a
def NE.cD(a:e<13):NE (cD e):=by
 unfold Go.Proofs.YtcdeobefbpnfeaaGreatDoor.cD;split
 ·exact NE.ok
 ·exact NE.err ⟨‹_›,a⟩
theorem NE.foldlM{α β:Type}{f:α->β->R α}(h: ∀a b,NE (f a b)): ∀ (l:List β) (a:α),NE (l.foldlM f a)
 | [],_=>NE.ok
 |b::l,a=>NE.bind (h a b) λa=>NE.foldlM h l a
def ajQ(h: (n+1).ble 13=true):n<13:=aoM h
def avM{h:Nat}: (aM t h).2<13:=by unfold aM;grind
def avN{k:bq}{h:Nat}: (cn k h).2<13:=by unfold cn;grind
def avO{T:aw}{O:bK}{K:bq}{b c:Nat}:xg T O K a b c<13:=by unfold xg;grind
def MG{o:bK}{x:Ow}: (gh o t r a x).2<13:=by unfold gh;grind
def ajR{o:bK}{b:Bool}: (dH o t r a b).2.2<13:=by unfold dH;repeat' (first|simp|exact MG|split)
def avP{o:bK}: (xe o t r).2<13:=MG
def avQ{o:bK}: (zG o t r a).2<13:=MG
def avR{h t:Nat}: (zO x h t).2<13:=ajR
def ajS{h:Nat}{r:ds}: (fP t h r).2<13:=by unfold fP;grind
def ajT{h u:Nat}: (mc t h u).2<13:=by unfold mc;grind
def avS{h:Nat}: (jH t h).2<13:=by unfold jH;split;exact ajQ rfl;exact ajT
def avT{h u:Nat}: (vu t h u).2<13:=by unfold vu;repeat' (first|exact ajQ rfl|exact ajT|split)
def avU{h u:Nat}: (iB t h u).2.2<13:=by unfold iB mb;grind
def avV{k:bq}{x:Tok}: (lu k x).2.2<13:=by unfold lu qe;grind
def avW{x:kH}: (oJ b x).2<13:=by unfold oJ;grind
def avX: (mQ b).2.2<13:=by unfold mQ;grind
def avY: (vy b).2<13:=by unfold vy;grind
def avZ{b c:Nat}{f:Bool}: (nA t a b c f).2<13:=by unfold nA;repeat' (first|simp|exact ajS|split)
def av0{b:Nat}: (sY t a b).2<13:=by unfold sY;grind
def av1{h w:Nat}:NE (ga x h w):=NE.cD avO
def av2{t:Nat}:NE (mS x t):=NE.ask (by decide)
def ajU{h t:Nat}:NE (nC x h t):=NE.bind (NE.cD MG) λ_=>NE.ok
def av3{h:Nat}{r:ds}:NE (oK x h r):=NE.bind (NE.cD ajS) λ_=>NE.ok
def av4{h:Nat}:NE (xh x h):=NE.bind (NE.cD avS) λ_=>NE.ok
def av5{h:Nat}:NE (zN x h):=NE.bind (NE.ask (by decide)) λ_=>NE.bind (NE.ask (by decide)) λ_=>NE.ask (by decide)
def ajV{h t:Nat}:NE (lD x h t):=NE.bind (NE.cD ajR) λ_=>NE.ok
def av6{t:Nat}:NE (qh x t):=by
 unfold qh
 repeat with_reducible (first| (refine NE.bind ?_ λ_=>?_)| (refine NE.foldlM (λ_ _=>?_) _ _)|exact ajU|exact ajV|exact NE.pure|split|rfl)
def av7(x:aC):NE (mg x):=by
 unfold mg;split
 all_goals try(first|unfold xi|unfold mT|unfold vz|unfold zL|unfold zM|unfold Cg|unfold Ch|unfold Ci|unfold zP|unfold Cj|unfold vA|unfold Ck|unfold rn|unfold sZ|unfold Cl|unfold s6|unfold Cm|unfold Cn|unfold vB)
 all_goals repeat with_reducible (first| (refine NE.bind ?_ λ_=>?_)|exact NE.pure|exact NE.err (by decide)|exact NE.ask (by decide)|exact av1|exact av2|exact ajU|exact av3|exact av4|exact av5|exact ajV|exact av6| (refine NE.cD ?_;first|exact avM|exact avU|exact avT|exact avP|exact avQ|exact avR|exact avN|exact avV|exact avW|exact avX|exact avY|exact avZ|exact av0)|split|dsimp only)
def ajW(h:jI x= .error e):e≠0/\e<13:=NE.bind (NE.ask (by decide)) (λ_=>av7 x) _ h
def ajX(h:jI x= .error e):e≠0:=(ajW h).1
def EZ(m:R (aC×bG)):Prop:= ∀a,m= .ok a->a.2.e=0
theorem EZ.ok{a:aC×bG}(h:a.2.e=0):EZ (.ok a):=by intro b c;grind
theorem EZ.pure{a:aC×bG}(h:a.2.e=0):EZ (Pure.pure a:R (aC×bG)):=EZ.ok h
def EZ.err:EZ (.error e):=by intro b a;cases a
def EZ.bind{m:R α}{f:α->R (aC×bG)}(c: ∀a,EZ (f a)):EZ (m>>=f):=by
 cases m with
 |error e=>intro b d;cases d
 |ok a=>exact c a
def av8(x:aC):EZ (mg x):=by
 unfold mg;split
 all_goals try(first|unfold xi|unfold mT|unfold vz|unfold zL|unfold zM|unfold Cg|unfold Ch|unfold Ci|unfold zP|unfold Cj|unfold vA|unfold Ck|unfold rn|unfold sZ|unfold Cl|unfold s6|unfold Cm|unfold Cn|unfold vB)
 all_goals repeat with_reducible (first| (refine EZ.bind λ_=>?_)|exact EZ.pure rfl|exact EZ.err|split|dsimp only)
def UO{r:bG}(h:jI x= .ok (y,r)):r.e=0:=(show EZ (jI x)from EZ.bind λ_=>av8 x) _ h
theorem av9(s:bF)(aa:Nat)(c:cy)(run:aD):dX s aa c run=match jI ⟨s,aa,c,run,0,false,[]⟩with
  |.ok (y,r)=>(y.s,r,y.back)
  |.error e=>(s,{bX with e:=e},[]):=by
 unfold dX;cases h:jI ⟨s,aa,c,run,0,false,[]⟩with
 |error e=>rfl
 |ok a=>exact aez (UO h)
theorem ajY{t:Nat}:aJ (bc x bk) 952 [.int .i64 t]=bc {x with aa:=t} bk:=by rw[CG (by omega)];rfl
theorem ajZ{c:cy}:aJ (bc x bk) 953 (bp c)=bc {x with c:=c} bk:=by rw[CG (by omega)];rfl
theorem aj0{r:aD}:aJ (bc x bk) 959 (aA r)=bc {x with run:=r} bk:=by rw[CG (by omega)];rfl
theorem aj1{s:bF}:bn s++List.drop 952 IW=bc ⟨s,0,mU,(0,0),0,false,[]⟩ .aq:=rfl
def aj2:IW.length=964:=by decide
def UP:nc.length=952:=by decide
def aj3:List.drop 952 nc=[]:=ah2 (by rw[UP];omega)
def MH{s:bF}:List.take 952 (bn s)=bn s:=aeE (by rw[en];omega)
theorem GA{s:bF}:List.drop 952 (bn s)=[]:=by rfl
theorem GB{c:cy}: (bp c).length=6:=rfl
theorem MI{c:cy}:List.take 6 (bp c)=bp c:=rfl
theorem xE{r:bG}:List.take 3 (bH r)=bH r:=rfl
theorem uo{r:bG}: (bH r).length=3:=rfl
def DZ:=gG @ajY<|gG @ajZ<|gG @aj0<|gG @aj1<|gG @aj2<|gG @UP<|gG @aj3<|gG @MH<|gG @GA<|gG @GB<|gG @MI<|gG @xE<|gG @uo<|gG @en @Mm
def UQ(s:bF)(S:br s)(aa:Nat)(R:aa<4294967296)(c:cy)(V:j8 c)(run:aD)(T:run.1<4294967296/\run.2<4294967296)
  (Y: ∀E,jx XA.fV E .int .du (.lR uR) (.int .u8 c.op) true=some (match rL c.op with|some f=>.ax [.fn (.func f) [] [],.bool true]|none=>.ax [.du,.bool false])) (H:List ae) (lo:oN):
  ∃v,D XB (.fn (.func 90) [] []) [.agg (bn s),.int .i64 aa,.agg (bp c),.agg (aA run)] ⟨H,lo⟩=some (.ret (.ax [.agg (bn (dX s aa c run).1),.agg (bH (dX s aa c run).2.1),v]) ⟨H,lo⟩)/\Rv v 2 ((dX s aa c run).2.2.map aA):=by
 suffices j: ∃u,D XB (.fn (.func 90) [] []) [.agg (bn s),.int .i64 aa,.agg (bp c),.agg (aA run)] ⟨H,lo⟩=some u/\ (λu=> ∃v,u=aX.ret (.ax [.agg (bn (dX s aa c run).1),.agg (bH (dX s aa c run).2.1),v]) ⟨H,lo⟩/\Rv v 2 ((dX s aa c run).2.2.map aA)) u by
  obtain⟨u,h1,v,rfl,Z⟩:=j;exact⟨v,h1,Z⟩
 refine cA Fx λN h=>?_
 obtain⟨x,j⟩: ∃x:aC,x=⟨s,aa,c,run,0,false,[]⟩:=⟨_,rfl⟩;obtain⟨L,b⟩: ∃L:List ae,L=[.box (bn s) none,.box (bp c) none,.box (aA run) none,.box nc none,.box [.int .i64 0,.int .u64 0,.int .u32 0] none,.box (bc x .aq) none]:=⟨_,rfl⟩;have K:At (N+5) x .aq (H++L):=⟨by rw[bA h,b];rfl,by rw[j];exact aP.aq⟩;obtain⟨u,g1,g2⟩:=ajO (x:=x) none K (by rw[j];exact S) (by rw[j];exact V) (by rw[j];exact T) (by rw[j];exact R) (by rw[j];unfold fg;have:=lC s.T.b;simp;omega) (by rw[j];exact Y);have m:dX s aa c run=match jI x with
  |.ok (y,r)=>if r.e=0 then(y.s,r,y.back)else(s,r,[])
  |.error e=>(s,{bX with e:=e},[]):=by rw[j];rfl
 rw[b,j]at g1;have rest: ∀W:List ae,bY (N+5) (H++L) W-> ∀cs bs A B:lA,(∀i,i<N->(((W++[ae.box cs none]).set (N+3) (ae.box A none)).set (N+4) (ae.box B none))[i]?=H[i]?):=by
  intro W g cs bs A B i hi;have U:=g.len;simp at U;rw[acG (by omega),acG (by omega),acK (by omega),g.low i (by omega),acK (by omega)]
 cases J:jI x with
 |error e=>
  rw[J]at g2 m;obtain⟨W,ak,rfl,g,F⟩:=g2;have g1:=MF g1;have w0:W[N]?=some (.box (bn s) none):=g.box N _ (by omega) (λa d e=>by cases e) (by rw[dq h,b];rfl);have w1:W[N+3]?=some (.box nc none):=g.box (N+3) _ (by omega) (λa d e=>by cases e) (by rw[bA h,b];rfl);have G:W[N+4]?=some (.box [.int .i64 0,.int .u64 0,.int .u32 0] none):=g.box (N+4) _ (by omega) (λa d e=>by cases e) (by rw[bA h,b];rfl);have I:=λL=>bf (L:=L) w0
  have p:=λL=>bf (L:=L) w1
  have n:=λL=>bf (L:=L) G
  have z:=λL o=>cQ (o:=o) (p L)
  have w:=λL o o'=>cQ (o:=o') ((acG (by omega:N+3≠N+4)).trans (n L): ((W++L).set (N+3) o)[N+4]?=_)
  have he:=ajX J;have k: ¬((e:Nat):Int)=0:=by omega
  obtain⟨M,C⟩: ∃M,W.length=M:=⟨_,rfl⟩;have l: (M !=N+3)=true:=by
   have:=g.len;rw[b]at this;simp at this;simp;omega
  simp(disch:=omega) only[go_sem,simprocAttr,Fx,h,DZ,g1,C,I,p,n,z,w,k,bH,l,aqF,Ac,mL];rw[iG (eA.le (N:=N+5) ?_ (by omega)) ?_]
  ·rw[m];exact⟨_,dk rfl (lL h (rest W g _ [] _ _)),.aq⟩
  ·exact F.elim (λq=>.inl q.1) λq=>.inr ⟨N+5,ae0 _,q⟩
  ·simp[AV.refs,aI,mL]
 |ok a=>
  obtain⟨y,r⟩:=a;rw[J]at g2 m;obtain⟨nK,W,ak,rfl,g2,g,F⟩:=g2;have m:dX s aa c run=if r.e=0 then(y.s,r,y.back)else(s,r,[]):=m
  have g1:=MF g1;have w0:W[N]?=some (.box (bn s) none):=g.box N _ (by omega) (λa d e=>by cases e) (by rw[dq h,b];rfl);have w1:W[N+3]?=some (.box nc none):=g.box (N+3) _ (by omega) (λa d e=>by cases e) (by rw[bA h,b];rfl);have G:W[N+4]?=some (.box [.int .i64 0,.int .u64 0,.int .u32 0] none):=g.box (N+4) _ (by omega) (λa d e=>by cases e) (by rw[bA h,b];rfl);have I:=λL=>bf (L:=L) w0
  have p:=λL=>bf (L:=L) w1
  have n:=λL=>bf (L:=L) G
  have Q:=λL=>bf (L:=L) g2.box
  have z:=λL o=>cQ (o:=o) (p L)
  have w:=λL o o'=>cQ (o:=o') ((acG (by omega:N+3≠N+4)).trans (n L): ((W++L).set (N+3) o)[N+4]?=_)
  obtain⟨M,C⟩: ∃M,W.length=M:=⟨_,rfl⟩;have X:N+6<=M:=by
   have:=g.len;rw[b]at this;simp at this;omega
  have l: (M !=N+3)=true:=by simp;omega
  have P: (M !=N+4)=true:=by simp;omega
  by_cases t:r.e=0
  ·rw[aez t]at m;have k: ((r.e:Nat):Int)=0:=by omega
   simp(disch:=omega) only[go_sem,simprocAttr,Fx,h,DZ,↓CL,g1,C,p,n,z,w,Q,k,bH,l,aqF,Ac,mL];have O:=aP.mX (o:=.box (bH r) none) (aP.mX (o:=.box (bn y.s) none) (aP.ext (L:=[ae.box (bH r) none]) (aP.le g2.own (show N<=N+5+1 by omega))) (p _)) ((acG (by omega:N+3≠N+4)).trans (n _));have er: [AV.int .i64 0,AV.int .u64 (r.v:Nat),AV.int .u32 (r.w:Nat)]=bH r:=by unfold bH;rw[t];rfl
   rw[er];refine⟨by simp,by simp,?_⟩;rw[uO (eA.le (N:=N+5) ?_ (by omega)) (Fz.ax (d:=11) (il.cons ((Fz.low (d:=0) ?_).mono (by omega)) (il.cons ((Fz.low (d:=0) ?_).mono (by omega)) (il.cons ((Fz.own (d:=0) O ?_).mono (by omega)) il.nil))))]
   ·rw[m];refine⟨_,dk rfl (lL h (rest W g _ [] _ _)),?_⟩;exact aP.pG O
   ·exact F.elim (λq=>.inl q.1) λq=>.inr ⟨N+5,ae0 _,q⟩
   ·simp[AV.refs,mL]
   ·exact ae4 _
   ·rw[bB (λx=>rfl)];exact ae4 _
  ·rw[aeu t]at m;have k: ¬((r.e:Nat):Int)=0:=by omega
   simp(disch:=omega) only[go_sem,simprocAttr,Fx,h,DZ,g1,C,I,p,n,z,w,k,bH,l,aqF,Ac,mL];rw[iG (eA.le (N:=N+5) ?_ (by omega)) ?_]
   ·rw[m];exact⟨_,dk rfl (lL h (rest W g _ [] _ _)),.aq⟩
   ·exact F.elim (λq=>.inl q.1) λq=>.inr ⟨N+5,ae0 _,q⟩
   ·simp[AV.refs,aI,mL]
def lz{args:lA}{E:AS}{r:aX}(h:D X0 v args E=some r):D XB v args E=some r:=vF ajP (lx h)
def lX{args:lA}{E:AS}{r:aX}(h:D X v args E=some r):D XB v args E=some r:=vF ajP (ly h)
theorem aj4{b:Bool}:aJ (bc x bk) 962 [.bool b]=bc {x with asks:=b} bk:=by rw[CG (by omega)];rfl
theorem aj5{c:cy}: (bp c)[0]?=some (.int .u8 c.op):=rfl
theorem aj6{c:cy}: (bp c)[1]?=some (.int .u32 c.r):=rfl
theorem aj7{c:cy}: (bp c)[2]?=some (.int .u32 c.s):=rfl
theorem aj8{c:cy}: (bp c)[3]?=some (.int .u32 c.a):=rfl
theorem aj9{c:cy}: (bp c)[4]?=some (.int .u32 c.b):=rfl
theorem aka{c:cy}: (bp c)[5]?=some (.int .u64 c.v):=rfl
def gp:=gG @aj5<|gG @aj6<|gG @aj7<|gG @aj8<|gG @aj9 @aka
def SL:=gG @vt<|gG @Ca<|gG @F4<|gG @Tl @Tm
def UR(s:bF)(t:br s)(aa:Nat)(p:aa<4294967296)(c:cy)(v:j8 c)
  (w: ∀E,jx XA.fV E .int .du (.lR uR) (.int .u8 c.op) true=some (match rL c.op with|some f=>.ax [.fn (.func f) [] [],.bool true]|none=>.ax [.du,.bool false])) (H:List ae) (lo:oN):
  D XB (.fn (.func 89) [] []) [.agg (bn s),.int .i64 aa,.agg (bp c)] ⟨H,lo⟩=some (.ret (.int .i64 (fk s aa c:Nat)) ⟨H,lo⟩):=by
 refine aH Fw λN j=>?_
 obtain⟨x,b⟩: ∃x:aC,x=⟨s,aa,c,(0,0),0,true,[]⟩:=⟨_,rfl⟩;by_cases z:c.op=2
 ·have l: (c.op:Int)=2:=by omega
  obtain⟨L,m⟩: ∃L:List ae,L=[.box (bn s) none,.box (bp c) none,.box (bc x .aq) none]:=⟨_,rfl⟩;have n:At (N+2) x .aq (H++L):=⟨by grind,by rw[b];exact aP.aq⟩;obtain⟨C,g1,g2⟩:=ajO (x:=x) none n (by rw[b];exact t) (by rw[b];exact v) (by rw[b];exact⟨show 0<4294967296 by omega,show 0<4294967296 by omega⟩) (by rw[b];exact p) (by rw[b];unfold fg;have:=lC s.T.b;simp;omega) (by rw[b];exact w);have k:fk s aa c=match jI x with
   |.ok (y,_)=>y.mR
   |.error e=>0:=by rw[b];unfold fk;rw[aeu (by omega)];rfl
  rw[m,b]at g1;have rest: ∀W:List ae,bY (N+2) (H++L) W->W.take N=H:=by
   intro W g;refine lL j λi B=>?_
   rw[g.low i (by omega),acK (by omega)]
  cases h:jI x with
  |error e=>
   rw[h]at g2 k;obtain⟨W,ak,rfl,g,o⟩:=g2;have g1:=MF g1;have he:=ajX h;have d: ¬((e:Nat):Int)=0:=by omega
   simp only[go_sem,simprocAttr,Fw,j,DZ,gp,aj4,l,g1,bH,d];rw[iG (eA.le (N:=N+2) (o.elim (λq=>.inl q.1) λq=>.inr ⟨N+2,ae0 _,q⟩) (by omega)) (ae4 _),k,rest W g];rfl
  |ok a=>
   obtain⟨y,r⟩:=a;rw[h]at g2 k;obtain⟨A,W,ak,rfl,g2,g,o⟩:=g2;have g1:=MF g1;have u:=UO h;have d: ((r.e:Nat):Int)=0:=by omega
   simp only[go_sem,simprocAttr,Fw,j,DZ,gp,↓CL,aj4,l,g1,bH,d,g2.box];rw[iG (eA.le (N:=N+2) (o.elim (λq=>.inl q.1) λq=>.inr ⟨N+2,ae0 _,q⟩) (by omega)) (ae4 _),k,rest W g]
 ·have l: ¬(c.op:Int)=2:=by omega
  simp only[F1,go_sem,simprocAttr,Fw,j,DZ,gp,l];rw[show fk s aa c=0 by unfold fk;rw[aez z]];rfl
def fS(n:Nat):lA:=[.int .i64 n]
def awa(H:List ae)(lo:oN):D X0 (.fn (.func 216) [] []) [.aq] ⟨H,lo⟩=some (.ret .aq ⟨H,lo⟩):=by
 refine aH FL λN b=>?_
 have a:gw 1 .aq none (some (.int .i64 0)) (some (.int .i64 0))=some .aq:=by rfl
 simp(disch:=omega) only[F1,go_sem,simprocAttr,FL,a]
def awb(id aj n:Nat)(H:List ae)(c:id<H.length)(lo:oN):D X0 (.fn (.func 216) [] []) [.ref id aj 1 0 n false] ⟨H,lo⟩=some (.ret (.ref id aj 1 0 n true) ⟨H,lo⟩):=by
 refine aH FL λN d=>?_
 have b:gw 1 (.ref id aj 1 0 n false) none (some (.int .i64 (n:Nat))) (some (.int .i64 (n:Nat)))=some (.ref id aj 1 0 n true):=by simp[gw,gv,lS,lT]
 have a: ∀E,fX E .sl (.ref id aj 1 0 n false)=some (.int .i64 n):=λE=>rfl
 simp only[go_sem,simprocAttr,FL,b,a];rw[iG (.inl rfl) (by simp only[AV.refs];omega),aeE (by omega)]
def awc(s:bF)(Q:br s)(c:cy)(l:j8 c)(H:List ae)(lo:oN):
  ∃v,D XB (.fn (.func 193) [] []) [.agg (bn s),.agg (bp c)] ⟨H,lo⟩=some (.ret (.ax [v,.int .i64 (jl s c).2]) ⟨H,lo⟩)/\Rv v 1 ((jl s c).1.map fS):=by
 suffices W: ∃x,D XB (.fn (.func 193) [] []) [.agg (bn s),.agg (bp c)] ⟨H,lo⟩=some x/\ (λx=> ∃v,x=aX.ret (.ax [v,.int .i64 (jl s c).2]) ⟨H,lo⟩/\Rv v 1 ((jl s c).1.map fS)) x by
  obtain⟨x,w,v,rfl,z⟩:=W;exact⟨v,w,z⟩
 refine cA FJ λN p=>?_
 have b:=λH lo=>lz (ue s.T Q.T c.r l.r H lo)
 have o:=Q.T.get c.r;simp only[ml]at b;generalize R: (aM s.T c.r).1=r at*;generalize he: (aM s.T c.r).2=e at*;have hb:=l.b;have ha:=l.a;have X:=l.op;have y:=o.len;by_cases Y:e=0
 ·have c0:decide ((e:Int)=0)=true:=aeD (by omega);by_cases w: (c.op≠3/\c.op≠4)\/c.b<1\/8<c.b
  ·have f:jl s c=([],2):=by unfold jl;rw[he,aeu (by omega),aez w]
   rw[f];simp only[↓ao1,↓R1,Zz,go_sem,simprocAttr,FJ,p,b,c0,gp,↓SL];refine wz 25 (.bool true) [3,4,5,6] rfl rfl ?_ λf=>?_
   ·simp(disch:=omega) only[R4,↓R1,Zz,go_sem,simprocAttr,gp]
    (repeat' (first|apply And.intro|intro _))
    all_goals(try(refine ahX AV.bool (aon.2 ?_);simp[];try(intros;omega)))
    all_goals first|trivial|omega
   ·simp(disch:=omega) only[F1,↓R1,Zz,go_sem,simprocAttr];exact⟨.aq,rfl,.aq⟩
  ·simp only[↓R1,Zz,go_sem,simprocAttr,FJ,p,b,c0,gp,↓SL];refine wz 25 (.bool false) [3,4,5,6] rfl rfl ?_ λe1=>?_
   ·simp(disch:=omega) only[R4,↓R1,Zz,go_sem,simprocAttr,gp]
    (repeat' (first|apply And.intro|intro _))
    all_goals(try(refine ahX AV.bool (aon.2 ?_);simp[];try(intros;omega)))
    all_goals first|trivial|omega
   ·by_cases z:r.len<c.a+c.b
    ·have O: (r.len:Int)-c.b<c.a:=by omega
     have f:jl s c=([],9):=by unfold jl;rw[he,aeu (by omega),aeu w,R,aez z]
     rw[f];simp(disch:=omega) only[F1,↓ao1,↓R1,↓MP,Zz,go_sem,simprocAttr,gp,O];exact⟨.aq,rfl,.aq⟩
    ·have O: ¬(r.len:Int)-c.b<c.a:=by omega
     have f:jl s c=((List.range c.b).map λi=>(kK r.runs 0 (c.a+i)).getD 0,0):=by unfold jl;rw[he,aeu (by omega),aeu w,R,aeu z]
     rw[f];simp(disch:=omega) only[↓ao1,↓R1,↓MP,Zz,go_sem,simprocAttr,gp,O];obtain⟨B,hB⟩: ∃B:List ae,B=[.box (bn s) none,.box (bp c) none,.box (bS r) none]:=⟨_,rfl⟩;have M: (H++B).length=N+3:=by rw[hB];simp[p]
     rw[<-hB];refine gE c.b (λk e H' ak=>ak=none/\ (H++B)<+:H'/\ (∃v,e 8=v/\aP (N+3) H' v 1 ot ((List.range k).map λi=>fS ((kK r.runs 0 (c.a+i)).getD 0)))/\e 3= .ptr (N+1) 0/\e 6= .ptr (N+2) 0/\e 58= .int .i64 c.b/\e 59= .int .i64 k) 0 (by omega) ?_ ?_
     ·simp only[↓ao1,Zz,go_sem,simprocAttr];exact⟨aq8,_,rfl,aP.aq⟩
     rintro k hk e H' ak ⟨rfl,⟨L,rfl⟩,⟨v,S,a⟩,U,T,u,t⟩ n hn;have C: (B++L)[1]?=some (.box (bp c) none):=by rw[hB];rfl
     have A: (B++L)[2]?=some (.box (bS r) none):=by rw[hB];rfl
     simp only[aev]at a;simp only[bO,↓R1,Zz,go_sem,simprocAttr,afN,T,S,u,t];refine⟨λl=>?_,λl=>?_⟩
     ·have J:k<c.b:=by omega
      have m:=λH lo=>lz (atB (ek r.runs) r.len r.runs (mM r.runs) o.rb.1 (c.a+k) (by omega) H lo)
      simp only[Md,anc]at m;have E:List.take 2 (List.drop 2 (bS r))=[ek r.runs,.int .i64 r.len]:=rfl;simp(disch:=omega) only[↓R1,Zz,go_sem,simprocAttr,U,S,C,A,gp,E,m];refine pE (H0:=H++B) (ys:=[fS ((kK r.runs 0 (c.a+k)).getD 0)]) a ⟨L,aev _ _ _⟩ M (by omega) (by intro el K;rw[ae5.1 K];rfl) rfl (by rw[ae3,axi];show(k+1)*8<=room;unfold room;omega) λv' H2 g I=>?_
      simp(disch:=omega) only[↓ao1,↓R1,Zz,go_sem,simprocAttr,U,T,u,t];refine⟨J,I,v',rfl,?_⟩
      (try rw[aqD]);rw[agp]
      exact g
     ·obtain rfl:k=c.b:=by omega
      have G:cb ((List.range c.b).map λi=>fS ((kK r.runs 0 (c.a+i)).getD 0))=0:=bB (λ_=>rfl) _;have F: (H++(B++L)).take N=H:=by rw[<-p];simp
      rw[ax7];rcases a.2 with⟨rfl,q⟩| ⟨id,aj,Z,rfl,P⟩
      ·have h:=λH lo=>lz (awa H lo)
       simp(disch:=omega) only[F1,↓R1,Zz,go_sem,simprocAttr,h];refine⟨.aq,rfl,?_⟩;have V: ((List.range c.b).map λi=>fS ((kK r.runs 0 (c.a+i)).getD 0))=[]:=q;exact(ahX (Rv .aq 1) V).mpr .aq
      ·have h:=λn=>lz (awb id aj n (H++(B++L)) (dZ P) none)
       simp only[↓R1,Zz,go_sem,simprocAttr,h];rw[uO (.inl rfl) (Fz.ax (d:=11) (il.cons (a':=.sl ((List.range c.b).map λi=>fS ((kK r.runs 0 (c.a+i)).getD 0)) true) (λj=>?_) (il.cons ((Fz.low (d:=0) (ae4 _)).mono (by omega)) il.nil)))]
       ·exact⟨_,dk rfl F,Rv.sl a.1⟩
       ·rw[show j+10=(j+6)+4 by omega];exact ajb (by omega) P (by simp) (by rw[G];omega)
 ·have c0:decide ((e:Int)=0)=false:=aeC (by omega);have f:jl s c=([],e):=by unfold jl;rw[he,aez Y]
  rw[f];simp only[F1,↓R1,Zz,go_sem,simprocAttr,FJ,p,b,c0,gp,↓SL];exact⟨.aq,rfl,.aq⟩
def fB(l:fA):lA:=[.int .u8 l.has,.int .i64 l.n]++arr 8 λi=>[.int .u8 (l.wait i)]
theorem Aj(l:fA): (fB l).length=10:=rfl
theorem GC(l:fA):aI (fB l)=0:=rfl
def cS(m:Marks):lA:=arr 32 λi=>fB (m i)
theorem eC(m:Marks): (cS m).length=320:=by rfl
theorem j9(m:Marks):aI (cS m)=0:=by rfl
structure iH(l:fA):Prop where
 has:l.has<=8
 n:l.n<=8
 lt: ∀i,l.wait i<8
 inj: ∀i j,i<l.n->j<l.n->l.wait i=l.wait j->i=j
def uq(f:Nat->Nat)(x n:Nat):oN:=(List.range n).find? λi=>decide (f i=x)
def Ak(o:oN):Int:=match o with|some i=>i|none=> -1
def awd{f:Nat->Nat}{x:Nat}(h:uq f x k=none):uq f x (k+1)=if f k=x then some k else none:=by
 unfold uq at*;rw[aqD,List.find?_append,h]
 grind
def awe{f:Nat->Nat}{x:Nat}{j:Nat}(h:uq f x k=some j): ∀n,k<=n->uq f x n=some j:=by
 intro n a;obtain⟨m,rfl⟩:=Nat.exists_eq_add_of_le a;unfold uq at*;rw[List.range_add,List.find?_append,h];rfl
def akb{f:Nat->Nat}{x:Nat}(h:uq f x n=some i):i<n/\f i=x:=by
 unfold uq at h
 grind
def awf(f:Nat->Nat)(x n M off:Nat)(s:n<2147483648)(H:List ae)(cs:lA)(h:H[M]?=some (.box cs none))(r: ∀i,i<n->cs[off+i]?=some (.int .u8 (f i)))(lo:oN):
  D X0 (.fn (.func 220) [] []) [.fw M 1 off n,.int .u8 x] ⟨H,lo⟩=some (.ret (.int .i64 (Ak (uq f x n))) ⟨H,lo⟩):=by
 refine aH RU λN v=>?_
 simp only[go_sem,simprocAttr,RU];refine dQ n (λk e H'=>H'=H/\uq f x k=none/\e 0= .fw M 1 off n/\e 1= .int .u8 x/\e 7= .int .i64 n/\e 8= .int .i64 k) 0 (by omega) ?_ ?_
 ·trivial
 rintro k t e H' ⟨rfl,g,p,o,l,j⟩ m hm;simp(disch:=omega) only[bO,F1,go_sem,simprocAttr,afT,p,o,l,j];refine⟨λq=>?_,λq=>?_⟩
 ·have b:k<n:=by omega
  have c:=r k b;have u:kg 1 (.fw M 1 off n) (.int .i64 k)=some (.ptr M (off+k)):=by
   rw[Px,aez ⟨by omega,by omega,rfl⟩];simp
  have d:=awd g;by_cases e1:f k=x
  ·have a: ((x:Nat):Int)=f k:=by omega
   rw[aez e1]at d;simp(disch:=omega) only[F1,go_sem,simprocAttr,h,c,a];rw[awe d n (by omega)];exact⟨by omega,rfl⟩
  ·have a: ¬((x:Nat):Int)=f k:=by omega
   rw[aeu e1]at d;simp(disch:=omega) only[go_sem,simprocAttr,p,o,l,j,h,c,a];exact⟨by omega,b,d⟩
 ·obtain rfl:k=n:=by omega
  rw[g];rfl
theorem akc(n:Nat):IntKind.wrap .u8 (n:Int)=((n % 256:Nat):Int):=by rfl
def akd(l:fA)(b:iH l)(aa:Nat)(f:aa<4294967296)(H:List ae)(lo:oN):
  D X0 (.fn (.func 199) [] []) [.agg (fB l),.int .i64 aa] ⟨H,lo⟩=some (.ret (.int .i64 (Ak (rp l aa))) ⟨H,lo⟩):=by
 refine aH RG λN c=>?_
 have g:=b.n;have a:=λlo=>awf l.wait (aa % 256) l.n N 2 (by omega) (H++[.box (fB l) none]) (fB l) (by grind) (λi a=>by
  rcases(show i=0\/i=1\/i=2\/i=3\/i=4\/i=5\/i=6\/i=7 by omega)with h|h|h|h|h|h|h|h<;>subst h<;>rfl) lo
 have hw:=akc aa;have e: (fB l)[1]?=some (.int .i64 l.n):=rfl;have d: (0:Int)<=l.n/\ (l.n:Int)<=8:=by omega
 simp only[F1,go_sem,simprocAttr,RG,c,e,hw,a,d];rfl
def ake(l:fA)(i:Nat):fA:={l with wait:=λj=>if i<=j/\j<7 then l.wait (j+1)else l.wait j}
def awg{X:Ctx}{id off:Nat}{k:IntKind}{a:Int}:qD X n sz (.ptr id off) (some (.int k a)) none=if 0<=a/\a<=n then some (.fw id sz (off+a.toNat*sz) (n-a.toNat))else none:=by
 simp only[qD,gv,lS]
 grind
def awh{H:List ae}{N:Nat}(h:H[N]?=some (.box (fB l) none))(a:i<8):
  rW ⟨H,lo⟩ 1 (.fw N 1 (2+i) (8-i)) (.fw N 1 (2+(i+1)) (7-i))=some (.int .i64 (7-i:Nat),⟨H.set N (.box (fB (ake l i)) none),lo⟩):=by
 rcases(show i=0\/i=1\/i=2\/i=3\/i=4\/i=5\/i=6\/i=7 by omega)with q|q|q|q|q|q|q|q<;>subst q<;>
  (simp only[rW,Df,Den.elems,h];rfl)
def awi(a:k<8):aJ (fB l) (2+k) [.int .u8 0]=fB {l with wait:=au l.wait k 0}:=by
 rcases(show k=0\/k=1\/k=2\/k=3\/k=4\/k=5\/k=6\/k=7 by omega)with q|q|q|q|q|q|q|q<;>subst q<;>rfl
def awj{v:Nat}(a:k<8):aJ (fB l) (2+k) [.int .u8 v]=fB {l with wait:=au l.wait k v}:=by
 rcases(show k=0\/k=1\/k=2\/k=3\/k=4\/k=5\/k=6\/k=7 by omega)with q|q|q|q|q|q|q|q<;>subst q<;>rfl
def akf(l:fA)(s:iH l)(aa:Nat)(t:aa<4294967296)(H:List ae)(lo:oN):
  D X0 (.fn (.func 178) [] []) [.agg (fB l),.int .i64 aa] ⟨H,lo⟩=some (.ret (.agg (fB (xk l aa))) ⟨H,lo⟩):=by
 refine aH KY λN r=>?_
 have a:=λH lo=>akd l s aa t H lo
 have v:=s.n;have b: ∀l:fA,List.take 10 (fB l)=fB l:=λ_=>rfl
 unfold xk;cases p:rp l aa with
 |none=>
  rw[p]at a;simp only[Ak]at a;simp only[F1,go_sem,simprocAttr,KY,r,a,b,Aj,GC]
 |some i=>
  rw[p]at a;simp only[Ak]at a;have u:=(akb p).1;have o: ¬((i:Nat):Int)<0:=by omega
  have m: (0:Int)<=i/\ (i:Int)<=8:=by omega
  have k: (0:Int)<=(i:Int)+1/\ (i:Int)+1<=8:=by omega
  have e: ((i:Int)+1).toNat=i+1:=by omega
  have j: ∀l:fA,(fB l)[1]?=some (.int .i64 l.n):=λ_=>rfl
  have f: ∀ (l:fA) (n:Nat),aJ (fB l) 1 [.int .i64 n]=fB {l with n:=n}:=λ_ _=>rfl
  have c: (l.n:Int)-1=((l.n-1:Nat):Int):=by omega
  have g:l.n-1<8:=by omega
  have d:=λl:fA=>awi (l:=l) g
  have h: (ake l i).n=l.n:=rfl;have q:=λB lo=>awh (H:=H++(.box (fB l) none::B)) (lo:=lo) (N:=N) (l:=l) (by rw[dq r];rfl) (show i<8 by omega)
  simp(disch:=omega) only[F1,go_sem,simprocAttr,KY,r,a,b,Aj,GC,awg,o,m,k,e,q,h,j,f,c,d];exact⟨by omega,by omega,rfl⟩
def rM:Den.part true 320 (cS m) 0=some (.agg (cS m)):=vo (eC m)
def xF(h:i<32):Den.part true 10 (cS m) (i*10)=some (.agg (fB (m i))):=jG (k:=10) (o:=0) (f:=λi=>fB (m i)) (λ_=>rfl) h (by omega) (by omega)
def vU(h:i<32):Den.part false 1 (cS m) (i*10)=some (.int .u8 (m i).has):=jG (k:=10) (o:=0) (f:=λi=>fB (m i)) (λ_=>rfl) h (by omega) (by omega)
def GD(h:i<32):Den.part false 1 (cS m) (i*10+1)=some (.int .i64 (m i).n):=jG (k:=10) (o:=1) (f:=λi=>fB (m i)) (λ_=>rfl) h (by omega) (by omega)
def CT{o:Nat}{vs:lA}(h:i<32)(ho:o+vs.length<=10)(a:aJ (fB (m i)) o vs=fB l):aJ (cS m) (i*10+o) vs=cS (au m i l):=by
 unfold cS;rw[ln (k:=10) (f:=λi=>fB (m i)) (λ_=>rfl) h ho,a,oG fB]
def US(i aa:Nat)(H:List ae)(lo:oN):D X0 (.fn (.func 177) [] []) [.int .i64 i,.int .i64 aa] ⟨H,lo⟩=some (.ret (.bool (jm i aa)) ⟨H,lo⟩):=by
 refine aH KX λN d=>?_
 have b: (i:Int)>=0:=by omega
 have c: (aa:Int)>=0:=by omega
 by_cases f:i<32
 ·have a: (i:Int)<32:=by omega
  have e:jm i aa=decide ((aa:Int)<8):=by unfold jm;grind
  rw[e];simp(disch:=omega) only[F1,go_sem,simprocAttr,KX,b,c,a]
 ·have a: ¬(i:Int)<32:=by omega
  have e:jm i aa=false:=by unfold jm;grind
  rw[e];simp(disch:=omega) only[F1,go_sem,simprocAttr,KX,b,a]
def akg(d:iH l)(g:aa<8)(h:rp l aa=none):l.n<8:=by
 have k:=d.n;by_cases e:l.n=8
 ·have p: ∀i,i<8->l.wait i≠aa:=by
    unfold rp at h
    grind
  have j: ((List.range 8).map l.wait++[aa]).Nodup:=by
   rw[List.nodup_append];refine⟨?_,by simp,?_⟩
   ·rw[avk,aAC];refine asH (λ {a b} c m f he=>f ?_) (avk.1 (aAM (n:=8)));exact d.inj a b (by grind) (by grind) he
   grind
  have o:=Mt 8 _ j (by
   intro a c;rcases ae2.1 c with c|c
   ·obtain⟨i,_,rfl⟩:=ago.1 c;exact d.lt i
   ·rw[ae5.1 c];exact g)
  grind
 ·omega
def awk(m:Marks)(E: ∀i,iH (m i))(a aa:Nat)(P:aa<4294967296)(H:List ae)(lo:oN):
  D X0 (.fn (.func 190) [] []) [.agg (cS m),.int .i64 a,.int .i64 aa] ⟨H,lo⟩=some (.ret (.ax [.agg (cS (jn m a aa).1),.bool (jn m a aa).2]) ⟨H,lo⟩):=by
 refine aH sO λN u=>?_
 have s:pK.length=320:=by decide
 have d:List.drop 320 pK=[]:=ah2 (by rw[s];omega);have W:List.take 320 (cS m)=cS m:=aeE (by rw[eC];omega);have b:=λH lo=>US a aa H lo
 have T: ∀m:Marks,(AV.ax [.agg (cS m),.bool false]).refs<=N:=λm=>by simp[AV.refs,aI,j9]
 cases r:jm a aa with
 |false=>
  rw[r]at b;have t:jn m a aa=(m,false):=by unfold jn;rw[aez r]
  rw[t];simp only[F1,go_sem,simprocAttr,sO,u,b,↓rM,eC,j9,s,d]
 |true=>
  rw[r]at b;have c:a<32/\aa<8:=by unfold jm at r;simpa using r
  have L: ¬jm a aa=false:=by rw[r];simp
  obtain⟨c,X⟩:=c;have f: (0:Int)<=a/\ (a:Int)<32:=by omega
  have p:=λH lo=>akd (m a) (E a) aa P H lo
  have w:=λH lo=>akf (m a) (E a) aa P H lo
  have F:a*10+10<=320:=by omega
  have S:=(E a).has;have V:=(E a).n;have G:a*10<=319:=by omega
  by_cases M: (m a).has=aa+1
  ·have e: (((m a).has:Nat):Int)=(aa:Int)+1:=by omega
   have t:jn m a aa=(m,true):=by unfold jn;rw[aeu L,aez M]
   rw[t];simp only[F1,go_sem,simprocAttr,sO,u,b,f,p,↓xF c,↓vU c,e,↓rM,eC,j9,s,d]
  ·have e:decide ((((m a).has:Nat):Int)=(aa:Int)+1)=false:=aeC (by omega);have A: ∀ (m:Marks) (l:fA),aJ (cS m) (a*10) (fB l)=cS (au m a l):=λm l=>CT (o:=0) c (by rw[Aj];omega) rfl
   have z: ∀m:Marks,aJ (cS m) (a*10) [.int .u8 ((aa:Int)+1)]=cS (au m a {m a with has:=aa+1}):=λm=>CT (o:=0) c (by simp) rfl
   have y: ∀m':Marks,aJ (cS m') (a*10+1) [.int .i64 (((m a).n:Int)+1)]=cS (au m' a {m' a with n:=(m a).n+1}):=λm'=>CT c (by simp) rfl
   have I:a*10<=318:=by omega
   have Q: ∀m:Marks,List.take 320 (cS m)=cS m:=λm=>aeE (by rw[eC];omega)
   by_cases K: (m a).has=0/\ ((m a).n=0\/rp (m a) aa=some 0)
   ·have t:jn m a aa=(au m a {xk (m a) aa with has:=aa+1},true):=by unfold jn;rw[aeu L,aeu M,aez K]
    rw[t];have J:decide ((((m a).has:Nat):Int)=0)=true:=aeD (by omega);have hw:IntKind.wrap .u8 ((aa:Int)+1)=((aa+1:Nat):Int):=by rw[wrap_u8 (by omega) (by omega)];rfl
    by_cases Y: (m a).n=0
    ·have g:decide ((((m a).n:Nat):Int)=0)=true:=aeD (by omega);simp(disch:=omega) only[F1,go_sem,simprocAttr,sO,u,b,f,p,w,↓xF c,↓vU c,↓GD c,e,J,g,hw,A,z,cw,sP,↓rM,eC,j9,s,d,Aj,GC,F,G]
    ·have g:decide ((((m a).n:Nat):Int)=0)=false:=aeC (by omega);have O:rp (m a) aa=some 0:=K.2.resolve_left Y;rw[O]at p;simp only[Ak]at p;simp(disch:=omega) only[F1,go_sem,simprocAttr,sO,u,b,f,p,w,↓xF c,↓vU c,↓GD c,e,J,g,hw,A,z,cw,sP,↓rM,eC,j9,s,d,Aj,GC,F,G]
   ·have Z: ∀h:Nat,decide ((h:Int)=0)=decide (h=0):=λh=>agv.2 (by omega)
    cases v:rp (m a) aa with
    |none=>
     have U:=akg (E a) X v;have C: ((m a).n:Int)<8:=by omega
     have B:a*10+2+(m a).n<=319:=by omega
     have t:jn m a aa=(au m a {m a with n:=(m a).n+1,wait:=au (m a).wait (m a).n aa},false):=by unfold jn;rw[aeu L,aeu M,aeu K,aez v]
     rw[t];rw[v]at p;simp only[Ak]at p;have x: ∀ (m':Marks),(m' a).n=(m a).n->aJ (cS m') (a*10+2+(m a).n) [.int .u8 aa]=cS (au m' a {m' a with wait:=au (m' a).wait (m a).n aa}):=λm' h=>(ahX (λo=>aJ (cS m') o _) (ajK _ _ _)).trans (CT c (by simp;omega) (awj U))
     by_cases J: (m a).has=0
     ·have k:decide ((((m a).has:Nat):Int)=0)=true:=aeD (by omega);have g:decide ((((m a).n:Nat):Int)=0)=false:=aeC (by omega);simp(disch:=omega) only[F1,go_sem,simprocAttr,sO,u,b,f,p,↓xF c,↓vU c,↓GD c,e,k,g,C,B,I,y,x,cw,sP,↓rM,eC,j9,s,d]
     ·have k:decide ((((m a).has:Nat):Int)=0)=false:=aeC (by omega);simp(disch:=omega) only[F1,go_sem,simprocAttr,sO,u,b,f,p,↓xF c,↓vU c,↓GD c,e,k,C,B,I,y,x,cw,sP,↓rM,eC,j9,s,d]
    |some j=>
     have t:jn m a aa=(m,false):=by unfold jn;rw[aeu L,aeu M,aeu K,aeu (by rw[v];simp)]
     rw[t];rw[v]at p;simp only[Ak]at p;have R: ¬((j:Nat):Int)<0:=by omega
     by_cases J: (m a).has=0
     ·have k:decide ((((m a).has:Nat):Int)=0)=true:=aeD (by omega);have g:decide ((((m a).n:Nat):Int)=0)=false:=aeC (by omega);have O:decide (((j:Nat):Int)=0)=false:=aeC (λq=>K ⟨J,.inr (by rw[v];congr 1;omega)⟩);simp(disch:=omega) only[F1,go_sem,simprocAttr,sO,u,b,f,p,↓xF c,↓vU c,↓GD c,e,k,g,O,R,↓rM,eC,j9,s,d]
     ·have k:decide ((((m a).has:Nat):Int)=0)=false:=aeC (by omega);simp(disch:=omega) only[F1,go_sem,simprocAttr,sO,u,b,f,p,↓xF c,↓vU c,e,k,R,↓rM,eC,j9,s,d]
end Go.Proofs.YtcdeobefbpnfeaaGreatDoor
