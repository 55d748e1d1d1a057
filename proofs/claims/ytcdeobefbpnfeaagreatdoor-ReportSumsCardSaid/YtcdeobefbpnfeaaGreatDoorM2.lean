/- A part. -/
import Derived.Test.YtcdeobefbpnfeaaGreatDoorM1
set_option linter.all false
set_option maxRecDepth 10000
set_option maxHeartbeats 1000000
namespace Go.Proofs.YtcdeobefbpnfeaaGreatDoor
open Go Go.Den
variable{t:aw}{n a p k e sz r i aa:Nat}{v bk:AV}{lo:oN}{x y:aB}{b:cS}{m:Marks}{α β:Type}{l:fw}
def asp:=@List.Pairwise.imp_of_mem
def asq:=@List.nodup_cons
def avm:=@List.nodup_iff_pairwise_ne
def az6:=@eq_false
def aAS:=@List.nodup_range
def ud(o:bI)(t:aw)(p:Ow->Bool)(h:Nat):Bool:=decide (root t h=h)&&p (bt o t h)
def gl(o:bI)(t:aw)(p:Ow->Bool):lN:=(a0 t.b).filter (ud o t p)
def xu(o:bI)(t:aw)(p:Ow->Bool)(n:Nat):lN:=((a0 t.b).take n).filter (ud o t p)
def at5{o:bI}{p:Ow->Bool}(h:n< (a0 t.b).length):xu o t p (n+1)=if ud o t p ((a0 t.b).getD n default)then xu o t p n++[(a0 t.b).getD n default]else xu o t p n:=by
 unfold xu;rw[afP,adR h,aqe,getD_eq h]
 grind
def at6{o:bI}{p:Ow->Bool}: (xu o t p n).length<=n:=afY (ag7 _ _) (by grind)
def ahZ(o:bI)(ho:fR o)(t:aw)(z:bS t)(V:bY t)(fv:AV)(p:Ow->Bool)(N:Nat)(H:List ae)(A:H.length=N)
  (hf: ∀x L,xp x->D X fv [.agg (jG x)] ⟨H++L,none⟩=some (.ret (.bool (p x)) ⟨H++L,none⟩)) (lo:oN):
  ∃w,D X (.fn (.func 104) [] []) [.agg (cN o),.agg (aO t),fv] ⟨H,lo⟩=some (.ret w ⟨H,lo⟩)/\Rv w 1 ((gl o t p).map hC)/\w.refs=0:=by
 suffices hs: ∃E,D X (.fn (.func 104) [] []) [.agg (cN o),.agg (aO t),fv] ⟨H,lo⟩=some E/\ (λE=> ∃w,E=aX.ret w ⟨H,lo⟩/\Rv w 1 ((gl o t p).map hC)/\w.refs=0) E by
  obtain⟨E,h1,w,rfl,h2⟩:=hs;exact⟨w,h1,h2⟩
 refine cz Qt λM W=>?_
 obtain rfl:M=N:=by rw[<-W,A]
 obtain⟨v,J,e1,G⟩:=Ln t.b z.b (M+2) (H++[.box (cN o) none,.box (aO t) none]) (by simp[A]) none;have y:D X (.fn (.func 19) [] []) [.agg (bX t.b)] ⟨H++[.box (cN o) none,.box (aO t) none],none⟩=some _:=qa (p:=mg) rfl e1;have b:=(jJ G none).bN;have sa:=kr t.b;rw[adW]at y G b;obtain⟨q,u⟩: ∃q,q=[ae.box (cN o) none,.box (aO t) none]++J:=⟨_,rfl⟩;have Y: ∀L,(H++(q++L))[M]?=some (.box (cN o) none):=λL=>by rw[dv A,u];rfl
 have g1: ∀L,(H++(q++L))[M+1]?=some (.box (aO t) none):=λL=>by rw[bA A,u];rfl
 rw[<-u]at y G b;simp only[go_sem,simprocAttr,Qt,W,y,b];refine dP (a0 t.b).length (λn e H'=> ∃L,H'=H++(q++L)/\ (∃B,e 7=B/\aT (M+q.length) H' B 1 cb ((xu o t p n).map hC))/\e 2=fv/\e 3= .ptr M 0/\e 4= .ptr (M+1) 0/\e 12=v/\e 13= .int .i64 (a0 t.b).length/\e 14= .int .i64 n) 0 (by omega) ?_ ?_
 ·simp only[go_sem,simprocAttr];exact⟨[],by simp,_,rfl,aT.aq⟩
 rintro n hn e H' ⟨L,rfl,⟨B,e7,a⟩,O,K,I,m,l,k⟩ n' He;simp only[bQ,go_sem,simprocAttr,aeV,e7,m,l,k];refine⟨λhc=>?_,λhc=>?_⟩
 ·have f:n< (a0 t.b).length:=by omega
  have Q:=(fO z.b).1 (eo f);have d:=at5 (o:=o) (p:=p) f;have g:Rd ⟨H++(q++L),none⟩ v 1 ((a0 t.b).map hC):=jJ (by have:=G.ext (L:=L);rwa[adW]at this) none;have F:=g.cD (X:=X) (off:=0) (n:=1) (agg:=false) f;rw[pH]at F;have r9:=at6 (o:=o) (t:=t) (p:=p) (n:=n);generalize(a0 t.b).getD n default=h at*;have T:=fC Q;have r:=λH lo=>up dy (zV t z V h T H lo)
  have C:=λH lo=>up dy (z6 o ho t z V h T H lo)
  have i:=hf (bt o t h) (q++L) (ho.of t h);have c:ud o t p h=(decide (root t h=h)&&p (bt o t h)):=rfl;have U: ∀ak:oN,True:=λ_=>trivial
  by_cases Z:root t h=h
  ·have j:decide ((root t h:Int)=(h:Nat))=true:=ad0 (by omega);rw[ad0 Z,al1]at c;cases S:p (bt o t h)
   ·rw[S]at i c;rw[c,ada (by simp)]at d;simp(disch:=omega) only[go_sem,simprocAttr,O,K,I,e7,m,l,k,g.ca,F,Y,g1,r,C,j,i];exact⟨by omega,f,L,rfl,B,rfl,by rw[d];exact a⟩
   ·rw[S]at i c;rw[c,adV rfl]at d;simp only[go_sem,simprocAttr,O,K,I,e7,g.ca,F,Y,g1,r,C,j,i];refine⟨by omega,o7 (H0:=H++q) (ys:=[[.int .u32 (h:Nat)]]) a ⟨_,adW _ _ _⟩ (by simp[A]) (by omega) (by intro el R;rw[afD.1 R];rfl) rfl (by unfold room;simp;omega) λv' H2 s P=>?_⟩;obtain⟨L2,rfl⟩:=P;simp(disch:=omega) only[go_sem,simprocAttr,O,K,I,m,l,k];refine⟨f,L2,by simp,v',rfl,?_⟩;rw[d,afI];rwa[adW]at s
  ·have j: ¬((root t h:Nat):Int)=(h:Nat):=by omega
   rw[adZ Z,ahj]at c;rw[c,ada (by simp)]at d;simp(disch:=omega) only[go_sem,simprocAttr,O,K,I,e7,m,l,k,g.ca,F,g1,r,j];exact⟨by omega,f,L,rfl,B,rfl,by rw[d];exact a⟩
 ·obtain rfl:n=(a0 t.b).length:=by omega
  have z:xu o t p (a0 t.b).length=gl o t p:=by unfold xu gl;rw[afH]
  rw[z]at a;have h0:bZ ((gl o t p).map hC)=0:=bB (λ_=>rfl) _;rw[aT.DJ (aT.le a (by omega)) (by omega)];refine⟨_,dj rfl (kb A),a.o8,cK a.o8 h0⟩
def jn(aa:Nat)(x:Ow):Bool:=decide (x.kind=1)&&decide (x.aa=aa)
def nD(aa:Nat)(x:Ow):Bool:=decide (x.kind=3)&& (decide (aa<8)&&mI x.hold aa)
theorem Cm(x:Ow):jG x=[.int .u8 x.kind,.int .u8 x.aa,.int .u8 x.hold]:=rfl
def at7(aa:Nat)(x:Ow)(d:xp x)(q:Nat)(H:List ae)(e:H[q]?=some (.box [.int .i64 (aa:Nat)] none))(lo:oN):
  D X (.fn (.func 107) [] [.ptr q 0]) [.agg (jG x)] ⟨H,lo⟩=some (.ret (.bool (jn aa x)) ⟨H,lo⟩):=by
 refine eY J1 λN b=>?_
 have f: ∀L,(H++L)[q]?=_:=λL=>bc e
 have:=d.aa;by_cases c:x.kind=1
 ·have a: (x.kind:Int)=1:=by omega
  simp(disch:=omega) only[F1,go_sem,simprocAttr,J1,b,Cm,f,a];refine dj (ag9 AV.bool ?_) rfl;unfold jn;grind
 ·have a: ¬(x.kind:Int)=1:=by omega
  simp only[F1,go_sem,simprocAttr,J1,b,Cm,a];unfold jn;grind
def aua(aa:Nat)(k:aa<256)(x:Ow)(h:xp x)(q:Nat)(H:List ae)(i:H[q]?=some (.box [.int .i64 (aa:Nat)] none))(lo:oN):
  D X (.fn (.func 105) [] [.ptr q 0]) [.agg (jG x)] ⟨H,lo⟩=some (.ret (.bool (nD aa x)) ⟨H,lo⟩):=by
 refine eY Fa λN e=>?_
 have f: ∀L,(H++L)[q]?=_:=λL=>bc i
 have j:=λH lo=>up dy (TD aa (by omega) H lo)
 have hand:=LF h.hold (z5 aa);have d:=ahF (x:=x.hold) (aa:=aa);by_cases c:x.kind=3
 ·have b: (x.kind:Int)=3:=by omega
  have c0: (aa:Int)>=0:=by omega
  by_cases g:aa<8
  ·have a: (aa:Int)<8:=by omega
   simp only[F1,go_sem,simprocAttr,Fa,e,Cm,f,b,c0,a,j,hand,d];unfold nD;rw[ad0 c,ad0 g];rfl
  ·have a: ¬(aa:Int)<8:=by omega
   simp only[F1,go_sem,simprocAttr,Fa,e,Cm,f,b,c0,a];unfold nD;rw[ad0 c,adZ g];rfl
 ·have b: ¬(x.kind:Int)=3:=by omega
  simp only[F1,go_sem,simprocAttr,Fa,e,Cm,b];unfold nD;rw[adZ c];rfl
def ah0(o:bI)(ho:fR o)(t:aw)(c:bS t)(d:bY t)(aa:Nat)(H:List ae)(lo:oN):
  ∃w,D X (.fn (.func 72) [] []) [.agg (cN o),.agg (aO t),.int .i64 aa] ⟨H,lo⟩=some (.ret w ⟨H,lo⟩)/\Rv w 1 ((gl o t (jn aa)).map hC)/\w.refs=0:=by
 obtain⟨N,f⟩: ∃N,H.length=N:=⟨_,rfl⟩;obtain⟨w,e1,e,e3⟩:=ahZ o ho t c d (.fn (.func 107) [] [.ptr (N+2) 0]) (jn aa) (N+3) (H++[.box (cN o) none,.box (aO t) none,.box [.int .i64 aa] none]) (by grind)
  (λx L b=>at7 aa x b (N+2) _ (by simp_all) none) none
 refine⟨w,?_,e,e3⟩;refine aH Qg λM a=>?_
 obtain rfl:M=N:=by omega
 simp only[go_sem,simprocAttr,Qg,a,e1];rw[oF e3,kb a]
def ah1(o:bI)(ho:fR o)(t:aw)(d:bS t)(e:bY t)(aa:Nat)(a:aa<256)(H:List ae)(lo:oN):
  ∃w,D X (.fn (.func 71) [] []) [.agg (cN o),.agg (aO t),.int .i64 aa] ⟨H,lo⟩=some (.ret w ⟨H,lo⟩)/\Rv w 1 ((gl o t (nD aa)).map hC)/\w.refs=0:=by
 obtain⟨N,g⟩: ∃N,H.length=N:=⟨_,rfl⟩;obtain⟨w,e1,f,e3⟩:=ahZ o ho t d e (.fn (.func 105) [] [.ptr (N+2) 0]) (nD aa) (N+3) (H++[.box (cN o) none,.box (aO t) none,.box [.int .i64 aa] none]) (by grind)
  (λx L c=>aua aa a x c (N+2) _ (by simp_all) none) none
 refine⟨w,?_,f,e3⟩;refine aH Qf λM b=>?_
 obtain rfl:M=N:=by omega
 simp only[go_sem,simprocAttr,Qf,b,e1];rw[oF e3,kb b]
theorem ah2(a b:Int):oT (.int .u8 a) (.int .u8 b)=some (decide (a=b)):=by rfl
def LJ{a b:Int}{es:List (AV×AV)}:eg (.int .u8 a) ((.int .u8 b,v)::es)=if a=b then some (some v)else eg (.int .u8 a) es:=by
 simp only[eg,ah2]
 grind
theorem ah3{a:Int}{v:AV}: ∀ {es:List (AV×AV)},(∀e∈es,∃j:Int,e.1= .int .u8 j/\a≠j)->lJ (.int .u8 a) v es=some (es++[(.int .u8 a,v)])
 | [],_=>rfl
 | (k,u)::es,h=>by
   obtain⟨j,c,b⟩:=h _ (ai4 ..);subst c;simp only[lJ,ah2,b,axN];rw[ah3 λe he=>h e (afU _ he)];rfl
def TH{H:List ae}(b:H.length=p){a:Int}{es:List (AV×AV)}(h: ∀e∈es,∃j:Int,e.1= .int .u8 j/\a≠j)(c:v.refs<=p+1):
  mn ⟨H++[.map es],lo⟩ .int (.mp p) (.int .u8 a) v=some ⟨H++[.map (es++[(.int .u8 a,v)])],lo⟩:=by
 unfold mn;rw[adV (show kG .int (.int .u8 a)=true from rfl)];simp only[dv b,aqv,ah3 h];simp only[AS.set];simp_all
def TI{gm:Nat->Option (List (AV×AV))}{H:List ae}{id:Nat}{es:List (AV×AV)}{a:Int}{z:AV}{r:Option AV}(h:H[id]?=some (.map es))(b:eg (.int .u8 a) es=some r):
  jv gm ⟨H,lo⟩ .int z (.mp id) (.int .u8 a) true=some (match r with|some v=>.ay [v,.bool true]|none=>.ay [z,.bool false]):=by
 unfold jv;rw[adV (show kG .int (.int .u8 a)=true from rfl)];simp only[mapOf,h,b]
 grind
section
variable(T:aw)(hT:bS T)(xv:bY T)(O:bI)(K:br)(hK:gR K)(h:Nat)(hh:h<4294967296)(pw ph:Nat)(H:List ae)(hw:H[pw]?=some (.box (gC T O K) none))(oY:H[ph]?=some (.box [.int .u32 h] none))(lo:oN)
include hT xv hK hh hw oY
omit hT xv hh in
theorem aub:D X (.fn (.func 329) [] [.ptr pw 0,.ptr ph 0]) [] ⟨H,lo⟩=some (.ret (.bool (w4 K h 0)) ⟨H,lo⟩):=by
 refine eY R6 λN b=>?_
 have a: ∀H lo,D X (.fn (.func 330) [] []) [.agg (b9 K),.int .u32 h,.int .u32 0] ⟨H,lo⟩=_:=ahO K hK h 0 (by omega);simp(disch:=omega) only[F1,go_sem,simprocAttr,R6,b,hw,oY,↓qZ,a]
omit hT xv hh in
theorem auc:D X (.fn (.func 331) [] [.ptr pw 0,.ptr ph 0]) [] ⟨H,lo⟩=some (.ret (.bool (zG K h 0)) ⟨H,lo⟩):=by
 refine eY R7 λN b=>?_
 have a: ∀H lo,D X (.fn (.func 332) [] []) [.agg (b9 K),.int .u32 h,.int .u32 0] ⟨H,lo⟩=_:=ahP K hK h 0 (by omega);simp(disch:=omega) only[F1,go_sem,simprocAttr,R7,b,hw,oY,↓qZ,a]
omit hT xv hh oY in
theorem aud(x:Nat):D X (.fn (.func 335) [] [.ptr pw 0]) [.int .u32 x] ⟨H,lo⟩=some (.ret (.bool (decide (0< (ni K x).length))) ⟨H,lo⟩):=by
 refine eY Sa λN a=>?_
 obtain⟨w,e1,b,e3⟩:=TF K hK x H none;simp(disch:=omega) only[F1,go_sem,simprocAttr,Sa,a,hw,↓qZ,e1,b.bN];exact dj (ag9 AV.bool (afS.2 (by omega))) rfl
theorem aue:D X (.fn (.func 333) [] [.ptr pw 0,.ptr ph 0]) [] ⟨H,lo⟩=some (.ret (.bool (!((under T h).any λx=>decide (0< (ni K x).length)))) ⟨H,lo⟩):=by
 refine eY R8 λN b=>?_
 obtain⟨v,J,a,e,d,c⟩:=FV T hT xv h hh N H b none;have f:=agY dy v (.fn (.func 335) [] [.ptr pw 0]) (under T h) (H++J) d.rd (by have:=zY xv h;omega) (λx=>decide (0< (ni K x).length)) a (λx _=>aud T O K hK pw (H++J) (bc hw) none x);simp only[go_sem,simprocAttr,R8,hw,oY,↓pP,e,f];rw[iF (en.of c) (aep _),kb b]
end
def auf(T:aw)(hT:bS T)(xv:bY T)(O:bI)(K:br)(hK:gR K)(h:Nat)(hh:h<4294967296)(b:Nat)(t:b<=2)(H:List ae)(lo:oN):
  D X (.fn (.func 245) [] []) [.agg (gC T O K),.int .u32 h,.int .u8 b] ⟨H,lo⟩=some (.ret (.bool (FL T K h b)) ⟨H,lo⟩):=by
 refine aH Fp λN i=>?_
 obtain⟨o,l⟩: ∃o,o=H++[ae.box (gC T O K) none,.box [.int .u32 h] none]:=⟨_,rfl⟩;have g:o.length=N+2:=by rw[l];simp[i]
 have m: ∀f,(AV.fn (.func f) [] [.ptr N 0,.ptr (N+1) 0]).refs<=N+2+1:=λf=>by simp only[AV.refs,aI];omega
 have k:=TH g (a:=0) (es:=[]) (lo:=none) (by simp) (m 329);have j:=TH g (a:=1) (es:=[(.int .u8 0,.fn (.func 329) [] [.ptr N 0,.ptr (N+1) 0])]) (lo:=none) (by simp) (m 331);have m3:=TH g (a:=2) (es:=[(.int .u8 0,.fn (.func 329) [] [.ptr N 0,.ptr (N+1) 0]),(.int .u8 1,.fn (.func 331) [] [.ptr N 0,.ptr (N+1) 0])]) (lo:=none) (by simp) (m 333);rw[l]at k j m3;simp only[adW,ahn,ahk]at k j m3;obtain⟨e,c⟩: ∃e,e=H++[ae.box (gC T O K) none,.box [.int .u32 h] none,.map [(.int .u8 0,.fn (.func 329) [] [.ptr N 0,.ptr (N+1) 0]),(.int .u8 1,.fn (.func 331) [] [.ptr N 0,.ptr (N+1) 0]),(.int .u8 2,.fn (.func 333) [] [.ptr N 0,.ptr (N+1) 0])]]:=⟨_,rfl⟩;have n:e[N]?=some (.box (gC T O K) none):=by rw[c,dv i];rfl
 have g1:e[N+1]?=some (.box [.int .u32 h] none):=by rw[c,bA i];rfl
 have g2:e[N+2]?=some (.map [(.int .u8 0,.fn (.func 329) [] [.ptr N 0,.ptr (N+1) 0]),(.int .u8 1,.fn (.func 331) [] [.ptr N 0,.ptr (N+1) 0]),(.int .u8 2,.fn (.func 333) [] [.ptr N 0,.ptr (N+1) 0])]):=by rw[c,bA i];rfl
 have s:=aub O K hK h N (N+1) e (T:=T) n g1 none;have q:=auc O K hK h N (N+1) e (T:=T) n g1 none;have p:=aue T hT xv O K hK h hh N (N+1) e n g1 none;have hw:b=0\/b=1\/b=2:=by omega
 rcases hw with rfl|rfl|rfl
 ·have d:=TI (gm:=X.fU) (lo:=none) (a:=0) (z:=.ds) g2 (r:=some _) (by simp only[LJ,af1];rfl);rw[c]at s d;simp only[F1,go_sem,simprocAttr,Fp,i,k,j,m3,d,s];rfl
 ·have d:=TI (gm:=X.fU) (lo:=none) (a:=1) (z:=.ds) g2 (r:=some (.fn (.func 331) [] [.ptr N 0,.ptr (N+1) 0])) (by simp[LJ]);rw[c]at q d;simp only[F1,go_sem,simprocAttr,Fp,i,k,j,m3,d,q];rfl
 ·have d:=TI (gm:=X.fU) (lo:=none) (a:=2) (z:=.ds) g2 (r:=some (.fn (.func 333) [] [.ptr N 0,.ptr (N+1) 0])) (by simp[LJ]);rw[c]at p d;simp only[F1,go_sem,simprocAttr,Fp,i,k,j,m3,d,p];rfl
def LK(K:br)(aa h a t:Nat):Bool:=decide ((cn K t).1.to=aa)&& ((decide (a=0)&&w4 K h t)|| (decide (a=1)&& (cn K t).1.mu&&zG K h t))
def aug(T:aw)(O:bI)(K:br)(n:gR K)(aa h a t:Nat)(y:t<4294967296)(o p r q:Nat)(H:List ae)(i:H[o]?=some (.box (gC T O K) none))(v:H[p]?=some (.box [.int .i64 aa] none))
  (A:H[r]?=some (.box [.int .u8 a] none)) (z:H[q]?=some (.box [.int .u32 h] none)) (lo:oN):
  D X (.fn (.func 345) [] [.ptr o 0,.ptr p 0,.ptr r 0,.ptr q 0]) [.int .u32 t] ⟨H,lo⟩=some (.ret (.bool (LK K aa h a t)) ⟨H,lo⟩):=by
 refine eY wS λN j=>?_
 have g1: ∀L,(H++L)[o]?=_:=λL=>bc i
 have g2: ∀L,(H++L)[p]?=_:=λL=>bc v
 have l: ∀L,(H++L)[r]?=_:=λL=>bc A
 have B: ∀L,(H++L)[q]?=_:=λL=>bc z
 have b:=λH lo=>up dy (Ck K n t y H lo)
 have m:=ahO K n h t y;have u:=ahP K n h t y;have s:=n.get t;have c:LK K aa h a t=(decide ((cn K t).1.to=aa)&& ((decide (a=0)&&w4 K h t)|| (decide (a=1)&& (cn K t).1.mu&&zG K h t))):=rfl;generalize I: (cn K t).1=x at*;have w:=nA x;rw[w]at b;have G:=s.to;by_cases F:x.to=aa
 ·have d:decide ((x.to:Int)=aa)=true:=ad0 (by omega);rw[ad0 F,al1]at c;by_cases E:a=0
  ·have f:decide ((a:Int)=0)=true:=ad0 (by omega);have e:decide ((a:Int)=1)=false:=adZ (by omega);rw[ad0 E,adZ (by omega: ¬a=1),al1,ahj,ahj,Bool.or_false]at c;cases k:w4 K h t
   ·rw[k]at m c;simp(disch:=omega) only[F1,go_sem,simprocAttr,wS,j,i,g1,g2,l,B,↓qZ,b,d,f,e,m,c]
   ·rw[k]at m c;simp(disch:=omega) only[F1,go_sem,simprocAttr,wS,j,i,g1,g2,l,B,↓qZ,b,d,f,m,c]
  ·have f: ¬(a:Int)=0:=by omega
   rw[adZ E,ahj,aqw]at c;by_cases C:a=1
   ·have e:decide ((a:Int)=1)=true:=ad0 (by omega);rw[ad0 C,al1]at c;cases g:x.mu
    ·rw[g,ahj]at c;simp(disch:=omega) only[F1,go_sem,simprocAttr,wS,j,i,g2,l,↓qZ,b,d,f,e,g,c]
    ·rw[g,al1]at c;simp(disch:=omega) only[F1,go_sem,simprocAttr,wS,j,i,g1,g2,l,B,↓qZ,b,d,f,e,g,u,c]
   ·have e: ¬(a:Int)=1:=by omega
    rw[adZ C,ahj,ahj]at c;simp(disch:=omega) only[F1,go_sem,simprocAttr,wS,j,i,g2,l,↓qZ,b,d,f,e,c]
 ·have d: ¬(x.to:Int)=aa:=by omega
  rw[adZ F,ahj]at c;simp(disch:=omega) only[F1,go_sem,simprocAttr,wS,j,i,g2,↓qZ,b,d,c]
def auh(T:aw)(O:bI)(K:br)(f:gR K)(aa h a:Nat)(H:List ae)(lo:oN):
  D X (.fn (.func 328) [] []) [.agg (gC T O K),.int .i64 aa,.int .u32 h,.int .u8 a] ⟨H,lo⟩=some (.ret (.bool (FM K aa h a)) ⟨H,lo⟩):=by
 refine aH R5 λN e=>?_
 obtain⟨d,b⟩: ∃d,d=H++[ae.box (gC T O K) none,.box [.int .i64 aa] none,.box [.int .u32 h] none,.box [.int .u8 a] none]:=⟨_,rfl⟩;have k:d[N]?=some (.box (gC T O K) none):=by rw[b,dv e];rfl
 have g1:d[N+1]?=some (.box [.int .i64 aa] none):=by rw[b,bA e];rfl
 have g2:d[N+2]?=some (.box [.int .u32 h] none):=by rw[b,bA e];rfl
 have j:d[N+3]?=some (.box [.int .u8 a] none):=by rw[b,bA e];rfl
 obtain⟨w,e1,l,e3⟩:=TF K f h d none;have c: (ni K h).length<2^40:=by
  have:=kr K.b;have: (ni K h).length<=_:=ag7 _ _;omega
 have g:=agY dy w (.fn (.func 345) [] [.ptr N 0,.ptr (N+1) 0,.ptr (N+3) 0,.ptr (N+2) 0]) (ni K h) d (l _) c (LK K aa h a) none
  (λt i=>aug T O K f aa h a t (fC ((fO f.b).1 (afR.1 i).1)) N (N+1) (N+3) (N+2) d k g1 j g2 none)
 have m:FM K aa h a=(ni K h).any (LK K aa h a):=rfl;rw[b]at e1 g;simp only[F1,go_sem,simprocAttr,R5,e,↓qZ,e1,g,m]
def ah4{x:Nat}(a:x<256)(b:k<8):decide ((x/2^k) % 2=1)=x.testBit k:=by grind
def aui(T:aw)(M:bS T)(v:bY T)(O:bI)(P:fR O)(K:br)(Q:gR K)(aa:Nat)(S:aa<256)(h:Nat)(F:h<4294967296)(c:Nat)(B:c<=2)(H:List ae)(lo:oN):
  D X (.fn (.func 302) [] []) [.agg (gC T O K),.int .i64 aa,.int .u32 h,.int .u8 c] ⟨H,lo⟩=some (.ret (.int .i64 (w5 T O K aa h c:Nat)) ⟨H,lo⟩):=by
 refine aH nc λN n=>?_
 have g:=λH lo=>up dy (eH T.b h F H lo)
 have G: ∀h,au T.b h=T.au h:=λh=>rfl
 simp only[G]at g;have k:=λH lo=>up dy (z6 O P T M v h F H lo)
 have m:=auf T M v O K Q h F c B;have hle:=auh T O K Q aa h c;have s:=P.of T h;have a:Den.part true 96 (gC T O K) 0=some (.agg (bX T.b)):=by
  have e:gC T O K=bX T.b++(wV T.r++(cN O++b9 K)):=by simp[gC,aO]
  rw[e];exact wX (ov _) (by omega)
 have d:Den.part true 784 (gC T O K) 0=some (.agg (gC T O K)):=zt (lb _ _ _);have f:w5 T O K aa h c=if T.au h=false then 4
  else if(bt O T h).kind=3 then(if c=0/\aa<8/\ (bt O T h).hold.testBit aa=true then 0 else 5)
  else if(bt O T h).kind=1 then(if((bt O T h).aa=aa/\FL T K h c=true)\/FM K aa h c=true then 0 else 5)
  else 5:=rfl
 generalize V:bt O T h=x at*;have C:=Cm x;rw[C]at k;cases z:T.au h with
 |false=>
  rw[adV z]at f;rw[z]at g;simp only[F1,go_sem,simprocAttr,nc,n,↓a,g,f]
 |true=>
  rw[ada (by rw[z];simp)]at f;rw[z]at g;by_cases J:x.kind=3
  ·have j:decide ((x.kind:Int)=3)=true:=ad0 (by omega);rw[adV J]at f;by_cases w:c=0
   ·have i: (c:Int)=0:=by omega
    have c0: (aa:Int)>=0:=by omega
    by_cases I:aa<8
    ·have r: (aa:Int)<8:=by omega
     have t:kN .shr (.int .u8 (x.hold:Nat)) (.int .i64 (aa:Nat))=some (.int .u8 ((x.hold/2^aa:Nat):Int)):=by
      rw[DE,adV (by omega)];have U:IntKind.u8.bits=8:=rfl;rw[U,aAM,aqk (by omega)]
      congr 2
      rw[Int.fdiv_eq_ediv_of_nonneg _ (Int.le_of_lt (Int.pow_pos (by decide)))];simp
     have E:x.hold/2^aa<256:=Nat.lt_of_le_of_lt (Nat.div_le_self _ _) s.hold;have hand:dt .and (.int .u8 ((x.hold/2^aa:Nat):Int)) (.int .u8 1)=some (.int .u8 ((x.hold/2^aa % 2:Nat):Int)):=by
      have:=LF (b:=1) E (by omega);have e:x.hold/2^aa&&&1=x.hold/2^aa % 2:=Nat.and_one_is_mod _;rw[e]at this;exact this
     have p:=ah4 s.hold I;cases A:x.hold.testBit aa
     ·rw[A,ada (by simp)]at f;rw[A]at p;have o: ¬((x.hold/2^aa % 2:Nat):Int)=1:=by
       have:=of_decide_eq_false p;omega
      simp only[F1,go_sem,simprocAttr,nc,n,↓a,↓pQ,↓pP,g,k,j,i,c0,r,t,hand,o,f]
     ·rw[A,adV ⟨w,I,rfl⟩]at f;rw[A]at p;have o:decide (((x.hold/2^aa % 2:Nat):Int)=1)=true:=by
       have:=aqQ p;exact ad0 (by omega)
      simp only[F1,go_sem,simprocAttr,nc,n,↓a,↓pQ,↓pP,g,k,j,i,c0,r,t,hand,o,f]
    ·have r: ¬(aa:Int)<8:=by omega
     rw[ada (λq=>I q.2.1)]at f;simp only[F1,go_sem,simprocAttr,nc,n,↓a,↓pQ,↓pP,g,k,j,i,c0,r,f]
   ·have i: ¬(c:Int)=0:=by omega
    rw[ada (λq=>w q.1)]at f;simp only[F1,go_sem,simprocAttr,nc,n,↓a,↓pQ,↓pP,g,k,j,i,f]
  ·have j: ¬(x.kind:Int)=3:=by omega
   rw[ada J]at f;by_cases L:x.kind=1
   ·have l:decide ((x.kind:Int)=1)=true:=ad0 (by omega);rw[adV L]at f;have R:=s.aa;cases y:FM K aa h c<;>by_cases w:x.aa=aa
    ·have i:decide ((x.aa:Int)=aa)=true:=ad0 (by omega);rw[y]at hle f;cases u:FL T K h c
     ·rw[u]at m f;rw[ada (by simp)]at f;simp(disch:=omega) only[F1,go_sem,simprocAttr,nc,n,↓a,↓pQ,↓pP,↓d,g,k,j,l,i,m,hle,f]
     ·rw[u]at m f;rw[adV (.inl ⟨w,rfl⟩)]at f;simp(disch:=omega) only[F1,go_sem,simprocAttr,nc,n,↓a,↓pQ,↓pP,↓d,g,k,j,l,i,m,f]
    ·have i: ¬(x.aa:Int)=aa:=by omega
     rw[y]at hle f;rw[ada (by simp[w])]at f;simp(disch:=omega) only[F1,go_sem,simprocAttr,nc,n,↓a,↓pQ,↓pP,↓d,g,k,j,l,i,hle,f]
    ·have i:decide ((x.aa:Int)=aa)=true:=ad0 (by omega);rw[y]at hle f;rw[adV (.inr rfl)]at f;cases u:FL T K h c
     ·rw[u]at m;simp(disch:=omega) only[F1,go_sem,simprocAttr,nc,n,↓a,↓pQ,↓pP,↓d,g,k,j,l,i,m,hle,f]
     ·rw[u]at m;simp(disch:=omega) only[F1,go_sem,simprocAttr,nc,n,↓a,↓pQ,↓pP,↓d,g,k,j,l,i,m,f]
    ·have i: ¬(x.aa:Int)=aa:=by omega
     rw[y]at hle f;rw[adV (.inr rfl)]at f;simp(disch:=omega) only[F1,go_sem,simprocAttr,nc,n,↓a,↓pQ,↓pP,↓d,g,k,j,l,i,hle,f]
   ·have l: ¬(x.kind:Int)=1:=by omega
    rw[ada L]at f;simp only[F1,go_sem,simprocAttr,nc,n,↓a,↓pQ,↓pP,g,k,j,l,f]
structure ue(m:kp):Prop where
 fr:m.fr<8
 word:m.word<18446744073709551616
 aR:m.aR<4294967296
structure iZ(b:cS):Prop where
 fr:b.fr<4
 n:b.n<=4
 ring: ∀i,ue (b.ring i)
def TJ:ue zH:=⟨by trivial,by trivial,by trivial⟩
def iZ.gone:iZ zI:=⟨by trivial,by trivial,λ_=>TJ⟩
def iZ.close(h:iZ b):iZ (vo b).1:=by
 unfold vo;split
 ·exact h
 ·exact⟨h.fr,h.n,h.ring⟩
def iZ.put(h:iZ b){m:kp}(a:ue m):iZ (mJ b m).1:=by
 unfold mJ;split
 ·exact h
 ·split
  ·exact h
  ·refine⟨h.fr,by have:=h.n;grind,λi=>?_⟩;show ue (av b.ring (ma b b.n) m i);by_cases e:i=ma b b.n
   ·rw[e,ch];exact a
   ·rw[cF e];exact h.ring i
def iZ.take(h:iZ b):iZ (lk b).1/\ue (lk b).2.1:=by
 unfold lk;split
 ·exact⟨h,TJ⟩
 ·exact⟨⟨aoe _ (by omega),by have:=h.n;grind,h.ring⟩,h.ring _⟩
def ah5(b:cS)(i:Nat):ma b i<4:=aoe _ (by omega)
def zB:lA:=[.int .u8 0,.int .u64 0,.int .u32 0,.bool false,.int .u8 0,.int .u64 0,.int .u32 0,.bool false,.int .u8 0,.int .u64 0,.int .u32 0,.bool false,.int .u8 0,.int .u64 0,.int .u32 0,.bool false,.int .i64 0,.int .i64 0,.bool false]
theorem ah6:List.take 19 (cA b)=cA b:=by rfl
def MB:=gG @ah6<|gG @zx @aga
theorem oG(m:kp):eF m=[.int .u8 m.fr,.int .u64 m.word,.int .u32 m.aR,.bool m.share]:=rfl
def TL(b:cS)(d:b.fr<4)(i:Nat)(c:i<1000)(H:List ae)(lo:oN):D X0 (.fn (.func 202) [] []) [.agg (cA b),.int .i64 i] ⟨H,lo⟩=some (.ret (.int .i64 (ma b i:Nat)) ⟨H,lo⟩):=by
 refine aH Q8 λN a=>?_
 have e: ((b.fr:Int)+i).tmod 4=(ma b i:Nat):=by rfl
 simp(disch:=omega) only[F1,go_sem,simprocAttr,Q8,a,↓agr,e]
def TM(b:cS)(l:iZ b)(m:kp)(H:List ae)(lo:oN):
  D X0 (.fn (.func 296) [] []) [.agg (cA b),.agg (eF m)] ⟨H,lo⟩=some (.ret (.ay [.agg (cA (mJ b m).1),.int .i64 (mJ b m).2]) ⟨H,lo⟩):=by
 refine aH Fx λN j=>?_
 have e:mJ b m=if b.closed then(b,11)else if b.n=4 then(b,7)else({b with ring:=av b.ring (ma b b.n) m,n:=b.n+1},0):=rfl
 have hm:=oG m;cases f:b.closed
 ·rw[f,ada (by simp)]at e;by_cases k:b.n=4
  ·rw[adV k]at e;have d:decide ((b.n:Int)=4)=true:=ad0 (by omega);simp only[F1,go_sem,simprocAttr,Fx,j,hm,↓zy,f,↓B3,d,MB,↓qY,e]
  ·rw[ada k]at e;have d: ¬(b.n:Int)=4:=by omega
   have p:=l.n;have i:=TL b l.fr b.n (by omega);have h:=ah5 b b.n;have a:=arL (b:=b) (x:=m) h;rw[hm]at a;have g: ∀c,aK (cA ⟨av b.ring (ma b b.n) m,b.fr,b.n,c⟩) 17 [.int .i64 ((b.n:Int)+1)]=cA ⟨av b.ring (ma b b.n) m,b.fr,b.n+1,c⟩:=λc=>ags (x:=b.n+1)
   have o: (N+1 !=N)=true:=by simp
   simp(disch:=omega) only[F1,go_sem,simprocAttr,Fx,j,hm,↓zy,f,↓B3,d,MB,↓qY,i,a,g,e];exact⟨by omega,by omega⟩
 ·rw[f,adV rfl]at e;simp only[F1,go_sem,simprocAttr,Fx,j,hm,↓zy,f,MB,↓qY,e]
def bb(x:aB)(bk:AV):lA:=bo x.s++([.int .i64 x.aa]++(bp x.c++(aA x.run++[.int .i64 x.mb,.bool x.asks,bk])))
def LM(x:aB)(bk:AV): (bb x bk).length=964:=by simp only[bb,aem,ee];rfl
section
variable{x:aB}{bk:AV}
theorem vD{ag:Bool}{m o:Nat}(ho:o+m<=952)(a:0<m):Den.part ag m (bb x bk) o=Den.part ag m (bo x.s) o:=by
 unfold bb;exact l7 (by rw[ee];exact ho) a
def oH{ag:Bool}{m o:Nat}(ho:952<=o):Den.part ag m (bb x bk) o=Den.part ag m ([.int .i64 x.aa]++(bp x.c++(aA x.run++[.int .i64 x.mb,.bool x.asks,bk]))) (o-952):=by
 unfold bb;rw[jg (by rw[ee];exact ho),ee]
def ah7:Den.part true 480 (bb x bk) 0=some (.agg (aO x.s.T)):=by grind [vD,wY]
theorem TN:Den.part true 96 (bb x bk) 0=some (.agg (bX x.s.T.b)):=by rfl
def ah8:Den.part true 128 (bb x bk) 480=some (.agg (cN x.s.O)):=by grind [vD,B4]
def ah9:Den.part true 176 (bb x bk) 608=some (.agg (b9 x.s.K)):=by grind [vD,K2]
def aia:Den.part true 784 (bb x bk) 0=some (.agg (gC x.s.T x.s.O x.s.K)):=by grind [vD,SJ]
def aib:Den.part true 952 (bb x bk) 0=some (.agg (bo x.s)):=by grind [vD,SM]
def LN{i:Nat}(h:i<8):Den.part true 19 (bb x bk) (784+i*19)=some (.agg (cA (x.s.cw i))):=by grind [vD,arP]
def TO{i:Nat}(h:i<8):Den.part false 1 (bb x bk) (936+i)=some (.bool (x.s.alive i)):=by grind [vD,SN]
def auj{i:Nat}(h:i<8):Den.part false 1 (bb x bk) (944+i)=some (.bool (x.s.born i)):=by grind [vD,arQ]
def aic:Den.part false 1 (bb x bk) 952=some (.int .i64 x.aa):=by rw[oH (by omega)];rfl
def aid:Den.part false 1 (bb x bk) 953=some (.int .u8 x.c.op):=by rw[oH (by omega)];rfl
def aie:Den.part false 1 (bb x bk) 954=some (.int .u32 x.c.r):=by rw[oH (by omega)];rfl
def aif:Den.part false 1 (bb x bk) 955=some (.int .u32 x.c.s):=by rw[oH (by omega)];rfl
def aih:Den.part false 1 (bb x bk) 956=some (.int .u32 x.c.a):=by rw[oH (by omega)];rfl
def aii:Den.part false 1 (bb x bk) 957=some (.int .u32 x.c.b):=by rw[oH (by omega)];rfl
def aij:Den.part false 1 (bb x bk) 958=some (.int .u64 x.c.v):=by rw[oH (by omega)];rfl
def aik:Den.part true 6 (bb x bk) 953=some (.agg (bp x.c)):=by rw[oH (by omega)];rfl
def ail:Den.part true 2 (bb x bk) 959=some (.agg (aA x.run)):=by rw[oH (by omega)];rfl
def aim:Den.part false 1 (bb x bk) 960=some (.int .i64 x.run.2):=by rw[oH (by omega)];rfl
def ain:Den.part false 1 (bb x bk) 961=some (.int .i64 x.mb):=by rw[oH (by omega)];rfl
def aio:Den.part false 1 (bb x bk) 962=some (.bool x.asks):=by rw[oH (by omega)];rfl
def aip:Den.part false 1 (bb x bk) 963=some bk:=by rw[oH (by omega)];rfl
def CL:=gG @ah7<|gG @TN<|gG @ah8<|gG @ah9<|gG @aia<|gG @aib<|gG @aic<|gG @aid<|gG @aie<|gG @aif<|gG @aih<|gG @aii<|gG @aij<|gG @aik<|gG @ail<|gG @aim<|gG @ain<|gG @aio @aip
def Cn{s:bu}{o:Nat}{vs:lA}(ho:o+vs.length<=952)(h:aK (bo x.s) o vs=bo s):aK (bb x bk) o vs=bb {x with s:=s} bk:=by
 unfold bb;rw[nd (by rw[ee];exact ho),h]
def TP:aK (bb x bk) 0 (aO t)=bb (x.t t) bk:=Cn (by rw[iv];omega) arR
def aiq{w:bI}:aK (bb x bk) 480 (cN w)=bb (x.o w) bk:=Cn (by rw[sM];omega) arS
def air{k:br}:aK (bb x bk) 608 (b9 k)=bb (x.k k) bk:=Cn (by rw[zw];omega) arT
def LO{i:Nat}{b:cS}(h:i<8):aK (bb x bk) (784+i*19) (cA b)=bb (x.bx i b) bk:=Cn (by rw[zx];omega) (arU h)
def ais{i:Nat}{v:Bool}(h:i<8):aK (bb x bk) (936+i) [.bool v]=bb {x with s:={x.s with alive:=av x.s.alive i v}} bk:=Cn (by grind) (agv h)
def auk{i:Nat}{v:Bool}(h:i<8):aK (bb x bk) (944+i) [.bool v]=bb {x with s:={x.s with born:=av x.s.born i v}} bk:=Cn (by grind) (agw h)
def Co{o:Nat}{vs:lA}(ho:952<=o):aK (bb x bk) o vs=bo x.s++aK ([.int .i64 x.aa]++(bp x.c++(aA x.run++[.int .i64 x.mb,.bool x.asks,bk]))) (o-952) vs:=by
 unfold bb;rw[fo (by rw[ee];exact ho),ee]
theorem ait:aK (bb x bk) 961 [.int .i64 n]=bb {x with mb:=n} bk:=by rw[Co (by omega)];rfl
def aiu:aK (bb x bk) 963 [v]=bb x v:=by rw[Co (by omega)];rfl
def CS:=gG @TP<|gG @aiq<|gG @air<|gG @ait<|gG @aiu @LM
end
abbrev jo(e:Nat):AV:=.dh uQ (.int .i64 (e:Nat))
theorem aiv{t:TypeId}:XL (.dh t v)=some (.dh t v):=rfl
def aiw{X:Ctx}{a:List RV}{R:aX->Prop}{e:Env}{E:AS}:dO X n lo a R (.panic v) ⟨e,[]⟩ E=R (.panic (finish n lo v E).1 (finish n lo v E).2):=by
 simp[dO,dM]
def EP:=gG @aiv @aiw
def F3(e:Int)(H:List ae)(lo:oN):D X0 (.fn (.func 161) [] []) [.bool true,.int .i64 e] ⟨H,lo⟩=some (.ret (.ay []) ⟨H,lo⟩):=by
 refine aH Fc λN a=>?_
 simp(disch:=omega) only[F1,go_sem,simprocAttr,Fc]
def z7(e:Nat)(H:List ae)(lo:oN):D X0 (.fn (.func 161) [] []) [.bool false,.int .i64 e] ⟨H,lo⟩=some (.panic (jo e) ⟨H,lo⟩):=by
 refine aH Fc λN a=>?_
 simp(disch:=omega) only[F1,go_sem,simprocAttr,Fc,EP]
def aul(H:List ae)(lo:oN):D X0 (.fn (.func 274) [] []) [.int .i64 0] ⟨H,lo⟩=some (.ret (.ay []) ⟨H,lo⟩):=by
 refine aH Fu λN a=>?_
 simp(disch:=omega) only[F1,go_sem,simprocAttr,Fu,F3]
def aum(e:Nat)(b:e≠0)(H:List ae)(lo:oN):D X0 (.fn (.func 274) [] []) [.int .i64 e] ⟨H,lo⟩=some (.panic (jo e) ⟨H,lo⟩):=by
 refine aH Fu λN c=>?_
 have a: ¬(e:Int)=0:=by omega
 simp(disch:=omega) only[F1,go_sem,simprocAttr,Fu,z7,a,EP]
def z8{X:Ctx}{e:Env}{E:AS}{R:aX->Prop}{b c m:Nat}{ag d:Bool}:dO X n lo [.cell a ag m,.cell b d k,.t c] R .ret ⟨e,[]⟩ E=okV (ck X E ag m (e a)) (λv E=>okV (ck X E d k (e b)) (λu E=>nX n lo R (.ay [v,u,e c]) E) E) E:=by
 simp only[yy,yA,fI,ka,oU];cases h:ck X E ag m (e a)with
 |none=>simp[okV,h]
 |some v=>
  cases f:ck X E d k (e b)with
  |none=>simp[okV,h,f]
  |some u=>simp[okV,nX,h,f]
def aun(b:cS)(i:iZ b)(H:List ae)(lo:oN):
  D X0 (.fn (.func 297) [] []) [.agg (cA b)] ⟨H,lo⟩=some (.ret (.ay [.agg (cA (lk b).1),.agg (eF (lk b).2.1),.int .i64 (lk b).2.2]) ⟨H,lo⟩):=by
 refine aH Fy λN k=>?_
 have d:lk b=if b.n=0 then(b,zH,if b.closed then 11 else 10)else({b with fr:=ma b 1,n:=b.n-1},b.ring b.fr,0):=rfl
 have e:eF zH=[.int .u8 0,.int .u64 0,.int .u32 0,.bool false]:=rfl;by_cases l:b.n=0
 ·rw[adV l]at d;have a:decide ((b.n:Int)=0)=true:=ad0 (by omega);cases g:b.closed
  ·rw[g,ada (by simp)]at d;simp only[F1,go_sem,simprocAttr,Fy,k,↓zy,g,↓B3,a,MB,↓qY,d,e,z8]
  ·rw[g,adV rfl]at d;simp only[F1,go_sem,simprocAttr,Fy,k,↓zy,g,↓B3,a,MB,↓qY,d,e,z8]
 ·rw[ada l]at d;have a: ¬(b.n:Int)=0:=by omega
  have m:=i.n;have j: ∀H lo,D X0 (.fn (.func 202) [] []) [.agg (cA b),.int .i64 1] ⟨H,lo⟩=_:=TL b i.fr 1 (by omega);have h:=i.fr;have f: (b.fr:Int)<4:=by omega
  have hm:=oG (b.ring b.fr);have c:=agq (b:=b) h;have o: ((b.n:Int)-1)=((b.n-1:Nat):Int):=by omega
  rw[hm]at c;simp(disch:=omega) only[F1,go_sem,simprocAttr,Fy,k,↓B3,↓agr,a,MB,↓qY,j,↓c,f,o,arM,ags,d,hm,z8];simp
def auo(b:cS)(H:List ae)(lo:oN):
  D X0 (.fn (.func 298) [] []) [.agg (cA b)] ⟨H,lo⟩=some (.ret (.ay [.agg (cA (vo b).1),.int .i64 (vo b).2]) ⟨H,lo⟩):=by
 refine aH KF λN c=>?_
 have d:vo b=if b.closed then(b,11)else({b with closed:=true},0):=rfl
 cases a:b.closed
 ·simp only[F1,go_sem,simprocAttr,KF,c,↓zy,a,MB,↓qY,arN,d]
 ·simp only[F1,go_sem,simprocAttr,KF,c,↓zy,a,MB,↓qY,d]
def aup(b:cS)(N:Nat)(H:List ae)(c:H.length=N)(lo:oN):D X0 (.fn (.func 181) [] []) [.agg (cA b)] ⟨H,lo⟩=some (.ret (.fn (.func 201) [] [.ptr N 0]) ⟨H++[.box (cA b) none],lo⟩):=by
 refine aH QU λM a=>?_
 obtain rfl:M=N:=by omega
 simp only[go_sem,simprocAttr,QU,a];rw[zU (by omega)]
def xw(b:cS):List lA:=(gh b).map λm=>[.agg (eF m)]
def TQ(b:cS): (xw b).length=b.n:=by simp[xw,gh]
def aix{j:Nat}(h:j<b.n): (xw b)[j]?=some [.agg (eF (b.ring (ma b j)))]:=by
 unfold xw gh
 grind
def auq(b:cS)(K:iZ b)(a:Nat):uN X0 (.fn (.func 201) [] [.ptr a 0]) a [.box (cA b) none] (xw b):=by
 intro S V y I J base L g z W s hP h0 wu f hG lo;have p: ∀i,V.cE i->i<base:=λi hi=>(g i hi).1
 suffices h: ∃w,D X0 (.fn (.func 201) [] [.ptr a 0]) [y] ⟨W,lo⟩=some w/\
   (λw=> ∃s' d ak,w=aX.ret (.ay []) ⟨d,ak⟩/\V.P s' d/\ (I (xw b).length s'\/J s')/\base<=d.length/\
     (∀i,i<base-> ¬V.cE i-> ¬(a<=i/\i<a+[ae.box (cA b) none].length)->d[i]?=W[i]?)/\kR V.c base lo ak none (V.row s')) w by
  obtain⟨w,h1,s',d,ak,rfl,X,U,T,R,Q⟩:=h;exact⟨s',d,ak,h1,X,U,T,R,Q⟩
 refine s8 Q7 rfl rfl rfl λN hN=>?_
 obtain rfl:N=base:=by omega
 have C:W[a]?=some (.box (cA b) none):=hG 0 (by simp);have ha:=dU C;have A: ¬V.cE a:=λq=>(g a q).2 ⟨by omega,by simp⟩
 have NA:=K.n;simp only[go_sem,simprocAttr,Q7,C,↓B3];refine gN b.n (λk e d ak=> ∃s',I k s'/\kf V N W (λi=>a<=i/\i<a+[ae.box (cA b) none].length) s' d ak/\d[a]?=some (.box (cA b) none)/\e 0=y/\e 1= .ptr a 0/\e 5= .int .i64 b.n/\e 6= .int .i64 k) 0 (by omega) ?_ ?_
 ·simp only[go_sem,simprocAttr];exact⟨s,h0,⟨hP,by omega,λ_ _ _ _=>rfl,.inl ⟨rfl,f⟩,λr e=>by rw[f]at e;cases e⟩,C⟩
 rintro k hk e W1 x ⟨s1,M,o,w0,P,e1,O,e6⟩ n hn;simp only[bQ,go_sem,simprocAttr,afb,P,e1,O,e6];refine⟨λh=>?_,λh=>?_⟩
 ·have t:k<b.n:=by omega
  have hx:=aix t;have u:=TL b K.fr k (by omega);have B:=ah5 b k;have l: (ma b k:Int)<4:=by omega
  have j:=agq (b:=b) B;obtain⟨c,s2,W2,ny,H,p2,G,Z,Y,F⟩:=z k _ s1 hx M W1 o.P o.len x;have v:=o.step p2 G Z Y;have Ll:N<=n:=by have:=o.len;omega
  have v0:W2[a]?=some (.box (cA b) none):=by rw[G.2 a (by omega) A (λq=>by have:=o.row _ q;omega)];exact w0
  cases c
  ·obtain⟨E,m,f1,f2,f3,f4,f5⟩:=v.fin L p (dL:=lo);simp only[go_sem,simprocAttr,e1,w0,MB,u,l,↓j,H,f1];exact⟨s2,E,m,rfl,f2,.inr F,f3,f4,f5⟩
  ·simp(disch:=omega) only[go_sem,simprocAttr,P,e1,O,e6,w0,MB,u,l,↓j,H];exact⟨t,s2,F,v,v0⟩
 ·obtain⟨E,m,f1,f2,f3,f4,f5⟩:=o.fin L p (dL:=lo);simp only[go_sem,simprocAttr,f1];exact⟨s1,E,m,rfl,f2,.inl (by rw[TQ,show b.n=k by omega];exact M),f3,f4,f5⟩
def aiy{N id aj:Nat}{H:List ae}{ty:TypeId}{af:List lA}(e:N<=id)(c:H[id]?=some (.row aj sz ty af))(d:n=af.length)(a:bZ af<=N):Den.freeze ⟨H,lo⟩ N (k+4) (.ref id aj sz 0 n true)=some (.sl af true):=by
 subst d;have b: ¬(AV.ref id aj sz 0 af.length true).refs<=N:=by simp only[AV.refs];omega
 rw[Den.freeze,ada b];simp only[c];rw[adV ⟨trivial,trivial,by omega⟩];simp only[amu,afH];rw[OU af a]
def aur(H:List ae)(lo:oN):D X0 (.fn (.func 182) [] []) [.aq] ⟨H,lo⟩=some (.ret .aq ⟨H,lo⟩):=by
 refine aH Fi λN b=>?_
 have a:gu 4 .aq none (some (.int .i64 0)) (some (.int .i64 0))=some .aq:=by rfl
 simp(disch:=omega) only[F1,go_sem,simprocAttr,Fi,a]
def aus(id aj n:Nat)(H:List ae)(c:id<H.length)(lo:oN):D X0 (.fn (.func 182) [] []) [.ref id aj 4 0 n false] ⟨H,lo⟩=some (.ret (.ref id aj 4 0 n true) ⟨H,lo⟩):=by
 refine aH Fi λN d=>?_
 have b:gu 4 (.ref id aj 4 0 n false) none (some (.int .i64 (n:Nat))) (some (.int .i64 (n:Nat)))=some (.ref id aj 4 0 n true):=by simp[gu,gr,lH,lI]
 have a: ∀E,fW E .sl (.ref id aj 4 0 n false)=some (.int .i64 n):=λE=>rfl
 simp only[go_sem,simprocAttr,Fi,b,a];rw[iF (.inl rfl) (by simp only[AV.refs];omega),ael (by omega)]
structure MSt where
 l:List kp
 row:oN
def mV(H:List ae)(N:Nat):YV MSt:=⟨λs W=>iP N H W/\SV (N+1) 4 DO W s.row (s.l.map eF),MSt.row,λi=>i<N+2,N+1⟩
def aut{H:List ae}{N:Nat}: (mV H N).Ok where
 st:=λs W f ⟨e,c⟩ a=>by
  refine⟨λi b=>?_,c.st (a _ (.inl (aqx _))) λi b=>a i (.inr b)⟩;have:i<N+2:=by omega
  rw[a i (.inl this)];exact e i b
 lt:=λs W r ⟨_,c⟩ d=>c.row d
def auu(b:cS)(Z:iZ b)(H:List ae)(lo:oN):
  ∃w,D X0 (.fn (.func 162) [] []) [.agg (cA b)] ⟨H,lo⟩=some (.ret w ⟨H,lo⟩)/\Rv w 4 ((gh b).map eF)/\w.refs=0:=by
 suffices hs: ∃A,D X0 (.fn (.func 162) [] []) [.agg (cA b)] ⟨H,lo⟩=some A/\ (λA=> ∃w,A=aX.ret w ⟨H,lo⟩/\Rv w 4 ((gh b).map eF)/\w.refs=0) A by
  obtain⟨A,h1,w,rfl,h2⟩:=hs;exact⟨w,h1,h2⟩
 refine cz QM λN l=>?_
 have he:=aup b (N+2) (H++[.box (cA b) none,.box [.aq] none]) (by simp[l]) none;have NA:=Z.n;simp only[go_sem,simprocAttr,QM,l,he,↓qY];obtain⟨W0,c⟩: ∃W0,W0=H++[ae.box (cA b) none,.box [.aq] none,.box (cA b) none]:=⟨_,rfl⟩;rw[<-c];have z:W0.length=N+3:=by rw[c];simp[l]
 generalize o: ((((((di _).set 1 _).set 2 _).set 3 _).set 5 _).set 6 _)=e;have C:e 3= .ptr (N+1) 0:=by rw[<-o];rfl
 have X: (ao.t 6).get e= .fn (.func 201) [] [.ptr (N+2) 0]:=by rw[<-o];rfl
 clear o;refine O7 (mV H N) aut (xw b) (N+2) [.box (cA b) none] W0 ⟨[],none⟩ (by rw[X];rfl) (by rw[X];exact auq b Z (N+2)) (λi a=>?_) (by simp[z]) (λi a=>?_) ⟨?_,?_⟩ rfl
  (λj s=>s.l=(gh b).take j) (λ_ _=>False) rfl (λ_ _ h=>h.elim) ?_ ?_ (λ_ _ _ _ h=>h.elim)
 ·have:i=0:=by simpa using a
  subst this;rw[c,afM,bA l];rfl
 ·have:i<N+2:=a;exact⟨by omega,by omega⟩
 ·rw[c];exact iP.app l
 ·exact .inl ⟨rfl,rfl,by rw[c,bA l];rfl⟩
 ·intro j y s K T;have Y:j<b.n:=by
   have:=(ac9.1 K).1;rwa[TQ]at this
  have d:s.l=(gh b).take j:=T;have v: (gh b)[j]?=some (b.ring (ma b j)):=by unfold gh;rw[afW,ap6 Y];rfl
  rw[aix Y]at K;cases K;generalize b.ring (ma b j)=m at*;refine⟨rfl,λW hP wu=>?_⟩;obtain⟨n,hn⟩: ∃n,W.length=n:=⟨_,rfl⟩;have hm:=oG m;simp only[go_sem,simprocAttr,ie,hn,hm];refine⟨[.box (eF m) none],rfl,λB Tc S=>?_⟩;obtain⟨E,p⟩:=S;have r:B.length=n:=by omega
  have f: ∀i,s.row=some i->N+1<i/\i<n:=by
   intro i a;rcases p with⟨q,_⟩| ⟨id,aj,q,_,I,C,q4⟩
   ·rw[q]at a;cases a
   ·rw[q]at a;cases a;exact⟨I,by have:=dU q4;omega⟩
  have L:SV (N+1) 4 DO (B++[.box (eF m) none]) s.row (s.l.map eF):=p.st (by rw[ac7 (by omega)]) λi a=>by
   rw[ac7 (by have:=f i a;omega)]
  have v9:s.l.length<=4:=by rw[d,afT];have: (gh b).length=b.n:=by simp[gh]
                            omega
  obtain⟨vv,v',W3,U,V,a1,a2,a3,a4,a5,a6,a7⟩:=L.append (bytes:=24) (el:=eF m) (by simp;omega) (by omega) rfl rfl (by rw[aer];unfold room;omega) none;have F: (B++[ae.box (eF m) none]).length=n+1:=by simp[r]
  have t: (B++[ae.box (eF m) none])[n]?=some (.box (eF m) none):=by rw[<-r];simp
  rw[hm]at a1 a2 t⊢;simp only[go_sem,simprocAttr,ae4,C,a1,a2,a3,t,DM];refine⟨⟨s.l++[m],V⟩,⟨λi a=>?_,?_⟩,⟨by show B.length<=U.length;omega,λi a hp hr=>?_⟩,.inr ⟨N+1,aen _,by omega,rfl,?_⟩,?_⟩
  ·show U[i]?=_;rw[a6 i (by omega) (by omega) (λq=>by have:=f i q;omega),ac7 (by omega)];exact E i a
  ·show SV (N+1) 4 DO U V ((s.l++[m]).map eF);rw[afI];exact a4
  ·have oZ: ¬i<N+2:=hp;rw[a6 i (by omega) (by omega) hr,ac7 a]
  ·rcases a7 with q| ⟨q,J,I⟩
   ·exact .inl q
   ·exact .inr ⟨q,J,by omega⟩
  ·show s.l++[m]=(gh b).take (j+1);rw[d,afP,v];rfl
 ·intro s' W' ak T hP hl R pa P;obtain⟨E,p⟩:=hP;have d:s'.l=gh b:=by
   have:s'.l=(gh b).take (xw b).length:=T;rw[this,TQ];exact ael (by simp[gh])
  have g:en N ak:=by
   rcases P with⟨rfl,_⟩| ⟨q,J,I,rfl⟩
   ·exact .inl rfl
   ·exact .inr ⟨q,by have:N+1<=q:=J;omega,rfl⟩
  rw[d]at p;have h0:bZ ((gh b).map eF)=0:=bB (λ_=>rfl) _;rcases p with⟨c1,c2,c3⟩| ⟨id,aj,c1,c2,c3,c4,G⟩
  ·simp only[go_sem,simprocAttr,C,c3,aur,R,lu];rw[iF g (aep _)];refine⟨.aq,dj rfl ((E.set (by omega)).take l),by rw[aqq.1 c2];exact .aq,rfl⟩
  ·have u:=aus id aj ((gh b).map eF).length W' (dU G);rw[aer]at u c4;have O:W0.length≠id:=by rintro rfl;rw[R]at G;cases G
   simp only[go_sem,simprocAttr,C,c4,u,R,lu];have M: (W'.set W0.length ae.dead)[id]?=some (.row aj 4 DO ((gh b).map eF)):=by rw[acK O];exact G
   rw[uP g (v':=.sl ((gh b).map eF) true) λk=>by rw[show k+12=(k+8)+4 by omega];exact aiy (by omega) M (by simp) (by rw[h0];omega)];exact⟨_,dj rfl ((E.set (by omega)).take l),.sl (by intro el Q;obtain⟨x,_,rfl⟩:=afJ.1 Q;rfl),h0⟩
theorem auv:cA zI=[.int .u8 0,.int .u64 0,.int .u32 0,.bool false,.int .u8 0,.int .u64 0,.int .u32 0,.bool false,.int .u8 0,.int .u64 0,.int .u32 0,.bool false,.int .u8 0,.int .u64 0,.int .u32 0,.bool false,.int .i64 0,.int .i64 0,.bool true]:=rfl
def auw(b:cS)(d:iZ b)(H:List ae)(lo:oN):
  ∃w,D X0 (.fn (.func 301) [] []) [.agg (cA b)] ⟨H,lo⟩=some (.ret (.ay [.agg (cA zI),w]) ⟨H,lo⟩)/\Rv w 4 ((gh b).map eF)/\w.refs=0:=by
 obtain⟨w,e1,e,e3⟩:=auu b d (H++[.box (cA b) none,.box zB none]) none;refine⟨w,?_,e,e3⟩;refine aH RR λM a=>?_
 have c:zB=[.int .u8 0,.int .u64 0,.int .u32 0,.bool false,.int .u8 0,.int .u64 0,.int .u32 0,.bool false,.int .u8 0,.int .u64 0,.int .u32 0,.bool false,.int .u8 0,.int .u64 0,.int .u32 0,.bool false,.int .i64 0,.int .i64 0,.bool false]:=rfl;rw[c]at e1;simp only[go_sem,simprocAttr,RR,a,↓qY,e1];rw[oF (by simp[AV.refs,aI,e3]),kb a,auv]
def xx:o6:=λg=>if g=325 then some wR else if g=160 then some wO else none
noncomputable def Cp:lA->AS->Option aX:=wm X (D X) Lw xx 324 qX
noncomputable def Cq:lA->AS->Option aX:=wm X (D X) Lw xx 300 wQ
noncomputable def XA:Ctx:={X with b8:=λf=>if f=324 then some Cp else if f=300 then some Cq else X.b8 f}
theorem DC:Ext X XA where
 dJ:=rfl
 fU:=rfl
 code:=rfl
 b8:=λf=>by
  by_cases b:f=324
  ·subst b;exact .inr ⟨rfl,rfl⟩
  ·by_cases a:f=300
   ·subst a;exact .inr ⟨rfl,rfl⟩
   ·left;show(if f=324 then some Cp else if f=300 then some Cq else X.b8 f)=X.b8 f
    grind
def Cr(e:Int)(H:List ae)(lo:oN):D X (.fn (.func 327) [] []) [.bool true,.int .i64 e] ⟨H,lo⟩=some (.ret (.ay []) ⟨H,lo⟩):=by
 refine aH FD λN a=>?_
 simp(disch:=omega) only[F1,go_sem,simprocAttr,FD]
def Cs(e:Nat)(H:List ae)(lo:oN):D X (.fn (.func 327) [] []) [.bool false,.int .i64 e] ⟨H,lo⟩=some (.panic (jo e) ⟨H,lo⟩):=by
 refine aH FD λN a=>?_
 simp(disch:=omega) only[F1,go_sem,simprocAttr,FD,EP]
theorem aiA:dE .dh .eJ .eJ=some true:=rfl
theorem aiB{t:TypeId}:dE .dh (.dh t v) .eJ=some false:=rfl
theorem aiC{z:AV}{t:TypeId}:Az z (.dh t v) t true=some (.ay [v,.bool true]):=adV rfl
def LP{K:AS->Prop}{H:List ae}(h:K ⟨H,lo⟩):qL X xx (cf 325|>.get λ_=>.aq) [.ptr p 0] .eJ ⟨H,lo⟩ K:=by
 refine Ib (pr:=wR) rfl rfl λn a=>?_
 simp(disch:=omega) only[F1,go_sem,simprocAttr,wR,aiA];exact⟨.inl trivial,.ay [],rfl,by trivial⟩
def vE{K:AS->Prop}{H:List ae}{v0:AV}(e:Nat)(a:H[p]?=some (.box [v0] none))(h:K ⟨H.set p (.box [.int .i64 e] none),lo⟩):qL X xx (cf 325|>.get λ_=>.aq) [.ptr p 0] (jo e) ⟨H,lo⟩ K:=by
 refine Ib (pr:=wR) rfl rfl λn b=>?_
 simp only[F1,go_sem,simprocAttr,wR,aiB,a,aiC];refine⟨.inl trivial,.ay [],rfl,?_⟩;rw[adV (show(AV.ay []).refs<=n from aep _),ael (by grind)];exact h
def aiD(t:aw)(d:bS t)(r:Nat)(e:r<4294967296)(i:t.au r=true)(c:Nat)(j:c<8)(H:List ae)(lo:oN):
  D X (.fn (.func 326) [] []) [.agg (aO t),.int .u32 r,.int .i64 c] ⟨H,lo⟩=some (.ret (.agg (bR (aN t r).1)) ⟨H,lo⟩):=by
 refine aH zo λN f=>?_
 have a:=λH lo=>up dy (s6 t d r e H lo)
 have b: (aN t r).2=0:=by unfold aN;grind
 have h: (c:Int)>=0:=by omega
 have g: (c:Int)<8:=by omega
 simp only[F1,go_sem,simprocAttr,zo,f,a,me,b,jI,Cr,h,g]
def aiE(t:aw)(d:bS t)(r:Nat)(e:r<4294967296)(j:t.au r=true)(c:Nat)(k:8<=c)(H:List ae)(lo:oN):
  D X (.fn (.func 326) [] []) [.agg (aO t),.int .u32 r,.int .i64 c] ⟨H,lo⟩=some (.panic (jo 2) ⟨H,lo⟩):=by
 refine aH zo λN g=>?_
 have a:=λH lo=>up dy (s6 t d r e H lo)
 have b: (aN t r).2=0:=by unfold aN;grind
 have i: (c:Int)>=0:=by omega
 have h: ¬(c:Int)<8:=by omega
 have f: ∀H lo,D X (.fn (.func 327) [] []) [.bool false,.int .i64 2] ⟨H,lo⟩=_:=Cs 2;simp only[F1,go_sem,simprocAttr,zo,g,a,me,b,jI,Cr,f,i,h,EP]
def auy(t:aw)(d:bS t)(r:Nat)(e:r<4294967296)(h:t.au r=false)(c:Nat)(H:List ae)(lo:oN):
  D X (.fn (.func 326) [] []) [.agg (aO t),.int .u32 r,.int .i64 c] ⟨H,lo⟩=some (.panic (jo 4) ⟨H,lo⟩):=by
 refine aH zo λN g=>?_
 have a:=λH lo=>up dy (s6 t d r e H lo)
 have b: (aN t r).2=4:=by unfold aN;grind
 have f: ∀H lo,D X (.fn (.func 327) [] []) [.bool false,.int .i64 4] ⟨H,lo⟩=_:=Cs 4;simp only[F1,go_sem,simprocAttr,zo,g,a,me,b,jI,f,EP]
def uf(t:aw)(r a to:Nat)(b:Bool):Nat:=
 if t.au r=false\/ (to≠0/\t.au to=false)then 4 else if 8<=a then 2 else if to≠0/\b=false/\kq t to r=false then 5
 else(fN t r {(aN t r).1 with cells:=av (aN t r).1.cells a to}).2
def auz{r:dm}{v:Nat}(h:i<8):aK (bR r) (4+i) [.int .u32 (v:Nat)]=bR {r with cells:=av r.cells i v}:=agk h
def auA(t:aw)(A:bS t)(U:bY t)(r a to:Nat)(b:Bool)(E:r<4294967296)(s:to<4294967296)(T:a<4294967296)(H:List ae)(lo:oN):
  ∃cs,Cp [.agg (aO t),.int .u32 r,.int .i64 a,.int .u32 to,.bool b] ⟨H,lo⟩=some (.ret (.ay [.agg cs,.int .i64 (uf t r a to b)]) ⟨H,lo⟩)/\cs.length=480/\aI cs=0/\
   (uf t r a to b=0->cs=aO (fN t r {(aN t r).1 with cells:=av (aN t r).1.cells a to}).1):=by
 suffices R: ∃I,Cp [.agg (aO t),.int .u32 r,.int .i64 a,.int .u32 to,.bool b] ⟨H,lo⟩=some I/\ (λI=> ∃cs,I=aX.ret (.ay [.agg cs,.int .i64 (uf t r a to b)]) ⟨H,lo⟩/\cs.length=480/\aI cs=0/\
   (uf t r a to b=0->cs=aO (fN t r {(aN t r).1 with cells:=av (aN t r).1.cells a to}).1)) I by
  obtain⟨I,p,cs,rfl,V⟩:=R;exact⟨cs,p,V⟩
 refine OY qX rfl rfl λN j=>?_
 have c:=λH lo=>up dy (eH t.b r E H lo)
 have d:=λH lo=>up dy (eH t.b to s H lo)
 have L: ∀h,au t.b h=t.au h:=λh=>rfl
 simp only[L]at c d;have m:=λH lo=>up dy (Tw t A U to r s E H lo)
 have F: ∀H lo,D X (.fn (.func 327) [] []) [.bool false,.int .i64 4] ⟨H,lo⟩=_:=Cs 4;have O: ∀H lo,D X (.fn (.func 327) [] []) [.bool false,.int .i64 5] ⟨H,lo⟩=_:=Cs 5;have z:aI kS=0:=by decide
 have f:uf t r a to b=if t.au r=false\/ (to≠0/\t.au to=false)then 4 else if 8<=a then 2 else if to≠0/\b=false/\kq t to r=false then 5
  else(fN t r {(aN t r).1 with cells:=av (aN t r).1.cells a to}).2:=rfl
 cases y:t.au r with
 |false=>
  rw[y]at c;rw[adV (.inl y)]at f;simp(disch:=omega) only[go_sem,simprocAttr,qX,j,ke,kc,c,F];refine⟨rfl,?_⟩;rw[nY];refine vE 4 (v0:=.int .i64 0) (by rw[bA j];rfl) ?_;simp(disch:=omega) only[F1,go_sem,simprocAttr,cU];rw[f];exact⟨_,rfl,Cc,z,λh=>by cases h⟩
 |true=>
  rw[y]at c;have K:to=0\/ (¬(to:Int)=0/\t.au to=true)\/ (¬(to:Int)=0/\t.au to=false):=by
   by_cases n:to=0
   ·exact .inl n
   ·cases W:t.au to
    ·exact .inr (.inr ⟨by omega,rfl⟩)
    ·exact .inr (.inl ⟨by omega,rfl⟩)
  by_cases J:to≠0/\t.au to=false
  ·rw[adV (.inr J)]at f;rw[J.2]at d;have n: ¬(to:Int)=0:=by omega
   simp(disch:=omega) only[go_sem,simprocAttr,qX,j,ke,kc,c,n,d,F];refine⟨rfl,?_⟩;rw[nY];refine vE 4 (v0:=.int .i64 0) (by rw[bA j];rfl) ?_;simp(disch:=omega) only[F1,go_sem,simprocAttr,cU];rw[f];exact⟨_,rfl,Cc,z,λh=>by cases h⟩
  ·rw[ada (by rw[y];simpa using J)]at f;have p: ∀H lo,D X (.fn (.func 327) [] []) [.bool true,.int .i64 4] ⟨H,lo⟩=_:=Cr 4;have o:to=0\/ (¬(to:Int)=0/\t.au to=true):=by
    rcases K with h|h|h
    ·exact .inl h
    ·exact .inr h
    ·exact absurd ⟨by omega,h.2⟩ J
   by_cases P:8<=a
   ·rw[adV P]at f;have g:=aiE t A r E y a P;rcases o with rfl| ⟨n,M⟩
    ·simp(disch:=omega) only[go_sem,simprocAttr,qX,j,ke,kc,c,p,g];refine⟨rfl,?_⟩;rw[nY];refine vE 2 (v0:=.int .i64 0) (by rw[bA j];rfl) ?_;simp(disch:=omega) only[F1,go_sem,simprocAttr,cU];rw[f];exact⟨_,rfl,Cc,z,λh=>by cases h⟩
    ·rw[M]at d;simp(disch:=omega) only[go_sem,simprocAttr,qX,j,ke,kc,c,n,d,p,g];refine⟨rfl,?_⟩;rw[nY];refine vE 2 (v0:=.int .i64 0) (by rw[bA j];rfl) ?_;simp(disch:=omega) only[F1,go_sem,simprocAttr,cU];rw[f];exact⟨_,rfl,Cc,z,λh=>by cases h⟩
   ·rw[ada P]at f;have G:a<8:=by omega
    have l: (a:Int)<8:=by omega
    have g:=aiD t A r E y a G;have Q: ∀H lo,D X (.fn (.func 327) [] []) [.bool true,.int .i64 5] ⟨H,lo⟩=_:=Cr 5;have C:=A.get r;generalize S: (aN t r).1=x at*;have q:gg {x with cells:=av x.cells a to}:=gg.setCells C λi=>by
     by_cases e:i=a
     ·rw[e,ch];exact s
     ·rw[cF e];exact C.cells i
    have k:=λH lo=>up dy (Tx t A r E {x with cells:=av x.cells a to} q.rb.1 (by have:=q.rb.2;show x.runs.length<=65;exact afY this (by omega)) (by have:=q.len;show x.len<4294967296;have:x.len<=2048:=this;omega) H lo)
    have u:=auz (r:=x) (v:=to) G;have w:4+a<=11:=by omega
    rcases o with rfl| ⟨n,M⟩
    ·rw[ada (by simp)]at f;have B:aK (bR x) (4+a) [.int .u32 0]=bR {x with cells:=av x.cells a 0}:=u;simp(disch:=omega) only[go_sem,simprocAttr,qX,j,ke,kc,c,p,g,jI,Q,l,B,w,k,ua,cU];refine⟨rfl,?_⟩;rw[DL];refine LP ?_;simp(disch:=omega) only[F1,go_sem,simprocAttr];rw[f];exact⟨_,rfl,iv _,wW _,λ_=>rfl⟩
    ·rw[M]at d;cases b with
     |true=>
      rw[ada (by simp)]at f;simp(disch:=omega) only[go_sem,simprocAttr,qX,j,ke,kc,c,n,d,p,g,jI,Q,l,u,w,k,ua,cU];refine⟨rfl,?_⟩;rw[DL];refine LP ?_;simp(disch:=omega) only[F1,go_sem,simprocAttr];rw[f];exact⟨_,rfl,iv _,wW _,λ_=>rfl⟩
     |false=>
      cases ho:kq t to r with
      |true=>
       rw[ho]at m f;rw[ada (by simp)]at f;simp(disch:=omega) only[go_sem,simprocAttr,qX,j,ke,kc,c,n,d,p,g,jI,Q,m,l,u,w,k,ua,cU];refine⟨rfl,?_⟩;rw[DL];refine LP ?_;simp(disch:=omega) only[F1,go_sem,simprocAttr];rw[f];exact⟨_,rfl,iv _,wW _,λ_=>rfl⟩
      |false=>
       rw[ho]at m f;rw[adV ⟨by omega,rfl,rfl⟩]at f;simp(disch:=omega) only[go_sem,simprocAttr,qX,j,ke,kc,c,n,d,p,g,jI,O,m];refine⟨rfl,?_⟩;rw[nY];refine vE 5 (v0:=.int .i64 0) (by rw[bA j];rfl) ?_;simp(disch:=omega) only[F1,go_sem,simprocAttr,cU];rw[f];exact⟨_,rfl,Cc,z,λh=>by cases h⟩
def F4{X:Ctx}{e:Env}{E:AS}{R:aX->Prop}{b:Nat}{c:Bool}:dO X n lo [.t a,.cell b c k] R .ret ⟨e,[]⟩ E=okV (ck X E c k (e b)) (λu E=>nX n lo R (.ay [e a,u]) E) E:=by
 simp only[yy,yA,fI,ka,oU];cases h:ck X E c k (e b)with
 |none=>simp[okV,h]
 |some v=>simp[okV,nX,h]
def auB(t:aw)(s:bS t)(r a:Nat)(v:r<4294967296)(F:a<4294967296)(H:List ae)(lo:oN):
  Cq [.agg (aO t),.int .u32 r,.int .i64 a] ⟨H,lo⟩=some (.ret (.ay [.int .u32 (sS t r a).1,.int .i64 (sS t r a).2]) ⟨H,lo⟩):=by
 suffices G: ∃E,Cq [.agg (aO t),.int .u32 r,.int .i64 a] ⟨H,lo⟩=some E/\E=aX.ret (.ay [.int .u32 (sS t r a).1,.int .i64 (sS t r a).2]) ⟨H,lo⟩ by grind
 refine OY wQ rfl rfl λN g=>?_
 have c:sS t r a=if t.au r=false then(0,4)else if 8<=a then(0,2)else if(aN t r).1.cells a=0 then(0,10)else if t.au ((aN t r).1.cells a)=false then(0,4)else((aN t r).1.cells a,0):=rfl
 cases q:t.au r with
 |false=>
  rw[adV q]at c;have b:=auy t s r v q a;simp only[go_sem,simprocAttr,wQ,g,ke,kc,b];refine⟨rfl,?_⟩;rw[nY];refine vE 4 (v0:=.int .i64 0) (by rw[bA g];rfl) ?_;simp(disch:=omega) only[F1,go_sem,simprocAttr,c,F4]
 |true=>
  rw[ada (by rw[q];simp)]at c;by_cases z:8<=a
  ·rw[adV z]at c;have b:=aiE t s r v q a z;simp only[go_sem,simprocAttr,wQ,g,ke,kc,b];refine⟨rfl,?_⟩;rw[nY];refine vE 2 (v0:=.int .i64 0) (by rw[bA g];rfl) ?_;simp(disch:=omega) only[F1,go_sem,simprocAttr,c,F4]
  ·rw[ada z]at c;have l:a<8:=by omega
   have B: (a:Int)<8:=by omega
   have b:=aiD t s r v q a l;have u:=s.get r;generalize(aN t r).1=x at*;have hw:=u.cells a;have d:qw false 8 1 (.agg (arr 8 λi=>[AV.int .u32 (x.cells i)])) (.int .i64 a)=some (.int .u32 (x.cells a)):=
    Sw l (by have:=jF (ag:=false) (m:=1) (n:=8) (k:=1) (i:=a) (o:=0) (f:=λi=>[AV.int .u32 (x.cells i)]) (λ_=>rfl) l (by omega) (by omega);rw[afM]at this;rw[this];rfl)
   have p: ∀H lo,D X (.fn (.func 327) [] []) [.bool false,.int .i64 10] ⟨H,lo⟩=_:=Cs 10;have y: ∀H lo,D X (.fn (.func 327) [] []) [.bool false,.int .i64 4] ⟨H,lo⟩=_:=Cs 4;have e:=λH lo=>up dy (eH t.b (x.cells a) hw H lo)
   have w: ∀h,au t.b h=t.au h:=λh=>rfl
   simp only[w]at e;by_cases A:x.cells a=0
   ·rw[adV A]at c;have j:decide ((x.cells a:Int)=0)=true:=by simp[A]
    simp only[go_sem,simprocAttr,wQ,g,ke,kc,b,↓K0,d,j,p];refine⟨rfl,?_⟩;rw[nY];refine vE 10 (v0:=.int .i64 0) (by rw[bA g];rfl) ?_;simp(disch:=omega) only[F1,go_sem,simprocAttr,c,F4]
   ·rw[ada A]at c;have j:decide ((x.cells a:Int)=0)=false:=by simp;omega
    cases C:t.au (x.cells a)with
    |false=>
     rw[C]at e c;rw[adV rfl]at c;simp only[go_sem,simprocAttr,wQ,g,ke,kc,b,↓K0,d,j,e,Cr,y];refine⟨rfl,?_⟩;rw[nY];refine vE 4 (v0:=.int .i64 0) (by rw[bA g];rfl) ?_;simp(disch:=omega) only[F1,go_sem,simprocAttr,c,F4]
    |true=>
     rw[C]at e c;rw[ada (by simp)]at c;simp only[go_sem,simprocAttr,wQ,g,ke,kc,b,↓K0,d,j,e,Cr];refine⟨rfl,?_⟩;rw[DL];refine LP ?_;simp(disch:=omega) only[F1,go_sem,simprocAttr,c,F4]
theorem auC{args:lA}{E:AS}{E':AS}(h:Cp args E=some (.ret v E')):D XA (.fn (.func 324) [] []) args E=some (.ret v E'):=DK rfl h
def TR(t:aw)(r a to:Nat)(b:Bool):mK t r a to b=if uf t r a to b=0 then((fN t r {(aN t r).1 with cells:=av (aN t r).1.cells a to}).1,0)else(t,uf t r a to b):=by
 unfold mK uf
 grind
def auD(t:aw)(l:bS t)(p:bY t)(r a to:Nat)(b:Bool)(m:r<4294967296)(e:to<4294967296)(i:a<4294967296)(H:List ae)(lo:oN):
  D XA (.fn (.func 299) [] []) [.agg (aO t),.int .u32 r,.int .i64 a,.int .u32 to,.bool b] ⟨H,lo⟩=some (.ret (.ay [.agg (aO (mK t r a to b).1),.int .i64 (mK t r a to b).2]) ⟨H,lo⟩):=by
 refine aH KG λN k=>?_
 obtain⟨cs,q,n,f,o⟩:=auA t l p r a to b m e i (H++[.box (aO t) none,.box kS none]) none;have g:=auC q;have d:=TR t r a to b;by_cases c:uf t r a to b=0
 ·rw[adV c]at d;have h:=o c;subst h;rw[c]at g;simp only[F1,go_sem,simprocAttr,KG,k,g,cU,d]
 ·rw[ada c]at d;have j:decide ((uf t r a to b:Int)=0)=false:=by simp;omega
  simp only[F1,go_sem,simprocAttr,KG,k,g,j,n,f,cU,d]
def aiF{a:aw}(b:bY t)(h: ∀x,bn a x=bn t x\/bn a x=0):bY a:=by
 have key: ∀n x,(eG a n x).length<=(aU t x).length:=by
  intro n
  induction n with
  |zero=>simp[eG]
  |succ n c=>
   intro x;simp only[eG];by_cases hu:bn a x=0
   ·grind
   ·rw[ada hu];have e:bn a x=bn t x:=(h x).resolve_right hu;rw[e]at hu⊢;rw[oy b,ada hu,afO,afO]
    grind
 intro x;have:=key 32 x;have:=b x;unfold aU at*;omega
theorem aiG(t:aw): ∀n x,(eG t n x).length<=(eG t (n+1) x).length
 |0,_=>by simp[eG]
 |n+1,x=>by
  rw[eG,eG];by_cases hu:bn t x=0
  ·grind
  ·rw[ada hu,ada hu,afO,afO];exact Nat.succ_le_succ (aiG t n _)
def mQ(b:cJ)(h:Nat):Prop:= ∀i,eN h=some i->h/256< (b i).gen\/ (h/256=(b i).gen/\nf b i=false)
def Ct(b:cJ):mQ b 0:=λi e=>by trivial
def TS{b:cJ}{h:Nat}(a:au b h=true):mQ b h:=by
 intro i e;unfold au at a;rw[e]at a;have:=aqQ a
 right;rw[this];exact⟨rfl,by unfold nf;grind⟩
def LQ{b:cJ}{h:Nat}(ho:mQ b h):mQ (av b i {b i with ea:=true}) h:=by
 intro j e;by_cases q:j=i
 ·subst q;rcases ho j e with a| ⟨a,c⟩
  ·left;rw[ch];exact a
  ·unfold nf;rw[ch];grind
 ·unfold nf at*;rw[cF q];exact ho j e
def aiH{b:cJ}{h y:Nat}(ho:mQ b h):mQ (dS b y).1 h:=by
 unfold dS;split
 ·show mQ (av b (aP y) _) h;intro j e;by_cases q:j=aP y
  ·subst q;unfold nf;rw[ch];unfold pT;have a:=ho _ e
   grind
  ·unfold nf at*;rw[cF q];exact ho j e
 omega
def LR{b:cJ}{h:Nat}(a:ng b=some i)(d:hU b):au (av b i {b i with ea:=true}) h=true↔au b h=true\/h=c7 i (b i).gen:=by
 obtain⟨i1,i2,i3,_⟩:=re a;have c:au (av b i {b i with ea:=true}) (c7 i (b i).gen)=true:=by grind [SR,SS,ch]
 constructor
 ·grind [lj,ch,SQ,cF]
 ·grind [lj,cF]
theorem LS{b:cJ}{y h:Nat}(c:au (dS b y).1 h=true):au b h=true:=by
 unfold dS at c;split at c
 ·obtain⟨j,e,a⟩:=lj.1 c;have a:av b (aP y) (pT (b (aP y))) j=_:=a;by_cases q:j=aP y
  ·subst q;rw[ch]at a;unfold pT at a
   grind
  ·grind [cF,lj]
 omega
def Cu{b:cJ}(a:ng b=some i)(c:hU b):au b (c7 i (b i).gen)=false:=by grind [SR,re]
def TT{b:cJ}(c:ng b=some i)(d:hU b): ¬mQ b (c7 i (b i).gen):=by
 obtain⟨i1,i2,i3,_⟩:=re c;intro h;have f:au (av b i {b i with ea:=true}) (c7 i (b i).gen)=true:=(LR c d).2 (.inr rfl);obtain⟨j,e,a⟩:=lj.1 f;have q:j=i:=ahi λq=>by
  rw[cF q]at a;have:=Cu c d;rw[lj.2 ⟨j,e,a⟩]at this;grind
 subst q;rw[ch]at a;injection a with l
 rcases h j e with k| ⟨_,g⟩
 ·omega
 ·unfold nf at g;grind
def auE(t:aw):Prop:= ∀i,mQ t.b (t.r i).up
structure dC(t:aw):Prop where
 ok:bS t
 tr:bY t
 up:auE t
def dC.same{a:aw}(h:dC t)(b:iG t a)(c:bS a):dC a:=⟨c,b.tree h.tr,λi=>by rw[b.1,b.2];exact h.up i⟩
theorem dC.set(h:dC t){r:dm}(b:gg r):dC (fN t a r).1:=h.same (.set t a r) (h.ok.set b)
theorem dC.drop(h:dC t)(y:Nat):dC (iA t y).1:=by
 refine⟨h.ok.drop y,aiF h.tr λx=>?_,λi=>?_⟩
 ·unfold iA;split
  ·have a: ∀x,au (dS t.b y).1 x=true->t.au x=true:=λx=>LS
   unfold bn;by_cases q:aw.au {b:=(dS t.b y).1,r:=av t.r (aP y) dq} x=true
   ·rw[adV q,adV (a x q)];unfold iz;by_cases e:aP x=aP y
    ·right
     show(if _ then(av t.r (aP y) dq (aP x)).up else 0)=0;rw[e,ch];split<;>rfl
    ·show(if aw.au _ (av t.r (aP y) dq (aP x)).up=true then(av t.r (aP y) dq (aP x)).up else 0)=_\/ (if aw.au _ (av t.r (aP y) dq (aP x)).up=true then(av t.r (aP y) dq (aP x)).up else 0)=0;rw[cF e];by_cases c:aw.au {b:=(dS t.b y).1,r:=av t.r (aP y) dq} (t.r (aP x)).up=true
     ·rw[adV c,adV (a _ c)];omega
     grind
   grind
  grind
 ·unfold iA;split
  ·show mQ (dS t.b y).1 (av t.r (aP y) dq i).up;by_cases e:i=aP y
   ·rw[e,ch];exact Ct _
   ·rw[cF e];exact aiH (h.up i)
  ·exact h.up i
theorem dC.gk{t:aw}(h:dC t): ∀l,dC (gk t l)
 | []=>h
 |x::xs=>dC.gk (h.drop x) xs
def dC.auF(h:dC t)(a:Nat):dC (iV t a).1:=by
 unfold iV;split
 ·exact h
 ·exact h.gk _
def dC.auG(h:dC t)(a:Nat):dC (jU t a 0).1:=by
 refine⟨h.ok.raise (by omega),aiF h.tr λx=>?_,λi=>?_⟩
 ·unfold jU;split
  ·simp
  ·split
   ·simp
   ·unfold bn;have b: ∀r z,aw.au {t with r:=r} z=t.au z:=λ_ _=>rfl
    simp only[b];split
    ·unfold iz;simp only[b];by_cases e:aP x=aP a
     ·rw[e,ch];grind
     ·rw[cF e];omega
    omega
 ·unfold jU;split
  ·exact h.up i
  ·split
   ·omega
   ·show mQ t.b (av t.r (aP a) {t.r (aP a)with up:=0} i).up;by_cases e:i=aP a
    ·rw[e,ch];exact Ct _
    ·rw[cF e];exact h.up i
def dC.cut(h:dC t)(a:Nat):dC (iU t a).1:=by
 rw[LA];split
 ·exact h
 ·exact(h.same (Lz t a _ t) (TA h.ok a _)).auG a
def dC.new(h:dC t)(up n:Nat)(J:up<4294967296):dC (fu t up n).1:=by
 unfold fu;dsimp only;split
 ·exact h
 ·rename_i l;unfold lg at l⊢;split
  ·exact h
  ·rename_i N;rw[ada N]at l;split
   ·exact h
   ·rename_i M;rw[ada M]at l;split
    ·rename_i i g;rw[g]at l;have l: ¬6<=depth t up:=λq=>l ⟨.inl rfl,q⟩
     obtain⟨i1,i2,i3,_⟩:=re g;have s:=h.ok.b;have d:up=0\/t.au up=true:=by grind
     have a: ∀z,aw.au {b:=av t.b i {t.b i with ea:=true},r:=av t.r i {dq with up:=up,dn:=n}} z=true↔t.au z=true\/z=c7 i (t.b i).gen:=λz=>LR g s
     have D: ∀z,t.au z=true->aP z≠i:=by
      intro z p q;obtain⟨_,u,_⟩:=vm p;rw[q]at u;rw[u]at i2;cases i2
     generalize m: ({b:=av t.b i {t.b i with ea:=true},r:=av t.r i {dq with up:=up,dn:=n}}:aw)=f at*;have o: ∀j,(f.r j).up=if j=i then up else(t.r j).up:=by
      intro j;rw[<-m];show(av t.r i _ j).up=_;by_cases e:j=i
      ·rw[e,ch,adV rfl]
      ·rw[cF e,ada e]
     have w:f.b=av t.b i {t.b i with ea:=true}:=by rw[<-m]
     have C:aP (c7 i (t.b i).gen)=i:=by
      have:f.au (c7 i (t.b i).gen)=true:=(a _).2 (.inr rfl);have v:=this;unfold aw.au at v;obtain⟨j,e,G⟩:=lj.1 v;rw[B6 e];refine ahi λq=>?_
      rw[w,cF q]at G;have:=Cu g s;rw[lj.2 ⟨j,e,G⟩]at this;cases this
     have hold: ∀z,mQ t.b z->(f.au z=true↔t.au z=true):=λz p=>⟨λq=>by
      rcases(a z).1 q with q|q
      ·exact q
      ·rw[q]at p;exact absurd p (TT g s),λq=>(a z).2 (.inl q)⟩
     have B: ∀x,x≠c7 i (t.b i).gen->bn f x=bn t x:=by
      intro x B;have e1: (f.au x=true)=(t.au x=true):=propext ⟨λq=>((a x).1 q).resolve_right B,λq=>(a x).2 (.inl q)⟩;unfold bn;simp only[e1];split
      ·rename_i F;unfold iz;rw[o,ada (D x F)];simp only[propext (hold _ (h.up (aP x)))]
      ·rfl
     have K:bn f (c7 i (t.b i).gen)=up:=by
      unfold bn;rw[adV ((a _).2 (.inr rfl))];unfold iz;rw[o,adV C];rcases d with q|q
      ·rw[q];split<;>rfl
      ·rw[adV ((a _).2 (.inl q))]
     have E: ∀x,bn t x≠c7 i (t.b i).gen:=by
      intro x q;have p:bn t x≠0:=by rw[q];unfold c7;omega
      have:=(FK p).1;rw[q]at this;have c:=Cu g s;unfold aw.au at this;rw[this]at c;cases c
     have y: ∀k x,x≠c7 i (t.b i).gen->eG f k x=eG t k x:=by
      intro k
      induction k with
      |zero=>intro x _;rfl
      |succ k I=>
       intro x A;simp only[eG,B x A];rw[I _ (E x)]
     refine⟨?_,?_,?_⟩
     ·rw[<-m];refine⟨SS s g,λj=>?_⟩;show gg (av t.r i _ j);by_cases e:j=i
      ·rw[e,ch];exact⟨J,by show n<=64;omega,Cj.len,Cj.cells,Cj.runs,Cj.aM⟩
      ·rw[cF e];exact h.ok.r j
     ·intro x;by_cases e:x=c7 i (t.b i).gen
      ·rw[e];unfold aU;rw[show(32:Nat)=31+1 from rfl,eG,K];by_cases q:up=0
       ·rw[adV q];simp
       ·rw[ada q,y 31 up (λH=>by
          have:=d.resolve_left q;rw[H]at this;have c:=Cu g s;unfold aw.au at this;rw[this]at c;cases c)]
        have F:=d.resolve_left q;unfold depth at l;rw[adV F]at l;have L:=h.tr up;have:eG t 31 up=aU t up:=(SU 31 up (by
         have: (eG t 31 up).length<=(eG t 32 up).length:=aiG t 31 up;unfold aU at L;omega) 32 (by omega)).symm
        rw[this,afO];omega
      ·unfold aU;rw[y 32 x e];exact h.tr x
     ·intro j;rw[o,w];by_cases e:j=i
      ·rw[adV e];rcases d with q|q
       ·rw[q];exact Ct _
       ·exact LQ (TS q)
      ·rw[ada e];exact LQ (h.up j)
    omega
theorem mh(b:bY t){x:Nat}(a:bn t x≠0):aU t x=bn t x::aU t (bn t x):=by rw[oy b,ada a]
def z9(c:bY t){h:Nat}: ∀ (n x:Nat),dep t x<=n->h∈aU t x->dep t h<dep t x:=by
 intro n
 induction n with
 |zero=>intro x b a;unfold dep at b;grind
 |succ n d=>
  intro x b a;by_cases hu:bn t x=0
  ·rw[oy c,adV hu]at a;cases a
  ·grind [B7,mh]
def auH(d:bY t){h:Nat}: ∀ (n x:Nat),dep t x<=n->h∈aU t x-> ∃c,bn t c=h/\h≠0/\t.au c=true/\ (c=x\/c∈aU t x):=by
 intro n
 induction n with
 |zero=>intro x b a;unfold dep at b;grind
 |succ n e=>
  intro x b a;by_cases hu:bn t x=0
  ·rw[oy d,adV hu]at a;cases a
  ·grind [B7,mh,FK]
def LU(a:bY t)(x:Nat):x∈cP t x:=by rw[SX a];grind
def TU(i:hU t.b)(a:bY t){x:Nat}: ∀ (n h:Nat),dep t x-dep t h<=n->h∈aU t x->x∈cP t h:=by
 intro n
 induction n with
 |zero=>intro h f b;have:=z9 a _ x (aen _) b;omega
 |succ n k=>
  intro h f b;obtain⟨c,l,c0,j,e⟩:=auH a _ x (aen _) b;have d:c∈kids t h:=by
   have g:t.au h=true:=by grind [FK]
   unfold kids;rw[adV g];exact afR.2 ⟨(fO i).2 j,by grind⟩
  rw[SX a];refine afU _ (ap8.2 ⟨c,d,?_⟩);rcases e with rfl|e
  ·exact LU a c
  ·have:=B8 a d
   grind
theorem aiI{α:Type}{f:α->Nat}: ∀ (l:List α) (s:Nat),s<=l.foldl (λn x=>max n (f x)) s/\ ∀x∈l,f x<=l.foldl (λn x=>max n (f x)) s
 | [],s=>⟨aen _,by simp⟩
 |a::l,s=>by
  have h:=aiI (f:=f) l (max s (f a))
  grind
theorem Cv{b:cJ}{x y:Nat}(c:au b x=true)(a:au b y=true)(e:aP x=aP y):x=y:=by
 obtain⟨_,h,g⟩:=vm c;obtain⟨_,f,d⟩:=vm a
 grind
def dC.auI(h:dC t)(a w:Nat)(J:w<4294967296):dC (ox t a w).1:=by
 unfold ox;split
 ·exact h
 ·rename_i N;split
  ·exact h
  ·rename_i G;split
   ·exact h
   ·rename_i M;have c:t.au a=true:=by grind
    have g:t.au w=true:=by grind
    have d:root t a=a:=ahi λq=>G (.inl q)
    have B: ¬kq t a w=true:=λq=>G (.inr q)
    have s:a≠w/\a∉aU t w:=by
     unfold kq at B
     grind
    have D:aU t a=[]:=by
     unfold root at d;rw[adV c]at d;cases e:aU t a with
     |nil=>rfl
     |cons b bs=>
      exfalso;have hm:a∈aU t a:=by
       have p:aU t a≠[]:=by rw[e];simp
       rw[List.getLastD_eq_getLast?,List.getLast?_eq_getLast p,ak7]at d;have:=List.getLast_mem p;rw[d]at this;exact this
      have:=z9 h.tr _ a (aen _) hm;omega
    unfold jU;split
    ·exact h
    ·split
     ·exact h
     ·have C: ∀z,aw.au {t with r:=av t.r (aP a) {t.r (aP a)with up:=w}} z=t.au z:=λ_=>rfl
      have y:bn {t with r:=av t.r (aP a) {t.r (aP a)with up:=w}} a=w:=by
       unfold bn iz;simp only[C];rw[adV c,ch,adV g]
      have v: ∀x,x≠a->bn {t with r:=av t.r (aP a) {t.r (aP a)with up:=w}} x=bn t x:=by
       intro x I;unfold bn;simp only[C];split
       ·rename_i m;unfold iz;simp only[C];rw[cF λe=>I (Cv m c e)]
       ·rfl
      generalize l: ({t with r:=av t.r (aP a) {t.r (aP a)with up:=w}}:aw)=u at*;have w0:w≠0:=K4 g;have key: ∀n x,(eG u n x).length<=if x=a\/a∈aU t x then dep t x+1+dep t w else dep t x:=by
       intro n
       induction n with
       |zero=>intro x;simp[eG]
       |succ n E=>
        intro x;rw[eG];by_cases e:x=a
        ·rw[adV (show x=a\/a∈aU t x from .inl e),e,y,ada w0,afO];have:=E w;rw[ada (by rintro(q|q);exact s.1 q.symm;exact s.2 q)]at this;omega
        ·rw[v x e];by_cases hu:bn t x=0
         ·rw[adV hu];simp
         ·rw[ada hu,afO];have L:=B7 h.tr hu;have:=E (bn t x);have j: (x=a\/a∈aU t x)↔(bn t x=a\/a∈aU t (bn t x)):=by
           rw[mh h.tr hu,ag6];constructor
           ·rintro(q|q|q)
            ·exact absurd q e
            ·exact .inl q.symm
            ·exact .inr q
           ·rintro(q|q)
            ·exact .inr (.inl q.symm)
            ·exact .inr (.inr q)
          by_cases q:x=a\/a∈aU t x
          ·rw[adV q];rw[adV (j.1 q)]at this;omega
          ·rw[ada q];rw[ada λH=>q (j.2 H)]at this;omega
      show dC u;refine⟨?_,λx=>?_,λi=>?_⟩
      ·rw[<-l];exact h.ok.av ((h.ok.r _).Ly J)
      ·have F:=key 32 x;unfold aU;split at F
       ·rename_i q;have o:x∈cP t a:=by
         rcases q with q|q
         ·rw[q];exact LU h.tr a
         ·exact TU h.ok.b h.tr _ a (aen _) q
        have m:=zF h.ok.b c o;have k:=(aiI (f:=λx=>depth t x-depth t a+1) (cP t a) 0).2 x o;have A:sO t a=(cP t a).foldl (λn x=>max n (depth t x-depth t a+1)) 0:=rfl;rw[<-A]at k;have d1:depth t x=1+dep t x:=by unfold depth;rw[adV m];rfl
        have d2:depth t a=1:=by unfold depth;rw[adV c,D];rfl
        have d3:depth t w=1+dep t w:=by unfold depth;rw[adV g];rfl
        have k:depth t x-depth t a+1<=sO t a:=k;omega
       ·have:=h.tr x;unfold dep at F;omega
      ·have e1:u.b=t.b:=by rw[<-l]
       have K: (u.r i).up=(av t.r (aP a) {t.r (aP a)with up:=w} i).up:=by rw[<-l]
       rw[e1,K];by_cases e:i=aP a
       ·rw[e,ch];exact TS g
       ·rw[cF e];exact h.up i
structure jZ(k:br):Prop where
 ok:gR k
 dN: ∀i,mQ k.b (k.t i).aU
 ord: ∃L:lN,L.Nodup/\ (∀h∈L,au k.b h=true)/\ (∀h,au k.b h=true->h∈L)/\L.Pairwise (λa b=>(k.t (aP a)).aU≠b)/\ ∀h∈L,(k.t (aP h)).aU≠h
def aiJ{k:br}{h:Nat}(a:au k.b h=true): (cn k h).1=k.t (aP h):=by unfold cn;grind
theorem TV{k:br}: ∀ {n m h:Nat},n<=m->xq k n h->xq k m h
 |0,_,_,_,h=>h.elim
 |n+1,0,_,a,_=>by omega
 |n+1,m+1,_,a,h=>λx b=>TV (Nat.le_of_succ_le_succ a) (h x b)
theorem LV: ∀ (n:Nat) (l:lN),l.Nodup->(∀x∈l,x<n)->l.length<=n
 |0,[],_,_=>aen _
 |0,x::_,_,h=>by grind [List.mem_cons_self]
 |n+1,l,a,h=>by
  have c:=LV n (l.erase n) (a.erase n) λx b=>by grind
  grind
def jZ.th{k:br}(h:jZ k){x:Nat}(s:au k.b x=true):xq k 16 x:=by
 obtain⟨L,w,o,e,i,l⟩:=h.ord;have j:L.length<=16:=by
  rw[<-aer (f:=aP)];refine LV 16 _ ?_ λy r=>?_
  ·grind [List.Pairwise.imp_of_mem,Cv]
  ·obtain⟨z,g,rfl⟩:=afJ.1 r;exact h.ok.slot (o z g)
 have key: ∀ (n:Nat) (P S:lN) (y:Nat),S.length<=n->L=P++y::S->xq k (S.length+1) y:=by
  intro n
  induction n with
  |zero=>
   intro P S y m d z g;have b:=afR.1 g;have a:au k.b z=true:=(fO h.ok.b).1 b.1;have c: (k.t (aP z)).aU=y:=by have:=b.2;rw[aiJ a]at this;simpa using this
   have t:S=[]:=ak2.1 (by omega);subst t;exfalso;have hm:=e z a;rw[d]at hm;rcases aeq.1 hm with q|q
   ·rw[d]at i;exact(anY.1 i).2.2 z q y (ai4 ..) c
   ·rcases ag6.1 q with q|q
    ·subst q;exact l z (e z a) c
    ·cases q
  |succ n p=>
   intro P S y m d z g;have b:=afR.1 g;have a:au k.b z=true:=(fO h.ok.b).1 b.1;have c: (k.t (aP z)).aU=y:=by have:=b.2;rw[aiJ a]at this;simpa using this
   have hm:=e z a;rw[d]at hm;rcases aeq.1 hm with q|q
   ·exfalso;rw[d]at i;exact(anY.1 i).2.2 z q y (ai4 ..) c
   ·rcases ag6.1 q with q|q
    ·exfalso;subst q;exact l z (e z a) c
    ·obtain⟨v,u,rfl⟩:=awY q;have:=p (P++y::v) u z (by simp at m;omega) (by rw[d];simp);exact TV (by simp) this
 obtain⟨P,S,rfl⟩:=awY (e x s);refine TV ?_ (key S.length P S x (aen _) rfl)
 grind
def jZ.void{k:br}(h:jZ k)(y:Nat):jZ {k with b:=(dS k.b y).1}:=by
 obtain⟨L,f,g,e,d,c⟩:=h.ord;refine⟨ahT h.ok [y],λi=>aiH (h.dN i),L.filter λx=>au (dS k.b y).1 x,f.filter _,λx a=>(afR.1 a).2,λx a=>afR.2 ⟨e x (LS a),a⟩,d.filter _,λx a=>c x (afR.1 a).1⟩
def jZ.aiK{k:br}(h:jZ k)(l:lN):jZ (nj k l):=by
 induction l generalizing k with
 |nil=>exact h
 |cons y l a=>exact a (h.void y)
def jZ.clear{k:br}(h:jZ k)(r:Nat):jZ (K7 k r):=h.aiK _
def jZ.ret{k:br}(h:jZ k)(a:Nat):jZ (l9 k a).1:=by
 unfold l9;split
 ·exact h.aiK _
 omega
def jZ.aiL{k:br}(h:jZ k){x:Tok}(F:uc x):jZ (lh k x).1:=by
 unfold lh;split
 ·exact h
 ·rename_i hm;have hm:pV k x=0:=ahi λq=>hm q
  have g:x.aU=0\/au k.b x.aU=true:=by
   unfold pV at hm;split at hm
   ·omega
   ·have:nh k x.aU=true:=by grind
    unfold nh at this
    grind
  split
  ·rename_i i s;split
   ·rename_i r;obtain⟨i1,i2,i3,_⟩:=re s;have t:=h.ok.b;have c:=Cu s t;have p:=TT s t;have f:=λz=>LR (h:=z) s t
    have A: ∀z,au k.b z=true->aP z≠i:=by
     intro z d q;obtain⟨_,o,_⟩:=vm d;rw[q]at o;rw[o]at i2;cases i2
    have y:aP (c7 i (k.b i).gen)=i:=by
     obtain⟨j,e,l⟩:=lj.1 ((f _).2 (.inr rfl));rw[B6 e];refine ahi λq=>?_
     rw[cF q]at l;rw[lj.2 ⟨j,e,l⟩]at c;cases c
    have v:x.aU≠c7 i (k.b i).gen:=by
     intro q;rcases g with e|e
     ·rw[e]at q;unfold c7 at q;omega
     ·rw[q,c]at e;cases e
    obtain⟨L,E,u,D,C,B⟩:=h.ord;have w: ∀z∈L,av k.t i x (aP z)=k.t (aP z):=λz d=>cF (A z (u z d))
    refine⟨⟨SS t s,λj l=>?_,λj=>?_⟩,λj=>?_,L++[c7 i (k.b i).gen],?_,λz d=>?_,λz d=>?_,?_,λz d=>?_⟩
    ·by_cases e:j=i
     ·rw[e];exact r
     ·have l: (av k.b i {k.b i with ea:=true} j).ea=true:=l;rw[cF e]at l;exact h.ok.lt j l
    ·show uc (av k.t i x j);by_cases e:j=i
     ·rw[e,ch];exact F
     ·rw[cF e];exact h.ok.t j
    ·show mQ _ (av k.t i x j).aU;by_cases e:j=i
     ·rw[e,ch];rcases g with q|q
      ·rw[q];exact Ct _
      ·exact LQ (TS q)
     ·rw[cF e];exact LQ (h.dN j)
    ·refine List.nodup_append.2 ⟨E,by simp,λa n b m=>?_⟩;rw[afD.1 m];intro q;rw[q]at n;rw[u _ n]at c;cases c
    ·rcases aeq.1 d with q|q
     ·exact(f z).2 (.inl (u z q))
     ·exact(f z).2 (.inr (afD.1 q))
    ·rcases(f z).1 d with q|q
     ·exact aeq.2 (.inl (D z q))
     ·exact aeq.2 (.inr (afD.2 q))
    ·refine anY.2 ⟨?_,by simp,λa n b m=>?_⟩
     ·exact asp (λn _ g=>by show(av k.t i x (aP _)).aU≠_;rw[w _ n];exact g) C
     ·rw[afD.1 m];show(av k.t i x (aP a)).aU≠_;rw[w a n];intro q;have:=h.dN (aP a);rw[q]at this;exact p this
    ·rcases aeq.1 d with q|q
     ·show(av k.t i x (aP z)).aU≠_;rw[w z q];exact B z q
     ·rw[afD.1 q];show(av k.t i x (aP _)).aU≠_;rw[y,ch];exact v
   omega
  omega
structure bf(s:bu):Prop where
 dw:dC s.T
 O:fR s.O
 tok:jZ s.K
 bx: ∀i,iZ (s.cw i)
def bf.T{s:bu}(h:bf s):bS s.T:=h.dw.ok
def bf.tr{s:bu}(h:bf s):bY s.T:=h.dw.tr
def bf.K{s:bu}(h:bf s):gR s.K:=h.tok.ok
theorem bf.th{s:bu}(h:bf s): ∀a,au s.K.b a=true->xq s.K 16 a:=λ_ b=>h.tok.th b
def bf.ug{s:bu}(h:bf s)(a:dC t):bf {s with T:=t}:=⟨a,h.O,h.tok,h.bx⟩
def bf.uh{s:bu}(h:bf s){o:bI}(ho:fR o):bf {s with O:=o}:=⟨h.dw,ho,h.tok,h.bx⟩
def bf.Aa{s:bu}(h:bf s){k:br}(a:jZ k):bf {s with K:=k}:=⟨h.dw,h.O,a,h.bx⟩
def bf.xy{s:bu}(h:bf s){i:Nat}(a:iZ b):bf {s with cw:=av s.cw i b}:=⟨h.dw,h.O,h.tok,λj=>by
 show iZ (av s.cw i b j);by_cases e:j=i
 ·rw[e,ch];exact a
 ·rw[cF e];exact h.bx j⟩
def bf.LX{s:bu}(h:bf s){a b:Nat->Bool}:bf {s with alive:=a,born:=b}:=⟨h.dw,h.O,h.tok,h.bx⟩
def fR.iT{o:bI}(ho:fR o)(a:r<4294967296):fR (ra o t r aa).1:=ho.LD a ⟨by simp,aoe _ (by omega),by simp⟩
def fR.fly{o:bI}(ho:fR o)(a:r<4294967296):fR (wZ o t r).1:=ho.LD a ⟨by simp,by simp,by simp⟩
def fR.freeze{o:bI}(ho:fR o)(a:r<4294967296):fR (zD o t r aa).1:=ho.LD a ⟨by simp,by simp,z5 aa⟩
def fR.held{o:bI}(ho:fR o){b:Bool}(c:r<4294967296):fR (c9 o t r aa b).1:=by
 unfold c9;dsimp only;split
 ·omega
 ·split
  ·omega
  ·split
   ·omega
   ·split
    ·omega
    ·split
     ·omega
     ·have a:=ho.of t r;exact ho.LD c ⟨a.kind,a.aa,aAe (n:=8) a.hold (z5 aa)⟩
section
def lx{args:lA}{E:AS}{r:aX}(h:D X0 v args E=some r):D XA v args E=some r:=vy DC (up dy h)
def ly{args:lA}{E:AS}{r:aX}(h:D X v args E=some r):D XA v args E=some r:=vy DC h
structure iH(c:cx):Prop where
 op:c.op<256
 r:c.r<4294967296
 s:c.s<4294967296
 a:c.a<4294967296
 b:c.b<4294967296
 v:c.v<18446744073709551616
def ef{α:Type}(f:α->AV×AS)(E:AS):R α->aX
 |.ok a=>.ret (f a).1 (f a).2
 |.error e=>.panic (jo e) E
abbrev un(E:AS):Unit->AV×AS:=λ_=>(.ay [],E)
def lD(b:Bool)(e:Nat)(H:List ae)(lo:oN):D XA (.fn (.func 161) [] []) [.bool b,.int .i64 e] ⟨H,lo⟩=some (ef (un ⟨H,lo⟩) ⟨H,lo⟩ (ask b e)):=by
 cases b
 ·exact lx (z7 e H lo)
 ·exact lx (F3 e H lo)
def hZ(e:Nat)(H:List ae)(lo:oN):D XA (.fn (.func 274) [] []) [.int .i64 e] ⟨H,lo⟩=some (ef (un ⟨H,lo⟩) ⟨H,lo⟩ (cp e)):=by
 by_cases h:e=0
 ·subst h;exact lx (aul H lo)
 ·unfold cp;rw[ada h];exact lx (aum e h H lo)
def jq{a:List FP}{f:ao}{b:List ao}{d:oN}{e:Env}{c:lN}{Q:bW}{E:AS}:kF a (.call f b) d [] [] e c Q v E=Q (.panic v) ⟨e,c⟩ E:=by
 have h:CX a (⟨none,d,.call f b⟩,[]) []=true:=by rfl
 simp only[kF,h,aza]
def take_set{H L:List ae}{N:Nat}{o:ae}(a:H.length=N):List.take N (H.set p o++L)=H.set p o:=by grind
def aCK{H:List ae}{N:Nat}{o:ae}(a:H.length=N):List.take N (H.set p o)=H.set p o:=ael (by grind)
def auK:aO t++List.drop 480 (bb x bk)=bb (x.t t) bk:=by
 rw[<-TP];simp[aK,iv]
structure Old(p:Nat)(H:List ae)(v:ae):Prop where
 at':H[p]?=some v
namespace Old
variable{p:Nat}{H:List ae}{v:ae}(h:Old p H v)
include h
theorem lt:p<H.length:=(ac9.1 h.at').1
theorem g(B:List ae): (H++B)[p]?=some v:=bc h.at'
theorem s(B:List ae)(w:ae): (H++B).set p w=H.set p w++B:=aqU _ _ h.lt
theorem g1(w:ae): (H.set p w)[p]?=some w:=by rw[aeo h.lt]
theorem g2(w:ae)(B:List ae): (H.set p w++B)[p]?=some w:=bc (h.g1 w)
theorem s2(w w':ae)(B:List ae): (H.set p w++B).set p w'=H.set p w'++B:=by
 rw[aqU _ _ (by rw[afL];exact h.lt),alg]
theorem same:H.set p v=H:=qb h.at'
theorem app(B:List ae):Old p (H++B) v:=⟨h.g B⟩
theorem set(w:ae):Old p (H.set p w) w:=⟨h.g1 w⟩
end Old
def auL{x:Nat}(a:k<8):kN .shr (.int .u8 (x:Nat)) (.int .i64 (k:Nat))=some (.int .u8 ((x/2^k:Nat):Int)):=by
 rw[DE,adV (by omega)];have b:IntKind.u8.bits=8:=rfl
 grind
def auM{x:Nat}(c:x<256):dt .and (.int .u8 ((x/2^k:Nat):Int)) (.int .u8 1)=some (.int .u8 ((x/2^k % 2:Nat):Int)):=by
 have a:x/2^k<256:=Nat.lt_of_le_of_lt (Nat.div_le_self _ _) c;have:=LF (b:=1) a (by omega)
 grind
section
variable{x:aB}{bk:AV}{p:Nat}{H:List ae}(ho:Old p H (.box (bb x bk) none))(lo:oN)
include ho
theorem LY(aa:Nat):D XA (.fn (.func 289) [] []) [.ptr p 0,.int .u32 aa] ⟨H,lo⟩=some (ef (un ⟨H,lo⟩) ⟨H,lo⟩ (mL x aa)):=by
 refine aH KC λN f=>?_
 have e:=ho.at';by_cases h:aa<8
 ·have c: (aa:Int)<8:=by omega
  have b:mL x aa=ask (x.s.alive aa) 2:=by unfold mL;simp[h]
  have a: ∀H lo,D XA (.fn (.func 161) [] []) [.bool (x.s.alive aa),.int .i64 2] ⟨H,lo⟩=_:=lD _ 2;rw[b];cases d:x.s.alive aa<;>rw[d]at a<;>simp(disch:=omega) only[F1,go_sem,simprocAttr,KC,e,c,↓TO h,d,a,ask,ef,EP]
 ·have c: ¬(aa:Int)<8:=by omega
  have b:mL x aa= .error 2:=by unfold mL ask;simp[h]
  have a: ∀H lo,D XA (.fn (.func 161) [] []) [.bool false,.int .i64 2] ⟨H,lo⟩=_:=lD _ 2;rw[b];simp(disch:=omega) only[F1,go_sem,simprocAttr,KC,c,a,ask,ef,EP]
theorem TW(b:bf x.s)(i:x.aa<8)(h:Nat)(e:h<4294967296)(a:Nat)(d:a<=2):
  D XA (.fn (.func 272) [] []) [.ptr p 0,.int .u32 h,.int .u8 a] ⟨H,lo⟩=some (ef (un ⟨H,lo⟩) ⟨H,lo⟩ (fY x h a)):=by
 refine aH RF λN g=>?_
 have hm:=λH lo=>ly (aui x.s.T b.T b.tr x.s.O b.O x.s.K b.K x.aa (by omega) h e a d H lo)
 have c:=hZ (w5 x.s.T x.s.O x.s.K x.aa h a);unfold fY;cases f:cp (w5 x.s.T x.s.O x.s.K x.aa h a)<;>rw[f]at c<;>simp only[F1,go_sem,simprocAttr,RF,g,ho.at',↓CL,hm,c,ef,EP,jq]
theorem LZ(b:bf x.s)(h:Nat)(c:h<4294967296):
  D XA (.fn (.func 277) [] []) [.ptr p 0,.int .u32 h] ⟨H,lo⟩=some (ef (λ_=>(.agg (bR (aN x.s.T h).1),⟨H,lo⟩)) ⟨H,lo⟩ (cp (aN x.s.T h).2)):=by
 refine aH RH λN e=>?_
 have hm:=λH lo=>lx (s6 x.s.T b.T h c H lo)
 have a:=hZ (aN x.s.T h).2;cases d:cp (aN x.s.T h).2<;>rw[d]at a<;>simp only[F1,go_sem,simprocAttr,RH,e,ho.g,↓CL,hm,me,a,ef,EP]
theorem TX(a:bf x.s)(h:Nat)(d:h<4294967296):
  D XA (.fn (.func 286) [] []) [.ptr p 0,.int .u32 h] ⟨H,lo⟩=some (ef (λ_=>(.ay [],⟨H.set p (.box (bb (x.t (iU x.s.T h).1) bk) none),lo⟩)) ⟨H,lo⟩ (cp (iU x.s.T h).2)):=by
 refine aH RM λN c=>?_
 have hm:=λH lo=>ly (atx x.s.T a.T a.tr h d H lo)
 have b:=hZ (iU x.s.T h).2;cases e:cp (iU x.s.T h).2<;>rw[e]at b<;>simp only[F1,go_sem,simprocAttr,RM,c,ho.at',ho.g,ho.s,↓CL,hm,LB,b,ef,EP,CS,cU,take_set c]
theorem L0(a:bf x.s)(h:Nat)(e:h<4294967296)(aa:Nat)(d:aa<256):
  D XA (.fn (.func 275) [] []) [.ptr p 0,.int .u32 h,.int .i64 aa] ⟨H,lo⟩=some (ef (λ_=>(.ay [],⟨H.set p (.box (bb (x.o (ra x.s.O x.s.T h aa).1) bk) none),lo⟩)) ⟨H,lo⟩ (cp (ra x.s.O x.s.T h aa).2)):=by
 refine aH RG λN c=>?_
 have hm:=λH lo=>lx (atF x.s.O x.s.T a.T a.tr h e aa d H lo)
 have b:=hZ (ra x.s.O x.s.T h aa).2;cases f:cp (ra x.s.O x.s.T h aa).2<;>rw[f]at b<;>simp only[F1,go_sem,simprocAttr,RG,c,ho.g,ho.s,↓CL,hm,b,ef,EP,CS,gH,take_set c]
theorem TY(d:bf x.s)(h:Nat)(g:h<4294967296)(r:dm)(e:RB r.runs)(f:r.runs.length<=65)(a:r.len<4294967296):
  D XA (.fn (.func 282) [] []) [.ptr p 0,.int .u32 h,.agg (bR r)] ⟨H,lo⟩=some (ef (λ_=>(.ay [],⟨H.set p (.box (bb (x.t (fN x.s.T h r).1) bk) none),lo⟩)) ⟨H,lo⟩ (cp (fN x.s.T h r).2)):=by
 refine aH RK λN c=>?_
 have hm:=λH lo=>lx (Tx x.s.T d.T h g r e f a H lo)
 have b:=hZ (fN x.s.T h r).2;cases i:cp (fN x.s.T h r).2<;>rw[i]at b<;>simp only[F1,go_sem,simprocAttr,RK,c,ho.g,ho.s,↓CL,hm,ua,b,ef,EP,CS,cU,take_set c]
theorem F5(f:bf x.s)(u:x.aa<8)(h:Nat)(o:h<4294967296):
  D XA (.fn (.func 290) [] []) [.ptr p 0,.int .u32 h] ⟨H,lo⟩=some (ef (un ⟨H,lo⟩) ⟨H,lo⟩ (zJ x h)):=by
 refine aH BW λN s=>?_
 have a:=λH lo=>lx (eH x.s.T.b h o H lo)
 have q:au x.s.T.b h=x.s.T.au h:=rfl;rw[q]at a;have d:=λH lo=>lx (z6 x.s.O f.O x.s.T f.T f.tr h o H lo)
 have c:=λH lo=>lx (zV x.s.T f.T f.tr h o H lo)
 have j:=f.O.of x.s.T h;have A:zJ x h=ask (x.s.T.au h) 4>>=λ_=>ask (decide (root x.s.T h=h)&&decide ((bt x.s.O x.s.T h).kind=3)) 12>>=λ_=>ask ((bt x.s.O x.s.T h).hold.testBit x.aa) 5:=rfl
 generalize bt x.s.O x.s.T h=w at*;have g: ∀H lo,D XA (.fn (.func 161) [] []) [.bool (x.s.T.au h),.int .i64 4] ⟨H,lo⟩=_:=lD _ 4;have e: ∀b H lo,D XA (.fn (.func 161) [] []) [.bool b,.int .i64 12] ⟨H,lo⟩=_:=λb=>lD b 12
 have B: ∀b H lo,D XA (.fn (.func 161) [] []) [.bool b,.int .i64 5] ⟨H,lo⟩=_:=λb=>lD b 5
 rw[A];cases y:x.s.T.au h with
 |false=>
  rw[y]at a g;simp(disch:=omega) only[F1,go_sem,simprocAttr,BW,ho.at',↓CL,a,g,ask,ef,EP,Except.bind,bind]
 |true=>
  rw[y]at a g;by_cases n:root x.s.T h=h
  ·have k:decide ((root x.s.T h:Int)=h)=true:=ad0 (by omega);by_cases t:w.kind=3
   ·have i:decide ((w.kind:Int)=3)=true:=ad0 (by omega);have m:kN .shr (.int .u8 (w.hold:Nat)) (.int .i64 (x.aa:Nat))=some (.int .u8 ((w.hold/2^x.aa:Nat):Int)):=auL u;have hand:dt .and (.int .u8 ((w.hold/2^x.aa:Nat):Int)) (.int .u8 1)=some (.int .u8 ((w.hold/2^x.aa % 2:Nat):Int)):=auM j.hold;have r:=ah4 j.hold u;have l:decide (((w.hold/2^x.aa % 2:Nat):Int)=1)=w.hold.testBit x.aa:=by rw[<-r];exact afS.2 (by omega)
    cases z:w.hold.testBit x.aa<;>rw[z]at l<;>
     simp only[F1,go_sem,simprocAttr,BW,s,ho.at',ho.g,↓CL,jG,a,g,d,c,n,t,e,B,m,hand,l,ask,ef,EP,jq,Except.bind,bind]
   ·have i:decide ((w.kind:Int)=3)=false:=adZ (by omega);simp only[F1,go_sem,simprocAttr,BW,s,ho.at',ho.g,↓CL,jG,a,g,d,c,n,i,t,e,ask,ef,EP,Except.bind,bind]
  ·have k:decide ((root x.s.T h:Int)=h)=false:=adZ (by omega);simp only[F1,go_sem,simprocAttr,BW,s,ho.at',ho.g,↓CL,jG,a,g,d,c,k,n,e,ask,ef,ahj,EP,Except.bind,bind]
end
def aiM(c:cx)(H:List ae)(lo:oN):D XA (.fn (.func 283) [] []) [.agg (bp c)] ⟨H,lo⟩=some (ef (un ⟨H,lo⟩) ⟨H,lo⟩ (ask (decide (1<=c.b)&&decide (c.b<=8)) 2)):=by
 refine aH Fw λN e=>?_
 have g: ∀b H lo,D XA (.fn (.func 161) [] []) [.bool b,.int .i64 2] ⟨H,lo⟩=_:=λb=>lD b 2
 by_cases f:1<=c.b
 ·have a:decide ((c.b:Int)>=1)=true:=ad0 (by omega);by_cases i:c.b<=8
  ·have d:decide ((c.b:Int)<=8)=true:=ad0 (by omega);simp only[F1,go_sem,simprocAttr,Fw,e,bp,a,d,f,i,g,ask,ef]
  ·have d:decide ((c.b:Int)<=8)=false:=adZ (by omega);simp only[F1,go_sem,simprocAttr,Fw,e,bp,a,d,f,i,g,ask,ef,EP]
 ·have a:decide ((c.b:Int)>=1)=false:=adZ (by omega);simp only[F1,go_sem,simprocAttr,Fw,e,bp,a,f,g,ask,ef,ahj,EP]
def auN(r:dm)(g:r.len<4294967296)(c:cx)(d:iH c)(H:List ae)(lo:oN):
  D XA (.fn (.func 284) [] []) [.agg (bR r),.agg (bp c)] ⟨H,lo⟩=some (ef (un ⟨H,lo⟩) ⟨H,lo⟩ (ask (decide (c.a+c.b<=r.len)) 9)):=by
 refine aH KB λN e=>?_
 have j:=d.a;have i:=d.b;have f: ∀b H lo,D XA (.fn (.func 161) [] []) [.bool b,.int .i64 9] ⟨H,lo⟩=_:=λb=>lD b 9
 by_cases h:c.a+c.b<=r.len
 ·have a:decide ((c.a:Int)<=(r.len:Int)-c.b)=true:=ad0 (by omega);simp(disch:=omega) only[F1,go_sem,simprocAttr,KB,e,bp,a,h,f,ask,ef]
 ·have a:decide ((c.a:Int)<=(r.len:Int)-c.b)=false:=adZ (by omega);simp(disch:=omega) only[F1,go_sem,simprocAttr,KB,e,bp,a,h,f,ask,ef,EP]
end
structure mR(x:aB):Prop where
 s:bf x.s
 t:x.aa<8
 c:iH x.c
 run:x.run.1<4294967296/\x.run.2<4294967296
def bh(b:List aD)(bk:AV)(p:Nat)(H:List ae)(lo:oN):R (aB×bF)->aX->Prop
 |.ok (y,r),a=>y.back=b/\a= .ret (.agg (bG r)) ⟨H.set p (.box (bb y bk) none),lo⟩
 |.error e,a=> ∃y,a= .panic (jo e) ⟨H.set p (.box (bb y bk) none),lo⟩
theorem okB{a:α}{f:α->R β}: (Except.ok a>>=f:R β)=f a:=rfl
theorem da{f:α->R β}: (Except.error e>>=f:R β)= .error e:=rfl
def OL{H:List ae}{N:Nat}(a:H.length=N): (∀p w L,(H.set p w++L)[N]?=L[0]?)/\ (∀p w L k,(H.set p w++L)[N+k]?=L[k]?)/\ (∀p w L o,(H.set p w++L).set N o=H.set p w++L.set 0 o)/\ (∀p w L k o,(H.set p w++L).set (N+k) o=H.set p w++L.set k o)/\
  (∀p w L,List.take N (H.set p w++L)=H.set p w)/\ ∀p w,List.take N (H.set p w)=H.set p w:=by
 have h: ∀p w,(H.set p w).length=N:=λp w=>by grind
 grind
theorem gS{a:α}: (pure a:R α)= .ok a:=rfl
def dV{K c:AV->AS->Prop}{f:α->AV×AS}{E:AS}{m:R α}:HE K c (some (ef f E m))=((∀a,m= .ok a->K (f a).1 (f a).2)/\ ∀e,m= .error e->c (jo e) E):=by
 apply propext;cases m with
 |ok a=>
  refine⟨λh=>⟨λb e=>?_,λ_ e=>?_⟩,λh=>h.1 a rfl⟩
  ·cases e;exact h
  grind
 |error e=>
  refine⟨λh=>⟨λb q=>?_,λb q=>?_⟩,λh=>h.2 e rfl⟩
  ·cases q
  ·cases q;exact h
def dW{q:Unit->Prop}: (∀a,q a)=q ():=by grind
section
variable{x:aB}{bk:AV}{p:Nat}{H:List ae}{lo:oN}(ho:Old p H (.box (bb x bk) none))(hx:mR x)
include ho
theorem bh.err:bh x.back bk p H lo (.error e) (.panic (jo e) ⟨H,lo⟩):=⟨x,by rw[ho.same]⟩
theorem bh.here{r:bF}(a:v= .agg (bG r)):bh x.back bk p H lo (.ok (x,r)) (.ret v ⟨H,lo⟩):=by
 refine⟨rfl,?_⟩;rw[ho.same,a]
omit ho in
theorem bh.set{r:bF}(a:v= .agg (bG r))(b:y.back=x.back):bh x.back bk p H lo (.ok (y,r)) (.ret v ⟨H.set p (.box (bb y bk) none),lo⟩):=by
 refine⟨b,?_⟩;rw[a]
omit ho in
theorem Ab{h w:Nat}(a:fY x h w= .ok ()):cp (aN x.s.T h).2= .ok ():=by
 unfold fY w5 at a;cases b:x.s.T.au h with
 |true=>unfold aN;rw[adV b];rfl
 |false=>rw[adV b]at a;cases a
include hx
theorem M0(h:Nat)(a:h<4294967296)(B:List ae)(lo:oN):D XA (.fn (.func 272) [] []) [.ptr p 0,.int .u32 h,.int .u8 0] ⟨H++B,lo⟩=some (ef (un ⟨H++B,lo⟩) ⟨H++B,lo⟩ (fY x h 0)):=TW (ho.app B) lo hx.s hx.t h a 0 (by omega)
theorem M1(h:Nat)(a:h<4294967296)(B:List ae)(lo:oN):D XA (.fn (.func 272) [] []) [.ptr p 0,.int .u32 h,.int .u8 1] ⟨H++B,lo⟩=some (ef (un ⟨H++B,lo⟩) ⟨H++B,lo⟩ (fY x h 1)):=TW (ho.app B) lo hx.s hx.t h a 1 (by omega)
theorem M2(h:Nat)(a:h<4294967296)(B:List ae)(lo:oN):D XA (.fn (.func 272) [] []) [.ptr p 0,.int .u32 h,.int .u8 2] ⟨H++B,lo⟩=some (ef (un ⟨H++B,lo⟩) ⟨H++B,lo⟩ (fY x h 2)):=TW (ho.app B) lo hx.s hx.t h a 2 (by omega)
omit ho in
theorem Bs(L:List ae)(lo:oN):D XA (.fn (.func 284) [] []) [.agg (bR (aN x.s.T x.c.r).1),.agg (bp x.c)] ⟨L,lo⟩=some (ef (un ⟨L,lo⟩) ⟨L,lo⟩ (ask (decide (x.c.a+x.c.b<=(aN x.s.T x.c.r).1.len)) 9)):=
 auN (aN x.s.T x.c.r).1 (by have:=(hx.s.T.get x.c.r).len;omega) x.c hx.c L lo
end
section
variable{x:aB}{bk:AV}{p:Nat}{H:List ae}{lo:oN}(ho:Old p H (.box (bb x bk) none))(hx:mR x)
include ho hx
theorem auO: ∃a,D XA (.fn (.func 253) [] []) [.ptr p 0] ⟨H,lo⟩=some a/\bh x.back bk p H lo (rh x 0) a:=by
 refine cz Rs λN b=>?_
 simp only[F1,go_sem,simprocAttr,Rs,b,ho.g,↓CL,λB=>aiM x.c (H++B),M0 ho hx x.c.r hx.c.r,λB lo=>LZ (ho.app B) lo hx.s x.c.r hx.c.r,λL=>Bs hx L,dV,dW,EP,jq];have c:=Ab (x:=x) (h:=x.c.r) (w:=0)
 (repeat' (first| (refine⟨?_,?_⟩)|intro _))<;>first
   | (simp only[rh,gS,okB,da, *];first|exact bh.err ho|exact bh.here ho rfl)
   | (exfalso;simp_all)
theorem auP: ∃a,D XA (.fn (.func 254) [] []) [.ptr p 0] ⟨H,lo⟩=some a/\bh x.back bk p H lo (rh x 1) a:=by
 refine cz Rt λN b=>?_
 simp only[F1,go_sem,simprocAttr,Rt,b,ho.g,↓CL,λB=>aiM x.c (H++B),M1 ho hx x.c.r hx.c.r,λB lo=>LZ (ho.app B) lo hx.s x.c.r hx.c.r,λL=>Bs hx L,dV,dW,EP,jq];have c:=Ab (x:=x) (h:=x.c.r) (w:=1)
 (repeat' (first| (refine⟨?_,?_⟩)|intro _))<;>first
   | (simp only[rh,gS,okB,da, *];first|exact bh.err ho|exact bh.here ho rfl)
   | (exfalso;simp_all)
end
theorem auQ{args:lA}{E:AS}{E':AS}(h:Cq args E=some (.ret v E')):D XA (.fn (.func 300) [] []) args E=some (.ret v E'):=DK rfl h
def xz(h: ¬a<8):mL x a= .error 2:=by unfold mL ask;simp[h]
def aiN(h:a<4294967296):min a 8<4294967296:=by omega
section
variable{x:aB}{bk:AV}{p:Nat}{H:List ae}{lo:oN}(ho:Old p H (.box (bb x bk) none))(hx:mR x)
include ho hx
theorem auR: ∃b,D XA (.fn (.func 268) [] []) [.ptr p 0] ⟨H,lo⟩=some b/\bh x.back bk p H lo (xf x) b:=by
 refine cz RE λN c=>?_
 have a:=λH lo=>auQ (auB x.s.T hx.s.T x.c.r (min x.c.a 8) hx.c.r (aiN hx.c.a) H lo)
 have em: ((min x.c.a 8:Nat):Int)=min (x.c.a:Int) 8:=by omega
 simp only[em]at a;simp(disch:=omega) only[F1,go_sem,simprocAttr,RE,c,ho.g,↓CL,M0 ho hx x.c.r hx.c.r,a,λH=>hZ (sS x.s.T x.c.r (min x.c.a 8)).2 H,dV,dW,EP]
 (repeat' (first| (refine⟨?_,?_⟩)|intro _))<;>(simp only[xf,gS,okB,da, *];first|exact bh.err ho|exact bh.here ho rfl)
theorem auS: ∃b,D XA (.fn (.func 258) [] []) [.ptr p 0] ⟨H,lo⟩=some b/\bh x.back bk p H lo (xa x) b:=by
 refine cz Ry λN a=>?_
 have c:=λH lo=>ly (att x.s.T hx.s.T hx.s.tr x.c.r x.c.s hx.c.r hx.c.s H lo)
 simp only[F1,go_sem,simprocAttr,Ry,a,ho.g,ho.s,↓CL,CS,M2 ho hx x.c.r hx.c.r,M1 ho hx x.c.s hx.c.s,c,xo,λH=>hZ (ox x.s.T x.c.r x.c.s).2 H,dV,dW,EP,cU,OL a]
 (repeat' (first| (refine⟨?_,?_⟩)|intro _))<;>(simp only[xa,gS,okB,da, *];first|exact bh.err ho|trivial)
theorem auT: ∃d,D XA (.fn (.func 260) [] []) [.ptr p 0] ⟨H,lo⟩=some d/\bh x.back bk p H lo (xc x) d:=by
 refine cz Ku λN b=>?_
 have a:=λB lo=>LY (ho.app B) lo x.c.a
 by_cases c:x.c.a<8
 ·have e:=λH lo=>lx (ahI x.s.O hx.s.O x.s.T hx.s.T hx.s.tr x.c.r hx.c.r x.c.a (by omega) H lo)
  simp(disch:=omega) only[F1,go_sem,simprocAttr,Ku,b,ho.g,ho.s,↓CL,CS,a,λB lo=>F5 (ho.app B) lo hx.s hx.t x.c.r hx.c.r,e,λH=>hZ (c9 x.s.O x.s.T x.c.r x.c.a true).2.2 H,dV,dW,EP,gH,OL b]
  (repeat' (first| (refine⟨?_,?_⟩)|intro _))<;>(simp only[xc,vu,gS,okB,da, *];first|exact bh.err ho|exact bh.set rfl rfl)
 ·rw[xz c]at a;simp only[F1,go_sem,simprocAttr,Ku,b,ho.g,↓CL,a,ef,EP];simp only[xc,da,xz c];exact bh.err ho
theorem auU: ∃d,D XA (.fn (.func 266) [] []) [.ptr p 0] ⟨H,lo⟩=some d/\bh x.back bk p H lo (xe x) d:=by
 refine cz RC λN c=>?_
 have e:=λH lo=>lx (auo (x.s.cw x.aa) H lo)
 have i:=hx.t;have h: (x.aa:Int)<8:=by omega
 have g:784+x.aa*19<=945:=by omega
 have f:=λbk=> @LN x bk x.aa hx.t
 have a:=λbk b=> @LO x bk x.aa b hx.t
 simp only[F1,go_sem,simprocAttr,RC,c,ho.g,ho.s,↓CL,CS,e,h,↓f,a,g,MB,λH=>hZ (vo (x.s.cw x.aa)).2 H,dV,dW,EP,OL c]
 (repeat' (first| (refine⟨?_,?_⟩)|intro _))<;>(simp only[xe,gS,okB,da, *];first|exact bh.err ho|trivial)
theorem auV: ∃f,D XA (.fn (.func 263) [] []) [.ptr p 0] ⟨H,lo⟩=some f/\bh x.back bk p H lo (xd x) f:=by
 refine cz RA λN e=>?_
 have d:=λH lo=>lx (Ck x.s.K hx.s.K x.c.s hx.c.s H lo)
 have c:=hx.s.K.get x.c.s;generalize j:cn x.s.K x.c.s=g at*;have h:=c.to;have he: ((g.1.to:Int)=x.aa)=(g.1.to=x.aa):=propext (by omega);obtain⟨w,a⟩:=ahY x.s.K hx.s.K x.c.s hx.c.s (hx.s.th x.c.s) (H++[.box [.int .i64 0,.int .u64 0,.int .u32 0] none,.box (fL g.1) none]) none;have a:=ly a;simp only[fL]at a d;have i: ∀b H lo,D XA (.fn (.func 161) [] []) [.bool b,.int .i64 5] ⟨H,lo⟩=_:=λb=>lD b 5
 simp(disch:=omega) only[F1,go_sem,simprocAttr,RA,e,ho.g,ho.s,↓CL,CS,d,a,he,i,λH=>hZ g.2 H,dV,dW,EP,jq,OL e]
 (repeat' (first| (refine⟨?_,?_⟩)|intro _))<;>(simp only[xd,gS,okB,da, *];first|exact bh.err ho|exact bh.set rfl rfl)
theorem auW: ∃g,D XA (.fn (.func 271) [] []) [.ptr p 0] ⟨H,lo⟩=some g/\bh x.back bk p H lo (rj x) g:=by
 refine cz Ky λN c=>?_
 have f: ∀b H lo,D XA (.fn (.func 161) [] []) [.bool b,.int .i64 2] ⟨H,lo⟩=_:=λb=>lD b 2
 by_cases a:x.c.a<8
 ·have e: (x.c.a:Int)<8:=by omega
  have l: (x.c.a:Int).tmod 8=x.c.a:=Int.tmod_eq_of_lt (by omega) (by omega);have k: (decide (x.c.a<8)&& !x.s.born (x.c.a % 8))= !x.s.born x.c.a:=by rw[an2 a];simp[a]
  have j:=λbk=> @auj x bk x.c.a a
  have s1:=λ (y:aB) bk v=> @ais y bk x.c.a v a
  have s2:=λ (y:aB) bk v=> @auk y bk x.c.a v a
  have i:936+x.c.a<=963:=by omega
  have h:944+x.c.a<=963:=by omega
  simp only[F1,go_sem,simprocAttr,Ky,c,ho.g,ho.s,ho.g2,ho.s2,↓CL,CS,e,l,i,h,↓j,f,s1,s2,dV,dW,EP,jq,OL c];have d:rj x=ask (!x.s.born x.c.a) 2>>=λ_=>.ok ({x with s:={x.s with alive:=av x.s.alive x.c.a true,born:=av x.s.born x.c.a true}},bO):=by unfold rj;rw[k];rfl
  rw[d]
  (repeat' (first| (refine⟨?_,?_⟩)|intro _))<;>(simp only[okB,da, *];first|exact bh.err ho|exact bh.set rfl rfl)
 ·have e: ¬(x.c.a:Int)<8:=by omega
  have f: ∀H lo,D XA (.fn (.func 161) [] []) [.bool false,.int .i64 2] ⟨H,lo⟩=_:=λH lo=>lx (z7 2 H lo)
  have d:rj x= .error 2:=by unfold rj;rw[adZ a];rfl
  simp only[F1,go_sem,simprocAttr,Ky,c,ho.g,↓CL,e,f,EP,jq];rw[d];exact bh.err ho
theorem auX: ∃h,D XA (.fn (.func 267) [] []) [.ptr p 0] ⟨H,lo⟩=some h/\bh x.back bk p H lo (pX x) h:=by
 refine cz Kw λN d=>?_
 have b:=λH lo=>lx (z6 x.s.O hx.s.O x.s.T hx.s.T hx.s.tr x.c.s hx.c.s H lo)
 have f:=λH lo=>auD x.s.T hx.s.T hx.s.tr x.c.r (min x.c.a 8) x.c.s (decide ((bt x.s.O x.s.T x.c.s).kind=3)) hx.c.r hx.c.s (aiN hx.c.a) H lo
 have em: ((min x.c.a 8:Nat):Int)=min (x.c.a:Int) 8:=by omega
 have c:decide ((bt x.s.O x.s.T x.c.s).kind=3)=decide (((bt x.s.O x.s.T x.c.s).kind:Int)=3):=afS.2 (by omega);simp only[em,c]at f;by_cases e:x.c.s=0
 ·have a:decide ((x.c.s:Int)=0)=true:=ad0 (by omega);simp(disch:=omega) only[F1,go_sem,simprocAttr,Kw,d,ho.g,ho.s,↓CL,CS,M1 ho hx x.c.r hx.c.r,a,b,jG,f,λH=>hZ (mK x.s.T x.c.r (min x.c.a 8) x.c.s (decide (((bt x.s.O x.s.T x.c.s).kind:Int)=3))).2 H,dV,dW,EP,OL d,cU];have g:pX x=fY x x.c.r 1>>=λ_=>cp (mK x.s.T x.c.r (min x.c.a 8) x.c.s (decide (((bt x.s.O x.s.T x.c.s).kind:Int)=3))).2>>=λ_=>.ok (x.t (mK x.s.T x.c.r (min x.c.a 8) x.c.s (decide (((bt x.s.O x.s.T x.c.s).kind:Int)=3))).1,bO):=by
   unfold pX;rw[ada (by simpa using e),c];rfl
  rw[g];clear e a c em
  (repeat' (first| (refine⟨?_,?_⟩)|intro _))<;>(simp only[okB,da, *];first|exact bh.err ho|exact bh.set rfl rfl)
 ·have a:decide ((x.c.s:Int)=0)=false:=adZ (by omega);simp(disch:=omega) only[F1,go_sem,simprocAttr,Kw,d,ho.g,ho.s,↓CL,CS,M1 ho hx x.c.r hx.c.r,M0 ho hx x.c.s hx.c.s,a,b,jG,f,λH=>hZ (mK x.s.T x.c.r (min x.c.a 8) x.c.s (decide (((bt x.s.O x.s.T x.c.s).kind:Int)=3))).2 H,dV,dW,EP,OL d,cU];have g:pX x=fY x x.c.r 1>>=λ_=>fY x x.c.s 0>>=λ_=>cp (mK x.s.T x.c.r (min x.c.a 8) x.c.s (decide (((bt x.s.O x.s.T x.c.s).kind:Int)=3))).2>>=λ_=>.ok (x.t (mK x.s.T x.c.r (min x.c.a 8) x.c.s (decide (((bt x.s.O x.s.T x.c.s).kind:Int)=3))).1,bO):=by
   unfold pX;rw[adV (by simpa using e),c];rfl
  rw[g];clear e a c em
  (repeat' (first| (refine⟨?_,?_⟩)|intro _))<;>(simp only[okB,da, *];first|exact bh.err ho|exact bh.set rfl rfl)
end
theorem vF: (x.t t).c=x.c/\ (x.t t).aa=x.aa/\ (x.t t).s.T=t/\ (x.t t).s.O=x.s.O/\ (x.t t).s.K=x.s.K/\ (x.t t).s.cw=x.s.cw/\ (x.t t).run=x.run:=⟨rfl,rfl,rfl,rfl,rfl,rfl,rfl⟩
theorem L1{t:bI}: (x.o t).c=x.c/\ (x.o t).aa=x.aa/\ (x.o t).s.O=t/\ (x.o t).s.T=x.s.T/\ (x.o t).s.K=x.s.K/\ (x.o t).s.cw=x.s.cw:=⟨rfl,rfl,rfl,rfl,rfl,rfl⟩
theorem aiO: (x.bx i b).c=x.c/\ (x.bx i b).aa=x.aa/\ (x.bx i b).s.O=x.s.O/\ (x.bx i b).s.T=x.s.T/\ (x.bx i b).s.K=x.s.K/\ (x.bx i b).s.cw=av x.s.cw i b:=⟨rfl,rfl,rfl,rfl,rfl,rfl⟩
section
variable{x:aB}{bk:AV}{p:Nat}{H:List ae}{lo:oN}(ho:Old p H (.box (bb x bk) none))(hx:mR x)
include ho hx
omit ho hx in
theorem bh.mS:bh x.back bk p H lo (.error e) (.panic (jo e) ⟨H.set p (.box (bb y bk) none),lo⟩):=⟨y,rfl⟩
theorem auY: ∃f,D XA (.fn (.func 257) [] []) [.ptr p 0] ⟨H,lo⟩=some f/\bh x.back bk p H lo (w9 x) f:=by
 refine cz Rx λN e=>?_
 have c:=λH lo=>lx (zV x.s.T hx.s.T hx.s.tr x.c.r hx.c.r H lo)
 have g:decide (root x.s.T x.c.r≠x.c.r)=decide (¬((root x.s.T x.c.r:Nat):Int)=x.c.r):=afS.2 (by omega);have d: ∀b H lo,D XA (.fn (.func 161) [] []) [.bool b,.int .i64 12] ⟨H,lo⟩=_:=λb=>lD b 12
 have a:bf (x.t (iU x.s.T x.c.r).1).s:=hx.s.ug (hx.s.dw.cut _);have hw:=λB lo=>L0 (x:=x.t (iU x.s.T x.c.r).1) (bk:=bk) ((ho.set _).app B) lo a x.c.r hx.c.r x.aa (by have:=hx.t;omega)
 simp only[F1,go_sem,simprocAttr,Rx,e,ho.g,ho.s,ho.g2,ho.s2,↓CL,M2 ho hx x.c.r hx.c.r,c,d,λB lo=>TX (ho.app B) lo hx.s x.c.r hx.c.r,hw,vF,dV,dW,EP,jq,OL e]
 (repeat' (first| (refine⟨?_,?_⟩)|intro _))<;>(simp only[w9,vq,mM,vF,gS,okB,da, *];first|exact bh.err ho|exact bh.mS|exact bh.set rfl rfl)
theorem auZ: ∃c,D XA (.fn (.func 259) [] []) [.ptr p 0] ⟨H,lo⟩=some c/\bh x.back bk p H lo (xb x) c:=by
 refine cz Rz λN b=>?_
 have a:=hx.s.dw.cut x.c.r;have hw:=λH lo=>lx (atG x.s.O (iU x.s.T x.c.r).1 a.ok a.tr x.c.r hx.c.r x.aa (by have:=hx.t;omega) H lo)
 simp only[F1,go_sem,simprocAttr,Rz,b,ho.g,ho.s,ho.g2,ho.s2,↓CL,CS,M2 ho hx x.c.r hx.c.r,λB lo=>TX (ho.app B) lo hx.s x.c.r hx.c.r,hw,vF,λH=>hZ (zD x.s.O (iU x.s.T x.c.r).1 x.c.r x.aa).2 H,dV,dW,EP,OL b,gH]
 (repeat' (first| (refine⟨?_,?_⟩)|intro _))<;>(simp only[xb,vq,vF,gS,okB,da, *];first|exact bh.err ho|exact bh.mS|exact bh.set rfl rfl)
theorem aiP: ∃t,D XA (.fn (.func 265) [] []) [.ptr p 0] ⟨H,lo⟩=some t/\bh x.back bk p H lo (pW x) t:=by
 refine cz Fs λN h=>?_
 have u:=hx.t;have s: (x.aa:Int)<8:=by omega
 have r:784+x.aa*19<=945:=by omega
 have o:=λbk=> @LN x bk x.aa hx.t
 have d:=λbk b=> @LO x bk x.aa b hx.t
 have f:=λH lo=>lx (aun (x.s.cw x.aa) (hx.s.bx _) H lo)
 have i:=(hx.s.bx x.aa).take;have l:bf (x.bx x.aa (lk (x.s.cw x.aa)).1).s:=hx.s.xy i.1;have m:=i.2.aR;have hw:=λB lo=>L0 (x:=x.bx x.aa (lk (x.s.cw x.aa)).1) (bk:=bk) ((ho.set _).app B) lo l (lk (x.s.cw x.aa)).2.1.aR m x.aa (by omega)
 generalize n:lk (x.s.cw x.aa)=g at*;simp only[oG]at f;have e:N+1+1=N+2:=rfl;by_cases j:g.2.1.aR=0
 ·have a:decide ((g.2.1.aR:Int)=0)=true:=ad0 (by omega);have k: (g.2.1.aR≠0/\g.2.1.share=false)=False:=az6 λq=>q.1 j
  simp only[F1,go_sem,simprocAttr,Fs,h,ho.g,ho.s,↓CL,CS,f,s,↓o,d,r,e,a,MB,λH=>hZ g.2.2 H,dV,dW,EP,OL h];clear j a
  (repeat' (first| (refine⟨?_,?_⟩)|intro _))<;>(simp only[pW,n,k,aiz];simp only[gS,okB,da, *];first|exact bh.err ho|exact bh.set rfl rfl)
 ·have a:decide ((g.2.1.aR:Int)=0)=false:=adZ (by omega);cases c:g.2.1.share with
  |true=>
   rw[c]at f;have k: (g.2.1.aR≠0/\g.2.1.share=false)=False:=az6 λq=>by rw[c]at q;cases q.2
   simp only[F1,go_sem,simprocAttr,Fs,h,ho.g,ho.s,↓CL,CS,f,s,↓o,d,r,e,a,MB,λH=>hZ g.2.2 H,dV,dW,EP,OL h];clear j a c
   (repeat' (first| (refine⟨?_,?_⟩)|intro _))<;>(simp only[pW,n,k,aiz];simp only[gS,okB,da, *];first|exact bh.err ho|exact bh.set rfl rfl)
  |false=>
   rw[c]at f;have k: (g.2.1.aR≠0/\g.2.1.share=false)=True:=aAg ⟨j,c⟩;simp only[F1,go_sem,simprocAttr,Fs,h,ho.g,ho.s,ho.g2,ho.s2,↓CL,CS,f,s,↓o,d,r,e,a,hw,aiO,MB,λH=>hZ g.2.2 H,dV,dW,EP,jq,OL h];clear j a c
   (repeat' (first| (refine⟨?_,?_⟩)|intro _))<;>(simp only[pW,n,k,af1];simp only[mM,aiO,gS,okB,da, *];first|exact bh.err ho|exact bh.mS|exact bh.set rfl rfl)
end
def au0(c:hU t.b): (lg t a n).2.1<4294967296:=by
 unfold lg;split
 ·simp
 ·split
  ·simp
  ·split
   ·rename_i i b;exact FI (re b).1 (c i).1
   grind
def aiQ(b:hU t.b): (fu t a n).2.1<4294967296:=by
 unfold fu;dsimp only;split
 ·simp
 ·exact au0 b
section
variable{x:aB}{bk:AV}{p:Nat}{H:List ae}{lo:oN}(ho:Old p H (.box (bb x bk) none))(hx:mR x)
include ho hx
theorem au1: ∃i,D XA (.fn (.func 251) [] []) [.ptr p 0] ⟨H,lo⟩=some i/\bh x.back bk p H lo (sT x) i:=by
 refine cz Kt λN d=>?_
 have j:=hx.t;have g:=λH lo=>lx (atl x.s.T hx.s.T hx.s.tr x.c.r (min x.c.a 65) hx.c.r H lo)
 have em: ((min x.c.a 65:Nat):Int)=min (x.c.a:Int) 65:=by omega
 have e:bf (x.t (fu x.s.T x.c.r (min x.c.a 65)).1).s:=hx.s.ug (hx.s.dw.new _ _ hx.c.r);have f: (fu x.s.T x.c.r (min x.c.a 65)).2.1<4294967296:=aiQ hx.s.T.b;have hw:=λB lo=>L0 (x:=x.t (fu x.s.T x.c.r (min x.c.a 65)).1) (bk:=bk) ((ho.set _).app B) lo e _ f x.aa (by omega)
 have h:=λH=>hZ (fu x.s.T x.c.r (min x.c.a 65)).2.2 H
 have e1:sT x=(if x.c.r≠0 then fY x x.c.r 1 else .ok ())>>=λ_=>cp (fu x.s.T x.c.r (min x.c.a 65)).2.2>>=λ_=>(if x.c.r=0 then mM (x.t (fu x.s.T x.c.r (min x.c.a 65)).1) (fu x.s.T x.c.r (min x.c.a 65)).2.1 x.aa else .ok (x.t (fu x.s.T x.c.r (min x.c.a 65)).1))>>=λy=>.ok (y,{bO with w:=(fu x.s.T x.c.r (min x.c.a 65)).2.1}):=by
  unfold sT;by_cases q:x.c.r=0
  ·rw[ada (by simpa using q),ada (by simpa using q)];simp only[adV q];rfl
  ·rw[adV (by simpa using q),adV (by simpa using q)];simp only[ada q];rfl
 simp only[zZ,em]at g;generalize fu x.s.T x.c.r (min x.c.a 65)=n at*;rw[e1];by_cases b:x.c.r=0
 ·have a:decide ((x.c.r:Int)=0)=true:=ad0 (by omega);have c: (x.c.r≠0)=False:=az6 λq=>q b
  have e3: (x.c.r=0)=True:=aAg b;simp only[c,e3,aiz,af1];simp(disch:=omega) only[F1,go_sem,simprocAttr,Kt,d,ho.g,ho.s,ho.g2,ho.s2,↓CL,CS,g,a,h,hw,vF,cU,dV,dW,EP,OL d];clear b a c e3
  (repeat' (first| (refine⟨?_,?_⟩)|intro _))<;>(simp only[mM,vF,gS,okB,da, *];first|exact bh.err ho|exact bh.mS|exact bh.set rfl rfl)
 ·have a:decide ((x.c.r:Int)=0)=false:=adZ (by omega);have c: (x.c.r≠0)=True:=aAg b;have e3: (x.c.r=0)=False:=az6 b;simp only[c,e3,aiz,af1];simp(disch:=omega) only[F1,go_sem,simprocAttr,Kt,d,ho.g,ho.s,ho.g2,↓CL,CS,M1 ho hx x.c.r hx.c.r,g,a,h,vF,cU,dV,dW,EP,OL d];clear b a c e3
  (repeat' (first| (refine⟨?_,?_⟩)|intro _))<;>(simp only[okB,da, *];first|exact bh.err ho|exact bh.mS|exact bh.set rfl rfl)
theorem au2: ∃I,D XA (.fn (.func 262) [] []) [.ptr p 0] ⟨H,lo⟩=some I/\bh x.back bk p H lo (ri x) I:=by
 refine cz zl λN h=>?_
 have M:=hx.t;have l:=λB lo=>LY (ho.app B) lo x.c.a
 by_cases G:x.c.a<8
 ·have y: ∀b H lo,D XA (.fn (.func 161) [] []) [.bool b,.int .i64 2] ⟨H,lo⟩=_:=λb=>lD b 2
  have v: ∀b H lo,D XA (.fn (.func 161) [] []) [.bool b,.int .i64 4] ⟨H,lo⟩=_:=λb=>lD b 4
  have u: ∀b H lo,D XA (.fn (.func 161) [] []) [.bool b,.int .i64 5] ⟨H,lo⟩=_:=λb=>lD b 5
  have L:decide (x.c.b<=1)=decide ((x.c.b:Int)<=1):=afS.2 (by omega);have s:decide (x.c.b=1)=decide ((x.c.b:Int)=1):=afS.2 (by omega);have d:=λH lo=>lx (eH x.s.T.b x.c.r hx.c.r H lo)
  have C:au x.s.T.b x.c.r=x.s.T.au x.c.r:=rfl;rw[C]at d;have o:=λH lo=>ly (atU x.s.K hx.s.K ⟨x.c.r,x.aa % 256,x.c.a % 256,decide (x.c.b=1),x.c.s⟩ ⟨hx.c.r,aoe _ (by omega),aoe _ (by omega),hx.c.s⟩ H lo)
  have F:x.aa % 256=x.aa:=an2 (by omega);have E:x.c.a % 256=x.c.a:=an2 (by omega);simp only[nA,F,E,s]at o;have t:=λH=>hZ (lh x.s.K ⟨x.c.r,x.aa,x.c.a,decide ((x.c.b:Int)=1),x.c.s⟩).2.2 H
  have k:=λH lo=>lx (z6 x.s.O hx.s.O x.s.T hx.s.T hx.s.tr x.c.r hx.c.r H lo)
  have A:=hx.s.O.of x.s.T x.c.r;have j:=λH lo=>lx (Ck x.s.K hx.s.K x.c.s hx.c.s H lo)
  have z:=hx.s.K.get x.c.s;have e1:ri x=mL x x.c.a>>=λ_=>ask (decide ((x.c.b:Int)<=1)) 2>>=λ_=>ask (x.s.T.au x.c.r) 4>>=λ_=>(if x.c.s=0 then ask (decide ((bt x.s.O x.s.T x.c.r).kind=1)&&decide ((bt x.s.O x.s.T x.c.r).aa=x.aa)) 5 else cp (cn x.s.K x.c.s).2>>=λ_=>ask (decide ((cn x.s.K x.c.s).1.to=x.aa)&&decide ((cn x.s.K x.c.s).1.aR=x.c.r)) 5)>>=λ_=>
    cp (lh x.s.K ⟨x.c.r,x.aa,x.c.a,decide ((x.c.b:Int)=1),x.c.s⟩).2.2>>=λ_=>.ok (x.k (lh x.s.K ⟨x.c.r,x.aa,x.c.a,decide ((x.c.b:Int)=1),x.c.s⟩).1,{bO with w:=(lh x.s.K ⟨x.c.r,x.aa,x.c.a,decide ((x.c.b:Int)=1),x.c.s⟩).2.1}):=by
   unfold ri;rw[L,s,F,E];by_cases q:x.c.s=0
   ·simp only[adV q];rfl
   ·simp only[ada q];cases mL x x.c.a with
    |error e=>rfl
    |ok _=>
     simp only[okB];cases ask (decide ((x.c.b:Int)<=1)) 2 with
     |error e=>rfl
     |ok _=>
      simp only[okB];cases ask (x.s.T.au x.c.r) 4 with
      |error e=>rfl
      |ok _=>
       simp only[okB];cases cp (cn x.s.K x.c.s).2<;>rfl
  rw[e1];generalize lh x.s.K ⟨x.c.r,x.aa,x.c.a,decide ((x.c.b:Int)=1),x.c.s⟩=g at*;generalize bt x.s.O x.s.T x.c.r=w at*;generalize cn x.s.K x.c.s=tg at*;simp only[jG]at k;by_cases m:x.c.s=0
  ·have c:decide ((x.c.s:Int)=0)=true:=ad0 (by omega);have e3: (x.c.s=0)=True:=aAg m;simp only[e3,af1];by_cases f:w.kind=1
   ·have a:decide ((w.kind:Int)=1)=true:=ad0 (by omega);have r:decide (w.aa=x.aa)=decide ((w.aa:Int)=x.aa):=afS.2 (by omega);have J:=A.aa;simp only[f,r,decide_true,al1];simp(disch:=omega) only[F1,go_sem,simprocAttr,zl,h,ho.g,ho.s,↓CL,CS,l,y,d,v,c,k,a,u,o,t,qd,dV,dW,EP,jq,OL h];clear m c e3 f a r
    (repeat' (first| (refine⟨?_,?_⟩)|intro _))<;>(simp only[okB,da, *];first|exact bh.err ho|exact bh.mS|exact bh.set rfl rfl)
   ·have a:decide ((w.kind:Int)=1)=false:=adZ (by omega);have i:decide (w.kind=1)=false:=adZ f;simp only[i,ahj];simp(disch:=omega) only[F1,go_sem,simprocAttr,zl,h,ho.g,ho.s,↓CL,CS,l,y,d,v,c,k,a,u,o,t,qd,dV,dW,EP,jq,OL h];clear m c e3 f a i
    (repeat' (first| (refine⟨?_,?_⟩)|intro _))<;>(simp only[okB,da, *];first|exact bh.err ho|exact bh.mS|exact bh.set rfl rfl)
  ·have c:decide ((x.c.s:Int)=0)=false:=adZ (by omega);have e3: (x.c.s=0)=False:=az6 m;simp only[e3,aiz];simp only[fL]at j;have K:=z.to;have n:=λH=>hZ tg.2 H
   by_cases f:tg.1.to=x.aa
   ·have a:decide ((tg.1.to:Int)=x.aa)=true:=ad0 (by omega);have r:decide (tg.1.aR=x.c.r)=decide ((tg.1.aR:Int)=x.c.r):=afS.2 (by omega);have i:decide (tg.1.to=x.aa)=true:=ad0 f;simp only[i,r,al1];simp(disch:=omega) only[F1,go_sem,simprocAttr,zl,h,ho.g,ho.s,↓CL,CS,l,y,d,v,c,j,n,a,u,o,t,qd,dV,dW,EP,jq,OL h];clear m c e3 f a i r
    (repeat' (first| (refine⟨?_,?_⟩)|intro _))<;>(simp only[okB,da, *];first|exact bh.err ho|exact bh.mS|exact bh.set rfl rfl)
   ·have a:decide ((tg.1.to:Int)=x.aa)=false:=adZ (by omega);have i:decide (tg.1.to=x.aa)=false:=adZ f;simp only[i,ahj];simp(disch:=omega) only[F1,go_sem,simprocAttr,zl,h,ho.g,ho.s,↓CL,CS,l,y,d,v,c,j,n,a,u,o,t,qd,dV,dW,EP,jq,OL h];clear m c e3 f a i
    (repeat' (first| (refine⟨?_,?_⟩)|intro _))<;>(simp only[okB,da, *];first|exact bh.err ho|exact bh.mS|exact bh.set rfl rfl)
 ·rw[xz G]at l;simp(disch:=omega) only[F1,go_sem,simprocAttr,zl,h,ho.g,↓CL,l,ef,EP];simp only[ri,da,xz G];exact bh.err ho
end
section
variable{x:aB}{bk:AV}{p:Nat}{H:List ae}{lo:oN}(ho:Old p H (.box (bb x bk) none))(hx:mR x)
include ho hx
theorem au3: ∃E,D XA (.fn (.func 264) [] []) [.ptr p 0] ⟨H,lo⟩=some E/\bh x.back bk p H lo (oA x) E:=by
 refine cz zm λN f=>?_
 have G:=hx.t;have l:=λB lo=>LY (ho.app B) lo x.c.a
 by_cases u:x.c.a<8
 ·have w: (x.c.a:Int)<8:=by omega
  have v:784+x.c.a*19<=945:=by omega
  have t:=λ (y:aB) bk=> @LN y bk x.c.a u
  have d:=λ (y:aB) bk b=> @LO y bk x.c.a b u
  have z: ∀b H lo,D XA (.fn (.func 161) [] []) [.bool b,.int .i64 2] ⟨H,lo⟩=_:=λb=>lD b 2
  have i:decide (x.c.b<=1)=decide ((x.c.b:Int)<=1):=afS.2 (by omega);have g:x.aa % 256=x.aa:=an2 (by omega);have F:=hx.c.v;by_cases h:x.c.r=0
  ·have a:decide ((x.c.r:Int)=0)=true:=ad0 (by omega);have j: (x.c.r≠0)=False:=az6 λq=>q h
   have es: (decide (x.c.r≠0)&&decide (x.c.b=1))=false:=by rw[adZ (by simpa using h)];rfl
   have e:=λH lo=>lx (TM (x.s.cw x.c.a) (hx.s.bx _) ⟨x.aa,x.c.v,x.c.r,false⟩ H lo)
   simp only[oG]at e;have m:=λH=>hZ (mJ (x.s.cw x.c.a) ⟨x.aa,x.c.v,x.c.r,false⟩).2 H
   simp(disch:=omega) only[F1,go_sem,simprocAttr,zm,f,ho.g,ho.s,↓CL,CS,l,z,a,w,v,↓t,d,e,m,MB,dV,dW,EP,OL f];simp only[oA,es,afG,aiz,i,g];simp only[j,aiz];clear h a j es i g
   (repeat' (first| (refine⟨?_,?_⟩)|intro _))<;>(simp only[gS,okB,da, *];first|exact bh.err ho|exact bh.mS|exact bh.set rfl rfl)
  ·have a:decide ((x.c.r:Int)=0)=false:=adZ (by omega);have j: (x.c.r≠0)=True:=aAg h;by_cases s:x.c.b=1
   ·have c:decide ((x.c.b:Int)=1)=true:=ad0 (by omega);have es: (decide (x.c.r≠0)&&decide (x.c.b=1))=true:=by rw[ad0 (by simpa using h),ad0 s];rfl
    have r:=λH lo=>lx (ahI x.s.O hx.s.O x.s.T hx.s.T hx.s.tr x.c.r hx.c.r x.c.a (by omega) H lo)
    have e:=λH lo=>lx (TM (x.s.cw x.c.a) (hx.s.bx _) ⟨x.aa,x.c.v,x.c.r,true⟩ H lo)
    simp only[oG]at e;have m:=λH=>hZ (mJ (x.s.cw x.c.a) ⟨x.aa,x.c.v,x.c.r,true⟩).2 H
    by_cases k: (c9 x.s.O x.s.T x.c.r x.c.a true).2.2=0
    ·have k':decide (((c9 x.s.O x.s.T x.c.r x.c.a true).2.2:Int)=0)=true:=ad0 (by omega);simp(disch:=omega) only[F1,go_sem,simprocAttr,zm,f,ho.g,ho.s,ho.g2,ho.s2,↓CL,CS,l,z,a,c,λB lo=>F5 (ho.app B) lo hx.s hx.t x.c.r hx.c.r,r,k',w,v,↓t,d,e,m,MB,gH,L1,dV,dW,EP,OL f];simp only[oA,es,af1,i,g,vu];have n: ((c9 x.s.O x.s.T x.c.r x.c.a true).2.2=0)=True:=aAg k;simp only[n,af1];clear h a j es i g k k' n s c
     (repeat' (first| (refine⟨?_,?_⟩)|intro _))<;>(simp only[L1,gS,okB,da, *];first|exact bh.err ho|exact bh.mS|exact bh.set rfl rfl)
    ·have k':decide (((c9 x.s.O x.s.T x.c.r x.c.a true).2.2:Int)=0)=false:=adZ (by omega);simp(disch:=omega) only[F1,go_sem,simprocAttr,zm,f,ho.g,ho.s,↓CL,CS,l,z,a,c,λB lo=>F5 (ho.app B) lo hx.s hx.t x.c.r hx.c.r,r,k',w,v,↓t,d,e,m,MB,gH,dV,dW,EP,OL f];simp only[oA,es,af1,i,g,vu];have n: ((c9 x.s.O x.s.T x.c.r x.c.a true).2.2=0)=False:=az6 k;simp only[n,aiz];clear h a j es i g k k' n s c
     (repeat' (first| (refine⟨?_,?_⟩)|intro _))<;>(simp only[gS,okB,da, *];first|exact bh.err ho|exact bh.mS|exact bh.set rfl rfl)
   ·have c:decide ((x.c.b:Int)=1)=false:=adZ (by omega);have es: (decide (x.c.r≠0)&&decide (x.c.b=1))=false:=by rw[adZ s,aqZ]
    have o:=hx.s.dw.cut x.c.r;have A:=λH lo=>lx (atH x.s.O (iU x.s.T x.c.r).1 o.ok o.tr x.c.r hx.c.r H lo)
    have C:=λH=>hZ (wZ x.s.O (iU x.s.T x.c.r).1 x.c.r).2 H
    have e:=λH lo=>lx (TM (x.s.cw x.c.a) (hx.s.bx _) ⟨x.aa,x.c.v,x.c.r,false⟩ H lo)
    simp only[oG]at e;have m:=λH=>hZ (mJ (x.s.cw x.c.a) ⟨x.aa,x.c.v,x.c.r,false⟩).2 H
    simp(disch:=omega) only[F1,go_sem,simprocAttr,zm,f,ho.g,ho.s,ho.g2,ho.s2,↓CL,CS,l,z,a,c,M2 ho hx x.c.r hx.c.r,λB lo=>TX (ho.app B) lo hx.s x.c.r hx.c.r,A,C,w,v,↓t,d,e,m,MB,gH,L1,vF,dV,dW,EP,OL f];simp only[oA,es,afG,aiz,i,g];simp only[j,af1];clear h a j es i g s c
    (repeat' (first| (refine⟨?_,?_⟩)|intro _))<;>(simp only[vq,vF,L1,gS,okB,da, *];first|exact bh.err ho|exact bh.mS|exact bh.set rfl rfl)
 ·rw[xz u]at l;simp(disch:=omega) only[F1,go_sem,simprocAttr,zm,f,ho.g,↓CL,l,ef,EP];simp only[oA,da,xz u];exact bh.err ho
end
theorem TZ{r:dm}{l:List aD}:aK (bR r) 2 [ed l,.int .i64 n]=bR {r with runs:=l,len:=n}:=rfl
def aiR(l:List aD)(r:aD):aM (l++[r])=aM l+r.2:=by unfold aM;simp
def Cw{l:List aD}{s:Nat}(h:hY l n s a=some k):k+s<=aM l*32:=by
 unfold hY at h
 grind
section
variable{x:aB}{bk:AV}{p:Nat}{H:List ae}{lo:oN}(ho:Old p H (.box (bb x bk) none))(hx:mR x)
include ho hx
theorem au4: ∃cr,D XA (.fn (.func 252) [] []) [.ptr p 0] ⟨H,lo⟩=some cr/\bh x.back bk p H lo (ll x) cr:=by
 refine cz zk λN G=>?_
 have ht:=hx.t;have o: ((min x.c.a 129:Nat):Int)=min (x.c.a:Int) 129:=by omega
 have m: ((min x.c.b 9:Nat):Int)=min (x.c.b:Int) 9:=by omega
 have u:min x.c.a 129<2147483648:=by omega
 have F:min x.c.b 9<2147483648:=by omega
 have d:=λH lo=>lx (atf (min x.c.a 129) (min x.c.b 9) u F H lo)
 have T: ∀b H lo,D XA (.fn (.func 161) [] []) [.bool b,.int .i64 2] ⟨H,lo⟩=_:=λb=>lD b 2
 have W: ∀b H lo,D XA (.fn (.func 161) [] []) [.bool b,.int .i64 6] ⟨H,lo⟩=_:=λb=>lD b 6
 have E:=M1 ho hx x.c.r hx.c.r;have z:=λB lo=>LZ (ho.app B) lo hx.s x.c.r hx.c.r
 have I:=hx.s.T.get x.c.r;have a:=I.rb;have uO:=I.len;have J: ∀l:List aD,(ed l).refs=0:=λl=>cK (mG l) (bB (λ_=>rfl) l)
 have hrp:=I.aM;cases C:oz (min x.c.a 129) (min x.c.b 9)with
 |none=>
  rw[C]at d;simp only[o,m]at d;simp(disch:=omega) only[F1,go_sem,simprocAttr,zk,G,ho.g,↓CL,d,T,ask,ef,EP];simp only[ll,C,da];exact bh.err ho
 |some n=>
  have hn5:n<=5:=by
   unfold oz at C;split at C
   ·cases C;omega
   ·cases C
  have f:=λH lo=>lx (ahv (ed (aN x.s.T x.c.r).1.runs) (aN x.s.T x.c.r).1.len (aN x.s.T x.c.r).1.runs (by omega) (mG _) a.1 (min x.c.a 129) (min x.c.b 9) u F H lo)
  have i:=λH lo=>lx (ahw (ed (aN x.s.T x.c.r).1.runs) (aN x.s.T x.c.r).1.len (aN x.s.T x.c.r).1.runs (by omega) (mG _) a.1 (min x.c.a 129) (min x.c.b 9) u F H lo)
  rw[C]at d;cases O:hY (aN x.s.T x.c.r).1.runs (aN x.s.T x.c.r).1.len (min x.c.a 129) (min x.c.b 9)with
  |some k=>
   have hk:=Cw O;have V:vz (aN x.s.T x.c.r).1.runs (aN x.s.T x.c.r).1.len (min x.c.a 129) (min x.c.b 9)=k+min x.c.a 129:=by unfold vz;rw[O]
   have e:=λB lo=>TY (ho.app B) lo hx.s x.c.r hx.c.r {(aN x.s.T x.c.r).1 with len:=k+min x.c.a 129} a.1 (by have:=a.2;show(aN x.s.T x.c.r).1.runs.length<=65;omega) (by show k+min x.c.a 129<4294967296;omega)
   rw[V,O]at i;simp only[O,xm]at f;generalize hsv:min x.c.a 129=sz at*;generalize hav:min x.c.b 9=al at*;have U:aK (bR (aN x.s.T x.c.r).1) 2 [ed (aN x.s.T x.c.r).1.runs,.int .i64 ((k:Int)+sz)]=bR {(aN x.s.T x.c.r).1 with len:=k+sz}:=by
    rw[<-amS];exact TZ
   simp(disch:=omega) only[F1,go_sem,simprocAttr,zk,G,ho.g,ho.s,↓CL,d,T,E,z,f,i,e,U,J,<-o,<-m,jI,dV,dW,EP,jq,OL G];have L:=Ab (x:=x) (h:=x.c.r) (w:=1)
   (repeat' (first| (refine⟨?_,?_⟩)|intro _))<;>first
     | (simp only[ll,nq,gS,okB,da, *];first|exact bh.err ho|exact bh.set rfl rfl)
     | (exfalso;simp_all[ask])
  |none=>
   have A:=λH lo=>lx (Lu (ed (aN x.s.T x.c.r).1.runs) (aN x.s.T x.c.r).1.len (aN x.s.T x.c.r).1.runs (mG _) a.1 H lo)
   have M:=λH lo=>lx (atj (ed (aN x.s.T x.c.r).1.runs) (aN x.s.T x.c.r).1.len (aN x.s.T x.c.r).1.runs (mG _) a.1 x.run H lo)
   have g:RB ((aN x.s.T x.c.r).1.runs++[x.run]):=⟨by have:=a.2;simp;omega,λy hy=>by
    rcases aeq.1 hy with q|q
    ·exact a.1.2 y q
    ·rw[afD.1 q];exact hx.run⟩
   have S: ((aN x.s.T x.c.r).1.runs++[x.run]).length<=65:=by have:=a.2;simp;omega
   have yE:=aiR (aN x.s.T x.c.r).1.runs x.run;have j:aM (aN x.s.T x.c.r).1.runs*32<4294967296:=by omega
   have R:=λH lo=>lx (ahu (ed ((aN x.s.T x.c.r).1.runs++[x.run])) (aM (aN x.s.T x.c.r).1.runs*32) ((aN x.s.T x.c.r).1.runs++[x.run]) j (mG _) g S H lo)
   have i:=λH lo=>lx (ahw (ed ((aN x.s.T x.c.r).1.runs++[x.run])) (aM (aN x.s.T x.c.r).1.runs*32) ((aN x.s.T x.c.r).1.runs++[x.run]) j (mG _) g (min x.c.a 129) (min x.c.b 9) u F H lo)
   have K:decide (aM (aN x.s.T x.c.r).1.runs+n<=(aN x.s.T x.c.r).1.dn)=decide (((aM (aN x.s.T x.c.r).1.runs:Nat):Int)+n<=(aN x.s.T x.c.r).1.dn):=afS.2 (by omega);have t:IntKind.i64.wrap ((aM (aN x.s.T x.c.r).1.runs:Nat)+(n:Int))=(aM (aN x.s.T x.c.r).1.runs:Nat)+(n:Int):=wrap_i64 (by omega) (by omega);simp only[O,xm]at f;cases has:x.asks with
   |true=>
    simp(disch:=omega) only[F1,go_sem,simprocAttr,zk,G,ho.g,ho.s,ho.g2,↓CL,CS,d,T,W,E,z,f,A,t,has,<-o,<-m,jI,dV,dW,EP,jq,OL G];have L:=Ab (x:=x) (h:=x.c.r) (w:=1)
    (repeat' (first| (refine⟨?_,?_⟩)|intro _))<;>first
      | (simp only[ll,gS,okB,da,af1, *];first|exact bh.err ho|exact bh.set rfl rfl)
      | (exfalso;simp_all[ask])
   |false=>
    by_cases Z:x.run.2=n
    ·have r:decide ((x.run.2:Int)=n)=true:=ad0 (by omega);have Q:vz ((aN x.s.T x.c.r).1.runs++[x.run]) (aM (aN x.s.T x.c.r).1.runs*32) (min x.c.a 129) (min x.c.b 9)<4294967296:=by
      unfold vz;split
      ·rename_i q;have:=Cw q;omega
      ·omega
     have P:IntKind.u64.wrap (((hY ((aN x.s.T x.c.r).1.runs++[x.run]) (aM (aN x.s.T x.c.r).1.runs*32) (min x.c.a 129) (min x.c.b 9)).getD 0:Nat):Int)=((hY ((aN x.s.T x.c.r).1.runs++[x.run]) (aM (aN x.s.T x.c.r).1.runs*32) (min x.c.a 129) (min x.c.b 9)).getD 0:Nat):=by
      cases q:hY ((aN x.s.T x.c.r).1.runs++[x.run]) (aM (aN x.s.T x.c.r).1.runs*32) (min x.c.a 129) (min x.c.b 9)with
      |none=>rfl
      |some k=>have:=Cw q;exact wrap_u64 (by simp) (by simp;omega)
     have e1:ll x=fY x x.c.r 1>>=λ_=>cp (aN x.s.T x.c.r).2>>=λ_=>ask (decide (((aM (aN x.s.T x.c.r).1.runs:Nat):Int)+n<=(aN x.s.T x.c.r).1.dn)) 6>>=λ_=>ask (pU ((aN x.s.T x.c.r).1.runs++[x.run]) (aM (aN x.s.T x.c.r).1.runs*32)) 2>>=λ_=>
       nq {s:=x.s,aa:=x.aa,c:=x.c,run:=x.run,mb:=n,asks:=false,back:=x.back} x.c.r {(aN x.s.T x.c.r).1 with runs:=(aN x.s.T x.c.r).1.runs++[x.run],len:=vz ((aN x.s.T x.c.r).1.runs++[x.run]) (aM (aN x.s.T x.c.r).1.runs*32) (min x.c.a 129) (min x.c.b 9)}>>=λy=>
       .ok (y,{bO with v:=(hY ((aN x.s.T x.c.r).1.runs++[x.run]) (aM (aN x.s.T x.c.r).1.runs*32) (min x.c.a 129) (min x.c.b 9)).getD 0}):=by
      unfold ll;simp only[C,O,K,has,Z,decide_true,al1,afG,aiz,gS,okB];rfl
     have e:=λB lo=>TY (x:={s:=x.s,aa:=x.aa,c:=x.c,run:=x.run,mb:=n,asks:=false,back:=x.back}) (bk:=bk) ((ho.set _).app B) lo hx.s x.c.r hx.c.r
      {(aN x.s.T x.c.r).1 with runs:=(aN x.s.T x.c.r).1.runs++[x.run],len:=vz ((aN x.s.T x.c.r).1.runs++[x.run]) (aM (aN x.s.T x.c.r).1.runs*32) (min x.c.a 129) (min x.c.b 9)} g S Q
     simp(disch:=omega) only[F1,go_sem,simprocAttr,zk,G,ho.g,ho.s,ho.g2,ho.s2,↓CL,CS,d,T,W,E,z,f,A,M,t,has,J,r,R,i,e,P,TZ,<-o,<-m,jI,dV,dW,EP,jq,OL G];have L:=Ab (x:=x) (h:=x.c.r) (w:=1);rw[e1];clear e Q P r e1 R i M A K t j
     (repeat' (first| (refine⟨?_,?_⟩)|intro _))<;>first
       | (simp only[nq,gS,okB,da, *];first|exact bh.err ho|exact bh.mS|exact bh.set rfl rfl)
       | (exfalso;simp_all[ask])
    ·have r:decide ((x.run.2:Int)=n)=false:=adZ (by omega);have e1:ll x=fY x x.c.r 1>>=λ_=>cp (aN x.s.T x.c.r).2>>=λ_=>ask (decide (((aM (aN x.s.T x.c.r).1.runs:Nat):Int)+n<=(aN x.s.T x.c.r).1.dn)) 6>>=λ_=>.error 2:=by
      unfold ll;simp only[C,O,K,has,adZ Z,ahj,afG,aiz,gS,okB];rfl
     have Y: ∀H lo,D XA (.fn (.func 161) [] []) [.bool false,.int .i64 2] ⟨H,lo⟩=_:=λH lo=>lx (z7 2 H lo)
     have X: ∀H lo,D XA (.fn (.func 161) [] []) [.bool true,.int .i64 2] ⟨H,lo⟩=_:=λH lo=>lx (F3 2 H lo)
     simp(disch:=omega) only[F1,go_sem,simprocAttr,zk,G,ho.g,ho.s,ho.g2,↓CL,CS,d,Y,X,W,E,z,f,A,M,t,has,J,r,TZ,<-o,<-m,jI,dV,dW,EP,jq,OL G];have L:=Ab (x:=x) (h:=x.c.r) (w:=1);rw[e1]
     (repeat' (first| (refine⟨?_,?_⟩)|intro _))<;>first
       | (simp only[okB,da, *];first|exact bh.err ho|exact bh.mS|exact bh.set rfl rfl)
       | (exfalso;simp_all[ask])
end
structure bU(p:Nat)(H H':List ae):Prop where
 len:H.length<=H'.length
 low: ∀i,i<p->H'[i]?=H[i]?
 box: ∀i o,i≠p->(∀a d,o≠ .row a 2 eL d)->H[i]?=some o->H'[i]?=some o
theorem bU.refl(p:Nat)(H:List ae):bU p H H:=⟨aen _,λ_ _=>rfl,λ_ _ _ _ h=>h⟩
theorem bU.trans{A B C:List ae}(h:bU p A B)(g:bU p B C):bU p A C:=
 ⟨afY h.len g.len,λi a=>(g.low i a).trans (h.low i a),λi o a ho b=>g.box i o a ho (h.box i o a ho b)⟩
def bU.app(p:Nat)(H L:List ae)(a:p<H.length):bU p H (H++L):=⟨by simp,λi b=>ac7 (by omega),λi o _ _ h=>bc h⟩
theorem bU.set(p:Nat)(H:List ae)(o:ae):bU p H (H.set p o):=⟨by simp,λi a=>acK (by omega),λi w a _ h=>by grind⟩
theorem bU.take{N:Nat}{A B:List ae}(h:bU p A B)(d:A.length=N)(c:p<N):bU p A (B.take N):=⟨by rw[afT];have:=h.len;omega,λi a=>by rw[afV (by omega)];exact h.low i a,λi o a ho b=>by
 have:=(ac9.1 b).1;rw[afV (by omega)];exact h.box i o a ho b⟩
def bU.own{N:Nat}{A B:List ae}{ty:TypeId}{af:List lA}(h:bU p A B)(ho:aT N A v sz ty af)(k:p<N)(j:sz≠2):aT N B v sz ty af:=by
 obtain⟨i,b⟩:=ho;refine⟨i,?_⟩;rcases b with b| ⟨id,aj,g,f,c⟩
 ·grind
 ·exact .inr ⟨id,aj,g,f,h.box id _ (by omega) (λa d e=>by grind) c⟩
def aiS{E:AS}(l:List aD):Den.elems E 2 (ed l)=some (l.map aA):=by
 unfold ed;split
 ·rename_i h;rw[aAT.1 h];rfl
 ·exact aqD (by simp[SO])
structure At(p:Nat)(x:aB)(bk:AV)(H:List ae):Prop where
 box:H[p]?=some (.box (bb x bk) none)
 own:aT (p+1) H bk 2 eL (x.back.map aA)
def vG(Q:Prop)(p:Nat)(H H':List ae)(lo ak:oN):Prop:=(ak=lo/\H'.length=H.length/\Q)\/ak=cL lo p
def aiT(l:lN): ∀x:aB,(l.foldl gi x).s.T=x.s.T:=by
 induction l with
 |nil=>simp
 |cons h l a=>intro x;exact a _
def T0(l:lN): ∀x:aB,bf x.s->bf (l.foldl gi x).s:=by
 induction l with
 |nil=>simp
 |cons h l b=>intro x a;exact b _ (a.Aa (a.tok.clear h))
def aiU(l:lN): ∀x:aB,bS x.s.T->(l.foldl gi x).back.length<=x.back.length+64*l.length:=by
 induction l with
 |nil=>simp
 |cons h l b=>
  intro x a;have e:=b (gi x h) a;have d: (gi x h).back.length=x.back.length+(aN x.s.T h).1.runs.length:=by simp[gi]
  have c:=(a.get h).rb.2
  grind
def au5{x:aB}{l:lN}{k:Nat}(h:k<l.length): (l.take (k+1)).foldl gi x=gi ((l.take k).foldl gi x) (l.getD k default):=by grind [List.take_add_one,List.getElem?_eq_getElem,getD_eq]
def vH{H:List ae}(a:p<n):finish n lo v ⟨H,some p⟩=(v,⟨H,cL lo p⟩):=by
 unfold finish;rw[ada (by grind)];rfl
def T1{H:List ae}(K:At p x bk H)(c:bf x.s)(h:Nat)(hh:h<4294967296)(hB:x.back.length+64*(under x.s.T h).length<=4294967296)(lo:oN):
  ∃a H' ak,D XA (.fn (.func 285) [] []) [.ptr p 0,.int .u32 h] ⟨H,lo⟩=some (.ret (.ay []) ⟨H',ak⟩)/\At p (fP x h) a H'/\bU p H H'/\vG (a=bk\/a= .aq) p H H' lo ak:=by
 suffices c: ∃S,D XA (.fn (.func 285) [] []) [.ptr p 0,.int .u32 h] ⟨H,lo⟩=some S/\ (λS=> ∃a H' ak,S=aX.ret (.ay []) ⟨H',ak⟩/\At p (fP x h) a H'/\bU p H H'/\vG (a=bk\/a= .aq) p H H' lo ak) S by
  obtain⟨S,h1,a,H',ak,rfl,h2⟩:=c;exact⟨a,H',ak,h1,h2⟩
 refine cz RL λN X=>?_
 have f:p<N:=by rw[<-X];exact(ac9.1 K.box).1
 obtain⟨v,J,L3,V,Z,u3⟩:=FV x.s.T c.T c.tr h hh N H X none;have V:=ly V;have hul:=zY c.tr h;have b:=(jJ Z L3).bN;have hbp:=K.box;obtain⟨W0,m⟩: ∃W0,W0=H++J:=⟨_,rfl⟩;rw[<-m]at V Z b;have w0:W0[p]?=some (.box (bb x bk) none):=by rw[m];exact bc K.box
 have pa:bU p H W0:=by rw[m];exact bU.app p H J (by omega)
 simp only[↓R1,Zz,go_sem,simprocAttr,RL,hbp,↓CL,V,b];refine gN (under x.s.T h).length (λk e U ak=> ∃a,U[p]?=some (.box (bb (((under x.s.T h).take k).foldl gi x) a) none)/\aT (p+1) U a 2 eL ((((under x.s.T h).take k).foldl gi x).back.map aA)/\bU p H U/\aT N U v 1 cb ((under x.s.T h).map hC)/\
  ((en N ak/\aT (p+1) (U.take N) a 2 eL ((((under x.s.T h).take k).foldl gi x).back.map aA)/\ (a=bk\/a= .aq))\/ak=some p)/\e 0= .ptr p 0/\e 1= .int .u32 h/\e 15=v/\e 16= .int .i64 (under x.s.T h).length/\e 17= .int .i64 k) 0 (by omega) ?_ ?_
 ·simp only[↓aoK,Zz,go_sem,simprocAttr];refine⟨bk,w0,by rw[m];exact K.own.ext,pa,Z,.inl ⟨en.of u3,?_,.inl rfl⟩⟩;rw[m,aog X];exact K.own
 rintro k hk e T u ⟨a,E,p1,F,p3,p4,e0,e1,Q,P,O⟩ n hn;have jL:=T0 ((under x.s.T h).take k) x c;have d:=aiT ((under x.s.T h).take k) x;have Dy:=aiU ((under x.s.T h).take k) x c.T;rw[afT]at Dy;have OO:= @au5 x (under x.s.T h) k;generalize hy: ((under x.s.T h).take k).foldl gi x=y at*;have A:Old p T (.box (bb y a) none):=⟨E⟩;simp only[bQ,↓R1,Zz,go_sem,simprocAttr,afp,E,↓CL,e0,e1,Q,P,O];refine⟨λhc=>?_,λhc=>?_⟩
 ·have B:k< (under x.s.T h).length:=by omega
  have hr:=jJ p3 u;have hg:=λH lo=>lx (s6 y.s.T (by rw[d];exact c.T) ((under x.s.T h).getD k default) (fC (Lr c.T (eo B))) H lo)
  simp(disch:=omega) only[↓R1,↓MP,Zz,afB,go_sem,simprocAttr,hr.ca,hr.cD,↓pH,hn,E,A.g,↓CL,hg,me,aiS,e0];have uO:=(c.T.get ((under x.s.T h).getD k default)).rb.2;rw[d];generalize hR: (aN x.s.T ((under x.s.T h).getD k default)).1=R at*;refine⟨by omega,?_⟩;obtain⟨v',Y,q1,q2,q3,q4,q5⟩:=aT.OS (bytes:=16) (ys:=R.runs.map aA) (lo:=u) (aT.ext (L:=[ae.box (bR R) none]) p1) (by simp[hn];have:=F.len;omega) (by omega) (by intro el qB;obtain⟨r,_,rfl⟩:=afJ.1 qB;rfl) (bB (λ_=>rfl) _) (by
   unfold room;simp only[aer];omega)
  have z:Y[p]?=some (.box (bb y a) none):=by rw[q4 p (by omega)];exact A.g _
  have s:Old p Y (.box (bb y a) none):=⟨z⟩;have lQ:=λH lo=>ly (atW y.s.K jL.K ((under x.s.T h).getD k default) H lo)
  have hvt:v'.cq=false/\v'.cells=[v']:=by
   rcases q2.2 with⟨rfl,_⟩| ⟨_,_,_,rfl,_⟩<;>exact⟨rfl,rfl⟩
  rw[q1];simp(disch:=omega) only[↓aoK,↓R1,Zz,afC,go_sem,simprocAttr,hvt,z,s.g1,↓CL,CS,lQ,e0,e1,Q,P,O];rw[alg,OO B];have l: (gi y ((under x.s.T h).getD k default)).back.map aA=y.back.map aA++R.runs.map aA:=by
   rw[<-afI];unfold gi;rw[d,hR]
  have f2:bU p (T++[ae.box (bR R) none]) Y:=⟨q3,λi hi=>q4 i (by omega),λi o _ ho hg=>q5 i o ho hg⟩;have f3:=(bU.app p T [ae.box (bR R) none] (by have:=F.len;omega)).trans (f2.trans (bU.set p Y (.box (bb (gi y ((under x.s.T h).getD k default)) v') none)));refine⟨B,v',s.g1 _,?_,F.trans f3,f3.own p3 f (by omega),?_⟩
  ·rw[l];exact aT.nz q2 z
  ·by_cases W:v'.refs<=p+1
   ·rw[adV W];have g:v'= .aq/\y.back.map aA++R.runs.map aA=[]:=by
     rcases q2.2 with q| ⟨id,aj,i1,i2,_⟩
     ·exact q
     ·rw[i2]at W;simp only[AV.refs]at W;omega
    rcases p4 with⟨G,_⟩|G
    ·refine .inl ⟨G,?_,.inr g.1⟩;rw[l,g.1,g.2];exact aT.aq
    ·exact .inr G
   ·rw[ada W]
    right
    rcases p4 with⟨rfl| ⟨j,hj,rfl⟩,_⟩|rfl
    ·rfl
    ·exact ag9 some (aqk (show p<=j by omega))
    ·exact ag9 some (axP p)
 ·obtain rfl:k=(under x.s.T h).length:=by omega
  have M:bS y.s.T:=by rw[d];exact c.T
  obtain⟨w,C⟩:=as3 y.s.T M (by rw[d];exact c.tr) h hh T u;have C:=ly C;have I:=A.set (.box (bb (y.t (iV y.s.T h).1) a) none);have e2:fP x h=y.t (iV y.s.T h).1:=by
   unfold fP;rw[afH]at hy;rw[hy]
  simp only[↓R1,Zz,go_sem,simprocAttr,E,CS,C];rw[e2];rw[auK];have t:=F.trans (bU.set p T (.box (bb (y.t (iV y.s.T h).1) a) none));rcases p4 with⟨G,l2,l3⟩|rfl
  ·rw[iF G (aep _)];refine⟨a,_,lo,rfl,⟨?_,?_⟩,t.take X f,.inl ⟨rfl,by rw[afT,afL];have:=F.len;omega,l3⟩⟩
   ·rw[afV f];exact I.at'
   ·rw[List.take_set];exact aT.nz l2 (by rw[afV f];exact E)
  ·rw[vH f];exact⟨a,_,_,rfl,⟨I.at',aT.nz p1 E⟩,t,.inr rfl⟩
abbrev Ac(p:Nat)(H H':List ae)(lo ak:oN):Prop:=vG True p H H' lo ak
def ui(p:Nat)(H:List ae)(lo:oN):R (aB×bF)->aX->Prop
 |.ok (y,r),a=> ∃b H' ak,a= .ret (.agg (bG r)) ⟨H',ak⟩/\At p y b H'/\bU p H H'/\Ac p H H' lo ak
 |.error e,a=> ∃H' ak,a= .panic (jo e) ⟨H',ak⟩/\bU p H H'/\Ac p H H' lo ak
def bh.c{H:List ae}(ha:At p x bk H){m:R (aB×bF)}{c:aX}(h:bh x.back bk p H lo m c):ui p H lo m c:=by
 cases m with
 |ok a=>
  obtain⟨f,b⟩:=h;have d:=(ac9.1 ha.box).1;exact⟨bk,_,lo,b,⟨by grind,by rw[f];exact aT.nz ha.own ha.box⟩,bU.set _ _ _,.inl ⟨rfl,by simp,trivial⟩⟩
 |error e=>
  obtain⟨y,b⟩:=h;exact⟨_,lo,b,bU.set _ _ _,.inl ⟨rfl,by simp,trivial⟩⟩
def ui.err{H:List ae}:ui p H lo (.error e) (.panic (jo e) ⟨H,lo⟩):=⟨H,lo,rfl,bU.refl _ _,.inl ⟨rfl,rfl,trivial⟩⟩
theorem au8{N:Nat}{H B W:List ae}(r:H.length=N)(b:p<N)(l: ∀o∈B,∃cs tg,o=ae.box cs tg)(f:At p y bk W)(k:bU p (H++B) W)(i:W.length=(H++B).length):At p y bk (W.take N):=by
 refine⟨by rw[afV b];exact f.box,f.own.1,?_⟩;rcases f.own.2 with q| ⟨id,aj,n,m,h⟩
 ·grind
 ·by_cases j:id<N
  ·grind
  ·have c:=(ac9.1 h).1;rw[i,aem]at c;have g: (H++B)[id]?=some B[id-N]:=by grind
   obtain⟨cs,tg,ho⟩:=l _ (aq0 (show id-N<B.length by omega));rw[ho]at g;have:=k.box id _ (by omega) (λa d e=>by cases e) g
   grind
def T2{N:Nat}{H B W:List ae}(b:bU p (H++B) W)(a:p<H.length):bU p H W:=(bU.app p H B a).trans b
def aiV{N:Nat}{H W:List ae}(e:H.length=N)(d:p<N)(b:bU p H W)(o:ae):bU p H (W.set N o):=
 ⟨by rw[afL];exact b.len,λi a=>by rw[acK (by omega)];exact b.low i a,λi w a hw c=>by
   have:=(ac9.1 c).1;rw[acK (by omega)];exact b.box i w a hw c⟩
def Ad{N:Nat}{H B W:List ae}{ak:oN}{Q:Prop}(i:H.length=N)(a:p<N)(n: ∀o∈B,∃cs tg,o=ae.box cs tg)(h:At p y bk W)(l:bU p (H++B) W)(d: (ak=none/\ (W.length=(H++B).length\/ (bk= .aq/\y.back=[]))/\Q)\/ak=cL none p)(j:v.refs<=N)
  {cs:lA} {tg:Option TypeId} (g:W[N]?=some (.box cs tg)) (o:ae):
  ∃f b,finish N lo v ⟨W.set N o,ak⟩=(v,⟨f,b⟩)/\At p y bk f/\bU p H f/\vG Q p H f lo b:=by
 have c:=aiV i a (T2 (N:=N) l (by omega)) o;rcases d with⟨rfl,d,k⟩|rfl
 ·refine⟨_,lo,iF (.inl rfl) j,?_,c.take i a,.inl ⟨rfl,?_,k⟩⟩
  ·have:At p y bk (W.take N):=by
     rcases d with d| ⟨rfl,m⟩
     ·grind [au8]
     ·exact⟨by rw[afV a];exact h.box,by rw[m];exact aT.aq⟩
   have e: (W.set N o).take N=W.take N:=by rw[List.take_set];exact List.set_eq_of_length_le (by grind)
   grind
  grind
 ·refine⟨_,cL lo p,?_,⟨?_,aT.nz h.own g⟩,c,.inr rfl⟩
  ·have:cL none p=some p:=rfl;rw[this];exact vH a
  ·rw[acK (by omega)];exact h.box
def L4{N:Nat}{H B W:List ae}{ak:oN}(g:H.length=N)(c:p<N)(h:bU p (H++B) W)(f:ak=none\/ak=cL none p)(e:v.refs<=N):
  ∃d b,finish N lo v ⟨W,ak⟩=(v,⟨d,b⟩)/\bU p H d/\Ac p H d lo b:=by
 have a:=T2 (N:=N) h (by omega);rcases f with rfl|rfl
 ·refine⟨_,lo,iF (.inl rfl) e,a.take g c,.inl ⟨rfl,?_,trivial⟩⟩;rw[afT];have:=a.len;omega
 ·refine⟨_,cL lo p,?_,a,.inr rfl⟩;exact vH c
def Cx{cs:lA}{tg:Option TypeId}: ∀o∈[ae.box cs tg],∃cs tg,o=ae.box cs tg:=by simp
section
variable{x:aB}{bk:AV}{p:Nat}{H:List ae}(lo:oN)(ha:At p x bk H)(hx:mR x)
include ha hx
theorem au9(j:x.back.length+64*(under x.s.T x.c.r).length<=4294967296): ∃h,D XA (.fn (.func 256) [] []) [.ptr p 0] ⟨H,lo⟩=some h/\ui p H lo (w8 x) h:=by
 refine cz Rw λN f=>?_
 have ho:Old p H (.box (bb x bk) none):=⟨ha.box⟩;have c:p<N:=by rw[<-f];exact ho.lt
 obtain⟨l,W,ak,g1,g2,g,k⟩:=T1 (bk:=bk) (H:=H++[.box [.int .i64 0,.int .u64 0,.int .u32 0] none]) ⟨ho.g _,ha.own.ext⟩ hx.s x.c.r hx.c.r j none;have b:W[N]?=some (.box [.int .i64 0,.int .u64 0,.int .u32 0] none):=g.box N _ (by omega) (λa d e=>by cases e) (by grind);simp only[F1,go_sem,simprocAttr,Rw,f,ho.g,↓CL,M2 ho hx x.c.r hx.c.r,g1,b,cO b,dV,dW,EP];obtain⟨m,i,f1,f2,f3,f4⟩:=Ad (v:=.agg [.int .i64 0,.int .u64 0,.int .u32 0]) (lo:=lo) f c Cx g2 g (k.imp (λq=>⟨q.1,.inl q.2.1,trivial⟩) id) (aep _) b (.box [.int .i64 0,.int .u64 0,.int .u32 0] none);rw[f1]
 (repeat' (first| (refine⟨?_,?_⟩)|intro _))
 ·simp only[w8,gS,okB, *];exact⟨_,_,_,rfl,f2,f3,f4⟩
 ·simp only[w8,da, *];exact .err
theorem ava(hB:x.back.length<=4294967296): ∃S,D XA (.fn (.func 255) [] []) [.ptr p 0] ⟨H,lo⟩=some S/\ui p H lo (vt x) S:=by
 refine cz Ru λN k=>?_
 have ho:Old p H (.box (bb x bk) none):=⟨ha.box⟩;have m:p<N:=by rw[<-k];exact ho.lt
 have G:=λB lo=>LZ (ho.app B) lo hx.s x.c.r hx.c.r
 have F:=(hx.s.T.get x.c.r);have Y:=Ab (x:=x) (h:=x.c.r) (w:=1);have e0:vt x=fY x x.c.r 1>>=λ_=>cp (aN x.s.T x.c.r).2>>=λ_=>nq {x with back:=x.back++(aN x.s.T x.c.r).1.runs} x.c.r {dq with up:=0,dn:=(aN x.s.T x.c.r).1.dn}>>=λy=>.ok (y,bO):=rfl
 rw[e0];generalize hR: (aN x.s.T x.c.r).1=R at*;obtain⟨v',c,V,z,U,P,u⟩:=aT.OS (bytes:=16) (ys:=R.runs.map aA) (lo:=none) (aT.ext (L:=[ae.box [.int .i64 0,.int .u64 0,.int .u32 0] none,.box (bR R) none]) ha.own) (by simp[k];omega) (by omega) (by intro el J;obtain⟨r,_,rfl⟩:=afJ.1 J;rfl) (bB (λ_=>rfl) _) (by
  have:=F.rb.2;unfold room;simp only[aer];omega)
 have C:v'.cq=false/\v'.cells=[v']:=by
  rcases z.2 with⟨rfl,_⟩| ⟨_,_,_,rfl,_⟩<;>exact⟨rfl,rfl⟩
 have j:c[p]?=some (.box (bb x bk) none):=by rw[P p (by omega)];exact ho.g _
 have b:Old p c (.box (bb x bk) none):=⟨j⟩;have w0:c[N]?=some (.box [.int .i64 0,.int .u64 0,.int .u32 0] none):=u N _ (λa d e=>by cases e) (by rw[dv k];rfl);have w1:c[N+1]?=some (.box (bR R) none):=u (N+1) _ (λa d e=>by cases e) (by rw[bA k];rfl);have n:=b.set (.box (bb {x with back:=x.back++R.runs} v') none);have f:=λlo=>TY (x:={x with back:=x.back++R.runs}) (bk:=v') n lo hx.s x.c.r hx.c.r {dq with up:=0,dn:=R.dn} ⟨by simp[dq],by simp[dq]⟩ (by simp[dq]) (by simp[dq])
 have K:bb {x with back:=x.back++R.runs} v'=bb x v':=rfl;rw[K]at f;have M:N<c.length:=(ac9.1 w0).1;have E: ∀A B o,(((c.set p A).set p B).set N o)[N]?=some o:=λA B o=>aeo (by simp only[afL];exact M)
 have I:p≠N:=by omega
 have X:p≠N+1:=by omega
 simp(disch:=omega) only[F1,go_sem,simprocAttr,Ru,k,ho.g,↓CL,CS,M1 ho hx x.c.r hx.c.r,G,jI,aiS,V,C,j,w0,w1,b.g1,E,f,agT,dV,dW,EP,jq];have s: (if v'.refs<=p+1 then none else cL none p)=none/\ (v'= .aq/\x.back++R.runs=[])\/ (if v'.refs<=p+1 then none else cL none p)=cL none p:=by
  by_cases t:v'.refs<=p+1
  ·rw[adV t];refine .inl ⟨rfl,?_⟩;rcases z.2 with⟨T,O⟩| ⟨id,aj,i1,i2,_⟩
   ·refine⟨T,?_⟩;rw[<-afI]at O;exact aqq.1 O
   ·rw[i2]at t;simp only[AV.refs]at t;omega
  ·rw[ada t];exact .inr rfl
 have f0:bU p (H++[ae.box [.int .i64 0,.int .u64 0,.int .u32 0] none,.box (bR R) none]) c:=⟨U,λi hi=>P i (by omega),λi o _ ho Z=>u i o ho Z⟩;have f1:=f0.trans (bU.set p c (.box (bb x v') none));generalize Q: (if v'.refs<=p+1 then none else cL none p)=ak at*
 (repeat' (first| (refine⟨?_,?_⟩)|intro _))
 ·rename_i g l m3;have hA:At p (({x with back:=x.back++R.runs}:aB).t (fN x.s.T x.c.r {dq with up:=0,dn:=R.dn}).1) v' ((c.set p (.box (bb x v') none)).set p (.box (bb (({x with back:=x.back++R.runs}:aB).t (fN x.s.T x.c.r {dq with up:=0,dn:=R.dn}).1) v') none)):=
   ⟨by rw[alg];exact b.g1 _,by rw[alg];show aT _ _ _ _ _ (List.map aA (x.back++R.runs));rw[afI];exact aT.nz z j⟩
  have f2:=f1.trans (bU.set p (c.set p (.box (bb x v') none)) (.box (bb (({x with back:=x.back++R.runs}:aB).t (fN x.s.T x.c.r {dq with up:=0,dn:=R.dn}).1) v') none));obtain⟨H3,W,g1,g2,g3,g4⟩:=Ad (v:=.agg [.int .i64 0,.int .u64 0,.int .u32 0]) (lo:=lo) k m (B:=[ae.box [.int .i64 0,.int .u64 0,.int .u32 0] none,.box (bR R) none]) (by simp) hA f2 (s.imp (λq=>⟨q.1,.inr q.2,trivial⟩) id) (aep _)
   (by rw[alg,acK I];exact w0) (.box [.int .i64 0,.int .u64 0,.int .u32 0] none)
  rw[g1];simp only[nq,gS,okB,g,l,m3];exact⟨_,_,_,rfl,g2,g3,g4⟩
 ·rename_i g l e m3;obtain⟨E1,l1,e1,e2,e3⟩:=L4 (v:=jo e) (lo:=lo) k m f1 (s.imp And.left id) (aep _);rw[e1];simp only[nq,gS,okB,da,g,l,m3];exact⟨_,_,rfl,e2,e3⟩
 ·rename_i g e l;simp only[okB,da,g,l];exact .err
 ·rename_i e g;simp only[da,g];exact .err
end
def avb{N:Nat}{H B W:List ae}{ak:oN}{Q:Prop}(g:H.length=N)(d:p<N)(i: ∀o∈B,∃cs tg,o=ae.box cs tg)(j:At p y bk W)(h:bU p (H++B) W)(f: (ak=none/\ (W.length=(H++B).length\/ (bk= .aq/\y.back=[]))/\Q)\/ak=cL none p)(e:v.refs<=N)
  {cs:lA} {tg:Option TypeId} (b:W[N]?=some (.box cs tg)):
  ∃c a,finish N lo v ⟨W,ak⟩=(v,⟨c,a⟩)/\At p y bk c/\bU p H c/\vG Q p H c lo a:=by
 have:=Ad (v:=v) (lo:=lo) g d i j h f e b (.box cs tg);rwa[qb b]at this
def avc(bk:AV)(p:Nat)(H:List ae)(lo:oN):R aB->aX->Prop
 |.ok y,b=> ∃a H' ak,b= .ret (.ay []) ⟨H',ak⟩/\At p y a H'/\bU p H H'/\vG (a=bk\/a= .aq) p H H' lo ak
 |.error e,b=>b= .panic (jo e) ⟨H,lo⟩
section
variable{x:aB}{bk:AV}{p:Nat}{H:List ae}(lo:oN)(ha:At p x bk H)(hs:bf x.s)
include ha hs
theorem aiW(h:Nat)(n:h<4294967296)(aa:Nat)(I:aa<256)(J:x.back.length+64*(under x.s.T h).length<=4294967296):
  ∃A,D XA (.fn (.func 292) [] []) [.ptr p 0,.int .u32 h,.int .i64 aa] ⟨H,lo⟩=some A/\avc bk p H lo (kx x h aa) A:=by
 refine cz KD λN f=>?_
 have ho:Old p H (.box (bb x bk) none):=⟨ha.box⟩;have k:p<N:=by rw[<-f];exact ho.lt
 have y:=λH lo=>lx (atL x.s.O hs.O x.s.T hs.T hs.tr h n aa I H lo)
 have w:=λH=>hZ (c9 x.s.O x.s.T h aa false).2.2 H
 have L:kx x h aa=cp (c9 x.s.O x.s.T h aa false).2.2>>=λ_=>.ok (if(c9 x.s.O x.s.T h aa false).2.1=0 then fP (x.o (c9 x.s.O x.s.T h aa false).1) h else x.o (c9 x.s.O x.s.T h aa false).1):=rfl
 have l:fR (c9 x.s.O x.s.T h aa false).1:=hs.O.held n;rw[L];have i:=ahJ hs.O (t:=x.s.T) (r:=h) (aa:=aa) (hold:=false);generalize c9 x.s.O x.s.T h aa false=g at*;have s: ∀v,(H++[ae.box (cN g.1) none]).set p v=H.set p v++[ae.box (cN g.1) none]:=λv=>ho.s _ _
 have u:At p (x.o g.1) bk (H.set p (.box (bb (x.o g.1) bk) none)++[ae.box (cN g.1) none]):=⟨ho.g2 _ _,aT.ext (aT.nz ha.own ha.box)⟩;obtain⟨M,W,ak,g1,g2,z,K⟩:=T1 u (hs.uh l) h n J none;have f1:bU p (H++[ae.box (cN g.1) none]) (H.set p (.box (bb (x.o g.1) bk) none)++[ae.box (cN g.1) none]):=by rw[<-s];exact bU.set _ _ _
 by_cases j:g.2.1=0
 ·have c:decide ((F2 g.2.1:Int)=0)=true:=ad0 (by rw[j];rfl);simp only[F1,go_sem,simprocAttr,KD,f,ho.g,ho.s,↓CL,CS,y,w,c,g1,dV,dW,EP,gH];have o:W[N]?=some (.box (cN g.1) none):=z.box N _ (by omega) (λa d e=>by cases e) (by rw[(OL f).1];rfl);have m: (H.set p (.box (bb (x.o g.1) bk) none)++[ae.box (cN g.1) none]).length=(H++[ae.box (cN g.1) none]).length:=by simp
  obtain⟨O,B,G,F,E,C⟩:=avb (v:=.ay []) (lo:=lo) f k Cx g2 (f1.trans z) (K.imp (λq=>⟨q.1,.inl (q.2.1.trans m),q.2.2⟩) id) (aep _) o;rw[G]
  (repeat' (first| (refine⟨?_,?_⟩)|intro _))
  ·rename_i b;simp only[b,okB,adV j];exact⟨_,_,_,rfl,F,E,C⟩
  ·rename_i e b;simp only[b,da];rfl
 ·have c:decide ((F2 g.2.1:Int)=0)=false:=adZ (by
    have:=mt (atK _ i).1 j;omega)
  simp only[F1,go_sem,simprocAttr,KD,f,ho.g,ho.s,↓CL,CS,y,w,c,dV,dW,EP,gH,OL f]
  (repeat' (first| (refine⟨?_,?_⟩)|intro _))
  ·rename_i b;simp only[b,okB,ada j];exact⟨bk,_,lo,rfl,⟨ho.g1 _,aT.nz ha.own ha.box⟩,bU.set _ _ _,.inl ⟨rfl,by simp,.inl rfl⟩⟩
  ·rename_i e b;simp only[b,da];rfl
end
section
variable{x:aB}{bk:AV}{p:Nat}{H:List ae}(lo:oN)(ha:At p x bk H)(hx:mR x)
include ha hx
theorem avd(l:x.back.length+64*(under x.s.T x.c.r).length<=4294967296): ∃g,D XA (.fn (.func 261) [] []) [.ptr p 0] ⟨H,lo⟩=some g/\ui p H lo (zK x) g:=by
 refine cz Kv λN f=>?_
 have ho:Old p H (.box (bb x bk) none):=⟨ha.box⟩;have h:p<N:=by rw[<-f];exact ho.lt
 have s:=hx.t;obtain⟨g,g1,g2⟩:=aiW (bk:=bk) (H:=H++[.box [.int .i64 0,.int .u64 0,.int .u32 0] none]) none ⟨ho.g _,ha.own.ext⟩ hx.s x.c.r hx.c.r x.aa (by omega) l;have n:zK x=zJ x x.c.r>>=λ_=>kx x x.c.r x.aa>>=λy=>.ok (y,bO):=rfl
 rw[n];cases i:kx x x.c.r x.aa with
 |error e=>
  rw[i]at g2;have g2:g=_:=g2;rw[g2]at g1;simp only[F1,go_sem,simprocAttr,Kv,f,ho.g,↓CL,λB lo=>F5 (ho.app B) lo hx.s hx.t x.c.r hx.c.r,g1,dV,dW,EP,jq]
  (repeat' (first| (refine⟨?_,?_⟩)|intro _))
  ·rename_i b;simp only[b,okB,da];exact .err
  ·rename_i o b;simp only[b,da];exact .err
 |ok y=>
  rw[i]at g2;obtain⟨r,W,ak,rfl,g2,j,m⟩:=g2;have c:W[N]?=some (.box [.int .i64 0,.int .u64 0,.int .u32 0] none):=j.box N _ (by omega) (λa d e=>by cases e) (by rw[dv f];rfl);simp only[F1,go_sem,simprocAttr,Kv,f,ho.g,↓CL,λB lo=>F5 (ho.app B) lo hx.s hx.t x.c.r hx.c.r,g1,c,cO c,dV,dW,EP];obtain⟨t,k,f1,f2,f3,f4⟩:=Ad (v:=.agg [.int .i64 0,.int .u64 0,.int .u32 0]) (lo:=lo) f h Cx g2 j (m.imp (λq=>⟨q.1,.inl q.2.1,trivial⟩) id) (aep _) c (.box [.int .i64 0,.int .u64 0,.int .u32 0] none);rw[f1]
  (repeat' (first| (refine⟨?_,?_⟩)|intro _))
  ·rename_i b;simp only[b,okB];exact⟨_,_,_,rfl,f2,f3,f4⟩
  ·rename_i o b;simp only[b,da];exact .err
end
def ave(d:bY t): ∀ (n x:Nat),dep t x<=n->k∈aU t x-> ∀c∈aU t k,c∈aU t x:=by
 intro n
 induction n with
 |zero=>intro x b a;unfold dep at b;grind
 |succ n e=>
  intro x b a c f;by_cases hu:bn t x=0
  ·rw[oy d,adV hu]at a;cases a
  ·grind [B7,mh]
def Cy(d:bY t){x:Nat}: ∀n c,x∈iB t n c->x=c\/c∈aU t x:=by
 intro n
 induction n with
 |zero=>intro c h;left;simpa[iB]using h
 |succ n e=>
  intro c h;rcases ag6.1 h with h|h
  ·omega
  ·right
   obtain⟨k,f,a⟩:=ap8.1 h;obtain⟨g1,g2,_⟩:=K6 f;have b:c∈aU t k:=by rw[mh d (x:=k) (by rw[g2];exact K4 g1),g2];grind
   rcases e k a with rfl|a
   ·omega
   ·exact ave d _ x (aen _) a c b
def avf(f:bY t): ∀ (n x a b:Nat),dep t x<=n->a∈x::aU t x->b∈x::aU t x->dep t a=dep t b->a=b:=by
 intro n
 induction n with
 |zero=>
  intro x a b g d e _;unfold dep at g
  grind
 |succ n i=>
  intro x a b g d e he;have lt: ∀c∈aU t x,dep t c<dep t x:=λc h=>z9 f _ x (aen _) h
  rcases ag6.1 d with rfl|d
  ·grind
  ·rcases ag6.1 e with rfl|e
   ·grind
   ·by_cases hu:bn t x=0
    ·rw[oy f,adV hu]at d;cases d
    ·have j:=B7 f hu;rw[mh f hu]at d e
     grind
def L5(b:cJ): (a0 b).Nodup:=by
 refine List.Pairwise.map _ (λi j c=>?_) (asp (S:=λi j=>i<32/\j<32/\i≠j) (λe d a=>⟨?_,?_,a⟩) (aAS.filter _))
 ·unfold c7;omega
 ·grind
 grind
def avg(t:aw)(h:Nat): (kids t h).Nodup:=by
 unfold kids;split
 ·exact(L5 _).filter _
 grind
def aiX(a:bY t): ∀n h,(iB t n h).Nodup:=by
 intro n
 induction n with
 |zero=>simp[iB]
 |succ n g=>
  intro h;refine asq.2 ⟨λhm=>?_,?_⟩
  ·obtain⟨k,j,b⟩:=ap8.1 hm;have o:=B8 a j;rcases Cy a n k b with e|e
   ·grind
   ·have:=z9 a _ h (aen _) e;omega
  ·refine List.pairwise_flatMap.2 ⟨λk _=>g k,asp (λr p d x b y i e=>?_) (avg t h)⟩;subst e;have m:=Cy a n _ b;have l:=Cy a n _ i;have f: ∀c,(x=c\/c∈aU t x)->c∈x::aU t x:=λc q=>q.elim (λe=>by grind) (afU _)
   exact d (avf a _ x _ _ (aen _) (f _ m) (f _ l) (by grind [B8]))
def T3(a:bY t)(h:Nat): (under t h).Nodup:=by
 unfold under;split
 ·exact aiX a 32 h
 grind
theorem F6: ∀ (l m:lN),l.Nodup->(∀z∈l,z∈m)->l.length<=m.length
 | [],_,_,_=>aep _
 |a::l,m,c,h=>by
  obtain⟨e,d⟩:=asq.1 c;have:=F6 l (m.erase a) d λz b=>(List.mem_erase_of_ne λq=>by grind).2 (h z (afU _ b))
  grind
def aiY{b:cJ}{y z:Nat}(c:au b z=true)(d:au b y=true)(a:z≠y):au (dS b y).1 z=true:=by
 obtain⟨j,e,f⟩:=lj.1 c;unfold dS;rw[adV d];refine lj.2 ⟨j,e,?_⟩;show av b (aP y) _ j=_;rw[cF λq=>a (Cv c d (by rw[B6 e];exact q))];exact f
def avh{b:cJ}(g:hU b){y:Nat}(c:au b y=true): (a0 (dS b y).1).length+1<=(a0 b).length:=by
 have d:=L5 (dS b y).1;have i:y∉a0 (dS b y).1:=λhm=>by
  have f:=(fO (FJ g y)).1 hm;obtain⟨j,e,a⟩:=lj.1 f;unfold dS at a;rw[adV c]at a;have a:av b (aP y) (pT (b (aP y))) j=_:=a;rw[B6 e,ch]at a;unfold pT at a
  grind
 have h: ∀z∈y::a0 (dS b y).1,z∈a0 b:=λz k=>by grind [fO,LS,FJ]
 have:=F6 _ _ (asq.2 ⟨i,d⟩) h;omega
theorem aiZ: ∀ (l:lN) (t:aw),hU t.b->l.Nodup->(∀z∈l,t.au z=true)->(a0 (gk t l).b).length+l.length<=(a0 t.b).length
 | [],t,_,_,_=>by simp[gk]
 |y::l,t,d,h,c=>by
  have a:au t.b y=true:=c y (ai4 ..);have e: (iA t y).1={b:=(dS t.b y).1,r:=av t.r (aP y) dq}:=by
   unfold iA;grind
  have f: (iA t y).1.b=(dS t.b y).1:=by rw[e]
  have i:=aiZ l (iA t y).1 (by rw[f];exact FJ d y) (asq.1 h).2 λz g=>by
   show au (iA t y).1.b z=true;rw[f];exact aiY (c z (afU _ g)) a λq=>by grind
  have j:=avh d a;have k:gk t (y::l)=gk (iA t y).1 l:=rfl
  grind
def avi(h:dC t)(a:Nat): (under t a).length<=(a0 t.b).length:=
 F6 _ _ (T3 h.tr a) λz b=>(fO h.ok.b).2 (Lr h.ok b)
def avj(h:dC t)(a:Nat): (a0 (iV t a).1.b).length+(under t a).length<=(a0 t.b).length:=by
 unfold iV;split
 ·grind
 ·exact aiZ (under t a) t h.ok.b (T3 h.tr a) λz b=>Lr h.ok b
def eV(x:aB):Nat:=x.back.length+64*(a0 x.s.T.b).length
def T4(a:bf x.s)(h:Nat):eV (fP x h)<=eV x:=by
 have d:=aiU (under x.s.T h) x a.T;have c:=aiT (under x.s.T h) x;have b:=avj a.dw h;have e1: (fP x h).back=((under x.s.T h).foldl gi x).back:=rfl;have e: (fP x h).s.T=(iV ((under x.s.T h).foldl gi x).s.T h).1:=rfl;unfold eV
 grind
def T5(a:bf x.s)(h:Nat):x.back.length+64*(under x.s.T h).length<=eV x:=by
 have:=avi a.dw h;unfold eV;omega
def T6(b:bf x.s)(h:Nat):bf (fP x h).s:=by
 have a:=T0 (under x.s.T h) x b;exact a.ug (a.dw.auF h)
structure LI(bk:AV)(p N:Nat)(H:List ae)(y:aB)(nE:AV)(W:List ae)(lo:oN):Prop where
 at':At p y nE W
 fr:bU p H W
 ok:bf y.s
 eV:eV y<=2048
 lo: (en N lo/\ (nE=bk\/nE= .aq))\/lo=some p
section
variable{bk:AV}{p N:Nat}{H:List ae}{y:aB}{nE:AV}{W:List ae}{ny:oN}(oI:p<N)(h:LI bk p N H y nE W ny)
include h
theorem LI.dN:Old p W (.box (bb y nE) none):=⟨h.at'.box⟩
theorem LI.app(L:List ae):LI bk p N H y nE (W++L) ny:=⟨⟨bc h.at'.box,h.at'.own.ext⟩,h.fr.trans (bU.app p W L (ac9.1 h.at'.box).1),h.ok,h.eV,h.lo⟩
theorem LI.set{z:aB}(a:bf z.s)(b:z.back=y.back)(c: (a0 z.s.T.b).length<=(a0 y.s.T.b).length):LI bk p N H z nE (W.set p (.box (bb z nE) none)) ny:=
 ⟨⟨by rw[aeo h.dN.lt],by rw[b];exact aT.nz h.at'.own h.at'.box⟩,h.fr.trans (bU.set _ _ _),a,by have:=h.eV;unfold Go.Proofs.YtcdeobefbpnfeaaGreatDoor.eV at*;grind,h.lo⟩
include oI
theorem LI.next{z:aB}{a:AV}{c:List ae}{b:oN}(k:At p z a c)(i:bU p W c)(g:vG (a=nE\/a= .aq) p W c ny b)(e:bf z.s)(f:Go.Proofs.YtcdeobefbpnfeaaGreatDoor.eV z<=Go.Proofs.YtcdeobefbpnfeaaGreatDoor.eV y):LI bk p N H z a c b:=by
 refine⟨k,h.fr.trans i,e,afY f h.eV,?_⟩;rcases g with⟨rfl,_,q⟩|rfl
 ·rcases h.lo with⟨d,l⟩|d
  ·grind
  grind
 ·right
  rcases h.lo with⟨rfl| ⟨j,m,rfl⟩,_⟩|rfl
  ·rfl
  ·exact ag9 some (aqk (show p<=j by omega))
  ·exact ag9 some (axP p)
theorem LI.gone(a:Nat)(f:a<4294967296): ∃c d b,D XA (.fn (.func 285) [] []) [.ptr p 0,.int .u32 a] ⟨W,ny⟩=some (.ret (.ay []) ⟨d,b⟩)/\LI bk p N H (fP y a) c d b/\bU p W d:=by
 obtain⟨c,d,b,g1,g2,e,g⟩:=T1 h.at' h.ok a f (by have:=T5 h.ok a;have:=h.eV;omega) ny;exact⟨c,d,b,g1,h.next oI g2 e g (T6 h.ok a) (T4 h.ok a),e⟩
theorem LI.done(k:H.length=N)(i:At p x bk H)(j:v.refs<=N):
  ∃b a,finish N lo v ⟨W,ny⟩=(v,⟨b,a⟩)/\At p y nE b/\bU p H b/\vG (nE=bk\/nE= .aq) p H b lo a:=by
 rcases h.lo with⟨f,d⟩|rfl
 ·refine⟨_,lo,iF f j,⟨by rw[afV oI];exact h.at'.box,h.at'.own.1,?_⟩,h.fr.take k oI,.inl ⟨rfl,by rw[afT];have:=h.fr.len;omega,d⟩⟩;rcases h.at'.own.2 with q| ⟨id,aj,s,r,o⟩
  ·grind
  ·rcases d with rfl|rfl
   ·rcases i.own.2 with⟨e,_⟩| ⟨g,c,n,m,l⟩
    ·grind
    grind
   grind
 ·exact⟨_,cL lo p,vH oI,h.at',h.fr,.inr rfl⟩
theorem LI.err(e:H.length=N)(d:v.refs<=N): ∃b a,finish N lo v ⟨W,ny⟩=(v,⟨b,a⟩)/\bU p H b/\Ac p H b lo a:=by
 rcases h.lo with⟨c,f⟩|rfl
 ·exact⟨_,lo,iF c d,h.fr.take e oI,.inl ⟨rfl,by rw[afT];have:=h.fr.len;omega,trivial⟩⟩
 ·exact⟨_,cL lo p,vH oI,h.fr,.inr rfl⟩
end
theorem ai0{m:Nat}{I:Nat->Env->List ae->oN->Prop}{Q:bW}{a:Fr}{E:AS}:A4 k m I Q (.panic v) a E=Q (.panic v) a E:=rfl
instance:Inhabited kp:=⟨zH⟩
def avk(bk:AV)(p:Nat)(H:List ae)(lo:oN):R aB->aX->Prop
 |.ok y,b=> ∃a H' ak,b= .ret (.ay []) ⟨H',ak⟩/\At p y a H'/\bU p H H'/\vG (a=bk\/a= .aq) p H H' lo ak
 |.error e,b=> ∃H' ak,b= .panic (jo e) ⟨H',ak⟩/\bU p H H'/\Ac p H H' lo ak
def Ae(y:aB)(m:kp):R aB:=if m.aR=0\/m.share=true then pure y else if y.s.alive m.fr then mM y m.aR m.fr else pure (fP y m.aR)
def rH(x:aB)(aa:Nat):aB:={x.bx aa zI with s:={(x.bx aa zI).s with alive:=av (x.bx aa zI).s.alive aa false}}
def L6(y:aB)(aa:Nat):R aB:=
 ((a0 y.s.T.b).filter λh=>decide (root y.s.T h=h)&&decide ((bt y.s.O y.s.T h).kind=3)&& (decide (aa<8)&&mI (bt y.s.O y.s.T h).hold aa)).foldlM (λy h=>kx y h aa) y
def T7(y:aB)(aa:Nat):R aB:=do
 let y:=((a0 y.s.T.b).filter λh=>decide (root y.s.T h=h)&&decide ((bt y.s.O y.s.T h).kind=1)&&decide ((bt y.s.O y.s.T h).aa=aa)).foldl fP y
 ((a0 y.s.T.b).filter λh=>decide (root y.s.T h=h)&&decide ((bt y.s.O y.s.T h).kind=3)&& (decide (aa<8)&&mI (bt y.s.O y.s.T h).hold aa)).foldlM (λy h=>kx y h aa) y
def L7(y:aB)(aa:Nat):R aB:=do
 let y:=(sR y.s.K aa).foldl (λy h=>y.k (l9 y.s.K h).1) y
 let y:=((a0 y.s.T.b).filter λh=>decide (root y.s.T h=h)&&decide ((bt y.s.O y.s.T h).kind=1)&&decide ((bt y.s.O y.s.T h).aa=aa)).foldl fP y
 ((a0 y.s.T.b).filter λh=>decide (root y.s.T h=h)&&decide ((bt y.s.O y.s.T h).kind=3)&& (decide (aa<8)&&mI (bt y.s.O y.s.T h).hold aa)).foldlM (λy h=>kx y h aa) y
theorem T8(x:aB)(aa:Nat):nr x aa=(gh (x.s.cw aa)).foldlM Ae (rH x aa)>>=λy=>L7 y aa:=rfl
def foldlM_succ[Inhabited β]{f:α->β->R α}{l:List β}{a:α}(h:k<l.length): (l.take (k+1)).foldlM f a=((l.take k).foldlM f a>>=λy=>f y (l.getD k default)):=by grind [List.take_add_one,List.getElem?_eq_getElem,List.foldlM_append]
def ai1{f:α->β->R α}{l:List β}{a:α}(h: (l.take k).foldlM f a= .error e):l.foldlM f a= .error e:=by
 rw[<-al5 k l,List.foldlM_append,h];rfl
def Af(y:aB)(h:Nat):aB:=y.k (l9 y.s.K h).1
def foldl_succ{f:α->Nat->α}{l:lN}{a:α}(h:k<l.length): (l.take (k+1)).foldl f a=f ((l.take k).foldl f a) (l.getD k default):=by grind [List.take_add_one,List.getElem?_eq_getElem,getD_eq]
def avl{z:aB}{h:Nat}(hs:bf y.s)(d:h<4294967296)(b:kx y h aa= .ok z):bf z.s/\eV z<=eV y:=by
 have f:kx y h aa=cp (c9 y.s.O y.s.T h aa false).2.2>>=λ_=>.ok (if(c9 y.s.O y.s.T h aa false).2.1=0 then fP (y.o (c9 y.s.O y.s.T h aa false).1) h else y.o (c9 y.s.O y.s.T h aa false).1):=rfl
 rw[f]at b;have a:bf (y.o (c9 y.s.O y.s.T h aa false).1).s:=hs.uh (hs.O.held d);cases c:cp (c9 y.s.O y.s.T h aa false).2.2 with
 |error e=>rw[c]at b;cases b
 |ok _=>
  rw[c]at b;cases b;split
  ·exact⟨T6 a h,T4 a h⟩
  ·exact⟨a,aen _⟩
section
variable{x:aB}{bk:AV}{p:Nat}{H:List ae}(lo:oN)(ha:At p x bk H)(hs:bf x.s)
include ha hs
theorem ai2(aa:Nat)(ht:aa<8)(hp:eV x<=2048):
  ∃cr,D XA (.fn (.func 249) [] []) [.ptr p 0,.int .i64 aa] ⟨H,lo⟩=some cr/\avk bk p H lo (nr x aa) cr:=by
 refine cz Rr λN hN=>?_
 have ho:Old p H (.box (bb x bk) none):=⟨ha.box⟩;have O:p<N:=by rw[<-hN];exact ho.lt
 obtain⟨w,d1,d2,d3⟩:=auw (x.s.cw aa) (hs.bx aa) H none;have d1:=lx d1;have c1: (aa:Int)<8:=by omega
 have c2:784+aa*19<=945:=by omega
 have c3:936+aa<=963:=by omega
 have hb:=λ (y:aB) bk=> @LN y bk aa ht
 have hsb:=λ (y:aB) bk b=> @LO y bk aa b ht
 have L8:=λ (y:aB) bk v=> @ais y bk aa v ht
 have J:=λE=>(show Rd E w 4 ((gh (x.s.cw aa)).map eF)from d2 E).bN
 have hbl: (gh (x.s.cw aa)).length<=4:=by have:=(hs.bx aa).n;simp[gh];omega
 have hml: ∀m∈gh (x.s.cw aa),ue m:=λm hm=>by
  obtain⟨i,_,rfl⟩:=afJ.1 hm;exact(hs.bx aa).ring _
 rw[T8];generalize hl:gh (x.s.cw aa)=l at*;simp only[go_sem,simprocAttr,Rr,hN,ho.at',ho.g,ho.s,ho.g2,ho.s2,CS,c1,c2,c3,↓hb,hsb,L8,d1,J,MB];have hs0:bf (rH x aa).s:=(hs.xy iZ.gone).LX;have avn:LI bk p N H (rH x aa) bk (H.set p (.box (bb (rH x aa) bk) none)) none:=LI.set ⟨ha,bU.refl _ _,hs,hp,.inl ⟨.inl rfl,.inl rfl⟩⟩ hs0 rfl (aen _);refine gN l.length (λk e W' ak=> ∃y I,(l.take k).foldlM Ae (rH x aa)= .ok y/\LI bk p N H y I W' ak/\e 0= .ptr p 0/\e 1= .int .i64 aa/\e 38=w/\e 39= .int .i64 l.length/\e 40= .int .i64 k) 0 (by omega) ?_ ?_
 ·simp only[go_sem,simprocAttr];exact⟨rH x aa,bk,rfl,avn.app _⟩
 rintro k hk e U s ⟨y,A,y1,d,C,B,r,o,j⟩ n hn;simp only[bQ,go_sem,simprocAttr,afn,d.dN.at',↓CL,C,B,r,o,j];refine⟨λW=>?_,λW=>?_⟩
 ·have g:k<l.length:=by omega
  have F:=(show Rd ⟨U,s⟩ w 4 (l.map eF)from d2 _);have c:=foldlM_succ (f:=Ae) (a:=rH x aa) g;rw[y1,okB]at c;have hmo:ue (l.getD k default):=by
   exact hml _ (by simp[List.getD,g])
  have T9:=hmo.aR;have hmf:=hmo.fr;have L2:=d.app [ae.box (eF (l.getD k default)) none];have o5:=d.dN;have pa:=λ (z:aB) bk=> @TO z bk (l.getD k default).fr hmf
  have c4: ((l.getD k default).fr:Int)<8:=by omega
  have e1:Ae y (l.getD k default)=if(l.getD k default).aR=0\/ (l.getD k default).share=true then .ok y else if y.s.alive (l.getD k default).fr then mM y (l.getD k default).aR (l.getD k default).fr else .ok (fP y (l.getD k default).aR):=rfl
  rw[e1]at c;by_cases h0: (l.getD k default).aR=0
  ·have S:decide (((l.getD k default).aR:Int)=0)=true:=ad0 (by omega);rw[adV (.inl h0)]at c;simp(disch:=omega) only[go_sem,simprocAttr,F.ca,F.cD,oG,S,hn,C,B,r,o,j];exact⟨by omega,g,y,A,c,L2⟩
  ·have S:decide (((l.getD k default).aR:Int)=0)=false:=adZ (by omega);cases G: (l.getD k default).share with
   |true=>
    rw[adV (.inr G)]at c;rw[oG,G]at L2;simp(disch:=omega) only[go_sem,simprocAttr,F.ca,F.cD,oG,S,G,hn,C,B,r,o,j];exact⟨by omega,g,y,A,c,L2⟩
   |false=>
    rw[ada (by rintro(q|q);exact h0 q;rw[G]at q;cases q)]at c;rw[oG,G]at L2;cases Y:y.s.alive (l.getD k default).fr with
    |false=>
     rw[Y,ada (by simp)]at c;obtain⟨T,W2,Q,g1,g2,Z⟩:=L2.gone O (l.getD k default).aR T9;simp(disch:=omega) only[go_sem,simprocAttr,F.ca,F.cD,oG,S,G,Y,o5.g,c4,↓pa,g1,hn,C,B,r,o,j];exact⟨by omega,g,_,T,c,g2⟩
    |true=>
     rw[Y,adV rfl]at c;have hw:=L0 (ho:=L2.dN) (lo:=s) L2.ok (l.getD k default).aR T9 (l.getD k default).fr (by omega);simp(disch:=omega) only[go_sem,simprocAttr,F.ca,F.cD,oG,S,G,Y,o5.g,o5.s,c4,↓pa,hw,ai0,dV,dW,EP,hn,C,B,r,o,j];refine⟨by omega,λm1=>⟨g,_,A,?_,(d.set (z:=y.o (ra y.s.O y.s.T (l.getD k default).aR (l.getD k default).fr).1) (d.ok.uh (d.ok.O.iT T9)) rfl (aen _)).app _⟩,λe' m1=>?_⟩
     ·rw[c];unfold mM;rw[m1];rfl
     ·obtain⟨H2,Q,g1,g2,Z⟩:=LI.err (v:=jo e') (lo:=lo) O L2 hN (aep _);have c: (l.take (k+1)).foldlM Ae (rH x aa)= .error e':=by rw[c];unfold mM;rw[m1];rfl
      rw[ai1 c,da];rw[g1];exact⟨_,_,rfl,g2,Z⟩
 ·obtain rfl:k=l.length:=by omega
  rw[afH]at y1;rw[y1,okB];clear L8 hsb hb d1 J hml;have ai6:=d.ok;obtain⟨wt,t1,t2,t3⟩:=ahM y.s.K ai6.K aa U s;have t1:=ly t1;have Ua:=λE=>(show Rd E wt 1 ((sR y.s.K aa).map hC)from t2 E).bN
  simp only[go_sem,simprocAttr,t1,Ua];have e1:L7 y aa=T7 ((sR y.s.K aa).foldl Af y) aa:=rfl;rw[e1];have K: (sR y.s.K aa).length<=32:=afY (ag7 _ _) (kr _);generalize AX:sR y.s.K aa=M at*;have u: ∀z∈M,z<4294967296:=λz hz=>by
   rw[<-AX]at hz;exact fC ((fO ai6.K.b).1 (afR.1 hz).1)
  refine gN M.length (λk e W' ak=> ∃I,LI bk p N H ((M.take k).foldl Af y) I W' ak/\e 0= .ptr p 0/\e 1= .int .i64 aa/\e 80=wt/\e 81= .int .i64 M.length/\e 82= .int .i64 k) 0 (by omega) ?_ ?_
  ·simp only[go_sem,simprocAttr,C,B];exact⟨A,d⟩
  clear d y1 hk C B r o j W t1 d2 d3;rintro k hk e U s ⟨A,d,C,B,r,o,j⟩ n hn;simp only[bQ,go_sem,simprocAttr,afm,d.dN.at',↓CL,C,B,r,o,j];refine⟨λW=>?_,λW=>?_⟩
  ·have g:k<M.length:=by omega
   have F:=(show Rd ⟨U,s⟩ wt 1 (M.map hC)from t2 _);have c:=foldl_succ (f:=Af) (a:=y) g;have P:=u (M.getD k default) (by simp[List.getD,g]);obtain⟨w',L⟩:=ahY ((M.take k).foldl Af y).s.K d.ok.K (M.getD k default) P (d.ok.th _) U s;have L:=ly L;simp(disch:=omega) only[go_sem,simprocAttr,F.ca,F.cD,↓pH,d.dN.at',↓CL,CS,L,C,B,r,o,j];rw[c];exact⟨by omega,g,A,d.set (z:=Af ((M.take k).foldl Af y) (M.getD k default)) (d.ok.Aa (d.ok.tok.ret _)) rfl (aen _)⟩
  ·obtain rfl:k=M.length:=by omega
   simp only[afH]at d⊢;clear AX K u Ua t2 hk W;generalize M.foldl Af y=z at*;obtain⟨wr,L,r2,r3⟩:=ah0 z.s.O d.ok.O z.s.T d.ok.T d.ok.tr aa U s;have L:=ly L;have R:=λE=>(show Rd E wr 1 ((gl z.s.O z.s.T (jn aa)).map hC)from r2 E).bN
   simp only[go_sem,simprocAttr,L,R];have e1:T7 z aa=L6 ((gl z.s.O z.s.T (jn aa)).foldl fP z) aa:=by
    have: (λh=>decide (root z.s.T h=h)&&decide ((bt z.s.O z.s.T h).kind=1)&&decide ((bt z.s.O z.s.T h).aa=aa))=ud z.s.O z.s.T (jn aa):=by funext h;simp[ud,jn,Bool.and_assoc]
    unfold T7 gl L6;rw[this]
   rw[e1];have K: (gl z.s.O z.s.T (jn aa)).length<=32:=afY (ag7 _ _) (kr _);have u: ∀a∈gl z.s.O z.s.T (jn aa),a<4294967296:=λa ha=>fC ((fO d.ok.T.b).1 (afR.1 ha).1)
   generalize gl z.s.O z.s.T (jn aa)=X at*;refine gN X.length (λk e W' ak=> ∃I,LI bk p N H ((X.take k).foldl fP z) I W' ak/\e 0= .ptr p 0/\e 1= .int .i64 aa/\e 117=wr/\e 118= .int .i64 X.length/\e 119= .int .i64 k) 0 (by omega) ?_ ?_
   ·simp only[go_sem,simprocAttr,C,B];exact⟨A,d⟩
   clear d C B r o j L e1 R;rintro k hk e U s ⟨A,d,C,B,r,o,j⟩ n hn;simp only[bQ,go_sem,simprocAttr,afl,d.dN.at',↓CL,C,B,r,o,j];refine⟨λW=>?_,λW=>?_⟩
   ·have g:k<X.length:=by omega
    have F:=(show Rd ⟨U,s⟩ wr 1 (X.map hC)from r2 _);have c:=foldl_succ (f:=fP) (a:=z) g;have P:=u (X.getD k default) (by simp[List.getD,g]);obtain⟨T,W2,Q,g1,g2,Z⟩:=d.gone O (X.getD k default) P;simp(disch:=omega) only[go_sem,simprocAttr,F.ca,F.cD,↓pH,g1,C,B,r,o,j];rw[c];exact⟨by omega,g,T,g2⟩
   ·obtain rfl:k=X.length:=by omega
    simp only[afH]at d⊢;clear K u r2 hk W;generalize X.foldl fP z=t at*;obtain⟨wh,L,r2,r3⟩:=ah1 t.s.O d.ok.O t.s.T d.ok.T d.ok.tr aa (by omega) U s;have L:=ly L;have R:=λE=>(show Rd E wh 1 ((gl t.s.O t.s.T (nD aa)).map hC)from r2 E).bN
    simp only[go_sem,simprocAttr,L,R];have e1:L6 t aa=(gl t.s.O t.s.T (nD aa)).foldlM (λy h=>kx y h aa) t:=by
     have: (λh=>decide (root t.s.T h=h)&&decide ((bt t.s.O t.s.T h).kind=3)&& (decide (aa<8)&&mI (bt t.s.O t.s.T h).hold aa))=ud t.s.O t.s.T (nD aa):=by funext h;simp[ud,nD,Bool.and_assoc]
     unfold gl L6;rw[this]
    rw[e1];have K: (gl t.s.O t.s.T (nD aa)).length<=32:=afY (ag7 _ _) (kr _);have u: ∀a∈gl t.s.O t.s.T (nD aa),a<4294967296:=λa ha=>fC ((fO d.ok.T.b).1 (afR.1 ha).1)
    generalize gl t.s.O t.s.T (nD aa)=V at*;refine gN V.length (λk e W' ak=> ∃y I,(V.take k).foldlM (λy h=>kx y h aa) t= .ok y/\LI bk p N H y I W' ak/\e 0= .ptr p 0/\e 1= .int .i64 aa/\e 140=wh/\e 141= .int .i64 V.length/\e 142= .int .i64 k) 0 (by omega) ?_ ?_
    ·simp only[go_sem,simprocAttr,C,B];exact⟨t,A,rfl,d⟩
    clear d C B r o j L e1 R;rintro k hk e U s ⟨y,A,y1,d,C,B,r,o,j⟩ n hn;simp only[bQ,go_sem,simprocAttr,afk,r,o,j];refine⟨λW=>?_,λW=>?_⟩
    ·have g:k<V.length:=by omega
     have F:=(show Rd ⟨U,s⟩ wh 1 (V.map hC)from r2 _);have c:=foldlM_succ (f:=λy h=>kx y h aa) (a:=t) g;rw[y1,okB]at c;have P:=u (V.getD k default) (by simp[List.getD,g]);obtain⟨cr,g1,g2⟩:=aiW s d.at' d.ok (V.getD k default) P aa (by omega) (by have:=T5 d.ok (V.getD k default);have:=d.eV;omega);cases De:kx y (V.getD k default) aa with
     |ok z3=>
      rw[De]at g2 c;obtain⟨T,W2,Q,rfl,g2,Z,g4⟩:=g2;have hd:=avl d.ok P De;simp(disch:=omega) only[go_sem,simprocAttr,F.ca,F.cD,↓pH,g1,C,B,r,o,j];exact⟨by omega,g,z3,T,c,d.next O g2 Z g4 hd.1 hd.2⟩
     |error e'=>
      rw[De]at g2 c;have g2:cr=_:=g2;rw[g2]at g1;simp(disch:=omega) only[go_sem,simprocAttr,F.ca,F.cD,↓pH,g1,ai0,EP,C,B];refine⟨by omega,?_⟩;obtain⟨H2,Q,g1,g2,Z⟩:=LI.err (v:=jo e') (lo:=lo) O d hN (aep _);rw[ai1 c,g1];exact⟨_,_,rfl,g2,Z⟩
    ·obtain rfl:k=V.length:=by omega
     rw[afH]at y1;rw[y1];obtain⟨H2,Q,g1,g2,Z,g4⟩:=d.done O (v:=.ay []) (lo:=lo) hN ha (aep _);rw[g1];exact⟨_,_,_,rfl,g2,Z,g4⟩
end
section
variable{x:aB}{bk:AV}{p:Nat}{H:List ae}(lo:oN)(ha:At p x bk H)(hx:mR x)
include ha hx
theorem avp(l:eV x<=2048): ∃j,D XA (.fn (.func 269) [] []) [.ptr p 0] ⟨H,lo⟩=some j/\ui p H lo (nr x x.aa>>=λy=>.ok (y,bO)) j:=by
 refine cz Kx λN f=>?_
 have ho:Old p H (.box (bb x bk) none):=⟨ha.box⟩;have c:p<N:=by rw[<-f];exact ho.lt
 obtain⟨j,g1,g2⟩:=ai2 (bk:=bk) (H:=H++[.box [.int .i64 0,.int .u64 0,.int .u32 0] none]) none ⟨ho.g _,ha.own.ext⟩ hx.s x.aa hx.t l;cases k:nr x x.aa with
 |error e=>
  rw[k]at g2;obtain⟨W,ak,rfl,g,i⟩:=g2;simp only[go_sem,simprocAttr,Kx,f,ho.g,↓CL,g1,EP];obtain⟨n,h,f1,f2,f3⟩:=L4 (v:=jo e) (lo:=lo) f c g (i.imp And.left id) (aep _);rw[f1,da];exact⟨_,_,rfl,f2,f3⟩
 |ok y=>
  rw[k]at g2;obtain⟨m,W,ak,rfl,g2,g,i⟩:=g2;have b:W[N]?=some (.box [.int .i64 0,.int .u64 0,.int .u32 0] none):=g.box N _ (by omega) (λa d e=>by cases e) (by grind);simp only[go_sem,simprocAttr,Kx,f,ho.g,↓CL,g1,b,cO b];obtain⟨n,h,f1,f2,f3,f4⟩:=Ad (v:=.agg [.int .i64 0,.int .u64 0,.int .u32 0]) (lo:=lo) f c Cx g2 g (i.imp (λq=>⟨q.1,.inl q.2.1,trivial⟩) id) (aep _) b (.box [.int .i64 0,.int .u64 0,.int .u32 0] none);rw[f1,okB];exact⟨_,_,_,rfl,f2,f3,f4⟩
theorem avq(o:eV x<=2048): ∃m,D XA (.fn (.func 270) [] []) [.ptr p 0] ⟨H,lo⟩=some m/\ui p H lo (zL x) m:=by
 refine cz Ft λN f=>?_
 have ho:Old p H (.box (bb x bk) none):=⟨ha.box⟩;have g:p<N:=by rw[<-f];exact ho.lt
 have r:zL x=mL x x.c.a>>=λ_=>nr x x.c.a>>=λy=>.ok (y,bO):=rfl
 have h:=λB lo=>LY (ho.app B) lo x.c.a
 rw[r];by_cases k:x.c.a<8
 ·obtain⟨m,g1,g2⟩:=ai2 (bk:=bk) (H:=H++[.box [.int .i64 0,.int .u64 0,.int .u32 0] none]) none ⟨ho.g _,ha.own.ext⟩ hx.s x.c.a k o;cases n:nr x x.c.a with
  |error e=>
   rw[n]at g2;obtain⟨W,ak,rfl,i,l⟩:=g2;simp(disch:=omega) only[F1,go_sem,simprocAttr,Ft,f,ho.g,↓CL,h,g1,dV,dW,EP];obtain⟨u,j,f1,f2,f3⟩:=L4 (v:=jo e) (lo:=lo) f g i (l.imp And.left id) (aep _);rw[f1]
   (repeat' (first| (refine⟨?_,?_⟩)|intro _))
   ·rename_i b;rw[b,okB,da];exact⟨_,_,rfl,f2,f3⟩
   ·rename_i s b;rw[b,da];exact .err
  |ok y=>
   rw[n]at g2;obtain⟨t,W,ak,rfl,g2,i,l⟩:=g2;have c:W[N]?=some (.box [.int .i64 0,.int .u64 0,.int .u32 0] none):=i.box N _ (by omega) (λa d e=>by cases e) (by rw[dv f];rfl);simp(disch:=omega) only[F1,go_sem,simprocAttr,Ft,f,ho.g,↓CL,h,g1,c,cO c,dV,dW,EP];obtain⟨u,j,f1,f2,f3,f4⟩:=Ad (v:=.agg [.int .i64 0,.int .u64 0,.int .u32 0]) (lo:=lo) f g Cx g2 i (l.imp (λq=>⟨q.1,.inl q.2.1,trivial⟩) id) (aep _) c (.box [.int .i64 0,.int .u64 0,.int .u32 0] none);rw[f1]
   (repeat' (first| (refine⟨?_,?_⟩)|intro _))
   ·rename_i b;rw[b,okB,okB];exact⟨_,_,_,rfl,f2,f3,f4⟩
   ·rename_i s b;rw[b,da];exact .err
 ·rw[xz k]at h;simp only[F1,go_sem,simprocAttr,Ft,f,ho.g,↓CL,h,ef,EP];rw[xz k,da];exact .err
end
def rI:Nat->oN
 |1=>some 251|2=>some 252|3=>some 253|4=>some 254|5=>some 255
 |6=>some 256|7=>some 257|8=>some 258|9=>some 259|10=>some 260
 |11=>some 261|12=>some 262|13=>some 263|14=>some 264|15=>some 265
 |16=>some 265|17=>some 266|18=>some 267|19=>some 268|20=>some 269
 |21=>some 270|22=>some 271|_=>none
def avr{H:List ae}(lo:oN)(d:At p x bk H)(b:mR x)(j:eV x<=2048){f:Nat}(g:rI x.c.op=some f):
  ∃c,D XA (.fn (.func f) [] []) [.ptr p 0] ⟨H,lo⟩=some c/\ui p H lo (jV x) c:=by
 have ho:Old p H (.box (bb x bk) none):=⟨d.box⟩;have hB: ∀a,x.back.length+64*(under x.s.T a).length<=4294967296:=λa=>by have:=T5 b.s a;omega
 have i:x.back.length<=4294967296:=by have:=hB 0;omega
 have ex: ∀ {f:Nat} {m:R (aB×bF)},(∃c,D XA (.fn (.func f) [] []) [.ptr p 0] ⟨H,lo⟩=some c/\bh x.back bk p H lo m c)-> ∃c,D XA (.fn (.func f) [] []) [.ptr p 0] ⟨H,lo⟩=some c/\ui p H lo m c:=λh=>by
  obtain⟨c,l,k⟩:=h;exact⟨c,l,k.c d⟩
 unfold rI at g;unfold jV;split at g<;>(try cases g)<;>(rename_i e;simp only[e])
 ·exact ex (au1 ho b)
 ·exact ex (au4 ho b)
 ·exact ex (auO ho b)
 ·exact ex (auP ho b)
 ·exact ava lo d b i
 ·exact au9 lo d b (hB _)
 ·exact ex (auY ho b)
 ·exact ex (auS ho b)
 ·exact ex (auZ ho b)
 ·exact ex (auT ho b)
 ·exact avd lo d b (hB _)
 ·exact ex (au2 ho b)
 ·exact ex (auV ho b)
 ·exact ex (au3 ho b)
 ·exact ex (aiP ho b)
 ·exact ex (aiP ho b)
 ·exact ex (auU ho b)
 ·exact ex (auX ho b)
 ·exact ex (auR ho b)
 ·exact avp lo d b j
 ·exact avq lo d b j
 ·exact ex (auW ho b)
def avs(h:rI x.c.op=none):jV x= .error 2:=by
 unfold rI at h;unfold jV
 grind
noncomputable def F7:lA->AS->Option aX:=wm XA (D XA) Lw xx 115 wN
def avt(p:Nat)(H:List ae)(lo:oN):R (aB×bF)->aX->Prop
 |.ok (y,r),a=> ∃b H' ak,a= .ret (.agg (bG r)) ⟨H',ak⟩/\At p y b H'/\bU p H H'/\Ac p H H' lo ak
 |.error e,a=> ∃H' ak,a= .ret (.agg (bG {bO with e:=e})) ⟨H',ak⟩/\bU p H H'/\Ac p H H' lo ak
def avu{K:AS->Prop}{H:List ae}{q:Nat}(h:K ⟨H,lo⟩):qL XA xx (.fn (.func 160) [] [.ptr q 0]) [] .eJ ⟨H,lo⟩ K:=by
 refine Ib (pr:=wO) rfl rfl λn a=>?_
 simp(disch:=omega) only[F1,go_sem,simprocAttr,wO,aiA];exact⟨.inl trivial,.ay [],rfl,by trivial⟩
def L9{K:AS->Prop}{H:List ae}{q:Nat}{a b c:AV}(e:Nat)(d:H[q]?=some (.box [a,b,c] none))(h:K ⟨H.set q (.box [.int .i64 e,.int .u64 0,.int .u32 0] none),lo⟩):qL XA xx (.fn (.func 160) [] [.ptr q 0]) [] (jo e) ⟨H,lo⟩ K:=by
 refine Ib (pr:=wO) rfl rfl λn f=>?_
 simp only[F1,go_sem,simprocAttr,wO,aiB,d,aiC];refine⟨.inl trivial,.ay [],rfl,?_⟩;rw[adV (show(AV.ay []).refs<=n from aep _),ael (by grind)];exact h
def ai7{H:List ae}(lo:oN)(J:At p x bk H)(K:bf x.s)(P:iH x.c)(M:x.run.1<4294967296/\x.run.2<4294967296)(T:x.aa<4294967296)(O:eV x<=2048)
  (o: ∀E,jv XA.fU E .int .ds (.lG uR) (.int .u8 x.c.op) true=some (match rI x.c.op with|some f=>.ay [.fn (.func f) [] [],.bool true]|none=>.ay [.ds,.bool false])):
  ∃G,F7 [.ptr p 0] ⟨H,lo⟩=some G/\avt p H lo (ji x) G:=by
 refine OY wN rfl rfl λN g=>?_
 have ho:Old p H (.box (bb x bk) none):=⟨J.box⟩;have m:p<N:=by rw[<-g];exact ho.lt
 have c: ∀b H lo,D XA (.fn (.func 161) [] []) [.bool b,.int .i64 12] ⟨H,lo⟩=_:=λb=>lD b 12
 by_cases w:x.aa<8
 ·have s: (x.aa:Int)<8:=by omega
  have c0: (x.aa:Int)>=0:=by omega
  have hand:dt .and (.int .i64 (x.aa:Nat)) (.int .i64 7)=some (.int .i64 (x.aa:Nat)):=by
   rcases(show x.aa=0\/x.aa=1\/x.aa=2\/x.aa=3\/x.aa=4\/x.aa=5\/x.aa=6\/x.aa=7 by omega)with h|h|h|h|h|h|h|h<;>rw[h]<;>rfl
  have n: ∀E,ck XA E false 1 (.dJ uR)=some (.lG uR):=λE=>rfl
  have i:=λbk=> @TO x bk x.aa w
  cases l:x.s.alive x.aa with
  |false=>
   rw[l]at i;have c: ∀H lo,D XA (.fn (.func 161) [] []) [.bool false,.int .i64 12] ⟨H,lo⟩=_:=λH lo=>lx (z7 12 H lo)
   simp only[go_sem,simprocAttr,wN,g,ke,kc,ho.g,↓CL,s,c0,hand,↓i,c,jq];refine⟨rfl,?_⟩;rw[nY];refine L9 12 (by rw[dv g];rfl) ?_;have u:ji x= .error 12:=by
    have: (decide (x.aa<8)&&x.s.alive x.aa)=false:=by rw[l,aqZ]
    unfold ji;rw[this];rfl
   simp(disch:=omega) only[F1,go_sem,simprocAttr];rw[u];exact⟨_,_,rfl,bU.refl _ _,.inl ⟨rfl,rfl,trivial⟩⟩
  |true=>
   rw[l]at i;have c: ∀H lo,D XA (.fn (.func 161) [] []) [.bool true,.int .i64 12] ⟨H,lo⟩=_:=λH lo=>lx (F3 12 H lo)
   have u:ji x=jV x:=by
    have: (decide (x.aa<8)&&x.s.alive x.aa)=true:=by rw[l,ad0 w];rfl
    unfold ji;rw[this];rfl
   rw[u];cases k:rI x.c.op with
   |none=>
    rw[k]at o;have z: ∀H lo,D XA (.fn (.func 161) [] []) [.bool false,.int .i64 2] ⟨H,lo⟩=_:=λH lo=>lx (z7 2 H lo)
    simp only at o;simp only[go_sem,simprocAttr,wN,g,ke,kc,ho.g,↓CL,s,c0,hand,↓i,c,n,o,z];refine⟨rfl,?_⟩;rw[nY];refine L9 2 (by rw[dv g];rfl) ?_;simp(disch:=omega) only[F1,go_sem,simprocAttr];rw[avs k];exact⟨_,_,rfl,bU.refl _ _,.inl ⟨rfl,rfl,trivial⟩⟩
   |some f=>
    rw[k]at o;simp only at o;have z: ∀H lo,D XA (.fn (.func 161) [] []) [.bool true,.int .i64 2] ⟨H,lo⟩=_:=λH lo=>lx (F3 2 H lo)
    obtain⟨G,g1,g2⟩:=avr (bk:=bk) (H:=H++[.box [.int .i64 0,.int .u64 0,.int .u32 0] none]) none ⟨ho.g _,J.own.ext⟩ ⟨K,w,P,M⟩ O k;cases I:jV x with
    |error e=>
     rw[I]at g2;obtain⟨W,ak,rfl,t,F⟩:=g2;have j:W[N]?=some (.box [.int .i64 0,.int .u64 0,.int .u32 0] none):=t.box N _ (by omega) (λa d e=>by cases e) (by rw[dv g];rfl);simp only[go_sem,simprocAttr,wN,g,ke,kc,ho.g,↓CL,s,c0,hand,↓i,c,n,o,z,g1];refine⟨rfl,?_⟩;rw[nY];refine L9 e j ?_;simp only[go_sem,simprocAttr,cO j];have Q:bU p (H++[]) (W.set N (.box [.int .i64 (e:Nat),.int .u64 0,.int .u32 0] none)):=by
      rw[afZ];exact aiV g m (T2 (N:=N) t (by omega)) _
     obtain⟨S,A,f1,f2,f3⟩:=L4 (v:=.agg [.int .i64 (e:Nat),.int .u64 0,.int .u32 0]) (lo:=lo) g m Q (F.imp And.left id) (aep _);rw[f1];exact⟨_,_,rfl,f2,f3⟩
    |ok a=>
     rw[I]at g2;obtain⟨y,r⟩:=a;obtain⟨R,W,ak,rfl,g2,t,F⟩:=g2;have j:W[N]?=some (.box [.int .i64 0,.int .u64 0,.int .u32 0] none):=t.box N _ (by omega) (λa d e=>by cases e) (by rw[dv g];rfl);simp only[go_sem,simprocAttr,wN,g,ke,kc,ho.g,↓CL,s,c0,hand,↓i,c,n,o,z,g1,j];refine⟨rfl,rfl,?_⟩;rw[DL];refine avu ?_;have L:List.drop (bG r).length [AV.int .i64 0,.int .u64 0,.int .u32 0]=[]:=rfl;have B:List.take 3 (bG r)=bG r:=rfl;have C: (bG r).length=3:=rfl;simp only[go_sem,simprocAttr,cO j,B,C];obtain⟨S,A,f1,f2,f3,f4⟩:=Ad (v:=.agg (bG r)) (lo:=lo) g m Cx g2 t (F.imp (λq=>⟨q.1,.inl q.2.1,trivial⟩) id) (aep _) j (.box (bG r) none);rw[adV (show aI (bG r)<=N+1 from aep _),f1];exact⟨_,_,_,rfl,f2,f3,f4⟩
 ·have s: ¬(x.aa:Int)<8:=by omega
  have c0: (x.aa:Int)>=0:=by omega
  have c: ∀H lo,D XA (.fn (.func 161) [] []) [.bool false,.int .i64 12] ⟨H,lo⟩=_:=λH lo=>lx (z7 12 H lo)
  simp only[go_sem,simprocAttr,wN,g,ke,kc,ho.g,↓CL,s,c0,c,jq];refine⟨rfl,?_⟩;rw[nY];refine L9 12 (by rw[dv g];rfl) ?_;have u:ji x= .error 12:=by
   have: (decide (x.aa<8)&&x.s.alive x.aa)=false:=by rw[adZ w];rfl
   unfold ji;rw[this];rfl
  simp(disch:=omega) only[F1,go_sem,simprocAttr];rw[u];exact⟨_,_,rfl,bU.refl _ _,.inl ⟨rfl,rfl,trivial⟩⟩
noncomputable def XB:Ctx:={XA with b8:=λf=>if f=115 then some F7 else XA.b8 f}
theorem ai8:Ext XA XB where
 dJ:=rfl
 fU:=rfl
 code:=rfl
 b8:=λf=>by
  by_cases a:f=115
  ·subst a;exact .inr ⟨rfl,rfl⟩
  ·left;show(if f=115 then some F7 else XA.b8 f)=XA.b8 f
   grind
theorem Ma{args:lA}{E:AS}{E':AS}(h:F7 args E=some (.ret v E')):D XB (.fn (.func 115) [] []) args E=some (.ret v E'):=DK rfl h
def NE{α:Type}(m:R α):Prop:= ∀e,m= .error e->e≠0/\e<13
theorem NE.ok{a:α}:NE (.ok a:R α):=by intro e h;cases h
theorem NE.pure{a:α}:NE (Pure.pure a:R α):=NE.ok
def NE.err(a:e≠0/\e<13):NE (.error e:R α):=by intro e h;grind
def NE.bind{m:R α}{f:α->R β}(b:NE m)(c: ∀a,NE (f a)):NE (m>>=f):=by
 cases m with
 |error e=>intro e h;cases h;exact b _ rfl
 |ok a=>exact c a
def NE.ask{b:Bool}(a:e≠0/\e<13):NE (ask b e):=by
 unfold Go.Proofs.YtcdeobefbpnfeaaGreatDoor.ask;split
 ·exact NE.ok
 ·exact NE.err a
def NE.cp(a:e<13):NE (cp e):=by
 unfold Go.Proofs.YtcdeobefbpnfeaaGreatDoor.cp;split
 ·exact NE.ok
 ·exact NE.err ⟨‹_›,a⟩
theorem NE.foldlM{α β:Type}{f:α->β->R α}(h: ∀a b,NE (f a b)): ∀ (l:List β) (a:α),NE (l.foldlM f a)
 | [],_=>NE.ok
 |b::l,a=>NE.bind (h a b) λa=>NE.foldlM h l a
def ai9(h: (n+1).ble 13=true):n<13:=aoG h
def avv{h:Nat}: (aN t h).2<13:=by unfold aN;grind
def avw{k:br}{h:Nat}: (cn k h).2<13:=by unfold cn;grind
def avx{T:aw}{O:bI}{K:br}{b c:Nat}:w5 T O K a b c<13:=by unfold w5;grind
def Mb{o:bI}{x:Ow}: (eZ o t r a x).2<13:=by unfold eZ;grind
def aja{o:bI}{b:Bool}: (c9 o t r a b).2.2<13:=by unfold c9;repeat' (first|simp|exact Mb|split)
def avy{o:bI}: (wZ o t r).2<13:=Mb
def avz{o:bI}: (zD o t r a).2<13:=Mb
def avA{h t:Nat}: (vu x h t).2<13:=aja
def ajb{h:Nat}{r:dm}: (fN t h r).2<13:=by unfold fN;grind
def ajc{h u:Nat}: (jU t h u).2<13:=by unfold jU;grind
def avB{h:Nat}: (iU t h).2<13:=by unfold iU;split;exact ai9 rfl;exact ajc
def avC{h u:Nat}: (ox t h u).2<13:=by unfold ox;repeat' (first|exact ai9 rfl|exact ajc|split)
def avD{h u:Nat}: (fu t h u).2.2<13:=by unfold fu lg;grind
def avE{k:br}{x:Tok}: (lh k x).2.2<13:=by unfold lh pV;grind
def avF{x:kp}: (mJ b x).2<13:=by unfold mJ;grind
def avG: (lk b).2.2<13:=by unfold lk;grind
def avH: (vo b).2<13:=by unfold vo;grind
def avI{b c:Nat}{f:Bool}: (mK t a b c f).2<13:=by unfold mK;repeat' (first|simp|exact ajb|split)
def avJ{b:Nat}: (sS t a b).2<13:=by unfold sS;grind
def avK{h w:Nat}:NE (fY x h w):=NE.cp avx
def avL{t:Nat}:NE (mL x t):=NE.ask (by decide)
def ajd{h t:Nat}:NE (mM x h t):=NE.bind (NE.cp Mb) λ_=>NE.ok
def avM{h:Nat}{r:dm}:NE (nq x h r):=NE.bind (NE.cp ajb) λ_=>NE.ok
def avN{h:Nat}:NE (vq x h):=NE.bind (NE.cp avB) λ_=>NE.ok
def avO{h:Nat}:NE (zJ x h):=NE.bind (NE.ask (by decide)) λ_=>NE.bind (NE.ask (by decide)) λ_=>NE.ask (by decide)
def aje{h t:Nat}:NE (kx x h t):=NE.bind (NE.cp aja) λ_=>NE.ok
def avP{t:Nat}:NE (nr x t):=by
 unfold nr
 repeat with_reducible (first| (refine NE.bind ?_ λ_=>?_)| (refine NE.foldlM (λ_ _=>?_) _ _)|exact ajd|exact aje|exact NE.pure|split|rfl)
def avQ(x:aB):NE (jV x):=by
 unfold jV;split
 all_goals try(first|unfold sT|unfold ll|unfold rh|unfold vt|unfold w8|unfold w9|unfold xa|unfold xb|unfold xc|unfold zK|unfold ri|unfold xd|unfold oA|unfold pW|unfold xe|unfold pX|unfold xf|unfold zL|unfold rj)
 all_goals repeat with_reducible (first| (refine NE.bind ?_ λ_=>?_)|exact NE.pure|exact NE.err (by decide)|exact NE.ask (by decide)|exact avK|exact avL|exact ajd|exact avM|exact avN|exact avO|exact aje|exact avP| (refine NE.cp ?_;first|exact avv|exact avD|exact avC|exact avy|exact avz|exact avA|exact avw|exact avE|exact avF|exact avG|exact avH|exact avI|exact avJ)|split|dsimp only)
def ajf(h:ji x= .error e):e≠0/\e<13:=NE.bind (NE.ask (by decide)) (λ_=>avQ x) _ h
def ajg(h:ji x= .error e):e≠0:=(ajf h).1
def EZ(m:R (aB×bF)):Prop:= ∀a,m= .ok a->a.2.e=0
theorem EZ.ok{a:aB×bF}(h:a.2.e=0):EZ (.ok a):=by intro b c;grind
theorem EZ.pure{a:aB×bF}(h:a.2.e=0):EZ (Pure.pure a:R (aB×bF)):=EZ.ok h
def EZ.err:EZ (.error e):=by intro b a;cases a
def EZ.bind{m:R α}{f:α->R (aB×bF)}(c: ∀a,EZ (f a)):EZ (m>>=f):=by
 cases m with
 |error e=>intro b d;cases d
 |ok a=>exact c a
def avR(x:aB):EZ (jV x):=by
 unfold jV;split
 all_goals try(first|unfold sT|unfold ll|unfold rh|unfold vt|unfold w8|unfold w9|unfold xa|unfold xb|unfold xc|unfold zK|unfold ri|unfold xd|unfold oA|unfold pW|unfold xe|unfold pX|unfold xf|unfold zL|unfold rj)
 all_goals repeat with_reducible (first| (refine EZ.bind λ_=>?_)|exact EZ.pure rfl|exact EZ.err|split|dsimp only)
def Ub{r:bF}(h:ji x= .ok (y,r)):r.e=0:=(show EZ (ji x)from EZ.bind λ_=>avR x) _ h
theorem ajh(s:bu)(aa:Nat)(c:cx)(run:aD):dx s aa c run=match ji ⟨s,aa,c,run,0,false,[]⟩with
  |.ok (y,r)=>(y.s,r,y.back)
  |.error e=>(s,{bO with e:=e},[]):=by
 unfold dx;cases h:ji ⟨s,aa,c,run,0,false,[]⟩with
 |error e=>rfl
 |ok a=>exact adV (Ub h)
theorem aji{t:Nat}:aK (bb x bk) 952 [.int .i64 t]=bb {x with aa:=t} bk:=by rw[Co (by omega)];rfl
theorem ajj{c:cx}:aK (bb x bk) 953 (bp c)=bb {x with c:=c} bk:=by rw[Co (by omega)];rfl
theorem ajk{r:aD}:aK (bb x bk) 959 (aA r)=bb {x with run:=r} bk:=by rw[Co (by omega)];rfl
theorem ajl{s:bu}:bo s++List.drop 952 Io=bb ⟨s,0,mN,(0,0),0,false,[]⟩ .aq:=rfl
def ajm:Io.length=964:=by decide
def Uc:m2.length=952:=by decide
def ajn:List.drop 952 m2=[]:=ahl (by rw[Uc];omega)
def Mc{s:bu}:List.take 952 (bo s)=bo s:=ael (by rw[ee];omega)
theorem F8{s:bu}:List.drop 952 (bo s)=[]:=by rfl
theorem F9{c:cx}: (bp c).length=6:=rfl
theorem Md{c:cx}:List.take 6 (bp c)=bp c:=rfl
theorem xA{r:bF}:List.take 3 (bG r)=bG r:=rfl
theorem uj{r:bF}: (bG r).length=3:=rfl
def DZ:=gG @aji<|gG @ajj<|gG @ajk<|gG @ajl<|gG @ajm<|gG @Uc<|gG @ajn<|gG @Mc<|gG @F8<|gG @F9<|gG @Md<|gG @xA<|gG @uj<|gG @ee @LM
def Ud(s:bu)(S:bf s)(aa:Nat)(R:aa<4294967296)(c:cx)(V:iH c)(run:aD)(T:run.1<4294967296/\run.2<4294967296)
  (Y: ∀E,jv XA.fU E .int .ds (.lG uR) (.int .u8 c.op) true=some (match rI c.op with|some f=>.ay [.fn (.func f) [] [],.bool true]|none=>.ay [.ds,.bool false])) (H:List ae) (lo:oN):
  ∃v,D XB (.fn (.func 90) [] []) [.agg (bo s),.int .i64 aa,.agg (bp c),.agg (aA run)] ⟨H,lo⟩=some (.ret (.ay [.agg (bo (dx s aa c run).1),.agg (bG (dx s aa c run).2.1),v]) ⟨H,lo⟩)/\Rv v 2 ((dx s aa c run).2.2.map aA):=by
 suffices j: ∃u,D XB (.fn (.func 90) [] []) [.agg (bo s),.int .i64 aa,.agg (bp c),.agg (aA run)] ⟨H,lo⟩=some u/\ (λu=> ∃v,u=aX.ret (.ay [.agg (bo (dx s aa c run).1),.agg (bG (dx s aa c run).2.1),v]) ⟨H,lo⟩/\Rv v 2 ((dx s aa c run).2.2.map aA)) u by
  obtain⟨u,h1,v,rfl,Z⟩:=j;exact⟨v,h1,Z⟩
 refine cz E8 λN h=>?_
 obtain⟨x,j⟩: ∃x:aB,x=⟨s,aa,c,run,0,false,[]⟩:=⟨_,rfl⟩;obtain⟨L,b⟩: ∃L:List ae,L=[.box (bo s) none,.box (bp c) none,.box (aA run) none,.box m2 none,.box [.int .i64 0,.int .u64 0,.int .u32 0] none,.box (bb x .aq) none]:=⟨_,rfl⟩;have K:At (N+5) x .aq (H++L):=⟨by rw[bA h,b];rfl,by rw[j];exact aT.aq⟩;obtain⟨u,g1,g2⟩:=ai7 (x:=x) none K (by rw[j];exact S) (by rw[j];exact V) (by rw[j];exact T) (by rw[j];exact R) (by rw[j];unfold eV;have:=kr s.T.b;simp;omega) (by rw[j];exact Y);have m:dx s aa c run=match ji x with
  |.ok (y,r)=>if r.e=0 then(y.s,r,y.back)else(s,r,[])
  |.error e=>(s,{bO with e:=e},[]):=by rw[j];rfl
 rw[b,j]at g1;have rest: ∀W:List ae,bU (N+5) (H++L) W-> ∀cs bs A B:lA,(∀i,i<N->(((W++[ae.box cs none]).set (N+3) (ae.box A none)).set (N+4) (ae.box B none))[i]?=H[i]?):=by
  intro W g cs bs A B i hi;have U:=g.len;simp at U;rw[acK (by omega),acK (by omega),ac7 (by omega),g.low i (by omega),ac7 (by omega)]
 cases J:ji x with
 |error e=>
  rw[J]at g2 m;obtain⟨W,ak,rfl,g,F⟩:=g2;have g1:=Ma g1;have w0:W[N]?=some (.box (bo s) none):=g.box N _ (by omega) (λa d e=>by cases e) (by rw[dv h,b];rfl);have w1:W[N+3]?=some (.box m2 none):=g.box (N+3) _ (by omega) (λa d e=>by cases e) (by rw[bA h,b];rfl);have G:W[N+4]?=some (.box [.int .i64 0,.int .u64 0,.int .u32 0] none):=g.box (N+4) _ (by omega) (λa d e=>by cases e) (by rw[bA h,b];rfl);have I:=λL=>bc (L:=L) w0
  have p:=λL=>bc (L:=L) w1
  have n:=λL=>bc (L:=L) G
  have z:=λL o=>cO (o:=o) (p L)
  have w:=λL o o'=>cO (o:=o') ((acK (by omega:N+3≠N+4)).trans (n L): ((W++L).set (N+3) o)[N+4]?=_)
  have he:=ajg J;have k: ¬((e:Nat):Int)=0:=by omega
  obtain⟨M,C⟩: ∃M,W.length=M:=⟨_,rfl⟩;have l: (M !=N+3)=true:=by
   have:=g.len;rw[b]at this;simp at this;simp;omega
  simp(disch:=omega) only[go_sem,simprocAttr,E8,h,DZ,g1,C,I,p,n,z,w,k,bG,l,aqf,z8,mF];rw[iF (en.le (N:=N+5) ?_ (by omega)) ?_]
  ·rw[m];exact⟨_,dj rfl (lv h (rest W g _ [] _ _)),.aq⟩
  ·exact F.elim (λq=>.inl q.1) λq=>.inr ⟨N+5,aen _,q⟩
  ·simp[AV.refs,aI,mF]
 |ok a=>
  obtain⟨y,r⟩:=a;rw[J]at g2 m;obtain⟨nE,W,ak,rfl,g2,g,F⟩:=g2;have m:dx s aa c run=if r.e=0 then(y.s,r,y.back)else(s,r,[]):=m
  have g1:=Ma g1;have w0:W[N]?=some (.box (bo s) none):=g.box N _ (by omega) (λa d e=>by cases e) (by rw[dv h,b];rfl);have w1:W[N+3]?=some (.box m2 none):=g.box (N+3) _ (by omega) (λa d e=>by cases e) (by rw[bA h,b];rfl);have G:W[N+4]?=some (.box [.int .i64 0,.int .u64 0,.int .u32 0] none):=g.box (N+4) _ (by omega) (λa d e=>by cases e) (by rw[bA h,b];rfl);have I:=λL=>bc (L:=L) w0
  have p:=λL=>bc (L:=L) w1
  have n:=λL=>bc (L:=L) G
  have Q:=λL=>bc (L:=L) g2.box
  have z:=λL o=>cO (o:=o) (p L)
  have w:=λL o o'=>cO (o:=o') ((acK (by omega:N+3≠N+4)).trans (n L): ((W++L).set (N+3) o)[N+4]?=_)
  obtain⟨M,C⟩: ∃M,W.length=M:=⟨_,rfl⟩;have X:N+6<=M:=by
   have:=g.len;rw[b]at this;simp at this;omega
  have l: (M !=N+3)=true:=by simp;omega
  have P: (M !=N+4)=true:=by simp;omega
  by_cases t:r.e=0
  ·rw[adV t]at m;have k: ((r.e:Nat):Int)=0:=by omega
   simp(disch:=omega) only[go_sem,simprocAttr,E8,h,DZ,↓CL,g1,C,p,n,z,w,Q,k,bG,l,aqf,z8,mF];have O:=aT.nz (o:=.box (bG r) none) (aT.nz (o:=.box (bo y.s) none) (aT.ext (L:=[ae.box (bG r) none]) (aT.le g2.own (show N<=N+5+1 by omega))) (p _)) ((acK (by omega:N+3≠N+4)).trans (n _));have er: [AV.int .i64 0,AV.int .u64 (r.v:Nat),AV.int .u32 (r.w:Nat)]=bG r:=by unfold bG;rw[t];rfl
   rw[er];refine⟨by simp,by simp,?_⟩;rw[uP (en.le (N:=N+5) ?_ (by omega)) (Fz.ay (d:=11) (ik.cons ((Fz.low (d:=0) ?_).mono (by omega)) (ik.cons ((Fz.low (d:=0) ?_).mono (by omega)) (ik.cons ((Fz.own (d:=0) O ?_).mono (by omega)) ik.nil))))]
   ·rw[m];refine⟨_,dj rfl (lv h (rest W g _ [] _ _)),?_⟩;exact aT.o8 O
   ·exact F.elim (λq=>.inl q.1) λq=>.inr ⟨N+5,aen _,q⟩
   ·simp[AV.refs,mF]
   ·exact aep _
   ·rw[bB (λx=>rfl)];exact aep _
  ·rw[ada t]at m;have k: ¬((r.e:Nat):Int)=0:=by omega
   simp(disch:=omega) only[go_sem,simprocAttr,E8,h,DZ,g1,C,I,p,n,z,w,k,bG,l,aqf,z8,mF];rw[iF (en.le (N:=N+5) ?_ (by omega)) ?_]
   ·rw[m];exact⟨_,dj rfl (lv h (rest W g _ [] _ _)),.aq⟩
   ·exact F.elim (λq=>.inl q.1) λq=>.inr ⟨N+5,aen _,q⟩
   ·simp[AV.refs,aI,mF]
def lz{args:lA}{E:AS}{r:aX}(h:D X0 v args E=some r):D XB v args E=some r:=vy ai8 (lx h)
def lX{args:lA}{E:AS}{r:aX}(h:D X v args E=some r):D XB v args E=some r:=vy ai8 (ly h)
theorem ajo{b:Bool}:aK (bb x bk) 962 [.bool b]=bb {x with asks:=b} bk:=by rw[Co (by omega)];rfl
theorem ajp{c:cx}: (bp c)[0]?=some (.int .u8 c.op):=rfl
theorem ajq{c:cx}: (bp c)[1]?=some (.int .u32 c.r):=rfl
theorem ajr{c:cx}: (bp c)[2]?=some (.int .u32 c.s):=rfl
theorem ajs{c:cx}: (bp c)[3]?=some (.int .u32 c.a):=rfl
theorem ajt{c:cx}: (bp c)[4]?=some (.int .u32 c.b):=rfl
theorem aju{c:cx}: (bp c)[5]?=some (.int .u64 c.v):=rfl
def gn:=gG @ajp<|gG @ajq<|gG @ajr<|gG @ajs<|gG @ajt @aju
def SL:=gG @wY<|gG @B4<|gG @K2<|gG @SJ @SM
def Ue(s:bu)(t:bf s)(aa:Nat)(p:aa<4294967296)(c:cx)(v:iH c)
  (w: ∀E,jv XA.fU E .int .ds (.lG uR) (.int .u8 c.op) true=some (match rI c.op with|some f=>.ay [.fn (.func f) [] [],.bool true]|none=>.ay [.ds,.bool false])) (H:List ae) (lo:oN):
  D XB (.fn (.func 89) [] []) [.agg (bo s),.int .i64 aa,.agg (bp c)] ⟨H,lo⟩=some (.ret (.int .i64 (fa s aa c:Nat)) ⟨H,lo⟩):=by
 refine aH E7 λN j=>?_
 obtain⟨x,b⟩: ∃x:aB,x=⟨s,aa,c,(0,0),0,true,[]⟩:=⟨_,rfl⟩;by_cases z:c.op=2
 ·have l: (c.op:Int)=2:=by omega
  obtain⟨L,m⟩: ∃L:List ae,L=[.box (bo s) none,.box (bp c) none,.box (bb x .aq) none]:=⟨_,rfl⟩;have n:At (N+2) x .aq (H++L):=⟨by grind,by rw[b];exact aT.aq⟩;obtain⟨C,g1,g2⟩:=ai7 (x:=x) none n (by rw[b];exact t) (by rw[b];exact v) (by rw[b];exact⟨show 0<4294967296 by omega,show 0<4294967296 by omega⟩) (by rw[b];exact p) (by rw[b];unfold eV;have:=kr s.T.b;simp;omega) (by rw[b];exact w);have k:fa s aa c=match ji x with
   |.ok (y,_)=>y.mb
   |.error e=>0:=by rw[b];unfold fa;rw[ada (by omega)];rfl
  rw[m,b]at g1;have rest: ∀W:List ae,bU (N+2) (H++L) W->W.take N=H:=by
   intro W g;refine lv j λi B=>?_
   rw[g.low i (by omega),ac7 (by omega)]
  cases h:ji x with
  |error e=>
   rw[h]at g2 k;obtain⟨W,ak,rfl,g,o⟩:=g2;have g1:=Ma g1;have he:=ajg h;have d: ¬((e:Nat):Int)=0:=by omega
   simp only[go_sem,simprocAttr,E7,j,DZ,gn,ajo,l,g1,bG,d];rw[iF (en.le (N:=N+2) (o.elim (λq=>.inl q.1) λq=>.inr ⟨N+2,aen _,q⟩) (by omega)) (aep _),k,rest W g];rfl
  |ok a=>
   obtain⟨y,r⟩:=a;rw[h]at g2 k;obtain⟨A,W,ak,rfl,g2,g,o⟩:=g2;have g1:=Ma g1;have u:=Ub h;have d: ((r.e:Nat):Int)=0:=by omega
   simp only[go_sem,simprocAttr,E7,j,DZ,gn,↓CL,ajo,l,g1,bG,d,g2.box];rw[iF (en.le (N:=N+2) (o.elim (λq=>.inl q.1) λq=>.inr ⟨N+2,aen _,q⟩) (by omega)) (aep _),k,rest W g]
 ·have l: ¬(c.op:Int)=2:=by omega
  simp only[F1,go_sem,simprocAttr,E7,j,DZ,gn,l];rw[show fa s aa c=0 by unfold fa;rw[adV z]];rfl
def fS(n:Nat):lA:=[.int .i64 n]
def avS(H:List ae)(lo:oN):D X0 (.fn (.func 216) [] []) [.aq] ⟨H,lo⟩=some (.ret .aq ⟨H,lo⟩):=by
 refine aH Fo λN b=>?_
 have a:gu 1 .aq none (some (.int .i64 0)) (some (.int .i64 0))=some .aq:=by rfl
 simp(disch:=omega) only[F1,go_sem,simprocAttr,Fo,a]
def avT(id aj n:Nat)(H:List ae)(c:id<H.length)(lo:oN):D X0 (.fn (.func 216) [] []) [.ref id aj 1 0 n false] ⟨H,lo⟩=some (.ret (.ref id aj 1 0 n true) ⟨H,lo⟩):=by
 refine aH Fo λN d=>?_
 have b:gu 1 (.ref id aj 1 0 n false) none (some (.int .i64 (n:Nat))) (some (.int .i64 (n:Nat)))=some (.ref id aj 1 0 n true):=by simp[gu,gr,lH,lI]
 have a: ∀E,fW E .sl (.ref id aj 1 0 n false)=some (.int .i64 n):=λE=>rfl
 simp only[go_sem,simprocAttr,Fo,b,a];rw[iF (.inl rfl) (by simp only[AV.refs];omega),ael (by omega)]
def avU(s:bu)(Q:bf s)(c:cx)(l:iH c)(H:List ae)(lo:oN):
  ∃v,D XB (.fn (.func 193) [] []) [.agg (bo s),.agg (bp c)] ⟨H,lo⟩=some (.ret (.ay [v,.int .i64 (jk s c).2]) ⟨H,lo⟩)/\Rv v 1 ((jk s c).1.map fS):=by
 suffices W: ∃x,D XB (.fn (.func 193) [] []) [.agg (bo s),.agg (bp c)] ⟨H,lo⟩=some x/\ (λx=> ∃v,x=aX.ret (.ay [v,.int .i64 (jk s c).2]) ⟨H,lo⟩/\Rv v 1 ((jk s c).1.map fS)) x by
  obtain⟨x,w,v,rfl,z⟩:=W;exact⟨v,w,z⟩
 refine cz Fk λN p=>?_
 have b:=λH lo=>lz (s6 s.T Q.T c.r l.r H lo)
 have o:=Q.T.get c.r;simp only[me]at b;generalize R: (aN s.T c.r).1=r at*;generalize he: (aN s.T c.r).2=e at*;have hb:=l.b;have ha:=l.a;have X:=l.op;have y:=o.len;by_cases Y:e=0
 ·have c0:decide ((e:Int)=0)=true:=ad0 (by omega);by_cases w: (c.op≠3/\c.op≠4)\/c.b<1\/8<c.b
  ·have f:jk s c=([],2):=by unfold jk;rw[he,ada (by omega),adV w]
   rw[f];simp only[↓aoK,↓R1,Zz,go_sem,simprocAttr,Fk,p,b,c0,gn,↓SL];refine we 25 (.bool true) [3,4,5,6] rfl rfl ?_ λf=>?_
   ·simp(disch:=omega) only[R4,↓R1,Zz,go_sem,simprocAttr,gn]
    (repeat' (first|apply And.intro|intro _))
    all_goals(try(refine ag9 AV.bool (amt.2 ?_);simp[];try(intros;omega)))
    all_goals first|trivial|omega
   ·simp(disch:=omega) only[F1,↓R1,Zz,go_sem,simprocAttr];exact⟨.aq,rfl,.aq⟩
  ·simp only[↓R1,Zz,go_sem,simprocAttr,Fk,p,b,c0,gn,↓SL];refine we 25 (.bool false) [3,4,5,6] rfl rfl ?_ λe1=>?_
   ·simp(disch:=omega) only[R4,↓R1,Zz,go_sem,simprocAttr,gn]
    (repeat' (first|apply And.intro|intro _))
    all_goals(try(refine ag9 AV.bool (amt.2 ?_);simp[];try(intros;omega)))
    all_goals first|trivial|omega
   ·by_cases z:r.len<c.a+c.b
    ·have O: (r.len:Int)-c.b<c.a:=by omega
     have f:jk s c=([],9):=by unfold jk;rw[he,ada (by omega),ada w,R,adV z]
     rw[f];simp(disch:=omega) only[F1,↓aoK,↓R1,↓MP,Zz,go_sem,simprocAttr,gn,O];exact⟨.aq,rfl,.aq⟩
    ·have O: ¬(r.len:Int)-c.b<c.a:=by omega
     have f:jk s c=((List.range c.b).map λi=>(ku r.runs 0 (c.a+i)).getD 0,0):=by unfold jk;rw[he,ada (by omega),ada w,R,ada z]
     rw[f];simp(disch:=omega) only[↓aoK,↓R1,↓MP,Zz,go_sem,simprocAttr,gn,O];obtain⟨B,hB⟩: ∃B:List ae,B=[.box (bo s) none,.box (bp c) none,.box (bR r) none]:=⟨_,rfl⟩;have M: (H++B).length=N+3:=by rw[hB];simp[p]
     rw[<-hB];refine gN c.b (λk e H' ak=>ak=none/\ (H++B)<+:H'/\ (∃v,e 8=v/\aT (N+3) H' v 1 od ((List.range k).map λi=>fS ((ku r.runs 0 (c.a+i)).getD 0)))/\e 3= .ptr (N+1) 0/\e 6= .ptr (N+2) 0/\e 58= .int .i64 c.b/\e 59= .int .i64 k) 0 (by omega) ?_ ?_
     ·simp only[↓aoK,Zz,go_sem,simprocAttr];exact⟨aqO,_,rfl,aT.aq⟩
     rintro k hk e H' ak ⟨rfl,⟨L,rfl⟩,⟨v,S,a⟩,U,T,u,t⟩ n hn;have C: (B++L)[1]?=some (.box (bp c) none):=by rw[hB];rfl
     have A: (B++L)[2]?=some (.box (bR r) none):=by rw[hB];rfl
     simp only[adW]at a;simp only[bQ,↓R1,Zz,go_sem,simprocAttr,ae8,T,S,u,t];refine⟨λl=>?_,λl=>?_⟩
     ·have J:k<c.b:=by omega
      have m:=λH lo=>lz (atk (ed r.runs) r.len r.runs (mG r.runs) o.rb.1 (c.a+k) (by omega) H lo)
      simp only[Lx,amS]at m;have E:List.take 2 (List.drop 2 (bR r))=[ed r.runs,.int .i64 r.len]:=rfl;simp(disch:=omega) only[↓R1,Zz,go_sem,simprocAttr,U,S,C,A,gn,E,m];refine o7 (H0:=H++B) (ys:=[fS ((ku r.runs 0 (c.a+k)).getD 0)]) a ⟨L,adW _ _ _⟩ M (by omega) (by intro el K;rw[afD.1 K];rfl) rfl (by rw[aer,axy];show(k+1)*8<=room;unfold room;omega) λv' H2 g I=>?_
      simp(disch:=omega) only[↓aoK,↓R1,Zz,go_sem,simprocAttr,U,T,u,t];refine⟨J,I,v',rfl,?_⟩
      (try rw[aoH]);rw[afI]
      exact g
     ·obtain rfl:k=c.b:=by omega
      have G:bZ ((List.range c.b).map λi=>fS ((ku r.runs 0 (c.a+i)).getD 0))=0:=bB (λ_=>rfl) _;have F: (H++(B++L)).take N=H:=by rw[<-p];simp
      rw[ayn];rcases a.2 with⟨rfl,q⟩| ⟨id,aj,Z,rfl,P⟩
      ·have h:=λH lo=>lz (avS H lo)
       simp(disch:=omega) only[F1,↓R1,Zz,go_sem,simprocAttr,h];refine⟨.aq,rfl,?_⟩;have V: ((List.range c.b).map λi=>fS ((ku r.runs 0 (c.a+i)).getD 0))=[]:=q;exact(ag9 (Rv .aq 1) V).mpr .aq
      ·have h:=λn=>lz (avT id aj n (H++(B++L)) (dU P) none)
       simp only[↓R1,Zz,go_sem,simprocAttr,h];rw[uP (.inl rfl) (Fz.ay (d:=11) (ik.cons (a':=.sl ((List.range c.b).map λi=>fS ((ku r.runs 0 (c.a+i)).getD 0)) true) (λj=>?_) (ik.cons ((Fz.low (d:=0) (aep _)).mono (by omega)) ik.nil)))]
       ·exact⟨_,dj rfl F,Rv.sl a.1⟩
       ·rw[show j+10=(j+6)+4 by omega];exact aiy (by omega) P (by simp) (by rw[G];omega)
 ·have c0:decide ((e:Int)=0)=false:=adZ (by omega);have f:jk s c=([],e):=by unfold jk;rw[he,adV Y]
  rw[f];simp only[F1,↓R1,Zz,go_sem,simprocAttr,Fk,p,b,c0,gn,↓SL];exact⟨.aq,rfl,.aq⟩
def fx(l:fw):lA:=[.int .u8 l.has,.int .i64 l.n]++arr 8 λi=>[.int .u8 (l.wait i)]
theorem Ag(l:fw): (fx l).length=10:=rfl
theorem Ga(l:fw):aI (fx l)=0:=rfl
def cR(m:Marks):lA:=arr 32 λi=>fx (m i)
theorem ep(m:Marks): (cR m).length=320:=by rfl
theorem j0(m:Marks):aI (cR m)=0:=by rfl
structure iI(l:fw):Prop where
 has:l.has<=8
 n:l.n<=8
 lt: ∀i,l.wait i<8
 inj: ∀i j,i<l.n->j<l.n->l.wait i=l.wait j->i=j
def uk(f:Nat->Nat)(x n:Nat):oN:=(List.range n).find? λi=>decide (f i=x)
def Ah(o:oN):Int:=match o with|some i=>i|none=> -1
def avV{f:Nat->Nat}{x:Nat}(h:uk f x k=none):uk f x (k+1)=if f k=x then some k else none:=by
 unfold uk at*;rw[aoH,List.find?_append,h]
 grind
def avW{f:Nat->Nat}{x:Nat}{j:Nat}(h:uk f x k=some j): ∀n,k<=n->uk f x n=some j:=by
 intro n a;obtain⟨m,rfl⟩:=Nat.exists_eq_add_of_le a;unfold uk at*;rw[List.range_add,List.find?_append,h];rfl
def ajv{f:Nat->Nat}{x:Nat}(h:uk f x n=some i):i<n/\f i=x:=by
 unfold uk at h
 grind
def avX(f:Nat->Nat)(x n M off:Nat)(s:n<2147483648)(H:List ae)(cs:lA)(h:H[M]?=some (.box cs none))(r: ∀i,i<n->cs[off+i]?=some (.int .u8 (f i)))(lo:oN):
  D X0 (.fn (.func 220) [] []) [.fj M 1 off n,.int .u8 x] ⟨H,lo⟩=some (.ret (.int .i64 (Ah (uk f x n))) ⟨H,lo⟩):=by
 refine aH Rj λN v=>?_
 simp only[go_sem,simprocAttr,Rj];refine dP n (λk e H'=>H'=H/\uk f x k=none/\e 0= .fj M 1 off n/\e 1= .int .u8 x/\e 7= .int .i64 n/\e 8= .int .i64 k) 0 (by omega) ?_ ?_
 ·trivial
 rintro k t e H' ⟨rfl,g,p,o,l,j⟩ m hm;simp(disch:=omega) only[bQ,F1,go_sem,simprocAttr,afe,p,o,l,j];refine⟨λq=>?_,λq=>?_⟩
 ·have b:k<n:=by omega
  have c:=r k b;have u:j8 1 (.fj M 1 off n) (.int .i64 k)=some (.ptr M (off+k)):=by
   rw[OW,adV ⟨by omega,by omega,rfl⟩];simp
  have d:=avV g;by_cases e1:f k=x
  ·have a: ((x:Nat):Int)=f k:=by omega
   rw[adV e1]at d;simp(disch:=omega) only[F1,go_sem,simprocAttr,h,c,a];rw[avW d n (by omega)];exact⟨by omega,rfl⟩
  ·have a: ¬((x:Nat):Int)=f k:=by omega
   rw[ada e1]at d;simp(disch:=omega) only[go_sem,simprocAttr,p,o,l,j,h,c,a];exact⟨by omega,b,d⟩
 ·obtain rfl:k=n:=by omega
  rw[g];rfl
theorem ajw(n:Nat):IntKind.wrap .u8 (n:Int)=((n % 256:Nat):Int):=by rfl
def ajx(l:fw)(b:iI l)(aa:Nat)(f:aa<4294967296)(H:List ae)(lo:oN):
  D X0 (.fn (.func 199) [] []) [.agg (fx l),.int .i64 aa] ⟨H,lo⟩=some (.ret (.int .i64 (Ah (rk l aa))) ⟨H,lo⟩):=by
 refine aH Q5 λN c=>?_
 have g:=b.n;have a:=λlo=>avX l.wait (aa % 256) l.n N 2 (by omega) (H++[.box (fx l) none]) (fx l) (by grind) (λi a=>by
  rcases(show i=0\/i=1\/i=2\/i=3\/i=4\/i=5\/i=6\/i=7 by omega)with h|h|h|h|h|h|h|h<;>subst h<;>rfl) lo
 have hw:=ajw aa;have e: (fx l)[1]?=some (.int .i64 l.n):=rfl;have d: (0:Int)<=l.n/\ (l.n:Int)<=8:=by omega
 simp only[F1,go_sem,simprocAttr,Q5,c,e,hw,a,d];rfl
def ajy(l:fw)(i:Nat):fw:={l with wait:=λj=>if i<=j/\j<7 then l.wait (j+1)else l.wait j}
def avY{X:Ctx}{id off:Nat}{k:IntKind}{a:Int}:qt X n sz (.ptr id off) (some (.int k a)) none=if 0<=a/\a<=n then some (.fj id sz (off+a.toNat*sz) (n-a.toNat))else none:=by
 simp only[qt,gr,lH]
 grind
def avZ{H:List ae}{N:Nat}(h:H[N]?=some (.box (fx l) none))(a:i<8):
  rT ⟨H,lo⟩ 1 (.fj N 1 (2+i) (8-i)) (.fj N 1 (2+(i+1)) (7-i))=some (.int .i64 (7-i:Nat),⟨H.set N (.box (fx (ajy l i)) none),lo⟩):=by
 rcases(show i=0\/i=1\/i=2\/i=3\/i=4\/i=5\/i=6\/i=7 by omega)with q|q|q|q|q|q|q|q<;>subst q<;>
  (simp only[rT,CV,Den.elems,h];rfl)
def av0(a:k<8):aK (fx l) (2+k) [.int .u8 0]=fx {l with wait:=av l.wait k 0}:=by
 rcases(show k=0\/k=1\/k=2\/k=3\/k=4\/k=5\/k=6\/k=7 by omega)with q|q|q|q|q|q|q|q<;>subst q<;>rfl
def av1{v:Nat}(a:k<8):aK (fx l) (2+k) [.int .u8 v]=fx {l with wait:=av l.wait k v}:=by
 rcases(show k=0\/k=1\/k=2\/k=3\/k=4\/k=5\/k=6\/k=7 by omega)with q|q|q|q|q|q|q|q<;>subst q<;>rfl
def ajz(l:fw)(s:iI l)(aa:Nat)(t:aa<4294967296)(H:List ae)(lo:oN):
  D X0 (.fn (.func 178) [] []) [.agg (fx l),.int .i64 aa] ⟨H,lo⟩=some (.ret (.agg (fx (xh l aa))) ⟨H,lo⟩):=by
 refine aH Kh λN r=>?_
 have a:=λH lo=>ajx l s aa t H lo
 have v:=s.n;have b: ∀l:fw,List.take 10 (fx l)=fx l:=λ_=>rfl
 unfold xh;cases p:rk l aa with
 |none=>
  rw[p]at a;simp only[Ah]at a;simp only[F1,go_sem,simprocAttr,Kh,r,a,b,Ag,Ga]
 |some i=>
  rw[p]at a;simp only[Ah]at a;have u:=(ajv p).1;have o: ¬((i:Nat):Int)<0:=by omega
  have m: (0:Int)<=i/\ (i:Int)<=8:=by omega
  have k: (0:Int)<=(i:Int)+1/\ (i:Int)+1<=8:=by omega
  have e: ((i:Int)+1).toNat=i+1:=by omega
  have j: ∀l:fw,(fx l)[1]?=some (.int .i64 l.n):=λ_=>rfl
  have f: ∀ (l:fw) (n:Nat),aK (fx l) 1 [.int .i64 n]=fx {l with n:=n}:=λ_ _=>rfl
  have c: (l.n:Int)-1=((l.n-1:Nat):Int):=by omega
  have g:l.n-1<8:=by omega
  have d:=λl:fw=>av0 (l:=l) g
  have h: (ajy l i).n=l.n:=rfl;have q:=λB lo=>avZ (H:=H++(.box (fx l) none::B)) (lo:=lo) (N:=N) (l:=l) (by rw[dv r];rfl) (show i<8 by omega)
  simp(disch:=omega) only[F1,go_sem,simprocAttr,Kh,r,a,b,Ag,Ga,avY,o,m,k,e,q,h,j,f,c,d];exact⟨by omega,by omega,rfl⟩
def rJ:Den.part true 320 (cR m) 0=some (.agg (cR m)):=zt (ep m)
def xB(h:i<32):Den.part true 10 (cR m) (i*10)=some (.agg (fx (m i))):=jF (k:=10) (o:=0) (f:=λi=>fx (m i)) (λ_=>rfl) h (by omega) (by omega)
def vI(h:i<32):Den.part false 1 (cR m) (i*10)=some (.int .u8 (m i).has):=jF (k:=10) (o:=0) (f:=λi=>fx (m i)) (λ_=>rfl) h (by omega) (by omega)
def Gb(h:i<32):Den.part false 1 (cR m) (i*10+1)=some (.int .i64 (m i).n):=jF (k:=10) (o:=1) (f:=λi=>fx (m i)) (λ_=>rfl) h (by omega) (by omega)
def Cz{o:Nat}{vs:lA}(h:i<32)(ho:o+vs.length<=10)(a:aK (fx (m i)) o vs=fx l):aK (cR m) (i*10+o) vs=cR (av m i l):=by
 unfold cR;rw[l8 (k:=10) (f:=λi=>fx (m i)) (λ_=>rfl) h ho,a,ou fx]
def Uf(i aa:Nat)(H:List ae)(lo:oN):D X0 (.fn (.func 177) [] []) [.int .i64 i,.int .i64 aa] ⟨H,lo⟩=some (.ret (.bool (jl i aa)) ⟨H,lo⟩):=by
 refine aH Kg λN d=>?_
 have b: (i:Int)>=0:=by omega
 have c: (aa:Int)>=0:=by omega
 by_cases f:i<32
 ·have a: (i:Int)<32:=by omega
  have e:jl i aa=decide ((aa:Int)<8):=by unfold jl;grind
  rw[e];simp(disch:=omega) only[F1,go_sem,simprocAttr,Kg,b,c,a]
 ·have a: ¬(i:Int)<32:=by omega
  have e:jl i aa=false:=by unfold jl;grind
  rw[e];simp(disch:=omega) only[F1,go_sem,simprocAttr,Kg,b,a]
def ajA(d:iI l)(g:aa<8)(h:rk l aa=none):l.n<8:=by
 have k:=d.n;by_cases e:l.n=8
 ·have p: ∀i,i<8->l.wait i≠aa:=by
    unfold rk at h
    grind
  have j: ((List.range 8).map l.wait++[aa]).Nodup:=by
   rw[List.nodup_append];refine⟨?_,by simp,?_⟩
   ·rw[avm,aAo];refine asp (λ {a b} c m f he=>f ?_) (avm.1 (aAS (n:=8)));exact d.inj a b (by grind) (by grind) he
   grind
  have o:=LV 8 _ j (by
   intro a c;rcases aeq.1 c with c|c
   ·obtain⟨i,_,rfl⟩:=afJ.1 c;exact d.lt i
   ·rw[afD.1 c];exact g)
  grind
 ·omega
def av2(m:Marks)(E: ∀i,iI (m i))(a aa:Nat)(P:aa<4294967296)(H:List ae)(lo:oN):
  D X0 (.fn (.func 190) [] []) [.agg (cR m),.int .i64 a,.int .i64 aa] ⟨H,lo⟩=some (.ret (.ay [.agg (cR (jm m a aa).1),.bool (jm m a aa).2]) ⟨H,lo⟩):=by
 refine aH sH λN u=>?_
 have s:pn.length=320:=by decide
 have d:List.drop 320 pn=[]:=ahl (by rw[s];omega);have W:List.take 320 (cR m)=cR m:=ael (by rw[ep];omega);have b:=λH lo=>Uf a aa H lo
 have T: ∀m:Marks,(AV.ay [.agg (cR m),.bool false]).refs<=N:=λm=>by simp[AV.refs,aI,j0]
 cases r:jl a aa with
 |false=>
  rw[r]at b;have t:jm m a aa=(m,false):=by unfold jm;rw[adV r]
  rw[t];simp only[F1,go_sem,simprocAttr,sH,u,b,↓rJ,ep,j0,s,d]
 |true=>
  rw[r]at b;have c:a<32/\aa<8:=by unfold jl at r;simpa using r
  have L: ¬jl a aa=false:=by rw[r];simp
  obtain⟨c,X⟩:=c;have f: (0:Int)<=a/\ (a:Int)<32:=by omega
  have p:=λH lo=>ajx (m a) (E a) aa P H lo
  have w:=λH lo=>ajz (m a) (E a) aa P H lo
  have F:a*10+10<=320:=by omega
  have S:=(E a).has;have V:=(E a).n;have G:a*10<=319:=by omega
  by_cases M: (m a).has=aa+1
  ·have e: (((m a).has:Nat):Int)=(aa:Int)+1:=by omega
   have t:jm m a aa=(m,true):=by unfold jm;rw[ada L,adV M]
   rw[t];simp only[F1,go_sem,simprocAttr,sH,u,b,f,p,↓xB c,↓vI c,e,↓rJ,ep,j0,s,d]
  ·have e:decide ((((m a).has:Nat):Int)=(aa:Int)+1)=false:=adZ (by omega);have A: ∀ (m:Marks) (l:fw),aK (cR m) (a*10) (fx l)=cR (av m a l):=λm l=>Cz (o:=0) c (by rw[Ag];omega) rfl
   have z: ∀m:Marks,aK (cR m) (a*10) [.int .u8 ((aa:Int)+1)]=cR (av m a {m a with has:=aa+1}):=λm=>Cz (o:=0) c (by simp) rfl
   have y: ∀m':Marks,aK (cR m') (a*10+1) [.int .i64 (((m a).n:Int)+1)]=cR (av m' a {m' a with n:=(m a).n+1}):=λm'=>Cz c (by simp) rfl
   have I:a*10<=318:=by omega
   have Q: ∀m:Marks,List.take 320 (cR m)=cR m:=λm=>ael (by rw[ep];omega)
   by_cases K: (m a).has=0/\ ((m a).n=0\/rk (m a) aa=some 0)
   ·have t:jm m a aa=(av m a {xh (m a) aa with has:=aa+1},true):=by unfold jm;rw[ada L,ada M,adV K]
    rw[t];have J:decide ((((m a).has:Nat):Int)=0)=true:=ad0 (by omega);have hw:IntKind.wrap .u8 ((aa:Int)+1)=((aa+1:Nat):Int):=by rw[wrap_u8 (by omega) (by omega)];rfl
    by_cases Y: (m a).n=0
    ·have g:decide ((((m a).n:Nat):Int)=0)=true:=ad0 (by omega);simp(disch:=omega) only[F1,go_sem,simprocAttr,sH,u,b,f,p,w,↓xB c,↓vI c,↓Gb c,e,J,g,hw,A,z,ch,sJ,↓rJ,ep,j0,s,d,Ag,Ga,F,G]
    ·have g:decide ((((m a).n:Nat):Int)=0)=false:=adZ (by omega);have O:rk (m a) aa=some 0:=K.2.resolve_left Y;rw[O]at p;simp only[Ah]at p;simp(disch:=omega) only[F1,go_sem,simprocAttr,sH,u,b,f,p,w,↓xB c,↓vI c,↓Gb c,e,J,g,hw,A,z,ch,sJ,↓rJ,ep,j0,s,d,Ag,Ga,F,G]
   ·have Z: ∀h:Nat,decide ((h:Int)=0)=decide (h=0):=λh=>afS.2 (by omega)
    cases v:rk (m a) aa with
    |none=>
     have U:=ajA (E a) X v;have C: ((m a).n:Int)<8:=by omega
     have B:a*10+2+(m a).n<=319:=by omega
     have t:jm m a aa=(av m a {m a with n:=(m a).n+1,wait:=av (m a).wait (m a).n aa},false):=by unfold jm;rw[ada L,ada M,ada K,adV v]
     rw[t];rw[v]at p;simp only[Ah]at p;have x: ∀ (m':Marks),(m' a).n=(m a).n->aK (cR m') (a*10+2+(m a).n) [.int .u8 aa]=cR (av m' a {m' a with wait:=av (m' a).wait (m a).n aa}):=λm' h=>(ag9 (λo=>aK (cR m') o _) (aku _ _ _)).trans (Cz c (by simp;omega) (av1 U))
     by_cases J: (m a).has=0
     ·have k:decide ((((m a).has:Nat):Int)=0)=true:=ad0 (by omega);have g:decide ((((m a).n:Nat):Int)=0)=false:=adZ (by omega);simp(disch:=omega) only[F1,go_sem,simprocAttr,sH,u,b,f,p,↓xB c,↓vI c,↓Gb c,e,k,g,C,B,I,y,x,ch,sJ,↓rJ,ep,j0,s,d]
     ·have k:decide ((((m a).has:Nat):Int)=0)=false:=adZ (by omega);simp(disch:=omega) only[F1,go_sem,simprocAttr,sH,u,b,f,p,↓xB c,↓vI c,↓Gb c,e,k,C,B,I,y,x,ch,sJ,↓rJ,ep,j0,s,d]
    |some j=>
     have t:jm m a aa=(m,false):=by unfold jm;rw[ada L,ada M,ada K,ada (by rw[v];simp)]
     rw[t];rw[v]at p;simp only[Ah]at p;have R: ¬((j:Nat):Int)<0:=by omega
     by_cases J: (m a).has=0
     ·have k:decide ((((m a).has:Nat):Int)=0)=true:=ad0 (by omega);have g:decide ((((m a).n:Nat):Int)=0)=false:=adZ (by omega);have O:decide (((j:Nat):Int)=0)=false:=adZ (λq=>K ⟨J,.inr (by rw[v];congr 1;omega)⟩);simp(disch:=omega) only[F1,go_sem,simprocAttr,sH,u,b,f,p,↓xB c,↓vI c,↓Gb c,e,k,g,O,R,↓rJ,ep,j0,s,d]
     ·have k:decide ((((m a).has:Nat):Int)=0)=false:=adZ (by omega);simp(disch:=omega) only[F1,go_sem,simprocAttr,sH,u,b,f,p,↓xB c,↓vI c,e,k,R,↓rJ,ep,j0,s,d]
end Go.Proofs.YtcdeobefbpnfeaaGreatDoor
