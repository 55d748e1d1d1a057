/- What functions do; conditions as stated. -/
import Derived.Test.YteplichagkpciaaGreatDoorM1
set_option linter.all false
set_option maxRecDepth 10000
set_option maxHeartbeats 1000000
namespace Go.Proofs.YteplichagkpciaaGreatDoor
open Go Go.Den
variable{t:ar}{n a p k e sz r i aa:Nat}{v bk:AV}{lo:oN}{x y:az}{b:cA}{m:Marks}{α β:Type}{l:fH}
def arU:=@List.nodup_cons
def auh:=@List.Pairwise.imp_of_mem
def awK:=@List.nodup_iff_pairwise_ne
def aBg:=@eq_false
def aBi:=@Bool.or_false
def xu(o:bP)(t:ar)(p:Ow->Bool)(h:Nat):Bool:=decide (root t h=h)&&p (bH o t h)
def kh(o:bP)(t:ar)(p:Ow->Bool):lN:=(bt t.b).filter (xu o t p)
def xv(o:bP)(t:ar)(p:Ow->Bool)(n:Nat):lN:=((bt t.b).take n).filter (xu o t p)
def asY{o:bP}{p:Ow->Bool}(h:n< (bt t.b).length):xv o t p (n+1)=if xu o t p ((bt t.b).getD n default)then xv o t p n++[(bt t.b).getD n default]else xv o t p n:=by
 unfold xv;rw[agn,ac7 h,ave,getD_eq h]
 grind
def asZ{o:bP}{p:Ow->Bool}: (xv o t p n).length<=n:=aga (ah5 _ _) (by grind)
def ag2(o:bP)(ho:gr o)(t:ar)(z:bS t)(V:cu t)(fv:AV)(p:Ow->Bool)(N:Nat)(H:List ae)(A:H.length=N)
  (hf: ∀x L,xo x->D X fv [.agg (kc x)] ⟨H++L,none⟩=some (.ret (.bool (p x)) ⟨H++L,none⟩)) (lo:oN):
  ∃w,D X (.fn (.func 278) [] []) [.agg (cU o),.agg (aM t),fv] ⟨H,lo⟩=some (.ret w ⟨H,lo⟩)/\Rv w 1 ((kh o t p).map hC)/\w.refs=0:=by
 suffices hs: ∃E,D X (.fn (.func 278) [] []) [.agg (cU o),.agg (aM t),fv] ⟨H,lo⟩=some E/\ (λE=> ∃w,E=aU.ret w ⟨H,lo⟩/\Rv w 1 ((kh o t p).map hC)/\w.refs=0) E by
  obtain⟨E,h1,w,rfl,h2⟩:=hs;exact⟨w,h1,h2⟩
 refine cI QS λM W=>?_
 obtain rfl:M=N:=by rw[<-W,A]
 obtain⟨v,J,e1,G⟩:=KG t.b z.b (M+2) (H++[.box (cU o) none,.box (aM t) none]) (by simp[A]) none;have y:D X (.fn (.func 19) [] []) [.agg (b0 t.b)] ⟨H++[.box (cU o) none,.box (aM t) none],none⟩=some _:=pX (p:=mi) rfl e1;have b:=(mj G none).bZ;have sa:=nr t.b;rw[ac8]at y G b;obtain⟨q,u⟩: ∃q,q=[ae.box (cU o) none,.box (aM t) none]++J:=⟨_,rfl⟩;have Y: ∀L,(H++(q++L))[M]?=some (.box (cU o) none):=λL=>by rw[dB A,u];rfl
 have g1: ∀L,(H++(q++L))[M+1]?=some (.box (aM t) none):=λL=>by rw[bM A,u];rfl
 rw[<-u]at y G b;simp only[go_sem,simprocAttr,QS,W,y,b];refine fE (bt t.b).length (λn e H'=> ∃L,H'=H++(q++L)/\ (∃B,e 7=B/\aP (M+q.length) H' B 1 cz ((xv o t p n).map hC))/\e 2=fv/\e 3= .ptr M 0/\e 4= .ptr (M+1) 0/\e 12=v/\e 13= .int .i64 (bt t.b).length/\e 14= .int .i64 n) 0 (by omega) ?_ ?_
 ·simp only[go_sem,simprocAttr];exact⟨[],by simp,_,rfl,aP.au⟩
 rintro n hn e H' ⟨L,rfl,⟨B,e7,a⟩,O,K,I,m,l,k⟩ n' GC;simp only[cm,go_sem,simprocAttr,aeq,e7,m,l,k];refine⟨λhc=>?_,λhc=>?_⟩
 ·have f:n< (bt t.b).length:=by omega
  have Q:=(iQ z.b).1 (fX f);have d:=asY (o:=o) (p:=p) f;have g:Rd ⟨H++(q++L),none⟩ v 1 ((bt t.b).map hC):=mj (by have:=G.ext (L:=L);rwa[ac8]at this) none;have F:=g.cE (X:=X) (off:=0) (n:=1) (agg:=false) f;rw[pH]at F;have r9:=asZ (o:=o) (t:=t) (p:=p) (n:=n);generalize(bt t.b).getD n default=h at*;have T:=gl Q;have r:=λH lo=>up dH (zu t z V h T H lo)
  have C:=λH lo=>up dH (BW o ho t z V h T H lo)
  have i:=hf (bH o t h) (q++L) (ho.of t h);have c:xu o t p h=(decide (root t h=h)&&p (bH o t h)):=rfl;have U: ∀aj:oN,True:=λ_=>trivial
  by_cases Z:root t h=h
  ·have j:decide ((root t h:Int)=(h:Nat))=true:=ady (by omega);rw[ady Z,amH]at c;cases S:p (bH o t h)
   ·rw[S]at i c;rw[c,ac0 (by simp)]at d;simp(disch:=omega) only[go_sem,simprocAttr,O,K,I,e7,m,l,k,g.cn,F,Y,g1,r,C,j,i];exact⟨by omega,f,L,rfl,B,rfl,by rw[d];exact a⟩
   ·rw[S]at i c;rw[c,ac6 rfl]at d;simp only[go_sem,simprocAttr,O,K,I,e7,g.cn,F,Y,g1,r,C,j,i];refine⟨by omega,qL (H0:=H++q) (ys:=[[.int .u32 (h:Nat)]]) a ⟨_,ac8 _ _ _⟩ (by simp[A]) (by omega) (by intro el R;rw[aeH.1 R];rfl) rfl (by unfold room;simp;omega) λv' H2 s P=>?_⟩;obtain⟨L2,rfl⟩:=P;simp(disch:=omega) only[go_sem,simprocAttr,O,K,I,m,l,k];refine⟨f,L2,by simp,v',rfl,?_⟩;rw[d,aeP];rwa[ac8]at s
  ·have j: ¬((root t h:Nat):Int)=(h:Nat):=by omega
   rw[adb Z,agq]at c;rw[c,ac0 (by simp)]at d;simp(disch:=omega) only[go_sem,simprocAttr,O,K,I,e7,m,l,k,g.cn,F,g1,r,j];exact⟨by omega,f,L,rfl,B,rfl,by rw[d];exact a⟩
 ·obtain rfl:n=(bt t.b).length:=by omega
  have z:xv o t p (bt t.b).length=kh o t p:=by unfold xv kh;rw[aeQ]
  rw[z]at a;have h0:b9 ((kh o t p).map hC)=0:=bL (λ_=>rfl) _;rw[aP.AJ (aP.le a (by omega)) (by omega)];refine⟨_,dp rfl (mC A),a.qM,dy a.qM h0⟩
def qb(aa:Nat)(x:Ow):Bool:=decide (x.kind=1)&&decide (x.aa=aa)
def oB(aa:Nat)(x:Ow):Bool:=decide (x.kind=3)&& (decide (aa<8)&&fT x.hold aa)
theorem BZ(x:Ow):kc x=[.int .u8 x.kind,.int .u8 x.aa,.int .u8 x.hold]:=rfl
def as0(aa:Nat)(x:Ow)(d:xo x)(q:Nat)(H:List ae)(e:H[q]?=some (.box [.int .i64 (aa:Nat)] none))(lo:oN):
  D X (.fn (.func 312) [] [.ptr q 0]) [.agg (kc x)] ⟨H,lo⟩=some (.ret (.bool (qb aa x)) ⟨H,lo⟩):=by
 refine fi J8 λN b=>?_
 have f: ∀L,(H++L)[q]?=_:=λL=>bm e
 have:=d.aa;by_cases c:x.kind=1
 ·have a: (x.kind:Int)=1:=by omega
  simp(disch:=omega) only[F1,go_sem,simprocAttr,J8,b,BZ,f,a];refine dp (ahR AV.bool ?_) rfl;unfold qb;grind
 ·have a: ¬(x.kind:Int)=1:=by omega
  simp only[F1,go_sem,simprocAttr,J8,b,BZ,a];unfold qb;grind
def as1(aa:Nat)(k:aa<256)(x:Ow)(h:xo x)(q:Nat)(H:List ae)(i:H[q]?=some (.box [.int .i64 (aa:Nat)] none))(lo:oN):
  D X (.fn (.func 279) [] [.ptr q 0]) [.agg (kc x)] ⟨H,lo⟩=some (.ret (.bool (oB aa x)) ⟨H,lo⟩):=by
 refine fi ET λN e=>?_
 have f: ∀L,(H++L)[q]?=_:=λL=>bm i
 have j:=λH lo=>up dH (SS aa (by omega) H lo)
 have hand:=KX h.hold (zy aa);have d:=agJ (x:=x.hold) (aa:=aa);by_cases c:x.kind=3
 ·have b: (x.kind:Int)=3:=by omega
  have c0: (aa:Int)>=0:=by omega
  by_cases g:aa<8
  ·have a: (aa:Int)<8:=by omega
   simp only[F1,go_sem,simprocAttr,ET,e,BZ,f,b,c0,a,j,hand,d];unfold oB;rw[ady c,ady g];rfl
  ·have a: ¬(aa:Int)<8:=by omega
   simp only[F1,go_sem,simprocAttr,ET,e,BZ,f,b,c0,a];unfold oB;rw[ady c,adb g];rfl
 ·have b: ¬(x.kind:Int)=3:=by omega
  simp only[F1,go_sem,simprocAttr,ET,e,BZ,b];unfold oB;rw[adb c];rfl
def as2(o:bP)(ho:gr o)(t:ar)(c:bS t)(d:cu t)(aa:Nat)(H:List ae)(lo:oN):
  ∃w,D X (.fn (.func 277) [] []) [.agg (cU o),.agg (aM t),.int .i64 aa] ⟨H,lo⟩=some (.ret w ⟨H,lo⟩)/\Rv w 1 ((kh o t (qb aa)).map hC)/\w.refs=0:=by
 obtain⟨N,f⟩: ∃N,H.length=N:=⟨_,rfl⟩;obtain⟨w,e1,e,e3⟩:=ag2 o ho t c d (.fn (.func 312) [] [.ptr (N+2) 0]) (qb aa) (N+3) (H++[.box (cU o) none,.box (aM t) none,.box [.int .i64 aa] none]) (by grind)
  (λx L b=>as0 aa x b (N+2) _ (by simp_all) none) none
 refine⟨w,?_,e,e3⟩;refine aK QR λM a=>?_
 obtain rfl:M=N:=by omega
 simp only[go_sem,simprocAttr,QR,a,e1];rw[xp e3,mC a]
def as3(o:bP)(ho:gr o)(t:ar)(d:bS t)(e:cu t)(aa:Nat)(a:aa<256)(H:List ae)(lo:oN):
  ∃w,D X (.fn (.func 213) [] []) [.agg (cU o),.agg (aM t),.int .i64 aa] ⟨H,lo⟩=some (.ret w ⟨H,lo⟩)/\Rv w 1 ((kh o t (oB aa)).map hC)/\w.refs=0:=by
 obtain⟨N,g⟩: ∃N,H.length=N:=⟨_,rfl⟩;obtain⟨w,e1,f,e3⟩:=ag2 o ho t d e (.fn (.func 279) [] [.ptr (N+2) 0]) (oB aa) (N+3) (H++[.box (cU o) none,.box (aM t) none,.box [.int .i64 aa] none]) (by grind)
  (λx L c=>as1 aa a x c (N+2) _ (by simp_all) none) none
 refine⟨w,?_,f,e3⟩;refine aK Qt λM b=>?_
 obtain rfl:M=N:=by omega
 simp only[go_sem,simprocAttr,Qt,b,e1];rw[xp e3,mC b]
theorem ag3(a b:Int):oP (.int .u8 a) (.int .u8 b)=some (decide (a=b)):=by rfl
def KZ{a b:Int}{es:List (AV×AV)}:ew (.int .u8 a) ((.int .u8 b,v)::es)=if a=b then some (some v)else ew (.int .u8 a) es:=by
 simp only[ew,ag3]
 grind
theorem ag4{a:Int}{v:AV}: ∀ {es:List (AV×AV)},(∀e∈es,∃j:Int,e.1= .int .u8 j/\a≠j)->lQ (.int .u8 a) v es=some (es++[(.int .u8 a,v)])
 | [],_=>rfl
 | (k,u)::es,h=>by
   obtain⟨j,c,b⟩:=h _ (aeX ..);subst c;simp only[lQ,ag3,b,aAM];rw[ag4 λe he=>h e (aeR _ he)];rfl
def SY{H:List ae}(b:H.length=p){a:Int}{es:List (AV×AV)}(h: ∀e∈es,∃j:Int,e.1= .int .u8 j/\a≠j)(c:v.refs<=p+1):
  mv ⟨H++[.map es],lo⟩ .int (.mp p) (.int .u8 a) v=some ⟨H++[.map (es++[(.int .u8 a,v)])],lo⟩:=by
 unfold mv;rw[ac6 (show kT .int (.int .u8 a)=true from rfl)];simp only[dB b,arb,ag4 h];simp only[AS.set];simp_all
def SZ{gm:Nat->Option (List (AV×AV))}{H:List ae}{id:Nat}{es:List (AV×AV)}{a:Int}{z:AV}{r:Option AV}(h:H[id]?=some (.map es))(b:ew (.int .u8 a) es=some r):
  jK gm ⟨H,lo⟩ .int z (.mp id) (.int .u8 a) true=some (match r with|some v=>.aA [v,.bool true]|none=>.aA [z,.bool false]):=by
 unfold jK;rw[ac6 (show kT .int (.int .u8 a)=true from rfl)];simp only[mapOf,h,b]
 grind
section
variable(T:ar)(hT:bS T)(xw:cu T)(O:bP)(K:bp)(hK:im K)(h:Nat)(hh:h<4294967296)(pw ph:Nat)(H:List ae)(hw:H[pw]?=some (.box (hH T O K) none))(oV:H[ph]?=some (.box [.int .u32 h] none))(lo:oN)
include hT xw hK hh hw oV
omit hT xw hh in
theorem as4:D X (.fn (.func 314) [] [.ptr pw 0,.ptr ph 0]) [] ⟨H,lo⟩=some (.ret (.bool (w5 K h 0)) ⟨H,lo⟩):=by
 refine fi Ra λN b=>?_
 have a: ∀H lo,D X (.fn (.func 315) [] []) [.agg (ch K),.int .u32 h,.int .u32 0] ⟨H,lo⟩=_:=agR K hK h 0 (by omega);simp(disch:=omega) only[F1,go_sem,simprocAttr,Ra,b,hw,oV,↓rl,a]
omit hT xw hh in
theorem as5:D X (.fn (.func 316) [] [.ptr pw 0,.ptr ph 0]) [] ⟨H,lo⟩=some (.ret (.bool (zl K h 0)) ⟨H,lo⟩):=by
 refine fi Rb λN b=>?_
 have a: ∀H lo,D X (.fn (.func 317) [] []) [.agg (ch K),.int .u32 h,.int .u32 0] ⟨H,lo⟩=_:=agS K hK h 0 (by omega);simp(disch:=omega) only[F1,go_sem,simprocAttr,Rb,b,hw,oV,↓rl,a]
omit hT xw hh oV in
theorem as6(x:Nat):D X (.fn (.func 320) [] [.ptr pw 0]) [.int .u32 x] ⟨H,lo⟩=some (.ret (.bool (decide (0< (ns K x).length))) ⟨H,lo⟩):=by
 refine fi Rf λN a=>?_
 obtain⟨w,e1,b,e3⟩:=SW K hK x H none;simp(disch:=omega) only[F1,go_sem,simprocAttr,Rf,a,hw,↓rl,e1,b.bZ];exact dp (ahR AV.bool (ae0.2 (by omega))) rfl
theorem as7:D X (.fn (.func 318) [] [.ptr pw 0,.ptr ph 0]) [] ⟨H,lo⟩=some (.ret (.bool (!((under T h).any λx=>decide (0< (ns K x).length)))) ⟨H,lo⟩):=by
 refine fi Rc λN b=>?_
 obtain⟨v,J,a,e,d,c⟩:=KI T hT xw h hh N H b none;have f:=af1 dH v (.fn (.func 320) [] [.ptr pw 0]) (under T h) (H++J) d.rd (by have:=KK xw h;omega) (λx=>decide (0< (ns K x).length)) a (λx _=>as6 T O K hK pw (H++J) (bm hw) none x);simp only[go_sem,simprocAttr,Rc,hw,oV,↓pE,e,f];rw[jE (eB.of c) (adC _),mC b]
end
def as8(T:ar)(hT:bS T)(xw:cu T)(O:bP)(K:bp)(hK:im K)(h:Nat)(hh:h<4294967296)(b:Nat)(t:b<=2)(H:List ae)(lo:oN):
  D X (.fn (.func 215) [] []) [.agg (hH T O K),.int .u32 h,.int .u8 b] ⟨H,lo⟩=some (.ret (.bool (E9 T K h b)) ⟨H,lo⟩):=by
 refine aK EH λN i=>?_
 obtain⟨o,l⟩: ∃o,o=H++[ae.box (hH T O K) none,.box [.int .u32 h] none]:=⟨_,rfl⟩;have g:o.length=N+2:=by rw[l];simp[i]
 have m: ∀f,(AV.fn (.func f) [] [.ptr N 0,.ptr (N+1) 0]).refs<=N+2+1:=λf=>by simp only[AV.refs,aL];omega
 have k:=SY g (a:=0) (es:=[]) (lo:=none) (by simp) (m 314);have j:=SY g (a:=1) (es:=[(.int .u8 0,.fn (.func 314) [] [.ptr N 0,.ptr (N+1) 0])]) (lo:=none) (by simp) (m 316);have m3:=SY g (a:=2) (es:=[(.int .u8 0,.fn (.func 314) [] [.ptr N 0,.ptr (N+1) 0]),(.int .u8 1,.fn (.func 316) [] [.ptr N 0,.ptr (N+1) 0])]) (lo:=none) (by simp) (m 318);rw[l]at k j m3;simp only[ac8,ah6,agt]at k j m3;obtain⟨e,c⟩: ∃e,e=H++[ae.box (hH T O K) none,.box [.int .u32 h] none,.map [(.int .u8 0,.fn (.func 314) [] [.ptr N 0,.ptr (N+1) 0]),(.int .u8 1,.fn (.func 316) [] [.ptr N 0,.ptr (N+1) 0]),(.int .u8 2,.fn (.func 318) [] [.ptr N 0,.ptr (N+1) 0])]]:=⟨_,rfl⟩;have n:e[N]?=some (.box (hH T O K) none):=by rw[c,dB i];rfl
 have g1:e[N+1]?=some (.box [.int .u32 h] none):=by rw[c,bM i];rfl
 have g2:e[N+2]?=some (.map [(.int .u8 0,.fn (.func 314) [] [.ptr N 0,.ptr (N+1) 0]),(.int .u8 1,.fn (.func 316) [] [.ptr N 0,.ptr (N+1) 0]),(.int .u8 2,.fn (.func 318) [] [.ptr N 0,.ptr (N+1) 0])]):=by rw[c,bM i];rfl
 have s:=as4 O K hK h N (N+1) e (T:=T) n g1 none;have q:=as5 O K hK h N (N+1) e (T:=T) n g1 none;have p:=as7 T hT xw O K hK h hh N (N+1) e n g1 none;have hw:b=0\/b=1\/b=2:=by omega
 rcases hw with rfl|rfl|rfl
 ·have d:=SZ (gm:=X.gu) (lo:=none) (a:=0) (z:=.dD) g2 (r:=some _) (by simp only[KZ,ae4];rfl);rw[c]at s d;simp only[F1,go_sem,simprocAttr,EH,i,k,j,m3,d,s];rfl
 ·have d:=SZ (gm:=X.gu) (lo:=none) (a:=1) (z:=.dD) g2 (r:=some (.fn (.func 316) [] [.ptr N 0,.ptr (N+1) 0])) (by simp[KZ]);rw[c]at q d;simp only[F1,go_sem,simprocAttr,EH,i,k,j,m3,d,q];rfl
 ·have d:=SZ (gm:=X.gu) (lo:=none) (a:=2) (z:=.dD) g2 (r:=some (.fn (.func 318) [] [.ptr N 0,.ptr (N+1) 0])) (by simp[KZ]);rw[c]at p d;simp only[F1,go_sem,simprocAttr,EH,i,k,j,m3,d,p];rfl
def K0(K:bp)(aa h a t:Nat):Bool:=decide ((cq K t).1.to=aa)&& ((decide (a=0)&&w5 K h t)|| (decide (a=1)&& (cq K t).1.mu&&zl K h t))
def as9(T:ar)(O:bP)(K:bp)(n:im K)(aa h a t:Nat)(y:t<4294967296)(o p r q:Nat)(H:List ae)(i:H[o]?=some (.box (hH T O K) none))(v:H[p]?=some (.box [.int .i64 aa] none))
  (A:H[r]?=some (.box [.int .u8 a] none)) (z:H[q]?=some (.box [.int .u32 h] none)) (lo:oN):
  D X (.fn (.func 333) [] [.ptr o 0,.ptr p 0,.ptr r 0,.ptr q 0]) [.int .u32 t] ⟨H,lo⟩=some (.ret (.bool (K0 K aa h a t)) ⟨H,lo⟩):=by
 refine fi wW λN j=>?_
 have g1: ∀L,(H++L)[o]?=_:=λL=>bm i
 have g2: ∀L,(H++L)[p]?=_:=λL=>bm v
 have l: ∀L,(H++L)[r]?=_:=λL=>bm A
 have B: ∀L,(H++L)[q]?=_:=λL=>bm z
 have b:=λH lo=>up dH (BX K n t y H lo)
 have m:=agR K n h t y;have u:=agS K n h t y;have s:=n.get t;have c:K0 K aa h a t=(decide ((cq K t).1.to=aa)&& ((decide (a=0)&&w5 K h t)|| (decide (a=1)&& (cq K t).1.mu&&zl K h t))):=rfl;generalize I: (cq K t).1=x at*;have w:=nH x;rw[w]at b;have G:=s.to;by_cases F:x.to=aa
 ·have d:decide ((x.to:Int)=aa)=true:=ady (by omega);rw[ady F,amH]at c;by_cases E:a=0
  ·have f:decide ((a:Int)=0)=true:=ady (by omega);have e:decide ((a:Int)=1)=false:=adb (by omega);rw[ady E,adb (by omega: ¬a=1),amH,agq,agq,aBi]at c;cases k:w5 K h t
   ·rw[k]at m c;simp(disch:=omega) only[F1,go_sem,simprocAttr,wW,j,i,g1,g2,l,B,↓rl,b,d,f,e,m,c]
   ·rw[k]at m c;simp(disch:=omega) only[F1,go_sem,simprocAttr,wW,j,i,g1,g2,l,B,↓rl,b,d,f,m,c]
  ·have f: ¬(a:Int)=0:=by omega
   rw[adb E,agq,avU]at c;by_cases C:a=1
   ·have e:decide ((a:Int)=1)=true:=ady (by omega);rw[ady C,amH]at c;cases g:x.mu
    ·rw[g,agq]at c;simp(disch:=omega) only[F1,go_sem,simprocAttr,wW,j,i,g2,l,↓rl,b,d,f,e,g,c]
    ·rw[g,amH]at c;simp(disch:=omega) only[F1,go_sem,simprocAttr,wW,j,i,g1,g2,l,B,↓rl,b,d,f,e,g,u,c]
   ·have e: ¬(a:Int)=1:=by omega
    rw[adb C,agq,agq]at c;simp(disch:=omega) only[F1,go_sem,simprocAttr,wW,j,i,g2,l,↓rl,b,d,f,e,c]
 ·have d: ¬(x.to:Int)=aa:=by omega
  rw[adb F,agq]at c;simp(disch:=omega) only[F1,go_sem,simprocAttr,wW,j,i,g2,↓rl,b,d,c]
def ata(T:ar)(O:bP)(K:bp)(f:im K)(aa h a:Nat)(H:List ae)(lo:oN):
  D X (.fn (.func 313) [] []) [.agg (hH T O K),.int .i64 aa,.int .u32 h,.int .u8 a] ⟨H,lo⟩=some (.ret (.bool (Fa K aa h a)) ⟨H,lo⟩):=by
 refine aK Q9 λN e=>?_
 obtain⟨d,b⟩: ∃d,d=H++[ae.box (hH T O K) none,.box [.int .i64 aa] none,.box [.int .u32 h] none,.box [.int .u8 a] none]:=⟨_,rfl⟩;have k:d[N]?=some (.box (hH T O K) none):=by rw[b,dB e];rfl
 have g1:d[N+1]?=some (.box [.int .i64 aa] none):=by rw[b,bM e];rfl
 have g2:d[N+2]?=some (.box [.int .u32 h] none):=by rw[b,bM e];rfl
 have j:d[N+3]?=some (.box [.int .u8 a] none):=by rw[b,bM e];rfl
 obtain⟨w,e1,l,e3⟩:=SW K f h d none;have c: (ns K h).length<2^40:=by
  have:=nr K.b;have: (ns K h).length<=_:=ah5 _ _;omega
 have g:=af1 dH w (.fn (.func 333) [] [.ptr N 0,.ptr (N+1) 0,.ptr (N+3) 0,.ptr (N+2) 0]) (ns K h) d (l _) c (K0 K aa h a) none
  (λt i=>as9 T O K f aa h a t (gl ((iQ f.b).1 (ae2.1 i).1)) N (N+1) (N+3) (N+2) d k g1 j g2 none)
 have m:Fa K aa h a=(ns K h).any (K0 K aa h a):=rfl;rw[b]at e1 g;simp only[F1,go_sem,simprocAttr,Q9,e,↓rl,e1,g,m]
def ag5{x:Nat}(a:x<256)(b:k<8):decide ((x/2^k) % 2=1)=x.testBit k:=by grind
def atb(T:ar)(M:bS T)(v:cu T)(O:bP)(P:gr O)(K:bp)(Q:im K)(aa:Nat)(S:aa<256)(h:Nat)(F:h<4294967296)(c:Nat)(B:c<=2)(H:List ae)(lo:oN):
  D X (.fn (.func 283) [] []) [.agg (hH T O K),.int .i64 aa,.int .u32 h,.int .u8 c] ⟨H,lo⟩=some (.ret (.int .i64 (sP T O K aa h c:Nat)) ⟨H,lo⟩):=by
 refine aK nf λN n=>?_
 have g:=λH lo=>up dH (eC T.b h F H lo)
 have G: ∀h,aq T.b h=T.aq h:=λh=>rfl
 simp only[G]at g;have k:=λH lo=>up dH (BW O P T M v h F H lo)
 have m:=as8 T M v O K Q h F c B;have hle:=ata T O K Q aa h c;have s:=P.of T h;have a:Den.part true 96 (hH T O K) 0=some (.agg (b0 T.b)):=by
  have e:hH T O K=b0 T.b++(wZ T.r++(cU O++ch K)):=by simp[hH,aM]
  rw[e];exact vm (ng _) (by omega)
 have d:Den.part true 784 (hH T O K) 0=some (.agg (hH T O K)):=BF (jA _ _ _);have f:sP T O K aa h c=if T.aq h=false then 4
  else if(bH O T h).kind=3 then(if c=0/\aa<8/\ (bH O T h).hold.testBit aa=true then 0 else 5)
  else if(bH O T h).kind=1 then(if((bH O T h).aa=aa/\E9 T K h c=true)\/Fa K aa h c=true then 0 else 5)
  else 5:=rfl
 generalize V:bH O T h=x at*;have C:=BZ x;rw[C]at k;cases z:T.aq h with
 |false=>
  rw[ac6 z]at f;rw[z]at g;simp only[F1,go_sem,simprocAttr,nf,n,↓a,g,f]
 |true=>
  rw[ac0 (by rw[z];simp)]at f;rw[z]at g;by_cases J:x.kind=3
  ·have j:decide ((x.kind:Int)=3)=true:=ady (by omega);rw[ac6 J]at f;by_cases w:c=0
   ·have i: (c:Int)=0:=by omega
    have c0: (aa:Int)>=0:=by omega
    by_cases I:aa<8
    ·have r: (aa:Int)<8:=by omega
     have t:k5 .shr (.int .u8 (x.hold:Nat)) (.int .i64 (aa:Nat))=some (.int .u8 ((x.hold/2^aa:Nat):Int)):=by
      rw[Db,ac6 (by omega)];have U:IntKind.u8.bits=8:=rfl;rw[U,aBo,apJ (by omega)]
      congr 2
      rw[Int.fdiv_eq_ediv_of_nonneg _ (Int.le_of_lt (Int.pow_pos (by decide)))];simp
     have E:x.hold/2^aa<256:=Nat.lt_of_le_of_lt (Nat.div_le_self _ _) s.hold;have hand:dE .and (.int .u8 ((x.hold/2^aa:Nat):Int)) (.int .u8 1)=some (.int .u8 ((x.hold/2^aa % 2:Nat):Int)):=by
      have:=KX (b:=1) E (by omega);have e:x.hold/2^aa&&&1=x.hold/2^aa % 2:=Nat.and_one_is_mod _;rw[e]at this;exact this
     have p:=ag5 s.hold I;cases A:x.hold.testBit aa
     ·rw[A,ac0 (by simp)]at f;rw[A]at p;have o: ¬((x.hold/2^aa % 2:Nat):Int)=1:=by
       have:=of_decide_eq_false p;omega
      simp only[F1,go_sem,simprocAttr,nf,n,↓a,↓pF,↓pE,g,k,j,i,c0,r,t,hand,o,f]
     ·rw[A,ac6 ⟨w,I,rfl⟩]at f;rw[A]at p;have o:decide (((x.hold/2^aa % 2:Nat):Int)=1)=true:=by
       have:=api p;exact ady (by omega)
      simp only[F1,go_sem,simprocAttr,nf,n,↓a,↓pF,↓pE,g,k,j,i,c0,r,t,hand,o,f]
    ·have r: ¬(aa:Int)<8:=by omega
     rw[ac0 (λq=>I q.2.1)]at f;simp only[F1,go_sem,simprocAttr,nf,n,↓a,↓pF,↓pE,g,k,j,i,c0,r,f]
   ·have i: ¬(c:Int)=0:=by omega
    rw[ac0 (λq=>w q.1)]at f;simp only[F1,go_sem,simprocAttr,nf,n,↓a,↓pF,↓pE,g,k,j,i,f]
  ·have j: ¬(x.kind:Int)=3:=by omega
   rw[ac0 J]at f;by_cases L:x.kind=1
   ·have l:decide ((x.kind:Int)=1)=true:=ady (by omega);rw[ac6 L]at f;have R:=s.aa;cases y:Fa K aa h c<;>by_cases w:x.aa=aa
    ·have i:decide ((x.aa:Int)=aa)=true:=ady (by omega);rw[y]at hle f;cases u:E9 T K h c
     ·rw[u]at m f;rw[ac0 (by simp)]at f;simp(disch:=omega) only[F1,go_sem,simprocAttr,nf,n,↓a,↓pF,↓pE,↓d,g,k,j,l,i,m,hle,f]
     ·rw[u]at m f;rw[ac6 (.inl ⟨w,rfl⟩)]at f;simp(disch:=omega) only[F1,go_sem,simprocAttr,nf,n,↓a,↓pF,↓pE,↓d,g,k,j,l,i,m,f]
    ·have i: ¬(x.aa:Int)=aa:=by omega
     rw[y]at hle f;rw[ac0 (by simp[w])]at f;simp(disch:=omega) only[F1,go_sem,simprocAttr,nf,n,↓a,↓pF,↓pE,↓d,g,k,j,l,i,hle,f]
    ·have i:decide ((x.aa:Int)=aa)=true:=ady (by omega);rw[y]at hle f;rw[ac6 (.inr rfl)]at f;cases u:E9 T K h c
     ·rw[u]at m;simp(disch:=omega) only[F1,go_sem,simprocAttr,nf,n,↓a,↓pF,↓pE,↓d,g,k,j,l,i,m,hle,f]
     ·rw[u]at m;simp(disch:=omega) only[F1,go_sem,simprocAttr,nf,n,↓a,↓pF,↓pE,↓d,g,k,j,l,i,m,f]
    ·have i: ¬(x.aa:Int)=aa:=by omega
     rw[y]at hle f;rw[ac6 (.inr rfl)]at f;simp(disch:=omega) only[F1,go_sem,simprocAttr,nf,n,↓a,↓pF,↓pE,↓d,g,k,j,l,i,hle,f]
   ·have l: ¬(x.kind:Int)=1:=by omega
    rw[ac0 L]at f;simp only[F1,go_sem,simprocAttr,nf,n,↓a,↓pF,↓pE,g,k,j,l,f]
structure qc(m:eY):Prop where
 fr:m.fr<8
 word:m.word<18446744073709551616
 aJ:m.aJ<4294967296
structure hZ(b:cA):Prop where
 fr:b.fr<4
 n:b.n<=4
 ring: ∀i,qc (b.ring i)
def S0:qc zm:=⟨by trivial,by trivial,by trivial⟩
def hZ.gone:hZ rp:=⟨by trivial,by trivial,λ_=>S0⟩
def hZ.close(h:hZ b):hZ (pM b).1:=by
 unfold pM;split
 ·exact h
 ·exact⟨h.fr,h.n,h.ring⟩
def hZ.put(h:hZ b){m:eY}(a:qc m):hZ (iD b m).1:=by
 unfold iD;split
 ·exact h
 ·split
  ·exact h
  ·refine⟨h.fr,by have:=h.n;grind,λi=>?_⟩;show qc (ai b.ring (jk b b.n) m i);by_cases e:i=jk b b.n
   ·rw[e,bI];exact a
   ·rw[bA e];exact h.ring i
def hZ.take(h:hZ b):hZ (iE b).1/\qc (iE b).2.1:=by
 unfold iE;split
 ·exact⟨h,S0⟩
 ·exact⟨⟨anr _ (by omega),by have:=h.n;grind,h.ring⟩,h.ring _⟩
def ag6(b:cA)(i:Nat):jk b i<4:=anr _ (by omega)
def zB:lA:=[.int .u8 0,.int .u64 0,.int .u32 0,.bool false,.int .u8 0,.int .u64 0,.int .u32 0,.bool false,.int .u8 0,.int .u64 0,.int .u32 0,.bool false,.int .u8 0,.int .u64 0,.int .u32 0,.bool false,.int .i64 0,.int .i64 0,.bool false]
theorem ag7:List.take 19 (cG b)=cG b:=by rfl
def MB:=gG @ag7<|gG @zh @afd
theorem oC(m:eY):eN m=[.int .u8 m.fr,.int .u64 m.word,.int .u32 m.aJ,.bool m.share]:=rfl
def S1(b:cA)(d:b.fr<4)(i:Nat)(c:i<1000)(H:List ae)(lo:oN):D X0 (.fn (.func 306) [] []) [.agg (cG b),.int .i64 i] ⟨H,lo⟩=some (.ret (.int .i64 (jk b i:Nat)) ⟨H,lo⟩):=by
 refine aK Q7 λN a=>?_
 have e: ((b.fr:Int)+i).tmod 4=(jk b i:Nat):=by rfl
 simp(disch:=omega) only[F1,go_sem,simprocAttr,Q7,a,↓afu,e]
def S2(b:cA)(l:hZ b)(m:eY)(H:List ae)(lo:oN):
  D X0 (.fn (.func 271) [] []) [.agg (cG b),.agg (eN m)] ⟨H,lo⟩=some (.ret (.aA [.agg (cG (iD b m).1),.int .i64 (iD b m).2]) ⟨H,lo⟩):=by
 refine aK ER λN j=>?_
 have e:iD b m=if b.closed then(b,11)else if b.n=4 then(b,7)else({b with ring:=ai b.ring (jk b b.n) m,n:=b.n+1},0):=rfl
 have hm:=oC m;cases f:b.closed
 ·rw[f,ac0 (by simp)]at e;by_cases k:b.n=4
  ·rw[ac6 k]at e;have d:decide ((b.n:Int)=4)=true:=ady (by omega);simp only[F1,go_sem,simprocAttr,ER,j,hm,↓zi,f,↓BG,d,MB,↓rk,e]
  ·rw[ac0 k]at e;have d: ¬(b.n:Int)=4:=by omega
   have p:=l.n;have i:=S1 b l.fr b.n (by omega);have h:=ag6 b b.n;have a:=aqv (b:=b) (x:=m) h;rw[hm]at a;have g: ∀c,aN (cG ⟨ai b.ring (jk b b.n) m,b.fr,b.n,c⟩) 17 [.int .i64 ((b.n:Int)+1)]=cG ⟨ai b.ring (jk b b.n) m,b.fr,b.n+1,c⟩:=λc=>afv (x:=b.n+1)
   have o: (N+1 !=N)=true:=by simp
   simp(disch:=omega) only[F1,go_sem,simprocAttr,ER,j,hm,↓zi,f,↓BG,d,MB,↓rk,i,a,g,e];exact⟨by omega,by omega⟩
 ·rw[f,ac6 rfl]at e;simp only[F1,go_sem,simprocAttr,ER,j,hm,↓zi,f,MB,↓rk,e]
def aY(x:az)(bk:AV):lA:=bn x.s++([.int .i64 x.aa]++(bq x.c++(aD x.run++[.int .i64 x.jW,.bool x.asks,bk])))
def K1(x:az)(bk:AV): (aY x bk).length=964:=by simp only[aY,aeG,eg];rfl
section
variable{x:az}{bk:AV}
theorem vL{ag:Bool}{m o:Nat}(ho:o+m<=952)(a:0<m):Den.part ag m (aY x bk) o=Den.part ag m (bn x.s) o:=by
 unfold aY;exact ri (by rw[eg];exact ho) a
def oD{ag:Bool}{m o:Nat}(ho:952<=o):Den.part ag m (aY x bk) o=Den.part ag m ([.int .i64 x.aa]++(bq x.c++(aD x.run++[.int .i64 x.jW,.bool x.asks,bk]))) (o-952):=by
 unfold aY;rw[jh (by rw[eg];exact ho),eg]
def ag8:Den.part true 480 (aY x bk) 0=some (.agg (aM x.s.T)):=by grind [vL,RT]
theorem S3:Den.part true 96 (aY x bk) 0=some (.agg (b0 x.s.T.b)):=by rfl
def ag9:Den.part true 128 (aY x bk) 480=some (.agg (cU x.s.O)):=by grind [vL,Kq]
def aha:Den.part true 176 (aY x bk) 608=some (.agg (ch x.s.K)):=by grind [vL,Kr]
def ahb:Den.part true 784 (aY x bk) 0=some (.agg (hH x.s.T x.s.O x.s.K)):=by grind [vL,RR]
def ahc:Den.part true 952 (aY x bk) 0=some (.agg (bn x.s)):=by grind [vL,RS]
def K2{i:Nat}(h:i<8):Den.part true 19 (aY x bk) (784+i*19)=some (.agg (cG (x.s.bw i))):=by grind [vL,aqz]
def S4{i:Nat}(h:i<8):Den.part false 1 (aY x bk) (936+i)=some (.bool (x.s.alive i)):=by grind [vL,afx]
def atc{i:Nat}(h:i<8):Den.part false 1 (aY x bk) (944+i)=some (.bool (x.s.born i)):=by grind [vL,aqC]
def ahd:Den.part false 1 (aY x bk) 952=some (.int .i64 x.aa):=by rw[oD (by omega)];rfl
def ahe:Den.part false 1 (aY x bk) 953=some (.int .u8 x.c.op):=by rw[oD (by omega)];rfl
def ahf:Den.part false 1 (aY x bk) 954=some (.int .u32 x.c.r):=by rw[oD (by omega)];rfl
def ahg:Den.part false 1 (aY x bk) 955=some (.int .u32 x.c.s):=by rw[oD (by omega)];rfl
def ahh:Den.part false 1 (aY x bk) 956=some (.int .u32 x.c.a):=by rw[oD (by omega)];rfl
def ahi:Den.part false 1 (aY x bk) 957=some (.int .u32 x.c.b):=by rw[oD (by omega)];rfl
def ahj:Den.part false 1 (aY x bk) 958=some (.int .u64 x.c.v):=by rw[oD (by omega)];rfl
def ahk:Den.part true 6 (aY x bk) 953=some (.agg (bq x.c)):=by rw[oD (by omega)];rfl
def ahl:Den.part true 2 (aY x bk) 959=some (.agg (aD x.run)):=by rw[oD (by omega)];rfl
def ahm:Den.part false 1 (aY x bk) 960=some (.int .i64 x.run.2):=by rw[oD (by omega)];rfl
def ahn:Den.part false 1 (aY x bk) 961=some (.int .i64 x.jW):=by rw[oD (by omega)];rfl
def aho:Den.part false 1 (aY x bk) 962=some (.bool x.asks):=by rw[oD (by omega)];rfl
def ahp:Den.part false 1 (aY x bk) 963=some bk:=by rw[oD (by omega)];rfl
def CL:=gG @ag8<|gG @S3<|gG @ag9<|gG @aha<|gG @ahb<|gG @ahc<|gG @ahd<|gG @ahe<|gG @ahf<|gG @ahg<|gG @ahh<|gG @ahi<|gG @ahj<|gG @ahk<|gG @ahl<|gG @ahm<|gG @ahn<|gG @aho @ahp
def B0{s:aZ}{o:Nat}{vs:lA}(ho:o+vs.length<=952)(h:aN (bn x.s) o vs=bn s):aN (aY x bk) o vs=aY {x with s:=s} bk:=by
 unfold aY;rw[rj (by rw[eg];exact ho),h]
def S5:aN (aY x bk) 0 (aM t)=aY (x.t t) bk:=B0 (by rw[ji];omega) aqE
def ahq{w:bP}:aN (aY x bk) 480 (cU w)=aY (x.o w) bk:=B0 (by rw[sJ];omega) aqF
def ahr{k:bp}:aN (aY x bk) 608 (ch k)=aY (x.k k) bk:=B0 (by rw[zg];omega) aqG
def K3{i:Nat}{b:cA}(h:i<8):aN (aY x bk) (784+i*19) (cG b)=aY (x.bx i b) bk:=B0 (by rw[zh];omega) (aqH h)
def ahs{i:Nat}{v:Bool}(h:i<8):aN (aY x bk) (936+i) [.bool v]=aY {x with s:={x.s with alive:=ai x.s.alive i v}} bk:=B0 (by grind) (afz h)
def atd{i:Nat}{v:Bool}(h:i<8):aN (aY x bk) (944+i) [.bool v]=aY {x with s:={x.s with born:=ai x.s.born i v}} bk:=B0 (by grind) (afA h)
def B1{o:Nat}{vs:lA}(ho:952<=o):aN (aY x bk) o vs=bn x.s++aN ([.int .i64 x.aa]++(bq x.c++(aD x.run++[.int .i64 x.jW,.bool x.asks,bk]))) (o-952) vs:=by
 unfold aY;rw[ij (by rw[eg];exact ho),eg]
theorem aht:aN (aY x bk) 961 [.int .i64 n]=aY {x with jW:=n} bk:=by rw[B1 (by omega)];rfl
def ahu:aN (aY x bk) 963 [v]=aY x v:=by rw[B1 (by omega)];rfl
def CS:=gG @S5<|gG @ahq<|gG @ahr<|gG @aht<|gG @ahu @K1
end
abbrev jF(e:Nat):AV:=.du uL (.int .i64 (e:Nat))
theorem ahv{t:TypeId}:WQ (.du t v)=some (.du t v):=rfl
def ahw{X:Ctx}{a:List RV}{R:aU->Prop}{e:Env}{E:AS}:dX X n lo a R (.panic v) ⟨e,[]⟩ E=R (.panic (finish n lo v E).1 (finish n lo v E).2):=by
 simp[dX,dV]
def EP:=gG @ahv @ahw
def Fu(e:Int)(H:List ae)(lo:oN):D X0 (.fn (.func 116) [] []) [.bool true,.int .i64 e] ⟨H,lo⟩=some (.ret (.aA []) ⟨H,lo⟩):=by
 refine aK Ew λN a=>?_
 simp(disch:=omega) only[F1,go_sem,simprocAttr,Ew]
def zA(e:Nat)(H:List ae)(lo:oN):D X0 (.fn (.func 116) [] []) [.bool false,.int .i64 e] ⟨H,lo⟩=some (.panic (jF e) ⟨H,lo⟩):=by
 refine aK Ew λN a=>?_
 simp(disch:=omega) only[F1,go_sem,simprocAttr,Ew,EP]
def ate(H:List ae)(lo:oN):D X0 (.fn (.func 248) [] []) [.int .i64 0] ⟨H,lo⟩=some (.ret (.aA []) ⟨H,lo⟩):=by
 refine aK EL λN a=>?_
 simp(disch:=omega) only[F1,go_sem,simprocAttr,EL,Fu]
def atf(e:Nat)(b:e≠0)(H:List ae)(lo:oN):D X0 (.fn (.func 248) [] []) [.int .i64 e] ⟨H,lo⟩=some (.panic (jF e) ⟨H,lo⟩):=by
 refine aK EL λN c=>?_
 have a: ¬(e:Int)=0:=by omega
 simp(disch:=omega) only[F1,go_sem,simprocAttr,EL,zA,a,EP]
def zD{X:Ctx}{e:Env}{E:AS}{R:aU->Prop}{b c m:Nat}{ag d:Bool}:dX X n lo [.cell a ag m,.cell b d k,.t c] R .ret ⟨e,[]⟩ E=okV (cp X E ag m (e a)) (λv E=>okV (cp X E d k (e b)) (λu E=>og n lo R (.aA [v,u,e c]) E) E) E:=by
 simp only[yn,yp,gg,kr,oQ];cases h:cp X E ag m (e a)with
 |none=>simp[okV,h]
 |some v=>
  cases f:cp X E d k (e b)with
  |none=>simp[okV,h,f]
  |some u=>simp[okV,og,h,f]
def atg(b:cA)(i:hZ b)(H:List ae)(lo:oN):
  D X0 (.fn (.func 272) [] []) [.agg (cG b)] ⟨H,lo⟩=some (.ret (.aA [.agg (cG (iE b).1),.agg (eN (iE b).2.1),.int .i64 (iE b).2.2]) ⟨H,lo⟩):=by
 refine aK ES λN k=>?_
 have d:iE b=if b.n=0 then(b,zm,if b.closed then 11 else 10)else({b with fr:=jk b 1,n:=b.n-1},b.ring b.fr,0):=rfl
 have e:eN zm=[.int .u8 0,.int .u64 0,.int .u32 0,.bool false]:=rfl;by_cases l:b.n=0
 ·rw[ac6 l]at d;have a:decide ((b.n:Int)=0)=true:=ady (by omega);cases g:b.closed
  ·rw[g,ac0 (by simp)]at d;simp only[F1,go_sem,simprocAttr,ES,k,↓zi,g,↓BG,a,MB,↓rk,d,e,zD]
  ·rw[g,ac6 rfl]at d;simp only[F1,go_sem,simprocAttr,ES,k,↓zi,g,↓BG,a,MB,↓rk,d,e,zD]
 ·rw[ac0 l]at d;have a: ¬(b.n:Int)=0:=by omega
  have m:=i.n;have j: ∀H lo,D X0 (.fn (.func 306) [] []) [.agg (cG b),.int .i64 1] ⟨H,lo⟩=_:=S1 b i.fr 1 (by omega);have h:=i.fr;have f: (b.fr:Int)<4:=by omega
  have hm:=oC (b.ring b.fr);have c:=aft (b:=b) h;have o: ((b.n:Int)-1)=((b.n-1:Nat):Int):=by omega
  rw[hm]at c;simp(disch:=omega) only[F1,go_sem,simprocAttr,ES,k,↓BG,↓afu,a,MB,↓rk,j,↓c,f,o,aqw,afv,d,hm,zD];simp
def ath(b:cA)(H:List ae)(lo:oN):
  D X0 (.fn (.func 273) [] []) [.agg (cG b)] ⟨H,lo⟩=some (.ret (.aA [.agg (cG (pM b).1),.int .i64 (pM b).2]) ⟨H,lo⟩):=by
 refine aK JZ λN c=>?_
 have d:pM b=if b.closed then(b,11)else({b with closed:=true},0):=rfl
 cases a:b.closed
 ·simp only[F1,go_sem,simprocAttr,JZ,c,↓zi,a,MB,↓rk,aqx,d]
 ·simp only[F1,go_sem,simprocAttr,JZ,c,↓zi,a,MB,↓rk,d]
def ati(b:cA)(N:Nat)(H:List ae)(c:H.length=N)(lo:oN):D X0 (.fn (.func 331) [] []) [.agg (cG b)] ⟨H,lo⟩=some (.ret (.fn (.func 337) [] [.ptr N 0]) ⟨H++[.box (cG b) none],lo⟩):=by
 refine aK Rm λM a=>?_
 obtain rfl:M=N:=by omega
 simp only[go_sem,simprocAttr,Rm,a];rw[BR (by omega)]
def xx(b:cA):List lA:=(dG b).map λm=>[.agg (eN m)]
def S6(b:cA): (xx b).length=b.n:=by simp[xx,dG]
def ahx{j:Nat}(h:j<b.n): (xx b)[j]?=some [.agg (eN (b.ring (jk b j)))]:=by
 unfold xx dG
 grind
def atj(b:cA)(K:hZ b)(a:Nat):uI X0 (.fn (.func 337) [] [.ptr a 0]) a [.box (cG b) none] (xx b):=by
 intro S V y I J base L g z W s hP h0 yq f hG lo;have p: ∀i,V.dM i->i<base:=λi hi=>(g i hi).1
 suffices h: ∃w,D X0 (.fn (.func 337) [] [.ptr a 0]) [y] ⟨W,lo⟩=some w/\
   (λw=> ∃s' d aj,w=aU.ret (.aA []) ⟨d,aj⟩/\V.P s' d/\ (I (xx b).length s'\/J s')/\base<=d.length/\
     (∀i,i<base-> ¬V.dM i-> ¬(a<=i/\i<a+[ae.box (cG b) none].length)->d[i]?=W[i]?)/\k7 V.c base lo aj none (V.row s')) w by
  obtain⟨w,h1,s',d,aj,rfl,X,U,T,R,Q⟩:=h;exact⟨s',d,aj,h1,X,U,T,R,Q⟩
 refine xh Rp rfl rfl rfl λN hN=>?_
 obtain rfl:N=base:=by omega
 have C:W[a]?=some (.box (cG b) none):=hG 0 (by simp);have ha:=fy C;have A: ¬V.dM a:=λq=>(g a q).2 ⟨by omega,by simp⟩
 have MK:=K.n;simp only[go_sem,simprocAttr,Rp,C,↓BG];refine gZ b.n (λk e d aj=> ∃s',I k s'/\ky V N W (λi=>a<=i/\i<a+[ae.box (cG b) none].length) s' d aj/\d[a]?=some (.box (cG b) none)/\e 0=y/\e 1= .ptr a 0/\e 5= .int .i64 b.n/\e 6= .int .i64 k) 0 (by omega) ?_ ?_
 ·simp only[go_sem,simprocAttr];exact⟨s,h0,⟨hP,by omega,λ_ _ _ _=>rfl,.inl ⟨rfl,f⟩,λr e=>by rw[f]at e;cases e⟩,C⟩
 rintro k hk e W1 x ⟨s1,M,o,w0,P,e1,O,e6⟩ n hn;simp only[cm,go_sem,simprocAttr,aeC,P,e1,O,e6];refine⟨λh=>?_,λh=>?_⟩
 ·have t:k<b.n:=by omega
  have hx:=ahx t;have u:=S1 b K.fr k (by omega);have B:=ag6 b k;have l: (jk b k:Int)<4:=by omega
  have j:=aft (b:=b) B;obtain⟨c,s2,W2,mg,H,p2,G,Z,Y,F⟩:=z k _ s1 hx M W1 o.P o.len x;have v:=o.step p2 G Z Y;have Sw:N<=n:=by have:=o.len;omega
  have v0:W2[a]?=some (.box (cG b) none):=by rw[G.2 a (by omega) A (λq=>by have:=o.row _ q;omega)];exact w0
  cases c
  ·obtain⟨E,m,f1,f2,f3,f4,f5⟩:=v.fin L p (dU:=lo);simp only[go_sem,simprocAttr,e1,w0,MB,u,l,↓j,H,f1];exact⟨s2,E,m,rfl,f2,.inr F,f3,f4,f5⟩
  ·simp(disch:=omega) only[go_sem,simprocAttr,P,e1,O,e6,w0,MB,u,l,↓j,H];exact⟨t,s2,F,v,v0⟩
 ·obtain⟨E,m,f1,f2,f3,f4,f5⟩:=o.fin L p (dU:=lo);simp only[go_sem,simprocAttr,f1];exact⟨s1,E,m,rfl,f2,.inl (by rw[S6,show b.n=k by omega];exact M),f3,f4,f5⟩
def ahy{N id ak:Nat}{H:List ae}{ty:TypeId}{af:List lA}(e:N<=id)(c:H[id]?=some (.row ak sz ty af))(d:n=af.length)(a:b9 af<=N):Den.freeze ⟨H,lo⟩ N (k+4) (.ref id ak sz 0 n true)=some (.sl af true):=by
 subst d;have b: ¬(AV.ref id ak sz 0 af.length true).refs<=N:=by simp only[AV.refs];omega
 rw[Den.freeze,ac0 b];simp only[c];rw[ac6 ⟨trivial,trivial,by omega⟩];simp only[aoT,aeQ];rw[N8 af a]
def atk(H:List ae)(lo:oN):D X0 (.fn (.func 332) [] []) [.au] ⟨H,lo⟩=some (.ret .au ⟨H,lo⟩):=by
 refine aK E0 λN b=>?_
 have a:gE 4 .au none (some (.int .i64 0)) (some (.int .i64 0))=some .au:=by rfl
 simp(disch:=omega) only[F1,go_sem,simprocAttr,E0,a]
def atl(id ak n:Nat)(H:List ae)(c:id<H.length)(lo:oN):D X0 (.fn (.func 332) [] []) [.ref id ak 4 0 n false] ⟨H,lo⟩=some (.ret (.ref id ak 4 0 n true) ⟨H,lo⟩):=by
 refine aK E0 λN d=>?_
 have b:gE 4 (.ref id ak 4 0 n false) none (some (.int .i64 (n:Nat))) (some (.int .i64 (n:Nat)))=some (.ref id ak 4 0 n true):=by simp[gE,gT,lO,lP]
 have a: ∀E,gF E .sl (.ref id ak 4 0 n false)=some (.int .i64 n):=λE=>rfl
 simp only[go_sem,simprocAttr,E0,b,a];rw[jE (.inl rfl) (by simp only[AV.refs];omega),adz (by omega)]
structure MSt where
 l:List eY
 row:oN
def mV(H:List ae)(N:Nat):YV MSt:=⟨λs W=>iK N H W/\SV (N+1) 4 Dk W s.row (s.l.map eN),MSt.row,λi=>i<N+2,N+1⟩
def atm{H:List ae}{N:Nat}: (mV H N).Ok where
 st:=λs W f ⟨e,c⟩ a=>by
  refine⟨λi b=>?_,c.st (a _ (.inl (avY _))) λi b=>a i (.inr b)⟩;have:i<N+2:=by omega
  rw[a i (.inl this)];exact e i b
 lt:=λs W r ⟨_,c⟩ d=>c.row d
def atn(b:cA)(hb:hZ b)(H:List ae)(lo:oN):
  ∃w,D X0 (.fn (.func 311) [] []) [.agg (cG b)] ⟨H,lo⟩=some (.ret w ⟨H,lo⟩)/\Rv w 4 ((dG b).map eN)/\w.refs=0:=by
 suffices hs: ∃B,D X0 (.fn (.func 311) [] []) [.agg (cG b)] ⟨H,lo⟩=some B/\ (λB=> ∃w,B=aU.ret w ⟨H,lo⟩/\Rv w 4 ((dG b).map eN)/\w.refs=0) B by
  obtain⟨B,h1,w,rfl,h2⟩:=hs;exact⟨w,h1,h2⟩
 refine cI Q8 λN l=>?_
 have he:=ati b (N+2) (H++[.box (cG b) none,.box [.au] none]) (by simp[l]) none;have MK:=hb.n;simp only[go_sem,simprocAttr,Q8,l,he,↓rk];obtain⟨p,c⟩: ∃p,p=H++[ae.box (cG b) none,.box [.au] none,.box (cG b) none]:=⟨_,rfl⟩;rw[<-c];have A:p.length=N+3:=by rw[c];simp[l]
 generalize o: ((((((dv _).set 1 _).set 2 _).set 3 _).set 5 _).set 6 _)=e;have E:e 3= .ptr (N+1) 0:=by rw[<-o];rfl
 have Y: (ao.t 6).get e= .fn (.func 337) [] [.ptr (N+2) 0]:=by rw[<-o];rfl
 clear o;refine Oq (mV H N) atm (xx b) (N+2) [.box (cG b) none] p ⟨[],none⟩ (by rw[Y];rfl) (by rw[Y];exact atj b hb (N+2)) (λi a=>?_) (by simp[A]) (λi a=>?_) ⟨?_,?_⟩ rfl
  (λj s=>s.l=(dG b).take j) (λ_ _=>False) rfl (λ_ _ h=>h.elim) ?_ ?_ (λ_ _ _ _ h=>h.elim)
 ·have:i=0:=by simpa using a
  subst this;rw[c,aeS,bM l];rfl
 ·have:i<N+2:=a;exact⟨by omega,by omega⟩
 ·rw[c];exact iK.app l
 ·exact .inl ⟨rfl,rfl,by rw[c,bM l];rfl⟩
 ·intro j y s L U;have Z:j<b.n:=by
   have:=(ack.1 L).1;rwa[S6]at this
  have d:s.l=(dG b).take j:=U;have z: (dG b)[j]?=some (b.ring (jk b j)):=by unfold dG;rw[agp,apl Z];rfl
  rw[ahx Z]at L;cases L;generalize b.ring (jk b j)=m at*;refine⟨rfl,λW hP yq=>?_⟩;obtain⟨n,hn⟩: ∃n,W.length=n:=⟨_,rfl⟩;have hm:=oC m;simp only[go_sem,simprocAttr,iZ,hn,hm];refine⟨[.box (eN m) none],rfl,λC hW2 T=>?_⟩;obtain⟨F,r⟩:=T;have t:C.length=n:=by omega
  have f: ∀i,s.row=some i->N+1<i/\i<n:=by
   intro i a;rcases r with⟨q,_⟩| ⟨id,ak,q,_,J,E,q4⟩
   ·rw[q]at a;cases a
   ·rw[q]at a;cases a;exact⟨J,by have:=fy q4;omega⟩
  have M:SV (N+1) 4 Dk (C++[.box (eN m) none]) s.row (s.l.map eN):=r.st (by rw[acj (by omega)]) λi a=>by
   rw[acj (by have:=f i a;omega)]
  have we:s.l.length<=4:=by rw[d,af9];have: (dG b).length=b.n:=by simp[dG]
                            omega
  obtain⟨vv,v',W3,V,X,a1,a2,a3,a4,a5,a6,a7⟩:=M.append (bytes:=24) (el:=eN m) (by simp;omega) (by omega) rfl rfl (by rw[aeK];unfold room;omega) none;have G: (C++[ae.box (eN m) none]).length=n+1:=by simp[t]
  have u: (C++[ae.box (eN m) none])[n]?=some (.box (eN m) none):=by rw[<-t];simp
  rw[hm]at a1 a2 u⊢;simp only[go_sem,simprocAttr,aeA,E,a1,a2,a3,u,Dh];refine⟨⟨s.l++[m],X⟩,⟨λi a=>?_,?_⟩,⟨by show C.length<=V.length;omega,λi a hp hr=>?_⟩,.inr ⟨N+1,adA _,by omega,rfl,?_⟩,?_⟩
  ·show V[i]?=_;rw[a6 i (by omega) (by omega) (λq=>by have:=f i q;omega),acj (by omega)];exact F i a
  ·show SV (N+1) 4 Dk V X ((s.l++[m]).map eN);rw[aeP];exact a4
  ·have nZ: ¬i<N+2:=hp;rw[a6 i (by omega) (by omega) hr,acj a]
  ·rcases a7 with q| ⟨q,K,J⟩
   ·exact .inl q
   ·exact .inr ⟨q,K,by omega⟩
  ·show s.l++[m]=(dG b).take (j+1);rw[d,agn,z];rfl
 ·intro s' W' aj U hP hl S oZ Q;obtain⟨F,r⟩:=hP;have d:s'.l=dG b:=by
   have:s'.l=(dG b).take (xx b).length:=U;rw[this,S6];exact adz (by simp[dG])
  have g:eB N aj:=by
   rcases Q with⟨rfl,_⟩| ⟨q,K,J,rfl⟩
   ·exact .inl rfl
   ·exact .inr ⟨q,by have:N+1<=q:=K;omega,rfl⟩
  rw[d]at r;have h0:b9 ((dG b).map eN)=0:=bL (λ_=>rfl) _;rcases r with⟨c1,c2,c3⟩| ⟨id,ak,c1,c2,c3,c4,I⟩
  ·simp only[go_sem,simprocAttr,E,c3,atk,S,nE];rw[jE g (adC _)];refine⟨.au,dp rfl ((F.set (by omega)).take l),by rw[apR.1 c2];exact .au,rfl⟩
  ·have v:=atl id ak ((dG b).map eN).length W' (fy I);rw[aeK]at v c4;have P:p.length≠id:=by rintro rfl;rw[S]at I;cases I
   simp only[go_sem,simprocAttr,E,c4,v,S,nE];have O: (W'.set p.length ae.dead)[id]?=some (.row ak 4 Dk ((dG b).map eN)):=by rw[ach P];exact I
   rw[uK g (v':=.sl ((dG b).map eN) true) λk=>by rw[show k+12=(k+8)+4 by omega];exact ahy (by omega) O (by simp) (by rw[h0];omega)];exact⟨_,dp rfl ((F.set (by omega)).take l),.sl (by intro el R;obtain⟨x,_,rfl⟩:=aeO.1 R;rfl),h0⟩
theorem ato:cG rp=[.int .u8 0,.int .u64 0,.int .u32 0,.bool false,.int .u8 0,.int .u64 0,.int .u32 0,.bool false,.int .u8 0,.int .u64 0,.int .u32 0,.bool false,.int .u8 0,.int .u64 0,.int .u32 0,.bool false,.int .i64 0,.int .i64 0,.bool true]:=rfl
def atp(b:cA)(d:hZ b)(H:List ae)(lo:oN):
  ∃w,D X0 (.fn (.func 276) [] []) [.agg (cG b)] ⟨H,lo⟩=some (.ret (.aA [.agg (cG rp),w]) ⟨H,lo⟩)/\Rv w 4 ((dG b).map eN)/\w.refs=0:=by
 obtain⟨w,e1,e,e3⟩:=atn b d (H++[.box (cG b) none,.box zB none]) none;refine⟨w,?_,e,e3⟩;refine aK QQ λM a=>?_
 have c:zB=[.int .u8 0,.int .u64 0,.int .u32 0,.bool false,.int .u8 0,.int .u64 0,.int .u32 0,.bool false,.int .u8 0,.int .u64 0,.int .u32 0,.bool false,.int .u8 0,.int .u64 0,.int .u32 0,.bool false,.int .i64 0,.int .i64 0,.bool false]:=rfl;rw[c]at e1;simp only[go_sem,simprocAttr,QQ,a,↓rk,e1];rw[xp (by simp[AV.refs,aL,e3]),mC a,ato]
def xy:oX:=λg=>if g=308 then some wV else if g=115 then some wS else none
noncomputable def B2:lA->AS->Option aU:=wq X (D X) Lw xy 307 rf
noncomputable def B3:lA->AS->Option aU:=wq X (D X) Lw xy 275 wU
noncomputable def XA:Ctx:={X with cg:=λf=>if f=307 then some B2 else if f=275 then some B3 else X.cg f}
theorem C9:Ext X XA where
 dS:=rfl
 gu:=rfl
 code:=rfl
 cg:=λf=>by
  by_cases b:f=307
  ·subst b;exact .inr ⟨rfl,rfl⟩
  ·by_cases a:f=275
   ·subst a;exact .inr ⟨rfl,rfl⟩
   ·left;show(if f=307 then some B2 else if f=275 then some B3 else X.cg f)=X.cg f
    grind
def B4(e:Int)(H:List ae)(lo:oN):D X (.fn (.func 310) [] []) [.bool true,.int .i64 e] ⟨H,lo⟩=some (.ret (.aA []) ⟨H,lo⟩):=by
 refine aK EX λN a=>?_
 simp(disch:=omega) only[F1,go_sem,simprocAttr,EX]
def B5(e:Nat)(H:List ae)(lo:oN):D X (.fn (.func 310) [] []) [.bool false,.int .i64 e] ⟨H,lo⟩=some (.panic (jF e) ⟨H,lo⟩):=by
 refine aK EX λN a=>?_
 simp(disch:=omega) only[F1,go_sem,simprocAttr,EX,EP]
theorem ahA:eI .du .eV .eV=some true:=rfl
theorem ahB{t:TypeId}:eI .du (.du t v) .eV=some false:=rfl
theorem ahC{z:AV}{t:TypeId}:z9 z (.du t v) t true=some (.aA [v,.bool true]):=ac6 rfl
def K4{K:AS->Prop}{H:List ae}(h:K ⟨H,lo⟩):qN X xy (cf 308|>.get λ_=>.au) [.ptr p 0] .eV ⟨H,lo⟩ K:=by
 refine HF (pr:=wV) rfl rfl λn a=>?_
 simp(disch:=omega) only[F1,go_sem,simprocAttr,wV,ahA];exact⟨.inl trivial,.aA [],rfl,by trivial⟩
def vN{K:AS->Prop}{H:List ae}{v0:AV}(e:Nat)(a:H[p]?=some (.box [v0] none))(h:K ⟨H.set p (.box [.int .i64 e] none),lo⟩):qN X xy (cf 308|>.get λ_=>.au) [.ptr p 0] (jF e) ⟨H,lo⟩ K:=by
 refine HF (pr:=wV) rfl rfl λn b=>?_
 simp only[F1,go_sem,simprocAttr,wV,ahB,a,ahC];refine⟨.inl trivial,.aA [],rfl,?_⟩;rw[ac6 (show(AV.aA []).refs<=n from adC _),adz (by grind)];exact h
def ahD(t:ar)(d:bS t)(r:Nat)(e:r<4294967296)(i:t.aq r=true)(c:Nat)(j:c<8)(H:List ae)(lo:oN):
  D X (.fn (.func 309) [] []) [.agg (aM t),.int .u32 r,.int .i64 c] ⟨H,lo⟩=some (.ret (.agg (b8 (aE t r).1)) ⟨H,lo⟩):=by
 refine aK za λN f=>?_
 have a:=λH lo=>up dH (vF t d r e H lo)
 have b: (aE t r).2=0:=by unfold aE;grind
 have h: (c:Int)>=0:=by omega
 have g: (c:Int)<8:=by omega
 simp only[F1,go_sem,simprocAttr,za,f,a,nD,b,kQ,B4,h,g]
def ahE(t:ar)(d:bS t)(r:Nat)(e:r<4294967296)(j:t.aq r=true)(c:Nat)(k:8<=c)(H:List ae)(lo:oN):
  D X (.fn (.func 309) [] []) [.agg (aM t),.int .u32 r,.int .i64 c] ⟨H,lo⟩=some (.panic (jF 2) ⟨H,lo⟩):=by
 refine aK za λN g=>?_
 have a:=λH lo=>up dH (vF t d r e H lo)
 have b: (aE t r).2=0:=by unfold aE;grind
 have i: (c:Int)>=0:=by omega
 have h: ¬(c:Int)<8:=by omega
 have f: ∀H lo,D X (.fn (.func 310) [] []) [.bool false,.int .i64 2] ⟨H,lo⟩=_:=B5 2;simp only[F1,go_sem,simprocAttr,za,g,a,nD,b,kQ,B4,f,i,h,EP]
def atq(t:ar)(d:bS t)(r:Nat)(e:r<4294967296)(h:t.aq r=false)(c:Nat)(H:List ae)(lo:oN):
  D X (.fn (.func 309) [] []) [.agg (aM t),.int .u32 r,.int .i64 c] ⟨H,lo⟩=some (.panic (jF 4) ⟨H,lo⟩):=by
 refine aK za λN g=>?_
 have a:=λH lo=>up dH (vF t d r e H lo)
 have b: (aE t r).2=4:=by unfold aE;grind
 have f: ∀H lo,D X (.fn (.func 310) [] []) [.bool false,.int .i64 4] ⟨H,lo⟩=_:=B5 4;simp only[F1,go_sem,simprocAttr,za,g,a,nD,b,kQ,f,EP]
def s5(t:ar)(r a to:Nat)(b:Bool):Nat:=
 if t.aq r=false\/ (to≠0/\t.aq to=false)then 4 else if 8<=a then 2 else if to≠0/\b=false/\kJ t to r=false then 5
 else(ed t r {(aE t r).1 with cells:=ai (aE t r).1.cells a to}).2
def atr{r:cQ}{v:Nat}(h:i<8):aN (b8 r) (4+i) [.int .u32 (v:Nat)]=b8 {r with cells:=ai r.cells i v}:=afn h
def ats(t:ar)(A:bS t)(U:cu t)(r a to:Nat)(b:Bool)(E:r<4294967296)(s:to<4294967296)(T:a<4294967296)(H:List ae)(lo:oN):
  ∃cs,B2 [.agg (aM t),.int .u32 r,.int .i64 a,.int .u32 to,.bool b] ⟨H,lo⟩=some (.ret (.aA [.agg cs,.int .i64 (s5 t r a to b)]) ⟨H,lo⟩)/\cs.length=480/\aL cs=0/\
   (s5 t r a to b=0->cs=aM (ed t r {(aE t r).1 with cells:=ai (aE t r).1.cells a to}).1):=by
 suffices R: ∃I,B2 [.agg (aM t),.int .u32 r,.int .i64 a,.int .u32 to,.bool b] ⟨H,lo⟩=some I/\ (λI=> ∃cs,I=aU.ret (.aA [.agg cs,.int .i64 (s5 t r a to b)]) ⟨H,lo⟩/\cs.length=480/\aL cs=0/\
   (s5 t r a to b=0->cs=aM (ed t r {(aE t r).1 with cells:=ai (aE t r).1.cells a to}).1)) I by
  obtain⟨I,p,cs,rfl,V⟩:=R;exact⟨cs,p,V⟩
 refine Od rf rfl rfl λN j=>?_
 have c:=λH lo=>up dH (eC t.b r E H lo)
 have d:=λH lo=>up dH (eC t.b to s H lo)
 have L: ∀h,aq t.b h=t.aq h:=λh=>rfl
 simp only[L]at c d;have m:=λH lo=>up dH (SJ t A U to r s E H lo)
 have F: ∀H lo,D X (.fn (.func 310) [] []) [.bool false,.int .i64 4] ⟨H,lo⟩=_:=B5 4;have O: ∀H lo,D X (.fn (.func 310) [] []) [.bool false,.int .i64 5] ⟨H,lo⟩=_:=B5 5;have z:aL k9=0:=by decide
 have f:s5 t r a to b=if t.aq r=false\/ (to≠0/\t.aq to=false)then 4 else if 8<=a then 2 else if to≠0/\b=false/\kJ t to r=false then 5
  else(ed t r {(aE t r).1 with cells:=ai (aE t r).1.cells a to}).2:=rfl
 cases y:t.aq r with
 |false=>
  rw[y]at c;rw[ac6 (.inl y)]at f;simp(disch:=omega) only[go_sem,simprocAttr,rf,j,kx,ku,c,F];refine⟨rfl,?_⟩;rw[oh];refine vN 4 (v0:=.int .i64 0) (by rw[bM j];rfl) ?_;simp(disch:=omega) only[F1,go_sem,simprocAttr,df];rw[f];exact⟨_,rfl,BN,z,λh=>by cases h⟩
 |true=>
  rw[y]at c;have K:to=0\/ (¬(to:Int)=0/\t.aq to=true)\/ (¬(to:Int)=0/\t.aq to=false):=by
   by_cases n:to=0
   ·exact .inl n
   ·cases W:t.aq to
    ·exact .inr (.inr ⟨by omega,rfl⟩)
    ·exact .inr (.inl ⟨by omega,rfl⟩)
  by_cases J:to≠0/\t.aq to=false
  ·rw[ac6 (.inr J)]at f;rw[J.2]at d;have n: ¬(to:Int)=0:=by omega
   simp(disch:=omega) only[go_sem,simprocAttr,rf,j,kx,ku,c,n,d,F];refine⟨rfl,?_⟩;rw[oh];refine vN 4 (v0:=.int .i64 0) (by rw[bM j];rfl) ?_;simp(disch:=omega) only[F1,go_sem,simprocAttr,df];rw[f];exact⟨_,rfl,BN,z,λh=>by cases h⟩
  ·rw[ac0 (by rw[y];simpa using J)]at f;have p: ∀H lo,D X (.fn (.func 310) [] []) [.bool true,.int .i64 4] ⟨H,lo⟩=_:=B4 4;have o:to=0\/ (¬(to:Int)=0/\t.aq to=true):=by
    rcases K with h|h|h
    ·exact .inl h
    ·exact .inr h
    ·exact absurd ⟨by omega,h.2⟩ J
   by_cases P:8<=a
   ·rw[ac6 P]at f;have g:=ahE t A r E y a P;rcases o with rfl| ⟨n,M⟩
    ·simp(disch:=omega) only[go_sem,simprocAttr,rf,j,kx,ku,c,p,g];refine⟨rfl,?_⟩;rw[oh];refine vN 2 (v0:=.int .i64 0) (by rw[bM j];rfl) ?_;simp(disch:=omega) only[F1,go_sem,simprocAttr,df];rw[f];exact⟨_,rfl,BN,z,λh=>by cases h⟩
    ·rw[M]at d;simp(disch:=omega) only[go_sem,simprocAttr,rf,j,kx,ku,c,n,d,p,g];refine⟨rfl,?_⟩;rw[oh];refine vN 2 (v0:=.int .i64 0) (by rw[bM j];rfl) ?_;simp(disch:=omega) only[F1,go_sem,simprocAttr,df];rw[f];exact⟨_,rfl,BN,z,λh=>by cases h⟩
   ·rw[ac0 P]at f;have G:a<8:=by omega
    have l: (a:Int)<8:=by omega
    have g:=ahD t A r E y a G;have Q: ∀H lo,D X (.fn (.func 310) [] []) [.bool true,.int .i64 5] ⟨H,lo⟩=_:=B4 5;have C:=A.get r;generalize S: (aE t r).1=x at*;have q:gM {x with cells:=ai x.cells a to}:=gM.setCells C λi=>by
     by_cases e:i=a
     ·rw[e,bI];exact s
     ·rw[bA e];exact C.cells i
    have k:=λH lo=>up dH (SM t A r E {x with cells:=ai x.cells a to} q.rb.1 (by have:=q.rb.2;show x.runs.length<=65;exact aga this (by omega)) (by have:=q.len;show x.len<4294967296;have:x.len<=2048:=this;omega) H lo)
    have u:=atr (r:=x) (v:=to) G;have w:4+a<=11:=by omega
    rcases o with rfl| ⟨n,M⟩
    ·rw[ac0 (by simp)]at f;have B:aN (b8 x) (4+a) [.int .u32 0]=b8 {x with cells:=ai x.cells a 0}:=u;simp(disch:=omega) only[go_sem,simprocAttr,rf,j,kx,ku,c,p,g,kQ,Q,l,B,w,k,sX,df];refine⟨rfl,?_⟩;rw[Dg];refine K4 ?_;simp(disch:=omega) only[F1,go_sem,simprocAttr];rw[f];exact⟨_,rfl,ji _,w4 _,λ_=>rfl⟩
    ·rw[M]at d;cases b with
     |true=>
      rw[ac0 (by simp)]at f;simp(disch:=omega) only[go_sem,simprocAttr,rf,j,kx,ku,c,n,d,p,g,kQ,Q,l,u,w,k,sX,df];refine⟨rfl,?_⟩;rw[Dg];refine K4 ?_;simp(disch:=omega) only[F1,go_sem,simprocAttr];rw[f];exact⟨_,rfl,ji _,w4 _,λ_=>rfl⟩
     |false=>
      cases ho:kJ t to r with
      |true=>
       rw[ho]at m f;rw[ac0 (by simp)]at f;simp(disch:=omega) only[go_sem,simprocAttr,rf,j,kx,ku,c,n,d,p,g,kQ,Q,m,l,u,w,k,sX,df];refine⟨rfl,?_⟩;rw[Dg];refine K4 ?_;simp(disch:=omega) only[F1,go_sem,simprocAttr];rw[f];exact⟨_,rfl,ji _,w4 _,λ_=>rfl⟩
      |false=>
       rw[ho]at m f;rw[ac6 ⟨by omega,rfl,rfl⟩]at f;simp(disch:=omega) only[go_sem,simprocAttr,rf,j,kx,ku,c,n,d,p,g,kQ,O,m];refine⟨rfl,?_⟩;rw[oh];refine vN 5 (v0:=.int .i64 0) (by rw[bM j];rfl) ?_;simp(disch:=omega) only[F1,go_sem,simprocAttr,df];rw[f];exact⟨_,rfl,BN,z,λh=>by cases h⟩
def Fv{X:Ctx}{e:Env}{E:AS}{R:aU->Prop}{b:Nat}{c:Bool}:dX X n lo [.t a,.cell b c k] R .ret ⟨e,[]⟩ E=okV (cp X E c k (e b)) (λu E=>og n lo R (.aA [e a,u]) E) E:=by
 simp only[yn,yp,gg,kr,oQ];cases h:cp X E c k (e b)with
 |none=>simp[okV,h]
 |some v=>simp[okV,og,h]
def att(t:ar)(s:bS t)(r a:Nat)(v:r<4294967296)(F:a<4294967296)(H:List ae)(lo:oN):
  B3 [.agg (aM t),.int .u32 r,.int .i64 a] ⟨H,lo⟩=some (.ret (.aA [.int .u32 (sQ t r a).1,.int .i64 (sQ t r a).2]) ⟨H,lo⟩):=by
 suffices G: ∃E,B3 [.agg (aM t),.int .u32 r,.int .i64 a] ⟨H,lo⟩=some E/\E=aU.ret (.aA [.int .u32 (sQ t r a).1,.int .i64 (sQ t r a).2]) ⟨H,lo⟩ by grind
 refine Od wU rfl rfl λN g=>?_
 have c:sQ t r a=if t.aq r=false then(0,4)else if 8<=a then(0,2)else if(aE t r).1.cells a=0 then(0,10)else if t.aq ((aE t r).1.cells a)=false then(0,4)else((aE t r).1.cells a,0):=rfl
 cases q:t.aq r with
 |false=>
  rw[ac6 q]at c;have b:=atq t s r v q a;simp only[go_sem,simprocAttr,wU,g,kx,ku,b];refine⟨rfl,?_⟩;rw[oh];refine vN 4 (v0:=.int .i64 0) (by rw[bM g];rfl) ?_;simp(disch:=omega) only[F1,go_sem,simprocAttr,c,Fv]
 |true=>
  rw[ac0 (by rw[q];simp)]at c;by_cases z:8<=a
  ·rw[ac6 z]at c;have b:=ahE t s r v q a z;simp only[go_sem,simprocAttr,wU,g,kx,ku,b];refine⟨rfl,?_⟩;rw[oh];refine vN 2 (v0:=.int .i64 0) (by rw[bM g];rfl) ?_;simp(disch:=omega) only[F1,go_sem,simprocAttr,c,Fv]
  ·rw[ac0 z]at c;have l:a<8:=by omega
   have B: (a:Int)<8:=by omega
   have b:=ahD t s r v q a l;have u:=s.get r;generalize(aE t r).1=x at*;have hw:=u.cells a;have d:qu false 8 1 (.agg (arr 8 λi=>[AV.int .u32 (x.cells i)])) (.int .i64 a)=some (.int .u32 (x.cells a)):=
    RF l (by have:=lq (ag:=false) (m:=1) (n:=8) (k:=1) (i:=a) (o:=0) (f:=λi=>[AV.int .u32 (x.cells i)]) (λ_=>rfl) l (by omega) (by omega);rw[aeS]at this;rw[this];rfl)
   have p: ∀H lo,D X (.fn (.func 310) [] []) [.bool false,.int .i64 10] ⟨H,lo⟩=_:=B5 10;have y: ∀H lo,D X (.fn (.func 310) [] []) [.bool false,.int .i64 4] ⟨H,lo⟩=_:=B5 4;have e:=λH lo=>up dH (eC t.b (x.cells a) hw H lo)
   have w: ∀h,aq t.b h=t.aq h:=λh=>rfl
   simp only[w]at e;by_cases A:x.cells a=0
   ·rw[ac6 A]at c;have j:decide ((x.cells a:Int)=0)=true:=by simp[A]
    simp only[go_sem,simprocAttr,wU,g,kx,ku,b,↓Kn,d,j,p];refine⟨rfl,?_⟩;rw[oh];refine vN 10 (v0:=.int .i64 0) (by rw[bM g];rfl) ?_;simp(disch:=omega) only[F1,go_sem,simprocAttr,c,Fv]
   ·rw[ac0 A]at c;have j:decide ((x.cells a:Int)=0)=false:=by simp;omega
    cases C:t.aq (x.cells a)with
    |false=>
     rw[C]at e c;rw[ac6 rfl]at c;simp only[go_sem,simprocAttr,wU,g,kx,ku,b,↓Kn,d,j,e,B4,y];refine⟨rfl,?_⟩;rw[oh];refine vN 4 (v0:=.int .i64 0) (by rw[bM g];rfl) ?_;simp(disch:=omega) only[F1,go_sem,simprocAttr,c,Fv]
    |true=>
     rw[C]at e c;rw[ac0 (by simp)]at c;simp only[go_sem,simprocAttr,wU,g,kx,ku,b,↓Kn,d,j,e,B4];refine⟨rfl,?_⟩;rw[Dg];refine K4 ?_;simp(disch:=omega) only[F1,go_sem,simprocAttr,c,Fv]
theorem atu{args:lA}{E:AS}{E':AS}(h:B2 args E=some (.ret v E')):D XA (.fn (.func 307) [] []) args E=some (.ret v E'):=Df rfl h
def S7(t:ar)(r a to:Nat)(b:Bool):lv t r a to b=if s5 t r a to b=0 then((ed t r {(aE t r).1 with cells:=ai (aE t r).1.cells a to}).1,0)else(t,s5 t r a to b):=by
 unfold lv s5
 grind
def atv(t:ar)(l:bS t)(p:cu t)(r a to:Nat)(b:Bool)(m:r<4294967296)(e:to<4294967296)(i:a<4294967296)(H:List ae)(lo:oN):
  D XA (.fn (.func 274) [] []) [.agg (aM t),.int .u32 r,.int .i64 a,.int .u32 to,.bool b] ⟨H,lo⟩=some (.ret (.aA [.agg (aM (lv t r a to b).1),.int .i64 (lv t r a to b).2]) ⟨H,lo⟩):=by
 refine aK J0 λN k=>?_
 obtain⟨cs,q,n,f,o⟩:=ats t l p r a to b m e i (H++[.box (aM t) none,.box k9 none]) none;have g:=atu q;have d:=S7 t r a to b;by_cases c:s5 t r a to b=0
 ·rw[ac6 c]at d;have h:=o c;subst h;rw[c]at g;simp only[F1,go_sem,simprocAttr,J0,k,g,df,d]
 ·rw[ac0 c]at d;have j:decide ((s5 t r a to b:Int)=0)=false:=by simp;omega
  simp only[F1,go_sem,simprocAttr,J0,k,g,j,n,f,df,d]
def ahF{t':ar}(a:cu t)(h: ∀x,bD t' x=bD t x\/bD t' x=0):cu t':=by
 have key: ∀n x,(eO t' n x).length<=(aR t x).length:=by
  intro n
  induction n with
  |zero=>simp[eO]
  |succ n b=>
   intro x;simp only[eO];by_cases hu:bD t' x=0
   ·grind
   ·rw[ac0 hu];have e:bD t' x=bD t x:=(h x).resolve_right hu;rw[e]at hu⊢;rw[pL a,ac0 hu,aeV,aeV]
    grind
 intro x;have:=key 32 x;have:=a x;unfold aR at*;omega
theorem ahG(t:ar): ∀n x,(eO t n x).length<=(eO t (n+1) x).length
 |0,_=>by simp[eO]
 |n+1,x=>by
  rw[eO,eO];by_cases hu:bD t x=0
  ·grind
  ·rw[ac0 hu,ac0 hu,aeV,aeV];exact Nat.succ_le_succ (ahG t n _)
def mW(b:cN)(h:Nat):Prop:= ∀i,eX h=some i->h/256< (b i).gen\/ (h/256=(b i).gen/\ni b i=false)
def B6(b:cN):mW b 0:=λi e=>by trivial
def S8{b:cN}{h:Nat}(a:aq b h=true):mW b h:=by
 intro i e;unfold aq at a;rw[e]at a;have:=api a
 right;rw[this];exact⟨rfl,by unfold ni;grind⟩
def K5{b:cN}{h:Nat}(ho:mW b h):mW (ai b i {b i with da:=true}) h:=by
 intro j e;by_cases q:j=i
 ·subst q;rcases ho j e with a| ⟨a,c⟩
  ·left;rw[bI];exact a
  ·unfold ni;rw[bI];grind
 ·unfold ni at*;rw[bA q];exact ho j e
def ahH{b:cN}{h y:Nat}(ho:mW b h):mW (dC b y).1 h:=by
 unfold dC;split
 ·show mW (ai b (aI y) _) h;intro j e;by_cases q:j=aI y
  ·subst q;unfold ni;rw[bI];unfold nm;have a:=ho _ e
   grind
  ·unfold ni at*;rw[bA q];exact ho j e
 omega
def K6{b:cN}{h:Nat}(a:nj b=some i)(d:iB b):aq (ai b i {b i with da:=true}) h=true↔aq b h=true\/h=dh i (b i).gen:=by
 obtain⟨i1,i2,i3,_⟩:=pK a;have c:aq (ai b i {b i with da:=true}) (dh i (b i).gen)=true:=by grind [RY,RZ,bI]
 constructor
 ·grind [lu,bI,RX,bA]
 ·grind [lu,bA]
theorem K7{b:cN}{y h:Nat}(c:aq (dC b y).1 h=true):aq b h=true:=by
 unfold dC at c;split at c
 ·obtain⟨j,e,a⟩:=lu.1 c;have a:ai b (aI y) (nm (b (aI y))) j=_:=a;by_cases q:j=aI y
  ·subst q;rw[bI]at a;unfold nm at a
   grind
  ·grind [bA,lu]
 omega
def B7{b:cN}(a:nj b=some i)(c:iB b):aq b (dh i (b i).gen)=false:=by grind [RY,pK]
def S9{b:cN}(c:nj b=some i)(d:iB b): ¬mW b (dh i (b i).gen):=by
 obtain⟨i1,i2,i3,_⟩:=pK c;intro h;have f:aq (ai b i {b i with da:=true}) (dh i (b i).gen)=true:=(K6 c d).2 (.inr rfl);obtain⟨j,e,a⟩:=lu.1 f;have q:j=i:=af8 λq=>by
  rw[bA q]at a;have:=B7 c d;rw[lu.2 ⟨j,e,a⟩]at this;grind
 subst q;rw[bI]at a;injection a with l
 rcases h j e with k| ⟨_,g⟩
 ·omega
 ·unfold ni at g;grind
def atw(t:ar):Prop:= ∀i,mW t.b (t.r i).up
structure ek(t:ar):Prop where
 ok:bS t
 tr:cu t
 up:atw t
def ek.same{t':ar}(h:ek t)(a:iT t t')(b:bS t'):ek t':=⟨b,a.tree h.tr,λi=>by rw[a.1,a.2];exact h.up i⟩
theorem ek.set(h:ek t){r:cQ}(b:gM r):ek (ed t a r).1:=h.same (.set t a r) (h.ok.set b)
theorem ek.drop(h:ek t)(y:Nat):ek (fj t y).1:=by
 refine⟨h.ok.drop y,ahF h.tr λx=>?_,λi=>?_⟩
 ·unfold fj;split
  ·have a: ∀x,aq (dC t.b y).1 x=true->t.aq x=true:=λx=>K7
   unfold bD;by_cases q:ar.aq {b:=(dC t.b y).1,r:=ai t.r (aI y) cY} x=true
   ·rw[ac6 q,ac6 (a x q)];unfold iO;by_cases e:aI x=aI y
    ·right
     show(if _ then(ai t.r (aI y) cY (aI x)).up else 0)=0;rw[e,bI];split<;>rfl
    ·show(if ar.aq _ (ai t.r (aI y) cY (aI x)).up=true then(ai t.r (aI y) cY (aI x)).up else 0)=_\/ (if ar.aq _ (ai t.r (aI y) cY (aI x)).up=true then(ai t.r (aI y) cY (aI x)).up else 0)=0;rw[bA e];by_cases c:ar.aq {b:=(dC t.b y).1,r:=ai t.r (aI y) cY} (t.r (aI x)).up=true
     ·rw[ac6 c,ac6 (a _ c)];omega
     grind
   grind
  grind
 ·unfold fj;split
  ·show mW (dC t.b y).1 (ai t.r (aI y) cY i).up;by_cases e:i=aI y
   ·rw[e,bI];exact B6 _
   ·rw[bA e];exact ahH (h.up i)
  ·exact h.up i
theorem ek.fY{t:ar}(h:ek t): ∀l,ek (fY t l)
 | []=>h
 |x::xs=>ek.fY (h.drop x) xs
def ek.atx(h:ek t)(a:Nat):ek (ik t a).1:=by
 unfold ik;split
 ·exact h
 ·exact h.fY _
def ek.aty(h:ek t)(a:Nat):ek (jB t a 0).1:=by
 refine⟨h.ok.raise (by omega),ahF h.tr λx=>?_,λi=>?_⟩
 ·unfold jB;split
  ·simp
  ·split
   ·simp
   ·unfold bD;have b: ∀r z,ar.aq {t with r:=r} z=t.aq z:=λ_ _=>rfl
    simp only[b];split
    ·unfold iO;simp only[b];by_cases e:aI x=aI a
     ·rw[e,bI];grind
     ·rw[bA e];omega
    omega
 ·unfold jB;split
  ·exact h.up i
  ·split
   ·omega
   ·show mW t.b (ai t.r (aI a) {t.r (aI a)with up:=0} i).up;by_cases e:i=aI a
    ·rw[e,bI];exact B6 _
    ·rw[bA e];exact h.up i
def ek.cut(h:ek t)(a:Nat):ek (iA t a).1:=by
 rw[KU];split
 ·exact h
 ·exact(h.same (KT t a _ t) (SP h.ok a _)).aty a
def ek.new(h:ek t)(up n:Nat)(I:up<4294967296):ek (eZ t up n).1:=by
 unfold eZ;dsimp only;split
 ·exact h
 ·rename_i g;unfold kf at g⊢;split
  ·exact h
  ·rename_i M;rw[ac0 M]at g;split
   ·exact h
   ·rename_i L;rw[ac0 L]at g;split
    ·rename_i i f;rw[f]at g;have g: ¬6<=depth t up:=λq=>g ⟨.inl rfl,q⟩
     obtain⟨i1,i2,i3,_⟩:=pK f;have p:=h.ok.b;have d:up=0\/t.aq up=true:=by grind
     have a: ∀z,ar.aq {b:=ai t.b i {t.b i with da:=true},r:=ai t.r i {cY with up:=up,cF:=n}} z=true↔t.aq z=true\/z=dh i (t.b i).gen:=λz=>K6 f p
     have C: ∀z,t.aq z=true->aI z≠i:=by
      intro z o q;obtain⟨_,s,_⟩:=sO o;rw[q]at s;rw[s]at i2;cases i2
     generalize l: ({b:=ai t.b i {t.b i with da:=true},r:=ai t.r i {cY with up:=up,cF:=n}}:ar)=t' at*;have m: ∀j,(t'.r j).up=if j=i then up else(t.r j).up:=by
      intro j;rw[<-l];show(ai t.r i _ j).up=_;by_cases e:j=i
      ·rw[e,bI,ac6 rfl]
      ·rw[bA e,ac0 e]
     have v:t'.b=ai t.b i {t.b i with da:=true}:=by rw[<-l]
     have B:aI (dh i (t.b i).gen)=i:=by
      have:t'.aq (dh i (t.b i).gen)=true:=(a _).2 (.inr rfl);have u:=this;unfold ar.aq at u;obtain⟨j,e,F⟩:=lu.1 u;rw[BI e];refine af8 λq=>?_
      rw[v,bA q]at F;have:=B7 f p;rw[lu.2 ⟨j,e,F⟩]at this;cases this
     have hold: ∀z,mW t.b z->(t'.aq z=true↔t.aq z=true):=λz o=>⟨λq=>by
      rcases(a z).1 q with q|q
      ·exact q
      ·rw[q]at o;exact absurd o (S9 f p),λq=>(a z).2 (.inl q)⟩
     have A: ∀x,x≠dh i (t.b i).gen->bD t' x=bD t x:=by
      intro x A;have e1: (t'.aq x=true)=(t.aq x=true):=propext ⟨λq=>((a x).1 q).resolve_right A,λq=>(a x).2 (.inl q)⟩;unfold bD;simp only[e1];split
      ·rename_i E;unfold iO;rw[m,ac0 (C x E)];simp only[propext (hold _ (h.up (aI x)))]
      ·rfl
     have J:bD t' (dh i (t.b i).gen)=up:=by
      unfold bD;rw[ac6 ((a _).2 (.inr rfl))];unfold iO;rw[m,ac6 B];rcases d with q|q
      ·rw[q];split<;>rfl
      ·rw[ac6 ((a _).2 (.inl q))]
     have D: ∀x,bD t x≠dh i (t.b i).gen:=by
      intro x q;have o:bD t x≠0:=by rw[q];unfold dh;omega
      have:=(E8 o).1;rw[q]at this;have c:=B7 f p;unfold ar.aq at this;rw[this]at c;cases c
     have w: ∀k x,x≠dh i (t.b i).gen->eO t' k x=eO t k x:=by
      intro k
      induction k with
      |zero=>intro x _;rfl
      |succ k H=>
       intro x y;simp only[eO,A x y];rw[H _ (D x)]
     refine⟨?_,?_,?_⟩
     ·rw[<-l];refine⟨RZ p f,λj=>?_⟩;show gM (ai t.r i _ j);by_cases e:j=i
      ·rw[e,bI];exact⟨I,by show n<=64;omega,BV.len,BV.cells,BV.runs,BV.aS⟩
      ·rw[bA e];exact h.ok.r j
     ·intro x;by_cases e:x=dh i (t.b i).gen
      ·rw[e];unfold aR;rw[show(32:Nat)=31+1 from rfl,eO,J];by_cases q:up=0
       ·rw[ac6 q];simp
       ·rw[ac0 q,w 31 up (λG=>by
          have:=d.resolve_left q;rw[G]at this;have c:=B7 f p;unfold ar.aq at this;rw[this]at c;cases c)]
        have E:=d.resolve_left q;unfold depth at g;rw[ac6 E]at g;have K:=h.tr up;have:eO t 31 up=aR t up:=(R0 31 up (by
         have: (eO t 31 up).length<=(eO t 32 up).length:=ahG t 31 up;unfold aR at K;omega) 32 (by omega)).symm
        rw[this,aeV];omega
      ·unfold aR;rw[w 32 x e];exact h.tr x
     ·intro j;rw[m,v];by_cases e:j=i
      ·rw[ac6 e];rcases d with q|q
       ·rw[q];exact B6 _
       ·exact K5 (S8 q)
      ·rw[ac0 e];exact K5 (h.up j)
    omega
theorem xz(b:cu t){x:Nat}(a:bD t x≠0):aR t x=bD t x::aR t (bD t x):=by rw[pL b,ac0 a]
def Fw(c:cu t){h:Nat}: ∀ (n x:Nat),dep t x<=n->h∈aR t x->dep t h<dep t x:=by
 intro n
 induction n with
 |zero=>intro x b a;unfold dep at b;grind
 |succ n d=>
  intro x b a;by_cases hu:bD t x=0
  ·rw[pL c,ac6 hu]at a;cases a
  ·grind [BJ,xz]
def atz(d:cu t){h:Nat}: ∀ (n x:Nat),dep t x<=n->h∈aR t x-> ∃c,bD t c=h/\h≠0/\t.aq c=true/\ (c=x\/c∈aR t x):=by
 intro n
 induction n with
 |zero=>intro x b a;unfold dep at b;grind
 |succ n e=>
  intro x b a;by_cases hu:bD t x=0
  ·rw[pL d,ac6 hu]at a;cases a
  ·grind [BJ,xz,E8]
def Ta(a:cu t)(x:Nat):x∈de t x:=by rw[R6 a];grind
def ahI(i:iB t.b)(a:cu t){x:Nat}: ∀ (n h:Nat),dep t x-dep t h<=n->h∈aR t x->x∈de t h:=by
 intro n
 induction n with
 |zero=>intro h f b;have:=Fw a _ x (adA _) b;omega
 |succ n k=>
  intro h f b;obtain⟨c,l,c0,j,e⟩:=atz a _ x (adA _) b;have d:c∈kids t h:=by
   have g:t.aq h=true:=by grind [E8]
   unfold kids;rw[ac6 g];exact ae2.2 ⟨(iQ i).2 j,by grind⟩
  rw[R6 a];refine aeR _ (apm.2 ⟨c,d,?_⟩);rcases e with rfl|e
  ·exact Ta a c
  ·have:=BK a d
   grind
theorem ahJ{α:Type}{f:α->Nat}: ∀ (l:List α) (s:Nat),s<=l.foldl (λn x=>max n (f x)) s/\ ∀x∈l,f x<=l.foldl (λn x=>max n (f x)) s
 | [],s=>⟨adA _,by simp⟩
 |a::l,s=>by
  have h:=ahJ (f:=f) l (max s (f a))
  grind
theorem zE{b:cN}{x y:Nat}(c:aq b x=true)(a:aq b y=true)(e:aI x=aI y):x=y:=by
 obtain⟨_,h,g⟩:=sO c;obtain⟨_,f,d⟩:=sO a
 grind
def ek.atA(h:ek t)(a w:Nat)(I:w<4294967296):ek (mQ t a w).1:=by
 unfold mQ;split
 ·exact h
 ·rename_i M;split
  ·exact h
  ·rename_i F;split
   ·exact h
   ·rename_i L;have c:t.aq a=true:=by grind
    have g:t.aq w=true:=by grind
    have d:root t a=a:=af8 λq=>F (.inl q)
    have A: ¬kJ t a w=true:=λq=>F (.inr q)
    have s:a≠w/\a∉aR t w:=by
     unfold kJ at A
     grind
    have C:aR t a=[]:=by
     unfold root at d;rw[ac6 c]at d;cases e:aR t a with
     |nil=>rfl
     |cons b bs=>
      exfalso;have hm:a∈aR t a:=by
       have p:aR t a≠[]:=by rw[e];simp
       rw[List.getLastD_eq_getLast?,List.getLast?_eq_getLast p,aj3]at d;have:=List.getLast_mem p;rw[d]at this;exact this
      have:=Fw h.tr _ a (adA _) hm;omega
    unfold jB;split
    ·exact h
    ·split
     ·exact h
     ·have B: ∀z,ar.aq {t with r:=ai t.r (aI a) {t.r (aI a)with up:=w}} z=t.aq z:=λ_=>rfl
      have v:bD {t with r:=ai t.r (aI a) {t.r (aI a)with up:=w}} a=w:=by
       unfold bD iO;simp only[B];rw[ac6 c,bI,ac6 g]
      have u: ∀x,x≠a->bD {t with r:=ai t.r (aI a) {t.r (aI a)with up:=w}} x=bD t x:=by
       intro x H;unfold bD;simp only[B];split
       ·rename_i m;unfold iO;simp only[B];rw[bA λe=>H (zE m c e)]
       ·rfl
      generalize l: ({t with r:=ai t.r (aI a) {t.r (aI a)with up:=w}}:ar)=t' at*;have w0:w≠0:=Kt g;have key: ∀n x,(eO t' n x).length<=if x=a\/a∈aR t x then dep t x+1+dep t w else dep t x:=by
       intro n
       induction n with
       |zero=>intro x;simp[eO]
       |succ n D=>
        intro x;rw[eO];by_cases e:x=a
        ·rw[ac6 (show x=a\/a∈aR t x from .inl e),e,v,ac0 w0,aeV];have:=D w;rw[ac0 (by rintro(q|q);exact s.1 q.symm;exact s.2 q)]at this;omega
        ·rw[u x e];by_cases hu:bD t x=0
         ·rw[ac6 hu];simp
         ·rw[ac0 hu,aeV];have K:=BJ h.tr hu;have:=D (bD t x);have j: (x=a\/a∈aR t x)↔(bD t x=a\/a∈aR t (bD t x)):=by
           rw[xz h.tr hu,aeZ];constructor
           ·rintro(q|q|q)
            ·exact absurd q e
            ·exact .inl q.symm
            ·exact .inr q
           ·rintro(q|q)
            ·exact .inr (.inl q.symm)
            ·exact .inr (.inr q)
          by_cases q:x=a\/a∈aR t x
          ·rw[ac6 q];rw[ac6 (j.1 q)]at this;omega
          ·rw[ac0 q];rw[ac0 λG=>q (j.2 G)]at this;omega
      show ek t';refine⟨?_,λx=>?_,λi=>?_⟩
      ·rw[<-l];exact h.ok.ai ((h.ok.r _).KR I)
      ·have E:=key 32 x;unfold aR;split at E
       ·rename_i q;have o:x∈de t a:=by
         rcases q with q|q
         ·rw[q];exact Ta h.tr a
         ·exact ahI h.ok.b h.tr _ a (adA _) q
        have m:=zk h.ok.b c o;have k:=(ahJ (f:=λx=>depth t x-depth t a+1) (de t a) 0).2 x o;have y:sK t a=(de t a).foldl (λn x=>max n (depth t x-depth t a+1)) 0:=rfl;rw[<-y]at k;have d1:depth t x=1+dep t x:=by unfold depth;rw[ac6 m];rfl
        have d2:depth t a=1:=by unfold depth;rw[ac6 c,C];rfl
        have d3:depth t w=1+dep t w:=by unfold depth;rw[ac6 g];rfl
        have k:depth t x-depth t a+1<=sK t a:=k;omega
       ·have:=h.tr x;unfold dep at E;omega
      ·have e1:t'.b=t.b:=by rw[<-l]
       have J: (t'.r i).up=(ai t.r (aI a) {t.r (aI a)with up:=w} i).up:=by rw[<-l]
       rw[e1,J];by_cases e:i=aI a
       ·rw[e,bI];exact S8 g
       ·rw[bA e];exact h.up i
structure ki(k:bp):Prop where
 ok:im k
 dW: ∀i,mW k.b (k.t i).aR
 ord: ∃L:lN,L.Nodup/\ (∀h∈L,aq k.b h=true)/\ (∀h,aq k.b h=true->h∈L)/\L.Pairwise (λa b=>(k.t (aI a)).aR≠b)/\ ∀h∈L,(k.t (aI h)).aR≠h
def ahK{k:bp}{h:Nat}(a:aq k.b h=true): (cq k h).1=k.t (aI h):=by unfold cq;grind
theorem Tb{k:bp}: ∀ {n m h:Nat},n<=m->xq k n h->xq k m h
 |0,_,_,_,h=>h.elim
 |n+1,0,_,a,_=>by omega
 |n+1,m+1,_,a,h=>λx b=>Tb (Nat.le_of_succ_le_succ a) (h x b)
theorem K8: ∀ (n:Nat) (l:lN),l.Nodup->(∀x∈l,x<n)->l.length<=n
 |0,[],_,_=>adA _
 |0,x::_,_,h=>by grind [List.mem_cons_self]
 |n+1,l,a,h=>by
  have c:=K8 n (l.erase n) (a.erase n) λx b=>by grind
  grind
def ki.th{k:bp}(h:ki k){x:Nat}(s:aq k.b x=true):xq k 16 x:=by
 obtain⟨L,w,o,e,i,l⟩:=h.ord;have j:L.length<=16:=by
  rw[<-aeK (f:=aI)];refine K8 16 _ ?_ λy r=>?_
  ·grind [List.Pairwise.imp_of_mem,zE]
  ·obtain⟨z,g,rfl⟩:=aeO.1 r;exact h.ok.slot (o z g)
 have key: ∀ (n:Nat) (P S:lN) (y:Nat),S.length<=n->L=P++y::S->xq k (S.length+1) y:=by
  intro n
  induction n with
  |zero=>
   intro P S y m d z g;have b:=ae2.1 g;have a:aq k.b z=true:=(iQ h.ok.b).1 b.1;have c: (k.t (aI z)).aR=y:=by have:=b.2;rw[ahK a]at this;simpa using this
   have t:S=[]:=ajx.1 (by omega);subst t;exfalso;have hm:=e z a;rw[d]at hm;rcases adB.1 hm with q|q
   ·rw[d]at i;exact(aoS.1 i).2.2 z q y (aeX ..) c
   ·rcases aeZ.1 q with q|q
    ·subst q;exact l z (e z a) c
    ·cases q
  |succ n p=>
   intro P S y m d z g;have b:=ae2.1 g;have a:aq k.b z=true:=(iQ h.ok.b).1 b.1;have c: (k.t (aI z)).aR=y:=by have:=b.2;rw[ahK a]at this;simpa using this
   have hm:=e z a;rw[d]at hm;rcases adB.1 hm with q|q
   ·exfalso;rw[d]at i;exact(aoS.1 i).2.2 z q y (aeX ..) c
   ·rcases aeZ.1 q with q|q
    ·exfalso;subst q;exact l z (e z a) c
    ·obtain⟨v,u,rfl⟩:=avT q;have:=p (P++y::v) u z (by simp at m;omega) (by rw[d];simp);exact Tb (by simp) this
 obtain⟨P,S,rfl⟩:=avT (e x s);refine Tb ?_ (key S.length P S x (adA _) rfl)
 grind
def ki.void{k:bp}(h:ki k)(y:Nat):ki {k with b:=(dC k.b y).1}:=by
 obtain⟨L,f,g,e,d,c⟩:=h.ord;refine⟨agW h.ok [y],λi=>ahH (h.dW i),L.filter λx=>aq (dC k.b y).1 x,f.filter _,λx a=>(ae2.1 a).2,λx a=>ae2.2 ⟨e x (K7 a),a⟩,d.filter _,λx a=>c x (ae2.1 a).1⟩
def ki.ahL{k:bp}(h:ki k)(l:lN):ki (nu k l):=by
 induction l generalizing k with
 |nil=>exact h
 |cons y l a=>exact a (h.void y)
def ki.clear{k:bp}(h:ki k)(r:Nat):ki (Kv k r):=h.ahL _
def ki.ret{k:bp}(h:ki k)(a:Nat):ki (jC k a).1:=by
 unfold jC;split
 ·exact h.ahL _
 omega
def ki.ahM{k:bp}(h:ki k){x:Tok}(F:sZ x):ki (lr k x).1:=by
 unfold lr;split
 ·exact h
 ·rename_i hm;have hm:pJ k x=0:=af8 λq=>hm q
  have g:x.aR=0\/aq k.b x.aR=true:=by
   unfold pJ at hm;split at hm
   ·omega
   ·have:nq k x.aR=true:=by grind
    unfold nq at this
    grind
  split
  ·rename_i i s;split
   ·rename_i r;obtain⟨i1,i2,i3,_⟩:=pK s;have t:=h.ok.b;have c:=B7 s t;have p:=S9 s t;have f:=λz=>K6 (h:=z) s t
    have A: ∀z,aq k.b z=true->aI z≠i:=by
     intro z d q;obtain⟨_,o,_⟩:=sO d;rw[q]at o;rw[o]at i2;cases i2
    have y:aI (dh i (k.b i).gen)=i:=by
     obtain⟨j,e,l⟩:=lu.1 ((f _).2 (.inr rfl));rw[BI e];refine af8 λq=>?_
     rw[bA q]at l;rw[lu.2 ⟨j,e,l⟩]at c;cases c
    have v:x.aR≠dh i (k.b i).gen:=by
     intro q;rcases g with e|e
     ·rw[e]at q;unfold dh at q;omega
     ·rw[q,c]at e;cases e
    obtain⟨L,E,u,D,C,B⟩:=h.ord;have w: ∀z∈L,ai k.t i x (aI z)=k.t (aI z):=λz d=>bA (A z (u z d))
    refine⟨⟨RZ t s,λj l=>?_,λj=>?_⟩,λj=>?_,L++[dh i (k.b i).gen],?_,λz d=>?_,λz d=>?_,?_,λz d=>?_⟩
    ·by_cases e:j=i
     ·rw[e];exact r
     ·have l: (ai k.b i {k.b i with da:=true} j).da=true:=l;rw[bA e]at l;exact h.ok.lt j l
    ·show sZ (ai k.t i x j);by_cases e:j=i
     ·rw[e,bI];exact F
     ·rw[bA e];exact h.ok.t j
    ·show mW _ (ai k.t i x j).aR;by_cases e:j=i
     ·rw[e,bI];rcases g with q|q
      ·rw[q];exact B6 _
      ·exact K5 (S8 q)
     ·rw[bA e];exact K5 (h.dW j)
    ·refine List.nodup_append.2 ⟨E,by simp,λa n b m=>?_⟩;rw[aeH.1 m];intro q;rw[q]at n;rw[u _ n]at c;cases c
    ·rcases adB.1 d with q|q
     ·exact(f z).2 (.inl (u z q))
     ·exact(f z).2 (.inr (aeH.1 q))
    ·rcases(f z).1 d with q|q
     ·exact adB.2 (.inl (D z q))
     ·exact adB.2 (.inr (aeH.2 q))
    ·refine aoS.2 ⟨?_,by simp,λa n b m=>?_⟩
     ·exact auh (λn _ g=>by show(ai k.t i x (aI _)).aR≠_;rw[w _ n];exact g) C
     ·rw[aeH.1 m];show(ai k.t i x (aI a)).aR≠_;rw[w a n];intro q;have:=h.dW (aI a);rw[q]at this;exact p this
    ·rcases adB.1 d with q|q
     ·show(ai k.t i x (aI z)).aR≠_;rw[w z q];exact B z q
     ·rw[aeH.1 q];show(ai k.t i x (aI _)).aR≠_;rw[y,bI];exact v
   omega
  omega
structure aV(s:aZ):Prop where
 dY:ek s.T
 O:gr s.O
 tok:ki s.K
 bx: ∀i,hZ (s.bw i)
def aV.T{s:aZ}(h:aV s):bS s.T:=h.dY.ok
def aV.tr{s:aZ}(h:aV s):cu s.T:=h.dY.tr
def aV.K{s:aZ}(h:aV s):im s.K:=h.tok.ok
theorem aV.th{s:aZ}(h:aV s): ∀a,aq s.K.b a=true->xq s.K 16 a:=λ_ b=>h.tok.th b
def aV.s6{s:aZ}(h:aV s)(a:ek t):aV {s with T:=t}:=⟨a,h.O,h.tok,h.bx⟩
def aV.qd{s:aZ}(h:aV s){o:bP}(ho:gr o):aV {s with O:=o}:=⟨h.dY,ho,h.tok,h.bx⟩
def aV.xA{s:aZ}(h:aV s){k:bp}(a:ki k):aV {s with K:=k}:=⟨h.dY,h.O,a,h.bx⟩
def aV.vO{s:aZ}(h:aV s){i:Nat}(a:hZ b):aV {s with bw:=ai s.bw i b}:=⟨h.dY,h.O,h.tok,λj=>by
 show hZ (ai s.bw i b j);by_cases e:j=i
 ·rw[e,bI];exact a
 ·rw[bA e];exact h.bx j⟩
def aV.Fx{s:aZ}(h:aV s){a b:Nat->Bool}:aV {s with alive:=a,born:=b}:=⟨h.dY,h.O,h.tok,h.bx⟩
def gr.gL{o:bP}(ho:gr o)(a:r<4294967296):gr (ow o t r aa).1:=ho.KW a ⟨by simp,anr _ (by omega),by simp⟩
def gr.rH{o:bP}(ho:gr o)(a:r<4294967296):gr (vt o t r).1:=ho.KW a ⟨by simp,by simp,by simp⟩
def gr.freeze{o:bP}(ho:gr o)(a:r<4294967296):gr (zj o t r aa).1:=ho.KW a ⟨by simp,by simp,zy aa⟩
def gr.held{o:bP}(ho:gr o){b:Bool}(c:r<4294967296):gr (db o t r aa b).1:=by
 unfold db;dsimp only;split
 ·omega
 ·split
  ·omega
  ·split
   ·omega
   ·split
    ·omega
    ·split
     ·omega
     ·have a:=ho.of t r;exact ho.KW c ⟨a.kind,a.aa,aBh (n:=8) a.hold (zy aa)⟩
section
def lx{args:lA}{E:AS}{r:aU}(h:D X0 v args E=some r):D XA v args E=some r:=vG C9 (up dH h)
def ly{args:lA}{E:AS}{r:aU}(h:D X v args E=some r):D XA v args E=some r:=vG C9 h
structure gB(c:ck):Prop where
 op:c.op<256
 r:c.r<4294967296
 s:c.s<4294967296
 a:c.a<4294967296
 b:c.b<4294967296
 v:c.v<18446744073709551616
def eu{α:Type}(f:α->AV×AS)(E:AS):R α->aU
 |.ok a=>.ret (f a).1 (f a).2
 |.error e=>.panic (jF e) E
abbrev un(E:AS):Unit->AV×AS:=λ_=>(.aA [],E)
def lJ(b:Bool)(e:Nat)(H:List ae)(lo:oN):D XA (.fn (.func 116) [] []) [.bool b,.int .i64 e] ⟨H,lo⟩=some (eu (un ⟨H,lo⟩) ⟨H,lo⟩ (ask b e)):=by
 cases b
 ·exact lx (zA e H lo)
 ·exact lx (Fu e H lo)
def iF(e:Nat)(H:List ae)(lo:oN):D XA (.fn (.func 248) [] []) [.int .i64 e] ⟨H,lo⟩=some (eu (un ⟨H,lo⟩) ⟨H,lo⟩ (ca e)):=by
 by_cases h:e=0
 ·subst h;exact lx (ate H lo)
 ·unfold ca;rw[ac0 h];exact lx (atf e h H lo)
def jG{a:List FP}{f:ao}{b:List ao}{d:oN}{e:Env}{c:lN}{Q:bY}{E:AS}:kF a (.call f b) d [] [] e c Q v E=Q (.panic v) ⟨e,c⟩ E:=by
 have h:Cv a (⟨none,d,.call f b⟩,[]) []=true:=by rfl
 simp only[kF,h,aA4]
def take_set{H L:List ae}{N:Nat}{o:ae}(a:H.length=N):List.take N (H.set p o++L)=H.set p o:=by grind
def aBF{H:List ae}{N:Nat}{o:ae}(a:H.length=N):List.take N (H.set p o)=H.set p o:=adz (by grind)
def atB:aM t++List.drop 480 (aY x bk)=aY (x.t t) bk:=by
 rw[<-S5];simp[aN,ji]
structure Old(p:Nat)(H:List ae)(v:ae):Prop where
 at':H[p]?=some v
namespace Old
variable{p:Nat}{H:List ae}{v:ae}(h:Old p H v)
include h
theorem lt:p<H.length:=(ack.1 h.at').1
theorem g(B:List ae): (H++B)[p]?=some v:=bm h.at'
theorem s(B:List ae)(w:ae): (H++B).set p w=H.set p w++B:=asq _ _ h.lt
theorem g1(w:ae): (H.set p w)[p]?=some w:=by rw[aeI h.lt]
theorem g2(w:ae)(B:List ae): (H.set p w++B)[p]?=some w:=bm (h.g1 w)
theorem s2(w w':ae)(B:List ae): (H.set p w++B).set p w'=H.set p w'++B:=by
 rw[asq _ _ (by rw[aeU];exact h.lt),ake]
theorem same:H.set p v=H:=pY h.at'
theorem app(B:List ae):Old p (H++B) v:=⟨h.g B⟩
theorem set(w:ae):Old p (H.set p w) w:=⟨h.g1 w⟩
end Old
def atC{x:Nat}(a:k<8):k5 .shr (.int .u8 (x:Nat)) (.int .i64 (k:Nat))=some (.int .u8 ((x/2^k:Nat):Int)):=by
 rw[Db,ac6 (by omega)];have b:IntKind.u8.bits=8:=rfl
 grind
def atD{x:Nat}(c:x<256):dE .and (.int .u8 ((x/2^k:Nat):Int)) (.int .u8 1)=some (.int .u8 ((x/2^k % 2:Nat):Int)):=by
 have a:x/2^k<256:=Nat.lt_of_le_of_lt (Nat.div_le_self _ _) c;have:=KX (b:=1) a (by omega)
 grind
section
variable{x:az}{bk:AV}{p:Nat}{H:List ae}(ho:Old p H (.box (aY x bk) none))(lo:oN)
include ho
theorem K9(aa:Nat):D XA (.fn (.func 263) [] []) [.ptr p 0,.int .u32 aa] ⟨H,lo⟩=some (eu (un ⟨H,lo⟩) ⟨H,lo⟩ (mR x aa)):=by
 refine aK JW λN f=>?_
 have e:=ho.at';by_cases h:aa<8
 ·have c: (aa:Int)<8:=by omega
  have b:mR x aa=ask (x.s.alive aa) 2:=by unfold mR;simp[h]
  have a: ∀H lo,D XA (.fn (.func 116) [] []) [.bool (x.s.alive aa),.int .i64 2] ⟨H,lo⟩=_:=lJ _ 2;rw[b];cases d:x.s.alive aa<;>rw[d]at a<;>simp(disch:=omega) only[F1,go_sem,simprocAttr,JW,e,c,↓S4 h,d,a,ask,eu,EP]
 ·have c: ¬(aa:Int)<8:=by omega
  have b:mR x aa= .error 2:=by unfold mR ask;simp[h]
  have a: ∀H lo,D XA (.fn (.func 116) [] []) [.bool false,.int .i64 2] ⟨H,lo⟩=_:=lJ _ 2;rw[b];simp(disch:=omega) only[F1,go_sem,simprocAttr,JW,c,a,ask,eu,EP]
theorem Tc(b:aV x.s)(i:x.aa<8)(h:Nat)(e:h<4294967296)(a:Nat)(d:a<=2):
  D XA (.fn (.func 246) [] []) [.ptr p 0,.int .u32 h,.int .u8 a] ⟨H,lo⟩=some (eu (un ⟨H,lo⟩) ⟨H,lo⟩ (fU x h a)):=by
 refine aK QG λN g=>?_
 have hm:=λH lo=>ly (atb x.s.T b.T b.tr x.s.O b.O x.s.K b.K x.aa (by omega) h e a d H lo)
 have c:=iF (sP x.s.T x.s.O x.s.K x.aa h a);unfold fU;cases f:ca (sP x.s.T x.s.O x.s.K x.aa h a)<;>rw[f]at c<;>simp only[F1,go_sem,simprocAttr,QG,g,ho.at',↓CL,hm,c,eu,EP,jG]
theorem La(b:aV x.s)(h:Nat)(c:h<4294967296):
  D XA (.fn (.func 251) [] []) [.ptr p 0,.int .u32 h] ⟨H,lo⟩=some (eu (λ_=>(.agg (b8 (aE x.s.T h).1),⟨H,lo⟩)) ⟨H,lo⟩ (ca (aE x.s.T h).2)):=by
 refine aK QI λN e=>?_
 have hm:=λH lo=>lx (vF x.s.T b.T h c H lo)
 have a:=iF (aE x.s.T h).2;cases d:ca (aE x.s.T h).2<;>rw[d]at a<;>simp only[F1,go_sem,simprocAttr,QI,e,ho.g,↓CL,hm,nD,a,eu,EP]
theorem Td(a:aV x.s)(h:Nat)(d:h<4294967296):
  D XA (.fn (.func 260) [] []) [.ptr p 0,.int .u32 h] ⟨H,lo⟩=some (eu (λ_=>(.aA [],⟨H.set p (.box (aY (x.t (iA x.s.T h).1) bk) none),lo⟩)) ⟨H,lo⟩ (ca (iA x.s.T h).2)):=by
 refine aK QM λN c=>?_
 have hm:=λH lo=>ly (aso x.s.T a.T a.tr h d H lo)
 have b:=iF (iA x.s.T h).2;cases e:ca (iA x.s.T h).2<;>rw[e]at b<;>simp only[F1,go_sem,simprocAttr,QM,c,ho.at',ho.g,ho.s,↓CL,hm,KV,b,eu,EP,CS,df,take_set c]
theorem Lb(a:aV x.s)(h:Nat)(e:h<4294967296)(aa:Nat)(d:aa<256):
  D XA (.fn (.func 249) [] []) [.ptr p 0,.int .u32 h,.int .i64 aa] ⟨H,lo⟩=some (eu (λ_=>(.aA [],⟨H.set p (.box (aY (x.o (ow x.s.O x.s.T h aa).1) bk) none),lo⟩)) ⟨H,lo⟩ (ca (ow x.s.O x.s.T h aa).2)):=by
 refine aK QH λN c=>?_
 have hm:=λH lo=>lx (asx x.s.O x.s.T a.T a.tr h e aa d H lo)
 have b:=iF (ow x.s.O x.s.T h aa).2;cases f:ca (ow x.s.O x.s.T h aa).2<;>rw[f]at b<;>simp only[F1,go_sem,simprocAttr,QH,c,ho.g,ho.s,↓CL,hm,b,eu,EP,CS,hY,take_set c]
theorem Te(d:aV x.s)(h:Nat)(g:h<4294967296)(r:cQ)(e:RB r.runs)(f:r.runs.length<=65)(a:r.len<4294967296):
  D XA (.fn (.func 255) [] []) [.ptr p 0,.int .u32 h,.agg (b8 r)] ⟨H,lo⟩=some (eu (λ_=>(.aA [],⟨H.set p (.box (aY (x.t (ed x.s.T h r).1) bk) none),lo⟩)) ⟨H,lo⟩ (ca (ed x.s.T h r).2)):=by
 refine aK QK λN c=>?_
 have hm:=λH lo=>lx (SM x.s.T d.T h g r e f a H lo)
 have b:=iF (ed x.s.T h r).2;cases i:ca (ed x.s.T h r).2<;>rw[i]at b<;>simp only[F1,go_sem,simprocAttr,QK,c,ho.g,ho.s,↓CL,hm,sX,b,eu,EP,CS,df,take_set c]
theorem Fy(f:aV x.s)(u:x.aa<8)(h:Nat)(o:h<4294967296):
  D XA (.fn (.func 264) [] []) [.ptr p 0,.int .u32 h] ⟨H,lo⟩=some (eu (un ⟨H,lo⟩) ⟨H,lo⟩ (zn x h)):=by
 refine aK By λN s=>?_
 have a:=λH lo=>lx (eC x.s.T.b h o H lo)
 have q:aq x.s.T.b h=x.s.T.aq h:=rfl;rw[q]at a;have d:=λH lo=>lx (BW x.s.O f.O x.s.T f.T f.tr h o H lo)
 have c:=λH lo=>lx (zu x.s.T f.T f.tr h o H lo)
 have j:=f.O.of x.s.T h;have A:zn x h=ask (x.s.T.aq h) 4>>=λ_=>ask (decide (root x.s.T h=h)&&decide ((bH x.s.O x.s.T h).kind=3)) 12>>=λ_=>ask ((bH x.s.O x.s.T h).hold.testBit x.aa) 5:=rfl
 generalize bH x.s.O x.s.T h=w at*;have g: ∀H lo,D XA (.fn (.func 116) [] []) [.bool (x.s.T.aq h),.int .i64 4] ⟨H,lo⟩=_:=lJ _ 4;have e: ∀b H lo,D XA (.fn (.func 116) [] []) [.bool b,.int .i64 12] ⟨H,lo⟩=_:=λb=>lJ b 12
 have B: ∀b H lo,D XA (.fn (.func 116) [] []) [.bool b,.int .i64 5] ⟨H,lo⟩=_:=λb=>lJ b 5
 rw[A];cases y:x.s.T.aq h with
 |false=>
  rw[y]at a g;simp(disch:=omega) only[F1,go_sem,simprocAttr,By,ho.at',↓CL,a,g,ask,eu,EP,Except.bind,bind]
 |true=>
  rw[y]at a g;by_cases n:root x.s.T h=h
  ·have k:decide ((root x.s.T h:Int)=h)=true:=ady (by omega);by_cases t:w.kind=3
   ·have i:decide ((w.kind:Int)=3)=true:=ady (by omega);have m:k5 .shr (.int .u8 (w.hold:Nat)) (.int .i64 (x.aa:Nat))=some (.int .u8 ((w.hold/2^x.aa:Nat):Int)):=atC u;have hand:dE .and (.int .u8 ((w.hold/2^x.aa:Nat):Int)) (.int .u8 1)=some (.int .u8 ((w.hold/2^x.aa % 2:Nat):Int)):=atD j.hold;have r:=ag5 j.hold u;have l:decide (((w.hold/2^x.aa % 2:Nat):Int)=1)=w.hold.testBit x.aa:=by rw[<-r];exact ae0.2 (by omega)
    cases z:w.hold.testBit x.aa<;>rw[z]at l<;>
     simp only[F1,go_sem,simprocAttr,By,s,ho.at',ho.g,↓CL,kc,a,g,d,c,n,t,e,B,m,hand,l,ask,eu,EP,jG,Except.bind,bind]
   ·have i:decide ((w.kind:Int)=3)=false:=adb (by omega);simp only[F1,go_sem,simprocAttr,By,s,ho.at',ho.g,↓CL,kc,a,g,d,c,n,i,t,e,ask,eu,EP,Except.bind,bind]
  ·have k:decide ((root x.s.T h:Int)=h)=false:=adb (by omega);simp only[F1,go_sem,simprocAttr,By,s,ho.at',ho.g,↓CL,kc,a,g,d,c,k,n,e,ask,eu,agq,EP,Except.bind,bind]
end
def ahN(c:ck)(H:List ae)(lo:oN):D XA (.fn (.func 256) [] []) [.agg (bq c)] ⟨H,lo⟩=some (eu (un ⟨H,lo⟩) ⟨H,lo⟩ (ask (decide (1<=c.b)&&decide (c.b<=8)) 2)):=by
 refine aK EN λN e=>?_
 have g: ∀b H lo,D XA (.fn (.func 116) [] []) [.bool b,.int .i64 2] ⟨H,lo⟩=_:=λb=>lJ b 2
 by_cases f:1<=c.b
 ·have a:decide ((c.b:Int)>=1)=true:=ady (by omega);by_cases i:c.b<=8
  ·have d:decide ((c.b:Int)<=8)=true:=ady (by omega);simp only[F1,go_sem,simprocAttr,EN,e,bq,a,d,f,i,g,ask,eu]
  ·have d:decide ((c.b:Int)<=8)=false:=adb (by omega);simp only[F1,go_sem,simprocAttr,EN,e,bq,a,d,f,i,g,ask,eu,EP]
 ·have a:decide ((c.b:Int)>=1)=false:=adb (by omega);simp only[F1,go_sem,simprocAttr,EN,e,bq,a,f,g,ask,eu,agq,EP]
def atE(r:cQ)(g:r.len<4294967296)(c:ck)(d:gB c)(H:List ae)(lo:oN):
  D XA (.fn (.func 257) [] []) [.agg (b8 r),.agg (bq c)] ⟨H,lo⟩=some (eu (un ⟨H,lo⟩) ⟨H,lo⟩ (ask (decide (c.a+c.b<=r.len)) 9)):=by
 refine aK JU λN e=>?_
 have j:=d.a;have i:=d.b;have f: ∀b H lo,D XA (.fn (.func 116) [] []) [.bool b,.int .i64 9] ⟨H,lo⟩=_:=λb=>lJ b 9
 by_cases h:c.a+c.b<=r.len
 ·have a:decide ((c.a:Int)<=(r.len:Int)-c.b)=true:=ady (by omega);simp(disch:=omega) only[F1,go_sem,simprocAttr,JU,e,bq,a,h,f,ask,eu]
 ·have a:decide ((c.a:Int)<=(r.len:Int)-c.b)=false:=adb (by omega);simp(disch:=omega) only[F1,go_sem,simprocAttr,JU,e,bq,a,h,f,ask,eu,EP]
end
structure mX(x:az):Prop where
 s:aV x.s
 t:x.aa<8
 c:gB x.c
 run:x.run.1<4294967296/\x.run.2<4294967296
def bc(b:List aC)(bk:AV)(p:Nat)(H:List ae)(lo:oN):R (az×bE)->aU->Prop
 |.ok (y,r),a=>y.back=b/\a= .ret (.agg (bB r)) ⟨H.set p (.box (aY y bk) none),lo⟩
 |.error e,a=> ∃y,a= .panic (jF e) ⟨H.set p (.box (aY y bk) none),lo⟩
theorem okB{a:α}{f:α->R β}: (Except.ok a>>=f:R β)=f a:=rfl
theorem dj{f:α->R β}: (Except.error e>>=f:R β)= .error e:=rfl
def OL{H:List ae}{N:Nat}(a:H.length=N): (∀p w L,(H.set p w++L)[N]?=L[0]?)/\ (∀p w L k,(H.set p w++L)[N+k]?=L[k]?)/\ (∀p w L o,(H.set p w++L).set N o=H.set p w++L.set 0 o)/\ (∀p w L k o,(H.set p w++L).set (N+k) o=H.set p w++L.set k o)/\
  (∀p w L,List.take N (H.set p w++L)=H.set p w)/\ ∀p w,List.take N (H.set p w)=H.set p w:=by
 have h: ∀p w,(H.set p w).length=N:=λp w=>by grind
 grind
theorem iq{a:α}: (pure a:R α)= .ok a:=rfl
def en{K c:AV->AS->Prop}{f:α->AV×AS}{E:AS}{m:R α}:Ha K c (some (eu f E m))=((∀a,m= .ok a->K (f a).1 (f a).2)/\ ∀e,m= .error e->c (jF e) E):=by
 apply propext;cases m with
 |ok a=>
  refine⟨λh=>⟨λb e=>?_,λ_ e=>?_⟩,λh=>h.1 a rfl⟩
  ·cases e;exact h
  grind
 |error e=>
  refine⟨λh=>⟨λb q=>?_,λb q=>?_⟩,λh=>h.2 e rfl⟩
  ·cases q
  ·cases q;exact h
def eo{q:Unit->Prop}: (∀a,q a)=q ():=by grind
section
variable{x:az}{bk:AV}{p:Nat}{H:List ae}{lo:oN}(ho:Old p H (.box (aY x bk) none))(hx:mX x)
include ho
theorem bc.err:bc x.back bk p H lo (.error e) (.panic (jF e) ⟨H,lo⟩):=⟨x,by rw[ho.same]⟩
theorem bc.here{r:bE}(a:v= .agg (bB r)):bc x.back bk p H lo (.ok (x,r)) (.ret v ⟨H,lo⟩):=by
 refine⟨rfl,?_⟩;rw[ho.same,a]
omit ho in
theorem bc.set{r:bE}(a:v= .agg (bB r))(b:y.back=x.back):bc x.back bk p H lo (.ok (y,r)) (.ret v ⟨H.set p (.box (aY y bk) none),lo⟩):=by
 refine⟨b,?_⟩;rw[a]
omit ho in
theorem zF{h w:Nat}(a:fU x h w= .ok ()):ca (aE x.s.T h).2= .ok ():=by
 unfold fU sP at a;cases b:x.s.T.aq h with
 |true=>unfold aE;rw[ac6 b];rfl
 |false=>rw[ac6 b]at a;cases a
include hx
theorem M0(h:Nat)(a:h<4294967296)(B:List ae)(lo:oN):D XA (.fn (.func 246) [] []) [.ptr p 0,.int .u32 h,.int .u8 0] ⟨H++B,lo⟩=some (eu (un ⟨H++B,lo⟩) ⟨H++B,lo⟩ (fU x h 0)):=Tc (ho.app B) lo hx.s hx.t h a 0 (by omega)
theorem M1(h:Nat)(a:h<4294967296)(B:List ae)(lo:oN):D XA (.fn (.func 246) [] []) [.ptr p 0,.int .u32 h,.int .u8 1] ⟨H++B,lo⟩=some (eu (un ⟨H++B,lo⟩) ⟨H++B,lo⟩ (fU x h 1)):=Tc (ho.app B) lo hx.s hx.t h a 1 (by omega)
theorem M2(h:Nat)(a:h<4294967296)(B:List ae)(lo:oN):D XA (.fn (.func 246) [] []) [.ptr p 0,.int .u32 h,.int .u8 2] ⟨H++B,lo⟩=some (eu (un ⟨H++B,lo⟩) ⟨H++B,lo⟩ (fU x h 2)):=Tc (ho.app B) lo hx.s hx.t h a 2 (by omega)
omit ho in
theorem Bs(L:List ae)(lo:oN):D XA (.fn (.func 257) [] []) [.agg (b8 (aE x.s.T x.c.r).1),.agg (bq x.c)] ⟨L,lo⟩=some (eu (un ⟨L,lo⟩) ⟨L,lo⟩ (ask (decide (x.c.a+x.c.b<=(aE x.s.T x.c.r).1.len)) 9)):=
 atE (aE x.s.T x.c.r).1 (by have:=(hx.s.T.get x.c.r).len;omega) x.c hx.c L lo
end
section
variable{x:az}{bk:AV}{p:Nat}{H:List ae}{lo:oN}(ho:Old p H (.box (aY x bk) none))(hx:mX x)
include ho hx
theorem atF: ∃a,D XA (.fn (.func 227) [] []) [.ptr p 0] ⟨H,lo⟩=some a/\bc x.back bk p H lo (pO x 0) a:=by
 refine cI Qw λN b=>?_
 simp only[F1,go_sem,simprocAttr,Qw,b,ho.g,↓CL,λB=>ahN x.c (H++B),M0 ho hx x.c.r hx.c.r,λB lo=>La (ho.app B) lo hx.s x.c.r hx.c.r,λL=>Bs hx L,en,eo,EP,jG];have c:=zF (x:=x) (h:=x.c.r) (w:=0)
 (repeat' (first| (refine⟨?_,?_⟩)|intro _))<;>first
   | (simp only[pO,iq,okB,dj, *];first|exact bc.err ho|exact bc.here ho rfl)
   | (exfalso;simp_all)
theorem atG: ∃a,D XA (.fn (.func 228) [] []) [.ptr p 0] ⟨H,lo⟩=some a/\bc x.back bk p H lo (pO x 1) a:=by
 refine cI Qx λN b=>?_
 simp only[F1,go_sem,simprocAttr,Qx,b,ho.g,↓CL,λB=>ahN x.c (H++B),M1 ho hx x.c.r hx.c.r,λB lo=>La (ho.app B) lo hx.s x.c.r hx.c.r,λL=>Bs hx L,en,eo,EP,jG];have c:=zF (x:=x) (h:=x.c.r) (w:=1)
 (repeat' (first| (refine⟨?_,?_⟩)|intro _))<;>first
   | (simp only[pO,iq,okB,dj, *];first|exact bc.err ho|exact bc.here ho rfl)
   | (exfalso;simp_all)
end
theorem atH{args:lA}{E:AS}{E':AS}(h:B3 args E=some (.ret v E')):D XA (.fn (.func 275) [] []) args E=some (.ret v E'):=Df rfl h
def xB(h: ¬a<8):mR x a= .error 2:=by unfold mR ask;simp[h]
def ahO(h:a<4294967296):min a 8<4294967296:=by omega
section
variable{x:az}{bk:AV}{p:Nat}{H:List ae}{lo:oN}(ho:Old p H (.box (aY x bk) none))(hx:mX x)
include ho hx
theorem atI: ∃b,D XA (.fn (.func 242) [] []) [.ptr p 0] ⟨H,lo⟩=some b/\bc x.back bk p H lo (vC x) b:=by
 refine cI QF λN c=>?_
 have a:=λH lo=>atH (att x.s.T hx.s.T x.c.r (min x.c.a 8) hx.c.r (ahO hx.c.a) H lo)
 have em: ((min x.c.a 8:Nat):Int)=min (x.c.a:Int) 8:=by omega
 simp only[em]at a;simp(disch:=omega) only[F1,go_sem,simprocAttr,QF,c,ho.g,↓CL,M0 ho hx x.c.r hx.c.r,a,λH=>iF (sQ x.s.T x.c.r (min x.c.a 8)).2 H,en,eo,EP]
 (repeat' (first| (refine⟨?_,?_⟩)|intro _))<;>(simp only[vC,iq,okB,dj, *];first|exact bc.err ho|exact bc.here ho rfl)
theorem atJ: ∃b,D XA (.fn (.func 232) [] []) [.ptr p 0] ⟨H,lo⟩=some b/\bc x.back bk p H lo (w9 x) b:=by
 refine cI QB λN a=>?_
 have c:=λH lo=>ly (asj x.s.T hx.s.T hx.s.tr x.c.r x.c.s hx.c.r hx.c.s H lo)
 simp only[F1,go_sem,simprocAttr,QB,a,ho.g,ho.s,↓CL,CS,M2 ho hx x.c.r hx.c.r,M1 ho hx x.c.s hx.c.s,c,xn,λH=>iF (mQ x.s.T x.c.r x.c.s).2 H,en,eo,EP,df,OL a]
 (repeat' (first| (refine⟨?_,?_⟩)|intro _))<;>(simp only[w9,iq,okB,dj, *];first|exact bc.err ho|trivial)
theorem atK: ∃d,D XA (.fn (.func 234) [] []) [.ptr p 0] ⟨H,lo⟩=some d/\bc x.back bk p H lo (vz x) d:=by
 refine cI JN λN b=>?_
 have a:=λB lo=>K9 (ho.app B) lo x.c.a
 by_cases c:x.c.a<8
 ·have e:=λH lo=>lx (agM x.s.O hx.s.O x.s.T hx.s.T hx.s.tr x.c.r hx.c.r x.c.a (by omega) H lo)
  simp(disch:=omega) only[F1,go_sem,simprocAttr,JN,b,ho.g,ho.s,↓CL,CS,a,λB lo=>Fy (ho.app B) lo hx.s hx.t x.c.r hx.c.r,e,λH=>iF (db x.s.O x.s.T x.c.r x.c.a true).2.2 H,en,eo,EP,hY,OL b]
  (repeat' (first| (refine⟨?_,?_⟩)|intro _))<;>(simp only[vz,vy,iq,okB,dj, *];first|exact bc.err ho|exact bc.set rfl rfl)
 ·rw[xB c]at a;simp only[F1,go_sem,simprocAttr,JN,b,ho.g,↓CL,a,eu,EP];simp only[vz,dj,xB c];exact bc.err ho
theorem atL: ∃d,D XA (.fn (.func 240) [] []) [.ptr p 0] ⟨H,lo⟩=some d/\bc x.back bk p H lo (vB x) d:=by
 refine cI QE λN c=>?_
 have e:=λH lo=>lx (ath (x.s.bw x.aa) H lo)
 have i:=hx.t;have h: (x.aa:Int)<8:=by omega
 have g:784+x.aa*19<=945:=by omega
 have f:=λbk=> @K2 x bk x.aa hx.t
 have a:=λbk b=> @K3 x bk x.aa b hx.t
 simp only[F1,go_sem,simprocAttr,QE,c,ho.g,ho.s,↓CL,CS,e,h,↓f,a,g,MB,λH=>iF (pM (x.s.bw x.aa)).2 H,en,eo,EP,OL c]
 (repeat' (first| (refine⟨?_,?_⟩)|intro _))<;>(simp only[vB,iq,okB,dj, *];first|exact bc.err ho|trivial)
theorem atM: ∃f,D XA (.fn (.func 237) [] []) [.ptr p 0] ⟨H,lo⟩=some f/\bc x.back bk p H lo (vA x) f:=by
 refine cI QD λN e=>?_
 have d:=λH lo=>lx (BX x.s.K hx.s.K x.c.s hx.c.s H lo)
 have c:=hx.s.K.get x.c.s;generalize j:cq x.s.K x.c.s=g at*;have h:=c.to;have he: ((g.1.to:Int)=x.aa)=(g.1.to=x.aa):=propext (by omega);obtain⟨w,a⟩:=ag1 x.s.K hx.s.K x.c.s hx.c.s (hx.s.th x.c.s) (H++[.box [.int .i64 0,.int .u64 0,.int .u32 0] none,.box (gk g.1) none]) none;have a:=ly a;simp only[gk]at a d;have i: ∀b H lo,D XA (.fn (.func 116) [] []) [.bool b,.int .i64 5] ⟨H,lo⟩=_:=λb=>lJ b 5
 simp(disch:=omega) only[F1,go_sem,simprocAttr,QD,e,ho.g,ho.s,↓CL,CS,d,a,he,i,λH=>iF g.2 H,en,eo,EP,jG,OL e]
 (repeat' (first| (refine⟨?_,?_⟩)|intro _))<;>(simp only[vA,iq,okB,dj, *];first|exact bc.err ho|exact bc.set rfl rfl)
theorem atN: ∃g,D XA (.fn (.func 245) [] []) [.ptr p 0] ⟨H,lo⟩=some g/\bc x.back bk p H lo (pQ x) g:=by
 refine cI JR λN c=>?_
 have f: ∀b H lo,D XA (.fn (.func 116) [] []) [.bool b,.int .i64 2] ⟨H,lo⟩=_:=λb=>lJ b 2
 by_cases a:x.c.a<8
 ·have e: (x.c.a:Int)<8:=by omega
  have l: (x.c.a:Int).tmod 8=x.c.a:=Int.tmod_eq_of_lt (by omega) (by omega);have k: (decide (x.c.a<8)&& !x.s.born (x.c.a % 8))= !x.s.born x.c.a:=by rw[amX a];simp[a]
  have j:=λbk=> @atc x bk x.c.a a
  have s1:=λ (y:az) bk v=> @ahs y bk x.c.a v a
  have s2:=λ (y:az) bk v=> @atd y bk x.c.a v a
  have i:936+x.c.a<=963:=by omega
  have h:944+x.c.a<=963:=by omega
  simp only[F1,go_sem,simprocAttr,JR,c,ho.g,ho.s,ho.g2,ho.s2,↓CL,CS,e,l,i,h,↓j,f,s1,s2,en,eo,EP,jG,OL c];have d:pQ x=ask (!x.s.born x.c.a) 2>>=λ_=>.ok ({x with s:={x.s with alive:=ai x.s.alive x.c.a true,born:=ai x.s.born x.c.a true}},bu):=by unfold pQ;rw[k];rfl
  rw[d]
  (repeat' (first| (refine⟨?_,?_⟩)|intro _))<;>(simp only[okB,dj, *];first|exact bc.err ho|exact bc.set rfl rfl)
 ·have e: ¬(x.c.a:Int)<8:=by omega
  have f: ∀H lo,D XA (.fn (.func 116) [] []) [.bool false,.int .i64 2] ⟨H,lo⟩=_:=λH lo=>lx (zA 2 H lo)
  have d:pQ x= .error 2:=by unfold pQ;rw[adb a];rfl
  simp only[F1,go_sem,simprocAttr,JR,c,ho.g,↓CL,e,f,EP,jG];rw[d];exact bc.err ho
theorem atO: ∃h,D XA (.fn (.func 241) [] []) [.ptr p 0] ⟨H,lo⟩=some h/\bc x.back bk p H lo (ox x) h:=by
 refine cI JP λN d=>?_
 have b:=λH lo=>lx (BW x.s.O hx.s.O x.s.T hx.s.T hx.s.tr x.c.s hx.c.s H lo)
 have f:=λH lo=>atv x.s.T hx.s.T hx.s.tr x.c.r (min x.c.a 8) x.c.s (decide ((bH x.s.O x.s.T x.c.s).kind=3)) hx.c.r hx.c.s (ahO hx.c.a) H lo
 have em: ((min x.c.a 8:Nat):Int)=min (x.c.a:Int) 8:=by omega
 have c:decide ((bH x.s.O x.s.T x.c.s).kind=3)=decide (((bH x.s.O x.s.T x.c.s).kind:Int)=3):=ae0.2 (by omega);simp only[em,c]at f;by_cases e:x.c.s=0
 ·have a:decide ((x.c.s:Int)=0)=true:=ady (by omega);simp(disch:=omega) only[F1,go_sem,simprocAttr,JP,d,ho.g,ho.s,↓CL,CS,M1 ho hx x.c.r hx.c.r,a,b,kc,f,λH=>iF (lv x.s.T x.c.r (min x.c.a 8) x.c.s (decide (((bH x.s.O x.s.T x.c.s).kind:Int)=3))).2 H,en,eo,EP,OL d,df];have g:ox x=fU x x.c.r 1>>=λ_=>ca (lv x.s.T x.c.r (min x.c.a 8) x.c.s (decide (((bH x.s.O x.s.T x.c.s).kind:Int)=3))).2>>=λ_=>.ok (x.t (lv x.s.T x.c.r (min x.c.a 8) x.c.s (decide (((bH x.s.O x.s.T x.c.s).kind:Int)=3))).1,bu):=by
   unfold ox;rw[ac0 (by simpa using e),c];rfl
  rw[g];clear e a c em
  (repeat' (first| (refine⟨?_,?_⟩)|intro _))<;>(simp only[okB,dj, *];first|exact bc.err ho|exact bc.set rfl rfl)
 ·have a:decide ((x.c.s:Int)=0)=false:=adb (by omega);simp(disch:=omega) only[F1,go_sem,simprocAttr,JP,d,ho.g,ho.s,↓CL,CS,M1 ho hx x.c.r hx.c.r,M0 ho hx x.c.s hx.c.s,a,b,kc,f,λH=>iF (lv x.s.T x.c.r (min x.c.a 8) x.c.s (decide (((bH x.s.O x.s.T x.c.s).kind:Int)=3))).2 H,en,eo,EP,OL d,df];have g:ox x=fU x x.c.r 1>>=λ_=>fU x x.c.s 0>>=λ_=>ca (lv x.s.T x.c.r (min x.c.a 8) x.c.s (decide (((bH x.s.O x.s.T x.c.s).kind:Int)=3))).2>>=λ_=>.ok (x.t (lv x.s.T x.c.r (min x.c.a 8) x.c.s (decide (((bH x.s.O x.s.T x.c.s).kind:Int)=3))).1,bu):=by
   unfold ox;rw[ac6 (by simpa using e),c];rfl
  rw[g];clear e a c em
  (repeat' (first| (refine⟨?_,?_⟩)|intro _))<;>(simp only[okB,dj, *];first|exact bc.err ho|exact bc.set rfl rfl)
end
theorem vP: (x.t t).c=x.c/\ (x.t t).aa=x.aa/\ (x.t t).s.T=t/\ (x.t t).s.O=x.s.O/\ (x.t t).s.K=x.s.K/\ (x.t t).s.bw=x.s.bw/\ (x.t t).run=x.run:=⟨rfl,rfl,rfl,rfl,rfl,rfl,rfl⟩
theorem Lc{t:bP}: (x.o t).c=x.c/\ (x.o t).aa=x.aa/\ (x.o t).s.O=t/\ (x.o t).s.T=x.s.T/\ (x.o t).s.K=x.s.K/\ (x.o t).s.bw=x.s.bw:=⟨rfl,rfl,rfl,rfl,rfl,rfl⟩
theorem ahP: (x.bx i b).c=x.c/\ (x.bx i b).aa=x.aa/\ (x.bx i b).s.O=x.s.O/\ (x.bx i b).s.T=x.s.T/\ (x.bx i b).s.K=x.s.K/\ (x.bx i b).s.bw=ai x.s.bw i b:=⟨rfl,rfl,rfl,rfl,rfl,rfl⟩
section
variable{x:az}{bk:AV}{p:Nat}{H:List ae}{lo:oN}(ho:Old p H (.box (aY x bk) none))(hx:mX x)
include ho hx
omit ho hx in
theorem bc.mY:bc x.back bk p H lo (.error e) (.panic (jF e) ⟨H.set p (.box (aY y bk) none),lo⟩):=⟨y,rfl⟩
theorem atP: ∃f,D XA (.fn (.func 231) [] []) [.ptr p 0] ⟨H,lo⟩=some f/\bc x.back bk p H lo (w8 x) f:=by
 refine cI QA λN e=>?_
 have c:=λH lo=>lx (zu x.s.T hx.s.T hx.s.tr x.c.r hx.c.r H lo)
 have g:decide (root x.s.T x.c.r≠x.c.r)=decide (¬((root x.s.T x.c.r:Nat):Int)=x.c.r):=ae0.2 (by omega);have d: ∀b H lo,D XA (.fn (.func 116) [] []) [.bool b,.int .i64 12] ⟨H,lo⟩=_:=λb=>lJ b 12
 have a:aV (x.t (iA x.s.T x.c.r).1).s:=hx.s.s6 (hx.s.dY.cut _);have hw:=λB lo=>Lb (x:=x.t (iA x.s.T x.c.r).1) (bk:=bk) ((ho.set _).app B) lo a x.c.r hx.c.r x.aa (by have:=hx.t;omega)
 simp only[F1,go_sem,simprocAttr,QA,e,ho.g,ho.s,ho.g2,ho.s2,↓CL,M2 ho hx x.c.r hx.c.r,c,d,λB lo=>Td (ho.app B) lo hx.s x.c.r hx.c.r,hw,vP,en,eo,EP,jG,OL e]
 (repeat' (first| (refine⟨?_,?_⟩)|intro _))<;>(simp only[w8,sR,kK,vP,iq,okB,dj, *];first|exact bc.err ho|exact bc.mY|exact bc.set rfl rfl)
theorem atQ: ∃c,D XA (.fn (.func 233) [] []) [.ptr p 0] ⟨H,lo⟩=some c/\bc x.back bk p H lo (xa x) c:=by
 refine cI QC λN b=>?_
 have a:=hx.s.dY.cut x.c.r;have hw:=λH lo=>lx (asy x.s.O (iA x.s.T x.c.r).1 a.ok a.tr x.c.r hx.c.r x.aa (by have:=hx.t;omega) H lo)
 simp only[F1,go_sem,simprocAttr,QC,b,ho.g,ho.s,ho.g2,ho.s2,↓CL,CS,M2 ho hx x.c.r hx.c.r,λB lo=>Td (ho.app B) lo hx.s x.c.r hx.c.r,hw,vP,λH=>iF (zj x.s.O (iA x.s.T x.c.r).1 x.c.r x.aa).2 H,en,eo,EP,OL b,hY]
 (repeat' (first| (refine⟨?_,?_⟩)|intro _))<;>(simp only[xa,sR,vP,iq,okB,dj, *];first|exact bc.err ho|exact bc.mY|exact bc.set rfl rfl)
theorem ahQ: ∃t,D XA (.fn (.func 239) [] []) [.ptr p 0] ⟨H,lo⟩=some t/\bc x.back bk p H lo (nw x) t:=by
 refine cI EI λN h=>?_
 have u:=hx.t;have s: (x.aa:Int)<8:=by omega
 have r:784+x.aa*19<=945:=by omega
 have o:=λbk=> @K2 x bk x.aa hx.t
 have d:=λbk b=> @K3 x bk x.aa b hx.t
 have f:=λH lo=>lx (atg (x.s.bw x.aa) (hx.s.bx _) H lo)
 have i:=(hx.s.bx x.aa).take;have l:aV (x.bx x.aa (iE (x.s.bw x.aa)).1).s:=hx.s.vO i.1;have m:=i.2.aJ;have hw:=λB lo=>Lb (x:=x.bx x.aa (iE (x.s.bw x.aa)).1) (bk:=bk) ((ho.set _).app B) lo l (iE (x.s.bw x.aa)).2.1.aJ m x.aa (by omega)
 generalize n:iE (x.s.bw x.aa)=g at*;simp only[oC]at f;have e:N+1+1=N+2:=rfl;by_cases j:g.2.1.aJ=0
 ·have a:decide ((g.2.1.aJ:Int)=0)=true:=ady (by omega);have k: (g.2.1.aJ≠0/\g.2.1.share=false)=False:=aBg λq=>q.1 j
  simp only[F1,go_sem,simprocAttr,EI,h,ho.g,ho.s,↓CL,CS,f,s,↓o,d,r,e,a,MB,λH=>iF g.2.2 H,en,eo,EP,OL h];clear j a
  (repeat' (first| (refine⟨?_,?_⟩)|intro _))<;>(simp only[nw,n,k,ags];simp only[iq,okB,dj, *];first|exact bc.err ho|exact bc.set rfl rfl)
 ·have a:decide ((g.2.1.aJ:Int)=0)=false:=adb (by omega);cases c:g.2.1.share with
  |true=>
   rw[c]at f;have k: (g.2.1.aJ≠0/\g.2.1.share=false)=False:=aBg λq=>by rw[c]at q;cases q.2
   simp only[F1,go_sem,simprocAttr,EI,h,ho.g,ho.s,↓CL,CS,f,s,↓o,d,r,e,a,MB,λH=>iF g.2.2 H,en,eo,EP,OL h];clear j a c
   (repeat' (first| (refine⟨?_,?_⟩)|intro _))<;>(simp only[nw,n,k,ags];simp only[iq,okB,dj, *];first|exact bc.err ho|exact bc.set rfl rfl)
  |false=>
   rw[c]at f;have k: (g.2.1.aJ≠0/\g.2.1.share=false)=True:=aBj ⟨j,c⟩;simp only[F1,go_sem,simprocAttr,EI,h,ho.g,ho.s,ho.g2,ho.s2,↓CL,CS,f,s,↓o,d,r,e,a,hw,ahP,MB,λH=>iF g.2.2 H,en,eo,EP,jG,OL h];clear j a c
   (repeat' (first| (refine⟨?_,?_⟩)|intro _))<;>(simp only[nw,n,k,ae4];simp only[kK,ahP,iq,okB,dj, *];first|exact bc.err ho|exact bc.mY|exact bc.set rfl rfl)
end
def atS(c:iB t.b): (kf t a n).2.1<4294967296:=by
 unfold kf;split
 ·simp
 ·split
  ·simp
  ·split
   ·rename_i i b;exact E6 (pK b).1 (c i).1
   grind
def ahS(b:iB t.b): (eZ t a n).2.1<4294967296:=by
 unfold eZ;dsimp only;split
 ·simp
 ·exact atS b
section
variable{x:az}{bk:AV}{p:Nat}{H:List ae}{lo:oN}(ho:Old p H (.box (aY x bk) none))(hx:mX x)
include ho hx
theorem atT: ∃i,D XA (.fn (.func 225) [] []) [.ptr p 0] ⟨H,lo⟩=some i/\bc x.back bk p H lo (pN x) i:=by
 refine cI JM λN d=>?_
 have j:=hx.t;have g:=λH lo=>lx (asb x.s.T hx.s.T hx.s.tr x.c.r (min x.c.a 65) hx.c.r H lo)
 have em: ((min x.c.a 65:Nat):Int)=min (x.c.a:Int) 65:=by omega
 have e:aV (x.t (eZ x.s.T x.c.r (min x.c.a 65)).1).s:=hx.s.s6 (hx.s.dY.new _ _ hx.c.r);have f: (eZ x.s.T x.c.r (min x.c.a 65)).2.1<4294967296:=ahS hx.s.T.b;have hw:=λB lo=>Lb (x:=x.t (eZ x.s.T x.c.r (min x.c.a 65)).1) (bk:=bk) ((ho.set _).app B) lo e _ f x.aa (by omega)
 have h:=λH=>iF (eZ x.s.T x.c.r (min x.c.a 65)).2.2 H
 have e1:pN x=(if x.c.r≠0 then fU x x.c.r 1 else .ok ())>>=λ_=>ca (eZ x.s.T x.c.r (min x.c.a 65)).2.2>>=λ_=>(if x.c.r=0 then kK (x.t (eZ x.s.T x.c.r (min x.c.a 65)).1) (eZ x.s.T x.c.r (min x.c.a 65)).2.1 x.aa else .ok (x.t (eZ x.s.T x.c.r (min x.c.a 65)).1))>>=λy=>.ok (y,{bu with w:=(eZ x.s.T x.c.r (min x.c.a 65)).2.1}):=by
  unfold pN;by_cases q:x.c.r=0
  ·rw[ac0 (by simpa using q),ac0 (by simpa using q)];simp only[ac6 q];rfl
  ·rw[ac6 (by simpa using q),ac6 (by simpa using q)];simp only[ac0 q];rfl
 simp only[zx,em]at g;generalize eZ x.s.T x.c.r (min x.c.a 65)=n at*;rw[e1];by_cases b:x.c.r=0
 ·have a:decide ((x.c.r:Int)=0)=true:=ady (by omega);have c: (x.c.r≠0)=False:=aBg λq=>q b
  have e3: (x.c.r=0)=True:=aBj b;simp only[c,e3,ags,ae4];simp(disch:=omega) only[F1,go_sem,simprocAttr,JM,d,ho.g,ho.s,ho.g2,ho.s2,↓CL,CS,g,a,h,hw,vP,df,en,eo,EP,OL d];clear b a c e3
  (repeat' (first| (refine⟨?_,?_⟩)|intro _))<;>(simp only[kK,vP,iq,okB,dj, *];first|exact bc.err ho|exact bc.mY|exact bc.set rfl rfl)
 ·have a:decide ((x.c.r:Int)=0)=false:=adb (by omega);have c: (x.c.r≠0)=True:=aBj b;have e3: (x.c.r=0)=False:=aBg b;simp only[c,e3,ags,ae4];simp(disch:=omega) only[F1,go_sem,simprocAttr,JM,d,ho.g,ho.s,ho.g2,↓CL,CS,M1 ho hx x.c.r hx.c.r,g,a,h,vP,df,en,eo,EP,OL d];clear b a c e3
  (repeat' (first| (refine⟨?_,?_⟩)|intro _))<;>(simp only[okB,dj, *];first|exact bc.err ho|exact bc.mY|exact bc.set rfl rfl)
theorem atU: ∃I,D XA (.fn (.func 236) [] []) [.ptr p 0] ⟨H,lo⟩=some I/\bc x.back bk p H lo (pP x) I:=by
 refine cI y7 λN h=>?_
 have M:=hx.t;have l:=λB lo=>K9 (ho.app B) lo x.c.a
 by_cases G:x.c.a<8
 ·have y: ∀b H lo,D XA (.fn (.func 116) [] []) [.bool b,.int .i64 2] ⟨H,lo⟩=_:=λb=>lJ b 2
  have v: ∀b H lo,D XA (.fn (.func 116) [] []) [.bool b,.int .i64 4] ⟨H,lo⟩=_:=λb=>lJ b 4
  have u: ∀b H lo,D XA (.fn (.func 116) [] []) [.bool b,.int .i64 5] ⟨H,lo⟩=_:=λb=>lJ b 5
  have L:decide (x.c.b<=1)=decide ((x.c.b:Int)<=1):=ae0.2 (by omega);have s:decide (x.c.b=1)=decide ((x.c.b:Int)=1):=ae0.2 (by omega);have d:=λH lo=>lx (eC x.s.T.b x.c.r hx.c.r H lo)
  have C:aq x.s.T.b x.c.r=x.s.T.aq x.c.r:=rfl;rw[C]at d;have o:=λH lo=>ly (asM x.s.K hx.s.K ⟨x.c.r,x.aa % 256,x.c.a % 256,decide (x.c.b=1),x.c.s⟩ ⟨hx.c.r,anr _ (by omega),anr _ (by omega),hx.c.s⟩ H lo)
  have F:x.aa % 256=x.aa:=amX (by omega);have E:x.c.a % 256=x.c.a:=amX (by omega);simp only[nH,F,E,s]at o;have t:=λH=>iF (lr x.s.K ⟨x.c.r,x.aa,x.c.a,decide ((x.c.b:Int)=1),x.c.s⟩).2.2 H
  have k:=λH lo=>lx (BW x.s.O hx.s.O x.s.T hx.s.T hx.s.tr x.c.r hx.c.r H lo)
  have A:=hx.s.O.of x.s.T x.c.r;have j:=λH lo=>lx (BX x.s.K hx.s.K x.c.s hx.c.s H lo)
  have z:=hx.s.K.get x.c.s;have e1:pP x=mR x x.c.a>>=λ_=>ask (decide ((x.c.b:Int)<=1)) 2>>=λ_=>ask (x.s.T.aq x.c.r) 4>>=λ_=>(if x.c.s=0 then ask (decide ((bH x.s.O x.s.T x.c.r).kind=1)&&decide ((bH x.s.O x.s.T x.c.r).aa=x.aa)) 5 else ca (cq x.s.K x.c.s).2>>=λ_=>ask (decide ((cq x.s.K x.c.s).1.to=x.aa)&&decide ((cq x.s.K x.c.s).1.aJ=x.c.r)) 5)>>=λ_=>
    ca (lr x.s.K ⟨x.c.r,x.aa,x.c.a,decide ((x.c.b:Int)=1),x.c.s⟩).2.2>>=λ_=>.ok (x.k (lr x.s.K ⟨x.c.r,x.aa,x.c.a,decide ((x.c.b:Int)=1),x.c.s⟩).1,{bu with w:=(lr x.s.K ⟨x.c.r,x.aa,x.c.a,decide ((x.c.b:Int)=1),x.c.s⟩).2.1}):=by
   unfold pP;rw[L,s,F,E];by_cases q:x.c.s=0
   ·simp only[ac6 q];rfl
   ·simp only[ac0 q];cases mR x x.c.a with
    |error e=>rfl
    |ok _=>
     simp only[okB];cases ask (decide ((x.c.b:Int)<=1)) 2 with
     |error e=>rfl
     |ok _=>
      simp only[okB];cases ask (x.s.T.aq x.c.r) 4 with
      |error e=>rfl
      |ok _=>
       simp only[okB];cases ca (cq x.s.K x.c.s).2<;>rfl
  rw[e1];generalize lr x.s.K ⟨x.c.r,x.aa,x.c.a,decide ((x.c.b:Int)=1),x.c.s⟩=g at*;generalize bH x.s.O x.s.T x.c.r=w at*;generalize cq x.s.K x.c.s=tg at*;simp only[kc]at k;by_cases m:x.c.s=0
  ·have c:decide ((x.c.s:Int)=0)=true:=ady (by omega);have e3: (x.c.s=0)=True:=aBj m;simp only[e3,ae4];by_cases f:w.kind=1
   ·have a:decide ((w.kind:Int)=1)=true:=ady (by omega);have r:decide (w.aa=x.aa)=decide ((w.aa:Int)=x.aa):=ae0.2 (by omega);have J:=A.aa;simp only[f,r,decide_true,amH];simp(disch:=omega) only[F1,go_sem,simprocAttr,y7,h,ho.g,ho.s,↓CL,CS,l,y,d,v,c,k,a,u,o,t,qa,en,eo,EP,jG,OL h];clear m c e3 f a r
    (repeat' (first| (refine⟨?_,?_⟩)|intro _))<;>(simp only[okB,dj, *];first|exact bc.err ho|exact bc.mY|exact bc.set rfl rfl)
   ·have a:decide ((w.kind:Int)=1)=false:=adb (by omega);have i:decide (w.kind=1)=false:=adb f;simp only[i,agq];simp(disch:=omega) only[F1,go_sem,simprocAttr,y7,h,ho.g,ho.s,↓CL,CS,l,y,d,v,c,k,a,u,o,t,qa,en,eo,EP,jG,OL h];clear m c e3 f a i
    (repeat' (first| (refine⟨?_,?_⟩)|intro _))<;>(simp only[okB,dj, *];first|exact bc.err ho|exact bc.mY|exact bc.set rfl rfl)
  ·have c:decide ((x.c.s:Int)=0)=false:=adb (by omega);have e3: (x.c.s=0)=False:=aBg m;simp only[e3,ags];simp only[gk]at j;have K:=z.to;have n:=λH=>iF tg.2 H
   by_cases f:tg.1.to=x.aa
   ·have a:decide ((tg.1.to:Int)=x.aa)=true:=ady (by omega);have r:decide (tg.1.aJ=x.c.r)=decide ((tg.1.aJ:Int)=x.c.r):=ae0.2 (by omega);have i:decide (tg.1.to=x.aa)=true:=ady f;simp only[i,r,amH];simp(disch:=omega) only[F1,go_sem,simprocAttr,y7,h,ho.g,ho.s,↓CL,CS,l,y,d,v,c,j,n,a,u,o,t,qa,en,eo,EP,jG,OL h];clear m c e3 f a i r
    (repeat' (first| (refine⟨?_,?_⟩)|intro _))<;>(simp only[okB,dj, *];first|exact bc.err ho|exact bc.mY|exact bc.set rfl rfl)
   ·have a:decide ((tg.1.to:Int)=x.aa)=false:=adb (by omega);have i:decide (tg.1.to=x.aa)=false:=adb f;simp only[i,agq];simp(disch:=omega) only[F1,go_sem,simprocAttr,y7,h,ho.g,ho.s,↓CL,CS,l,y,d,v,c,j,n,a,u,o,t,qa,en,eo,EP,jG,OL h];clear m c e3 f a i
    (repeat' (first| (refine⟨?_,?_⟩)|intro _))<;>(simp only[okB,dj, *];first|exact bc.err ho|exact bc.mY|exact bc.set rfl rfl)
 ·rw[xB G]at l;simp(disch:=omega) only[F1,go_sem,simprocAttr,y7,h,ho.g,↓CL,l,eu,EP];simp only[pP,dj,xB G];exact bc.err ho
end
section
variable{x:az}{bk:AV}{p:Nat}{H:List ae}{lo:oN}(ho:Old p H (.box (aY x bk) none))(hx:mX x)
include ho hx
theorem atV: ∃E,D XA (.fn (.func 238) [] []) [.ptr p 0] ⟨H,lo⟩=some E/\bc x.back bk p H lo (mS x) E:=by
 refine cI y8 λN f=>?_
 have G:=hx.t;have l:=λB lo=>K9 (ho.app B) lo x.c.a
 by_cases u:x.c.a<8
 ·have w: (x.c.a:Int)<8:=by omega
  have v:784+x.c.a*19<=945:=by omega
  have t:=λ (y:az) bk=> @K2 y bk x.c.a u
  have d:=λ (y:az) bk b=> @K3 y bk x.c.a b u
  have z: ∀b H lo,D XA (.fn (.func 116) [] []) [.bool b,.int .i64 2] ⟨H,lo⟩=_:=λb=>lJ b 2
  have i:decide (x.c.b<=1)=decide ((x.c.b:Int)<=1):=ae0.2 (by omega);have g:x.aa % 256=x.aa:=amX (by omega);have F:=hx.c.v;by_cases h:x.c.r=0
  ·have a:decide ((x.c.r:Int)=0)=true:=ady (by omega);have j: (x.c.r≠0)=False:=aBg λq=>q h
   have es: (decide (x.c.r≠0)&&decide (x.c.b=1))=false:=by rw[adb (by simpa using h)];rfl
   have e:=λH lo=>lx (S2 (x.s.bw x.c.a) (hx.s.bx _) ⟨x.aa,x.c.v,x.c.r,false⟩ H lo)
   simp only[oC]at e;have m:=λH=>iF (iD (x.s.bw x.c.a) ⟨x.aa,x.c.v,x.c.r,false⟩).2 H
   simp(disch:=omega) only[F1,go_sem,simprocAttr,y8,f,ho.g,ho.s,↓CL,CS,l,z,a,w,v,↓t,d,e,m,MB,en,eo,EP,OL f];simp only[mS,es,aeJ,ags,i,g];simp only[j,ags];clear h a j es i g
   (repeat' (first| (refine⟨?_,?_⟩)|intro _))<;>(simp only[iq,okB,dj, *];first|exact bc.err ho|exact bc.mY|exact bc.set rfl rfl)
  ·have a:decide ((x.c.r:Int)=0)=false:=adb (by omega);have j: (x.c.r≠0)=True:=aBj h;by_cases s:x.c.b=1
   ·have c:decide ((x.c.b:Int)=1)=true:=ady (by omega);have es: (decide (x.c.r≠0)&&decide (x.c.b=1))=true:=by rw[ady (by simpa using h),ady s];rfl
    have r:=λH lo=>lx (agM x.s.O hx.s.O x.s.T hx.s.T hx.s.tr x.c.r hx.c.r x.c.a (by omega) H lo)
    have e:=λH lo=>lx (S2 (x.s.bw x.c.a) (hx.s.bx _) ⟨x.aa,x.c.v,x.c.r,true⟩ H lo)
    simp only[oC]at e;have m:=λH=>iF (iD (x.s.bw x.c.a) ⟨x.aa,x.c.v,x.c.r,true⟩).2 H
    by_cases k: (db x.s.O x.s.T x.c.r x.c.a true).2.2=0
    ·have k':decide (((db x.s.O x.s.T x.c.r x.c.a true).2.2:Int)=0)=true:=ady (by omega);simp(disch:=omega) only[F1,go_sem,simprocAttr,y8,f,ho.g,ho.s,ho.g2,ho.s2,↓CL,CS,l,z,a,c,λB lo=>Fy (ho.app B) lo hx.s hx.t x.c.r hx.c.r,r,k',w,v,↓t,d,e,m,MB,hY,Lc,en,eo,EP,OL f];simp only[mS,es,ae4,i,g,vy];have n: ((db x.s.O x.s.T x.c.r x.c.a true).2.2=0)=True:=aBj k;simp only[n,ae4];clear h a j es i g k k' n s c
     (repeat' (first| (refine⟨?_,?_⟩)|intro _))<;>(simp only[Lc,iq,okB,dj, *];first|exact bc.err ho|exact bc.mY|exact bc.set rfl rfl)
    ·have k':decide (((db x.s.O x.s.T x.c.r x.c.a true).2.2:Int)=0)=false:=adb (by omega);simp(disch:=omega) only[F1,go_sem,simprocAttr,y8,f,ho.g,ho.s,↓CL,CS,l,z,a,c,λB lo=>Fy (ho.app B) lo hx.s hx.t x.c.r hx.c.r,r,k',w,v,↓t,d,e,m,MB,hY,en,eo,EP,OL f];simp only[mS,es,ae4,i,g,vy];have n: ((db x.s.O x.s.T x.c.r x.c.a true).2.2=0)=False:=aBg k;simp only[n,ags];clear h a j es i g k k' n s c
     (repeat' (first| (refine⟨?_,?_⟩)|intro _))<;>(simp only[iq,okB,dj, *];first|exact bc.err ho|exact bc.mY|exact bc.set rfl rfl)
   ·have c:decide ((x.c.b:Int)=1)=false:=adb (by omega);have es: (decide (x.c.r≠0)&&decide (x.c.b=1))=false:=by rw[adb s,aph]
    have o:=hx.s.dY.cut x.c.r;have A:=λH lo=>lx (asz x.s.O (iA x.s.T x.c.r).1 o.ok o.tr x.c.r hx.c.r H lo)
    have C:=λH=>iF (vt x.s.O (iA x.s.T x.c.r).1 x.c.r).2 H
    have e:=λH lo=>lx (S2 (x.s.bw x.c.a) (hx.s.bx _) ⟨x.aa,x.c.v,x.c.r,false⟩ H lo)
    simp only[oC]at e;have m:=λH=>iF (iD (x.s.bw x.c.a) ⟨x.aa,x.c.v,x.c.r,false⟩).2 H
    simp(disch:=omega) only[F1,go_sem,simprocAttr,y8,f,ho.g,ho.s,ho.g2,ho.s2,↓CL,CS,l,z,a,c,M2 ho hx x.c.r hx.c.r,λB lo=>Td (ho.app B) lo hx.s x.c.r hx.c.r,A,C,w,v,↓t,d,e,m,MB,hY,Lc,vP,en,eo,EP,OL f];simp only[mS,es,aeJ,ags,i,g];simp only[j,ae4];clear h a j es i g s c
    (repeat' (first| (refine⟨?_,?_⟩)|intro _))<;>(simp only[sR,vP,Lc,iq,okB,dj, *];first|exact bc.err ho|exact bc.mY|exact bc.set rfl rfl)
 ·rw[xB u]at l;simp(disch:=omega) only[F1,go_sem,simprocAttr,y8,f,ho.g,↓CL,l,eu,EP];simp only[mS,dj,xB u];exact bc.err ho
end
theorem Tf{r:cQ}{l:List aC}:aN (b8 r) 2 [eL l,.int .i64 n]=b8 {r with runs:=l,len:=n}:=rfl
def Tg(l:List aC)(r:aC):aS (l++[r])=aS l+r.2:=by unfold aS;simp
def zG{l:List aC}{s:Nat}(h:gn l n s a=some k):k+s<=aS l*32:=by
 unfold gn at h
 grind
section
variable{x:az}{bk:AV}{p:Nat}{H:List ae}{lo:oN}(ho:Old p H (.box (aY x bk) none))(hx:mX x)
include ho hx
theorem atW: ∃cr,D XA (.fn (.func 226) [] []) [.ptr p 0] ⟨H,lo⟩=some cr/\bc x.back bk p H lo (hO x) cr:=by
 refine cI y6 λN G=>?_
 have ht:=hx.t;have o: ((min x.c.a 129:Nat):Int)=min (x.c.a:Int) 129:=by omega
 have m: ((min x.c.b 9:Nat):Int)=min (x.c.b:Int) 9:=by omega
 have u:min x.c.a 129<2147483648:=by omega
 have F:min x.c.b 9<2147483648:=by omega
 have d:=λH lo=>lx (ar4 (min x.c.a 129) (min x.c.b 9) u F H lo)
 have T: ∀b H lo,D XA (.fn (.func 116) [] []) [.bool b,.int .i64 2] ⟨H,lo⟩=_:=λb=>lJ b 2
 have W: ∀b H lo,D XA (.fn (.func 116) [] []) [.bool b,.int .i64 6] ⟨H,lo⟩=_:=λb=>lJ b 6
 have E:=M1 ho hx x.c.r hx.c.r;have z:=λB lo=>La (ho.app B) lo hx.s x.c.r hx.c.r
 have I:=hx.s.T.get x.c.r;have a:=I.rb;have uJ:=I.len;have J: ∀l:List aC,(eL l).refs=0:=λl=>dy (nh l) (bL (λ_=>rfl) l)
 have hrp:=I.aS;cases C:jX (min x.c.a 129) (min x.c.b 9)with
 |none=>
  rw[C]at d;simp only[o,m]at d;simp(disch:=omega) only[F1,go_sem,simprocAttr,y6,G,ho.g,↓CL,d,T,ask,eu,EP];simp only[hO,C,dj];exact bc.err ho
 |some n=>
  have hn5:n<=5:=by
   unfold jX at C;split at C
   ·cases C;omega
   ·cases C
  have f:=λH lo=>lx (agB (eL (aE x.s.T x.c.r).1.runs) (aE x.s.T x.c.r).1.len (aE x.s.T x.c.r).1.runs (by omega) (nh _) a.1 (min x.c.a 129) (min x.c.b 9) u F H lo)
  have i:=λH lo=>lx (agC (eL (aE x.s.T x.c.r).1.runs) (aE x.s.T x.c.r).1.len (aE x.s.T x.c.r).1.runs (by omega) (nh _) a.1 (min x.c.a 129) (min x.c.b 9) u F H lo)
  rw[C]at d;cases O:gn (aE x.s.T x.c.r).1.runs (aE x.s.T x.c.r).1.len (min x.c.a 129) (min x.c.b 9)with
  |some k=>
   have hk:=zG O;have V:vH (aE x.s.T x.c.r).1.runs (aE x.s.T x.c.r).1.len (min x.c.a 129) (min x.c.b 9)=k+min x.c.a 129:=by unfold vH;rw[O]
   have e:=λB lo=>Te (ho.app B) lo hx.s x.c.r hx.c.r {(aE x.s.T x.c.r).1 with len:=k+min x.c.a 129} a.1 (by have:=a.2;show(aE x.s.T x.c.r).1.runs.length<=65;omega) (by show k+min x.c.a 129<4294967296;omega)
   rw[V,O]at i;simp only[O,xl]at f;generalize hsv:min x.c.a 129=sz at*;generalize hav:min x.c.b 9=al at*;have U:aN (b8 (aE x.s.T x.c.r).1) 2 [eL (aE x.s.T x.c.r).1.runs,.int .i64 ((k:Int)+sz)]=b8 {(aE x.s.T x.c.r).1 with len:=k+sz}:=by
    rw[<-aoU];exact Tf
   simp(disch:=omega) only[F1,go_sem,simprocAttr,y6,G,ho.g,ho.s,↓CL,d,T,E,z,f,i,e,U,J,<-o,<-m,kQ,en,eo,EP,jG,OL G];have L:=zF (x:=x) (h:=x.c.r) (w:=1)
   (repeat' (first| (refine⟨?_,?_⟩)|intro _))<;>first
     | (simp only[hO,mb,iq,okB,dj, *];first|exact bc.err ho|exact bc.set rfl rfl)
     | (exfalso;simp_all[ask])
  |none=>
   have A:=λH lo=>lx (KN (eL (aE x.s.T x.c.r).1.runs) (aE x.s.T x.c.r).1.len (aE x.s.T x.c.r).1.runs (nh _) a.1 H lo)
   have M:=λH lo=>lx (ar8 (eL (aE x.s.T x.c.r).1.runs) (aE x.s.T x.c.r).1.len (aE x.s.T x.c.r).1.runs (nh _) a.1 x.run H lo)
   have g:RB ((aE x.s.T x.c.r).1.runs++[x.run]):=⟨by have:=a.2;simp;omega,λy hy=>by
    rcases adB.1 hy with q|q
    ·exact a.1.2 y q
    ·rw[aeH.1 q];exact hx.run⟩
   have S: ((aE x.s.T x.c.r).1.runs++[x.run]).length<=65:=by have:=a.2;simp;omega
   have Di:=Tg (aE x.s.T x.c.r).1.runs x.run;have j:aS (aE x.s.T x.c.r).1.runs*32<4294967296:=by omega
   have R:=λH lo=>lx (agA (eL ((aE x.s.T x.c.r).1.runs++[x.run])) (aS (aE x.s.T x.c.r).1.runs*32) ((aE x.s.T x.c.r).1.runs++[x.run]) j (nh _) g S H lo)
   have i:=λH lo=>lx (agC (eL ((aE x.s.T x.c.r).1.runs++[x.run])) (aS (aE x.s.T x.c.r).1.runs*32) ((aE x.s.T x.c.r).1.runs++[x.run]) j (nh _) g (min x.c.a 129) (min x.c.b 9) u F H lo)
   have K:decide (aS (aE x.s.T x.c.r).1.runs+n<=(aE x.s.T x.c.r).1.cF)=decide (((aS (aE x.s.T x.c.r).1.runs:Nat):Int)+n<=(aE x.s.T x.c.r).1.cF):=ae0.2 (by omega);have t:IntKind.i64.wrap ((aS (aE x.s.T x.c.r).1.runs:Nat)+(n:Int))=(aS (aE x.s.T x.c.r).1.runs:Nat)+(n:Int):=wrap_i64 (by omega) (by omega);simp only[O,xl]at f;cases has:x.asks with
   |true=>
    simp(disch:=omega) only[F1,go_sem,simprocAttr,y6,G,ho.g,ho.s,ho.g2,↓CL,CS,d,T,W,E,z,f,A,t,has,<-o,<-m,kQ,en,eo,EP,jG,OL G];have L:=zF (x:=x) (h:=x.c.r) (w:=1)
    (repeat' (first| (refine⟨?_,?_⟩)|intro _))<;>first
      | (simp only[hO,iq,okB,dj,ae4, *];first|exact bc.err ho|exact bc.set rfl rfl)
      | (exfalso;simp_all[ask])
   |false=>
    by_cases Z:x.run.2=n
    ·have r:decide ((x.run.2:Int)=n)=true:=ady (by omega);have Q:vH ((aE x.s.T x.c.r).1.runs++[x.run]) (aS (aE x.s.T x.c.r).1.runs*32) (min x.c.a 129) (min x.c.b 9)<4294967296:=by
      unfold vH;split
      ·rename_i q;have:=zG q;omega
      ·omega
     have P:IntKind.u64.wrap (((gn ((aE x.s.T x.c.r).1.runs++[x.run]) (aS (aE x.s.T x.c.r).1.runs*32) (min x.c.a 129) (min x.c.b 9)).getD 0:Nat):Int)=((gn ((aE x.s.T x.c.r).1.runs++[x.run]) (aS (aE x.s.T x.c.r).1.runs*32) (min x.c.a 129) (min x.c.b 9)).getD 0:Nat):=by
      cases q:gn ((aE x.s.T x.c.r).1.runs++[x.run]) (aS (aE x.s.T x.c.r).1.runs*32) (min x.c.a 129) (min x.c.b 9)with
      |none=>rfl
      |some k=>have:=zG q;exact wrap_u64 (by simp) (by simp;omega)
     have e1:hO x=fU x x.c.r 1>>=λ_=>ca (aE x.s.T x.c.r).2>>=λ_=>ask (decide (((aS (aE x.s.T x.c.r).1.runs:Nat):Int)+n<=(aE x.s.T x.c.r).1.cF)) 6>>=λ_=>ask (ma ((aE x.s.T x.c.r).1.runs++[x.run]) (aS (aE x.s.T x.c.r).1.runs*32)) 2>>=λ_=>
       mb {s:=x.s,aa:=x.aa,c:=x.c,run:=x.run,jW:=n,asks:=false,back:=x.back} x.c.r {(aE x.s.T x.c.r).1 with runs:=(aE x.s.T x.c.r).1.runs++[x.run],len:=vH ((aE x.s.T x.c.r).1.runs++[x.run]) (aS (aE x.s.T x.c.r).1.runs*32) (min x.c.a 129) (min x.c.b 9)}>>=λy=>
       .ok (y,{bu with v:=(gn ((aE x.s.T x.c.r).1.runs++[x.run]) (aS (aE x.s.T x.c.r).1.runs*32) (min x.c.a 129) (min x.c.b 9)).getD 0}):=by
      unfold hO;simp only[C,O,K,has,Z,decide_true,amH,aeJ,ags,iq,okB];rfl
     have e:=λB lo=>Te (x:={s:=x.s,aa:=x.aa,c:=x.c,run:=x.run,jW:=n,asks:=false,back:=x.back}) (bk:=bk) ((ho.set _).app B) lo hx.s x.c.r hx.c.r
      {(aE x.s.T x.c.r).1 with runs:=(aE x.s.T x.c.r).1.runs++[x.run],len:=vH ((aE x.s.T x.c.r).1.runs++[x.run]) (aS (aE x.s.T x.c.r).1.runs*32) (min x.c.a 129) (min x.c.b 9)} g S Q
     simp(disch:=omega) only[F1,go_sem,simprocAttr,y6,G,ho.g,ho.s,ho.g2,ho.s2,↓CL,CS,d,T,W,E,z,f,A,M,t,has,J,r,R,i,e,P,Tf,<-o,<-m,kQ,en,eo,EP,jG,OL G];have L:=zF (x:=x) (h:=x.c.r) (w:=1);rw[e1];clear e Q P r e1 R i M A K t j
     (repeat' (first| (refine⟨?_,?_⟩)|intro _))<;>first
       | (simp only[mb,iq,okB,dj, *];first|exact bc.err ho|exact bc.mY|exact bc.set rfl rfl)
       | (exfalso;simp_all[ask])
    ·have r:decide ((x.run.2:Int)=n)=false:=adb (by omega);have e1:hO x=fU x x.c.r 1>>=λ_=>ca (aE x.s.T x.c.r).2>>=λ_=>ask (decide (((aS (aE x.s.T x.c.r).1.runs:Nat):Int)+n<=(aE x.s.T x.c.r).1.cF)) 6>>=λ_=>.error 2:=by
      unfold hO;simp only[C,O,K,has,adb Z,agq,aeJ,ags,iq,okB];rfl
     have Y: ∀H lo,D XA (.fn (.func 116) [] []) [.bool false,.int .i64 2] ⟨H,lo⟩=_:=λH lo=>lx (zA 2 H lo)
     have X: ∀H lo,D XA (.fn (.func 116) [] []) [.bool true,.int .i64 2] ⟨H,lo⟩=_:=λH lo=>lx (Fu 2 H lo)
     simp(disch:=omega) only[F1,go_sem,simprocAttr,y6,G,ho.g,ho.s,ho.g2,↓CL,CS,d,Y,X,W,E,z,f,A,M,t,has,J,r,Tf,<-o,<-m,kQ,en,eo,EP,jG,OL G];have L:=zF (x:=x) (h:=x.c.r) (w:=1);rw[e1]
     (repeat' (first| (refine⟨?_,?_⟩)|intro _))<;>first
       | (simp only[okB,dj, *];first|exact bc.err ho|exact bc.mY|exact bc.set rfl rfl)
       | (exfalso;simp_all[ask])
end
structure bW(p:Nat)(H H':List ae):Prop where
 len:H.length<=H'.length
 low: ∀i,i<p->H'[i]?=H[i]?
 box: ∀i o,i≠p->(∀a d,o≠ .row a 2 fF d)->H[i]?=some o->H'[i]?=some o
theorem bW.refl(p:Nat)(H:List ae):bW p H H:=⟨adA _,λ_ _=>rfl,λ_ _ _ _ h=>h⟩
theorem bW.trans{A B C:List ae}(h:bW p A B)(g:bW p B C):bW p A C:=
 ⟨aga h.len g.len,λi a=>(g.low i a).trans (h.low i a),λi o a ho b=>g.box i o a ho (h.box i o a ho b)⟩
def bW.app(p:Nat)(H L:List ae)(a:p<H.length):bW p H (H++L):=⟨by simp,λi b=>acj (by omega),λi o _ _ h=>bm h⟩
theorem bW.set(p:Nat)(H:List ae)(o:ae):bW p H (H.set p o):=⟨by simp,λi a=>ach (by omega),λi w a _ h=>by grind⟩
theorem bW.take{N:Nat}{A B:List ae}(h:bW p A B)(d:A.length=N)(c:p<N):bW p A (B.take N):=⟨by rw[af9];have:=h.len;omega,λi a=>by rw[ago (by omega)];exact h.low i a,λi o a ho b=>by
 have:=(ack.1 b).1;rw[ago (by omega)];exact h.box i o a ho b⟩
def bW.own{N:Nat}{A B:List ae}{ty:TypeId}{af:List lA}(h:bW p A B)(ho:aP N A v sz ty af)(k:p<N)(j:sz≠2):aP N B v sz ty af:=by
 obtain⟨i,b⟩:=ho;refine⟨i,?_⟩;rcases b with b| ⟨id,ak,g,f,c⟩
 ·grind
 ·exact .inr ⟨id,ak,g,f,h.box id _ (by omega) (λa d e=>by grind) c⟩
def ahT{E:AS}(l:List aC):Den.elems E 2 (eL l)=some (l.map aD):=by
 unfold eL;split
 ·rename_i h;rw[aBx.1 h];rfl
 ·exact apo (by simp[RU])
structure At(p:Nat)(x:az)(bk:AV)(H:List ae):Prop where
 box:H[p]?=some (.box (aY x bk) none)
 own:aP (p+1) H bk 2 fF (x.back.map aD)
def vQ(Q:Prop)(p:Nat)(H H':List ae)(lo aj:oN):Prop:=(aj=lo/\H'.length=H.length/\Q)\/aj=cO lo p
def ahU(l:lN): ∀x:az,(l.foldl fw x).s.T=x.s.T:=by
 induction l with
 |nil=>simp
 |cons h l a=>intro x;exact a _
def Th(l:lN): ∀x:az,aV x.s->aV (l.foldl fw x).s:=by
 induction l with
 |nil=>simp
 |cons h l b=>intro x a;exact b _ (a.xA (a.tok.clear h))
def ahV(l:lN): ∀x:az,bS x.s.T->(l.foldl fw x).back.length<=x.back.length+64*l.length:=by
 induction l with
 |nil=>simp
 |cons h l b=>
  intro x a;have e:=b (fw x h) a;have d: (fw x h).back.length=x.back.length+(aE x.s.T h).1.runs.length:=by simp[fw]
  have c:=(a.get h).rb.2
  grind
def atX{x:az}{l:lN}{k:Nat}(h:k<l.length): (l.take (k+1)).foldl fw x=fw ((l.take k).foldl fw x) (l.getD k default):=by grind [List.take_add_one,List.getElem?_eq_getElem,getD_eq]
def vR{H:List ae}(a:p<n):finish n lo v ⟨H,some p⟩=(v,⟨H,cO lo p⟩):=by
 unfold finish;rw[ac0 (by grind)];rfl
def Ti{H:List ae}(K:At p x bk H)(c:aV x.s)(h:Nat)(hh:h<4294967296)(hB:x.back.length+64*(under x.s.T h).length<=4294967296)(lo:oN):
  ∃a H' aj,D XA (.fn (.func 258) [] []) [.ptr p 0,.int .u32 h] ⟨H,lo⟩=some (.ret (.aA []) ⟨H',aj⟩)/\At p (eh x h) a H'/\bW p H H'/\vQ (a=bk\/a= .au) p H H' lo aj:=by
 suffices c: ∃S,D XA (.fn (.func 258) [] []) [.ptr p 0,.int .u32 h] ⟨H,lo⟩=some S/\ (λS=> ∃a H' aj,S=aU.ret (.aA []) ⟨H',aj⟩/\At p (eh x h) a H'/\bW p H H'/\vQ (a=bk\/a= .au) p H H' lo aj) S by
  obtain⟨S,h1,a,H',aj,rfl,h2⟩:=c;exact⟨a,H',aj,h1,h2⟩
 refine cI QL λN X=>?_
 have f:p<N:=by rw[<-X];exact(ack.1 K.box).1
 obtain⟨v,J,lo1,V,u2,u3⟩:=KI x.s.T c.T c.tr h hh N H X none;have V:=ly V;have hul:=KK c.tr h;have b:=(mj u2 lo1).bZ;have hbp:=K.box;obtain⟨Y,m⟩: ∃Y,Y=H++J:=⟨_,rfl⟩;rw[<-m]at V u2 b;have w0:Y[p]?=some (.box (aY x bk) none):=by rw[m];exact bm K.box
 have oZ:bW p H Y:=by rw[m];exact bW.app p H J (by omega)
 simp only[↓R1,Zz,go_sem,simprocAttr,QL,hbp,↓CL,V,b];refine gZ (under x.s.T h).length (λk e U aj=> ∃a,U[p]?=some (.box (aY (((under x.s.T h).take k).foldl fw x) a) none)/\aP (p+1) U a 2 fF ((((under x.s.T h).take k).foldl fw x).back.map aD)/\bW p H U/\aP N U v 1 cz ((under x.s.T h).map hC)/\
  ((eB N aj/\aP (p+1) (U.take N) a 2 fF ((((under x.s.T h).take k).foldl fw x).back.map aD)/\ (a=bk\/a= .au))\/aj=some p)/\e 0= .ptr p 0/\e 1= .int .u32 h/\e 15=v/\e 16= .int .i64 (under x.s.T h).length/\e 17= .int .i64 k) 0 (by omega) ?_ ?_
 ·simp only[↓ao7,Zz,go_sem,simprocAttr];refine⟨bk,w0,by rw[m];exact K.own.ext,oZ,u2,.inl ⟨eB.of u3,?_,.inl rfl⟩⟩;rw[m,am6 X];exact K.own
 rintro k hk e T u ⟨a,E,p1,F,p3,p4,e0,e1,Q,P,O⟩ n hn;have j0:=Th ((under x.s.T h).take k) x c;have d:=ahU ((under x.s.T h).take k) x;have GY:=ahV ((under x.s.T h).take k) x c.T;rw[af9]at GY;have NY:= @atX x (under x.s.T h) k;generalize hy: ((under x.s.T h).take k).foldl fw x=y at*;have A:Old p T (.box (aY y a) none):=⟨E⟩;simp only[cm,↓R1,Zz,go_sem,simprocAttr,aen,E,↓CL,e0,e1,Q,P,O];refine⟨λhc=>?_,λhc=>?_⟩
 ·have B:k< (under x.s.T h).length:=by omega
  have hr:=mj p3 u;have hg:=λH lo=>lx (vF y.s.T (by rw[d];exact c.T) ((under x.s.T h).getD k default) (gl (KJ c.T (fX B))) H lo)
  simp(disch:=omega) only[↓R1,↓MP,Zz,aeE,go_sem,simprocAttr,hr.cn,hr.cE,↓pH,hn,E,A.g,↓CL,hg,nD,ahT,e0];have uJ:=(c.T.get ((under x.s.T h).getD k default)).rb.2;rw[d];generalize hR: (aE x.s.T ((under x.s.T h).getD k default)).1=R at*;refine⟨by omega,?_⟩;obtain⟨v',Z,q1,q2,q3,q4,q5⟩:=aP.N5 (bytes:=16) (ys:=R.runs.map aD) (lo:=u) (aP.ext (L:=[ae.box (b8 R) none]) p1) (by simp[hn];have:=F.len;omega) (by omega) (by intro el qA;obtain⟨r,_,rfl⟩:=aeO.1 qA;rfl) (bL (λ_=>rfl) _) (by
   unfold room;simp only[aeK];omega)
  have z:Z[p]?=some (.box (aY y a) none):=by rw[q4 p (by omega)];exact A.g _
  have s:Old p Z (.box (aY y a) none):=⟨z⟩;have oT:=λH lo=>ly (asO y.s.K j0.K ((under x.s.T h).getD k default) H lo)
  have hvt:v'.cx=false/\v'.cells=[v']:=by
   rcases q2.2 with⟨rfl,_⟩| ⟨_,_,_,rfl,_⟩<;>exact⟨rfl,rfl⟩
  rw[q1];simp(disch:=omega) only[↓ao7,↓R1,Zz,aeF,go_sem,simprocAttr,hvt,z,s.g1,↓CL,CS,oT,e0,e1,Q,P,O];rw[ake,NY B];have l: (fw y ((under x.s.T h).getD k default)).back.map aD=y.back.map aD++R.runs.map aD:=by
   rw[<-aeP];unfold fw;rw[d,hR]
  have f2:bW p (T++[ae.box (b8 R) none]) Z:=⟨q3,λi hi=>q4 i (by omega),λi o _ ho hg=>q5 i o ho hg⟩;have f3:=(bW.app p T [ae.box (b8 R) none] (by have:=F.len;omega)).trans (f2.trans (bW.set p Z (.box (aY (fw y ((under x.s.T h).getD k default)) v') none)));refine⟨B,v',s.g1 _,?_,F.trans f3,f3.own p3 f (by omega),?_⟩
  ·rw[l];exact aP.nG q2 z
  ·by_cases W:v'.refs<=p+1
   ·rw[ac6 W];have g:v'= .au/\y.back.map aD++R.runs.map aD=[]:=by
     rcases q2.2 with q| ⟨id,ak,i1,i2,_⟩
     ·exact q
     ·rw[i2]at W;simp only[AV.refs]at W;omega
    rcases p4 with⟨G,_⟩|G
    ·refine .inl ⟨G,?_,.inr g.1⟩;rw[l,g.1,g.2];exact aP.au
    ·exact .inr G
   ·rw[ac0 W]
    right
    rcases p4 with⟨rfl| ⟨j,hj,rfl⟩,_⟩|rfl
    ·rfl
    ·exact ahR some (apJ (show p<=j by omega))
    ·exact ahR some (aAO p)
 ·obtain rfl:k=(under x.s.T h).length:=by omega
  have M:bS y.s.T:=by rw[d];exact c.T
  obtain⟨w,C⟩:=arS y.s.T M (by rw[d];exact c.tr) h hh T u;have C:=ly C;have I:=A.set (.box (aY (y.t (ik y.s.T h).1) a) none);have e2:eh x h=y.t (ik y.s.T h).1:=by
   unfold eh;rw[aeQ]at hy;rw[hy]
  simp only[↓R1,Zz,go_sem,simprocAttr,E,CS,C];rw[e2];rw[atB];have t:=F.trans (bW.set p T (.box (aY (y.t (ik y.s.T h).1) a) none));rcases p4 with⟨G,l2,l3⟩|rfl
  ·rw[jE G (adC _)];refine⟨a,_,lo,rfl,⟨?_,?_⟩,t.take X f,.inl ⟨rfl,by rw[af9,aeU];have:=F.len;omega,l3⟩⟩
   ·rw[ago f];exact I.at'
   ·rw[List.take_set];exact aP.nG l2 (by rw[ago f];exact E)
  ·rw[vR f];exact⟨a,_,_,rfl,⟨I.at',aP.nG p1 E⟩,t,.inr rfl⟩
abbrev zH(p:Nat)(H H':List ae)(lo aj:oN):Prop:=vQ True p H H' lo aj
def s7(p:Nat)(H:List ae)(lo:oN):R (az×bE)->aU->Prop
 |.ok (y,r),a=> ∃b H' aj,a= .ret (.agg (bB r)) ⟨H',aj⟩/\At p y b H'/\bW p H H'/\zH p H H' lo aj
 |.error e,a=> ∃H' aj,a= .panic (jF e) ⟨H',aj⟩/\bW p H H'/\zH p H H' lo aj
def bc.c{H:List ae}(ha:At p x bk H){m:R (az×bE)}{c:aU}(h:bc x.back bk p H lo m c):s7 p H lo m c:=by
 cases m with
 |ok a=>
  obtain⟨f,b⟩:=h;have d:=(ack.1 ha.box).1;exact⟨bk,_,lo,b,⟨by grind,by rw[f];exact aP.nG ha.own ha.box⟩,bW.set _ _ _,.inl ⟨rfl,by simp,trivial⟩⟩
 |error e=>
  obtain⟨y,b⟩:=h;exact⟨_,lo,b,bW.set _ _ _,.inl ⟨rfl,by simp,trivial⟩⟩
def s7.err{H:List ae}:s7 p H lo (.error e) (.panic (jF e) ⟨H,lo⟩):=⟨H,lo,rfl,bW.refl _ _,.inl ⟨rfl,rfl,trivial⟩⟩
theorem at0{N:Nat}{H B W:List ae}(r:H.length=N)(b:p<N)(l: ∀o∈B,∃cs tg,o=ae.box cs tg)(f:At p y bk W)(k:bW p (H++B) W)(i:W.length=(H++B).length):At p y bk (W.take N):=by
 refine⟨by rw[ago b];exact f.box,f.own.1,?_⟩;rcases f.own.2 with q| ⟨id,ak,n,m,h⟩
 ·grind
 ·by_cases j:id<N
  ·grind
  ·have c:=(ack.1 h).1;rw[i,aeG]at c;have g: (H++B)[id]?=some B[id-N]:=by grind
   obtain⟨cs,tg,ho⟩:=l _ (ass (show id-N<B.length by omega));rw[ho]at g;have:=k.box id _ (by omega) (λa d e=>by cases e) g
   grind
def Tj{N:Nat}{H B W:List ae}(b:bW p (H++B) W)(a:p<H.length):bW p H W:=(bW.app p H B a).trans b
def ahX{N:Nat}{H W:List ae}(e:H.length=N)(d:p<N)(b:bW p H W)(o:ae):bW p H (W.set N o):=
 ⟨by rw[aeU];exact b.len,λi a=>by rw[ach (by omega)];exact b.low i a,λi w a hw c=>by
   have:=(ack.1 c).1;rw[ach (by omega)];exact b.box i w a hw c⟩
def zI{N:Nat}{H B W:List ae}{aj:oN}{Q:Prop}(i:H.length=N)(a:p<N)(n: ∀o∈B,∃cs tg,o=ae.box cs tg)(h:At p y bk W)(l:bW p (H++B) W)(d: (aj=none/\ (W.length=(H++B).length\/ (bk= .au/\y.back=[]))/\Q)\/aj=cO none p)(j:v.refs<=N)
  {cs:lA} {tg:Option TypeId} (g:W[N]?=some (.box cs tg)) (o:ae):
  ∃f b,finish N lo v ⟨W.set N o,aj⟩=(v,⟨f,b⟩)/\At p y bk f/\bW p H f/\vQ Q p H f lo b:=by
 have c:=ahX i a (Tj (N:=N) l (by omega)) o;rcases d with⟨rfl,d,k⟩|rfl
 ·refine⟨_,lo,jE (.inl rfl) j,?_,c.take i a,.inl ⟨rfl,?_,k⟩⟩
  ·have:At p y bk (W.take N):=by
     rcases d with d| ⟨rfl,m⟩
     ·grind [at0]
     ·exact⟨by rw[ago a];exact h.box,by rw[m];exact aP.au⟩
   have e: (W.set N o).take N=W.take N:=by rw[List.take_set];exact List.set_eq_of_length_le (by grind)
   grind
  grind
 ·refine⟨_,cO lo p,?_,⟨?_,aP.nG h.own g⟩,c,.inr rfl⟩
  ·have:cO none p=some p:=rfl;rw[this];exact vR a
  ·rw[ach (by omega)];exact h.box
def Ld{N:Nat}{H B W:List ae}{aj:oN}(g:H.length=N)(c:p<N)(h:bW p (H++B) W)(f:aj=none\/aj=cO none p)(e:v.refs<=N):
  ∃d b,finish N lo v ⟨W,aj⟩=(v,⟨d,b⟩)/\bW p H d/\zH p H d lo b:=by
 have a:=Tj (N:=N) h (by omega);rcases f with rfl|rfl
 ·refine⟨_,lo,jE (.inl rfl) e,a.take g c,.inl ⟨rfl,?_,trivial⟩⟩;rw[af9];have:=a.len;omega
 ·refine⟨_,cO lo p,?_,a,.inr rfl⟩;exact vR c
def B8{cs:lA}{tg:Option TypeId}: ∀o∈[ae.box cs tg],∃cs tg,o=ae.box cs tg:=by simp
section
variable{x:az}{bk:AV}{p:Nat}{H:List ae}(lo:oN)(ha:At p x bk H)(hx:mX x)
include ha hx
theorem at1(j:x.back.length+64*(under x.s.T x.c.r).length<=4294967296): ∃h,D XA (.fn (.func 230) [] []) [.ptr p 0] ⟨H,lo⟩=some h/\s7 p H lo (vx x) h:=by
 refine cI Qz λN f=>?_
 have ho:Old p H (.box (aY x bk) none):=⟨ha.box⟩;have c:p<N:=by rw[<-f];exact ho.lt
 obtain⟨l,W,aj,g1,g2,g,k⟩:=Ti (bk:=bk) (H:=H++[.box [.int .i64 0,.int .u64 0,.int .u32 0] none]) ⟨ho.g _,ha.own.ext⟩ hx.s x.c.r hx.c.r j none;have b:W[N]?=some (.box [.int .i64 0,.int .u64 0,.int .u32 0] none):=g.box N _ (by omega) (λa d e=>by cases e) (by grind);simp only[F1,go_sem,simprocAttr,Qz,f,ho.g,↓CL,M2 ho hx x.c.r hx.c.r,g1,b,cZ b,en,eo,EP];obtain⟨m,i,f1,f2,f3,f4⟩:=zI (v:=.agg [.int .i64 0,.int .u64 0,.int .u32 0]) (lo:=lo) f c B8 g2 g (k.imp (λq=>⟨q.1,.inl q.2.1,trivial⟩) id) (adC _) b (.box [.int .i64 0,.int .u64 0,.int .u32 0] none);rw[f1]
 (repeat' (first| (refine⟨?_,?_⟩)|intro _))
 ·simp only[vx,iq,okB, *];exact⟨_,_,_,rfl,f2,f3,f4⟩
 ·simp only[vx,dj, *];exact .err
theorem at2(hB:x.back.length<=4294967296): ∃S,D XA (.fn (.func 229) [] []) [.ptr p 0] ⟨H,lo⟩=some S/\s7 p H lo (sS x) S:=by
 refine cI Qy λN k=>?_
 have ho:Old p H (.box (aY x bk) none):=⟨ha.box⟩;have m:p<N:=by rw[<-k];exact ho.lt
 have G:=λB lo=>La (ho.app B) lo hx.s x.c.r hx.c.r
 have F:=(hx.s.T.get x.c.r);have Y:=zF (x:=x) (h:=x.c.r) (w:=1);have e0:sS x=fU x x.c.r 1>>=λ_=>ca (aE x.s.T x.c.r).2>>=λ_=>mb {x with back:=x.back++(aE x.s.T x.c.r).1.runs} x.c.r {cY with up:=0,cF:=(aE x.s.T x.c.r).1.cF}>>=λy=>.ok (y,bu):=rfl
 rw[e0];generalize hR: (aE x.s.T x.c.r).1=R at*;obtain⟨v',c,V,z,U,P,u⟩:=aP.N5 (bytes:=16) (ys:=R.runs.map aD) (lo:=none) (aP.ext (L:=[ae.box [.int .i64 0,.int .u64 0,.int .u32 0] none,.box (b8 R) none]) ha.own) (by simp[k];omega) (by omega) (by intro el J;obtain⟨r,_,rfl⟩:=aeO.1 J;rfl) (bL (λ_=>rfl) _) (by
  have:=F.rb.2;unfold room;simp only[aeK];omega)
 have C:v'.cx=false/\v'.cells=[v']:=by
  rcases z.2 with⟨rfl,_⟩| ⟨_,_,_,rfl,_⟩<;>exact⟨rfl,rfl⟩
 have j:c[p]?=some (.box (aY x bk) none):=by rw[P p (by omega)];exact ho.g _
 have b:Old p c (.box (aY x bk) none):=⟨j⟩;have w0:c[N]?=some (.box [.int .i64 0,.int .u64 0,.int .u32 0] none):=u N _ (λa d e=>by cases e) (by rw[dB k];rfl);have w1:c[N+1]?=some (.box (b8 R) none):=u (N+1) _ (λa d e=>by cases e) (by rw[bM k];rfl);have n:=b.set (.box (aY {x with back:=x.back++R.runs} v') none);have f:=λlo=>Te (x:={x with back:=x.back++R.runs}) (bk:=v') n lo hx.s x.c.r hx.c.r {cY with up:=0,cF:=R.cF} ⟨by simp[cY],by simp[cY]⟩ (by simp[cY]) (by simp[cY])
 have K:aY {x with back:=x.back++R.runs} v'=aY x v':=rfl;rw[K]at f;have M:N<c.length:=(ack.1 w0).1;have E: ∀A B o,(((c.set p A).set p B).set N o)[N]?=some o:=λA B o=>aeI (by simp only[aeU];exact M)
 have I:p≠N:=by omega
 have X:p≠N+1:=by omega
 simp(disch:=omega) only[F1,go_sem,simprocAttr,Qy,k,ho.g,↓CL,CS,M1 ho hx x.c.r hx.c.r,G,kQ,ahT,V,C,j,w0,w1,b.g1,E,f,afW,en,eo,EP,jG];have s: (if v'.refs<=p+1 then none else cO none p)=none/\ (v'= .au/\x.back++R.runs=[])\/ (if v'.refs<=p+1 then none else cO none p)=cO none p:=by
  by_cases t:v'.refs<=p+1
  ·rw[ac6 t];refine .inl ⟨rfl,?_⟩;rcases z.2 with⟨T,O⟩| ⟨id,ak,i1,i2,_⟩
   ·refine⟨T,?_⟩;rw[<-aeP]at O;exact apR.1 O
   ·rw[i2]at t;simp only[AV.refs]at t;omega
  ·rw[ac0 t];exact .inr rfl
 have f0:bW p (H++[ae.box [.int .i64 0,.int .u64 0,.int .u32 0] none,.box (b8 R) none]) c:=⟨U,λi hi=>P i (by omega),λi o _ ho Z=>u i o ho Z⟩;have f1:=f0.trans (bW.set p c (.box (aY x v') none));generalize Q: (if v'.refs<=p+1 then none else cO none p)=aj at*
 (repeat' (first| (refine⟨?_,?_⟩)|intro _))
 ·rename_i g l m3;have hA:At p (({x with back:=x.back++R.runs}:az).t (ed x.s.T x.c.r {cY with up:=0,cF:=R.cF}).1) v' ((c.set p (.box (aY x v') none)).set p (.box (aY (({x with back:=x.back++R.runs}:az).t (ed x.s.T x.c.r {cY with up:=0,cF:=R.cF}).1) v') none)):=
   ⟨by rw[ake];exact b.g1 _,by rw[ake];show aP _ _ _ _ _ (List.map aD (x.back++R.runs));rw[aeP];exact aP.nG z j⟩
  have f2:=f1.trans (bW.set p (c.set p (.box (aY x v') none)) (.box (aY (({x with back:=x.back++R.runs}:az).t (ed x.s.T x.c.r {cY with up:=0,cF:=R.cF}).1) v') none));obtain⟨H3,W,g1,g2,g3,g4⟩:=zI (v:=.agg [.int .i64 0,.int .u64 0,.int .u32 0]) (lo:=lo) k m (B:=[ae.box [.int .i64 0,.int .u64 0,.int .u32 0] none,.box (b8 R) none]) (by simp) hA f2 (s.imp (λq=>⟨q.1,.inr q.2,trivial⟩) id) (adC _)
   (by rw[ake,ach I];exact w0) (.box [.int .i64 0,.int .u64 0,.int .u32 0] none)
  rw[g1];simp only[mb,iq,okB,g,l,m3];exact⟨_,_,_,rfl,g2,g3,g4⟩
 ·rename_i g l e m3;obtain⟨E1,l1,e1,e2,e3⟩:=Ld (v:=jF e) (lo:=lo) k m f1 (s.imp And.left id) (adC _);rw[e1];simp only[mb,iq,okB,dj,g,l,m3];exact⟨_,_,rfl,e2,e3⟩
 ·rename_i g e l;simp only[okB,dj,g,l];exact .err
 ·rename_i e g;simp only[dj,g];exact .err
end
def at3{N:Nat}{H B W:List ae}{aj:oN}{Q:Prop}(g:H.length=N)(d:p<N)(i: ∀o∈B,∃cs tg,o=ae.box cs tg)(j:At p y bk W)(h:bW p (H++B) W)(f: (aj=none/\ (W.length=(H++B).length\/ (bk= .au/\y.back=[]))/\Q)\/aj=cO none p)(e:v.refs<=N)
  {cs:lA} {tg:Option TypeId} (b:W[N]?=some (.box cs tg)):
  ∃c a,finish N lo v ⟨W,aj⟩=(v,⟨c,a⟩)/\At p y bk c/\bW p H c/\vQ Q p H c lo a:=by
 have:=zI (v:=v) (lo:=lo) g d i j h f e b (.box cs tg);rwa[pY b]at this
def at4(bk:AV)(p:Nat)(H:List ae)(lo:oN):R az->aU->Prop
 |.ok y,b=> ∃a H' aj,b= .ret (.aA []) ⟨H',aj⟩/\At p y a H'/\bW p H H'/\vQ (a=bk\/a= .au) p H H' lo aj
 |.error e,b=>b= .panic (jF e) ⟨H,lo⟩
section
variable{x:az}{bk:AV}{p:Nat}{H:List ae}(lo:oN)(ha:At p x bk H)(hs:aV x.s)
include ha hs
theorem ahY(h:Nat)(n:h<4294967296)(aa:Nat)(I:aa<256)(J:x.back.length+64*(under x.s.T h).length<=4294967296):
  ∃A,D XA (.fn (.func 266) [] []) [.ptr p 0,.int .u32 h,.int .i64 aa] ⟨H,lo⟩=some A/\at4 bk p H lo (jl x h aa) A:=by
 refine cI JX λN f=>?_
 have ho:Old p H (.box (aY x bk) none):=⟨ha.box⟩;have k:p<N:=by rw[<-f];exact ho.lt
 have y:=λH lo=>lx (asD x.s.O hs.O x.s.T hs.T hs.tr h n aa I H lo)
 have w:=λH=>iF (db x.s.O x.s.T h aa false).2.2 H
 have L:jl x h aa=ca (db x.s.O x.s.T h aa false).2.2>>=λ_=>.ok (if(db x.s.O x.s.T h aa false).2.1=0 then eh (x.o (db x.s.O x.s.T h aa false).1) h else x.o (db x.s.O x.s.T h aa false).1):=rfl
 have l:gr (db x.s.O x.s.T h aa false).1:=hs.O.held n;rw[L];have i:=agN hs.O (t:=x.s.T) (r:=h) (aa:=aa) (hold:=false);generalize db x.s.O x.s.T h aa false=g at*;have s: ∀v,(H++[ae.box (cU g.1) none]).set p v=H.set p v++[ae.box (cU g.1) none]:=λv=>ho.s _ _
 have u:At p (x.o g.1) bk (H.set p (.box (aY (x.o g.1) bk) none)++[ae.box (cU g.1) none]):=⟨ho.g2 _ _,aP.ext (aP.nG ha.own ha.box)⟩;obtain⟨M,W,aj,g1,g2,z,K⟩:=Ti u (hs.qd l) h n J none;have f1:bW p (H++[ae.box (cU g.1) none]) (H.set p (.box (aY (x.o g.1) bk) none)++[ae.box (cU g.1) none]):=by rw[<-s];exact bW.set _ _ _
 by_cases j:g.2.1=0
 ·have c:decide ((Ft g.2.1:Int)=0)=true:=ady (by rw[j];rfl);simp only[F1,go_sem,simprocAttr,JX,f,ho.g,ho.s,↓CL,CS,y,w,c,g1,en,eo,EP,hY];have o:W[N]?=some (.box (cU g.1) none):=z.box N _ (by omega) (λa d e=>by cases e) (by rw[(OL f).1];rfl);have m: (H.set p (.box (aY (x.o g.1) bk) none)++[ae.box (cU g.1) none]).length=(H++[ae.box (cU g.1) none]).length:=by simp
  obtain⟨O,B,G,F,E,C⟩:=at3 (v:=.aA []) (lo:=lo) f k B8 g2 (f1.trans z) (K.imp (λq=>⟨q.1,.inl (q.2.1.trans m),q.2.2⟩) id) (adC _) o;rw[G]
  (repeat' (first| (refine⟨?_,?_⟩)|intro _))
  ·rename_i b;simp only[b,okB,ac6 j];exact⟨_,_,_,rfl,F,E,C⟩
  ·rename_i e b;simp only[b,dj];rfl
 ·have c:decide ((Ft g.2.1:Int)=0)=false:=adb (by
    have:=mt (asC _ i).1 j;omega)
  simp only[F1,go_sem,simprocAttr,JX,f,ho.g,ho.s,↓CL,CS,y,w,c,en,eo,EP,hY,OL f]
  (repeat' (first| (refine⟨?_,?_⟩)|intro _))
  ·rename_i b;simp only[b,okB,ac0 j];exact⟨bk,_,lo,rfl,⟨ho.g1 _,aP.nG ha.own ha.box⟩,bW.set _ _ _,.inl ⟨rfl,by simp,.inl rfl⟩⟩
  ·rename_i e b;simp only[b,dj];rfl
end
section
variable{x:az}{bk:AV}{p:Nat}{H:List ae}(lo:oN)(ha:At p x bk H)(hx:mX x)
include ha hx
theorem at5(l:x.back.length+64*(under x.s.T x.c.r).length<=4294967296): ∃g,D XA (.fn (.func 235) [] []) [.ptr p 0] ⟨H,lo⟩=some g/\s7 p H lo (xb x) g:=by
 refine cI JO λN f=>?_
 have ho:Old p H (.box (aY x bk) none):=⟨ha.box⟩;have h:p<N:=by rw[<-f];exact ho.lt
 have s:=hx.t;obtain⟨g,g1,g2⟩:=ahY (bk:=bk) (H:=H++[.box [.int .i64 0,.int .u64 0,.int .u32 0] none]) none ⟨ho.g _,ha.own.ext⟩ hx.s x.c.r hx.c.r x.aa (by omega) l;have n:xb x=zn x x.c.r>>=λ_=>jl x x.c.r x.aa>>=λy=>.ok (y,bu):=rfl
 rw[n];cases i:jl x x.c.r x.aa with
 |error e=>
  rw[i]at g2;have g2:g=_:=g2;rw[g2]at g1;simp only[F1,go_sem,simprocAttr,JO,f,ho.g,↓CL,λB lo=>Fy (ho.app B) lo hx.s hx.t x.c.r hx.c.r,g1,en,eo,EP,jG]
  (repeat' (first| (refine⟨?_,?_⟩)|intro _))
  ·rename_i b;simp only[b,okB,dj];exact .err
  ·rename_i o b;simp only[b,dj];exact .err
 |ok y=>
  rw[i]at g2;obtain⟨r,W,aj,rfl,g2,j,m⟩:=g2;have c:W[N]?=some (.box [.int .i64 0,.int .u64 0,.int .u32 0] none):=j.box N _ (by omega) (λa d e=>by cases e) (by rw[dB f];rfl);simp only[F1,go_sem,simprocAttr,JO,f,ho.g,↓CL,λB lo=>Fy (ho.app B) lo hx.s hx.t x.c.r hx.c.r,g1,c,cZ c,en,eo,EP];obtain⟨t,k,f1,f2,f3,f4⟩:=zI (v:=.agg [.int .i64 0,.int .u64 0,.int .u32 0]) (lo:=lo) f h B8 g2 j (m.imp (λq=>⟨q.1,.inl q.2.1,trivial⟩) id) (adC _) c (.box [.int .i64 0,.int .u64 0,.int .u32 0] none);rw[f1]
  (repeat' (first| (refine⟨?_,?_⟩)|intro _))
  ·rename_i b;simp only[b,okB];exact⟨_,_,_,rfl,f2,f3,f4⟩
  ·rename_i o b;simp only[b,dj];exact .err
end
def at6(d:cu t): ∀ (n x:Nat),dep t x<=n->k∈aR t x-> ∀c∈aR t k,c∈aR t x:=by
 intro n
 induction n with
 |zero=>intro x b a;unfold dep at b;grind
 |succ n e=>
  intro x b a c f;by_cases hu:bD t x=0
  ·rw[pL d,ac6 hu]at a;cases a
  ·grind [BJ,xz]
def FA(d:cu t){x:Nat}: ∀n c,x∈iP t n c->x=c\/c∈aR t x:=by
 intro n
 induction n with
 |zero=>intro c h;left;simpa[iP]using h
 |succ n e=>
  intro c h;rcases aeZ.1 h with h|h
  ·omega
  ·right
   obtain⟨k,f,a⟩:=apm.1 h;obtain⟨g1,g2,_⟩:=Ku f;have b:c∈aR t k:=by rw[xz d (x:=k) (by rw[g2];exact Kt g1),g2];grind
   rcases e k a with rfl|a
   ·omega
   ·exact at6 d _ x (adA _) a c b
def at7(f:cu t): ∀ (n x a b:Nat),dep t x<=n->a∈x::aR t x->b∈x::aR t x->dep t a=dep t b->a=b:=by
 intro n
 induction n with
 |zero=>
  intro x a b g d e _;unfold dep at g
  grind
 |succ n i=>
  intro x a b g d e he;have lt: ∀c∈aR t x,dep t c<dep t x:=λc h=>Fw f _ x (adA _) h
  rcases aeZ.1 d with rfl|d
  ·grind
  ·rcases aeZ.1 e with rfl|e
   ·grind
   ·by_cases hu:bD t x=0
    ·rw[pL f,ac6 hu]at d;cases d
    ·have j:=BJ f hu;rw[xz f hu]at d e
     grind
def Tk(b:cN): (bt b).Nodup:=by
 refine List.Pairwise.map _ (λi j c=>?_) (auh (S:=λi j=>i<32/\j<32/\i≠j) (λe d a=>⟨?_,?_,a⟩) (List.nodup_range.filter _))
 ·unfold dh;omega
 ·grind
 grind
def aua(t:ar)(h:Nat): (kids t h).Nodup:=by
 unfold kids;split
 ·exact(Tk _).filter _
 grind
def ahZ(a:cu t): ∀n h,(iP t n h).Nodup:=by
 intro n
 induction n with
 |zero=>simp[iP]
 |succ n g=>
  intro h;refine arU.2 ⟨λhm=>?_,?_⟩
  ·obtain⟨k,j,b⟩:=apm.1 hm;have o:=BK a j;rcases FA a n k b with e|e
   ·grind
   ·have:=Fw a _ h (adA _) e;omega
  ·refine List.pairwise_flatMap.2 ⟨λk _=>g k,auh (λr p d x b y i e=>?_) (aua t h)⟩;subst e;have m:=FA a n _ b;have l:=FA a n _ i;have f: ∀c,(x=c\/c∈aR t x)->c∈x::aR t x:=λc q=>q.elim (λe=>by grind) (aeR _)
   exact d (at7 a _ x _ _ (adA _) (f _ m) (f _ l) (by grind [BK]))
def Tl(a:cu t)(h:Nat): (under t h).Nodup:=by
 unfold under;split
 ·exact ahZ a 32 h
 grind
theorem Tm: ∀ (l m:lN),l.Nodup->(∀z∈l,z∈m)->l.length<=m.length
 | [],_,_,_=>adC _
 |a::l,m,c,h=>by
  obtain⟨e,d⟩:=arU.1 c;have:=Tm l (m.erase a) d λz b=>(List.mem_erase_of_ne λq=>by grind).2 (h z (aeR _ b))
  grind
def Tn{b:cN}{y z:Nat}(c:aq b z=true)(d:aq b y=true)(a:z≠y):aq (dC b y).1 z=true:=by
 obtain⟨j,e,f⟩:=lu.1 c;unfold dC;rw[ac6 d];refine lu.2 ⟨j,e,?_⟩;show ai b (aI y) _ j=_;rw[bA λq=>a (zE c d (by rw[BI e];exact q))];exact f
def aub{b:cN}(g:iB b){y:Nat}(c:aq b y=true): (bt (dC b y).1).length+1<=(bt b).length:=by
 have d:=Tk (dC b y).1;have i:y∉bt (dC b y).1:=λhm=>by
  have f:=(iQ (E7 g y)).1 hm;obtain⟨j,e,a⟩:=lu.1 f;unfold dC at a;rw[ac6 c]at a;have a:ai b (aI y) (nm (b (aI y))) j=_:=a;rw[BI e,bI]at a;unfold nm at a
  grind
 have h: ∀z∈y::bt (dC b y).1,z∈bt b:=λz k=>by grind [iQ,K7,E7]
 have:=Tm _ _ (arU.2 ⟨i,d⟩) h;omega
theorem ah0: ∀ (l:lN) (t:ar),iB t.b->l.Nodup->(∀z∈l,t.aq z=true)->(bt (fY t l).b).length+l.length<=(bt t.b).length
 | [],t,_,_,_=>by simp[fY]
 |y::l,t,d,h,c=>by
  have a:aq t.b y=true:=c y (aeX ..);have e: (fj t y).1={b:=(dC t.b y).1,r:=ai t.r (aI y) cY}:=by
   unfold fj;grind
  have f: (fj t y).1.b=(dC t.b y).1:=by rw[e]
  have i:=ah0 l (fj t y).1 (by rw[f];exact E7 d y) (arU.1 h).2 λz g=>by
   show aq (fj t y).1.b z=true;rw[f];exact Tn (c z (aeR _ g)) a λq=>by grind
  have j:=aub d a;have k:fY t (y::l)=fY (fj t y).1 l:=rfl
  grind
def auc(h:ek t)(a:Nat): (under t a).length<=(bt t.b).length:=
 Tm _ _ (Tl h.tr a) λz b=>(iQ h.ok.b).2 (KJ h.ok b)
def aud(h:ek t)(a:Nat): (bt (ik t a).1.b).length+(under t a).length<=(bt t.b).length:=by
 unfold ik;split
 ·grind
 ·exact ah0 (under t a) t h.ok.b (Tl h.tr a) λz b=>KJ h.ok b
def fk(x:az):Nat:=x.back.length+64*(bt x.s.T.b).length
def To(a:aV x.s)(h:Nat):fk (eh x h)<=fk x:=by
 have d:=ahV (under x.s.T h) x a.T;have c:=ahU (under x.s.T h) x;have b:=aud a.dY h;have e1: (eh x h).back=((under x.s.T h).foldl fw x).back:=rfl;have e: (eh x h).s.T=(ik ((under x.s.T h).foldl fw x).s.T h).1:=rfl;unfold fk
 grind
def Tp(a:aV x.s)(h:Nat):x.back.length+64*(under x.s.T h).length<=fk x:=by
 have:=auc a.dY h;unfold fk;omega
def FB(b:aV x.s)(h:Nat):aV (eh x h).s:=by
 have a:=Th (under x.s.T h) x b;exact a.s6 (a.dY.atx h)
structure LI(bk:AV)(p N:Nat)(H:List ae)(y:az)(nJ:AV)(W:List ae)(lo:oN):Prop where
 at':At p y nJ W
 fr:bW p H W
 ok:aV y.s
 fk:fk y<=2048
 lo: (eB N lo/\ (nJ=bk\/nJ= .au))\/lo=some p
section
variable{bk:AV}{p N:Nat}{H:List ae}{y:az}{nJ:AV}{W:List ae}{mg:oN}(oE:p<N)(h:LI bk p N H y nJ W mg)
include h
theorem LI.dW:Old p W (.box (aY y nJ) none):=⟨h.at'.box⟩
theorem LI.app(L:List ae):LI bk p N H y nJ (W++L) mg:=⟨⟨bm h.at'.box,h.at'.own.ext⟩,h.fr.trans (bW.app p W L (ack.1 h.at'.box).1),h.ok,h.fk,h.lo⟩
theorem LI.set{z:az}(a:aV z.s)(b:z.back=y.back)(c: (bt z.s.T.b).length<=(bt y.s.T.b).length):LI bk p N H z nJ (W.set p (.box (aY z nJ) none)) mg:=
 ⟨⟨by rw[aeI h.dW.lt],by rw[b];exact aP.nG h.at'.own h.at'.box⟩,h.fr.trans (bW.set _ _ _),a,by have:=h.fk;unfold Go.Proofs.YteplichagkpciaaGreatDoor.fk at*;grind,h.lo⟩
include oE
theorem LI.next{z:az}{a:AV}{c:List ae}{b:oN}(k:At p z a c)(i:bW p W c)(g:vQ (a=nJ\/a= .au) p W c mg b)(e:aV z.s)(f:Go.Proofs.YteplichagkpciaaGreatDoor.fk z<=Go.Proofs.YteplichagkpciaaGreatDoor.fk y):LI bk p N H z a c b:=by
 refine⟨k,h.fr.trans i,e,aga f h.fk,?_⟩;rcases g with⟨rfl,_,q⟩|rfl
 ·rcases h.lo with⟨d,l⟩|d
  ·grind
  grind
 ·right
  rcases h.lo with⟨rfl| ⟨j,m,rfl⟩,_⟩|rfl
  ·rfl
  ·exact ahR some (apJ (show p<=j by omega))
  ·exact ahR some (aAO p)
theorem LI.gone(a:Nat)(f:a<4294967296): ∃c d b,D XA (.fn (.func 258) [] []) [.ptr p 0,.int .u32 a] ⟨W,mg⟩=some (.ret (.aA []) ⟨d,b⟩)/\LI bk p N H (eh y a) c d b/\bW p W d:=by
 obtain⟨c,d,b,g1,g2,e,g⟩:=Ti h.at' h.ok a f (by have:=Tp h.ok a;have:=h.fk;omega) mg;exact⟨c,d,b,g1,h.next oE g2 e g (FB h.ok a) (To h.ok a),e⟩
theorem LI.done(k:H.length=N)(i:At p x bk H)(j:v.refs<=N):
  ∃b a,finish N lo v ⟨W,mg⟩=(v,⟨b,a⟩)/\At p y nJ b/\bW p H b/\vQ (nJ=bk\/nJ= .au) p H b lo a:=by
 rcases h.lo with⟨f,d⟩|rfl
 ·refine⟨_,lo,jE f j,⟨by rw[ago oE];exact h.at'.box,h.at'.own.1,?_⟩,h.fr.take k oE,.inl ⟨rfl,by rw[af9];have:=h.fr.len;omega,d⟩⟩;rcases h.at'.own.2 with q| ⟨id,ak,s,r,o⟩
  ·grind
  ·rcases d with rfl|rfl
   ·rcases i.own.2 with⟨e,_⟩| ⟨g,c,n,m,l⟩
    ·grind
    grind
   grind
 ·exact⟨_,cO lo p,vR oE,h.at',h.fr,.inr rfl⟩
theorem LI.err(e:H.length=N)(d:v.refs<=N): ∃b a,finish N lo v ⟨W,mg⟩=(v,⟨b,a⟩)/\bW p H b/\zH p H b lo a:=by
 rcases h.lo with⟨c,f⟩|rfl
 ·exact⟨_,lo,jE c d,h.fr.take e oE,.inl ⟨rfl,by rw[af9];have:=h.fr.len;omega,trivial⟩⟩
 ·exact⟨_,cO lo p,vR oE,h.fr,.inr rfl⟩
end
theorem ah1{m:Nat}{I:Nat->Env->List ae->oN->Prop}{Q:bY}{a:Fr}{E:AS}:AE k m I Q (.panic v) a E=Q (.panic v) a E:=rfl
instance:Inhabited eY:=⟨zm⟩
def aue(bk:AV)(p:Nat)(H:List ae)(lo:oN):R az->aU->Prop
 |.ok y,b=> ∃a H' aj,b= .ret (.aA []) ⟨H',aj⟩/\At p y a H'/\bW p H H'/\vQ (a=bk\/a= .au) p H H' lo aj
 |.error e,b=> ∃H' aj,b= .panic (jF e) ⟨H',aj⟩/\bW p H H'/\zH p H H' lo aj
def s8(y:az)(m:eY):R az:=if m.aJ=0\/m.share=true then pure y else if y.s.alive m.fr then kK y m.aJ m.fr else pure (eh y m.aJ)
def nK(x:az)(aa:Nat):az:={x.bx aa rp with s:={(x.bx aa rp).s with alive:=ai (x.bx aa rp).s.alive aa false}}
def Le(y:az)(aa:Nat):R az:=
 ((bt y.s.T.b).filter λh=>decide (root y.s.T h=h)&&decide ((bH y.s.O y.s.T h).kind=3)&& (decide (aa<8)&&fT (bH y.s.O y.s.T h).hold aa)).foldlM (λy h=>jl y h aa) y
def Tq(y:az)(aa:Nat):R az:=do
 let y:=((bt y.s.T.b).filter λh=>decide (root y.s.T h=h)&&decide ((bH y.s.O y.s.T h).kind=1)&&decide ((bH y.s.O y.s.T h).aa=aa)).foldl eh y
 ((bt y.s.T.b).filter λh=>decide (root y.s.T h=h)&&decide ((bH y.s.O y.s.T h).kind=3)&& (decide (aa<8)&&fT (bH y.s.O y.s.T h).hold aa)).foldlM (λy h=>jl y h aa) y
def B9(y:az)(aa:Nat):R az:=do
 let y:=(rm y.s.K aa).foldl (λy h=>y.k (jC y.s.K h).1) y
 let y:=((bt y.s.T.b).filter λh=>decide (root y.s.T h=h)&&decide ((bH y.s.O y.s.T h).kind=1)&&decide ((bH y.s.O y.s.T h).aa=aa)).foldl eh y
 ((bt y.s.T.b).filter λh=>decide (root y.s.T h=h)&&decide ((bH y.s.O y.s.T h).kind=3)&& (decide (aa<8)&&fT (bH y.s.O y.s.T h).hold aa)).foldlM (λy h=>jl y h aa) y
theorem Lf(x:az)(aa:Nat):lC x aa=(dG (x.s.bw aa)).foldlM s8 (nK x aa)>>=λy=>B9 y aa:=rfl
def foldlM_succ[Inhabited β]{f:α->β->R α}{l:List β}{a:α}(h:k<l.length): (l.take (k+1)).foldlM f a=((l.take k).foldlM f a>>=λy=>f y (l.getD k default)):=by grind [List.take_add_one,List.getElem?_eq_getElem,List.foldlM_append]
def ah2{f:α->β->R α}{l:List β}{a:α}(h: (l.take k).foldlM f a= .error e):l.foldlM f a= .error e:=by
 rw[<-aoX k l,List.foldlM_append,h];rfl
def zJ(y:az)(h:Nat):az:=y.k (jC y.s.K h).1
def foldl_succ{f:α->Nat->α}{l:lN}{a:α}(h:k<l.length): (l.take (k+1)).foldl f a=f ((l.take k).foldl f a) (l.getD k default):=by grind [List.take_add_one,List.getElem?_eq_getElem,getD_eq]
def ah3{z:az}{h:Nat}(hs:aV y.s)(d:h<4294967296)(b:jl y h aa= .ok z):aV z.s/\fk z<=fk y:=by
 have f:jl y h aa=ca (db y.s.O y.s.T h aa false).2.2>>=λ_=>.ok (if(db y.s.O y.s.T h aa false).2.1=0 then eh (y.o (db y.s.O y.s.T h aa false).1) h else y.o (db y.s.O y.s.T h aa false).1):=rfl
 rw[f]at b;have a:aV (y.o (db y.s.O y.s.T h aa false).1).s:=hs.qd (hs.O.held d);cases c:ca (db y.s.O y.s.T h aa false).2.2 with
 |error e=>rw[c]at b;cases b
 |ok _=>
  rw[c]at b;cases b;split
  ·exact⟨FB a h,To a h⟩
  ·exact⟨a,adA _⟩
section
variable{x:az}{bk:AV}{p:Nat}{H:List ae}(lo:oN)(ha:At p x bk H)(hs:aV x.s)
include ha hs
theorem ah4(aa:Nat)(ht:aa<8)(hp:fk x<=2048):
  ∃cr,D XA (.fn (.func 218) [] []) [.ptr p 0,.int .i64 aa] ⟨H,lo⟩=some cr/\aue bk p H lo (lC x aa) cr:=by
 refine cI Qv λN hN=>?_
 have ho:Old p H (.box (aY x bk) none):=⟨ha.box⟩;have O:p<N:=by rw[<-hN];exact ho.lt
 obtain⟨w,d1,d2,d3⟩:=atp (x.s.bw aa) (hs.bx aa) H none;have d1:=lx d1;have c1: (aa:Int)<8:=by omega
 have c2:784+aa*19<=945:=by omega
 have c3:936+aa<=963:=by omega
 have hb:=λ (y:az) bk=> @K2 y bk aa ht
 have hsb:=λ (y:az) bk b=> @K3 y bk aa b ht
 have hsa:=λ (y:az) bk v=> @ahs y bk aa v ht
 have J:=λE=>(show Rd E w 4 ((dG (x.s.bw aa)).map eN)from d2 E).bZ
 have hbl: (dG (x.s.bw aa)).length<=4:=by have:=(hs.bx aa).n;simp[dG];omega
 have hml: ∀m∈dG (x.s.bw aa),qc m:=λm hm=>by
  obtain⟨i,_,rfl⟩:=aeO.1 hm;exact(hs.bx aa).ring _
 rw[Lf];generalize hl:dG (x.s.bw aa)=l at*;simp only[go_sem,simprocAttr,Qv,hN,ho.at',ho.g,ho.s,ho.g2,ho.s2,CS,c1,c2,c3,↓hb,hsb,hsa,d1,J,MB];have hs0:aV (nK x aa).s:=(hs.vO hZ.gone).Fx;have aug:LI bk p N H (nK x aa) bk (H.set p (.box (aY (nK x aa) bk) none)) none:=LI.set ⟨ha,bW.refl _ _,hs,hp,.inl ⟨.inl rfl,.inl rfl⟩⟩ hs0 rfl (adA _);refine gZ l.length (λk e W' aj=> ∃y I,(l.take k).foldlM s8 (nK x aa)= .ok y/\LI bk p N H y I W' aj/\e 0= .ptr p 0/\e 1= .int .i64 aa/\e 38=w/\e 39= .int .i64 l.length/\e 40= .int .i64 k) 0 (by omega) ?_ ?_
 ·simp only[go_sem,simprocAttr];exact⟨nK x aa,bk,rfl,aug.app _⟩
 rintro k hk e U s ⟨y,A,y1,d,C,B,r,o,j⟩ n hn;simp only[cm,go_sem,simprocAttr,aem,d.dW.at',↓CL,C,B,r,o,j];refine⟨λW=>?_,λW=>?_⟩
 ·have g:k<l.length:=by omega
  have F:=(show Rd ⟨U,s⟩ w 4 (l.map eN)from d2 _);have c:=foldlM_succ (f:=s8) (a:=nK x aa) g;rw[y1,okB]at c;have hmo:qc (l.getD k default):=by
   exact hml _ (by simp[List.getD,g])
  have Tr:=hmo.aJ;have hmf:=hmo.fr;have L2:=d.app [ae.box (eN (l.getD k default)) none];have oW:=d.dW;have oZ:=λ (z:az) bk=> @S4 z bk (l.getD k default).fr hmf
  have c4: ((l.getD k default).fr:Int)<8:=by omega
  have e1:s8 y (l.getD k default)=if(l.getD k default).aJ=0\/ (l.getD k default).share=true then .ok y else if y.s.alive (l.getD k default).fr then kK y (l.getD k default).aJ (l.getD k default).fr else .ok (eh y (l.getD k default).aJ):=rfl
  rw[e1]at c;by_cases h0: (l.getD k default).aJ=0
  ·have S:decide (((l.getD k default).aJ:Int)=0)=true:=ady (by omega);rw[ac6 (.inl h0)]at c;simp(disch:=omega) only[go_sem,simprocAttr,F.cn,F.cE,oC,S,hn,C,B,r,o,j];exact⟨by omega,g,y,A,c,L2⟩
  ·have S:decide (((l.getD k default).aJ:Int)=0)=false:=adb (by omega);cases G: (l.getD k default).share with
   |true=>
    rw[ac6 (.inr G)]at c;rw[oC,G]at L2;simp(disch:=omega) only[go_sem,simprocAttr,F.cn,F.cE,oC,S,G,hn,C,B,r,o,j];exact⟨by omega,g,y,A,c,L2⟩
   |false=>
    rw[ac0 (by rintro(q|q);exact h0 q;rw[G]at q;cases q)]at c;rw[oC,G]at L2;cases Y:y.s.alive (l.getD k default).fr with
    |false=>
     rw[Y,ac0 (by simp)]at c;obtain⟨T,W2,Q,g1,g2,Z⟩:=L2.gone O (l.getD k default).aJ Tr;simp(disch:=omega) only[go_sem,simprocAttr,F.cn,F.cE,oC,S,G,Y,oW.g,c4,↓oZ,g1,hn,C,B,r,o,j];exact⟨by omega,g,_,T,c,g2⟩
    |true=>
     rw[Y,ac6 rfl]at c;have hw:=Lb (ho:=L2.dW) (lo:=s) L2.ok (l.getD k default).aJ Tr (l.getD k default).fr (by omega);simp(disch:=omega) only[go_sem,simprocAttr,F.cn,F.cE,oC,S,G,Y,oW.g,oW.s,c4,↓oZ,hw,ah1,en,eo,EP,hn,C,B,r,o,j];refine⟨by omega,λm1=>⟨g,_,A,?_,(d.set (z:=y.o (ow y.s.O y.s.T (l.getD k default).aJ (l.getD k default).fr).1) (d.ok.qd (d.ok.O.gL Tr)) rfl (adA _)).app _⟩,λe' m1=>?_⟩
     ·rw[c];unfold kK;rw[m1];rfl
     ·obtain⟨H2,Q,g1,g2,Z⟩:=LI.err (v:=jF e') (lo:=lo) O L2 hN (adC _);have c: (l.take (k+1)).foldlM s8 (nK x aa)= .error e':=by rw[c];unfold kK;rw[m1];rfl
      rw[ah2 c,dj];rw[g1];exact⟨_,_,rfl,g2,Z⟩
 ·obtain rfl:k=l.length:=by omega
  rw[aeQ]at y1;rw[y1,okB];clear hsa hsb hb d1 J hml;have ah9:=d.ok;obtain⟨wt,t1,t2,t3⟩:=asJ y.s.K ah9.K aa U s;have t1:=ly t1;have Ts:=λE=>(show Rd E wt 1 ((rm y.s.K aa).map hC)from t2 E).bZ
  simp only[go_sem,simprocAttr,t1,Ts];have e1:B9 y aa=Tq ((rm y.s.K aa).foldl zJ y) aa:=rfl;rw[e1];have K: (rm y.s.K aa).length<=32:=aga (ah5 _ _) (nr _);generalize Aw:rm y.s.K aa=M at*;have u: ∀z∈M,z<4294967296:=λz hz=>by
   rw[<-Aw]at hz;exact gl ((iQ ah9.K.b).1 (ae2.1 hz).1)
  refine gZ M.length (λk e W' aj=> ∃I,LI bk p N H ((M.take k).foldl zJ y) I W' aj/\e 0= .ptr p 0/\e 1= .int .i64 aa/\e 80=wt/\e 81= .int .i64 M.length/\e 82= .int .i64 k) 0 (by omega) ?_ ?_
  ·simp only[go_sem,simprocAttr,C,B];exact⟨A,d⟩
  clear d y1 hk C B r o j W t1 d2 d3;rintro k hk e U s ⟨A,d,C,B,r,o,j⟩ n hn;simp only[cm,go_sem,simprocAttr,ael,d.dW.at',↓CL,C,B,r,o,j];refine⟨λW=>?_,λW=>?_⟩
  ·have g:k<M.length:=by omega
   have F:=(show Rd ⟨U,s⟩ wt 1 (M.map hC)from t2 _);have c:=foldl_succ (f:=zJ) (a:=y) g;have P:=u (M.getD k default) (by simp[List.getD,g]);obtain⟨w',L⟩:=ag1 ((M.take k).foldl zJ y).s.K d.ok.K (M.getD k default) P (d.ok.th _) U s;have L:=ly L;simp(disch:=omega) only[go_sem,simprocAttr,F.cn,F.cE,↓pH,d.dW.at',↓CL,CS,L,C,B,r,o,j];rw[c];exact⟨by omega,g,A,d.set (z:=zJ ((M.take k).foldl zJ y) (M.getD k default)) (d.ok.xA (d.ok.tok.ret _)) rfl (adA _)⟩
  ·obtain rfl:k=M.length:=by omega
   simp only[aeQ]at d⊢;clear Aw K u Ts t2 hk W;generalize M.foldl zJ y=z at*;obtain⟨wr,L,r2,r3⟩:=as2 z.s.O d.ok.O z.s.T d.ok.T d.ok.tr aa U s;have L:=ly L;have R:=λE=>(show Rd E wr 1 ((kh z.s.O z.s.T (qb aa)).map hC)from r2 E).bZ
   simp only[go_sem,simprocAttr,L,R];have e1:Tq z aa=Le ((kh z.s.O z.s.T (qb aa)).foldl eh z) aa:=by
    have: (λh=>decide (root z.s.T h=h)&&decide ((bH z.s.O z.s.T h).kind=1)&&decide ((bH z.s.O z.s.T h).aa=aa))=xu z.s.O z.s.T (qb aa):=by funext h;simp[xu,qb,Bool.and_assoc]
    unfold Tq kh Le;rw[this]
   rw[e1];have K: (kh z.s.O z.s.T (qb aa)).length<=32:=aga (ah5 _ _) (nr _);have u: ∀a∈kh z.s.O z.s.T (qb aa),a<4294967296:=λa ha=>gl ((iQ d.ok.T.b).1 (ae2.1 ha).1)
   generalize kh z.s.O z.s.T (qb aa)=X at*;refine gZ X.length (λk e W' aj=> ∃I,LI bk p N H ((X.take k).foldl eh z) I W' aj/\e 0= .ptr p 0/\e 1= .int .i64 aa/\e 117=wr/\e 118= .int .i64 X.length/\e 119= .int .i64 k) 0 (by omega) ?_ ?_
   ·simp only[go_sem,simprocAttr,C,B];exact⟨A,d⟩
   clear d C B r o j L e1 R;rintro k hk e U s ⟨A,d,C,B,r,o,j⟩ n hn;simp only[cm,go_sem,simprocAttr,aek,d.dW.at',↓CL,C,B,r,o,j];refine⟨λW=>?_,λW=>?_⟩
   ·have g:k<X.length:=by omega
    have F:=(show Rd ⟨U,s⟩ wr 1 (X.map hC)from r2 _);have c:=foldl_succ (f:=eh) (a:=z) g;have P:=u (X.getD k default) (by simp[List.getD,g]);obtain⟨T,W2,Q,g1,g2,Z⟩:=d.gone O (X.getD k default) P;simp(disch:=omega) only[go_sem,simprocAttr,F.cn,F.cE,↓pH,g1,C,B,r,o,j];rw[c];exact⟨by omega,g,T,g2⟩
   ·obtain rfl:k=X.length:=by omega
    simp only[aeQ]at d⊢;clear K u r2 hk W;generalize X.foldl eh z=t at*;obtain⟨wh,L,r2,r3⟩:=as3 t.s.O d.ok.O t.s.T d.ok.T d.ok.tr aa (by omega) U s;have L:=ly L;have R:=λE=>(show Rd E wh 1 ((kh t.s.O t.s.T (oB aa)).map hC)from r2 E).bZ
    simp only[go_sem,simprocAttr,L,R];have e1:Le t aa=(kh t.s.O t.s.T (oB aa)).foldlM (λy h=>jl y h aa) t:=by
     have: (λh=>decide (root t.s.T h=h)&&decide ((bH t.s.O t.s.T h).kind=3)&& (decide (aa<8)&&fT (bH t.s.O t.s.T h).hold aa))=xu t.s.O t.s.T (oB aa):=by funext h;simp[xu,oB,Bool.and_assoc]
     unfold kh Le;rw[this]
    rw[e1];have K: (kh t.s.O t.s.T (oB aa)).length<=32:=aga (ah5 _ _) (nr _);have u: ∀a∈kh t.s.O t.s.T (oB aa),a<4294967296:=λa ha=>gl ((iQ d.ok.T.b).1 (ae2.1 ha).1)
    generalize kh t.s.O t.s.T (oB aa)=V at*;refine gZ V.length (λk e W' aj=> ∃y I,(V.take k).foldlM (λy h=>jl y h aa) t= .ok y/\LI bk p N H y I W' aj/\e 0= .ptr p 0/\e 1= .int .i64 aa/\e 140=wh/\e 141= .int .i64 V.length/\e 142= .int .i64 k) 0 (by omega) ?_ ?_
    ·simp only[go_sem,simprocAttr,C,B];exact⟨t,A,rfl,d⟩
    clear d C B r o j L e1 R;rintro k hk e U s ⟨y,A,y1,d,C,B,r,o,j⟩ n hn;simp only[cm,go_sem,simprocAttr,aej,r,o,j];refine⟨λW=>?_,λW=>?_⟩
    ·have g:k<V.length:=by omega
     have F:=(show Rd ⟨U,s⟩ wh 1 (V.map hC)from r2 _);have c:=foldlM_succ (f:=λy h=>jl y h aa) (a:=t) g;rw[y1,okB]at c;have P:=u (V.getD k default) (by simp[List.getD,g]);obtain⟨cr,g1,g2⟩:=ahY s d.at' d.ok (V.getD k default) P aa (by omega) (by have:=Tp d.ok (V.getD k default);have:=d.fk;omega);cases CK:jl y (V.getD k default) aa with
     |ok z3=>
      rw[CK]at g2 c;obtain⟨T,W2,Q,rfl,g2,Z,g4⟩:=g2;have hd:=ah3 d.ok P CK;simp(disch:=omega) only[go_sem,simprocAttr,F.cn,F.cE,↓pH,g1,C,B,r,o,j];exact⟨by omega,g,z3,T,c,d.next O g2 Z g4 hd.1 hd.2⟩
     |error e'=>
      rw[CK]at g2 c;have g2:cr=_:=g2;rw[g2]at g1;simp(disch:=omega) only[go_sem,simprocAttr,F.cn,F.cE,↓pH,g1,ah1,EP,C,B];refine⟨by omega,?_⟩;obtain⟨H2,Q,g1,g2,Z⟩:=LI.err (v:=jF e') (lo:=lo) O d hN (adC _);rw[ah2 c,g1];exact⟨_,_,rfl,g2,Z⟩
    ·obtain rfl:k=V.length:=by omega
     rw[aeQ]at y1;rw[y1];obtain⟨H2,Q,g1,g2,Z,g4⟩:=d.done O (v:=.aA []) (lo:=lo) hN ha (adC _);rw[g1];exact⟨_,_,_,rfl,g2,Z,g4⟩
end
section
variable{x:az}{bk:AV}{p:Nat}{H:List ae}(lo:oN)(ha:At p x bk H)(hx:mX x)
include ha hx
theorem aui(l:fk x<=2048): ∃j,D XA (.fn (.func 243) [] []) [.ptr p 0] ⟨H,lo⟩=some j/\s7 p H lo (lC x x.aa>>=λy=>.ok (y,bu)) j:=by
 refine cI JQ λN f=>?_
 have ho:Old p H (.box (aY x bk) none):=⟨ha.box⟩;have c:p<N:=by rw[<-f];exact ho.lt
 obtain⟨j,g1,g2⟩:=ah4 (bk:=bk) (H:=H++[.box [.int .i64 0,.int .u64 0,.int .u32 0] none]) none ⟨ho.g _,ha.own.ext⟩ hx.s x.aa hx.t l;cases k:lC x x.aa with
 |error e=>
  rw[k]at g2;obtain⟨W,aj,rfl,g,i⟩:=g2;simp only[go_sem,simprocAttr,JQ,f,ho.g,↓CL,g1,EP];obtain⟨n,h,f1,f2,f3⟩:=Ld (v:=jF e) (lo:=lo) f c g (i.imp And.left id) (adC _);rw[f1,dj];exact⟨_,_,rfl,f2,f3⟩
 |ok y=>
  rw[k]at g2;obtain⟨m,W,aj,rfl,g2,g,i⟩:=g2;have b:W[N]?=some (.box [.int .i64 0,.int .u64 0,.int .u32 0] none):=g.box N _ (by omega) (λa d e=>by cases e) (by grind);simp only[go_sem,simprocAttr,JQ,f,ho.g,↓CL,g1,b,cZ b];obtain⟨n,h,f1,f2,f3,f4⟩:=zI (v:=.agg [.int .i64 0,.int .u64 0,.int .u32 0]) (lo:=lo) f c B8 g2 g (i.imp (λq=>⟨q.1,.inl q.2.1,trivial⟩) id) (adC _) b (.box [.int .i64 0,.int .u64 0,.int .u32 0] none);rw[f1,okB];exact⟨_,_,_,rfl,f2,f3,f4⟩
theorem auj(o:fk x<=2048): ∃m,D XA (.fn (.func 244) [] []) [.ptr p 0] ⟨H,lo⟩=some m/\s7 p H lo (xc x) m:=by
 refine cI EJ λN f=>?_
 have ho:Old p H (.box (aY x bk) none):=⟨ha.box⟩;have g:p<N:=by rw[<-f];exact ho.lt
 have r:xc x=mR x x.c.a>>=λ_=>lC x x.c.a>>=λy=>.ok (y,bu):=rfl
 have h:=λB lo=>K9 (ho.app B) lo x.c.a
 rw[r];by_cases k:x.c.a<8
 ·obtain⟨m,g1,g2⟩:=ah4 (bk:=bk) (H:=H++[.box [.int .i64 0,.int .u64 0,.int .u32 0] none]) none ⟨ho.g _,ha.own.ext⟩ hx.s x.c.a k o;cases n:lC x x.c.a with
  |error e=>
   rw[n]at g2;obtain⟨W,aj,rfl,i,l⟩:=g2;simp(disch:=omega) only[F1,go_sem,simprocAttr,EJ,f,ho.g,↓CL,h,g1,en,eo,EP];obtain⟨u,j,f1,f2,f3⟩:=Ld (v:=jF e) (lo:=lo) f g i (l.imp And.left id) (adC _);rw[f1]
   (repeat' (first| (refine⟨?_,?_⟩)|intro _))
   ·rename_i b;rw[b,okB,dj];exact⟨_,_,rfl,f2,f3⟩
   ·rename_i s b;rw[b,dj];exact .err
  |ok y=>
   rw[n]at g2;obtain⟨t,W,aj,rfl,g2,i,l⟩:=g2;have c:W[N]?=some (.box [.int .i64 0,.int .u64 0,.int .u32 0] none):=i.box N _ (by omega) (λa d e=>by cases e) (by rw[dB f];rfl);simp(disch:=omega) only[F1,go_sem,simprocAttr,EJ,f,ho.g,↓CL,h,g1,c,cZ c,en,eo,EP];obtain⟨u,j,f1,f2,f3,f4⟩:=zI (v:=.agg [.int .i64 0,.int .u64 0,.int .u32 0]) (lo:=lo) f g B8 g2 i (l.imp (λq=>⟨q.1,.inl q.2.1,trivial⟩) id) (adC _) c (.box [.int .i64 0,.int .u64 0,.int .u32 0] none);rw[f1]
   (repeat' (first| (refine⟨?_,?_⟩)|intro _))
   ·rename_i b;rw[b,okB,okB];exact⟨_,_,_,rfl,f2,f3,f4⟩
   ·rename_i s b;rw[b,dj];exact .err
 ·rw[xB k]at h;simp only[F1,go_sem,simprocAttr,EJ,f,ho.g,↓CL,h,eu,EP];rw[xB k,dj];exact .err
end
def rI:Nat->oN
 |1=>some 225|2=>some 226|3=>some 227|4=>some 228|5=>some 229
 |6=>some 230|7=>some 231|8=>some 232|9=>some 233|10=>some 234
 |11=>some 235|12=>some 236|13=>some 237|14=>some 238|15=>some 239
 |16=>some 239|17=>some 240|18=>some 241|19=>some 242|20=>some 243
 |21=>some 244|22=>some 245|_=>none
def auk{H:List ae}(lo:oN)(d:At p x bk H)(b:mX x)(j:fk x<=2048){f:Nat}(g:rI x.c.op=some f):
  ∃c,D XA (.fn (.func f) [] []) [.ptr p 0] ⟨H,lo⟩=some c/\s7 p H lo (gp x) c:=by
 have ho:Old p H (.box (aY x bk) none):=⟨d.box⟩;have hB: ∀a,x.back.length+64*(under x.s.T a).length<=4294967296:=λa=>by have:=Tp b.s a;omega
 have i:x.back.length<=4294967296:=by have:=hB 0;omega
 have ex: ∀ {f:Nat} {m:R (az×bE)},(∃c,D XA (.fn (.func f) [] []) [.ptr p 0] ⟨H,lo⟩=some c/\bc x.back bk p H lo m c)-> ∃c,D XA (.fn (.func f) [] []) [.ptr p 0] ⟨H,lo⟩=some c/\s7 p H lo m c:=λh=>by
  obtain⟨c,l,k⟩:=h;exact⟨c,l,k.c d⟩
 unfold rI at g;unfold gp;split at g<;>(try cases g)<;>(rename_i e;simp only[e])
 ·exact ex (atT ho b)
 ·exact ex (atW ho b)
 ·exact ex (atF ho b)
 ·exact ex (atG ho b)
 ·exact at2 lo d b i
 ·exact at1 lo d b (hB _)
 ·exact ex (atP ho b)
 ·exact ex (atJ ho b)
 ·exact ex (atQ ho b)
 ·exact ex (atK ho b)
 ·exact at5 lo d b (hB _)
 ·exact ex (atU ho b)
 ·exact ex (atM ho b)
 ·exact ex (atV ho b)
 ·exact ex (ahQ ho b)
 ·exact ex (ahQ ho b)
 ·exact ex (atL ho b)
 ·exact ex (atO ho b)
 ·exact ex (atI ho b)
 ·exact aui lo d b j
 ·exact auj lo d b j
 ·exact ex (atN ho b)
def aul(h:rI x.c.op=none):gp x= .error 2:=by
 unfold rI at h;unfold gp
 grind
noncomputable def FC:lA->AS->Option aU:=wq XA (D XA) Lw xy 91 wR
def aum(p:Nat)(H:List ae)(lo:oN):R (az×bE)->aU->Prop
 |.ok (y,r),a=> ∃b H' aj,a= .ret (.agg (bB r)) ⟨H',aj⟩/\At p y b H'/\bW p H H'/\zH p H H' lo aj
 |.error e,a=> ∃H' aj,a= .ret (.agg (bB {bu with e:=e})) ⟨H',aj⟩/\bW p H H'/\zH p H H' lo aj
def aun{K:AS->Prop}{H:List ae}{q:Nat}(h:K ⟨H,lo⟩):qN XA xy (.fn (.func 115) [] [.ptr q 0]) [] .eV ⟨H,lo⟩ K:=by
 refine HF (pr:=wS) rfl rfl λn a=>?_
 simp(disch:=omega) only[F1,go_sem,simprocAttr,wS,ahA];exact⟨.inl trivial,.aA [],rfl,by trivial⟩
def Lg{K:AS->Prop}{H:List ae}{q:Nat}{a b c:AV}(e:Nat)(d:H[q]?=some (.box [a,b,c] none))(h:K ⟨H.set q (.box [.int .i64 e,.int .u64 0,.int .u32 0] none),lo⟩):qN XA xy (.fn (.func 115) [] [.ptr q 0]) [] (jF e) ⟨H,lo⟩ K:=by
 refine HF (pr:=wS) rfl rfl λn f=>?_
 simp only[F1,go_sem,simprocAttr,wS,ahB,d,ahC];refine⟨.inl trivial,.aA [],rfl,?_⟩;rw[ac6 (show(AV.aA []).refs<=n from adC _),adz (by grind)];exact h
def aia{H:List ae}(lo:oN)(J:At p x bk H)(K:aV x.s)(P:gB x.c)(M:x.run.1<4294967296/\x.run.2<4294967296)(T:x.aa<4294967296)(O:fk x<=2048)
  (o: ∀E,jK XA.gu E .int .dD (.lM uM) (.int .u8 x.c.op) true=some (match rI x.c.op with|some f=>.aA [.fn (.func f) [] [],.bool true]|none=>.aA [.dD,.bool false])):
  ∃G,FC [.ptr p 0] ⟨H,lo⟩=some G/\aum p H lo (fV x) G:=by
 refine Od wR rfl rfl λN g=>?_
 have ho:Old p H (.box (aY x bk) none):=⟨J.box⟩;have m:p<N:=by rw[<-g];exact ho.lt
 have c: ∀b H lo,D XA (.fn (.func 116) [] []) [.bool b,.int .i64 12] ⟨H,lo⟩=_:=λb=>lJ b 12
 by_cases w:x.aa<8
 ·have s: (x.aa:Int)<8:=by omega
  have c0: (x.aa:Int)>=0:=by omega
  have hand:dE .and (.int .i64 (x.aa:Nat)) (.int .i64 7)=some (.int .i64 (x.aa:Nat)):=by
   rcases(show x.aa=0\/x.aa=1\/x.aa=2\/x.aa=3\/x.aa=4\/x.aa=5\/x.aa=6\/x.aa=7 by omega)with h|h|h|h|h|h|h|h<;>rw[h]<;>rfl
  have n: ∀E,cp XA E false 1 (.dS uM)=some (.lM uM):=λE=>rfl
  have i:=λbk=> @S4 x bk x.aa w
  cases l:x.s.alive x.aa with
  |false=>
   rw[l]at i;have c: ∀H lo,D XA (.fn (.func 116) [] []) [.bool false,.int .i64 12] ⟨H,lo⟩=_:=λH lo=>lx (zA 12 H lo)
   simp only[go_sem,simprocAttr,wR,g,kx,ku,ho.g,↓CL,s,c0,hand,↓i,c,jG];refine⟨rfl,?_⟩;rw[oh];refine Lg 12 (by rw[dB g];rfl) ?_;have u:fV x= .error 12:=by
    have: (decide (x.aa<8)&&x.s.alive x.aa)=false:=by rw[l,aph]
    unfold fV;rw[this];rfl
   simp(disch:=omega) only[F1,go_sem,simprocAttr];rw[u];exact⟨_,_,rfl,bW.refl _ _,.inl ⟨rfl,rfl,trivial⟩⟩
  |true=>
   rw[l]at i;have c: ∀H lo,D XA (.fn (.func 116) [] []) [.bool true,.int .i64 12] ⟨H,lo⟩=_:=λH lo=>lx (Fu 12 H lo)
   have u:fV x=gp x:=by
    have: (decide (x.aa<8)&&x.s.alive x.aa)=true:=by rw[l,ady w];rfl
    unfold fV;rw[this];rfl
   rw[u];cases k:rI x.c.op with
   |none=>
    rw[k]at o;have z: ∀H lo,D XA (.fn (.func 116) [] []) [.bool false,.int .i64 2] ⟨H,lo⟩=_:=λH lo=>lx (zA 2 H lo)
    simp only at o;simp only[go_sem,simprocAttr,wR,g,kx,ku,ho.g,↓CL,s,c0,hand,↓i,c,n,o,z];refine⟨rfl,?_⟩;rw[oh];refine Lg 2 (by rw[dB g];rfl) ?_;simp(disch:=omega) only[F1,go_sem,simprocAttr];rw[aul k];exact⟨_,_,rfl,bW.refl _ _,.inl ⟨rfl,rfl,trivial⟩⟩
   |some f=>
    rw[k]at o;simp only at o;have z: ∀H lo,D XA (.fn (.func 116) [] []) [.bool true,.int .i64 2] ⟨H,lo⟩=_:=λH lo=>lx (Fu 2 H lo)
    obtain⟨G,g1,g2⟩:=auk (bk:=bk) (H:=H++[.box [.int .i64 0,.int .u64 0,.int .u32 0] none]) none ⟨ho.g _,J.own.ext⟩ ⟨K,w,P,M⟩ O k;cases I:gp x with
    |error e=>
     rw[I]at g2;obtain⟨W,aj,rfl,t,F⟩:=g2;have j:W[N]?=some (.box [.int .i64 0,.int .u64 0,.int .u32 0] none):=t.box N _ (by omega) (λa d e=>by cases e) (by rw[dB g];rfl);simp only[go_sem,simprocAttr,wR,g,kx,ku,ho.g,↓CL,s,c0,hand,↓i,c,n,o,z,g1];refine⟨rfl,?_⟩;rw[oh];refine Lg e j ?_;simp only[go_sem,simprocAttr,cZ j];have Q:bW p (H++[]) (W.set N (.box [.int .i64 (e:Nat),.int .u64 0,.int .u32 0] none)):=by
      rw[agc];exact ahX g m (Tj (N:=N) t (by omega)) _
     obtain⟨S,A,f1,f2,f3⟩:=Ld (v:=.agg [.int .i64 (e:Nat),.int .u64 0,.int .u32 0]) (lo:=lo) g m Q (F.imp And.left id) (adC _);rw[f1];exact⟨_,_,rfl,f2,f3⟩
    |ok a=>
     rw[I]at g2;obtain⟨y,r⟩:=a;obtain⟨R,W,aj,rfl,g2,t,F⟩:=g2;have j:W[N]?=some (.box [.int .i64 0,.int .u64 0,.int .u32 0] none):=t.box N _ (by omega) (λa d e=>by cases e) (by rw[dB g];rfl);simp only[go_sem,simprocAttr,wR,g,kx,ku,ho.g,↓CL,s,c0,hand,↓i,c,n,o,z,g1,j];refine⟨rfl,rfl,?_⟩;rw[Dg];refine aun ?_;have L:List.drop (bB r).length [AV.int .i64 0,.int .u64 0,.int .u32 0]=[]:=rfl;have B:List.take 3 (bB r)=bB r:=rfl;have C: (bB r).length=3:=rfl;simp only[go_sem,simprocAttr,cZ j,B,C];obtain⟨S,A,f1,f2,f3,f4⟩:=zI (v:=.agg (bB r)) (lo:=lo) g m B8 g2 t (F.imp (λq=>⟨q.1,.inl q.2.1,trivial⟩) id) (adC _) j (.box (bB r) none);rw[ac6 (show aL (bB r)<=N+1 from adC _),f1];exact⟨_,_,_,rfl,f2,f3,f4⟩
 ·have s: ¬(x.aa:Int)<8:=by omega
  have c0: (x.aa:Int)>=0:=by omega
  have c: ∀H lo,D XA (.fn (.func 116) [] []) [.bool false,.int .i64 12] ⟨H,lo⟩=_:=λH lo=>lx (zA 12 H lo)
  simp only[go_sem,simprocAttr,wR,g,kx,ku,ho.g,↓CL,s,c0,c,jG];refine⟨rfl,?_⟩;rw[oh];refine Lg 12 (by rw[dB g];rfl) ?_;have u:fV x= .error 12:=by
   have: (decide (x.aa<8)&&x.s.alive x.aa)=false:=by rw[adb w];rfl
   unfold fV;rw[this];rfl
  simp(disch:=omega) only[F1,go_sem,simprocAttr];rw[u];exact⟨_,_,rfl,bW.refl _ _,.inl ⟨rfl,rfl,trivial⟩⟩
noncomputable def XB:Ctx:={XA with cg:=λf=>if f=91 then some FC else XA.cg f}
theorem aib:Ext XA XB where
 dS:=rfl
 gu:=rfl
 code:=rfl
 cg:=λf=>by
  by_cases a:f=91
  ·subst a;exact .inr ⟨rfl,rfl⟩
  ·left;show(if f=91 then some FC else XA.cg f)=XA.cg f
   grind
theorem Lh{args:lA}{E:AS}{E':AS}(h:FC args E=some (.ret v E')):D XB (.fn (.func 91) [] []) args E=some (.ret v E'):=Df rfl h
def NE{α:Type}(m:R α):Prop:= ∀e,m= .error e->e≠0/\e<13
theorem NE.ok{a:α}:NE (.ok a:R α):=by intro e h;cases h
theorem NE.pure{a:α}:NE (Pure.pure a:R α):=NE.ok
def NE.err(a:e≠0/\e<13):NE (.error e:R α):=by intro e h;grind
def NE.bind{m:R α}{f:α->R β}(b:NE m)(c: ∀a,NE (f a)):NE (m>>=f):=by
 cases m with
 |error e=>intro e h;cases h;exact b _ rfl
 |ok a=>exact c a
def NE.ask{b:Bool}(a:e≠0/\e<13):NE (ask b e):=by
 unfold Go.Proofs.YteplichagkpciaaGreatDoor.ask;split
 ·exact NE.ok
 ·exact NE.err a
def NE.ca(a:e<13):NE (ca e):=by
 unfold Go.Proofs.YteplichagkpciaaGreatDoor.ca;split
 ·exact NE.ok
 ·exact NE.err ⟨‹_›,a⟩
theorem NE.foldlM{α β:Type}{f:α->β->R α}(h: ∀a b,NE (f a b)): ∀ (l:List β) (a:α),NE (l.foldlM f a)
 | [],_=>NE.ok
 |b::l,a=>NE.bind (h a b) λa=>NE.foldlM h l a
def aic(h: (n+1).ble 13=true):n<13:=ao6 h
def auo{h:Nat}: (aE t h).2<13:=by unfold aE;grind
def aup{k:bp}{h:Nat}: (cq k h).2<13:=by unfold cq;grind
def auq{T:ar}{O:bP}{K:bp}{b c:Nat}:sP T O K a b c<13:=by unfold sP;grind
def Lk{o:bP}{x:Ow}: (eP o t r a x).2<13:=by unfold eP;grind
def aid{o:bP}{b:Bool}: (db o t r a b).2.2<13:=by unfold db;repeat' (first|simp|exact Lk|split)
def aur{o:bP}: (vt o t r).2<13:=Lk
def aus{o:bP}: (zj o t r a).2<13:=Lk
def aut{h t:Nat}: (vy x h t).2<13:=aid
def aie{h:Nat}{r:cQ}: (ed t h r).2<13:=by unfold ed;grind
def aif{h u:Nat}: (jB t h u).2<13:=by unfold jB;grind
def auu{h:Nat}: (iA t h).2<13:=by unfold iA;split;exact aic rfl;exact aif
def auv{h u:Nat}: (mQ t h u).2<13:=by unfold mQ;repeat' (first|exact aic rfl|exact aif|split)
def auw{h u:Nat}: (eZ t h u).2.2<13:=by unfold eZ kf;grind
def auy{k:bp}{x:Tok}: (lr k x).2.2<13:=by unfold lr pJ;grind
def auz{x:eY}: (iD b x).2<13:=by unfold iD;grind
def auA: (iE b).2.2<13:=by unfold iE;grind
def auB: (pM b).2<13:=by unfold pM;grind
def auC{b c:Nat}{f:Bool}: (lv t a b c f).2<13:=by unfold lv;repeat' (first|simp|exact aie|split)
def auD{b:Nat}: (sQ t a b).2<13:=by unfold sQ;grind
def auE{h w:Nat}:NE (fU x h w):=NE.ca auq
def auF{t:Nat}:NE (mR x t):=NE.ask (by decide)
def aih{h t:Nat}:NE (kK x h t):=NE.bind (NE.ca Lk) λ_=>NE.ok
def auG{h:Nat}{r:cQ}:NE (mb x h r):=NE.bind (NE.ca aie) λ_=>NE.ok
def auH{h:Nat}:NE (sR x h):=NE.bind (NE.ca auu) λ_=>NE.ok
def auI{h:Nat}:NE (zn x h):=NE.bind (NE.ask (by decide)) λ_=>NE.bind (NE.ask (by decide)) λ_=>NE.ask (by decide)
def aii{h t:Nat}:NE (jl x h t):=NE.bind (NE.ca aid) λ_=>NE.ok
def auJ{t:Nat}:NE (lC x t):=by
 unfold lC
 repeat with_reducible (first| (refine NE.bind ?_ λ_=>?_)| (refine NE.foldlM (λ_ _=>?_) _ _)|exact aih|exact aii|exact NE.pure|split|rfl)
def auK(x:az):NE (gp x):=by
 unfold gp;split
 all_goals try(first|unfold pN|unfold hO|unfold pO|unfold sS|unfold vx|unfold w8|unfold w9|unfold xa|unfold vz|unfold xb|unfold pP|unfold vA|unfold mS|unfold nw|unfold vB|unfold ox|unfold vC|unfold xc|unfold pQ)
 all_goals repeat with_reducible (first| (refine NE.bind ?_ λ_=>?_)|exact NE.pure|exact NE.err (by decide)|exact NE.ask (by decide)|exact auE|exact auF|exact aih|exact auG|exact auH|exact auI|exact aii|exact auJ| (refine NE.ca ?_;first|exact auo|exact auw|exact auv|exact aur|exact aus|exact aut|exact aup|exact auy|exact auz|exact auA|exact auB|exact auC|exact auD)|split|dsimp only)
def aij(h:fV x= .error e):e≠0/\e<13:=NE.bind (NE.ask (by decide)) (λ_=>auK x) _ h
def Tt(h:fV x= .error e):e≠0:=(aij h).1
def EZ(m:R (az×bE)):Prop:= ∀a,m= .ok a->a.2.e=0
theorem EZ.ok{a:az×bE}(h:a.2.e=0):EZ (.ok a):=by intro b c;grind
theorem EZ.pure{a:az×bE}(h:a.2.e=0):EZ (Pure.pure a:R (az×bE)):=EZ.ok h
def EZ.err:EZ (.error e):=by intro b a;cases a
def EZ.bind{m:R α}{f:α->R (az×bE)}(c: ∀a,EZ (f a)):EZ (m>>=f):=by
 cases m with
 |error e=>intro b d;cases d
 |ok a=>exact c a
def auL(x:az):EZ (gp x):=by
 unfold gp;split
 all_goals try(first|unfold pN|unfold hO|unfold pO|unfold sS|unfold vx|unfold w8|unfold w9|unfold xa|unfold vz|unfold xb|unfold pP|unfold vA|unfold mS|unfold nw|unfold vB|unfold ox|unfold vC|unfold xc|unfold pQ)
 all_goals repeat with_reducible (first| (refine EZ.bind λ_=>?_)|exact EZ.pure rfl|exact EZ.err|split|dsimp only)
def Ca{r:bE}(h:fV x= .ok (y,r)):r.e=0:=(show EZ (fV x)from EZ.bind λ_=>auL x) _ h
theorem zK(s:aZ)(aa:Nat)(c:ck)(run:aC):bN s aa c run=match fV ⟨s,aa,c,run,0,false,[]⟩with
  |.ok (y,r)=>(y.s,r,y.back)
  |.error e=>(s,{bu with e:=e},[]):=by
 unfold bN;cases h:fV ⟨s,aa,c,run,0,false,[]⟩with
 |error e=>rfl
 |ok a=>exact ac6 (Ca h)
theorem aik{t:Nat}:aN (aY x bk) 952 [.int .i64 t]=aY {x with aa:=t} bk:=by rw[B1 (by omega)];rfl
theorem ail{c:ck}:aN (aY x bk) 953 (bq c)=aY {x with c:=c} bk:=by rw[B1 (by omega)];rfl
theorem aim{r:aC}:aN (aY x bk) 959 (aD r)=aY {x with run:=r} bk:=by rw[B1 (by omega)];rfl
theorem ain{s:aZ}:bn s++List.drop 952 HK=aY ⟨s,0,gP,(0,0),0,false,[]⟩ .au:=rfl
def aio:HK.length=964:=by decide
def Tu:m9.length=952:=by decide
def aip:List.drop 952 m9=[]:=ahz (by rw[Tu];omega)
def zL{s:aZ}:List.take 952 (bn s)=bn s:=adz (by rw[eg];omega)
theorem xC{s:aZ}:List.drop 952 (bn s)=[]:=by rfl
theorem FD{c:ck}: (bq c).length=6:=rfl
theorem Ll{c:ck}:List.take 6 (bq c)=bq c:=rfl
theorem xD{r:bE}:List.take 3 (bB r)=bB r:=rfl
theorem s9{r:bE}: (bB r).length=3:=rfl
def DZ:=gG @aik<|gG @ail<|gG @aim<|gG @ain<|gG @aio<|gG @Tu<|gG @aip<|gG @zL<|gG @xC<|gG @FD<|gG @Ll<|gG @xD<|gG @s9<|gG @eg @K1
def Lm(s:aZ)(S:aV s)(aa:Nat)(R:aa<4294967296)(c:ck)(V:gB c)(run:aC)(T:run.1<4294967296/\run.2<4294967296)
  (Y: ∀E,jK XA.gu E .int .dD (.lM uM) (.int .u8 c.op) true=some (match rI c.op with|some f=>.aA [.fn (.func f) [] [],.bool true]|none=>.aA [.dD,.bool false])) (H:List ae) (lo:oN):
  ∃v,D XB (.fn (.func 54) [] []) [.agg (bn s),.int .i64 aa,.agg (bq c),.agg (aD run)] ⟨H,lo⟩=some (.ret (.aA [.agg (bn (bN s aa c run).1),.agg (bB (bN s aa c run).2.1),v]) ⟨H,lo⟩)/\Rv v 2 ((bN s aa c run).2.2.map aD):=by
 suffices j: ∃u,D XB (.fn (.func 54) [] []) [.agg (bn s),.int .i64 aa,.agg (bq c),.agg (aD run)] ⟨H,lo⟩=some u/\ (λu=> ∃v,u=aU.ret (.aA [.agg (bn (bN s aa c run).1),.agg (bB (bN s aa c run).2.1),v]) ⟨H,lo⟩/\Rv v 2 ((bN s aa c run).2.2.map aD)) u by
  obtain⟨u,h1,v,rfl,Z⟩:=j;exact⟨v,h1,Z⟩
 refine cI Ep λN h=>?_
 obtain⟨x,j⟩: ∃x:az,x=⟨s,aa,c,run,0,false,[]⟩:=⟨_,rfl⟩;obtain⟨L,b⟩: ∃L:List ae,L=[.box (bn s) none,.box (bq c) none,.box (aD run) none,.box m9 none,.box [.int .i64 0,.int .u64 0,.int .u32 0] none,.box (aY x .au) none]:=⟨_,rfl⟩;have K:At (N+5) x .au (H++L):=⟨by rw[bM h,b];rfl,by rw[j];exact aP.au⟩;obtain⟨u,g1,g2⟩:=aia (x:=x) none K (by rw[j];exact S) (by rw[j];exact V) (by rw[j];exact T) (by rw[j];exact R) (by rw[j];unfold fk;have:=nr s.T.b;simp;omega) (by rw[j];exact Y);have m:bN s aa c run=match fV x with
  |.ok (y,r)=>if r.e=0 then(y.s,r,y.back)else(s,r,[])
  |.error e=>(s,{bu with e:=e},[]):=by rw[j];rfl
 rw[b,j]at g1;have rest: ∀W:List ae,bW (N+5) (H++L) W-> ∀cs bs A B:lA,(∀i,i<N->(((W++[ae.box cs none]).set (N+3) (ae.box A none)).set (N+4) (ae.box B none))[i]?=H[i]?):=by
  intro W g cs bs A B i hi;have U:=g.len;simp at U;rw[ach (by omega),ach (by omega),acj (by omega),g.low i (by omega),acj (by omega)]
 cases J:fV x with
 |error e=>
  rw[J]at g2 m;obtain⟨W,aj,rfl,g,F⟩:=g2;have g1:=Lh g1;have w0:W[N]?=some (.box (bn s) none):=g.box N _ (by omega) (λa d e=>by cases e) (by rw[dB h,b];rfl);have w1:W[N+3]?=some (.box m9 none):=g.box (N+3) _ (by omega) (λa d e=>by cases e) (by rw[bM h,b];rfl);have G:W[N+4]?=some (.box [.int .i64 0,.int .u64 0,.int .u32 0] none):=g.box (N+4) _ (by omega) (λa d e=>by cases e) (by rw[bM h,b];rfl);have I:=λL=>bm (L:=L) w0
  have p:=λL=>bm (L:=L) w1
  have n:=λL=>bm (L:=L) G
  have z:=λL o=>cZ (o:=o) (p L)
  have w:=λL o o'=>cZ (o:=o') ((ach (by omega:N+3≠N+4)).trans (n L): ((W++L).set (N+3) o)[N+4]?=_)
  have he:=Tt J;have k: ¬((e:Nat):Int)=0:=by omega
  obtain⟨M,C⟩: ∃M,W.length=M:=⟨_,rfl⟩;have l: (M !=N+3)=true:=by
   have:=g.len;rw[b]at this;simp at this;simp;omega
  simp(disch:=omega) only[go_sem,simprocAttr,Ep,h,DZ,g1,C,I,p,n,z,w,k,bB,l,avd,zD,kH];rw[jE (eB.le (N:=N+5) ?_ (by omega)) ?_]
  ·rw[m];exact⟨_,dp rfl (lH h (rest W g _ [] _ _)),.au⟩
  ·exact F.elim (λq=>.inl q.1) λq=>.inr ⟨N+5,adA _,q⟩
  ·simp[AV.refs,aL,kH]
 |ok a=>
  obtain⟨y,r⟩:=a;rw[J]at g2 m;obtain⟨nJ,W,aj,rfl,g2,g,F⟩:=g2;have m:bN s aa c run=if r.e=0 then(y.s,r,y.back)else(s,r,[]):=m
  have g1:=Lh g1;have w0:W[N]?=some (.box (bn s) none):=g.box N _ (by omega) (λa d e=>by cases e) (by rw[dB h,b];rfl);have w1:W[N+3]?=some (.box m9 none):=g.box (N+3) _ (by omega) (λa d e=>by cases e) (by rw[bM h,b];rfl);have G:W[N+4]?=some (.box [.int .i64 0,.int .u64 0,.int .u32 0] none):=g.box (N+4) _ (by omega) (λa d e=>by cases e) (by rw[bM h,b];rfl);have I:=λL=>bm (L:=L) w0
  have p:=λL=>bm (L:=L) w1
  have n:=λL=>bm (L:=L) G
  have Q:=λL=>bm (L:=L) g2.box
  have z:=λL o=>cZ (o:=o) (p L)
  have w:=λL o o'=>cZ (o:=o') ((ach (by omega:N+3≠N+4)).trans (n L): ((W++L).set (N+3) o)[N+4]?=_)
  obtain⟨M,C⟩: ∃M,W.length=M:=⟨_,rfl⟩;have X:N+6<=M:=by
   have:=g.len;rw[b]at this;simp at this;omega
  have l: (M !=N+3)=true:=by simp;omega
  have P: (M !=N+4)=true:=by simp;omega
  by_cases t:r.e=0
  ·rw[ac6 t]at m;have k: ((r.e:Nat):Int)=0:=by omega
   simp(disch:=omega) only[go_sem,simprocAttr,Ep,h,DZ,↓CL,g1,C,p,n,z,w,Q,k,bB,l,avd,zD,kH];have O:=aP.nG (o:=.box (bB r) none) (aP.nG (o:=.box (bn y.s) none) (aP.ext (L:=[ae.box (bB r) none]) (aP.le g2.own (show N<=N+5+1 by omega))) (p _)) ((ach (by omega:N+3≠N+4)).trans (n _));have er: [AV.int .i64 0,AV.int .u64 (r.v:Nat),AV.int .u32 (r.w:Nat)]=bB r:=by unfold bB;rw[t];rfl
   rw[er];refine⟨by simp,by simp,?_⟩;rw[uK (eB.le (N:=N+5) ?_ (by omega)) (Fz.aA (d:=11) (iI.cons ((Fz.low (d:=0) ?_).mono (by omega)) (iI.cons ((Fz.low (d:=0) ?_).mono (by omega)) (iI.cons ((Fz.own (d:=0) O ?_).mono (by omega)) iI.nil))))]
   ·rw[m];refine⟨_,dp rfl (lH h (rest W g _ [] _ _)),?_⟩;exact aP.qM O
   ·exact F.elim (λq=>.inl q.1) λq=>.inr ⟨N+5,adA _,q⟩
   ·simp[AV.refs,kH]
   ·exact adC _
   ·rw[bL (λx=>rfl)];exact adC _
  ·rw[ac0 t]at m;have k: ¬((r.e:Nat):Int)=0:=by omega
   simp(disch:=omega) only[go_sem,simprocAttr,Ep,h,DZ,g1,C,I,p,n,z,w,k,bB,l,avd,zD,kH];rw[jE (eB.le (N:=N+5) ?_ (by omega)) ?_]
   ·rw[m];exact⟨_,dp rfl (lH h (rest W g _ [] _ _)),.au⟩
   ·exact F.elim (λq=>.inl q.1) λq=>.inr ⟨N+5,adA _,q⟩
   ·simp[AV.refs,aL,kH]
def lz{args:lA}{E:AS}{r:aU}(h:D X0 v args E=some r):D XB v args E=some r:=vG aib (lx h)
def lX{args:lA}{E:AS}{r:aU}(h:D X v args E=some r):D XB v args E=some r:=vG aib (ly h)
theorem aiq{b:Bool}:aN (aY x bk) 962 [.bool b]=aY {x with asks:=b} bk:=by rw[B1 (by omega)];rfl
theorem air{c:ck}: (bq c)[0]?=some (.int .u8 c.op):=rfl
theorem ais{c:ck}: (bq c)[1]?=some (.int .u32 c.r):=rfl
theorem ait{c:ck}: (bq c)[2]?=some (.int .u32 c.s):=rfl
theorem aiu{c:ck}: (bq c)[3]?=some (.int .u32 c.a):=rfl
theorem aiv{c:ck}: (bq c)[4]?=some (.int .u32 c.b):=rfl
theorem aiw{c:ck}: (bq c)[5]?=some (.int .u64 c.v):=rfl
def gQ:=gG @air<|gG @ais<|gG @ait<|gG @aiu<|gG @aiv @aiw
def SL:=gG @RT<|gG @Kq<|gG @Kr<|gG @RR @RS
def Ln(s:aZ)(t:aV s)(aa:Nat)(p:aa<4294967296)(c:ck)(v:gB c)
  (w: ∀E,jK XA.gu E .int .dD (.lM uM) (.int .u8 c.op) true=some (match rI c.op with|some f=>.aA [.fn (.func f) [] [],.bool true]|none=>.aA [.dD,.bool false])) (H:List ae) (lo:oN):
  D XB (.fn (.func 53) [] []) [.agg (bn s),.int .i64 aa,.agg (bq c)] ⟨H,lo⟩=some (.ret (.int .i64 (bR s aa c:Nat)) ⟨H,lo⟩):=by
 refine aK Eo λN j=>?_
 obtain⟨x,b⟩: ∃x:az,x=⟨s,aa,c,(0,0),0,true,[]⟩:=⟨_,rfl⟩;by_cases z:c.op=2
 ·have l: (c.op:Int)=2:=by omega
  obtain⟨L,m⟩: ∃L:List ae,L=[.box (bn s) none,.box (bq c) none,.box (aY x .au) none]:=⟨_,rfl⟩;have n:At (N+2) x .au (H++L):=⟨by grind,by rw[b];exact aP.au⟩;obtain⟨C,g1,g2⟩:=aia (x:=x) none n (by rw[b];exact t) (by rw[b];exact v) (by rw[b];exact⟨show 0<4294967296 by omega,show 0<4294967296 by omega⟩) (by rw[b];exact p) (by rw[b];unfold fk;have:=nr s.T.b;simp;omega) (by rw[b];exact w);have k:bR s aa c=match fV x with
   |.ok (y,_)=>y.jW
   |.error e=>0:=by rw[b];unfold bR;rw[ac0 (by omega)];rfl
  rw[m,b]at g1;have rest: ∀W:List ae,bW (N+2) (H++L) W->W.take N=H:=by
   intro W g;refine lH j λi B=>?_
   rw[g.low i (by omega),acj (by omega)]
  cases h:fV x with
  |error e=>
   rw[h]at g2 k;obtain⟨W,aj,rfl,g,o⟩:=g2;have g1:=Lh g1;have he:=Tt h;have d: ¬((e:Nat):Int)=0:=by omega
   simp only[go_sem,simprocAttr,Eo,j,DZ,gQ,aiq,l,g1,bB,d];rw[jE (eB.le (N:=N+2) (o.elim (λq=>.inl q.1) λq=>.inr ⟨N+2,adA _,q⟩) (by omega)) (adC _),k,rest W g];rfl
  |ok a=>
   obtain⟨y,r⟩:=a;rw[h]at g2 k;obtain⟨A,W,aj,rfl,g2,g,o⟩:=g2;have g1:=Lh g1;have u:=Ca h;have d: ((r.e:Nat):Int)=0:=by omega
   simp only[go_sem,simprocAttr,Eo,j,DZ,gQ,↓CL,aiq,l,g1,bB,d,g2.box];rw[jE (eB.le (N:=N+2) (o.elim (λq=>.inl q.1) λq=>.inr ⟨N+2,adA _,q⟩) (by omega)) (adC _),k,rest W g]
 ·have l: ¬(c.op:Int)=2:=by omega
  simp only[F1,go_sem,simprocAttr,Eo,j,DZ,gQ,l];rw[show bR s aa c=0 by unfold bR;rw[ac6 z]];rfl
def jH(n:Nat):lA:=[.int .i64 n]
def auM(H:List ae)(lo:oN):D X0 (.fn (.func 177) [] []) [.au] ⟨H,lo⟩=some (.ret .au ⟨H,lo⟩):=by
 refine aK EF λN b=>?_
 have a:gE 1 .au none (some (.int .i64 0)) (some (.int .i64 0))=some .au:=by rfl
 simp(disch:=omega) only[F1,go_sem,simprocAttr,EF,a]
def auN(id ak n:Nat)(H:List ae)(c:id<H.length)(lo:oN):D X0 (.fn (.func 177) [] []) [.ref id ak 1 0 n false] ⟨H,lo⟩=some (.ret (.ref id ak 1 0 n true) ⟨H,lo⟩):=by
 refine aK EF λN d=>?_
 have b:gE 1 (.ref id ak 1 0 n false) none (some (.int .i64 (n:Nat))) (some (.int .i64 (n:Nat)))=some (.ref id ak 1 0 n true):=by simp[gE,gT,lO,lP]
 have a: ∀E,gF E .sl (.ref id ak 1 0 n false)=some (.int .i64 n):=λE=>rfl
 simp only[go_sem,simprocAttr,EF,b,a];rw[jE (.inl rfl) (by simp only[AV.refs];omega),adz (by omega)]
def auO(s:aZ)(Q:aV s)(c:ck)(l:gB c)(H:List ae)(lo:oN):
  ∃v,D XB (.fn (.func 156) [] []) [.agg (bn s),.agg (bq c)] ⟨H,lo⟩=some (.ret (.aA [v,.int .i64 (gN s c).2]) ⟨H,lo⟩)/\Rv v 1 ((gN s c).1.map jH):=by
 suffices W: ∃x,D XB (.fn (.func 156) [] []) [.agg (bn s),.agg (bq c)] ⟨H,lo⟩=some x/\ (λx=> ∃v,x=aU.ret (.aA [v,.int .i64 (gN s c).2]) ⟨H,lo⟩/\Rv v 1 ((gN s c).1.map jH)) x by
  obtain⟨x,w,v,rfl,z⟩:=W;exact⟨v,w,z⟩
 refine cI EC λN p=>?_
 have b:=λH lo=>lz (vF s.T Q.T c.r l.r H lo)
 have o:=Q.T.get c.r;simp only[nD]at b;generalize R: (aE s.T c.r).1=r at*;generalize he: (aE s.T c.r).2=e at*;have hb:=l.b;have ha:=l.a;have X:=l.op;have y:=o.len;by_cases Y:e=0
 ·have c0:decide ((e:Int)=0)=true:=ady (by omega);by_cases w: (c.op≠3/\c.op≠4)\/c.b<1\/8<c.b
  ·have f:gN s c=([],2):=by unfold gN;rw[he,ac0 (by omega),ac6 w]
   rw[f];simp only[↓ao7,↓R1,Zz,go_sem,simprocAttr,EC,p,b,c0,gQ,↓SL];refine wj 25 (.bool true) [3,4,5,6] rfl rfl ?_ λf=>?_
   ·simp(disch:=omega) only[R4,↓R1,Zz,go_sem,simprocAttr,gQ]
    (repeat' (first|apply And.intro|intro _))
    all_goals(try(refine ahR AV.bool (anb.2 ?_);simp[];try(intros;omega)))
    all_goals first|trivial|omega
   ·simp(disch:=omega) only[F1,↓R1,Zz,go_sem,simprocAttr];exact⟨.au,rfl,.au⟩
  ·simp only[↓R1,Zz,go_sem,simprocAttr,EC,p,b,c0,gQ,↓SL];refine wj 25 (.bool false) [3,4,5,6] rfl rfl ?_ λe1=>?_
   ·simp(disch:=omega) only[R4,↓R1,Zz,go_sem,simprocAttr,gQ]
    (repeat' (first|apply And.intro|intro _))
    all_goals(try(refine ahR AV.bool (anb.2 ?_);simp[];try(intros;omega)))
    all_goals first|trivial|omega
   ·by_cases z:r.len<c.a+c.b
    ·have O: (r.len:Int)-c.b<c.a:=by omega
     have f:gN s c=([],9):=by unfold gN;rw[he,ac0 (by omega),ac0 w,R,ac6 z]
     rw[f];simp(disch:=omega) only[F1,↓ao7,↓R1,↓MP,Zz,go_sem,simprocAttr,gQ,O];exact⟨.au,rfl,.au⟩
    ·have O: ¬(r.len:Int)-c.b<c.a:=by omega
     have f:gN s c=((List.range c.b).map λi=>(kM r.runs 0 (c.a+i)).getD 0,0):=by unfold gN;rw[he,ac0 (by omega),ac0 w,R,ac0 z]
     rw[f];simp(disch:=omega) only[↓ao7,↓R1,↓MP,Zz,go_sem,simprocAttr,gQ,O];obtain⟨B,hB⟩: ∃B:List ae,B=[.box (bn s) none,.box (bq c) none,.box (b8 r) none]:=⟨_,rfl⟩;have M: (H++B).length=N+3:=by rw[hB];simp[p]
     rw[<-hB];refine gZ c.b (λk e H' aj=>aj=none/\ (H++B)<+:H'/\ (∃v,e 8=v/\aP (N+3) H' v 1 o6 ((List.range k).map λi=>jH ((kM r.runs 0 (c.a+i)).getD 0)))/\e 3= .ptr (N+1) 0/\e 6= .ptr (N+2) 0/\e 58= .int .i64 c.b/\e 59= .int .i64 k) 0 (by omega) ?_ ?_
     ·simp only[↓ao7,Zz,go_sem,simprocAttr];exact⟨arK,_,rfl,aP.au⟩
     rintro k hk e H' aj ⟨rfl,⟨L,rfl⟩,⟨v,S,a⟩,U,T,u,t⟩ n hn;have C: (B++L)[1]?=some (.box (bq c) none):=by rw[hB];rfl
     have A: (B++L)[2]?=some (.box (b8 r) none):=by rw[hB];rfl
     simp only[ac8]at a;simp only[cm,↓R1,Zz,go_sem,simprocAttr,ad6,T,S,u,t];refine⟨λl=>?_,λl=>?_⟩
     ·have J:k<c.b:=by omega
      have m:=λH lo=>lz (ar9 (eL r.runs) r.len r.runs (nh r.runs) o.rb.1 (c.a+k) (by omega) H lo)
      simp only[KQ,aoU]at m;have E:List.take 2 (List.drop 2 (b8 r))=[eL r.runs,.int .i64 r.len]:=rfl;simp(disch:=omega) only[↓R1,Zz,go_sem,simprocAttr,U,S,C,A,gQ,E,m];refine qL (H0:=H++B) (ys:=[jH ((kM r.runs 0 (c.a+k)).getD 0)]) a ⟨L,ac8 _ _ _⟩ M (by omega) (by intro el K;rw[aeH.1 K];rfl) rfl (by rw[aeK,List.length_range];show(k+1)*8<=room;unfold room;omega) λv' H2 g I=>?_
      simp(disch:=omega) only[↓ao7,↓R1,Zz,go_sem,simprocAttr,U,T,u,t];refine⟨J,I,v',rfl,?_⟩
      (try rw[aoZ]);rw[aeP]
      exact g
     ·obtain rfl:k=c.b:=by omega
      have G:b9 ((List.range c.b).map λi=>jH ((kM r.runs 0 (c.a+i)).getD 0))=0:=bL (λ_=>rfl) _;have F: (H++(B++L)).take N=H:=by rw[<-p];simp
      rw[aAS];rcases a.2 with⟨rfl,q⟩| ⟨id,ak,Z,rfl,P⟩
      ·have h:=λH lo=>lz (auM H lo)
       simp(disch:=omega) only[F1,↓R1,Zz,go_sem,simprocAttr,h];refine⟨.au,rfl,?_⟩;have V: ((List.range c.b).map λi=>jH ((kM r.runs 0 (c.a+i)).getD 0))=[]:=q;exact(ahR (Rv .au 1) V).mpr .au
      ·have h:=λn=>lz (auN id ak n (H++(B++L)) (fy P) none)
       simp only[↓R1,Zz,go_sem,simprocAttr,h];rw[uK (.inl rfl) (Fz.aA (d:=11) (iI.cons (a':=.sl ((List.range c.b).map λi=>jH ((kM r.runs 0 (c.a+i)).getD 0)) true) (λj=>?_) (iI.cons ((Fz.low (d:=0) (adC _)).mono (by omega)) iI.nil)))]
       ·exact⟨_,dp rfl F,Rv.sl a.1⟩
       ·rw[show j+10=(j+6)+4 by omega];exact ahy (by omega) P (by simp) (by rw[G];omega)
 ·have c0:decide ((e:Int)=0)=false:=adb (by omega);have f:gN s c=([],e):=by unfold gN;rw[he,ac6 Y]
  rw[f];simp only[F1,↓R1,Zz,go_sem,simprocAttr,EC,p,b,c0,gQ,↓SL];exact⟨.au,rfl,.au⟩
def fJ(l:fH):lA:=[.int .u8 l.has,.int .i64 l.n]++arr 8 λi=>[.int .u8 (l.wait i)]
theorem zM(l:fH): (fJ l).length=10:=rfl
theorem FE(l:fH):aL (fJ l)=0:=rfl
def dc(m:Marks):lA:=arr 32 λi=>fJ (m i)
theorem eD(m:Marks): (dc m).length=320:=by rfl
theorem kj(m:Marks):aL (dc m)=0:=by rfl
structure iU(l:fH):Prop where
 has:l.has<=8
 n:l.n<=8
 lt: ∀i,l.wait i<8
 inj: ∀i j,i<l.n->j<l.n->l.wait i=l.wait j->i=j
def ua(f:Nat->Nat)(x n:Nat):oN:=(List.range n).find? λi=>decide (f i=x)
def zN(o:oN):Int:=match o with|some i=>i|none=> -1
def auP{f:Nat->Nat}{x:Nat}(h:ua f x k=none):ua f x (k+1)=if f k=x then some k else none:=by
 unfold ua at*;rw[aoZ,List.find?_append,h]
 grind
def auQ{f:Nat->Nat}{x:Nat}{j:Nat}(h:ua f x k=some j): ∀n,k<=n->ua f x n=some j:=by
 intro n a;obtain⟨m,rfl⟩:=Nat.exists_eq_add_of_le a;unfold ua at*;rw[List.range_add,List.find?_append,h];rfl
def aix{f:Nat->Nat}{x:Nat}(h:ua f x n=some i):i<n/\f i=x:=by
 unfold ua at h
 grind
def auR(f:Nat->Nat)(x n M off:Nat)(s:n<2147483648)(H:List ae)(cs:lA)(h:H[M]?=some (.box cs none))(r: ∀i,i<n->cs[off+i]?=some (.int .u8 (f i)))(lo:oN):
  D X0 (.fn (.func 181) [] []) [.fC M 1 off n,.int .u8 x] ⟨H,lo⟩=some (.ret (.int .i64 (zN (ua f x n))) ⟨H,lo⟩):=by
 refine aK Qh λN v=>?_
 simp only[go_sem,simprocAttr,Qh];refine fE n (λk e H'=>H'=H/\ua f x k=none/\e 0= .fC M 1 off n/\e 1= .int .u8 x/\e 7= .int .i64 n/\e 8= .int .i64 k) 0 (by omega) ?_ ?_
 ·trivial
 rintro k t e H' ⟨rfl,g,p,o,l,j⟩ m hm;simp(disch:=omega) only[cm,F1,go_sem,simprocAttr,ad9,p,o,l,j];refine⟨λq=>?_,λq=>?_⟩
 ·have b:k<n:=by omega
  have c:=r k b;have u:jL 1 (.fC M 1 off n) (.int .i64 k)=some (.ptr M (off+k)):=by
   rw[Ob,ac6 ⟨by omega,by omega,rfl⟩];simp
  have d:=auP g;by_cases e1:f k=x
  ·have a: ((x:Nat):Int)=f k:=by omega
   rw[ac6 e1]at d;simp(disch:=omega) only[F1,go_sem,simprocAttr,h,c,a];rw[auQ d n (by omega)];exact⟨by omega,rfl⟩
  ·have a: ¬((x:Nat):Int)=f k:=by omega
   rw[ac0 e1]at d;simp(disch:=omega) only[go_sem,simprocAttr,p,o,l,j,h,c,a];exact⟨by omega,b,d⟩
 ·obtain rfl:k=n:=by omega
  rw[g];rfl
theorem aiy(n:Nat):IntKind.wrap .u8 (n:Int)=((n % 256:Nat):Int):=by rfl
def aiz(l:fH)(b:iU l)(aa:Nat)(f:aa<4294967296)(H:List ae)(lo:oN):
  D X0 (.fn (.func 162) [] []) [.agg (fJ l),.int .i64 aa] ⟨H,lo⟩=some (.ret (.int .i64 (zN (ru l aa))) ⟨H,lo⟩):=by
 refine aK P8 λN c=>?_
 have g:=b.n;have a:=λlo=>auR l.wait (aa % 256) l.n N 2 (by omega) (H++[.box (fJ l) none]) (fJ l) (by grind) (λi a=>by
  rcases(show i=0\/i=1\/i=2\/i=3\/i=4\/i=5\/i=6\/i=7 by omega)with h|h|h|h|h|h|h|h<;>subst h<;>rfl) lo
 have hw:=aiy aa;have e: (fJ l)[1]?=some (.int .i64 l.n):=rfl;have d: (0:Int)<=l.n/\ (l.n:Int)<=8:=by omega
 simp only[F1,go_sem,simprocAttr,P8,c,e,hw,a,d];rfl
def aiA(l:fH)(i:Nat):fH:={l with wait:=λj=>if i<=j/\j<7 then l.wait (j+1)else l.wait j}
def auS{X:Ctx}{id off:Nat}{k:IntKind}{a:Int}:qs X n sz (.ptr id off) (some (.int k a)) none=if 0<=a/\a<=n then some (.fC id sz (off+a.toNat*sz) (n-a.toNat))else none:=by
 simp only[qs,gT,lO]
 grind
def auT{H:List ae}{N:Nat}(h:H[N]?=some (.box (fJ l) none))(a:i<8):
  rS ⟨H,lo⟩ 1 (.fC N 1 (2+i) (8-i)) (.fC N 1 (2+(i+1)) (7-i))=some (.int .i64 (7-i:Nat),⟨H.set N (.box (fJ (aiA l i)) none),lo⟩):=by
 rcases(show i=0\/i=1\/i=2\/i=3\/i=4\/i=5\/i=6\/i=7 by omega)with q|q|q|q|q|q|q|q<;>subst q<;>
  (simp only[rS,Ct,Den.elems,h];rfl)
def auU(a:k<8):aN (fJ l) (2+k) [.int .u8 0]=fJ {l with wait:=ai l.wait k 0}:=by
 rcases(show k=0\/k=1\/k=2\/k=3\/k=4\/k=5\/k=6\/k=7 by omega)with q|q|q|q|q|q|q|q<;>subst q<;>rfl
def auV{v:Nat}(a:k<8):aN (fJ l) (2+k) [.int .u8 v]=fJ {l with wait:=ai l.wait k v}:=by
 rcases(show k=0\/k=1\/k=2\/k=3\/k=4\/k=5\/k=6\/k=7 by omega)with q|q|q|q|q|q|q|q<;>subst q<;>rfl
def aiB(l:fH)(s:iU l)(aa:Nat)(t:aa<4294967296)(H:List ae)(lo:oN):
  D X0 (.fn (.func 147) [] []) [.agg (fJ l),.int .i64 aa] ⟨H,lo⟩=some (.ret (.agg (fJ (xf l aa))) ⟨H,lo⟩):=by
 refine aK Jx λN r=>?_
 have a:=λH lo=>aiz l s aa t H lo
 have v:=s.n;have b: ∀l:fH,List.take 10 (fJ l)=fJ l:=λ_=>rfl
 unfold xf;cases p:ru l aa with
 |none=>
  rw[p]at a;simp only[zN]at a;simp only[F1,go_sem,simprocAttr,Jx,r,a,b,zM,FE]
 |some i=>
  rw[p]at a;simp only[zN]at a;have u:=(aix p).1;have o: ¬((i:Nat):Int)<0:=by omega
  have m: (0:Int)<=i/\ (i:Int)<=8:=by omega
  have k: (0:Int)<=(i:Int)+1/\ (i:Int)+1<=8:=by omega
  have e: ((i:Int)+1).toNat=i+1:=by omega
  have j: ∀l:fH,(fJ l)[1]?=some (.int .i64 l.n):=λ_=>rfl
  have f: ∀ (l:fH) (n:Nat),aN (fJ l) 1 [.int .i64 n]=fJ {l with n:=n}:=λ_ _=>rfl
  have c: (l.n:Int)-1=((l.n-1:Nat):Int):=by omega
  have g:l.n-1<8:=by omega
  have d:=λl:fH=>auU (l:=l) g
  have h: (aiA l i).n=l.n:=rfl;have q:=λB lo=>auT (H:=H++(.box (fJ l) none::B)) (lo:=lo) (N:=N) (l:=l) (by rw[dB r];rfl) (show i<8 by omega)
  simp(disch:=omega) only[F1,go_sem,simprocAttr,Jx,r,a,b,zM,FE,auS,o,m,k,e,q,h,j,f,c,d];exact⟨by omega,by omega,rfl⟩
def rJ:Den.part true 320 (dc m) 0=some (.agg (dc m)):=BF (eD m)
def xE(h:i<32):Den.part true 10 (dc m) (i*10)=some (.agg (fJ (m i))):=lq (k:=10) (o:=0) (f:=λi=>fJ (m i)) (λ_=>rfl) h (by omega) (by omega)
def vS(h:i<32):Den.part false 1 (dc m) (i*10)=some (.int .u8 (m i).has):=lq (k:=10) (o:=0) (f:=λi=>fJ (m i)) (λ_=>rfl) h (by omega) (by omega)
def FF(h:i<32):Den.part false 1 (dc m) (i*10+1)=some (.int .i64 (m i).n):=lq (k:=10) (o:=1) (f:=λi=>fJ (m i)) (λ_=>rfl) h (by omega) (by omega)
def Cb{o:Nat}{vs:lA}(h:i<32)(ho:o+vs.length<=10)(a:aN (fJ (m i)) o vs=fJ l):aN (dc m) (i*10+o) vs=dc (ai m i l):=by
 unfold dc;rw[ov (k:=10) (f:=λi=>fJ (m i)) (λ_=>rfl) h ho,a,pC fJ]
def Tv(i aa:Nat)(H:List ae)(lo:oN):D X0 (.fn (.func 139) [] []) [.int .i64 i,.int .i64 aa] ⟨H,lo⟩=some (.ret (.bool (jD i aa)) ⟨H,lo⟩):=by
 refine aK Jv λN d=>?_
 have b: (i:Int)>=0:=by omega
 have c: (aa:Int)>=0:=by omega
 by_cases f:i<32
 ·have a: (i:Int)<32:=by omega
  have e:jD i aa=decide ((aa:Int)<8):=by unfold jD;grind
  rw[e];simp(disch:=omega) only[F1,go_sem,simprocAttr,Jv,b,c,a]
 ·have a: ¬(i:Int)<32:=by omega
  have e:jD i aa=false:=by unfold jD;grind
  rw[e];simp(disch:=omega) only[F1,go_sem,simprocAttr,Jv,b,a]
def aiC(d:iU l)(g:aa<8)(h:ru l aa=none):l.n<8:=by
 have k:=d.n;by_cases e:l.n=8
 ·have p: ∀i,i<8->l.wait i≠aa:=by
    unfold ru at h
    grind
  have j: ((List.range 8).map l.wait++[aa]).Nodup:=by
   rw[List.nodup_append];refine⟨?_,by simp,?_⟩
   ·rw[awK,aBn];refine auh (λ {a b} c m f he=>f ?_) (awK.1 (List.nodup_range (n:=8)));exact d.inj a b (by grind) (by grind) he
   grind
  have o:=K8 8 _ j (by
   intro a c;rcases adB.1 c with c|c
   ·obtain⟨i,_,rfl⟩:=aeO.1 c;exact d.lt i
   ·rw[aeH.1 c];exact g)
  grind
 ·omega
def auW(m:Marks)(E: ∀i,iU (m i))(a aa:Nat)(P:aa<4294967296)(H:List ae)(lo:oN):
  D X0 (.fn (.func 153) [] []) [.agg (dc m),.int .i64 a,.int .i64 aa] ⟨H,lo⟩=some (.ret (.aA [.agg (dc (jm m a aa).1),.bool (jm m a aa).2]) ⟨H,lo⟩):=by
 refine aK sH λN u=>?_
 have s:o7.length=320:=by decide
 have d:List.drop 320 o7=[]:=ahz (by rw[s];omega);have W:List.take 320 (dc m)=dc m:=adz (by rw[eD];omega);have b:=λH lo=>Tv a aa H lo
 have T: ∀m:Marks,(AV.aA [.agg (dc m),.bool false]).refs<=N:=λm=>by simp[AV.refs,aL,kj]
 cases r:jD a aa with
 |false=>
  rw[r]at b;have t:jm m a aa=(m,false):=by unfold jm;rw[ac6 r]
  rw[t];simp only[F1,go_sem,simprocAttr,sH,u,b,↓rJ,eD,kj,s,d]
 |true=>
  rw[r]at b;have c:a<32/\aa<8:=by unfold jD at r;simpa using r
  have L: ¬jD a aa=false:=by rw[r];simp
  obtain⟨c,X⟩:=c;have f: (0:Int)<=a/\ (a:Int)<32:=by omega
  have p:=λH lo=>aiz (m a) (E a) aa P H lo
  have w:=λH lo=>aiB (m a) (E a) aa P H lo
  have F:a*10+10<=320:=by omega
  have S:=(E a).has;have V:=(E a).n;have G:a*10<=319:=by omega
  by_cases M: (m a).has=aa+1
  ·have e: (((m a).has:Nat):Int)=(aa:Int)+1:=by omega
   have t:jm m a aa=(m,true):=by unfold jm;rw[ac0 L,ac6 M]
   rw[t];simp only[F1,go_sem,simprocAttr,sH,u,b,f,p,↓xE c,↓vS c,e,↓rJ,eD,kj,s,d]
  ·have e:decide ((((m a).has:Nat):Int)=(aa:Int)+1)=false:=adb (by omega);have A: ∀ (m:Marks) (l:fH),aN (dc m) (a*10) (fJ l)=dc (ai m a l):=λm l=>Cb (o:=0) c (by rw[zM];omega) rfl
   have z: ∀m:Marks,aN (dc m) (a*10) [.int .u8 ((aa:Int)+1)]=dc (ai m a {m a with has:=aa+1}):=λm=>Cb (o:=0) c (by simp) rfl
   have y: ∀m':Marks,aN (dc m') (a*10+1) [.int .i64 (((m a).n:Int)+1)]=dc (ai m' a {m' a with n:=(m a).n+1}):=λm'=>Cb c (by simp) rfl
   have I:a*10<=318:=by omega
   have Q: ∀m:Marks,List.take 320 (dc m)=dc m:=λm=>adz (by rw[eD];omega)
   by_cases K: (m a).has=0/\ ((m a).n=0\/ru (m a) aa=some 0)
   ·have t:jm m a aa=(ai m a {xf (m a) aa with has:=aa+1},true):=by unfold jm;rw[ac0 L,ac0 M,ac6 K]
    rw[t];have J:decide ((((m a).has:Nat):Int)=0)=true:=ady (by omega);have hw:IntKind.wrap .u8 ((aa:Int)+1)=((aa+1:Nat):Int):=by rw[wrap_u8 (by omega) (by omega)];rfl
    by_cases Y: (m a).n=0
    ·have g:decide ((((m a).n:Nat):Int)=0)=true:=ady (by omega);simp(disch:=omega) only[F1,go_sem,simprocAttr,sH,u,b,f,p,w,↓xE c,↓vS c,↓FF c,e,J,g,hw,A,z,bI,rh,↓rJ,eD,kj,s,d,zM,FE,F,G]
    ·have g:decide ((((m a).n:Nat):Int)=0)=false:=adb (by omega);have O:ru (m a) aa=some 0:=K.2.resolve_left Y;rw[O]at p;simp only[zN]at p;simp(disch:=omega) only[F1,go_sem,simprocAttr,sH,u,b,f,p,w,↓xE c,↓vS c,↓FF c,e,J,g,hw,A,z,bI,rh,↓rJ,eD,kj,s,d,zM,FE,F,G]
   ·have Z: ∀h:Nat,decide ((h:Int)=0)=decide (h=0):=λh=>ae0.2 (by omega)
    cases v:ru (m a) aa with
    |none=>
     have U:=aiC (E a) X v;have C: ((m a).n:Int)<8:=by omega
     have B:a*10+2+(m a).n<=319:=by omega
     have t:jm m a aa=(ai m a {m a with n:=(m a).n+1,wait:=ai (m a).wait (m a).n aa},false):=by unfold jm;rw[ac0 L,ac0 M,ac0 K,ac6 v]
     rw[t];rw[v]at p;simp only[zN]at p;have x: ∀ (m':Marks),(m' a).n=(m a).n->aN (dc m') (a*10+2+(m a).n) [.int .u8 aa]=dc (ai m' a {m' a with wait:=ai (m' a).wait (m a).n aa}):=λm' h=>(ahR (λo=>aN (dc m') o _) (amW _ _ _)).trans (Cb c (by simp;omega) (auV U))
     by_cases J: (m a).has=0
     ·have k:decide ((((m a).has:Nat):Int)=0)=true:=ady (by omega);have g:decide ((((m a).n:Nat):Int)=0)=false:=adb (by omega);simp(disch:=omega) only[F1,go_sem,simprocAttr,sH,u,b,f,p,↓xE c,↓vS c,↓FF c,e,k,g,C,B,I,y,x,bI,rh,↓rJ,eD,kj,s,d]
     ·have k:decide ((((m a).has:Nat):Int)=0)=false:=adb (by omega);simp(disch:=omega) only[F1,go_sem,simprocAttr,sH,u,b,f,p,↓xE c,↓vS c,↓FF c,e,k,C,B,I,y,x,bI,rh,↓rJ,eD,kj,s,d]
    |some j=>
     have t:jm m a aa=(m,false):=by unfold jm;rw[ac0 L,ac0 M,ac0 K,ac0 (by rw[v];simp)]
     rw[t];rw[v]at p;simp only[zN]at p;have R: ¬((j:Nat):Int)<0:=by omega
     by_cases J: (m a).has=0
     ·have k:decide ((((m a).has:Nat):Int)=0)=true:=ady (by omega);have g:decide ((((m a).n:Nat):Int)=0)=false:=adb (by omega);have O:decide (((j:Nat):Int)=0)=false:=adb (λq=>K ⟨J,.inr (by rw[v];congr 1;omega)⟩);simp(disch:=omega) only[F1,go_sem,simprocAttr,sH,u,b,f,p,↓xE c,↓vS c,↓FF c,e,k,g,O,R,↓rJ,eD,kj,s,d]
     ·have k:decide ((((m a).has:Nat):Int)=0)=false:=adb (by omega);simp(disch:=omega) only[F1,go_sem,simprocAttr,sH,u,b,f,p,↓xE c,↓vS c,e,k,R,↓rJ,eD,kj,s,d]
end Go.Proofs.YteplichagkpciaaGreatDoor
