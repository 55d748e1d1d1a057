/- What functions do; conditions as stated. -/
import Derived.Test.YteplichagkpciaaGreatDoorM2
import Derived.Test.YteplichagkpciaaGreatDoorD2
import Derived.KernelRfl
import Derived.Test.YteplichagkpciaaGreatDoorProg
import Derived.WalkKit
import Derived.Lib.AppendZerosOnto
set_option linter.all false
set_option maxRecDepth 10000
set_option maxHeartbeats 1000000
namespace Go.Proofs.YteplichagkpciaaGreatDoor
open Go Go.Den Go.RowKit
variable{p q b a M i k e aa j sz:Nat}{x y:au}{r:cP}{α β:Type}{m:aV}{qv rv v pv kv ev:AV}{lo:oN}{c:cq}{Q:Prop}{l:List aC}{t:av}{aD:List lB}{aE aP:Nat->AV}{af:List lA}{W0:List ae}
def auT:=@List.count_append
def axX:=@List.all_eq_not_any_not
def aBm:=@List.all_eq_false
def aCn:=@List.eq_nil_of_length_eq_zero
def fh.aj9{p:cy}(h:fh p)(n:Nat):fh (fW p n).1:=by
 unfold fW;split
 ·exact h
 split
 ·exact h
 ·rename_i x b;cases a:nj p.free (x.1,n)with
  |none=>exact h
  |some l=>exact⟨h.n,h.free.take a,h.bytes⟩
def fh.clear{p:cy}(h:fh p)(i:Nat):fh (od p i):=by
 unfold od;split
 ·refine⟨h.n,h.free,λa b=>?_⟩;show ar p.bytes i (λ_=>0) a b<256;unfold ar;split
  ·simp
  ·exact h.bytes a b
 omega
def fh.back{p:cy}(h:fh p)(i:Nat):fh (mJ p i):=by
 unfold mJ;split
 ·unfold Cr;cases a:gM p.free (i,1)with
  |none=>exact h
  |some l=>exact⟨h.n,h.free.gM a,h.bytes⟩
 omega
def fh.write{p:cy}(h:fh p)(i b:Nat)(d:b<256):fh (mK p i b):=by
 unfold mK;split
 ·refine⟨h.n,h.free,λa c=>?_⟩;show ar p.bytes (i/32) (ar (p.bytes (i/32)) (i % 32) b) a c<256;unfold ar;split
  ·show(if c=i % 32 then b else p.bytes (i/32) c)<256;split
   ·omega
   ·exact h.bytes _ _
  ·exact h.bytes a c
 omega
def awO{p:cy}(h:fh p)(n:Nat)(c:n<=64)(b: (fW p n).2.2=0): (fW p n).2.1+n<=64:=by
 unfold fW at b⊢;split
 ·grind
 ·rename_i e;split
  ·grind
  ·rename_i x a;have d:=h.free.bd x (aqc a)
   grind
def UF{h:Nat}(e:ng x h r= .ok y):y.lT=x.lT:=by
 unfold ng at e;cases a:bg (eu x.s.T h r).2 with
 |error _=>rw[a]at e;cases e
 |ok _=>rw[a]at e;cases e;rfl
def aJ{m:R α}{f:α->R β}{b:β}(h: (m>>=f)= .ok b): ∃a,m= .ok a/\f a= .ok b:=by
 cases m with
 |error e=>cases h
 |ok a=>exact⟨a,rfl,h⟩
def awP{r:bA}(e:x.lT=0)(h:ic x= .ok (y,r)):y.lT<=4:=by
 unfold ic at h;dsimp only at h;cases b:nh (min x.c.a 129) (min x.c.b 9)with
 |none=>rw[b]at h;cases h
 |some n=>
  have c:n<=4:=by
   unfold nh at b;split at b
   ·rename_i ho;have:min x.c.a 129<=128:=by unfold isObj at ho;simp at ho;omega
    cases b;omega
   ·cases b
  rw[b]at h;obtain⟨a,e1,h⟩:=aJ h;cases e1;obtain⟨_,_,h⟩:=aJ h;obtain⟨_,_,h⟩:=aJ h;split at h
  ·obtain⟨z,d,h⟩:=aJ h;cases h;rw[UF d,e];omega
  ·obtain⟨_,_,h⟩:=aJ h;split at h
   ·cases h;exact c
   ·obtain⟨_,_,h⟩:=aJ h;obtain⟨z,d,h⟩:=aJ h;cases h;rw[UF d];exact c
def aka(s:bD)(aa:Nat)(c:cq):dY s aa c<=4:=by
 unfold dY;split
 ·omega
 ·split
  ·rename_i y r e;obtain⟨_,_,e⟩:=aJ (show(ask _ _>>=λ_=>ie _)=_ from e);unfold ie at e;have:c.op=2:=by omega
   simp only[this]at e;exact awP rfl e
  ·omega
theorem eI.same{m s:Nat}{st:bG}{H:List ae}{r:AV}(h:dp m p q s st qv rv H):eI m p q s H lo st qv r (.ret r ⟨H,lo⟩):=⟨qv,rv,H,lo,rfl,h,Fq.refl,gA.same rfl⟩
def eI.Gy{m s N:Nat}{c st:bG}{a d:AV}{H W:List ae}{b:oN}(g:dp m p q s c a d H)(f:H.length=N)(h:dp m p q s st qv rv W)(j:Fq m [p,q,s] H W)(i:gA (qv=a) p H W none b)(e:v.refs<=N):
 eI m p q s H lo st a v (.ret (finish N lo v ⟨W,b⟩).1 (finish N lo v ⟨W,b⟩).2):=eI.fin (L:=[]) g f h (by grind) (by grind) e
def akb{m s:Nat}{st:bG}{H:List ae}(ha:dp m p q s st qv rv H)(hx:qN st)(e:Nat)(lo:oN):
 ∃a,D XC (.fn (.func 151) [] []) [.ptr s 0,.agg [.int .i64 e,.int .u64 0,.int .u32 0]] ⟨H,lo⟩=some a/\eI m p q s H lo (o8 st {bL with e:=e}) qv (.aw []) a:=UE ha hx {bL with e:=e} lo
section
variable(hD: ∀op,pC op){m p q s:Nat}{st:bG}{qv rv:AV}{H:List ae}(ha:dp m p q s st qv rv H)(hx:qN st)(lo:oN)
include hD ha hx
theorem awQ: ∃f,D XC (.fn (.func 140) [] []) [.ptr s 0] ⟨H,lo⟩=some f/\eI m p q s H lo (jq st).1 qv (.bool (jq st).2) f:=by
 refine cE B6 λN b=>?_
 have k:s<N:=by rw[<-b];exact ha.lt
 have hw:=awA st.x.S hx.x.S st.c.aa hx.c.aa st.c.c hx.c.jd (hD _);have g:=ajG st.x.S hx.x.S st.c.aa hx.c.aa st.c.c hx.c.jd (hD _);unfold jq;cases d:st.c.checked with
 |true=>
  simp(disch:=omega) only[F1,go_sem,simprocAttr,B6,ha.box,PL,d];exact eI.same ha
 |false=>
  cases i:Lm st.x.S st.c.aa st.c.c with
  |true=>
   rw[i]at hw;simp only[F1,go_sem,simprocAttr,B6,b,ha.box,ha.co.box,PL,↓PL,KL,↓KL,d,hw];exact eI.same ha
  |false=>
   rw[i]at hw;by_cases h:o5 st.x.S st.c.aa st.c.c=0
   ·have a: ((o5 st.x.S st.c.aa st.c.c:Nat):Int)=0:=by omega
    obtain⟨v,d1,d2⟩:=awJ hx.x.S hx.c.jd H none;obtain⟨t1,t2⟩:=qK (d2 ⟨[],none⟩);have t3:=cY d2 (bB (λ_=>rfl) _);have e:=λo=>cG (o:=o) ha.box
    simp only[go_sem,simprocAttr,B6,b,ha.box,ha.co.box,PL,↓PL,KL,↓KL,PS,d,hw,g,a,d1,t1,t2,t3,e,ak7];rw[adU (λq=>q h)];exact eI.Gy (v:=.bool true) ha b (ha.set (qM:={st with c:={st.c with checked:=true,aW:=uJ st.x.S st.c.c}}) rfl d2) (ha.fs _) (.inl ⟨rfl,by simp,rfl⟩) (aeu _)
   ·have a: ¬((o5 st.x.S st.c.aa st.c.c:Nat):Int)=0:=by omega
    obtain⟨f,g1,j,sh,W,aj,rfl,g2,n,l⟩:=akb ha hx (o5 st.x.S st.c.aa st.c.c) none;simp only[go_sem,simprocAttr,B6,b,ha.box,ha.co.box,PL,↓PL,KL,↓KL,d,hw,g,a,g1];rw[adY h];exact eI.Gy ha b g2 n l (aeu _)
omit hD in
theorem awR: ∃R,D XC (.fn (.func 141) [] []) [.ptr s 0] ⟨H,lo⟩=some R/\eI m p q s H lo (jr st).1 qv (.bool (jr st).2) R:=by
 have ho:Old s H (.box (dZ st p rv) none):=⟨ha.box⟩;refine cE Fk λN n=>?_
 have T:s<N:=by rw[<-n];exact ha.lt
 have U:p<N:=by have:=ha.ps;omega
 have a:=ha.aW.bS (E:=⟨H,none⟩);unfold jr;cases G:st.c.aW with
 |nil=>
  rw[G]at a;simp(disch:=omega) only[F1,go_sem,simprocAttr,Fk,n,ha.box,PL,a];exact eI.same ha
 |cons h t=>
  have f:=ha.aW;rw[G]at a f;have Q: ¬((t.length:Nat):Int)+1=0:=by omega
  have A:kn 1 rv (.int .i64 0)=some (gg rv 0 0):=by
   rw[f.cp,adY ⟨by omega,by simp⟩];rfl
  have y: ∀E,cm XC E false 1 (gg rv 0 0)=some (.int .u32 h):=λE=>f.c7 (by simp)
  have e:=λH lo=>c0 (j8 h (hx.c.aW h (by rw[G];simp)) H lo)
  have F: ((fb h).getD 0)=aL h:=rfl;unfold iX at e;rw[F]at e;have d:=λH lo=>c0 (av5 st.x.M hx.x.M (aL h) st.c.aa hx.c.aa H lo)
  have B:qb.length=320:=by decide
  have r:List.drop 320 qb=[]:=ahp (by rw[B];omega);have u: ∀m:Marks,List.take 320 (cZ m)=cZ m:=λm=>aes (by rw[eh];omega)
  have K:=λL=>aZ (L:=L) ha.box
  have z:=λL=>aZ (L:=L) ha.co.box
  have v:=λm=>eh m
  obtain⟨c,C⟩: ∃c,rv= .sl ((h::t).map hC) c:=by
   obtain⟨S,l,V⟩:=f ⟨[],none⟩;cases rv<;>simp only[]at S
   ·simp[Den.elems]at l
   ·rename_i af c;simp only[Den.elems]at l;split at l
    ·cases l;exact⟨c,rfl⟩
    ·cases l
   ·simp[Den.elems]at l
  obtain⟨w,s1,s2⟩:=ajx (sz:=1) (af:=(h::t).map hC) (c:=c) (i:=1) (by intro el J;obtain⟨x,_,rfl⟩:=afH.1 J;rfl) (by simp);rw[<-C]at s1;have s1:gE 1 rv (some (.int .i64 1)) none none=some w:=s1;obtain⟨t1,t2⟩:=qK (s2 ⟨[],none⟩);have t3:=cY s2 (bB (g:=hC) (λ_=>rfl) t);have I: ∀L o,((H++L).set p o)[s]?=some (.box (dZ st p rv) none):=λL o=>(adb (by have:=ha.ps;omega)).trans (K L)
  obtain⟨j,k⟩: ∃j,j=(iU st.x.M (aL h) st.c.aa).1:=⟨_,rfl⟩;have O:=(ha.app [.box (cZ j) none]).ai ((ha.app [.box (cZ j) none]).co.ajN j) ((ha.app [.box (cZ j) none]).co.fp _);have P:=(ha.app [.box (cZ j) none]).co.fp (.box (bp {st.x with M:=j} q qv) none);rw[<-k]at d;cases b: (iU st.x.M (aL h) st.c.aa).2 with
  |true=>
   rw[b]at d;simp(disch:=omega) only[go_sem,simprocAttr,Fk,n,ha.box,K,z,I,PL,↓PL,PS,KL,↓KL,KS,a,Q,A,y,e,d,B,r,u,v,ke,s1,t1,t2,t3];rw[adY b,<-k];exact eI.fin ha n (O.set (qM:={st with x:={st.x with M:=j},c:={st.c with aW:=t}}) rfl s2) (P.m3.trans (O.fs _)) (.inl ⟨rfl,by simp,rfl⟩) (aeu _)
  |false=>
   rw[b]at d;simp(disch:=omega) only[go_sem,simprocAttr,Fk,n,ha.box,K,z,PL,↓PL,KL,↓KL,KS,a,Q,A,y,e,d,B,r,u,v,ke];rw[adU (by rw[b];simp),<-k];exact eI.fin ha n O P.m3 (.inl ⟨rfl,by simp,rfl⟩) (aeu _)
theorem awS: ∃k,D XC (.fn (.func 142) [] []) [.ptr s 0] ⟨H,lo⟩=some k/\eI m p q s H lo (jI st).1 qv (.bool (jI st).2) k:=by
 have ho:Old s H (.box (dZ st p rv) none):=⟨ha.box⟩;refine cE B7 λN e=>?_
 have h:=λH lo=>cB (Un st.x.S hx.x.S st.c.aa hx.c.aa st.c.c hx.c.jd (hD _) H lo)
 have u:=aka st.x.S st.c.aa st.c.c;unfold jI;dsimp only;by_cases w:dY st.x.S st.c.aa st.c.c=0
 ·have a:decide (((dY st.x.S st.c.aa st.c.c:Nat):Int)=0)=true:=aet (by omega);rw[adY (.inl w)];simp only[F1,go_sem,simprocAttr,B7,e,ha.box,ha.co.box,PL,↓PL,KL,↓KL,h,a];exact eI.same ha
 ·have a:decide (((dY st.x.S st.c.aa st.c.c:Nat):Int)=0)=false:=aeq (by omega);by_cases v:0<st.c.run.2
  ·have b: ((st.c.run.2:Nat):Int)>0:=by omega
   rw[adY (.inr v)];simp only[F1,go_sem,simprocAttr,B7,e,ha.box,ha.co.box,PL,↓PL,KL,↓KL,h,a,b];exact eI.same ha
  ·have b: ¬((st.c.run.2:Nat):Int)>0:=by omega
   rw[adU (by omega)];have g:=λlo=>awz hx.x.P ha.co.fY lo (n:=dY st.x.S st.c.aa st.c.c) (by omega)
   have i:=ha.ai (ha.co.Gx (fW st.x.P (dY st.x.S st.c.aa st.c.c)).1) (ha.co.fq _);have l:=ha.co.fq (.box (b8 (fW st.x.P (dY st.x.S st.c.aa st.c.c)).1) none);have j:qN {st with x:={st.x with P:=(fW st.x.P (dY st.x.S st.c.aa st.c.c)).1}}:=⟨⟨hx.x.S,hx.x.P.aj9 _,hx.x.M,hx.x.Q,hx.x.Ql⟩,hx.c⟩;generalize t:fW st.x.P (dY st.x.S st.c.aa st.c.c)=pc at*;by_cases o:pc.2.2=0
   ·have d:decide (((pc.2.2:Nat):Int)=0)=true:=aet (by omega);rw[adU (λq=>q o)];have f: [AV.int .i64 (pc.2.1:Nat),.int .i64 ((dY st.x.S st.c.aa st.c.c:Nat))]=aA (pc.2.1,dY st.x.S st.c.aa st.c.c):=rfl;simp only[go_sem,simprocAttr,B7,e,ha.box,ha.co.box,PL,↓PL,KL,↓KL,h,a,b,g,d,i.box,f,PS];exact eI.Gy ha e (i.set (qM:={st with x:={st.x with P:=pc.1},c:={st.c with run:=(pc.2.1,dY st.x.S st.c.aa st.c.c)}}) rfl ha.aW) (l.m3.trans (i.fs _)) (.inl ⟨rfl,by simp,rfl⟩) (aeu _)
   ·have d:decide (((pc.2.2:Nat):Int)=0)=false:=aeq (by omega);rw[adY o];obtain⟨k,g1,r,sh,W,aj,rfl,g2,z,y⟩:=akb i j pc.2.2 none;simp only[go_sem,simprocAttr,B7,e,ha.box,ha.co.box,PL,↓PL,KL,↓KL,h,a,b,g,d,g1];exact eI.Gy ha e g2 (l.m3.trans z) (y.elim (λq=>.inl ⟨q.1,by rw[q.2.1,afN],q.2.2⟩) .inr) (aeu _)
omit hD in
theorem awT: ∃h,D XC (.fn (.func 143) [] []) [.ptr s 0] ⟨H,lo⟩=some h/\eI m p q s H lo (kQ st).1 qv (.bool (kQ st).2) h:=by
 have ho:Old s H (.box (dZ st p rv) none):=⟨ha.box⟩;refine cE Kn λN e=>?_
 have j:=hx.c.run;have k:=hx.c.fw;unfold kQ;by_cases g:st.c.run.2<=st.c.fw
 ·have a: ((st.c.fw:Nat):Int)>=st.c.run.2:=by omega
  rw[adY g];simp(disch:=omega) only[F1,go_sem,simprocAttr,Kn,e,ha.box,PL,a];exact eI.same ha
 ·have a: ¬((st.c.fw:Nat):Int)>=st.c.run.2:=by omega
  rw[adU g];have d: ∀lo,D XC (.fn (.func 155) [] []) [.ptr q 0,.int .i64 ((st.c.run.1:Int)+st.c.fw)] ⟨H,lo⟩=_:=λlo=>c0 (awu hx.x.P ha.co.fY lo (i:=st.c.run.1+st.c.fw) (by omega))
  have f:=ha.ai (ha.co.Gx (od st.x.P (st.c.run.1+st.c.fw))) (ha.co.fq _);have l:=ha.co.fq (.box (b8 (od st.x.P (st.c.run.1+st.c.fw))) none);have b: ∀x,aM (dZ {st with x:=x} p rv) 12 [.int .i64 ((st.c.fw:Int)+1)]=dZ {st with x:=x,c:={st.c with fw:=st.c.fw+1}} p rv:=λ_=>rfl
  simp(disch:=omega) only[go_sem,simprocAttr,Kn,e,ha.box,ha.co.box,PL,KL,a,d,f.box,b,UB];exact eI.Gy ha e (f.set (qM:={st with x:={st.x with P:=od st.x.P (st.c.run.1+st.c.fw)},c:={st.c with fw:=st.c.fw+1}}) rfl ha.aW) (l.m3.trans (f.fs _)) (.inl ⟨rfl,by simp,rfl⟩) (aeu _)
end
theorem akc: ∀ (l:List aC) (b x k:Nat),(∀r∈l,r.1+r.2<=64)->kO l b x=some k->k<=2048+x
 | [],_,_,_,_,h=>by cases h
 |r::rs,b,x,k,a,h=>by
  rw[ahA]at h;split at h
  ·grind
  ·exact akc rs _ x k (λz c=>a z (by grind)) h
def akd{s:bD}(d:bm s)(c:cq): (iG s c).1.length<=8/\ ∀k∈(iG s c).1,k<65536:=by
 unfold iG;split
 ·simp
 split
 ·simp
 split
 ·simp
 ·rename_i m l j;refine⟨by simp;omega,λk f=>?_⟩;obtain⟨i,h,rfl⟩:=afH.1 f;have g:=alI.1 h;have b:=d.T.get c.r;have a:=b.len;cases he:kO (aG s.T c.r).1.runs 0 (c.a+i)with
  |none=>simp
  |some v=>
   have:=akc _ _ _ _ (λr e=>(b.runs r e).2) he;simp;omega
def awU(v i:Nat)(a:i<8):lu .shr (.int .u64 v) (.int .i64 (8*(i:Int)))=some (.int .u64 ((v/2^(8*i):Nat))):=by
 rw[DR,adY (by omega)];have b:min (8*(i:Int)).toNat IntKind.u64.bits=8*i:=by
  have:IntKind.u64.bits=64:=rfl;omega
 grind
def ake(b i:Nat)(f:b<256)(e:i<8):lu .shl (.int .u64 b) (.int .i64 (8*(i:Int)))=some (.int .u64 ((b*2^(8*i):Nat)))/\b*2^(8*i)<18446744073709551616:=by
 have a:b*2^(8*i)<18446744073709551616:=by
  rcases(show i=0\/i=1\/i=2\/i=3\/i=4\/i=5\/i=6\/i=7 by omega)with q|q|q|q|q|q|q|q<;>subst q<;>simp<;>omega
 refine⟨?_,a⟩;rw[Bf,adY (by omega)];have d:min (8*(i:Int)).toNat IntKind.u64.bits=8*i:=by
  have:IntKind.u64.bits=64:=rfl;omega
 rw[d];have c: ((2:Int)^(8*i))=((2^(8*i):Nat):Int):=by rfl
 rw[c,<-Int.natCast_mul,wrap_u64 (by omega) (by omega)]
def akf(a b:Nat)(d:a<18446744073709551616)(c:b<18446744073709551616):dA .or (.int .u64 a) (.int .u64 b)=some (.int .u64 ((a|||b:Nat)))/\a|||b<18446744073709551616:=by
 have f:a|||b<2^64:=Nat.or_lt_two_pow d c;refine⟨?_,f⟩;rw[H7];have e: ∀n:Nat,n<18446744073709551616->(BitVec.ofInt IntKind.u64.bits (n:Int)).toNat=n:=by
  have:IntKind.u64.bits=64:=rfl
  grind
 rw[BitVec.toNat_or,e a d,e b c,wrap_u64 (by omega) (by omega)]
def awV(v i:Nat):IntKind.wrap .u8 ((v/2^(8*i):Nat):Int)=(byteOf v i:Nat):=ajq _
def vf(P:cy)(pl:lN)(v k:Nat):cy:=(List.range k).foldl (λP i=>mK P (pl.getD i 0) (byteOf v i)) P
def akg(P:cy)(pl:lN)(v k:Nat):vf P pl v (k+1)=mK (vf P pl v k) (pl.getD k 0) (byteOf v k):=by
 unfold vf;rw[aog,amz];rfl
def qO(P:cy)(pl:lN)(v k:Nat):Nat:=(List.range k).foldl (λv i=>v|||uK P (pl.getD i 0)*2^(8*i)) v
def akh(P:cy)(pl:lN)(v k:Nat):qO P pl v (k+1)=qO P pl v k|||uK P (pl.getD k 0)*2^(8*k):=by
 unfold qO;rw[aog,amz];rfl
theorem UG{P:cy}(h:fh P)(pl:lN)(v:Nat): ∀k,fh (vf P pl v k)
 |0=>h
 |k+1=>by rw[akg];exact(UG h pl v k).write _ _ (aoc _ (by omega))
def aki{P:cy}(h:fh P)(i:Nat):uK P i<256:=by
 unfold uK;split
 ·exact h.bytes _ _
 ·omega
theorem UH{P:cy}(h:fh P)(pl:lN)(v:Nat)(a:v<18446744073709551616): ∀k,k<=8->qO P pl v k<18446744073709551616
 |0,_=>a
 |k+1,b=>by
  rw[akh];exact(akf _ _ (UH h pl v a k (by omega)) (ake _ _ (aki h _) (by omega)).2).2
def akj{pl:lN}(d:Rv pv 1 (pl.map ij))(v:pl.length<=8){f:Fn}{cs:lA}(m:AV)(F:Nat->List ae)(t: ∀k,(F k).length=(F 0).length)
  (p: ∀k,k<pl.length->D XC (.fn f [] cs) [.int .i64 (pl.getD k 0:Nat),.int .i64 k] ⟨F k,none⟩=some (.ret (.aw []) ⟨F (k+1),none⟩)) (lo:oN):
  D XC (.fn (.func 157) [] []) [m,pv,.fn f [] cs] ⟨F 0,lo⟩=some (.ret (.aw []) ⟨F pl.length,lo⟩):=by
 refine aH QQ λN r=>?_
 simp only[go_sem,simprocAttr,QQ,d.bS];refine eG pl.length (λk e H'=>H'=F k/\e 2= .fn f [] cs/\e 8=pv/\e 9= .int .i64 pl.length/\e 10= .int .i64 k) 0 (by omega) ?_ ?_
 ·simp only[go_sem,simprocAttr]
 rintro k w e H' ⟨rfl,s,l,j,b⟩ n u;simp only[bX,F1,go_sem,simprocAttr,ae1,l,j,b];refine⟨λo=>?_,λo=>?_⟩
 ·have a:k<pl.length:=by omega
  have i: ∀y,(ij y)[0]?=some (.int .i64 y):=λ_=>rfl
  have g:pl.getD k default=pl.getD k 0:=rfl;have h:=p k a;simp(disch:=omega) only[go_sem,simprocAttr,s,l,j,b,d.cp,d.c7,i,g,h];exact⟨by omega,a⟩
 ·obtain rfl:k=pl.length:=by omega
  have q: (F pl.length).length=N:=by rw[t,r]
  have c: (F pl.length).take N=F pl.length:=aes (by omega);simp only[go_sem,simprocAttr,c]
def awW{m s:Nat}{st:bG}{W:List ae}(f:dp m p q s st qv rv W)(k:fh st.x.P){n g:Nat}(t:W[n]?=some (.box [.ptr s 0] none))(r:W[g]?=some (.box (bn c) none))(at' i:Nat)(j:at'<65536)(h:i<8)(lo:oN):
  D XC (.fn (.func 158) [] [.ptr n 0,.ptr g 0]) [.int .i64 at',.int .i64 i] ⟨W,lo⟩=some (.ret (.aw []) ⟨W.set q (.box (b8 (mK st.x.P at' (byteOf c.v i))) none),lo⟩):=by
 refine fB QR λN l=>?_
 have hw:=λlo=>c0 (awy k f.co.fY lo (at':=at') (b:=byteOf c.v i) (by omega))
 have a: ∀o,(W.set q o).take N=W.set q o:=λo=>aes (by grind)
 have d:=awU c.v i h;have e:=awV c.v i;simp(disch:=omega) only[F1,go_sem,simprocAttr,QR,l,t,r,f.box,f.co.box,PL,KL,gz,d,e,hw,a]
def awX{m s:Nat}{st:bG}{W:List ae}(e:dp m p q s st qv rv W)(f:fh st.x.P){n:Nat}{r:bA}(h:r.v<18446744073709551616)(w:W[n]?=some (.box [.ptr s 0] none))(u:W[a]?=some (.box (bF r) none))(at' i:Nat)(l:at'<65536)(j:i<8)(lo:oN):
  D XC (.fn (.func 160) [] [.ptr n 0,.ptr a 0]) [.int .i64 at',.int .i64 i] ⟨W,lo⟩=some (.ret (.aw []) ⟨W.set a (.box (bF {r with v:=r.v|||uK st.x.P at'*2^(8*i)}) none),lo⟩):=by
 refine fB QS λN t=>?_
 have hw:=λlo=>c0 (awx f e.co.fY lo (at':=at') (by omega))
 have b: ∀o,(W.set a o).take N=W.set a o:=λo=>aes (by grind)
 have k:=aki f at';obtain⟨s1,s2⟩:=ake (uK st.x.P at') i k j;obtain⟨g,x⟩:=akf r.v (uK st.x.P at'*2^(8*i)) h s2;have d: (bF r)[1]?=some (.int .u64 r.v):=rfl;have c: ∀n:Nat,aM (bF r) 1 [.int .u64 n]=bF {r with v:=n}:=λ_=>rfl
 simp(disch:=omega) only[F1,go_sem,simprocAttr,QS,t,w,u,e.box,e.co.box,PL,KL,hw,s1,g,d,c,b,uZ]
def vg:PC->PC|.seq a _=>a|x=>x
def vh:PC->PC|.seq _ b=>b|x=>x
def fL(Q:Prop)(B:Nat)(lo:oN):Prop:=(lo=none/\Q)\/ ∃j,j<=B/\lo=some j
theorem fL.no{B:Nat}(h:Q):fL Q B none:=.inl ⟨rfl,h⟩
def fL.step{e d:Prop}{B:Nat}{m l:List ae}{b a:oN}(h:fL e B b)(g:gA d B m l b a)(f:e->d->Q):fL Q B a:=by
 rcases h with⟨rfl,h⟩| ⟨j,i,rfl⟩
 ·rcases g with⟨rfl,_,g⟩| ⟨k,c,rfl⟩
  ·exact .inl ⟨rfl,f h g⟩
  ·exact .inr ⟨k,c,rfl⟩
 ·rcases g with⟨rfl,_,_⟩| ⟨k,c,rfl⟩
  ·exact .inr ⟨j,i,rfl⟩
  ·exact .inr ⟨min k j,by omega,rfl⟩
def gA.n{B:Nat}{H H':List ae}(h:gA Q B H H' none lo):fL Q B lo:=(fL.no trivial).step h λ_ q=>q
def eI.akk{m s N:Nat}{f st:bG}{a g:AV}{H W:List ae}{c:oN}(e:dp m p q s f a g H)(l:H.length=N)(h:dp m p q s st qv rv W)(i:Fq m [p,q,s] H W)(o:fL (qv=a) p c)(n:v.refs<=N):
  eI m p q s H lo st a v (.ret (finish N lo v ⟨W,c⟩).1 (finish N lo v ⟨W,c⟩).2):=by
 have x:=e.lt;have w:=e.ps;have u:=e.co.mp;have t: ∃d b,finish N lo v ⟨W,c⟩=(v,⟨d,b⟩)/\Fq m [p,q,s] H d/\gA (qv=a) p H d lo b/\ (d=W\/ (d=W.take N/\qv=a)):=by
  rcases o with⟨rfl,k⟩| ⟨j,r,rfl⟩
  ·refine⟨W.take N,lo,ju (.inl rfl) n,i.take l (by omega),.inl ⟨rfl,?_,k⟩,.inr ⟨rfl,k⟩⟩;rw[afS];have:=i.len;omega
  ·exact⟨W,cJ lo j,wB (by omega),i,.inr ⟨j,r,rfl⟩,.inl rfl⟩
 obtain⟨d,b,f1,f2,f3,f4⟩:=t;rw[f1];exact⟨qv,rv,d,b,rfl,h.pD f4 id e l,f2,f3⟩
def nw(n:Nat):PC:=match n with
 |0=>oR.body
 |n+1=>vh (nw n)
def kf(n:Nat):PC:=vg (nw n)
def UI:PC:=nw 3
def UJ:PC:=nw 6
def UK:PC:=nw 7
theorem awY:oR.body= .seq (kf 0) (.seq (kf 1) (.seq (kf 2) UI)):=rfl
theorem awZ:UI= .seq (kf 3) (.seq (kf 4) (.seq (kf 5) UJ)):=rfl
theorem aw0:UJ= .seq (kf 6) UK:=rfl
theorem aw1:UK= .seq (kf 7) (.seq (kf 8) (.seq (kf 9) (nw 10))):=rfl
def fi(st:bG):bG:=if 0<st.c.run.2/\dY st.x.S st.c.aa st.c.c≠st.c.run.2 then{st with x:=ch st.x st.c.run,c:={st.c with run:=(0,0)}}else st
structure CmS(m p q s N M:Nat)(H:List ae)(qv0 rv:AV)(st:bG)(c:cq)(nx:bD)(r:bA)(bv:AV)(e:Env)(W:List ae)(lo:oN):Prop where
 e1:e 1= .ptr N 0
 e3:e 3= .ptr (N+1) 0
 e6:e 6= .ptr M 0
 e7:e 7= .ptr (M+1) 0
 e8:e 8=bv
 st: ∃qv,dp m p q s st qv rv W/\fL (qv=qv0) p lo
 w0:W[N]?=some (.box [.ptr s 0] none)
 w1:W[N+1]?=some (.box (bn c) none)
 w6:W[M]?=some (.box (bw nx) none)
 w7:W[M+1]?=some (.box (bF r) none)
 fr:Fq m [p,q,s] H W
 sN:s<N
 NM:N+2<=M
theorem CT: ∀ (l:List aC) (x:Core),(∀r∈l,r.2<=64)->(l.foldl ch x).Q.length<=x.Q.length+64*l.length
 | [],_,_=>by simp
 |r::l,x,h=>by
  have:=CT l (ch x r) (λz a=>h z (by grind));have b: (ch x r).Q.length=x.Q.length+r.2:=by simp[ch,fg]
  grind
theorem UL: ∀ (l:List aC) (x:Core),(l.foldl ch x).S=x.S/\ (l.foldl ch x).P=x.P/\ (l.foldl ch x).M=x.M
 | [],_=>⟨rfl,rfl,rfl⟩
 |r::l,x=>UL l (ch x r)
theorem UM: ∀ (l:List aC) (x:Core),(∀r∈l,r.1<=64/\r.2<=64)->(∀k∈x.Q,k<2147483648)-> ∀k∈(l.foldl ch x).Q,k<2147483648
 | [],_,_,h=>h
 |r::l,x,h,c=>UM l (ch x r) (λz b=>h z (by grind)) λk a=>by
  rcases aev.1 a with a|a
  ·grind
  ·obtain⟨i,d,rfl⟩:=afH.1 a
   grind
def jO.akm{x:Core}(a:jO x)(b: ∀r∈l,r.1<=64/\r.2<=64)(g:x.Q.length+64*l.length<8589934592):jO (l.foldl ch x):=by
 obtain⟨f,e,d⟩:=UL l x;exact⟨f ▸ a.S,e ▸ a.P,d ▸ a.M,UM l x b a.Q,by have:=CT l x (λr c=>(b r c).2);omega⟩
def UN{m s N:Nat}{H:List ae}{g T:AV}{R st:bG}{nx:bD}{r:bA}{bv:AV}{back:List aC}{e:Env}{W:List ae}(h0:dp m p q s R g T H)(hN:H.length=N)
  (h:CmS m p q s N M H g rv st c nx r bv e W lo) (hb:Rv bv 2 (back.map aA)) (B:back.length<=4096/\ ∀r∈back,r.1<=64/\r.2<=64) (y:qN st) (Y:bm nx) (hQ:st.x.Q.length<4294967296) (F:oN):
  wp XC 144 false UK ⟨e,[]⟩ ⟨W,lo⟩ (dW XC N F [.t 2] (eI m p q s H F (o8 {st with x:=back.foldl ch {st.x with S:=nx},c:={st.c with run:=(0,0)}} r) g (.bool true))):=by
 obtain⟨e1,e3,e6,e7,e8,⟨qv,d,f⟩,w0,w1,w6,w7,fr,sN,NM⟩:=h;have HA:=d.ps;have UO:=d.co.qp;have hmp:=d.co.mp;have Q:=d.ai (d.co.ajO nx) (d.co.fp _);have O:=Q.set (qM:={st with x:={st.x with S:=nx},c:={st.c with run:=(0,0)}}) rfl d.aW;have hF:=(d.co.fp (.box (bp {st.x with S:=nx} q qv) none)).m3.trans (Q.fs (.box (dZ {st with x:={st.x with S:=nx},c:={st.c with run:=(0,0)}} p rv) none));have hw: ∀i o,i≠p->i≠s->W[i]?=some o->((W.set p (.box (bp {st.x with S:=nx} q qv) none)).set s (.box (dZ {st with x:={st.x with S:=nx},c:={st.c with run:=(0,0)}} p rv) none))[i]?=some o:=λi o hi hi2 ho=>by
  rw[adb (Ne.symm hi2),adb (Ne.symm hi)];exact ho
 have G: [AV.int .i64 0,.int .i64 0]=aA (0,0):=rfl;have J: ∀r:aC,(aA r).length=2:=λ_=>rfl
 have I: ∀r:aC,aK (aA r)=0:=λ_=>rfl
 have hNp: (N !=p)=true:=by simp;omega
 rw[aw1];simp only[go_sem,simprocAttr,oR,kf,nw,vg,vh,e1,e6,e8,w0,w6,d.box,d.co.box,Q.box,PL,G,PS,KS,oW,hb.bS,ep,J,I,Me,hNp];generalize hW1: (W.set p (.box (bp {st.x with S:=nx} q qv) none)).set s (.box (dZ {st with x:={st.x with S:=nx},c:={st.c with run:=(0,0)}} p rv) none)=W1 at*;refine iq back.length (λk e P j=> ∃w,e 1= .ptr N 0/\e 7= .ptr (M+1) 0/\e 128=bv/\e 129= .int .i64 back.length/\e 130= .int .i64 k/\dp m p q s {st with x:=(back.take k).foldl ch {st.x with S:=nx},c:={st.c with run:=(0,0)}} w rv P/\fL (w=g) p j/\P[N]?=some (.box [.ptr s 0] none)/\P[M+1]?=some (.box (bF r) none)/\Fq m [p,q,s] H P) 0 (by omega) ?_ ?_
 ·refine⟨qv,?_⟩;simp only[go_sem,simprocAttr,e1,e7];exact⟨O,f,hw _ _ (by omega) (by omega) w0,hw _ _ (by omega) (by omega) w7,fr.trans hF⟩
 clear f Q O hF hw w0 w1 w6 w7 fr e1 e3 e6 e7 e8 d hW1;rintro k hk e P j ⟨w,e1,e7,v,u,t,d,f,w0,w7,fr⟩ n hn;have K:=λL=>aZ (L:=L) w0
 have Ms:=λL=>aZ (L:=L) d.box
 simp only[bX,go_sem,simprocAttr,aeZ,e1,v,u,t];refine⟨λhh=>?_,λhh=>?_⟩
 ·have l:k<back.length:=by omega
  generalize A:back.getD k default=D at*;have wW:=B.2 D (by rw[<-A];exact fx l);have V:=CT (back.take k) {st.x with S:=nx} (λz hz=>(B.2 z (aiy hz)).2);have yH: (back.take k).length<=k:=by simp;omega
  obtain⟨cr,g1,E,W3,U,rfl,g2,C,g4⟩:=UA (d.co.app [.box (aA D) none]) D ⟨by omega,by omega⟩ (by
   have: ({st.x with S:=nx}:Core).Q=st.x.Q:=rfl;rw[this]at V;show((back.take k).foldl ch {st.x with S:=nx}).Q.length<_;omega) j
  simp(disch:=omega) only[go_sem,simprocAttr,e1,e7,v,u,t,hb.cp,hb.c7,A,hn,J,I,K,Ms,PL,g1];have hs:=(d.app [.box (aA D) none]).ai g2 C;have UP:N∉[p,q]:=by simp;omega
  have Z:M+1∉[p,q]:=by simp;omega
  have e0: (back.take (k+1)).foldl ch {st.x with S:=nx}=ch ((back.take k).foldl ch {st.x with S:=nx}) D:=by
   rw[<-A,afX,aep l,amz,afQ,aep l];rfl
  rw[e0];refine⟨by omega,l,E,hs,f.step g4 (λa b=>b.trans a),C.own UP (K _),C.own Z (aZ w7),?_⟩;exact fr.trans (C.m3.pre (by have:=d.lt;omega))
 ·obtain rfl:k=back.length:=by omega
  rw[afK]at d;have X:qN {st with x:=back.foldl ch {st.x with S:=nx},c:={st.c with run:=(0,0)}}:=
   ⟨jO.akm (x:={st.x with S:=nx}) ⟨Y,y.x.P,y.x.M,y.x.Q,by show st.x.Q.length<_;omega⟩ B.2 (by show st.x.Q.length+_<_;omega),⟨y.c.aa,y.c.jd,y.c.aW,⟨by show 0<65536;omega,by show 0<65536;omega⟩,y.c.fw⟩⟩
  obtain⟨cr,g1,E,rv3,W3,U,rfl,g2,C,g4⟩:=UE d X r j;simp only[go_sem,simprocAttr,e7,w0,w7,ye,uZ,g1];exact eI.akk h0 hN g2 (fr.trans C) (f.step g4 λa b=>b.trans a) (aeu _)
def dp.other{m s:Nat}{st:bG}{W:List ae}(h:dp m p q s st qv rv W){cs:lA}{tg:Option TypeId}(a:W[i]?=some (.box cs tg))(d:i≠p)(c:i≠q)(b:i≠s)(o:ae):dp m p q s st qv rv (W.set i o):=
 ⟨h.co.set a d c o,h.ps,(adb b).trans h.box,h.aW⟩
def AD(P:cy)(c:cq)(pl:lN):cy:=if c.op=4 then vf P pl c.v pl.length else P
def AE(P:cy)(c:cq)(pl:lN)(v:Nat):Nat:=if c.op=3 then qO P pl v pl.length else v
def aw6{m s N:Nat}{H:List ae}{j F:AV}{E st:bG}{nx:bD}{r:bA}{bv:AV}{back:List aC}{pl:lN}{e:Env}{W:List ae}(T:dp m p q s E j F H)(O:H.length=N)
  (h:CmS m p q s N M H j rv st c nx r bv e W lo) (Y:e 4=pv) (z:Rv pv 1 (pl.map ij)) (A:pl.length<=8/\ ∀k∈pl,k<65536) (G:c.op=3->r.v<18446744073709551616) (K:Rv bv 2 (back.map aA)) (t:back.length<=4096/\ ∀r∈back,r.1<=64/\r.2<=64) (d:qN st) (l:bm nx) (L:st.x.Q.length<4294967296) (b:oN):
  wp XC 144 false UJ ⟨e,[]⟩ ⟨W,lo⟩ (dW XC N b [.t 2] (eI m p q s H b (o8 {st with x:=back.foldl ch {st.x with S:=nx,P:=AD st.x.P c pl},c:={st.c with run:=(0,0)}} {r with v:=AE st.x.P c pl r.v}) j (.bool true))):=by
 have h':=h;obtain⟨e1,e3,e6,e7,e8,⟨qv,a,n⟩,w0,w1,w6,w7,fr,sN,NM⟩:=h;have HA:=a.ps;have Z:=a.co.qp;have hmp:=a.co.mp;have B: ∀k,k<pl.length->pl.getD k 0<65536:=λk D=>by simp_all
 rw[aw0];by_cases X:c.op=4
 ·have w: (c.op:Int)=4:=by omega
  have u:W.set q (.box (b8 (vf st.x.P pl c.v 0)) none)=W:=qF a.co.fY;have g:=λlo=>akj z A.1 (f:=.func 158) (cs:=[.ptr N 0,.ptr (N+1) 0]) (.ptr s 0) (λk=>W.set q (.box (b8 (vf st.x.P pl c.v k)) none)) (λk=>by simp) (λk D=>by
   have Q:=a.ai (a.co.Gx (vf st.x.P pl c.v k)) (a.co.fq _);rw[awW Q (UG d.x.P pl c.v k) ((adb (by omega)).trans w0) ((adb (by omega)).trans w1) _ k (B k D) (by omega)];show some (aU.ret _ ⟨_,_⟩)=_;rw[ak7,akg]) lo
  simp only[u]at g;simp only[go_sem,simprocAttr,oR,kf,nw,vg,vh,e1,e3,Y,w0,w1,gz,w,g];have U:AD st.x.P c pl=vf st.x.P pl c.v pl.length:=adY X;have C:AE st.x.P c pl r.v=r.v:=adU (by omega);rw[U,C];refine UN (rv:=rv) (M:=M) (c:=c) (nx:=nx) (r:=r) (bv:=bv) (back:=back) (st:={st with x:={st.x with P:=vf st.x.P pl c.v pl.length}}) T O ?_ K t ⟨⟨d.x.S,UG d.x.P pl c.v _,d.x.M,d.x.Q,d.x.Ql⟩,d.c⟩ l L b;exact⟨e1,e3,e6,e7,e8,⟨qv,a.ai (a.co.Gx _) (a.co.fq _),n⟩,(adb (by omega)).trans w0,(adb (by omega)).trans w1,(adb (by omega)).trans w6,(adb (by omega)).trans w7,fr.trans (a.co.fq _).m3,sN,NM⟩
 ·have w: ¬(c.op:Int)=4:=by omega
  have U:AD st.x.P c pl=st.x.P:=adU X;rw[U];by_cases R:c.op=3
  ·have y: (c.op:Int)=3:=by omega
   have u:W.set (M+1) (.box (bF {r with v:=qO st.x.P pl r.v 0}) none)=W:=qF w7;have g:=λlo=>akj z A.1 (f:=.func 160) (cs:=[.ptr N 0,.ptr (M+1) 0]) (.ptr s 0) (λk=>W.set (M+1) (.box (bF {r with v:=qO st.x.P pl r.v k}) none)) (λk=>by simp) (λk D=>by
    have Q:=a.other w7 (by omega) (by omega) (by omega) (.box (bF {r with v:=qO st.x.P pl r.v k}) none);rw[awX Q d.x.P (r:={r with v:=qO st.x.P pl r.v k}) (UH d.x.P pl r.v (G R) k (by omega)) ((adb (by omega)).trans w0) (cG w7) _ k (B k D) (by omega)];show some (aU.ret _ ⟨_,_⟩)=_;rw[ak7,akh]) lo
   simp only[u]at g;simp only[go_sem,simprocAttr,oR,kf,nw,vg,vh,e1,e3,Y,e7,w0,w1,gz,y,g];have C:AE st.x.P c pl r.v=qO st.x.P pl r.v pl.length:=adY R;rw[C];have J:Fq m [p,q,s] H (W.set (M+1) (.box (bF {r with v:=qO st.x.P pl r.v pl.length}) none)):=⟨by rw[afN];exact fr.len,λi I=>by rw[adb (by omega)];exact fr.low i I,λi o I ho V=>by
    have:=ew V;rw[adb (by omega)];exact fr.box i o I ho V⟩
   refine UN (rv:=rv) (M:=M) (c:=c) (nx:=nx) (bv:=bv) (back:=back) (r:={r with v:=qO st.x.P pl r.v pl.length}) T O ?_ K t d l L b;exact⟨e1,e3,e6,e7,e8,⟨qv,a.other w7 (by omega) (by omega) (by omega) _,n⟩,(adb (by omega)).trans w0,(adb (by omega)).trans w1,(adb (by omega)).trans w6,cG w7,J,sN,NM⟩
  ·have y: ¬(c.op:Int)=3:=by omega
   have C:AE st.x.P c pl r.v=r.v:=adU R;rw[C];simp only[go_sem,simprocAttr,oR,kf,nw,vg,vh,e3,w1,gz,w,y];refine UN (rv:=rv) (M:=M) (c:=c) (nx:=nx) (bv:=bv) (back:=back) (r:=r) T O ?_ K t d l L b;exact⟨e1,e3,e6,e7,e8,⟨qv,a,n⟩,w0,w1,w6,w7,fr,sN,NM⟩
structure si(d:bD×bA×List aC)(c:cq):Prop where
 S:bm d.1
 len:d.2.2.length<=4096
 runs: ∀r∈d.2.2,r.1<=64/\r.2<=64
 v:c.op=3->d.2.1.v<18446744073709551616
 w:d.2.1.w<4294967296
 e:d.2.1.e<4294967296
def Mt(st:bG):bG:=
 let d:=ds st.x.S st.c.aa st.c.c st.c.run
 if d.2.1.e≠0 then o8 st d.2.1
 else o8 {st with x:=d.2.2.foldl ch {st.x with S:=d.1,P:=AD st.x.P st.c.c (iG st.x.S st.c.c).1},c:={st.c with run:=(0,0)}} {d.2.1 with v:=AE st.x.P st.c.c (iG st.x.S st.c.c).1 d.2.1.v}
theorem ako(s:bG):rW s=Mt (fi s):=by rfl
def UQ{m s N:Nat}{H:List ae}{h z:AV}{y st:bG}{e:Env}{W:List ae}(Y: ∀op,pC op)(F:dp m p q s y h z H)(E:H.length=N)
  (I:e 1= .ptr N 0) (G:e 3= .ptr (N+1) 0) (f:dp m p q s st qv rv W) (k:fL (qv=h) p lo) (x:W[N]?=some (.box [.ptr s 0] none)) (t:W[N+1]?=some (.box (bn st.c.c) none)) (J:Fq m [p,q,s] H W)
  (g:qN st) (v:si (ds st.x.S st.c.aa st.c.c st.c.run) st.c.c) (X:st.x.Q.length<4294967296) (i:oN):
  wp XC 144 false UI ⟨e,[]⟩ ⟨W,lo⟩ (dW XC N i [.t 2] (eI m p q s H i (Mt st) h (.bool true))):=by
 have T:=f.ps;have S:=f.co.qp;have U:=f.co.mp;have sN:s<N:=by rw[<-E];exact F.lt
 have R:=g.c.run;obtain⟨pv,u,P⟩:=avX st.x.S g.x.S st.c.c g.c.jd W lo;have u:=cB u;obtain⟨bv,d1,d2⟩:=Um st.x.S g.x.S st.c.aa g.c.aa st.c.c g.c.jd st.c.run ⟨by omega,by omega⟩ (Y _) (W++[.box nE none,.box [.int .i64 0,.int .u64 0,.int .u32 0] none]) lo;have d1:=cB d1;have C:=akd g.x.S st.c.c;unfold Mt;dsimp only;generalize V:ds st.x.S st.c.aa st.c.c st.c.run=d at*;obtain⟨M,w⟩: ∃M,W.length=M:=⟨_,rfl⟩;have D:N+2<=M:=by have:=ew t;omega
 have B:=λL=>aZ (L:=L) x
 have o:=λL=>aZ (L:=L) f.box
 have A:=λL=>aZ (L:=L) t
 have n:=λL=>aZ (L:=L) f.co.box
 have l: (bF d.2.1)[0]?=some (.int .i64 d.2.1.e):=rfl;rw[awZ];by_cases he:d.2.1.e=0
 ·have j: ((d.2.1.e:Nat):Int)=0:=by omega
  rw[adU (λq=>q he)];simp only[go_sem,simprocAttr,oR,kf,nw,vg,vh,I,G,x,t,w,f.box,f.co.box,B,A,o,n,PL,↓PL,KL,↓KL,DZ,u,d1,l,j,oW,sg];refine aw6 (rv:=rv) (M:=M) (c:=st.c.c) (nx:=d.1) (r:=d.2.1) (bv:=bv) (pv:=pv) (pl:=(iG st.x.S st.c.c).1) (back:=d.2.2) F E ?_ rfl P C v.v d2 ⟨v.len,v.runs⟩ g v.S X i;exact⟨I,G,rfl,rfl,rfl,⟨qv,f.app _,k⟩,B _,A _,by rw[dB w];rfl,by rw[bE w];rfl,J.trans (Fq.app _ (by omega)),sN,D⟩
 ·have j: ¬((d.2.1.e:Nat):Int)=0:=by omega
  rw[adY he];obtain⟨cr,g1,O,K,W2,Q,rfl,g2,g3,Z⟩:=UE (f.app [.box (bw d.1) none,.box (bF d.2.1) none]) g d.2.1 lo;simp only[go_sem,simprocAttr,oR,kf,nw,vg,vh,I,G,x,t,w,f.box,f.co.box,B,A,o,n,PL,↓PL,KL,↓KL,DZ,u,d1,l,j,oW,sg,g1];exact eI.akk F E g2 (J.trans (g3.pre (by omega))) (k.step Z λa b=>b.trans a) (aeu _)
theorem UR:aK (bn c)=0:=rfl
def aw7{m s:Nat}{H:List ae}{st:bG}(t: ∀op,pC op)(a:dp m p q s st qv rv H)(b:qN st)(h:si (ds (fi st).x.S (fi st).c.aa (fi st).c.c (fi st).c.run) st.c.c)(V:st.x.Q.length<2147483648)(lo:oN):
  ∃C,D XC (.fn (.func 144) [] []) [.ptr s 0] ⟨H,lo⟩=some C/\eI m p q s H lo (rW st) qv (.bool true) C:=by
 have ho:Old s H (.box (dZ st p rv) none):=⟨a.box⟩;refine cE oR λN d=>?_
 have sN:s<N:=by rw[<-d];exact a.lt
 have R:=a.ps;have P:=a.co.qp;have S:=a.co.mp;rw[ako,awY];have O:=b.c.run;have G:=λH lo=>cB (Un st.x.S b.x.S st.c.aa b.c.aa st.c.c b.c.jd (t _) H lo)
 have F: (H++[.box [.ptr s 0] none,.box (bn st.c.c) none])[N]?=some (.box [.ptr s 0] none):=by rw[dB d];rfl
 have E: (H++[.box [.ptr s 0] none,.box (bn st.c.c) none])[N+1]?=some (.box (bn st.c.c) none):=by rw[bE d];rfl
 have f:=λL=>aZ (L:=L) a.box
 have n:=λL=>aZ (L:=L) a.co.box
 by_cases J:0<st.c.run.2
 ·have e: ((st.c.run.2:Nat):Int)>0:=by omega
  by_cases I:dY st.x.S st.c.aa st.c.c=st.c.run.2
  ·have g:decide (((dY st.x.S st.c.aa st.c.c:Nat):Int)=st.c.run.2)=true:=aet (by omega);have o:fi st=st:=adU (λq=>q.2 I);rw[o]at h⊢;simp only[go_sem,simprocAttr,oR,kf,nw,vg,vh,d,f,n,PL,↓PL,KL,↓KL,Gp,Mf,UR,Gt,e,G,g];exact UQ t a d rfl rfl (a.app _) (fL.no rfl) F E (Fq.app _ (by omega)) b h (by omega) lo
  ·have g:decide (((dY st.x.S st.c.aa st.c.c:Nat):Int)=st.c.run.2)=false:=aeq (by omega);have o:fi st={st with x:=ch st.x st.c.run,c:={st.c with run:=(0,0)}}:=adY ⟨J,I⟩;rw[o]at h⊢;obtain⟨C,g1,K,W,M,rfl,g2,u,U⟩:=UA (a.co.app [.box [.ptr s 0] none,.box (bn st.c.c) none]) st.c.run ⟨by omega,by omega⟩ (by omega) none;have v:=(a.app [.box [.ptr s 0] none,.box (bn st.c.c) none]).ai g2 u;have B:N∉[p,q]:=by simp;omega
   have A:N+1∉[p,q]:=by simp;omega
   have v0:=u.own B F;have v1:=u.own A E;have j: [AV.int .i64 0,.int .i64 0]=aA (0,0):=rfl;have y: ∀r:aC,(aA r).length=2:=λ_=>rfl
   have w: ∀r:aC,aK (aA r)=0:=λ_=>rfl
   simp only[go_sem,simprocAttr,oR,kf,nw,vg,vh,d,f,n,PL,↓PL,KL,↓KL,Gp,Mf,UR,Gt,e,G,g,g1,v0,v.box,j,y,w,PS];have Q: (ch st.x st.c.run).Q.length=st.x.Q.length+st.c.run.2:=by simp[ch,fg]
   have z:qN {st with x:=ch st.x st.c.run,c:={st.c with run:=(0,0)}}:=⟨⟨b.x.S,b.x.P,b.x.M,λk l=>by
    rcases aev.1 l with l|l
    ·exact b.x.Q k l
    ·obtain⟨i,T,rfl⟩:=afH.1 l;have:=alI.1 T;show st.c.run.1+i<_;omega,by show(ch st.x st.c.run).Q.length<_;omega⟩,⟨b.c.aa,b.c.jd,b.c.aW,⟨by show 0<65536;omega,by show 0<65536;omega⟩,b.c.fw⟩⟩
   refine UQ (st:={st with x:=ch st.x st.c.run,c:={st.c with run:=(0,0)}}) t a d ?_ ?_ (v.set rfl a.aW) U.n ?_ ?_ ?_ z h (by show(ch st.x st.c.run).Q.length<_;omega) lo
   ·exact rfl
   ·exact rfl
   ·exact(adb (by omega)).trans v0
   ·exact(adb (by omega)).trans v1
   ·exact((Fq.app _ (by omega)).trans u.m3).trans (v.fs _)
 ·have e: ¬((st.c.run.2:Nat):Int)>0:=by omega
  have o:fi st=st:=adU (λq=>J q.1);rw[o]at h⊢;simp only[go_sem,simprocAttr,oR,kf,nw,vg,vh,d,f,PL,↓PL,Gp,UR,Gt,e];exact UQ t a d rfl rfl (a.app _) (fL.no rfl) F E (Fq.app _ (by omega)) b h (by omega) lo
def eJ:Nat->bG->bG×Bool
 |0=>jq|1=>jr|2=>jI|3=>kQ|_=>λs=>(rW s,true)
def akp:Nat->FuncId
 |0=>140|1=>141|2=>142|3=>143|_=>144
def akq{s:bG}(h: (jq s).2=false): (jq s).1=s:=by
 unfold jq at*;grind
def akr{s:bG}(h: (jr s).2=false): (jr s).1=s:=by
 unfold jr at*;grind
def aks{s:bG}(h: (jI s).2=false): (jI s).1=s:=by
 unfold jI at*;grind
def akt{s:bG}(h: (kQ s).2=false): (kQ s).1=s:=by
 unfold kQ at*;grind
def aw8{s:bG}(h: (eJ k s).2=false): (eJ k s).1=s:=by
 rcases(show k=0\/k=1\/k=2\/k=3\/4<=k by omega)with q|q|q|q|q
 ·subst q;exact akq h
 ·subst q;exact akr h
 ·subst q;exact aks h
 ·subst q;exact akt h
 ·obtain⟨j,rfl⟩: ∃j,k=j+4:=⟨k-4,by omega⟩;cases h
def ny(s:bG)(k:Nat):bG:=if(eJ k s).2 then(eJ k s).1 else match k with
 |0=>if(eJ 1 s).2 then(eJ 1 s).1 else if(eJ 2 s).2 then(eJ 2 s).1 else if(eJ 3 s).2 then(eJ 3 s).1 else(eJ 4 s).1
 |1=>if(eJ 2 s).2 then(eJ 2 s).1 else if(eJ 3 s).2 then(eJ 3 s).1 else(eJ 4 s).1
 |2=>if(eJ 3 s).2 then(eJ 3 s).1 else(eJ 4 s).1
 |_=>(eJ 4 s).1
def CU{s:bG}(h: (eJ k s).2=true):ny s k=(eJ k s).1:=by unfold ny;grind
def Gz{s:bG}(b:k<4)(h: (eJ k s).2=false):ny s k=ny s (k+1):=by
 have a: ¬(eJ k s).2=true:=by grind
 rcases(show k=0\/k=1\/k=2\/k=3 by omega)with q|q|q|q<;>subst q
 ·exact(adU a: (if(eJ 0 s).2=true then(eJ 0 s).1 else ny s 1)=ny s 1)
 ·exact(adU a: (if(eJ 1 s).2=true then(eJ 1 s).1 else ny s 2)=ny s 2)
 ·exact(adU a: (if(eJ 2 s).2=true then(eJ 2 s).1 else ny s 3)=ny s 3)
 ·exact(adU a: (if(eJ 3 s).2=true then(eJ 3 s).1 else ny s 4)=ny s 4)
def aw9(x:Core)(c:Call):fE x c=ny ⟨x,c,bL,false⟩ 0:=by
 unfold fE;dsimp only;generalize(⟨x,c,bL,false⟩:bG)=s;cases e: (jq s).2 with
 |true=>rw[adY rfl,CU (k:=0) e];rfl
 |false=>
  rw[adU (by simp),akq e,Gz (k:=0) (by omega) e];cases d: (jr s).2 with
  |true=>rw[adY rfl,CU (k:=1) d];rfl
  |false=>
   rw[adU (by simp),akr d,Gz (k:=1) (by omega) d];cases b: (jI s).2 with
   |true=>rw[adY rfl,CU (k:=2) b];rfl
   |false=>
    rw[adU (by simp),aks b,Gz (k:=2) (by omega) b];cases a: (kQ s).2 with
    |true=>rw[adY rfl,CU (k:=3) a];rfl
    |false=>rw[adU (by simp),akt a,Gz (k:=3) (by omega) a,CU (k:=4) rfl];rfl
def axa{m s:Nat}{H:List ae}{st:bG}(c: ∀op,pC op)(b:dp m p q s st qv rv H)(a:qN st)(e:si (ds (fi st).x.S (fi st).c.aa (fi st).c.c (fi st).c.run) st.c.c)(f:st.x.Q.length<2147483648)(k:Nat)(lo:oN):
  ∃d,D XC (.fn (.func (akp k)) [] []) [.ptr s 0] ⟨H,lo⟩=some d/\eI m p q s H lo (eJ k st).1 qv (.bool (eJ k st).2) d:=by
 rcases(show k=0\/k=1\/k=2\/k=3\/4<=k by omega)with h|h|h|h|h
 ·subst h;exact awQ c b a lo
 ·subst h;exact awR b a lo
 ·subst h;exact awS c b a lo
 ·subst h;exact awT b a lo
 ·obtain⟨j,rfl⟩: ∃j,k=j+4:=⟨k-4,by omega⟩;exact aw7 c b a e f lo
def axb{X:Ctx}{f:FuncId}{fs args:lA}{E:AS}{r:aU}(h:D X (.fn (.func f) [] []) (fs++args) E=some r):D X (.fn (.func f) fs []) args E=some r:=by
 obtain⟨n,a⟩:=zd h;cases n with
 |zero=>cases a
 |succ n=>exact N9 (n:=n+1) _ _ _ _ a
def Mv(m p q:Nat)(H:List ae)(lo:oN)(st:bG)(qv:AV)(b:aU):Prop:=
 ∃a sh H' aj,b= .ret (.aw [.agg (bN st.c sh),.agg (bF st.r),.bool st.ended]) ⟨H',aj⟩/\dQ m p q st.x a H'/\Rv sh 1 (st.c.aW.map hC)/\Fq m [p,q] H H'/\gA (a=qv) p H H' lo aj
def wF:lA:=[.int .i64 0,.int .u8 0,.int .u32 0,.int .u32 0,.int .u32 0,.int .u32 0,.int .u64 0,.bool false,.aq,.int .i64 0,.int .i64 0,.int .i64 0]
def ou:lA:=[.int .i64 0,.int .u64 0,.int .u32 0]
def Fq.cut{m:Nat}{S T:lN}{H B W:List ae}(h:Fq m S (H++B) W)(d: ∀i∈S,i∈T\/H.length<=i)(c:m<=H.length):Fq m T H W:=⟨by have:=h.len;grind,λi a=>by rw[h.low i a,List.getElem?_append_left (by omega)],λi o a ho b=>by
 exact h.box i o (λq=>by grind) ho (aZ b)⟩
def Fq.out{m:Nat}{T:lN}{H W:List ae}(h:Fq m T H W)(e:H.length<=i)(c:m<=H.length)(o:ae):Fq m T H (W.set i o):=⟨by rw[afN];exact h.len,λj a=>by rw[adb (by omega)];exact h.low j a,λj o a ho b=>by
 have d:=ew b;rw[adb (by omega)];exact h.box j o a ho b⟩
def Mv.fin{m N:Nat}{H W:List ae}{b:oN}{a:AV}{i:Core}{st:bG}(e:dQ m p q i a H)(g:H.length=N)(h:dQ m p q st.x qv W)(c:Rv rv 1 (st.c.aW.map hC))(d:Fq m [p,q] H W)(l:fL (qv=a) p b):
  Mv m p q H lo st a (.ret (finish N lo (.aw [.agg (bN st.c rv),.agg (bF st.r),.bool st.ended]) ⟨W,b⟩).1 (finish N lo (.aw [.agg (bN st.c rv),.agg (bF st.r),.bool st.ended]) ⟨W,b⟩).2):=by
 have s:=e.lt;have r:=e.mp;have k: (AV.aw [.agg (bN st.c rv),.agg (bF st.r),.bool st.ended]).refs<=N:=by
  have:=UD st.c (cY c (bB (λ_=>rfl) _));have o:= @sg st.r;simp[AV.refs,aK,this,o]
 rcases l with⟨rfl,f⟩| ⟨j,n,rfl⟩
 ·rw[ju (.inl rfl) k];refine⟨qv,rv,_,lo,rfl,h.pD (Q:=qv=a) (.inr ⟨rfl,f⟩) id e g,c,d.take g (by omega),.inl ⟨rfl,?_,f⟩⟩;rw[afS];have:=d.len;omega
 ·rw[wB (by omega)];exact⟨qv,rv,W,cJ lo j,rfl,h,c,d,.inr ⟨j,n,rfl⟩⟩
def axc{m:Nat}{H:List ae}{x:Core}{c:Call}(hD: ∀op,pC op)(J:dQ m p q x qv H)(hx:jO x)(hc:fS c)(hr:Rv rv 1 (c.aW.map hC))
  (F:si (ds (fi ⟨x,c,bL,false⟩).x.S (fi ⟨x,c,bL,false⟩).c.aa (fi ⟨x,c,bL,false⟩).c.c (fi ⟨x,c,bL,false⟩).c.run) c.c) (hQ:x.Q.length<2147483648) (lo:oN):
  ∃Y,D XC (.fn (.func 123) [] []) [.ptr p 0,.agg (bN c rv)] ⟨H,lo⟩=some Y/\Mv m p q H lo (fE x c) qv Y:=by
 refine cE Qy λN l=>?_
 have pA:p<N:=by rw[<-l];exact J.lt
 have UO:=J.qp;have hmp:=J.mp;obtain⟨st,d⟩: ∃st:bG,st=⟨x,c,bL,false⟩:=⟨_,rfl⟩;have G: ∀ (c:Call) rv,List.take 12 (bN c rv)=bN c rv:=λ_ _=>rfl
 have v: ∀rv,AV.ptr p 0:: (bN c rv++[.int .i64 0,.int .u64 0,.int .u32 0,.bool false])=dZ st p rv:=λrv=>by rw[d];rfl
 have hrz:=cY hr (bB (λ_=>rfl) _);obtain⟨B,hB⟩: ∃B:List ae,B=[.box (bN c rv) none,.box wF none,.box ou none,.box (dZ st p rv) none]:=⟨_,rfl⟩;have hB4: (H++B).length=N+4:=by rw[hB];simp[l]
 have w:dp m p q (N+3) st qv rv (H++B):=by
  rw[d];exact⟨J.app B,by omega,by rw[hB,bE l,d];rfl,hr⟩
 have U:qN st:=by rw[d];exact⟨hx,hc⟩
 rw[aw9,<-d];rw[<-d]at F;have F:si (ds (fi st).x.S (fi st).c.aa (fi st).c.c (fi st).c.run) st.c.c:=by rw[d]at F⊢;exact F
 have I: ∀ (c:Call) rv,(bN c rv).length=12:=λ_ _=>rfl
 have ag8:min 12 12=12:=rfl;have C: ∀k,k<5->qV false 5 1 (.agg [.fn (.func 140) [.ptr (N+3) 0] [],.fn (.func 141) [.ptr (N+3) 0] [],.fn (.func 142) [.ptr (N+3) 0] [],.fn (.func 143) [.ptr (N+3) 0] [],.fn (.func 144) [.ptr (N+3) 0] []]) (.int .i64 (k:Nat))=some (.fn (.func (akp k)) [.ptr (N+3) 0] []):=by
  intro k hk;rcases(show k=0\/k=1\/k=2\/k=3\/k=4 by omega)with h|h|h|h|h<;>subst h<;>rfl
 generalize X:AV.agg [.fn (.func 140) [.ptr (N+3) 0] [],.fn (.func 141) [.ptr (N+3) 0] [],.fn (.func 142) [.ptr (N+3) 0] [],.fn (.func 143) [.ptr (N+3) 0] [],.fn (.func 144) [.ptr (N+3) 0] []]=Z at C;simp only[go_sem,simprocAttr,Qy,l,I,G,v,X];refine iq 5 (λk e W j=> ∃g s,e 4= .ptr (N+1) 0/\e 5= .ptr (N+2) 0/\e 7= .ptr (N+3) 0/\e 24=Z/\e 25= .int .i64 k/\k<=4/\dp m p q (N+3) st g s W/\fL (g=qv) p j/\Fq m [p,q,N+3] (H++B) W/\ny st 0=ny st k) 0 (by omega) ?_ ?_
 ·refine⟨qv,rv,?_⟩;simp only[go_sem,simprocAttr];rw[hB]at w⊢;exact⟨w,fL.no trivial,Fq.refl⟩
 rintro k hk e W j ⟨g,s,e4,e5,e7,L,K,hk4,hs,y,hf,A⟩ n hn;have E:=C k (by omega);obtain⟨Y,g1,Q,P,M,LB,rfl,g2,g3,g4⟩:=axa hD hs U F (by rw[d];exact hQ) k j;have g1:=axb (fs:=[.ptr (N+3) 0]) (args:=[]) g1;simp only[bX,go_sem,simprocAttr,aeU,e7,L,K];refine⟨λ_=>?_,λhh=>absurd (show((k:Nat):Int)<5 by omega) hh⟩;have f:=hf.trans g3;cases r: (eJ k st).2 with
 |true=>
  rw[r]at g1;have v1:M[N+1]?=some (.box wF none):=f.own (by simp;omega) (by rw[hB,bE l];rfl);have v2:M[N+2]?=some (.box ou none):=f.own (by simp;omega) (by rw[hB,bE l];rfl);have O: ∀o,(M.set (N+1) o)[N+2]?=some (.box ou none):=λo=>(adb (by omega)).trans v2
  have s1:=λo=>cG (o:=o) v1
  have s2:=λo o'=>cG (o:=o') (O o)
  have s3: ∀o o':ae,((M.set (N+1) o).set (N+2) o')[N+1]?=some o:=λo o'=>(adb (by omega)).trans (s1 o)
  have S:wF.length=12:=rfl;have R:ou.length=3:=rfl;have u:List.drop 12 wF=[]:=rfl;have t:List.drop 3 ou=[]:=rfl;have V:=UD (eJ k st).1.c g2.rz;simp only[go_sem,simprocAttr,E,e4,e5,e7,g1,g2.box,v1,O,s2,s3,PL,↓PL,S,R,u,t,I,G,ye,uZ,sg,V,Ap];refine⟨by simp,by simp,?_⟩;rw[A,CU r];have hq3:q<N:=by omega
  refine Mv.fin J l ((g2.co.set v1 (by omega) (by omega) _).set (O _) (by omega) (by omega) _) g2.aW ?_ (y.step g4 λa b=>b.trans a);exact((f.cut (T:=[p,q]) (by intro i hi;simp at hi⊢;omega) (by omega)).out (by omega) (by omega) _).out (by omega) (by omega) _
 |false=>
  rw[r]at g1;have he:=aw8 r;rw[he]at g2;have z:k<4:=by
   rcases(show k<4\/k=4 by omega)with q|q
   ·exact q
   ·subst q;cases r
  simp(disch:=omega) only[go_sem,simprocAttr,E,e4,e5,e7,L,K,g1];exact⟨Q,P,by omega,g2,y.step g4 (λa b=>b.trans a),f,by rw[A,Gz z r]⟩
def dm(x:ee):lA:=[.int .u8 x.op,.int .u8 x.a,.int .u8 x.b,.int .u8 x.c,.int .u16 x.n]
def dn(t:Task)(cv:AV):lA:=[cv,.int .i64 t.next]++arr 8 λi=>[.int .u64 (t.aW i)]
structure GA(x:ee):Prop where
 op:x.op<39
 a:x.a<8
 b:x.b<8
 c:x.c<8
 n:x.n<65536
 j:x.op=5\/x.op=6->x.n<=64
structure l5(t:Task):Prop where
 len:t.code.length<=64
 ins: ∀x∈t.code,GA x
 next:t.next<=64
 aW: ∀i,t.aW i<18446744073709551616
section
variable{t:Task}{cv:AV}
theorem yk: (dn t cv).length=10:=rfl
def GB(h:cv.refs=0):aK (dn t cv)=0:=by
 unfold dn;rw[FO,K7 (λ_=>rfl)];simp[aK,AV.refs,h]
theorem aku: (dn t cv)[0]?=some cv:=rfl
theorem akv: (dn t cv)[1]?=some (.int .i64 t.next):=rfl
theorem akw: (dn t cv)[7]?=some (.int .u64 (t.aW 5)):=rfl
theorem akx: (dn t cv)[8]?=some (.int .u64 (t.aW 6)):=rfl
theorem aky:List.take 10 (dn t cv)=dn t cv:=rfl
def US(h:i<8): (dn t cv)[2+i]?=some (.int .u64 (t.aW i)):=by
 rcases(show i=0\/i=1\/i=2\/i=3\/i=4\/i=5\/i=6\/i=7 by omega)with q|q|q|q|q|q|q|q<;>subst q<;>rfl
theorem akz{n:Nat}:aM (dn t cv) 1 [.int .i64 n]=dn {t with next:=n} cv:=rfl
def GC{v:Nat}(h:i<8):aM (dn t cv) (2+i) [.int .u64 v]=dn {t with aW:=ar t.aW i v} cv:=by
 rcases(show i=0\/i=1\/i=2\/i=3\/i=4\/i=5\/i=6\/i=7 by omega)with q|q|q|q|q|q|q|q<;>subst q<;>rfl
def TK:=gG @aku<|gG @akv<|gG @akw<|gG @akx<|gG @aky<|gG @akz @yk
end
theorem akA(x:ee): (dm x).length=5:=rfl
theorem akB(x:ee):aK (dm x)=0:=rfl
theorem akC(x:ee): (dm x)[0]?=some (.int .u8 x.op):=rfl
theorem akD(x:ee): (dm x)[1]?=some (.int .u8 x.a):=rfl
theorem akE(x:ee): (dm x)[2]?=some (.int .u8 x.b):=rfl
theorem akF(x:ee): (dm x)[3]?=some (.int .u8 x.c):=rfl
theorem akG(x:ee): (dm x)[4]?=some (.int .u16 x.n):=rfl
theorem akH(x:ee):List.take 5 (dm x)=dm x:=rfl
theorem akI(x:ee):List.drop 5 (dm x)=[]:=rfl
def IL:type_of% @akA/\type_of% @akB/\type_of% @akC/\type_of% @akD/\type_of% @akE/\type_of% @akF/\type_of% @akG/\type_of% @akH/\type_of% @akI:=⟨akA,akB,akC,akD,akE,akF,akG,akH,akI⟩
def CV:ee:=⟨0,0,0,0,0⟩
def GD(t:Task):AV:=.aw [.agg (dm ((rZ t).getD CV)),.bool (rZ t).isSome]
section
variable{t:Task}{cv:AV}(hv:Rv cv 5 (t.code.map dm))(jL:l5 t)(H:List ae)(lo:oN)
include hv jL
theorem UT:D X0 (.fn (.func 121) [] []) [.agg (dn t cv)] ⟨H,lo⟩=some (.ret (GD t) ⟨H,lo⟩):=by
 refine aH Kj λN d=>?_
 have h:=jL.next;have i:=jL.len;have f: ¬((t.next:Nat):Int)<0:=by omega
 have a:=λE=>hv.bS (E:=E)
 have c: [AV.int .u8 0,.int .u8 0,.int .u8 0,.int .u8 0,.int .u16 0]=dm CV:=rfl;unfold GD rZ;by_cases j:t.next<t.code.length
 ·have b: ¬((t.next:Nat):Int)>=t.code.length:=by omega
  have e:t.code[t.next]?=some (t.code.getD t.next default):=by grind
  rw[e];have g: (0:Int)<=t.next/\ (t.next:Int)<t.code.length:=by omega
  simp(disch:=omega) only[F1,go_sem,simprocAttr,Kj,d,TK,f,a,b,hv.cp,hv.c7,g,IL,p7]
 ·have b: ((t.next:Nat):Int)>=t.code.length:=by omega
  have e:t.code[t.next]?=none:=alG (by omega);rw[e];simp only[F1,go_sem,simprocAttr,Kj,d,TK,f,a,b,c,IL,p7]
omit hv jL in
theorem AF(i:Nat)(a:i<8):D X0 (.fn (.func 122) [] []) [.agg (dn t cv),.int .u8 i] ⟨H,lo⟩=some (.ret (.int .u64 (t.aW i)) ⟨H,lo⟩):=by
 refine aH Qx λN c=>?_
 have hm: ((i:Nat):Int).tmod 8=i:=by rw[Int.tmod_eq_emod_of_nonneg (by omega)];omega
 have b: (0:Int)<=i/\ (i:Int)<8:=by omega
 simp(disch:=omega) only[F1,go_sem,simprocAttr,Qx,c,hm,b,US a]
omit hv in
theorem GF{x:ee}(a:rZ t=some x):GA x:=by
 unfold rZ at a;exact jL.ins x (amm a)
theorem UU:D X0 (.fn (.func 94) [] []) [.agg (dn t cv)] ⟨H,lo⟩=some (.ret (.aw [.agg (bn (iW t).1),.bool (iW t).2]) ⟨H,lo⟩):=by
 refine aH B3 λN f=>?_
 have b:=λH lo=>UT hv jL H lo
 have m: [AV.int .u8 0,.int .u32 0,.int .u32 0,.int .u32 0,.int .u32 0,.int .u64 0]=bn mM:=rfl;have l: [AV.int .u8 20,.int .u32 0,.int .u32 0,.int .u32 0,.int .u32 0,.int .u64 0]=bn {mM with op:=20}:=rfl;have a: [AV.int .u8 0,.int .u8 0,.int .u8 0,.int .u8 0,.int .u16 0]=dm CV:=rfl;have v: ∀c,List.take 6 (bn c)=bn c:=λ_=>rfl
 have w: ∀c,List.drop 6 (bn c)=[]:=λ_=>rfl
 unfold GD at b;unfold iW;cases h:rZ t with
 |none=>
  rw[h]at b;simp only[axY,axL]at b;simp only[F1,go_sem,simprocAttr,B3,f,TK,b,IL,a,p7];rfl
 |some x=>
  rw[h]at b;simp only[ak0,axK]at b;have ho:=GF jL h;have p:=ho.op;have s:=jL.aW;by_cases j:x.op=0
  ·have d: (x.op:Int)=0:=by omega
   simp only[adY j];simp only[F1,go_sem,simprocAttr,B3,f,TK,b,IL,a,d,p7];rfl
  ·have d:decide ((x.op:Int)=0)=false:=aeq (by omega);by_cases k:x.op<=16
   ·have e: (x.op:Int)<=16:=by omega
    simp only[adU j,adY k];simp only[F1,go_sem,simprocAttr,B3,f,TK,b,IL,a,d,e,p7];rfl
   ·have e: ¬(x.op:Int)<=16:=by omega
    have r:x.b % 8=x.b:=aop ho.b;have q:x.c % 8=x.c:=aop ho.c;have o: (x.op:Int)-16=((x.op-16:Nat):Int):=by omega
    have g: ∀n:Nat,IntKind.wrap .u32 (n:Int)=((n % 4294967296:Nat):Int):=λn=>by
     unfold IntKind.wrap IntKind.bits IntKind.signed;simp
    have u:=ho.n;have i:x.n % 4294967296=x.n:=aop (by omega);have rb:=λH lo=>AF (t:=t) (cv:=cv) H lo x.b ho.b
    have rc:=λH lo=>AF (t:=t) (cv:=cv) H lo x.c ho.c
    simp only[adU j,adU k,r,q];simp(disch:=omega) only[F1,go_sem,simprocAttr,B3,f,TK,b,IL,a,d,e,p7,rb,rc,o,g,i];rfl
end
theorem wrap64(n:Nat):IntKind.wrap .u64 (n:Int)=((n % mL:Nat):Int):=by rfl
theorem akJ(n:Nat): ((n:Nat):Int).tmod 8=((n % 8:Nat):Int):=by rfl
section
variable{t:Task}{cv:AV}(hv:Rv cv 5 (t.code.map dm))(jL:l5 t)
include hv jL
theorem axe(r:bA)(z:r.w<4294967296/\r.e<4294967296)(H:List ae)(lo:oN):
  D X0 (.fn (.func 145) [] []) [.agg (dn t cv),.agg (bF r)] ⟨H,lo⟩=some (.ret (.agg (dn (uL t r) cv)) ⟨H,lo⟩):=by
 refine aH Fl λN i=>?_
 have b:=λH lo=>UT hv jL H lo
 have hw:=λH lo=>UU hv jL H lo
 have e: [AV.int .u8 0,.int .u8 0,.int .u8 0,.int .u8 0,.int .u16 0]=dm CV:=rfl;have d: [AV.int .u8 0,.int .u32 0,.int .u32 0,.int .u32 0,.int .u32 0,.int .u64 0]=bn mM:=rfl;have k: ∀c,(bn c).length=6:=λ_=>rfl
 have l: ∀c,List.drop 6 (bn c)=[]:=λ_=>rfl
 have j: ∀c,aK (bn c)=0:=λ_=>rfl
 have f:=λt:Task=>GB (t:=t) (cY hv (bB (λ_=>rfl) _))
 have w:=jL.next;have u: (bF r)[0]?=some (.int .i64 r.e):=rfl;have s: (bF r)[1]?=some (.int .u64 r.v):=rfl;have q: (bF r)[2]?=some (.int .u32 r.w):=rfl;unfold GD at b;unfold uL;cases hx:rZ t with
 |none=>
  rw[hx]at b;simp only[axY,axL]at b;simp only[F1,go_sem,simprocAttr,Fl,i,TK,b,hw,IL,e,d,k,l,j,f]
 |some x=>
  rw[hx]at b;simp only[ak0,axK]at b;have ho:=GF jL hx;cases g: (iW t).2 with
  |false=>
   rw[g]at hw;simp only[F1,go_sem,simprocAttr,Fl,i,TK,b,hw,IL,e,d,k,l,j,f]
  |true=>
   rw[g]at hw;have h:x.a % 8<8:=by omega
   have y: (0:Int)<=(x.a % 8:Nat)/\ ((x.a % 8:Nat):Int)<8:=by omega
   have m:=λ (t:Task) (v:Nat)=>GC (t:=t) (cv:=cv) (v:=v) h
   have p: ∀ (t:Task) (v:Nat),aM (dn t cv) 6 [.int .u64 v]=dn {t with aW:=ar t.aW 4 v} cv:=λ_ _=>rfl
   have o: ∀ (t:Task) (v:Nat),aM (dn t cv) 9 [.int .u64 v]=dn {t with aW:=ar t.aW 7 v} cv:=λ_ _=>rfl
   have s1: ∀ (t:Task) (n:Nat),aM (dn t cv) 1 [.int .i64 ((n:Int)+1)]=dn {t with next:=n+1} cv:=λ_ _=>rfl
   simp only[ag6];simp(disch:=omega) only[F1,go_sem,simprocAttr,Fl,i,TK,b,hw,IL,e,d,k,l,j,f,akJ,y,m,p,o,s1,u,s,q];omega
end
section
variable{t:Task}{cv:AV}{x:ee}{n u5 u7 u8 a:Nat}{H:List ae}(hv:Rv cv 5 (t.code.map dm))(jL:l5 t)(hx:GA x)(ha:a<8)(hn:H[n]?=some (.box (dn t cv) none))(h5:H[u5]?=some (.box (dm x) none))(h7:H[u7]?=some (.box [.ptr n (2+a)] none))(h8:H[u8]?=some (.box [.int .i64 ((t.next:Int)+1)] none))(lo:oN)
abbrev Mw(t:Task)(a v:Nat):Task:={t with aW:=ar t.aW a v}
include ha hn h5 h7 hx in
theorem axf:D X0 (.fn (.func 126) [] [.ptr u5 0,.ptr u7 0]) [] ⟨H,lo⟩=some (.ret (.aw []) ⟨H.set n (.box (dn (Mw t a x.n) cv) none),lo⟩):=by
 refine fB QA λN c=>?_
 have b: ∀o,(H.set n o).take N=H.set n o:=λo=>aes (by simp[c])
 have e:=hx.n;have f:2+a<=9:=by omega
 have d:=λ (v:Nat)=>GC (t:=t) (cv:=cv) (v:=v) ha
 simp(disch:=omega) only[F1,go_sem,simprocAttr,QA,c,hn,h5,h7,IL,d,b,yk,f]
include ha hn h5 h7 hx in
theorem axg:D X0 (.fn (.func 127) [] [.ptr n 0,.ptr u5 0,.ptr u7 0]) [] ⟨H,lo⟩=some (.ret (.aw []) ⟨H.set n (.box (dn (Mw t a ((t.aW x.b+t.aW x.c) % mL)) cv) none),lo⟩):=by
 refine fB QB λN c=>?_
 have b: ∀o,(H.set n o).take N=H.set n o:=λo=>aes (by simp[c])
 have e:2+a<=9:=by omega
 have d:=λ (v:Nat)=>GC (t:=t) (cv:=cv) (v:=v) ha
 have rb:=λH lo=>AF (t:=t) (cv:=cv) H lo x.b hx.b
 have rc:=λH lo=>AF (t:=t) (cv:=cv) H lo x.c hx.c
 have hw:IntKind.wrap .u64 ((t.aW x.b:Int)+t.aW x.c)=(((t.aW x.b+t.aW x.c) % mL:Nat):Int):=wrap64 (t.aW x.b+t.aW x.c);simp(disch:=omega) only[F1,go_sem,simprocAttr,QB,c,hn,h5,h7,IL,TK,rb,rc,hw,d,b,e]
include jL ha hn h5 h7 hx in
theorem axh:D X0 (.fn (.func 128) [] [.ptr n 0,.ptr u5 0,.ptr u7 0]) [] ⟨H,lo⟩=some (.ret (.aw []) ⟨H.set n (.box (dn (Mw t a ((t.aW x.b+mL-t.aW x.c) % mL)) cv) none),lo⟩):=by
 refine fB QC λN c=>?_
 have b: ∀o,(H.set n o).take N=H.set n o:=λo=>aes (by simp[c])
 have e:2+a<=9:=by omega
 have d:=λ (v:Nat)=>GC (t:=t) (cv:=cv) (v:=v) ha
 have rb:=λH lo=>AF (t:=t) (cv:=cv) H lo x.b hx.b
 have rc:=λH lo=>AF (t:=t) (cv:=cv) H lo x.c hx.c
 have g:=jL.aW x.b;have f:=jL.aW x.c;have hw:IntKind.wrap .u64 ((t.aW x.b:Int)-t.aW x.c)=(((t.aW x.b+mL-t.aW x.c) % mL:Nat):Int):=by
  unfold IntKind.wrap IntKind.bits IntKind.signed mL;simp;omega
 simp(disch:=omega) only[F1,go_sem,simprocAttr,QC,c,hn,h5,h7,IL,TK,rb,rc,hw,d,b,e]
include ha hn h5 h7 hx in
theorem axi:D X0 (.fn (.func 129) [] [.ptr n 0,.ptr u5 0,.ptr u7 0]) [] ⟨H,lo⟩=some (.ret (.aw []) ⟨H.set n (.box (dn (Mw t a (t.aW x.b*2^x.n % mL)) cv) none),lo⟩):=by
 refine fB QD λN d=>?_
 have b: ∀o,(H.set n o).take N=H.set n o:=λo=>aes (by simp[d])
 have f:2+a<=9:=by omega
 have e:=λ (v:Nat)=>GC (t:=t) (cv:=cv) (v:=v) ha
 have rb:=λH lo=>AF (t:=t) (cv:=cv) H lo x.b hx.b
 have c:lu .shl (.int .u64 (t.aW x.b)) (.int .u16 x.n)=some (.int .u64 ((t.aW x.b*2^x.n % mL:Nat))):=by
  rw[Bf,adY (by omega)];have i: ∀k:Nat,((2:Int)^k)=((2^k:Nat):Int):=λk=>by rw[Int.natCast_pow];rfl
  rw[i,<-Int.natCast_mul,wrap64];have l:IntKind.u64.bits=64:=rfl;by_cases h:x.n<=64
  ·rw[show min ((x.n:Nat):Int).toNat IntKind.u64.bits=x.n by omega]
  ·rw[show min ((x.n:Nat):Int).toNat IntKind.u64.bits=64 by omega];have e1:t.aW x.b*2^64 % mL=0:=Nat.mul_mod_left _ _;have j:t.aW x.b*2^x.n % mL=0:=by
    obtain⟨k,g⟩:=Nat.exists_eq_add_of_le (show 64<=x.n by omega);rw[g,Nat.pow_add,<-Nat.mul_assoc,Nat.mul_right_comm];exact Nat.mul_mod_left _ _
   rw[e1,j]
 simp(disch:=omega) only[F1,go_sem,simprocAttr,QD,d,hn,h5,h7,IL,TK,rb,c,e,b,f]
include h5 h8 hx in
theorem axj:D X0 (.fn (.func 130) [] [.ptr u5 0,.ptr u8 0]) [] ⟨H,lo⟩=some (.ret (.aw []) ⟨H.set u8 (.box [.int .i64 x.n] none),lo⟩):=by
 refine fB QE λN c=>?_
 have b: ∀o,(H.set u8 o).take N=H.set u8 o:=λo=>aes (by simp[c])
 have d:=hx.n;simp(disch:=omega) only[F1,go_sem,simprocAttr,QE,c,h5,h8,IL,b]
include ha hn h5 h7 h8 hx in
theorem axk:D X0 (.fn (.func 131) [] [.ptr u7 0,.ptr u5 0,.ptr u8 0]) [] ⟨H,lo⟩=some (.ret (.aw []) ⟨H.set u8 (.box [.int .i64 ((if t.aW a≠0 then x.n else t.next+1:Nat))] none),lo⟩):=by
 refine fB Kk λN c=>?_
 have b: ∀o,(H.set u8 o).take N=H.set u8 o:=λo=>aes (by simp[c])
 have f:=hx.n;have g:2+a<=9:=by omega
 by_cases h:t.aW a=0
 ·have d: ((t.aW a:Nat):Int)=0:=by omega
  rw[adU (by omega)];have e:H.set u8 (.box [.int .i64 ((t.next+1:Nat):Int)] none)=H:=qF h8;rw[e];simp(disch:=omega) only[F1,go_sem,simprocAttr,Kk,c,hn,h5,h7,h8,IL,US ha,d,b]
 ·have d: ¬((t.aW a:Nat):Int)=0:=by omega
  rw[adY (by omega)];simp(disch:=omega) only[F1,go_sem,simprocAttr,Kk,c,hn,h5,h7,h8,IL,US ha,d,b]
end
def UW(N:Nat):List (AV×AV):=[(.int .u8 1,.fn (.func 126) [] [.ptr (N+3) 0,.ptr (N+4) 0]),(.int .u8 2,.fn (.func 127) [] [.ptr N 0,.ptr (N+3) 0,.ptr (N+4) 0]),(.int .u8 3,.fn (.func 128) [] [.ptr N 0,.ptr (N+3) 0,.ptr (N+4) 0]),(.int .u8 4,.fn (.func 129) [] [.ptr N 0,.ptr (N+3) 0,.ptr (N+4) 0]),(.int .u8 5,.fn (.func 130) [] [.ptr (N+3) 0,.ptr (N+5) 0]),(.int .u8 6,.fn (.func 131) [] [.ptr (N+4) 0,.ptr (N+3) 0,.ptr (N+5) 0])]
def pE(N k:Nat):List (AV×AV):=(UW N).take k
theorem axl(N:Nat):ae.map []= .map (pE N 0):=rfl
def CW{N:Nat}{H:List ae}(a:H.length=N)(B:List ae)(b:B.length=6){key:Int}(d:v.refs<=N+7)(h:mf (.int .u8 key) v (pE N k)=some (pE N (k+1)))(lo:oN):
  mY ⟨H++(B++[.map (pE N k)]),lo⟩ .int (.mp (N+6)) (.int .u8 key) v=some ⟨H++(B++[.map (pE N (k+1))]),lo⟩:=by
 simp only[mY,lj,ag6];have e: (H++(B++[ae.map (pE N k)]))[N+6]?=some (.map (pE N k)):=by grind
 simp only[e,h];have c: (H++(B++[ae.map (pE N k)])).set (N+6) (.map (pE N (k+1)))=H++(B++[.map (pE N (k+1))]):=by
  rw[aoq _ _ (by omega),aoq _ _ (by omega)];simp[a,b]
 simp only[AS.set,c]
 grind
def pG(N a:Nat):Option AV:=match a with
 |1=>some (.fn (.func 126) [] [.ptr (N+3) 0,.ptr (N+4) 0])
 |2=>some (.fn (.func 127) [] [.ptr N 0,.ptr (N+3) 0,.ptr (N+4) 0])
 |3=>some (.fn (.func 128) [] [.ptr N 0,.ptr (N+3) 0,.ptr (N+4) 0])
 |4=>some (.fn (.func 129) [] [.ptr N 0,.ptr (N+3) 0,.ptr (N+4) 0])
 |5=>some (.fn (.func 130) [] [.ptr (N+3) 0,.ptr (N+5) 0])
 |6=>some (.fn (.func 131) [] [.ptr (N+4) 0,.ptr (N+3) 0,.ptr (N+5) 0])
 |_=>none
def axm(N a:Nat):eC (.int .u8 a) (pE N 6)=some (pG N a):=by
 by_cases h:a<=6
 ·rcases(show a=0\/a=1\/a=2\/a=3\/a=4\/a=5\/a=6 by omega)with q|q|q|q|q|q|q<;>subst q<;>rfl
 ·have e:pG N a=none:=by unfold pG;grind
  rw[e];have b: ∀k:Int,k<=6->(((a:Nat):Int)==k)=false:=λk c=>by grind
  show eC (.int .u8 a) (UW N)=some none;unfold UW;simp only[eC,pO,ag6,b 1 (by omega),b 2 (by omega),b 3 (by omega),b 4 (by omega),b 5 (by omega),b 6 (by omega)]
def axn{t:Task}{cv:AV}(X:Rv cv 5 (t.code.map dm))(g:l5 t)(H:List ae)(lo:oN):
  D X0 (.fn (.func 96) [] []) [.agg (dn t cv)] ⟨H,lo⟩=some (.ret (.agg (dn (qB t) cv)) ⟨H,lo⟩):=by
 refine aH Kd λN d=>?_
 have L:=λH lo=>UT X g H lo
 have hw:=λH lo=>UU X g H lo
 have U: [AV.int .u8 0,.int .u8 0,.int .u8 0,.int .u8 0,.int .u16 0]=dm CV:=rfl;have G: [AV.int .u8 0,.int .u32 0,.int .u32 0,.int .u32 0,.int .u32 0,.int .u64 0]=bn mM:=rfl;have cl: ∀c,(bn c).length=6:=λ_=>rfl
 have cd: ∀c,List.drop 6 (bn c)=[]:=λ_=>rfl
 have cr: ∀c,aK (bn c)=0:=λ_=>rfl
 have a:=λt:Task=>GB (t:=t) (cY X (bB (λ_=>rfl) _))
 have hnx:=g.next;unfold qB;cases s: (iW t).2 with
 |true=>
  rw[s]at hw;rw[adY rfl];simp only[F1,go_sem,simprocAttr,Kd,d,TK,hw,G,cl,cd,cr,a]
 |false=>
  rw[s]at hw;rw[adU (by simp)];cases V:rZ t with
  |none=>
   have: (iW t).2=true:=by unfold iW;rw[V]
   rw[s]at this;cases this
  |some x=>
   unfold GD at L;rw[V]at L;simp only[ak0,axK]at L;have ho:=GF g V;have i:x.a % 8<8:=by omega
   have hb: (0:Int)<=(x.a % 8:Nat)/\ ((x.a % 8:Nat):Int)<8:=by omega
   obtain⟨B,hB⟩: ∃B:List ae,B=[.box (dn t cv) none,.box [.aq,.int .i64 0,.int .u64 0,.int .u64 0,.int .u64 0,.int .u64 0,.int .u64 0,.int .u64 0,.int .u64 0,.int .u64 0] none,.box (bn (iW t).1) none,.box (dm x) none,.box [.ptr N (2+x.a % 8)] none,.box [.int .i64 ((t.next:Int)+1)] none]:=⟨_,rfl⟩;have hm:=axl N;have l4:N<=N+4:=by omega
   have S:=CW (k:=0) (key:=1) (v:=.fn (.func 126) [] [.ptr (N+3) 0,.ptr (N+4) 0]) d B (by rw[hB];rfl) (by simp[AV.refs,aK]) rfl;have R:=CW (k:=1) (key:=2) (v:=.fn (.func 127) [] [.ptr N 0,.ptr (N+3) 0,.ptr (N+4) 0]) d B (by rw[hB];rfl) (by simp[AV.refs,aK]) rfl;have Q:=CW (k:=2) (key:=3) (v:=.fn (.func 128) [] [.ptr N 0,.ptr (N+3) 0,.ptr (N+4) 0]) d B (by rw[hB];rfl) (by simp[AV.refs,aK]) rfl;have P:=CW (k:=3) (key:=4) (v:=.fn (.func 129) [] [.ptr N 0,.ptr (N+3) 0,.ptr (N+4) 0]) d B (by rw[hB];rfl) (by simp[AV.refs,aK]) rfl;have O:=CW (k:=4) (key:=5) (v:=.fn (.func 130) [] [.ptr (N+3) 0,.ptr (N+5) 0]) d B (by rw[hB];rfl) (by simp[AV.refs,aK]) rfl;have M:=CW (k:=5) (key:=6) (v:=.fn (.func 131) [] [.ptr (N+4) 0,.ptr (N+3) 0,.ptr (N+5) 0]) d B (by rw[hB];rfl) (by simp[AV.refs,aK]) rfl;rw[hB]at S R Q P O M;simp only[ahq,ahm]at S R Q P O M;simp(disch:=omega) only[go_sem,simprocAttr,Kd,d,TK,hw,L,IL,U,G,cl,cd,cr,akJ,hb,hm,l4,S,R,Q,P,O,M];have Y: ∀E:AS,E.heap[N+6]?=some (.map (pE N 6))->jz X0.fZ E .int .dx (.mp (N+6)) (.int .u8 x.op) true=some (match pG N x.op with|some v=>.aw [v,.bool true]|none=>.aw [.dx,.bool false]):=by
    intro E h;simp only[jz,lj,ag6,mapOf,h,axm];cases pG N x.op<;>rfl
   rw[Y _ (by rw[bE d];rfl)];obtain⟨W,u⟩: ∃W,W=H++[.box (dn t cv) none,.box [.aq,.int .i64 0,.int .u64 0,.int .u64 0,.int .u64 0,.int .u64 0,.int .u64 0,.int .u64 0,.int .u64 0,.int .u64 0] none,.box (bn (iW t).1) none,.box (dm x) none,.box [.ptr N (2+x.a % 8)] none,.box [.int .i64 ((t.next:Int)+1)] none,.map (pE N 6)]:=⟨_,rfl⟩;have w0:W[N]?=some (.box (dn t cv) none):=by rw[u,dB d];rfl
   have w1:W[N+1]?=some (.box [.aq,.int .i64 0,.int .u64 0,.int .u64 0,.int .u64 0,.int .u64 0,.int .u64 0,.int .u64 0,.int .u64 0,.int .u64 0] none):=by rw[u,bE d];rfl
   have y:W[N+3]?=some (.box (dm x) none):=by rw[u,bE d];rfl
   have C:W[N+4]?=some (.box [.ptr N (2+x.a % 8)] none):=by rw[u,bE d];rfl
   have A:W[N+5]?=some (.box [.int .i64 ((t.next:Int)+1)] none):=by rw[u,bE d];rfl
   have wt:W.take N=H:=by rw[u,m5 d]
   rw[<-u];have I:=λo=>cG (o:=o) w0
   have f: ∀o,(W.set N o)[N+1]?=_:=λo=>(adb (by omega)).trans w1
   have m: ∀o,(W.set N o)[N+5]?=_:=λo=>(adb (by omega)).trans A
   have g5:=λo=>cG (o:=o) A
   have w: ∀o,(W.set (N+5) o)[N]?=_:=λo=>(adb (by omega)).trans w0
   have Z: ∀o,(W.set (N+5) o)[N+1]?=_:=λo=>(adb (by omega)).trans w1
   have q:=λo o'=>cG (o:=o') (w o)
   have l: ∀o o',((W.set (N+5) o).set N o')[N+1]?=_:=λo o'=>(adb (by omega)).trans (Z o)
   have b:=λo o'=>cG (o:=o') (f o)
   have j:=λo o' J=>cG (o:=J) (l o o')
   have t0: ∀o o',((W.set N o).set (N+1) o').take N=H:=λo o'=>by rw[aqg (by omega),aqg (by omega),wt]
   have t5: ∀o o' J,(((W.set (N+5) o).set N o').set (N+1) J).take N=H:=λo o' J=>by rw[aqg (by omega),aqg (by omega),aqg (by omega),wt]
   have s1: ∀ (t:Task) (n:Nat),aM (dn t cv) 1 [.int .i64 ((n:Int)+1)]=dn {t with next:=n+1} cv:=λ_ _=>rfl
   have t10: ∀t:Task,List.take 10 (dn t cv)=dn t cv:=λ_=>rfl
   have c1:=λlo=>axf ho i w0 y C lo
   have c2:=λlo=>axg ho i w0 y C lo
   have c3:=λlo=>axh g ho i w0 y C lo
   have c4:=λlo=>axi ho i w0 y C lo
   have c5:=λlo=>axj ho y A lo
   have c6:=λlo=>axk ho i w0 y C A lo
   have eb:x.b % 8=x.b:=aop ho.b;have ec:x.c % 8=x.c:=aop ho.c;rw[eb,ec];by_cases p:x.op=1
   ·rw[adY p,p];simp only[pG];simp only[F1,go_sem,simprocAttr,c1,I,f,m,b,t0,ak7,TK,s1,t10,a]
   ·by_cases r:x.op=2
    ·rw[adU p,adY r,r];simp only[pG];simp only[F1,go_sem,simprocAttr,c2,I,f,m,b,t0,ak7,TK,s1,t10,a]
    ·by_cases z:x.op=3
     ·rw[adU p,adU r,adY z,z];simp only[pG];simp only[F1,go_sem,simprocAttr,c3,I,f,m,b,t0,ak7,TK,s1,t10,a]
     ·by_cases F:x.op=4
      ·rw[adU p,adU r,adU z,adY F,F];simp only[pG];simp only[F1,go_sem,simprocAttr,c4,I,f,m,b,t0,ak7,TK,s1,t10,a]
      ·by_cases K:x.op=5
       ·rw[adU p,adU r,adU z,adU F,adY K,K];simp only[pG];simp only[F1,go_sem,simprocAttr,c5,g5,w,q,l,j,t5,TK,t10,a]
       ·by_cases T:x.op=6
        ·rw[adU p,adU r,adU z,adU F,adU K,adY T,T];simp only[pG];simp only[F1,go_sem,simprocAttr,c6,g5,w,q,l,j,t5,TK,t10,a]
        ·rw[adU p,adU r,adU z,adU F,adU K,adU T];have e:pG N x.op=none:=by unfold pG;split<;>first|omega|rfl
         rw[e];simp only[F1,go_sem,simprocAttr,w0,A,I,f,b,t0,TK,s1,t10,a]
instance:Inhabited ee:=⟨CV⟩
def axo(v fv:AV)(l:List ee)(H:List ae)(c:Rd ⟨H,none⟩ v 5 (l.map dm))(s:l.length<2147483648)(p:ee->Bool)(lo:oN)
  (q: ∀x∈l,D X0 fv [.agg (dm x)] ⟨H,none⟩=some (.ret (.bool (p x)) ⟨H,none⟩)):D X0 (.fn (.func 163) [] []) [v,fv] ⟨H,lo⟩=some (.ret (.int .i64 (j9 p l)) ⟨H,lo⟩):=by
 refine aH QU λN w=>?_
 simp only[go_sem,simprocAttr,QU,c.bS];refine eG l.length (λk e H'=>H'=H/\e 0=v/\e 1=fv/\e 7= .int .i64 l.length/\e 8= .int .i64 k/\ ∀j,j<k->p (l.getD j default)=false) 0 (by omega) ?_ ?_
 ·simp only[go_sem,simprocAttr];omega
 ·rintro k t e H' ⟨rfl,o,m,i,g,d⟩ n r;simp(disch:=omega) only[bX,F1,go_sem,simprocAttr,ae2,o,m,i,g];refine⟨λh=>?_,λh=>?_⟩
  ·have a:k<l.length:=by omega
   have b: ∀x,Den.part true 5 (dm x) 0=some (.agg (dm x)):=λ_=>rfl
   simp(disch:=omega) only[go_sem,simprocAttr,c.cp,c.c7,↓b,q _ (fx a)];refine⟨by omega,?_⟩;cases f:p (l.getD k default)
   ·simp(disch:=omega) only[go_sem,simprocAttr,o,m,i,g];exact⟨a,pa d f⟩
   ·simp(disch:=omega) only[F1,go_sem,simprocAttr];rw[Ad a d f]
  ·rw[Ae (λj u=>d j (by omega))]
def axp(v fv:AV)(l:List ee)(H:List ae)(a:Rd ⟨H,none⟩ v 5 (l.map dm))(b:l.length<2147483648)(p:ee->Bool)(lo:oN)
  (c: ∀x∈l,D X0 fv [.agg (dm x)] ⟨H,none⟩=some (.ret (.bool (p x)) ⟨H,none⟩)):D X0 (.fn (.func 148) [] []) [v,fv] ⟨H,lo⟩=some (.ret (.bool (l.any p)) ⟨H,lo⟩):=by
 refine aH QL λN d=>?_
 simp(disch:=omega) only[F1,go_sem,simprocAttr,QL,axo v fv l H a b p none c,Ac]
def axq(x:ee)(n:Nat)(f:x.op<256/\x.a<256/\x.b<256/\x.c<256/\x.n<65536)(k:n<2147483648)(H:List ae)(lo:oN):
  D X0 (.fn (.func 150) [] []) [.agg (dm x),.int .i64 n] ⟨H,lo⟩=some (.ret (.bool (rX x n)) ⟨H,lo⟩):=by
 refine aH QN λN g=>?_
 obtain⟨q,p,o,m,l⟩:=f;simp only[go_sem,simprocAttr,QN,g,IL];refine w8 5 (.bool (decide (16<x.op)&&decide (x.op<=38))) [1,2] rfl rfl ?_ λr=>?_
 ·simp(disch:=omega) only[R4,go_sem,simprocAttr,IL]
  (repeat' (first|apply And.intro|intro _))
  all_goals(refine ahl AV.bool (aoo.2 ?_);simp[];try(intros;omega))
 simp(disch:=omega) only[go_sem,simprocAttr,IL];refine w8 6 (.bool (decide (x.op=5)||decide (x.op=6))) [1,2,5] rfl rfl ?_ λe1=>?_
 ·simp(disch:=omega) only[R4,go_sem,simprocAttr,IL]
  (repeat' (first|apply And.intro|intro _))
  all_goals(refine ahl AV.bool (aoo.2 ?_);simp[];try(intros;omega))
 have a:gF qU [.int .u8 (x.a:Nat),.int .u8 (x.b:Nat),.int .u8 (x.c:Nat)]=some (.int .u8 ((max (max x.a x.b) x.c:Nat))):=by
  have e:gF qU [.int .u8 (x.a:Nat),.int .u8 (x.b:Nat),.int .u8 (x.c:Nat)]=some (.int .u8 (if(x.c:Int)>(if(x.b:Int)>x.a then(x.b:Int)else x.a)then(x.c:Int)else(if(x.b:Int)>x.a then(x.b:Int)else x.a))):=by simp[gF,qU]
  rw[e];congr 2;split<;>split<;>omega
 have b:decide (((max (max x.a x.b) x.c:Nat):Int)<8)=decide (x.a<8/\x.b<8/\x.c<8):=afR.2 (by omega);have d:decide ((x.op:Int)<=6)=decide (x.op<=6):=afR.2 (by omega);have c:decide ((x.n:Int)<n)=decide (x.n<n):=afR.2 (by omega);unfold rX;generalize decide (x.op<=6)=j at*;generalize decide (x.a<8/\x.b<8/\x.c<8)=i at*;generalize decide (x.n<n)=h at*;generalize(decide (16<x.op)&&decide (x.op<=38))=A at*;generalize(decide (x.op=5)||decide (x.op=6))=J at*;cases j<;>cases A<;>cases i<;>cases J<;>cases h<;>simp(disch:=omega) only[F1,go_sem,simprocAttr,IL,d,a,b,c,Bool.or_false,axH,aqw,Bool.or_true,atj,axS]
def axr(v:AV)(l:List ee)(p:l.length<2147483648)(q: ∀x∈l,x.op<256/\x.a<256/\x.b<256/\x.c<256/\x.n<65536)(N:Nat)(H:List ae)(f:Rd ⟨H,none⟩ v 5 (l.map dm))(lo:oN)(r:v.refs<=H.length)(t:v.ck=false/\v.cells=[v]):
  D X0 (.fn (.func 134) [] []) [v] ⟨H,lo⟩=some (.ret (.bool (qA l)) ⟨H,lo⟩):=by
 refine aH Kl λN m=>?_
 have b: ∀lo,oH ⟨H,lo⟩ v none=some (.ptr N 0,⟨H++[.box [v] none],lo⟩):=λlo=>by
  have s:=f.kind;subst m;cases v<;>simp only[]at s<;>rfl
 have g:=f.bS;have a:Rd ⟨H++[.box [v] none],none⟩ v 5 (l.map dm):=f.ext;have j:=axp v (.fn (.func 149) [] [.ptr N 0]) l (H++[.box [v] none]) a p (λx=>!rX x l.length) none (λx h=>by
  refine fB QM λM n=>?_
  have k: ∀L,(H++(.box [v] none::L))[N]?=some (.box [v] none):=λL=>by rw[dB m];rfl
  have i: ∀L,gl ⟨H++(.box [v] none::L),none⟩ .sl v=some (.int .i64 l.length):=λL=>Rd.bS (f.ext (L:=.box [v] none::L))
  have hm:=λH lo=>axq x l.length (q x h) p H lo
  have c: ∀x,Den.part true 5 (dm x) 0=some (.agg (dm x)):=λ_=>rfl
  obtain rfl:M=N+1:=by rw[<-n];simp[m]
  simp(disch:=omega) only[F1,go_sem,simprocAttr,QM,n,↓c,k,i,hm];refine du rfl ?_;have e:H++[ae.box [v] none,.box (dm x) none]=(H++[.box [v] none])++[.box (dm x) none]:=by simp
  rw[e,aof n])
 unfold qA;by_cases d:l.length<=64
 ·have o: ((l.length:Nat):Int)<=64:=by omega
  rw[aet d,amq];simp(disch:=omega) only[F1,go_sem,simprocAttr,Kl,b,a.bS,o,j];rw[axX]
 ·have o: ¬((l.length:Nat):Int)<=64:=by omega
  rw[aeq d,aho];simp(disch:=omega) only[F1,go_sem,simprocAttr,Kl,b,a.bS,o]
def qP(l:lB):ee:=⟨(l.getD 0 0).toNat,(l.getD 1 0).toNat,(l.getD 2 0).toNat,(l.getD 3 0).toNat,(l.getD 4 0).toNat+256*(l.getD 5 0).toNat⟩
def axs{s:lB}(h:k+6<=s.length):rY (s.drop k)=qP (s.drop k)::rY (s.drop (k+6)):=by
 have e:s.drop (k+6)=(s.drop k).drop 6:=by simp
 rw[e];have g:6<=(s.drop k).length:=by grind
 generalize s.drop k=l at*
 match l,g with
 |a::b::c::d::e::f::r,_=>rfl
def axt(e f:Nat)(a:e<256)(d:f<256):dA .or (.int .u16 e) (.int .u16 ((f*256:Nat)))=some (.int .u16 ((e+256*f:Nat))):=by
 rw[H7];have e1: ∀n:Nat,n<65536->(BitVec.ofInt IntKind.u16.bits (n:Int)).toNat=n:=by
  have:IntKind.u16.bits=16:=rfl
  grind
 have c:e|||f*256=e+256*f:=by
  have:=Nat.shiftLeft_add_eq_or_of_lt (b:=e) (i:=8) a f;rw[Nat.shiftLeft_eq]at this
  grind
 rw[BitVec.toNat_or,e1 e (by omega),e1 (f*256) (by omega),c];have:IntKind.wrap .u16 ((e+256*f:Nat):Int)=((e+256*f:Nat):Int):=by
  unfold IntKind.wrap IntKind.bits IntKind.signed;grind
 rw[this]
def axu(f:Nat)(a:f<256):lu .shl (.int .u16 f) (.int .u64 8)=some (.int .u16 ((f*256:Nat))):=by
 rw[Bf,adY (by omega)];have:IntKind.wrap .u16 ((f:Int)*2^(min (8:Int).toNat IntKind.u16.bits))=((f*256:Nat):Int):=by
  have h:min (8:Int).toNat IntKind.u16.bits=8:=rfl;rw[h];unfold IntKind.wrap IntKind.bits IntKind.signed;grind
 rw[this]
def axv{H:List ae}{n:Nat}{s:lB}(k:H[n]?=some (.box [.int .u8 0,.int .u8 0,.int .u8 0,.int .u8 0,.int .u8 0,.int .u8 0] none))(j:6<=s.length):
  sy ⟨H,lo⟩ 1 (.fA n 1 0 6) (S s)=some (.int .i64 6,⟨H.set n (.box [.int .u8 (s.getD 0 0).toNat,.int .u8 (s.getD 1 0).toNat,.int .u8 (s.getD 2 0).toNat,.int .u8 (s.getD 3 0).toNat,.int .u8 (s.getD 4 0).toNat,.int .u8 (s.getD 5 0).toNat] none),lo⟩):=by
 match s,j with
 |a::b::c::d::e::f::r,_=>
  have l:C8 ⟨H,lo⟩ 1 (S (a::b::c::d::e::f::r))=some ((a::b::c::d::e::f::r).map λx=>[.int .u8 x.toNat]):=by
   simp only[C8,S,ag6];rfl
  have i:b9 ((a::b::c::d::e::f::r).map λx:UInt8=>[AV.int .u8 x.toNat])=0:=bB (g:=λx:UInt8=>[AV.int .u8 x.toNat]) (λ_=>rfl) _;have h: ((a::b::c::d::e::f::r).map λx:UInt8=>[AV.int .u8 x.toNat]).all (λel=>el.length==1)=true:=by simp
  have m: ((a::b::c::d::e::f::r).map λx:UInt8=>[AV.int .u8 x.toNat]).length.min 6=6:=by
   show min _ 6=6;simp
  simp only[sy,l,k,m,i,AS.set,h];rw[adY ⟨trivial,by decide,trivial⟩,adY (aeu _)];rfl
def axw(l:lB): (qP l).op<256/\ (qP l).a<256/\ (qP l).b<256/\ (qP l).c<256/\ (qP l).n<65536:=by
 have h: ∀u:UInt8,u.toNat<256:=λu=>u.toNat_lt
 refine⟨h _,h _,h _,h _,?_⟩;have b:=h (l.getD 4 0);have a:=h (l.getD 5 0);show(l.getD 4 0).toNat+256*(l.getD 5 0).toNat<65536;omega
def gR(s:lB)(k:Nat):List ee:=(List.range k).map λi=>qP (s.drop (6*i))
def UX(s:lB)(k:Nat):gR s (k+1)=gR s k++[qP (s.drop (6*k))]:=by unfold gR;rw[aog,afI];rfl
theorem akK{s:lB}: ∀m k,6*(k+m)=s.length->gR s k++rY (s.drop (6*k))=gR s (k+m)
 |0,k,h=>by
  have:s.drop (6*k)=[]:=ahp (by omega);rw[this];simp[rY]
 |m+1,k,h=>by
  have hle:6*k+6<=s.length:=by omega
  rw[axs hle];have:=akK (s:=s) m (k+1) (by omega);rw[UX]at this
  grind
def akL{s:lB}(h:s.length % 6=0):rY s=gR s (s.length/6):=by
 have:=akK (s:=s) (s.length/6) 0 (by omega);simpa[gR]using this
def akM(s:lB)(H:List ae)(lo:oN):
  ∃v,D X0 (.fn (.func 99) [] []) [S s] ⟨H,lo⟩=some (.ret (.aw [v,.int .i64 (if(decode s).isSome then 0 else 3:Nat)]) ⟨H,lo⟩)/\Rv v 5 (((decode s).getD []).map dm):=by
 suffices B: ∃o,D X0 (.fn (.func 99) [] []) [S s] ⟨H,lo⟩=some o/\ (λo=> ∃v,o=aU.ret (.aw [v,.int .i64 (if(decode s).isSome then 0 else 3:Nat)]) ⟨H,lo⟩/\Rv v 5 (((decode s).getD []).map dm)) o by grind
 refine cE Fg λN A=>?_
 have tm: ((s.length:Nat):Int).tmod 6=((s.length % 6:Nat):Int):=by rfl
 by_cases G:s.length % 6=0
 ·have c:decide (((s.length % 6:Nat):Int)=0)=true:=aet (by omega);by_cases T:s.length<=384
  ·have g: ¬((s.length:Nat):Int)>384:=by omega
   simp only[go_sem,simprocAttr,Fg,tm,c,g];refine eG (s.length/6) (λk e W=>e 0=S (s.drop (6*k))/\H<+:W/\aQ N W (e 4) 5 aem ((gR s k).map dm)) 0 (by omega) ?_ ?_
   ·simp only[go_sem,simprocAttr];exact⟨aqz,aQ.aq⟩
   rintro k R e W ⟨d,a,h⟩ n C;have K: (s.drop (6*k)).length=s.length-6*k:=amy ..;simp only[bX,go_sem,simprocAttr,aeM,d,C];refine⟨λO=>?_,λO=>?_⟩
   ·have f:k<s.length/6:=by omega
    have P:6<=(s.drop (6*k)).length:=by omega
    have z:=λlo=>axv (lo:=lo) (H:=W++[.box [.int .u8 0,.int .u8 0,.int .u8 0,.int .u8 0,.int .u8 0,.int .u8 0] none]) (n:=n) (s:=s.drop (6*k)) (by rw[dB C];rfl) P
    have r:vq (S (s.drop (6*k))) (some (.int .i64 6)) none=some (S (s.drop (6*(k+1)))):=by
     rw[H8,adY ⟨by omega,by omega⟩,apU];rfl
    have E:qP (s.drop (6*k))=qP (s.drop (6*k)):=rfl;have F: ∀j,((s.drop (6*k)).getD j 0).toNat<256:=λj=>UInt8.toNat_lt _
    have Q:=F 4;have I:=F 5;have w:=axt _ _ Q I;have t:=axu _ I;simp(disch:=omega) only[go_sem,simprocAttr,d,ajC,z,w,t];have l: (gR s k).length=k:=by simp[gR]
    refine rm (N:=N) (H0:=H) (bytes:=6) (ys:=[dm (qP (s.drop (6*k)))]) h.ext (a.trans (aqx _ _)) A (by omega) (by intro el y;rw[afC.1 y];rfl) rfl (by rw[afB,l];show(k+1)*6<=room;unfold room;omega) λv' U p u=>?_
    simp only[go_sem,simprocAttr,d,r];refine⟨f,u,?_⟩;rw[UX,afI];exact p
   ·have f:k=s.length/6:=by omega
    have m:rY s=gR s k:=by rw[f];exact akL G
    have l: (gR s k).length=k:=by simp[gR]
    have b:=λlo=>axr (e 4) (gR s k) (by omega) (λx B=>by
     obtain⟨i,_,rfl⟩:=afH.1 B;exact axw _) 0 W (jJ h none) lo (by
     rcases h.2 with⟨q,_⟩| ⟨id,ak,_,q,J⟩
     ·rw[q];exact aeu _
     ·rw[q];have:=ew J;simp only[AV.refs];omega) (qK (jJ h none))
    have d:decode s=if qA (gR s k)then some (gR s k)else none:=by unfold decode;rw[adU (by omega),m]
    rw[d];cases hm:qA (gR s k)with
    |true=>
     rw[hm]at b;simp only[go_sem,simprocAttr,b];rw[h.adj (by rw[bB (λ_=>rfl)];omega) (aeu _)];exact⟨_,du rfl (lW A λi M=>by obtain⟨L,rfl⟩:=a;rw[adf (by omega)]),aQ.sR h⟩
    |false=>
     rw[hm]at b;simp only[go_sem,simprocAttr,b];rw[sb rfl];exact⟨.aq,du rfl (lW A λi M=>by obtain⟨L,rfl⟩:=a;rw[adf (by omega)]),.aq⟩
  ·have g: ((s.length:Nat):Int)>384:=by omega
   have d:decode s=none:=by unfold decode;rw[adY (.inr (by omega))]
   rw[d];simp(disch:=omega) only[F1,go_sem,simprocAttr,Fg,tm,c,g];exact⟨.aq,rfl,.aq⟩
 ·have c:decide (((s.length % 6:Nat):Int)=0)=false:=aeq (by omega);have d:decode s=none:=by unfold decode;rw[adY (.inl G)]
  rw[d];simp(disch:=omega) only[F1,go_sem,simprocAttr,Fg,tm,c];exact⟨.aq,rfl,.aq⟩
def axx(b:UInt8)(H:List ae)(lo:oN):D X0 (.fn (.func 103) [] []) [.int .u8 b.toNat] ⟨H,lo⟩=some (.ret (.bool (lU b.toNat)) ⟨H,lo⟩):=by
 refine aH Qp λN h=>?_
 generalize b.toNat=n at*;have e1:decide ((n:Int)<8)=decide (n<8):=afR.2 (by omega);have c:decide ((n:Int)=8)=decide (n=8):=afR.2 (by omega);have e3:decide (16<=(n:Int))=decide (16<=n):=afR.2 (by omega);have a:decide ((n:Int)<24)=decide (n<24):=afR.2 (by omega);unfold lU;generalize decide (n<8)=g at*;generalize decide (n=8)=f at*;generalize decide (16<=n)=e at*;generalize decide (n<24)=d at*;cases g<;>cases f<;>cases e<;>cases d<;>simp(disch:=omega) only[F1,go_sem,simprocAttr,Qp,e1,c,e3,a,Bool.or_false,axH,aqw,Bool.or_true]
def axy(p:lB)(H:List ae)(lo:oN):D X0 (.fn (.func 98) [] []) [S p] ⟨H,lo⟩=some (.ret (.bool (!(decode p).isSome)) ⟨H,lo⟩):=by
 refine aH Ke λN b=>?_
 obtain⟨v,d1,_⟩:=akM p H none;cases a: (decode p).isSome with
 |true=>
  rw[a]at d1;simp(disch:=omega) only[F1,go_sem,simprocAttr,Ke,d1]
 |false=>
  rw[a]at d1;simp(disch:=omega) only[F1,go_sem,simprocAttr,Ke,d1]
def axz(b:UInt8)(H:List ae)(lo:oN):D X0 (.fn (.func 102) [] []) [.int .u8 b.toNat] ⟨H,lo⟩=some (.ret (.bool (!lU b.toNat)) ⟨H,lo⟩):=by
 refine aH Qo λN a=>?_
 simp(disch:=omega) only[F1,go_sem,simprocAttr,Qo,axx]
structure GG(aI:Int)(aD:List lB)(bb:lB)(pv kv:AV):Prop where
 pr:Rv pv 1 (aD.map sC)
 pk:Rv kv 1 (bb.map bC)
 np:aD.length<1099511627776
 nk:bb.length<1099511627776
def axA{a:Int}{c:lB}(h:GG a aD c pv kv)(o: -9223372036854775808<=a/\a<9223372036854775808)(H:List ae)(lo:oN):
  D X0 (.fn (.func 66) [] []) [.agg [.int .i64 a,pv,kv]] ⟨H,lo⟩=some (.ret (.bool (og ⟨a,aD,c.map UInt8.toNat⟩)) ⟨H,lo⟩):=by
 refine aH P9 λN s=>?_
 have q:=cY h.pr (bB (λ_=>rfl) _);have r:=cY h.pk (bB (λ_=>rfl) _);have d:=λH lo=>arR pv (.fn (.func 98) [] []) aD h.pr h.np (λp=>!(decode p).isSome) H lo (λx _=>axy x H none)
 have e:=λH lo=>arP kv (.fn (.func 102) [] []) c h.pk h.nk (λb=>!lU b.toNat) H lo (λx _=>axz x H none)
 have n: (!aD.any λp=>!(decode p).isSome)=aD.all λp=>(decode p).isSome:=axX.symm
 have m: (!c.any λb=>!lU b.toNat)=c.all λb=>lU b.toNat:=axX.symm
 have l:og ⟨a,aD,c.map UInt8.toNat⟩=(decide (1<=a/\a<=64/\1<=aD.length/\aD.length<=8/\c.length<=4000)&&aD.all (λp=>(decode p).isSome)&&c.all λb=>lU b.toNat):=by
  unfold og;simp only[afB,List.all_map];rfl
 have e1:decide (1<=a/\a<=64/\1<=aD.length/\aD.length<=8/\c.length<=4000)=(!decide (a<1)&& !decide (64<a)&& !decide ((aD.length:Int)<1)&& !decide (8< (aD.length:Int))&& !decide (4000< (c.length:Int))):=by
  rw[aoo];simp;omega
 rw[l,e1,<-n,<-m];generalize k:decide (a<1)=A;generalize j:decide (64<a)=z;generalize i:decide ((aD.length:Int)<1)=y;generalize g:decide (8< (aD.length:Int))=w;generalize f:decide (4000< (c.length:Int))=v;generalize(aD.any λp=>!(decode p).isSome)=u at*;generalize(c.any λb=>!lU b.toNat)=t at*;clear n m l e1;cases A<;>cases z<;>cases y<;>cases w<;>cases v<;>simp only[F1,go_sem,simprocAttr,P9,s,h.pr.bS,h.pk.bS,k,j,i,g,f,aho,aqw,atj,axS,axH,amq];cases u<;>cases t<;>simp(disch:=omega) only[F1,go_sem,simprocAttr,d,e,aqw,atj,axS,axH]
def axB(p:lB)(H:List ae)(lo:oN):
  ∃cv,D X0 (.fn (.func 68) [] []) [S p] ⟨H,lo⟩=some (.ret (.aw [.agg (dn {uM with code:=(decode p).getD []} cv),.int .i64 (if(decode p).isSome then 0 else 3:Nat)]) ⟨H,lo⟩)/\Rv cv 5 (((decode p).getD []).map dm):=by
 obtain⟨N,c⟩: ∃N,H.length=N:=⟨_,rfl⟩;obtain⟨v,d1,d2⟩:=akM p (H++[.box [.aq,.int .i64 0,.int .u64 0,.int .u64 0,.int .u64 0,.int .u64 0,.int .u64 0,.int .u64 0,.int .u64 0,.int .u64 0] none]) none;have a:=cY d2 (bB (λ_=>rfl) _);obtain⟨t1,t2⟩:=qK (d2 ⟨[],none⟩);cases b:decode p with
 |some l=>
  rw[b]at d1 d2;refine⟨v,?_,d2⟩;refine aH Fc λM d=>?_
  obtain rfl:M=N:=by omega
  simp only[F1,go_sem,simprocAttr,Fc,c,d1,t1,t2,a,p7];rfl
 |none=>
  rw[b]at d1 d2;simp only[axL,afE,ai5]at d1;refine⟨.aq,?_,.aq⟩;refine aH Fc λM d=>?_
  obtain rfl:M=N:=by omega
  simp only[F1,go_sem,simprocAttr,Fc,c,d1,p7];rfl
def yl(r:Runner)(cv rv:AV):lA:=dn r.t cv++(bN r.c rv++[.bool r.busy,.int .i64 r.fr])
def kg(e:Event):lA:=[.int .i64 e.aa]++(bn e.c++(aA e.run++(bF e.r++[.int .i64 e.fr,.int .i64 e.to])))
def cH(m:aV)(p:Nat)(aE aP:Nat->AV)(ev:AV):lA:=[.ptr p 0]++(arr 8 (λi=>yl (m.aB i) (aE i) (aP i))++[.int .i64 m.now,ev])
section
variable{m:aV}{p:Nat}{aE aP:Nat->AV}{ev:AV}{i:Nat}
theorem Mx: (arr 8 (λi=>yl (m.aB i) (aE i) (aP i))).length=192:=by rfl
theorem pJ: (cH m p aE aP ev).length=195:=by rfl
def GH{ag:Bool}{o:Nat}(h:i<8)(ho:o+k<=24)(a:0<k):Den.part ag k (cH m p aE aP ev) (1+i*24+o)=Den.part ag k (yl (m.aB i) (aE i) (aP i)) o:=by
 unfold cH;rw[jZ (by grind),show 1+i*24+o- [AV.ptr p 0].length=i*24+o by grind,nc (by rw[Mx];omega) a];exact kH (k:=24) (f:=λi=>yl (m.aB i) (aE i) (aP i)) (λ_=>rfl) h ho a
theorem sj: (cH m p aE aP ev)[0]?=some (.ptr p 0):=rfl
theorem CX: (cH m p aE aP ev)[193]?=some (.int .i64 m.now):=by rfl
theorem akN: (cH m p aE aP ev)[194]?=some ev:=by rfl
def ym(h:i<8): (cH m p aE aP ev)[1+i*24+22]?=some (.bool (m.aB i).busy):=GH (ag:=false) (k:=1) h (by omega) (by omega)
def axC(h:i<8): (cH m p aE aP ev)[1+i*24+23]?=some (.int .i64 (m.aB i).fr):=GH (ag:=false) (k:=1) h (by omega) (by omega)
def My(h:i<8):Den.part true 10 (cH m p aE aP ev) (1+i*24)=some (.agg (dn (m.aB i).t (aE i))):=GH (o:=0) h (by omega) (by omega)
def CY(h:i<8):Den.part true 12 (cH m p aE aP ev) (1+i*24+10)=some (.agg (bN (m.aB i).c (aP i))):=GH h (by omega) (by omega)
def Mz(h:i<8):Den.part true 2 (cH m p aE aP ev) (1+i*24+19)=some (.agg (aA (m.aB i).c.run)):=GH h (by omega) (by omega)
theorem akO{n:Nat}:aM (cH m p aE aP ev) 193 [.int .i64 n]=cH {m with now:=n} p aE aP ev:=by rfl
def akP:aM (cH m p aE aP ev) 194 [v]=cH m p aE aP v:=by
 unfold cH;rw[gX (by simp),gX (by rw[Mx];simp),Mx];rfl
def GJ{o:Nat}{vs:lA}{r:Runner}{cv:AV}(h:i<8)(ho:o+vs.length<=24)(a:aM (yl (m.aB i) (aE i) (aP i)) o vs=yl r cv rv):
  aM (cH m p aE aP ev) (1+i*24+o) vs=cH {m with aB:=ar m.aB i r} p (ar aE i cv) (ar aP i rv) ev:=by
 unfold cH;rw[gX (by grind),show 1+i*24+o- [AV.ptr p 0].length=i*24+o by grind,rK (by rw[Mx];omega),nR (k:=24) (f:=λi=>yl (m.aB i) (aE i) (aP i)) (λ_=>rfl) h ho,a]
 congr 2
 refine FN λj _=>?_
 by_cases e:j=i
 ·subst e;simp only[cF]
 ·simp only[da e]
def UY{b:Bool}(h:i<8):aM (cH m p aE aP ev) (1+i*24+22) [.bool b]=cH {m with aB:=ar m.aB i {m.aB i with busy:=b}} p aE aP ev:=by
 have:=GJ (m:=m) (p:=p) (aE:=aE) (aP:=aP) (ev:=ev) (o:=22) (vs:=[.bool b]) (r:={m.aB i with busy:=b}) (cv:=aE i) (rv:=aP i) h (by simp) rfl;rwa[nb,nb]at this
def axD{n:Nat}(h:i<8):aM (cH m p aE aP ev) (1+i*24+23) [.int .i64 n]=cH {m with aB:=ar m.aB i {m.aB i with fr:=n}} p aE aP ev:=by
 have:=GJ (m:=m) (p:=p) (aE:=aE) (aP:=aP) (ev:=ev) (o:=23) (vs:=[.int .i64 n]) (r:={m.aB i with fr:=n}) (cv:=aE i) (rv:=aP i) h (by simp) rfl;rwa[nb,nb]at this
def akQ{t:Task}(h:i<8):aM (cH m p aE aP ev) (1+i*24) (dn t (aE i))=cH {m with aB:=ar m.aB i {m.aB i with t:=t}} p aE aP ev:=by
 have:=GJ (m:=m) (p:=p) (aE:=aE) (aP:=aP) (ev:=ev) (o:=0) (vs:=dn t (aE i)) (r:={m.aB i with t:=t}) (cv:=aE i) (rv:=aP i) h (by rw[yk];omega) rfl;rwa[nb,nb]at this
def AG{c:Call}(h:i<8):aM (cH m p aE aP ev) (1+i*24+10) (bN c rv)=cH {m with aB:=ar m.aB i {m.aB i with c:=c}} p aE (ar aP i rv) ev:=by
 have:=GJ (m:=m) (p:=p) (aE:=aE) (aP:=aP) (ev:=ev) (o:=10) (vs:=bN c rv) (r:={m.aB i with c:=c}) (cv:=aE i) (rv:=rv) h (by rw[show(bN c rv).length=12 from rfl];omega) rfl;rwa[nb]at this
theorem aDz{x:Core}:cH {m with ai:=x} p aE aP ev=cH m p aE aP ev:=rfl
end
def Mu2(o:ae):Prop:=Mu o\/ ∃a d,o= .row a 14 qa d
structure Fm(n:Nat)(S:lN)(H H':List ae):Prop where
 len:H.length<=H'.length
 low: ∀i,i<n->H'[i]?=H[i]?
 box: ∀i o,i∉S-> ¬Mu2 o->H[i]?=some o->H'[i]?=some o
section
variable{n:Nat}{S T:lN}{A B C H W:List ae}
theorem Fm.refl:Fm n S A A:=⟨afA _,λ_ _=>rfl,λ_ _ _ _ h=>h⟩
theorem Fm.trans(h:Fm n S A B)(g:Fm n S B C):Fm n S A C:=⟨ahk h.len g.len,λi a=>(g.low i a).trans (h.low i a),λi o a ho b=>g.box i o a ho (h.box i o a ho b)⟩
def Fq.fm(h:Fq n S A B)(a: ∀i∈S,i∈T):Fm n T A B:=⟨h.len,h.low,λi o b ho c=>h.box i o (λq=>b (a i q)) (λq=>ho (.inl q)) c⟩
theorem Fm.set(a:p∈S)(b:n<=p)(o:ae):Fm n S A (A.set p o):=(Fq.set a b o).fm λ_ h=>h
theorem Fm.app(L:List ae)(a:n<=A.length):Fm n S A (A++L):=(Fq.app L a).fm λ_ h=>h
theorem Fm.take{N:Nat}(h:Fm n S A B)(d:A.length=N)(c:n<=N):Fm n S A (B.take N):=⟨by rw[afS];have:=h.len;omega,λi a=>by rw[afT (by omega)];exact h.low i a,λi o a ho b=>by
 have:=ew b;rw[afT (by omega)];exact h.box i o a ho b⟩
def Fm.own{cs:lA}{tg:Option TypeId}(h:Fm n S A B)(b:p∉S)(c:A[p]?=some (.box cs tg)):B[p]?=some (.box cs tg):=h.box p _ b (λq=>by rcases q with⟨a,d,q⟩| ⟨a,d,q⟩<;>cases q) c
def Fm.out(h:Fm n T H W)(e:H.length<=i)(c:n<=H.length)(o:ae):Fm n T H (W.set i o):=⟨by rw[afN];exact h.len,λj a=>by rw[adb (by omega)];exact h.low j a,λj o a ho b=>by
 have d:=ew b;rw[adb (by omega)];exact h.box j o a ho b⟩
def Fm.pre{L:List ae}(h:Fm n S (H++L) W)(a:n<=H.length):Fm n S H W:=(Fm.app L a).trans h
end
structure bJ(n M p q:Nat)(m:aV)(qv ev:AV)(aE aP:Nat->AV)(H:List ae):Prop where
 nM:n<=M
 Mq:M<q
 co:dQ n p q m.ai qv H
 box:H[M]?=some (.box (cH m p aE aP ev) none)
 vi:dk (M+1) H ev 14 qa (m.cU.map kg)
 cv: ∀i,Rv (aE i) 5 ((m.aB i).t.code.map dm)
 rv: ∀i,Rv (aP i) 1 ((m.aB i).c.aW.map hC)
section
variable{n M p q:Nat}{m:aV}{qv ev:AV}{aE aP:Nat->AV}{H:List ae}
def bJ.lt(h:bJ n M p q m qv ev aE aP H):M<H.length:=ew h.box
theorem bJ.app(h:bJ n M p q m qv ev aE aP H)(L:List ae):bJ n M p q m qv ev aE aP (H++L):=⟨h.nM,h.Mq,h.co.app L,aZ h.box,h.vi.app L,h.cv,h.rv⟩
def bJ.Mn(h:bJ n M p q m qv ev aE aP H):M∉[p,q]:=by have:=h.Mq;have:=h.co.qp;grind
def bJ.ai{W:List ae}{c:Core}{b:AV}(h:bJ n M p q m qv ev aE aP H)(g:dQ n p q c b W)(e:Fq n [p,q] H W):bJ n M p q {m with ai:=c} b ev aE aP W:=
 ⟨h.nM,h.Mq,g,e.own h.Mn h.box,h.vi.oC λid ak all f=>e.box id _ (by
   have k:=h.co.box;have j:=h.co.fY
   grind) (λq=>by obtain⟨a,d,q⟩:=q;cases q) f,h.cv,h.rv⟩
theorem bJ.set(h:bJ n M p q m qv ev aE aP H){m':aV}{ow a:Nat->AV}(d:m'.ai=m.ai)(e:m'.cU=m.cU)(c: ∀i,Rv (ow i) 5 ((m'.aB i).t.code.map dm))(b: ∀i,Rv (a i) 1 ((m'.aB i).c.aW.map hC)):
  bJ n M p q m' qv ev ow a (H.set M (.box (cH m' p ow a ev) none)):=
 ⟨h.nM,h.Mq,d ▸ h.co.set h.box (by have:=h.Mq;have:=h.co.qp;omega) (by have:=h.Mq;omega) _,cG h.box,e ▸ h.vi.set h.box _,c,b⟩
def bJ.fM(h:bJ n M p q m qv ev aE aP H)(o:ae):Fm n [M,p,q] H (H.set M o):=Fm.set (by simp) h.nM o
def bJ.fc{W:List ae}(h:Fq n [p,q] H W):Fm n [M,p,q] H W:=h.fm λi a=>by grind
def bJ.other(h:bJ n M p q m qv ev aE aP H){cs:lA}{tg:Option TypeId}(a:H[i]?=some (.box cs tg))(d:i≠p)(c:i≠q)(b:i≠M)(o:ae):bJ n M p q m qv ev aE aP (H.set i o):=
 ⟨h.nM,h.Mq,h.co.set a d c o,(adb b).trans h.box,h.vi.set a _,h.cv,h.rv⟩
theorem bJ.pD{W j H0:List ae}{N:Nat}{b c:AV}{d a:Nat->AV}{l:aV}(h:bJ n M p q m qv ev aE aP W)(e:j=W\/ (j=W.take N/\Q))(k:Q->qv=b/\ev=c)(g:bJ n M p q l b c d a H0)(f:H0.length=N):bJ n M p q m qv ev aE aP j:=
 ⟨h.nM,h.Mq,h.co.pD e (λq=>(k q).1) g.co f,Mr e (by rw[<-f];exact g.lt) h.box,dk.pD h.vi e (λq=>(k q).2) g.vi f,h.cv,h.rv⟩
end
def hE(n M p q:Nat)(H:List ae)(lo:oN)(m':aV)(qv ev:AV)(r:AV)(d:aU):Prop:=
 ∃b c ow a H' aj,d= .ret r ⟨H',aj⟩/\bJ n M p q m' b c ow a H'/\Fm n [M,p,q] H H'/\gA (b=qv/\c=ev) p H H' lo aj
def hE.fin{n N:Nat}{o:aV}{a c:AV}{e d:Nat->AV}{H W:List ae}{b:oN}(f:bJ n M p q o a c e d H)(l:H.length=N)(h:bJ n M p q m qv ev aE aP W)(g:Fm n [M,p,q] H W)(s:fL (qv=a/\ev=c) p b)(r:v.refs<=N):
  hE n M p q H lo m a c v (.ret (finish N lo v ⟨W,b⟩).1 (finish N lo v ⟨W,b⟩).2):=by
 have x:=f.lt;have w:=f.nM;have u:=f.co.lt;rcases s with⟨rfl,k⟩| ⟨j,t,rfl⟩
 ·rw[ju (.inl rfl) r];refine⟨qv,ev,aE,aP,_,lo,rfl,h.pD (.inr ⟨rfl,k⟩) id f l,g.take l (by omega),.inl ⟨rfl,?_,k⟩⟩;rw[afS];have:=g.len;omega
 ·rw[wB (by omega)];exact⟨qv,ev,aE,aP,W,cJ lo j,rfl,h,g,.inr ⟨j,t,rfl⟩⟩
structure dG(m:aV):Prop where
 ai:jO m.ai
 t: ∀i,l5 (m.aB i).t
 c: ∀i,fS (m.aB i).c
 fr: ∀i,(m.aB i).fr<2147483648
 now:m.now<2147483648
 ev:m.cU.length<2147483648
 run: ∀i,(m.aB i).c.run.1<=64/\ (m.aB i).c.run.2<=64
def akR{n:Nat}{H:List ae}(h:bJ n M p q m qv ev aE aP H)(t:Nat)(lo:oN):D XC (.fn (.func 60) [] []) [.ptr M 0,.int .i64 t] ⟨H,lo⟩=some (.ret (.bool (Ct m t)) ⟨H,lo⟩):=by
 refine aH J7 λN e=>?_
 have d: (t:Int)>=0:=by omega
 unfold Ct;by_cases c:t<8
 ·have a: (t:Int)<8:=by omega
  have b: (bp m.ai q qv)[936+t]?=some (.bool (m.ai.S.alive t)):=by
   have:Den.part false 1 (bp m.ai q qv) (936+t)=some (.bool (m.ai.S.alive t)):=by
    unfold bp;rw[nc (by rw[ep];omega) (by omega)];exact SO c
   exact this
  rw[aet c,amq];simp(disch:=omega) only[F1,go_sem,simprocAttr,J7,d,a,h.box,h.co.box,sj,b]
 ·have a: ¬(t:Int)<8:=by omega
  rw[aeq c,aho];simp(disch:=omega) only[F1,go_sem,simprocAttr,J7,d,a]
def akS:iI mM:=⟨by decide,by decide,by decide,by decide,by decide,by decide⟩
def CZ:fS gk:=⟨by decide,akS,(λh a=>by cases a),⟨by decide,by decide⟩,by decide⟩
def bJ.GK{n:Nat}{H:List ae}(h:bJ n M p q m qv ev aE aP H)(i:Nat)(r:Runner)(cv rv:AV)(b:Rv cv 5 (r.t.code.map dm))(a:Rv rv 1 (r.c.aW.map hC)):
  bJ n M p q {m with aB:=ar m.aB i r} qv ev (ar aE i cv) (ar aP i rv) (H.set M (.box (cH {m with aB:=ar m.aB i r} p (ar aE i cv) (ar aP i rv) ev) none)):=
 h.set rfl rfl (λj=>by
  show Rv (ar aE i cv j) 5 ((ar m.aB i r j).t.code.map dm);by_cases e:j=i
  ·subst e;rw[cF,cF];exact b
  ·rw[da e,da e];exact h.cv j) λj=>by
  show Rv (ar aP i rv j) 1 ((ar m.aB i r j).c.aW.map hC);by_cases e:j=i
  ·subst e;rw[cF,cF];exact a
  ·rw[da e,da e];exact h.rv j
def jO.queue{x:Core}(b:jO x){r:aC}(c:r.1<=64/\r.2<=64)(d:x.Q.length+r.2<8589934592):jO (ch x r):=by
 have f: (ch x r).Q.length=x.Q.length+r.2:=by simp[ch,fg]
 refine⟨b.S,b.P,b.M,λk a=>?_,by omega⟩;rcases aev.1 a with a|a
 ·exact b.Q k a
 ·obtain⟨i,e,rfl⟩:=afH.1 a
  grind
def jO.cut{x:Core}(a:jO x){c:Call}(b:c.run.1<=64/\c.run.2<=64)(d:x.Q.length+c.run.2<8589934592):jO (o7 x c):=by
 have:=a.queue b d;exact⟨this.S,this.P,Up this.M _,this.Q,this.Ql⟩
def akT(x:Core)(c:Call): (o7 x c).Q.length=x.Q.length+c.run.2:=by simp[o7,ch,fg]
def dG.UZ(h:dG m)(i:Nat)(b:m.ai.Q.length<4294967296):dG (mN m i)/\ (mN m i).ai.Q.length<=m.ai.Q.length+64:=by
 unfold mN;split
 ·have a:=h.run i;refine⟨⟨h.ai.cut a (by omega),λj=>?_,λj=>?_,λj=>?_,h.now,h.ev,λj=>?_⟩,?_⟩
  ·show l5 (ar m.aB i _ j).t;unfold ar;split
   ·exact h.t i
   ·exact h.t j
  ·show fS (ar m.aB i _ j).c;unfold ar;split
   ·exact CZ
   ·exact h.c j
  ·show(ar m.aB i _ j).fr<_;unfold ar;split
   ·exact h.fr i
   ·exact h.fr j
  ·show(ar m.aB i _ j).c.run.1<=64/\ (ar m.aB i _ j).c.run.2<=64;unfold ar;split
   ·exact⟨by show 0<=64;omega,by show 0<=64;omega⟩
   ·exact h.run j
  ·show(o7 _ _).Q.length<=_;rw[akT];omega
 grind
def hH(m:aV)(k:Nat):aV:=(List.range k).foldl mN m
def MA(m:aV)(k:Nat):hH m (k+1)=mN (hH m k) k:=by unfold hH;rw[aog,amz];rfl
theorem U0{m:aV}(h:dG m)(a:m.ai.Q.length<1073741824): ∀k,k<=8->dG (hH m k)/\ (hH m k).ai.Q.length<=m.ai.Q.length+64*k
 |0,_=>⟨h,by show m.ai.Q.length<=_;omega⟩
 |k+1,c=>by
  obtain⟨b,f⟩:=U0 h a k (by omega);obtain⟨e,d⟩:=b.UZ k (by omega);rw[MA]
  grind
def axF{n:Nat}{H:List ae}(u:bJ n M p q m qv ev aE aP H)(Y:dG m)(hQ:m.ai.Q.length<1073741824)(lo:oN):
  ∃P,D XC (.fn (.func 63) [] []) [.ptr M 0] ⟨H,lo⟩=some P/\hE n M p q H lo (mO m) qv ev (.aw []) P:=by
 have ho:Old M H (.box (cH m p aE aP ev) none):=⟨u.box⟩;refine cE P8 λN O=>?_
 have GL:M<N:=by rw[<-O];exact u.lt
 have V:p<N:=by rw[<-O];exact u.co.lt
 have X:=u.nM;have hMq:=u.Mq;have T:=u.co.qp;simp only[go_sem,simprocAttr,P8];refine iq 8 (λk e W aj=> ∃i h d g,e 0= .ptr M 0/\e 4= .int .i64 k/\bJ n M p q (hH m k) i h d g W/\fL (i=qv/\h=ev) p aj/\Fm n [M,p,q] H W) 0 (by omega) ?_ ?_
 ·refine⟨qv,ev,aE,aP,?_⟩;simp only[go_sem,simprocAttr];exact⟨u,fL.no trivial,Fm.refl⟩
 rintro k hk e W aj ⟨i,h,d,g,C,B,l,r,A⟩ nn hn;simp only[bX,go_sem,simprocAttr,aeK,C,B];refine⟨λZ=>?_,λZ=>?_⟩
 ·have f:k<8:=by omega
  have w: (0:Int)<=k/\ (k:Int)<8:=by omega
  obtain⟨x,U⟩:=U0 Y hQ k (by omega);have s:=λlo=>akR l k lo
  have G:=MA m k;cases y: ((hH m k).aB k).busy with
  |false=>
   have e1:mN (hH m k) k=hH m k:=adU (by rw[y];simp);simp(disch:=omega) only[go_sem,simprocAttr,C,B,w,l.box,ym f,y];exact⟨f,i,h,d,g,by rw[G,e1];exact l,r,A⟩
  |true=>
   cases z:Ct (hH m k) k with
   |true=>
    rw[z]at s;have e1:mN (hH m k) k=hH m k:=adU (by rw[z];simp);simp(disch:=omega) only[go_sem,simprocAttr,C,B,w,l.box,ym f,y,s];exact⟨f,i,h,d,g,by rw[G,e1];exact l,r,A⟩
   |false=>
    rw[z]at s;have e1:mN (hH m k) k={hH m k with ai:=o7 (hH m k).ai ((hH m k).aB k).c,aB:=ar (hH m k).aB k {(hH m k).aB k with busy:=false,c:=gk}}:=adY ⟨y,z⟩;obtain⟨P,g1,E,W3,R,rfl,g2,Q,g4⟩:=ajR l.co x.ai _ (x.c k) _ (cY (l.rv k) (bB (λ_=>rfl) _)) aj;have j:=l.ai g2 Q;have S: [AV.int .i64 0,.int .u8 0,.int .u32 0,.int .u32 0,.int .u32 0,.int .u32 0,.int .u64 0,.bool false,.aq,.int .i64 0,.int .i64 0,.int .i64 0]=bN gk .aq:=rfl;have K:aK (bN gk .aq)=0:=rfl;have L: (bN gk .aq).length=12:=rfl;have J:1+k*24+22+1<=195:=by omega
    have I:1+k*24+10+12<=195:=by omega
    have F:=λo=>cG (o:=o) j.box
    simp(disch:=omega) only[go_sem,simprocAttr,C,B,w,l.box,ym f,sj,↓CY f,y,s,g1,j.box,pJ,UY f,AG f,S,K,L,J,I,F,ak7,rJ,cF];have t:=j.GK k {(hH m k).aB k with busy:=false,c:=gk} (d k) .aq (j.cv k) .aq;rw[nb]at t;refine⟨f,E,h,d,ar g k .aq,?_,r.step g4 (λa b=>⟨b.trans a.1,a.2⟩),(A.trans (bJ.fc Q)).trans (j.fM _)⟩;rw[G,e1];exact t
 ·obtain rfl:k=8:=by omega
  exact hE.fin (v:=.aw []) u O l A r (aeu _)
def U1(a:aC)(b n:Nat)(j:a.2<4294967296)(m:b<17179869184/\n<17179869184)(H:List ae)(lo:oN):
  D XC (.fn (.func 125) [] []) [.agg (aA a),.int .i64 b,.int .i64 n] ⟨H,lo⟩=some (.ret (.agg (aA (handed a b n))) ⟨H,lo⟩):=by
 refine aH B5 λN f=>?_
 have o: (aA a)[1]?=some (.int .i64 a.2):=rfl;have k: ∀r,List.take 2 (aA r)=aA r:=λ_=>rfl
 have l: ∀r,List.drop 2 (aA r)=[]:=λ_=>rfl
 have h: ∀r:aC,(aA r).length=2:=λ_=>rfl
 have g: ∀r,aK (aA r)=0:=λ_=>rfl
 unfold handed;by_cases i:0<a.2
 ·have d:decide (0< ((a.2:Nat):Int))=true:=aet (by omega);by_cases e:a.2<=n-b
  ·have c:decide (((a.2:Nat):Int)<=(n:Int)-b)=true:=aet (by omega);rw[adY ⟨e,i⟩];simp(disch:=omega) only[F1,go_sem,simprocAttr,B5,f,d,c,Bm];rfl
  ·have c:decide (((a.2:Nat):Int)<=(n:Int)-b)=false:=aeq (by omega);rw[adU (λq=>e q.1)];simp(disch:=omega) only[F1,go_sem,simprocAttr,B5,f,c,h,g,Bm]
 ·have d:decide (0< ((a.2:Nat):Int))=false:=aeq (by omega);rw[adU (λq=>i q.2)];by_cases e: ((a.2:Nat):Int)<=(n:Int)-b
  ·have c:decide (((a.2:Nat):Int)<=(n:Int)-b)=true:=aet e;simp(disch:=omega) only[F1,go_sem,simprocAttr,B5,f,d,c,h,g,Bm]
  ·have c:decide (((a.2:Nat):Int)<=(n:Int)-b)=false:=aeq e;simp(disch:=omega) only[F1,go_sem,simprocAttr,B5,f,c,h,g,Bm]
def bJ.akV{n:Nat}{H W:List ae}(h:bJ n M p q m qv ev aE aP H){e:Event}(j:dk (M+1) W v 14 qa ((m.cU++[e]).map kg))(b: ∀ (i:Nat) (o:ae),(∀a d,o≠ae.row a 14 qa d)->H[i]?=some o->W[i]?=some o):
  bJ n M p q {m with cU:=m.cU++[e]} qv v aE aP (W.set M (.box (cH {m with cU:=m.cU++[e]} p aE aP v) none)):=by
 have c: ∀cs tg,∀a d,ae.box cs tg≠ .row a 14 qa d:=λ_ _ _ _ e=>by cases e
 have f:=b M _ (c _ _) h.box;have l:=h.Mq;have k:=h.co.qp;refine⟨h.nM,h.Mq,⟨h.co.mp,h.co.mq,h.co.qp,(adb (by omega)).trans (b p _ (c _ _) h.co.box),(adb (by omega)).trans (b q _ (c _ _) h.co.fY),?_⟩,cG f,j.set f _,h.cv,h.rv⟩;exact(h.co.jc.oC λid ak all g=>b id _ (λa d e=>by cases e) g).set f _
def akW{n:Nat}{H W:List ae}(h:bJ n M p q m qv ev aE aP H)(j:H.length<=W.length)(k: ∀i,i<M+1->W[i]?=H[i]?)(f: ∀ (i:Nat) (o:ae),(∀a d,o≠ae.row a 14 qa d)->H[i]?=some o->W[i]?=some o)(o:ae):Fm n [M,p,q] H (W.set M o):=by
 have g:=h.nM;refine⟨by grind,λi b=>by grind,λi o' b ho c=>?_⟩;rw[adb (by grind)];exact f i o' (λa d e=>ho (.inr ⟨a,d,e⟩)) c
def axG(t:Task)(r:bA): (uL t r).code=t.code:=by
 unfold uL;grind
def U2{n:Nat}{H:List ae}(f:bJ n M p q m qv ev aE aP H)(Y:dG m)(t:Nat)(i:t<8)(c:Call)(rv:AV)(Mi:rv.refs=0)(run:aC)(r:bA)(hr:r.w<4294967296/\r.e<4294967296)(lo:oN):
  ∃Z,D XC (.fn (.func 124) [] []) [.ptr M 0,.int .i64 t,.agg (bN c rv),.agg (aA run),.agg (bF r)] ⟨H,lo⟩=some Z/\hE n M p q H lo (Ln m t c run r) qv ev (.aw []) Z:=by
 refine cE Qz λN l=>?_
 have GL:M<N:=by rw[<-l];exact f.lt
 have pA:p<N:=by rw[<-l];exact f.co.lt
 have hb:=λL=>aZ (L:=L) f.box
 have I: (0:Int)<=t/\ (t:Int)<8:=by omega
 have K:Den.part true 6 (bN c rv) 1=some (.agg (bn c.c)):=rfl;have hlr: ∀r:aC,List.take 2 (aA r)=aA r:=λ_=>rfl
 have Lu: ∀r:aC,(aA r).length=2:=λ_=>rfl
 have U3: ∀r:bA,List.take 3 (bF r)=bF r:=λ_=>rfl
 have T: ∀c:cq,bn c=[.int .u8 c.op,.int .u32 c.r,.int .u32 c.s,.int .u32 c.a,.int .u32 c.b,.int .u64 c.v]:=λ_=>rfl
 have j: ∀r:aC,aA r=[.int .i64 r.1,.int .i64 r.2]:=λ_=>rfl
 have h: ∀r:bA,bF r=[.int .i64 r.e,.int .u64 r.v,.int .u32 r.w]:=λ_=>rfl
 have R: ∀a b:Nat,[AV.int .i64 (t:Int),.int .u8 c.c.op,.int .u32 c.c.r,.int .u32 c.c.s,.int .u32 c.c.a,.int .u32 c.c.b,.int .u64 c.c.v,.int .i64 run.1,.int .i64 run.2,.int .i64 r.e,.int .u64 r.v,.int .u32 r.w,.int .i64 a,.int .i64 b]=kg ⟨t,c.c,run,r,a,b⟩:=λ_ _=>rfl
 obtain⟨B,hB⟩: ∃B:List ae,B=[.box (bN c rv) none,.box (aA run) none,.box (bF r) none]:=⟨_,rfl⟩;have w:=f.app B;obtain⟨v',W,g1,g2,g3,g4,x,g6,g7,g8⟩:=dk.append (bytes:=96) (lo:=none) (y:=kg ⟨t,c.c,run,r,(m.aB t).fr,m.now⟩) w.vi (by have:=w.lt;omega) (by omega) rfl rfl (by rw[afB];have:=Y.ev;unfold room;omega);have eE:m.cU.map kg++[kg ⟨t,c.c,run,r,(m.aB t).fr,m.now⟩]=(m.cU++[(⟨t,c.c,run,r,(m.aB t).fr,m.now⟩:Event)]).map kg:=by rw[afI];rfl
 rw[eE]at g2;have u:=w.akV g2 x;have U:=akW w g3 g4 x (.box (cH {m with cU:=m.cU++[⟨t,c.c,run,r,(m.aB t).fr,m.now⟩]} p aE aP v') none);rw[hB]at g1;rw[j,h]at g1;have S: ∀e,(kg e).length=14:=λ_=>rfl
 have het: ∀e,List.take 14 (kg e)=kg e:=λ_=>rfl
 have X: ∀cs tg,∀a d,ae.box cs tg≠ .row a 14 qa d:=λ_ _ _ _ e=>by cases e
 have V:=x M _ (X _ _) w.box;have wr:=x (N+2) _ (X _ _) (show(H++B)[N+2]?=some (.box (bF r) none) by rw[hB,bE l];rfl);rw[h]at wr;have J:=λo=>cG (o:=o) V
 have z: ∀o,(W.set M o)[N+2]?=_:=λo=>(adb (by omega)).trans wr
 have E: ¬v'.refs<=M+1:=by omega
 have G: ∀H lo,D XC (.fn (.func 145) [] []) [.agg (dn (m.aB t).t (aE t)),.agg [.int .i64 r.e,.int .u64 r.v,.int .u32 r.w]] ⟨H,lo⟩=some (.ret (.agg (dn (uL (m.aB t).t r) (aE t))) ⟨H,lo⟩):=λH lo=>c0 (axe (f.cv t) (Y.t t) r hr H lo)
 have k:=cY (f.cv t) (bB (λ_=>rfl) _);have F:=λt'=>GB (t:=t') k
 have hz: [AV.int .i64 0,.int .u8 0,.int .u32 0,.int .u32 0,.int .u32 0,.int .u32 0,.int .u64 0,.bool false,.aq,.int .i64 0,.int .i64 0,.int .i64 0]=bN gk .aq:=rfl;have A:aK (bN gk .aq)=0:=rfl;have C: (bN gk .aq).length=12:=rfl;have Q:1+t*24+10<=195:=by omega
 have P:1+t*24+22+1<=195:=by omega
 have O:1+t*24+10+12<=195:=by omega
 simp only[go_sem,simprocAttr,Qz,l,I,hb,CX,akN,axC i,↓K,T,j,h,R,S,het,g1,g6,g7,E,V,z,J,akP,pJ,↓My i,G,F,akQ i,UY i,AG i,hz,A,C,Q,P,O,ak7,rJ,cF,yk];have g:=u.GK t {m.aB t with t:=uL (m.aB t).t r,busy:=false,c:=gk} (aE t) .aq (by rw[axG];exact f.cv t) .aq;rw[nb,ak7]at g;have s:=(Fm.app B (by have:=f.nM;omega)).trans (U.trans (u.fM (.box (cH {m with cU:=m.cU++[⟨t,c.c,run,r,(m.aB t).fr,m.now⟩],aB:=ar m.aB t {m.aB t with t:=uL (m.aB t).t r,busy:=false,c:=gk}} p aE (ar aP t .aq) v') none)));rw[ak7]at s;exact hE.fin (v:=.aw []) f l g s (.inr ⟨M,by have:=f.Mq;have:=f.co.qp;omega,rfl⟩) (aeu _)
def yn(m:aV)(t:Nat):aV:={m with ai:=(fE m.ai (m.aB t).c).x,aB:=ar m.aB t {m.aB t with c:=(fE m.ai (m.aB t).c).c}}
def U4(m:aV)(t:Nat):aC:=if(fE m.ai (m.aB t).c).r.e≠0\/ (fE m.ai (m.aB t).c).c.c.op≠2 then(0,0)else(m.aB t).c.run
theorem akX(m:aV)(t:Nat):uN m t=if(fE m.ai (m.aB t).c).ended then Ln (yn m t) t (fE m.ai (m.aB t).c).c (handed (U4 m t) m.ai.Q.length (fE m.ai (m.aB t).c).x.Q.length) (fE m.ai (m.aB t).c).r else yn m t:=rfl
def akY{n:Nat}{H:List ae}(hD: ∀op,pC op)(g:bJ n M p q m qv ev aE aP H)(hm:dG m)(t:Nat)(j:t<8)(hQ:m.ai.Q.length<2147483648)
  (hd:si (ds (fi ⟨m.ai,(m.aB t).c,bL,false⟩).x.S (fi ⟨m.ai,(m.aB t).c,bL,false⟩).c.aa (fi ⟨m.ai,(m.aB t).c,bL,false⟩).c.c (fi ⟨m.ai,(m.aB t).c,bL,false⟩).c.run) (m.aB t).c.c)
  (B:dG (yn m t)) (hr: (fE m.ai (m.aB t).c).r.w<4294967296/\ (fE m.ai (m.aB t).c).r.e<4294967296) (pX: (fE m.ai (m.aB t).c).c.c.op<256) (lo:oN):
  ∃cr,D XC (.fn (.func 95) [] []) [.ptr M 0,.int .i64 t] ⟨H,lo⟩=some cr/\hE n M p q H lo (uN m t) qv ev (.aw []) cr:=by
 refine cE B4 λN z=>?_
 have GL:M<N:=by rw[<-z];exact g.lt
 have pA:p<N:=by rw[<-z];exact g.co.lt
 have hMq:=g.Mq;have UO:=g.co.qp;have U5:=g.nM;have P: (0:Int)<=t/\ (t:Int)<8:=by omega
 have hb:=λL=>aZ (L:=L) g.box
 have hcb:=λL=>aZ (L:=L) g.co.box
 have NX:=λL lo=>((g.app L).co.jc.rd (lo:=lo)).bS
 have hrz:=cY (g.rv t) (bB (λ_=>rfl) _);obtain⟨cr,g1,qv2,h,W,G,rfl,g2,g3,g4,g5⟩:=axc hD (g.co.app [.box (aA (m.aB t).c.run) none,.box wF none,.box ou none]) hm.ai (hm.c t) (g.rv t) hd hQ none;rw[akX];have R: ∀r:aC,(aA r).length=2:=λ_=>rfl
 have hrt: ∀r:aC,List.take 2 (aA r)=aA r:=λ_=>rfl
 have lr: ∀r:aC,List.drop 2 (aA r)=[]:=λ_=>rfl
 have Q: ∀r:aC,aK (aA r)=0:=λ_=>rfl
 have O: [AV.int .i64 0,.int .u8 0,.int .u32 0,.int .u32 0,.int .u32 0,.int .u32 0,.int .u64 0,.bool false,.aq,.int .i64 0,.int .i64 0,.int .i64 0]=wF:=rfl;have I: [AV.int .i64 0,.int .u64 0,.int .u32 0]=ou:=rfl;generalize hs:fE m.ai (m.aB t).c=s at*;have e:=λlo=>(g.co.jc.rd (lo:=lo)).bS
 have nM1:N∉[p,q]:=by simp;omega
 have nM2:N+1∉[p,q]:=by simp;omega
 have nM3:N+2∉[p,q]:=by simp;omega
 have v0:=g4.own nM1 (by rw[dB z];rfl);have v1:=g4.own nM2 (by rw[bE z];rfl);have v2:=g4.own nM3 (by rw[bE z];rfl);have hA:=(g.app [.box (aA (m.aB t).c.run) none,.box wF none,.box ou none]).ai g2 g4;have J:wF.length=12:=rfl;have l:ou.length=3:=rfl;have K:List.drop 12 wF=[]:=rfl;have u:List.drop 3 ou=[]:=rfl;have Z: ∀c rv,(bN c rv).length=12:=λ_ _=>rfl
 have X: ∀c rv,List.take 12 (bN c rv)=bN c rv:=λ_ _=>rfl
 have w:=cY g3 (bB (λ_=>rfl) _);have Y:=UD s.c w;have s1:=λo=>cG (o:=o) v1
 have y: ∀o,(W.set (N+1) o)[N+2]?=_:=λo=>(adb (by omega)).trans v2
 have vM: ∀o o',((W.set (N+1) o).set (N+2) o')[M]?=_:=λo o'=>(adb (by omega)).trans ((adb (by omega)).trans hA.box)
 have A: ∀o o':ae,((W.set (N+1) o).set (N+2) o')[N+1]?=some o:=λo o'=>(adb (by omega)).trans (s1 o)
 have T:1+t*24+10+12<=195:=by omega
 have MC:=((hA.other v1 (by omega) (by omega) (by omega) (.box (bN s.c h) none)).other (y _) (by omega) (by omega) (by omega) (.box (bF s.r) none));have k:=MC.GK t {m.aB t with c:=s.c} (aE t) h (g.cv t) g3;rw[nb]at k;have F:Fm n [M,p,q] H (((W.set (N+1) (.box (bN s.c h) none)).set (N+2) (.box (bF s.r) none)).set M (.box (cH {m with ai:=s.x,aB:=ar m.aB t {m.aB t with c:=s.c}} p aE (ar aP t h) ev) none)):=by
  have h1:=((bJ.fc (M:=M) g4).pre (by omega)).out (i:=N+1) (by omega) (by omega) (.box (bN s.c h) none);exact(h1.out (i:=N+2) (by omega) (by omega) (.box (bF s.r) none)).trans (MC.fM _)
 have S:fL (qv2=qv/\ev=ev) p G:=(gA.n g5).imp (λq=>⟨q.1,q.2,rfl⟩) id;obtain⟨W3,C⟩: ∃W3,W3=((W.set (N+1) (.box (bN s.c h) none)).set (N+2) (.box (bF s.r) none)).set M (.box (cH {m with ai:=s.x,aB:=ar m.aB t {m.aB t with c:=s.c}} p aE (ar aP t h) ev) none):=⟨_,rfl⟩;have x:=C.symm;have C0:N+1+1=N+2:=rfl;have w0:W3[N]?=some (.box (aA (m.aB t).c.run) none):=by rw[C,adb (by omega),adb (by omega),adb (by omega)];exact v0
 have w1:W3[N+1]?=some (.box (bN s.c h) none):=by rw[C,adb (by omega)];exact A _ _
 have w2:W3[N+2]?=some (.box (bF s.r) none):=by rw[C,adb (by omega)];exact cG (y _)
 rw[<-C]at k F;have C2: (bF s.r)[0]?=some (.int .i64 s.r.e):=rfl;have MD: (bN s.c h)[1]?=some (.int .u8 s.c.c.op):=rfl;have eM:yn m t={m with ai:=s.x,aB:=ar m.aB t {m.aB t with c:=s.c}}:=by unfold yn;rw[hs]
 have eR:U4 m t=if s.r.e≠0\/s.c.c.op≠2 then(0,0)else(m.aB t).c.run:=by unfold U4;rw[hs]
 rw[eM]at B⊢;rw[eR];have hqb:s.x.Q.length<8589934592:=B.ai.Ql;have wW:=hm.run t;cases U:s.ended with
 |false=>
  simp only[go_sem,simprocAttr,B4,z,P,g.box,g.co.box,hb,sj,KL,↓KL,e,↓Mz j,R,Q,↓CY j,O,I,g1,v1,y,vM,A,J,l,K,u,Z,X,Y,uZ,sg,pJ,AG j,T,U,C0,x];exact hE.fin (v:=.aw []) g z k F S (aeu _)
 |true=>
  by_cases he:s.r.e=0
  ·have V:decide (((s.r.e:Nat):Int)=0)=true:=aet (by omega);by_cases ho:s.c.c.op=2
   ·have U6:decide (((s.c.c.op:Nat):Int)=2)=true:=aet (by omega);rw[adY rfl,adU (by omega)];have f:=k;have E:=F;have d:=λlo=>(f.co.jc.rd (lo:=lo)).bS
    have hh:=λH lo=>U1 (m.aB t).c.run m.ai.Q.length s.x.Q.length (by skip;omega) (by omega) H lo
    obtain⟨cr,g6,qv6,ev6,ak2,ak3,W6,lo6,rfl,g7,g8,g9⟩:=U2 f B t j s.c h w (handed (m.aB t).c.run m.ai.Q.length s.x.Q.length) s.r hr G;simp only[go_sem,simprocAttr,B4,z,P,g.box,g.co.box,hb,sj,KL,↓KL,e,↓Mz j,R,Q,↓CY j,O,I,g1,v1,y,vM,A,J,l,K,u,Z,X,Y,uZ,ye,sg,pJ,AG j,T,U,C0,x,w0,w1,w2,C2,MD,V,U6,k.box,f.co.box,d,hh,g6];exact hE.fin (v:=.aw []) g z g7 (E.trans g8) (S.step g9 λa b=>⟨b.1.trans a.1,b.2.trans a.2⟩) (aeu _)
   ·have U6:decide (((s.c.c.op:Nat):Int)=2)=false:=aeq (by omega);rw[adY rfl,adY (.inr ho)];have f:=k.other w0 (by omega) (by omega) (by omega) (.box [.int .i64 0,.int .i64 0] none);have E:=F.out (i:=N) (by omega) (by omega) (.box [.int .i64 0,.int .i64 0] none);have u0:=λo=>cG (o:=o) w0
    have u1: ∀o,(W3.set N o)[N+1]?=_:=λo=>(adb (by omega)).trans w1
    have u2: ∀o,(W3.set N o)[N+2]?=_:=λo=>(adb (by omega)).trans w2
    have d:=λlo=>(f.co.jc.rd (lo:=lo)).bS
    have hh: ∀H lo,D XC (.fn (.func 125) [] []) [.agg [.int .i64 0,.int .i64 0],.int .i64 m.ai.Q.length,.int .i64 s.x.Q.length] ⟨H,lo⟩=some (.ret (.agg (aA (handed (0,0) m.ai.Q.length s.x.Q.length))) ⟨H,lo⟩):=λH lo=>U1 (0,0) m.ai.Q.length s.x.Q.length (by show 0<4294967296;omega) (by omega) H lo
    obtain⟨cr,g6,qv6,ev6,ak2,ak3,W6,lo6,rfl,g7,g8,g9⟩:=U2 f B t j s.c h w (handed (0,0) m.ai.Q.length s.x.Q.length) s.r hr G;simp only[go_sem,simprocAttr,B4,z,P,g.box,g.co.box,hb,sj,KL,↓KL,e,↓Mz j,R,lr,Q,↓CY j,O,I,g1,v1,y,vM,A,J,l,K,u,Z,X,Y,uZ,ye,sg,pJ,AG j,T,U,C0,x,w0,w1,w2,C2,MD,V,U6,u0,u1,u2,f.box,f.co.box,d,hh,g6];exact hE.fin (v:=.aw []) g z g7 (E.trans g8) (S.step g9 λa b=>⟨b.1.trans a.1,b.2.trans a.2⟩) (aeu _)
  ·have V:decide (((s.r.e:Nat):Int)=0)=false:=aeq (by omega);rw[adY rfl,adY (.inl he)];have f:=k.other w0 (by omega) (by omega) (by omega) (.box [.int .i64 0,.int .i64 0] none);have E:=F.out (i:=N) (by omega) (by omega) (.box [.int .i64 0,.int .i64 0] none);have u0:=λo=>cG (o:=o) w0
   have u1: ∀o,(W3.set N o)[N+1]?=_:=λo=>(adb (by omega)).trans w1
   have u2: ∀o,(W3.set N o)[N+2]?=_:=λo=>(adb (by omega)).trans w2
   have d:=λlo=>(f.co.jc.rd (lo:=lo)).bS
   have hh: ∀H lo,D XC (.fn (.func 125) [] []) [.agg [.int .i64 0,.int .i64 0],.int .i64 m.ai.Q.length,.int .i64 s.x.Q.length] ⟨H,lo⟩=some (.ret (.agg (aA (handed (0,0) m.ai.Q.length s.x.Q.length))) ⟨H,lo⟩):=λH lo=>U1 (0,0) m.ai.Q.length s.x.Q.length (by show 0<4294967296;omega) (by omega) H lo
   obtain⟨cr,g6,qv6,ev6,ak2,ak3,W6,lo6,rfl,g7,g8,g9⟩:=U2 f B t j s.c h w (handed (0,0) m.ai.Q.length s.x.Q.length) s.r hr G;simp only[go_sem,simprocAttr,B4,z,P,g.box,g.co.box,hb,sj,KL,↓KL,e,↓Mz j,R,lr,Q,↓CY j,O,I,g1,v1,y,vM,A,J,l,K,u,Z,X,Y,uZ,ye,sg,pJ,AG j,T,U,C0,x,w0,w2,C2,V,u0,u1,u2,f.box,f.co.box,d,hh,g6];exact hE.fin (v:=.aw []) g z g7 (E.trans g8) (S.step g9 λa b=>⟨b.1.trans a.1,b.2.trans a.2⟩) (aeu _)
structure ak5(m:aV)(t:Nat):Prop where
 d:si (ds (fi ⟨m.ai,(m.aB t).c,bL,false⟩).x.S (fi ⟨m.ai,(m.aB t).c,bL,false⟩).c.aa (fi ⟨m.ai,(m.aB t).c,bL,false⟩).c.c (fi ⟨m.ai,(m.aB t).c,bL,false⟩).c.run) (m.aB t).c.c
 m':dG (yn m t)
 r: (fE m.ai (m.aB t).c).r.w<4294967296/\ (fE m.ai (m.aB t).c).r.e<4294967296
 op: (fE m.ai (m.aB t).c).c.c.op<256
def axM{t:Task}(h:l5 t):iI (iW t).1:=by
 unfold iW;split
 ·exact⟨by decide,by decide,by decide,by decide,by decide,by decide⟩
 ·rename_i x a;have ho:=GF h a;split
  ·exact⟨by decide,by decide,by decide,by decide,by decide,by decide⟩
  ·split
   ·exact akS
   ·have c:=ho.op;have b:=ho.n;exact⟨by grind,aoc _ (by omega),aoc _ (by omega),aoc _ (by omega),by grind,h.aW 5⟩
def axN(t:Task): (qB t).code=t.code:=by
 unfold qB
 grind
def GM(m:aV)(t:Nat):aV:={m with aB:=ar m.aB t {m.aB t with c:={gk with aa:=t,c:=(iW (m.aB t).t).1},busy:=true,fr:=m.now}}
def dG.wanted(h:dG m){t:Nat}(a:t<8):dG (GM m t):=by
 refine⟨h.ai,λj=>?_,λj=>?_,λj=>?_,h.now,h.ev,λj=>?_⟩
 ·show l5 (ar m.aB t _ j).t;unfold ar;split
  ·exact h.t t
  ·exact h.t j
 ·show fS (ar m.aB t _ j).c;unfold ar;split
  ·exact⟨by grind,axM (h.t t),CZ.aW,CZ.run,CZ.fw⟩
  ·exact h.c j
 ·show(ar m.aB t _ j).fr<_;unfold ar;split
  ·exact h.now
  ·exact h.fr j
 ·show(ar m.aB t _ j).c.run.1<=64/\ (ar m.aB t _ j).c.run.2<=64;unfold ar;split
  ·exact⟨by show 0<=64;omega,by show 0<=64;omega⟩
  ·exact h.run j
def axO{n:Nat}{H:List ae}(hD: ∀op,pC op)(b:bJ n M p q m qv ev aE aP H)(y:dG m)(t:Nat)(d:t<8)(F:m.ai.Q.length<2147483648)
  (A: ∀m,dG m->m.ai.Q.length<2147483648->ak5 m t) (lo:oN):
  ∃s,D XC (.fn (.func 62) [] []) [.ptr M 0,.int .i64 t] ⟨H,lo⟩=some s/\hE n M p q H lo (wj m t) qv ev (.aw []) s:=by
 refine cE Fb λN i=>?_
 have GL:M<N:=by rw[<-i];exact b.lt
 have pA:p<N:=by rw[<-i];exact b.co.lt
 have U5:=b.nM;have k: (0:Int)<=t/\ (t:Int)<8:=by omega
 have E:=λL=>aZ (L:=L) b.box
 have hw:=λH lo=>c0 (UU (b.cv t) (y.t t) H lo)
 have j: [AV.int .u8 0,.int .u32 0,.int .u32 0,.int .u32 0,.int .u32 0,.int .u64 0]=bn mM:=rfl;have Y: ∀c,(bn c).length=6:=λ_=>rfl
 have Z: ∀c,List.drop 6 (bn c)=[]:=λ_=>rfl
 have ct: ∀c,List.take 6 (bn c)=bn c:=λ_=>rfl
 have s: ∀c,aK (bn c)=0:=λ_=>rfl
 have z:=cY (b.cv t) (bB (λ_=>rfl) _);have B:=b.app [.box (bn (iW (m.aB t).t).1) none];unfold wj;dsimp only;cases h: (m.aB t).busy with
 |true=>
  have g:=A m y F;obtain⟨X,g1,G,W,C,u,W6,I,rfl,V,U,T⟩:=akY hD B y t d F g.d g.m' g.r g.op none;simp only[go_sem,simprocAttr,Fb,i,k,b.box,E,↓My d,ym d,h,hw,j,Y,Z,s,g1];exact hE.fin (v:=.aw []) b i V (U.pre (by omega)) (gA.n T) (aeu _)
 |false=>
  cases w: (iW (m.aB t).t).2 with
  |true=>
   rw[w]at hw;have x:=y.wanted d;have g:=A (GM m t) x F;have a:=B.GK t {m.aB t with c:={gk with aa:=t,c:=(iW (m.aB t).t).1},busy:=true,fr:=m.now} (aE t) .aq (b.cv t) .aq;rw[nb]at a;obtain⟨X,g1,G,W,C,u,W6,I,rfl,V,U,T⟩:=akY hD a x t d F g.d g.m' g.r g.op none;have P:1+t*24+10+12<=195:=by omega
   have Q:1+t*24+22+1<=195:=by omega
   have l:1+t*24+23+1<=195:=by omega
   have O:=λL o=>cG (o:=o) (E L)
   have r:AV.int .i64 (t:Int):: (bn (iW (m.aB t).t).1++[.bool false,.aq,.int .i64 0,.int .i64 0,.int .i64 0])=bN {gk with aa:=t,c:=(iW (m.aB t).t).1} .aq:=rfl;have R: ∀c,aK (bN c .aq)=0:=λ_=>rfl
   have S: ∀c,(bN c .aq).length=12:=λ_=>rfl
   have f:AV.bool (m.aB t).busy= .bool false:=by rw[h]
   simp only[go_sem,simprocAttr,Fb,i,k,b.box,E,CX,↓My d,ym d,f,hw,j,Y,Z,ct,s,O,ak7,r,R,S,AG d,UY d,axD d,rJ,cF,pJ,l,Q,P,g1];have hf:Fm n [M,p,q] H ((H++[ae.box (bn (iW (m.aB t).t).1) none]).set M (ae.box (cH (GM m t) p aE (ar aP t .aq) ev) none)):=(Fm.app _ (by omega)).trans (B.fM _);exact hE.fin (v:=.aw []) b i V (hf.trans U) (gA.n T) (aeu _)
  |false=>
   rw[w]at hw;have K:=λH lo=>c0 (axn (b.cv t) (y.t t) H lo)
   have a:=B.GK t {m.aB t with t:=qB (m.aB t).t} (aE t) (aP t) (by rw[axN];exact b.cv t) (b.rv t);rw[nb,nb]at a;have J:=λt'=>GB (t:=t') z
   have l:1+t*24+10<=195:=by omega
   have f:AV.bool (m.aB t).busy= .bool false:=by rw[h]
   simp only[go_sem,simprocAttr,Fb,i,k,b.box,E,↓My d,ym d,f,hw,j,Y,Z,s,K,J,akQ d,pJ,l,yk];have e: (⟨qB (m.aB t).t,(m.aB t).c,false,(m.aB t).fr⟩:Runner)={m.aB t with t:=qB (m.aB t).t}:=by rw[<-h]
   rw[e];exact hE.fin (v:=.aw []) b i a ((Fm.app _ (by omega)).trans (B.fM _)) (fL.no ⟨rfl,rfl⟩) (aeu _)
def dQ.axP{n:Nat}{x:Core}{H W:List ae}(h:dQ n p q x qv H)(r:dk (p+1) W v 1 p9 ((x.Q++[k]).map ij))(s:H.length<=W.length)(t: ∀i,i<p+1->W[i]?=H[i]?)(b: ∀ (i:Nat) (o:ae),(∀a d,o≠ae.row a 1 p9 d)->H[i]?=some o->W[i]?=some o):
  dQ n p q {x with Q:=x.Q++[k]} v (W.set p (.box (bp x q v) none))/\Fq n [p,q] H (W.set p (.box (bp x q v) none)):=by
 have c: ∀cs tg,∀a d,ae.box cs tg≠ .row a 1 p9 d:=λ_ _ _ _ e=>by cases e
 have f:=b p _ (c _ _) h.box;have g:=h.qp;have j:=h.mp;refine⟨⟨h.mp,h.mq,h.qp,cG f,(adb (by omega)).trans (b q _ (c _ _) h.fY),r.set f _⟩,⟨by grind,λi l=>?_,λi o l ho m=>?_⟩⟩
 ·grind
 ·rw[adb (by grind)];exact b i o (λa d e=>ho ⟨a,d,e⟩) m
theorem ak6: ∀ (l:List aC) (x:Core) (s:bD),l.foldl ch {x with S:=s}={l.foldl ch x with S:=s}
 | [],_,_=>rfl
 |r::l,x,s=>ak6 l (ch x r) s
def fN:cq:={mM with op:=20}
def kh(m:aV)(d:bD×bA×List aC)(k:Nat):Core:=(d.2.2.take k).foldl ch {m.ai with S:=d.1}
def axQ{n:Nat}{H:List ae}(hD: ∀op,pC op)(x:bJ n M p q m qv ev aE aP H)(hm:dG m)(t:Nat)(ht:t<8)(hQ:m.ai.Q.length<2147483648)
  (hd:si (ds m.ai.S t fN (0,0)) fN) (lo:oN):
  ∃cr,D XC (.fn (.func 61) [] []) [.ptr M 0,.int .i64 t] ⟨H,lo⟩=some cr/\hE n M p q H lo (xU m t) qv ev (.aw []) cr:=by
 refine cE P7 λN hN=>?_
 have GL:M<N:=by rw[<-hN];exact x.lt
 have pA:p<N:=by rw[<-hN];exact x.co.lt
 have U5:=x.nM;have hMq:=x.Mq;have UO:=x.co.qp;have hb:=λL=>aZ (L:=L) x.box
 have hcb:=λL=>aZ (L:=L) x.co.box
 have hcx:iI fN:=⟨by decide,by decide,by decide,by decide,by decide,by decide⟩;obtain⟨bv,d1,d2⟩:=Um m.ai.S hm.ai.S t (by omega) fN hcx (0,0) ⟨show 0<4294967296 by omega,show 0<4294967296 by omega⟩ (hD _) (H++[.box (bn fN) none,.box nE none,.box ou none]) none;have d1:=cB d1;have eS:xU m t={m with ai:=kh m (ds m.ai.S t fN (0,0)) (ds m.ai.S t fN (0,0)).2.2.length,cU:=m.cU++[⟨t,fN,(0,0),(ds m.ai.S t fN (0,0)).2.1,m.now,m.now⟩]}:=by
  unfold kh;rw[afK,ak6];rfl
 rw[eS];generalize ds m.ai.S t fN (0,0)=d at*;have hz: [AV.int .u8 20,.int .u32 0,.int .u32 0,.int .u32 0,.int .u32 0,.int .u64 0]=bn fN:=rfl;have C2:aA (0,0)=[.int .i64 0,.int .i64 0]:=rfl;rw[C2]at d1;have hzr: [AV.int .i64 0,.int .u64 0,.int .u32 0]=ou:=rfl;have cl: ∀c,(bn c).length=6:=λ_=>rfl
 have cd: ∀c,List.drop 6 (bn c)=[]:=λ_=>rfl
 have ct: ∀c,List.take 6 (bn c)=bn c:=λ_=>rfl
 have cr: ∀c,aK (bn c)=0:=λ_=>rfl
 have U:ou.length=3:=rfl;have V:List.drop 3 ou=[]:=rfl;have hA:=(x.app [.box (bn fN) none,.box (bw d.1) none,.box (bF d.2.1) none]);have I:=hA.ai (hA.co.ajO d.1) (hA.co.fp _);have G:=bJ.fc (M:=M) (hA.co.fp (.box (bp {m.ai with S:=d.1} q qv) none));have C0:N+1+1=N+2:=rfl;simp only[go_sem,simprocAttr,P7,hN,C0,hb,hcb,sj,KL,↓KL,KS,hz,hzr,cl,ct,cr,d1,DZ,oW,sg,U,V,d2.bS];refine iq d.2.2.length (λk e W aj=> ∃o,e 0= .ptr M 0/\e 1= .int .i64 t/\e 4= .ptr N 0/\e 6= .ptr (N+2) 0/\e 34=bv/\e 35= .int .i64 d.2.2.length/\e 36= .int .i64 k/\bJ n M p q {m with ai:=kh m d k} o ev aE aP W/\fL (o=qv/\ev=ev) p aj/\W[N]?=some (.box (bn fN) none)/\W[N+2]?=some (.box (bF d.2.1) none)/\Fm n [M,p,q] H W) 0 (by omega) ?_ ?_
 ·refine⟨qv,?_⟩;simp(disch:=omega) only[go_sem,simprocAttr];exact⟨I,fL.no trivial,(Fm.app _ (by omega)).trans G⟩
 rintro k hk e W aj ⟨o,B,e1,R,e6,l,i,h,s,g,J,K,P⟩ nn hn;simp only[bX,go_sem,simprocAttr,aeJ,B,l,i,h];refine⟨λhh=>?_,λhh=>?_⟩
 ·have w:k<d.2.2.length:=by omega
  generalize F:d.2.2.getD k default=f at*;have wW:=hd.runs f (by rw[<-F];exact fx w);have vJ: ∀r:aC,(aA r).length=2:=λ_=>rfl
  have sQ: ∀r,aK (aA r)=0:=λ_=>rfl
  have hrt: ∀r,List.take 2 (aA r)=aA r:=λ_=>rfl
  have lr: ∀r,List.drop 2 (aA r)=[]:=λ_=>rfl
  have D0: (aA f)[1]?=some (.int .i64 f.2):=rfl;have aDC: (aA f)[0]?=some (.int .i64 f.1):=rfl;simp(disch:=omega) only[go_sem,simprocAttr,d2.cp,d2.c7,F,hn,vJ,sQ];have X:=CT (d.2.2.take k) {m.ai with S:=d.1} (λz hz=>(hd.runs z (aiy hz)).2);have X: (kh m d k).Q.length<=m.ai.Q.length+64*(d.2.2.take k).length:=X;have Uh: (d.2.2.take k).length<=k:=by simp;omega
  have hdl:=hd.len;refine⟨by omega,?_⟩;refine iq f.2 (λj e T E=> ∃u,e 0= .ptr M 0/\e 1= .int .i64 t/\e 4= .ptr N 0/\e 6= .ptr (N+2) 0/\e 34=bv/\e 35= .int .i64 d.2.2.length/\e 36= .int .i64 k/\e 9= .ptr nn 0/\e 41= .int .i64 f.2/\e 42= .int .i64 j/\bJ n M p q {m with ai:=jx (kh m d k) f j} u ev aE aP T/\fL (u=qv/\ev=ev) p E/\T[nn]?=some (.box (aA f) none)/\T[N]?=some (.box (bn fN) none)/\T[N+2]?=some (.box (bF d.2.1) none)/\Fm n [M,p,q] H T) 0 (by omega) ?_ ?_
  ·refine⟨o,?_⟩;simp(disch:=omega) only[go_sem,simprocAttr,B,e1,R,e6,l,i,h];refine⟨?_,by simpa using g,aZ J,aZ K,P.trans (Fm.app _ (by have:=s.lt;omega))⟩;have e1:jx (kh m d k) f 0=kh m d k:=by unfold jx;simp
   rw[e1];exact s.app _
  have hK0:=s.co.box;have aDF:p<nn:=by rw[<-hn];exact s.co.lt
  clear g J K B e1 R e6 l i h s P hn;rintro j hj e T E ⟨u,B,e1,R,e6,l,i,h,e9,e41,e42,C,g,wn,J,K,P⟩ n2 hn2;simp(disch:=omega) only[bX,go_sem,simprocAttr,aeI,B,e1,R,e6,l,i,h,e41,e42];refine⟨λhh=>?_,λhh=>?_⟩
  ·have Y:j<f.2:=by omega
   have hwl:=C.co.lt;have NX: (jx (kh m d k) f j).Q.length<=m.ai.Q.length+64*k+f.2:=by
    have: (jx (kh m d k) f j).Q.length=(kh m d k).Q.length+((fg f).take j).length:=by simp[jx]
    have h2: ((fg f).take j).length<=f.2:=by simp[fg];omega
    omega
   obtain⟨v',W3,g1,g2,g3,g4,A,g6,g7,g8⟩:=dk.append (bytes:=8) (lo:=E) (y:=[.int .i64 ((f.1:Int)+j)]) C.co.jc (by omega) (by omega) rfl rfl (by rw[afB];unfold room;show((jx (kh m d k) f j).Q.length+1)*8<=_;omega);have eQ: (jx (kh m d k) f j).Q.map ij++[[.int .i64 ((f.1:Int)+j)]]=((jx (kh m d k) f j).Q++[f.1+j]).map ij:=by rw[afI];rfl
   rw[eQ]at g2;obtain⟨c1,c2⟩:=C.co.axP g2 g3 g4 A;have Z:=C.ai c1 c2;have eT: {jx (kh m d k) f j with Q:=(jx (kh m d k) f j).Q++[f.1+j]}=jx (kh m d k) f (j+1):=by
    unfold jx;rw[ajQ Y,<-adV]
   rw[eT]at Z;have O: ∀cs tg,∀a d,ae.box cs tg≠ .row a 1 p9 d:=λ_ _ _ _ e=>by cases e
   have wp':=A p _ (O _ _) C.co.box;have g8': ¬v'.refs<=p+1:=by omega
   simp(disch:=omega) only[go_sem,simprocAttr,B,e1,R,e6,l,i,h,e9,e41,e42,C.box,C.co.box,sj,KL,↓KL,wn,g1,wp',KS,g6,g7,g8'];refine⟨Y,v',Z,?_,A nn _ (O _ _) wn,A N _ (O _ _) J,A (N+2) _ (O _ _) K,P.trans (bJ.fc c2)⟩;rcases g with⟨rfl,_⟩| ⟨j2,hj2,rfl⟩
   ·exact .inr ⟨p,afA _,rfl⟩
   ·exact .inr ⟨min p j2,by omega,rfl⟩
  ·obtain rfl:j=f.2:=by omega
   have B:kh m d (k+1)=jx (kh m d k) f f.2:=by
    rw[ajP];unfold kh;rw[<-F,afX,aep w,amz,afQ,aep w];rfl
   exact⟨w,u,by rw[B];exact C,g.imp (λq=>⟨q.1,q.2.1⟩) id,J,K,P⟩
 ·obtain rfl:k=d.2.2.length:=by omega
  have g:fL (o=qv/\ev=ev) p aj:=g;obtain⟨v',W3,g1,g2,g3,g4,A,g6,g7,g8⟩:=dk.append (bytes:=96) (lo:=aj) (y:=kg ⟨t,fN,(0,0),d.2.1,m.now,m.now⟩) s.vi (by have:=s.lt;omega) (by omega) rfl rfl (by rw[afB];unfold room;have:=hm.ev;show(m.cU.length+1)*96<=_;omega);have eE:m.cU.map kg++[kg ⟨t,fN,(0,0),d.2.1,m.now,m.now⟩]=(m.cU++[(⟨t,fN,(0,0),d.2.1,m.now,m.now⟩:Event)]).map kg:=by rw[afI];rfl
  have g2:dk (M+1) W3 v' 14 qa ((m.cU++[(⟨t,fN,(0,0),d.2.1,m.now,m.now⟩:Event)]).map kg):=eE ▸ g2;have I:=s.akV g2 A;have G:=akW s g3 g4 A (.box (cH {m with cU:=m.cU++[⟨t,fN,(0,0),d.2.1,m.now,m.now⟩]} p aE aP v') none);have O: ∀cs tg,∀a d,ae.box cs tg≠ .row a 14 qa d:=λ_ _ _ _ e=>by cases e
  have wM:=A M _ (O _ _) s.box;have hv': ¬v'.refs<=M+1:=by omega
  have TH: ∀c:cq,bn c=[.int .u8 c.op,.int .u32 c.r,.int .u32 c.s,.int .u32 c.a,.int .u32 c.b,.int .u64 c.v]:=λ_=>rfl
  have hse: ∀r:bA,bF r=[.int .i64 r.e,.int .u64 r.v,.int .u32 r.w]:=λ_=>rfl
  have hev: ∀a b:Nat,[AV.int .i64 (t:Int),.int .u8 fN.op,.int .u32 fN.r,.int .u32 fN.s,.int .u32 fN.a,.int .u32 fN.b,.int .u64 fN.v,.int .i64 0,.int .i64 0,.int .i64 d.2.1.e,.int .u64 d.2.1.v,.int .u32 d.2.1.w,.int .i64 a,.int .i64 b]=kg ⟨t,fN,(0,0),d.2.1,a,b⟩:=λ_ _=>rfl
  have qY: ∀e,(kg e).length=14:=λ_=>rfl
  have het: ∀e,List.take 14 (kg e)=kg e:=λ_=>rfl
  simp only[go_sem,simprocAttr,s.box,B,e1,R,e6,CX,akN,J,K,TH,hse,hev,qY,het,g1,g6,g7,hv',wM,akP,pJ];refine hE.fin (v:=.aw []) x hN I (P.trans G) ?_ (aeu _);rcases g with⟨rfl,_⟩| ⟨j2,hj2,rfl⟩
  ·exact .inr ⟨M,by omega,rfl⟩
  ·exact .inr ⟨min M j2,by omega,rfl⟩
def SE{α:Type}(m:R α):Prop:= ∀e,m= .error e->e<13
theorem SE.ok{a:α}:SE (.ok a:R α):=by intro e h;cases h
theorem SE.pure{a:α}:SE (Pure.pure a:R α):=by intro e h;cases h
def SE.err(a:e<13):SE (.error e:R α):=by intro e h;grind
def SE.bind{m:R α}{f:α->R β}(b:SE m)(c: ∀a,SE (f a)):SE (m>>=f):=by
 cases m with
 |error e=>intro e h;cases h;exact b _ rfl
 |ok a=>exact c a
def SE.ask{b:Bool}(a:e<13):SE (ask b e):=by
 unfold Go.Proofs.YteplichagkpciaaGreatDoor.ask;split
 ·exact SE.ok
 ·exact SE.err a
def SE.bg(a:e<13):SE (bg e):=by
 unfold Go.Proofs.YteplichagkpciaaGreatDoor.bg;split
 ·exact SE.ok
 ·exact SE.err a
theorem SE.foldlM{α β:Type}{f:α->β->R α}(h: ∀a b,SE (f a b)): ∀ (l:List β) (a:α),SE (l.foldlM f a)
 | [],_=>SE.pure
 |b::l,a=>SE.bind (h a b) λa=>SE.foldlM h l a
def ax0{n:Nat}(h: (n+1).ble 13=true):n<13:=ap6 h
def kY{h:Nat}: (aG t h).2<13:=by unfold aG;grind
def kZ{k:bo}{h:Nat}: (cb k h).2<13:=by unfold cb;grind
def ax1{T:av}{O:bO}{K:bo}{c:Nat}:xQ T O K a b c<13:=by unfold xQ;grind
def jP{o:bO}{r:Nat}{x:Ow}: (gw o t r a x).2<13:=by unfold gw;grind
def jQ{o:bO}{r:Nat}{b:Bool}: (dC o t r a b).2.2<13:=by unfold dC;repeat' (first|simp|exact jP|split)
def ala{h:Nat}: (eu t h r).2<13:=by unfold eu;grind
def alb{h u:Nat}: (kM t h u).2<13:=by unfold kM;grind
def ax2{h:Nat}: (iT t h).2<13:=by unfold iT;split;exact ax0 rfl;exact alb
def k0{h u:Nat}: (rN t h u).2<13:=by unfold rN;repeat' (first|simp|exact alb|split)
def k5{h u:Nat}: (gN t h u).2.2<13:=by unfold gN kK;grind
def k6{k:bo}{x:Tok}: (lR k x).2.2<13:=by unfold lR qx;grind
def k7{b:c8}{x:kI}: (nf b x).2<13:=by unfold nf;grind
def k9{b:c8}: (mD b).2.2<13:=by unfold mD;grind
def la{b:c8}: (wg b).2<13:=by unfold wg;grind
def lb{c:Nat}{f:Bool}: (mE t a b c f).2<13:=by unfold mE;repeat' (first|simp|exact ala|split)
def ld: (uz t a b).2<13:=by unfold uz;grind
def l6{h w:Nat}:SE (fV x h w):=SE.bg ax1
def l7{t:Nat}:SE (mF x t):=SE.ask (by decide)
def mT{h t:Nat}:SE (mG x h t):=by exact SE.bind (SE.bg jP) λ_=>SE.pure
def l8{h:Nat}:SE (ng x h r):=by exact SE.bind (SE.bg ala) λ_=>SE.pure
def l9{h:Nat}:SE (uA x h):=by exact SE.bind (SE.bg ax2) λ_=>SE.pure
def ma{h:Nat}:SE (xR x h):=by
 exact SE.bind (SE.ask (by decide)) λ_=>SE.bind (SE.ask (by decide)) λ_=>SE.ask (by decide)
def lg{h t:Nat}:SE (jH x h t):=by exact SE.bind (SE.bg jQ) λ_=>SE.pure
def alc{t:Nat}:SE (mI x t):=by unfold mI;(repeat (first|exact SE.ok|exact SE.pure|exact SE.ask (by decide)|exact SE.err (by decide)|exact l6|exact l7|exact mT|exact l8|exact l9|exact ma|exact lg|assumption| (refine SE.bg ?_;first|exact kY|exact k5|exact k0|exact jP|exact jQ|exact kZ|exact k6|exact k7|exact k9|exact la|exact lb|exact ld)| (refine SE.bind ?_ λ_=>?_)| (refine SE.foldlM (λ_ _=>?_) _ _)|split|dsimp only))
def ax3{t:Nat}:SE (qy x t):=by unfold qy;(repeat (first|exact SE.ok|exact SE.pure|exact SE.ask (by decide)|exact SE.err (by decide)|exact l6|exact l7|exact mT|exact l8|exact l9|exact ma|exact lg|assumption| (refine SE.bg ?_;first|exact kY|exact k5|exact k0|exact jP|exact jQ|exact kZ|exact k6|exact k7|exact k9|exact la|exact lb|exact ld)| (refine SE.bind ?_ λ_=>?_)| (refine SE.foldlM (λ_ _=>?_) _ _)|split|dsimp only))
def ax4(x:au):SE (nZ x):=by unfold nZ;(repeat (first|exact SE.ok|exact SE.pure|exact SE.ask (by decide)|exact SE.err (by decide)|exact l6|exact l7|exact mT|exact l8|exact l9|exact ma|exact lg|assumption| (refine SE.bg ?_;first|exact kY|exact k5|exact k0|exact jP|exact jQ|exact kZ|exact k6|exact k7|exact k9|exact la|exact lb|exact ld)| (refine SE.bind ?_ λ_=>?_)| (refine SE.foldlM (λ_ _=>?_) _ _)|split|dsimp only))
def ax5(x:au):SE (ic x):=by unfold ic;(repeat (first|exact SE.ok|exact SE.pure|exact SE.ask (by decide)|exact SE.err (by decide)|exact l6|exact l7|exact mT|exact l8|exact l9|exact ma|exact lg|assumption| (refine SE.bg ?_;first|exact kY|exact k5|exact k0|exact jP|exact jQ|exact kZ|exact k6|exact k7|exact k9|exact la|exact lb|exact ld)| (refine SE.bind ?_ λ_=>?_)| (refine SE.foldlM (λ_ _=>?_) _ _)|split|dsimp only))
def ax6(x:au):SE (rR x):=by unfold rR;(repeat (first|exact SE.ok|exact SE.pure|exact SE.ask (by decide)|exact SE.err (by decide)|exact l6|exact l7|exact mT|exact l8|exact l9|exact ma|exact lg|assumption| (refine SE.bg ?_;first|exact kY|exact k5|exact k0|exact jP|exact jQ|exact kZ|exact k6|exact k7|exact k9|exact la|exact lb|exact ld)| (refine SE.bind ?_ λ_=>?_)| (refine SE.foldlM (λ_ _=>?_) _ _)|split|dsimp only))
def ax7(x:au):SE (rS x):=by unfold rS;(repeat (first|rfl|exact SE.pure|rfl|rfl|exact l6|rfl|rfl|rfl|rfl|rfl|exact lg|assumption| (refine SE.bg ?_;first|exact kY|exact k5|exact k0|exact jP|exact jQ|exact kZ|exact k6|exact k7|exact k9|exact la|exact lb|exact ld)| (refine SE.bind ?_ λ_=>?_)| (refine SE.foldlM (λ_ _=>?_) _ _)|split|dsimp only))
def ax8(x:au):SE (uB x):=by unfold uB;(repeat (first|exact SE.ok|exact SE.pure|exact SE.ask (by decide)|exact SE.err (by decide)|exact l6|exact l7|exact mT|exact l8|exact l9|exact ma|exact lg|assumption| (refine SE.bg ?_;first|exact kY|exact k5|exact k0|exact jP|exact jQ|exact kZ|exact k6|exact k7|exact k9|exact la|exact lb|exact ld)| (refine SE.bind ?_ λ_=>?_)| (refine SE.foldlM (λ_ _=>?_) _ _)|split|dsimp only))
def ax9(x:au):SE (uD x):=by unfold uD;(repeat (first|exact SE.ok|exact SE.pure|exact SE.ask (by decide)|exact SE.err (by decide)|exact l6|exact l7|exact mT|exact l8|exact l9|exact ma|exact lg|assumption| (refine SE.bg ?_;first|exact kY|exact k5|exact k0|exact jP|exact jQ|exact kZ|exact k6|exact k7|exact k9|exact la|exact lb|exact ld)| (refine SE.bind ?_ λ_=>?_)| (refine SE.foldlM (λ_ _=>?_) _ _)|split|dsimp only))
def aya(x:au):SE (uE x):=by unfold uE;(repeat (first|exact SE.ok|exact SE.pure|exact SE.ask (by decide)|exact SE.err (by decide)|exact l6|exact l7|exact mT|exact l8|exact l9|exact ma|exact lg|assumption| (refine SE.bg ?_;first|exact kY|exact k5|exact k0|exact jP|exact jQ|exact kZ|exact k6|exact k7|exact k9|exact la|exact lb|exact ld)| (refine SE.bind ?_ λ_=>?_)| (refine SE.foldlM (λ_ _=>?_) _ _)|split|dsimp only))
def ayb(x:au):SE (rT x):=by unfold rT;(repeat (first|exact SE.ok|exact SE.pure|exact SE.ask (by decide)|exact SE.err (by decide)|exact l6|exact l7|exact mT|exact l8|exact l9|exact ma|exact lg|assumption| (refine SE.bg ?_;first|exact kY|exact k5|exact k0|exact jP|exact jQ|exact kZ|exact k6|exact k7|exact k9|exact la|exact lb|exact ld)| (refine SE.bind ?_ λ_=>?_)| (refine SE.foldlM (λ_ _=>?_) _ _)|split|dsimp only));all_goals exact SE.bg jQ
def ayc(x:au):SE (oZ x):=by unfold oZ;(repeat (first|exact SE.ok|exact SE.pure|exact SE.ask (by decide)|exact SE.err (by decide)|exact l6|exact l7|exact mT|exact l8|exact l9|exact ma|exact lg|assumption| (refine SE.bg ?_;first|exact kY|exact k5|exact k0|exact jP|exact jQ|exact kZ|exact k6|exact k7|exact k9|exact la|exact lb|exact ld)| (refine SE.bind ?_ λ_=>?_)| (refine SE.foldlM (λ_ _=>?_) _ _)|split|dsimp only))
def ayd(x:au):SE (uG x):=by unfold uG;(repeat (first|exact SE.ok|exact SE.pure|exact SE.ask (by decide)|exact SE.err (by decide)|exact l6|exact l7|exact mT|exact l8|exact l9|exact ma|exact lg|assumption| (refine SE.bg ?_;first|exact kY|exact k5|exact k0|exact jP|exact jQ|exact kZ|exact k6|exact k7|exact k9|exact la|exact lb|exact ld)| (refine SE.bind ?_ λ_=>?_)| (refine SE.foldlM (λ_ _=>?_) _ _)|split|dsimp only))
def aye(x:au):SE (mH x):=by unfold mH;(repeat (first|exact SE.ok|exact SE.pure|exact SE.ask (by decide)|exact SE.err (by decide)|exact l6|exact l7|exact mT|exact l8|exact l9|exact ma|exact lg|assumption| (refine SE.bg ?_;first|exact kY|exact k5|exact k0|exact jP|exact jQ|exact kZ|exact k6|exact k7|exact k9|exact la|exact lb|exact ld)| (refine SE.bind ?_ λ_=>?_)| (refine SE.foldlM (λ_ _=>?_) _ _)|split|dsimp only))
def ayf(x:au):SE (ni x):=by unfold ni;(repeat (first|exact SE.ok|exact SE.pure|exact SE.ask (by decide)|exact SE.err (by decide)|exact l6|exact l7|exact mT|exact l8|exact l9|exact ma|exact lg|assumption| (refine SE.bg ?_;first|exact kY|exact k5|exact k0|exact jP|exact jQ|exact kZ|exact k6|exact k7|exact k9|exact la|exact lb|exact ld)| (refine SE.bind ?_ λ_=>?_)| (refine SE.foldlM (λ_ _=>?_) _ _)|split|dsimp only))
def ayg(x:au):SE (uH x):=by unfold uH;(repeat (first|rfl|exact SE.pure|rfl|rfl|rfl|rfl|rfl|exact l8|exact l9|exact ma|exact lg|assumption| (refine SE.bg ?_;first|exact kY|exact k5|exact k0|exact jP|exact jQ|exact kZ|exact k6|exact k7|exact k9|exact la|exact lb|exact ld)| (refine SE.bind ?_ λ_=>?_)| (refine SE.foldlM (λ_ _=>?_) _ _)|split|dsimp only))
def ayh(x:au):SE (oc x):=by unfold oc;(repeat (first|exact SE.ok|exact SE.pure|exact SE.ask (by decide)|exact SE.err (by decide)|exact l6|exact l7|exact mT|exact l8|exact l9|exact ma|exact lg|assumption| (refine SE.bg ?_;first|exact kY|exact k5|exact k0|exact jP|exact jQ|exact kZ|exact k6|exact k7|exact k9|exact la|exact lb|exact ld)| (refine SE.bind ?_ λ_=>?_)| (refine SE.foldlM (λ_ _=>?_) _ _)|split|dsimp only))
def ayi(x:au):SE (uI x):=by unfold uI;(repeat (first|exact SE.ok|exact SE.pure|exact SE.ask (by decide)|exact SE.err (by decide)|exact l6|exact l7|exact mT|exact l8|exact l9|exact ma|exact lg|assumption| (refine SE.bg ?_;first|exact kY|exact k5|exact k0|exact jP|exact jQ|exact kZ|exact k6|exact k7|exact k9|exact la|exact lb|exact ld)| (refine SE.bind ?_ λ_=>?_)| (refine SE.foldlM (λ_ _=>?_) _ _)|split|dsimp only))
def ayj(x:au):SE (qz x):=by(repeat (first|rfl|exact SE.pure|exact SE.ask (by decide)|rfl|rfl|rfl|rfl|rfl|rfl|rfl|rfl|rfl|rfl| (refine SE.bind ?_ λ_=>?_)|rfl|split|rfl))
def ayk(x:au):SE (uF x):=by unfold uF;(repeat (first|exact SE.ok|exact SE.pure|exact SE.ask (by decide)|exact SE.err (by decide)|exact l6|exact l7|exact mT|exact l8|exact l9|exact ma|exact lg|assumption| (refine SE.bg ?_;first|exact kY|exact k5|exact k0|exact jP|exact jQ|exact kZ|exact k6|exact k7|exact k9|exact la|exact lb|exact ld)| (refine SE.bind ?_ λ_=>?_)| (refine SE.foldlM (λ_ _=>?_) _ _)|split|dsimp only))
def ayl(x:au):SE (wi x):=by
 exact SE.bind l7 λ_=>SE.bind alc λ_=>SE.pure
def aym(x:au):SE (ie x):=by
 unfold ie;split<;>first|exact ax4 x|exact ax5 x|exact ax3|exact ax6 x|exact ax7 x|exact ax8 x|exact ax9 x|exact aya x|exact ayb x|exact ayk x|exact ayc x|exact ayd x|exact aye x|exact ayf x|exact ayg x|exact ayh x|exact ayi x|exact ayl x|exact ayj x|exact SE.err (by decide)|exact SE.bind alc λ_=>SE.pure
def ayn(h:iF x= .error e):e<13:=SE.bind (SE.ask (by decide)) (λ_=>aym x) _ h
structure RO(x:au)(a:au×bA):Prop where
 s:bm a.1.s
 back:a.1.back=x.back
 w:a.2.w<4294967296
 v:a.2.v<18446744073709551616
def ayo{u:Unit}(h:bg e= .ok u):e=0:=by
 unfold bg at h;grind
def ayp(h:gh r){n:Nat}(d:n<=2048)(b: ∀x∈l,1<=x.2/\x.1+x.2<=64)(c:aI l<=64):gh {r with runs:=l,len:=n}:=⟨h.up,h.di,d,h.cells,b,c⟩
def ME{b:Bool}{u:Unit}(h:ask b e= .ok u):b=true:=by
 unfold ask at h;grind
def ayq{r:aC}{n:Nat}(h:qw (l++[r]) n=true):1<=r.2/\r.1+r.2<=64:=by
 unfold qw at h;rw[LH]at h;simp only[ag9]at h;cases hm:nd [] l with
 |none=>grind
 |some m=>
  rw[hm]at h;unfold nd at h;cases b:gM m r with
  |none=>grind
  |some a=>
   unfold gM at b;split at b
   ·rename_i c;unfold j5 at c
    grind
   grind
def GN{h t:Nat}(b:bm x.s)(c:h<4294967296)(e:mG x h t= .ok y):bm y.s/\y.back=x.back:=by
 obtain⟨_,_,e⟩:=aJ e;cases e;exact⟨b.uX (b.O.gM c),rfl⟩
def U7{h:Nat}(b:bm x.s)(c:gh r)(e:ng x h r= .ok y):bm y.s/\y.back=x.back:=by
 obtain⟨_,_,e⟩:=aJ e;cases e;exact⟨b.wy (b.fa.set c),rfl⟩
def U8{h:Nat}(b:bm x.s)(e:uA x h= .ok y):bm y.s/\y.back=x.back:=by
 obtain⟨_,_,e⟩:=aJ e;cases e;exact⟨b.wy (b.fa.cut h),rfl⟩
section
variable{x:au}(hx:ns x){a:au×bA}
include hx
theorem ayr(h:nZ x= .ok a):RO x a:=by
 unfold nZ at h;have b: (gN x.s.T x.c.r (min x.c.a 65)).2.1<4294967296:=aiS hx.s.T.b;have c:bm (x.t (gN x.s.T x.c.r (min x.c.a 65)).1).s:=hx.s.wy (hx.s.fa.new _ _ hx.c.r);by_cases d:x.c.r=0
 ·simp only[d,ne_eq,not_true,ai5,ag6]at h;obtain⟨_,_,h⟩:=aJ h;obtain⟨y,e,h⟩:=aJ h;cases h;rw[d]at b c;obtain⟨g,f⟩:=GN c b e;exact⟨g,f,b,by show 0<18446744073709551616;omega⟩
 ·simp only[d,ne_eq,aBe,ai5,ag6]at h;obtain⟨_,_,h⟩:=aJ h;obtain⟨_,_,h⟩:=aJ h;obtain⟨y,e,h⟩:=aJ h;cases e;cases h;exact⟨c,rfl,b,by show 0<18446744073709551616;omega⟩
theorem ald{w:Nat}(h:qy x w= .ok a):RO x a/\a.2=bL:=by
 obtain⟨_,_,h⟩:=aJ h;obtain⟨_,_,h⟩:=aJ h;obtain⟨_,_,h⟩:=aJ h;obtain⟨_,_,h⟩:=aJ h;cases h;exact⟨⟨hx.s,rfl,by show 0<4294967296;omega,by show 0<18446744073709551616;omega⟩,rfl⟩
theorem ays(h:uB x= .ok a):RO x a:=by
 obtain⟨_,_,h⟩:=aJ h;obtain⟨_,_,h⟩:=aJ h;obtain⟨y,e,h⟩:=aJ h;obtain⟨z,g,h⟩:=aJ h;cases h;obtain⟨f,d⟩:=U8 hx.s e;obtain⟨c,b⟩:=GN f hx.c.r g;exact⟨c,b.trans d,by show 0<4294967296;omega,by show 0<18446744073709551616;omega⟩
theorem ayt(h:uD x= .ok a):RO x a:=by
 obtain⟨_,_,h⟩:=aJ h;obtain⟨_,_,h⟩:=aJ h;obtain⟨_,_,h⟩:=aJ h;cases h;exact⟨hx.s.wy (hx.s.fa.aut _ _ hx.c.s),rfl,by show 0<4294967296;omega,by show 0<18446744073709551616;omega⟩
theorem ayu(h:uE x= .ok a):RO x a:=by
 obtain⟨_,_,h⟩:=aJ h;obtain⟨y,e,h⟩:=aJ h;obtain⟨_,_,h⟩:=aJ h;cases h;obtain⟨b,c⟩:=U8 hx.s e;exact⟨b.uX (b.O.freeze hx.c.r),c,by show 0<4294967296;omega,by show 0<18446744073709551616;omega⟩
theorem ayv(h:rT x= .ok a):RO x a:=by
 obtain⟨_,_,h⟩:=aJ h;obtain⟨_,_,h⟩:=aJ h;obtain⟨_,_,h⟩:=aJ h;cases h;exact⟨hx.s.uX (hx.s.O.held hx.c.r),rfl,by show 0<4294967296;omega,by show 0<18446744073709551616;omega⟩
theorem ayw(b: ∀t,(lR x.s.K t).2.1<4294967296)(h:oZ x= .ok a):RO x a:=by
 unfold oZ at h;obtain⟨_,_,h⟩:=aJ h;obtain⟨_,_,h⟩:=aJ h;obtain⟨_,_,h⟩:=aJ h
 try rfl
 have d:=hx.t;have c:uU ⟨x.c.r,x.aa % 256,x.c.a % 256,decide (x.c.b=1),x.c.s⟩:=⟨hx.c.r,aoc _ (by omega),aoc _ (by omega),hx.c.s⟩;split at h
 ·obtain⟨_,_,h⟩:=aJ h;obtain⟨_,_,h⟩:=aJ h;cases h;exact⟨hx.s.Aq (hx.s.tok.aiN c),rfl,b _,by show 0<18446744073709551616;omega⟩
 ·obtain⟨_,_,h⟩:=aJ h;obtain⟨_,_,h⟩:=aJ h;obtain⟨_,_,h⟩:=aJ h;cases h;exact⟨hx.s.Aq (hx.s.tok.aiN c),rfl,b _,by show 0<18446744073709551616;omega⟩
theorem ayx(h:uG x= .ok a):RO x a:=by
 obtain⟨_,_,h⟩:=aJ h;obtain⟨_,_,h⟩:=aJ h;cases h;exact⟨hx.s.Aq (hx.s.tok.ret _),rfl,by show 0<4294967296;omega,by show 0<18446744073709551616;omega⟩
theorem ayy(h:uH x= .ok a):RO x a:=by
 obtain⟨_,_,h⟩:=aJ h;cases h;exact⟨hx.s.Ar (hx.s.bx _).close,rfl,by show 0<4294967296;omega,by show 0<18446744073709551616;omega⟩
theorem ayz(h:qz x= .ok a):RO x a:=by
 obtain⟨_,_,h⟩:=aJ h;cases h;exact⟨hx.s.L1,rfl,by show 0<4294967296;omega,by show 0<18446744073709551616;omega⟩
theorem ayA(h:ni x= .ok a):RO x a:=by
 unfold ni at h;obtain⟨c,hm⟩:=(hx.s.bx x.aa).take;have b:bm (x.bx x.aa (mD (x.s.de x.aa)).1).s:=hx.s.Ar c
 try dsimp only at h
 obtain⟨_,_,h⟩:=aJ h;split at h
 ·obtain⟨y,e,h⟩:=aJ h;cases h;obtain⟨f,d⟩:=GN b hm.aO e;exact⟨f,d,hm.aO,hm.word⟩
 ·obtain⟨y,e,h⟩:=aJ h;cases e;cases h;exact⟨b,rfl,hm.aO,hm.word⟩
theorem ayB(e:x.run.1<=64/\x.run.2<=64)(h:ic x= .ok a):RO x a:=by
 unfold ic at h
 try dsimp only at h
 have d:=hx.s.T.get x.c.r;cases m:nh (min x.c.a 129) (min x.c.b 9)with
 |none=>rw[m]at h;cases h
 |some n=>
  rw[m]at h;obtain⟨_,e1,h⟩:=aJ h;cases e1;obtain⟨_,_,h⟩:=aJ h;obtain⟨_,_,h⟩:=aJ h;split at h
  ·rename_i k u;obtain⟨z,l,h⟩:=aJ h;cases h;have b:k+min x.c.a 129<=2048:=by
    have:=CO u;have:=d.aI;omega
   obtain⟨j,i⟩:=U7 (r:={(aG x.s.T x.c.r).1 with len:=k+min x.c.a 129}) hx.s ⟨d.up,d.di,b,d.cells,d.runs,d.aI⟩ l;exact⟨j,i,by show 0<4294967296;omega,by show k<18446744073709551616;omega⟩
  ·obtain⟨_,g,h⟩:=aJ h;have g:=ME g
   try dsimp only at h
   split at h
   ·cases h;exact⟨hx.s,rfl,by show 0<4294967296;omega,by show 0<18446744073709551616;omega⟩
   ·obtain⟨_,hm,h⟩:=aJ h;have hm:=ME hm;obtain⟨z,l,h⟩:=aJ h;cases h;simp only[ai8]at g;simp only[ag9,ai8]at hm;have t:=aiT (aG x.s.T x.c.r).1.runs x.run;have o:=d.di;have p:=d.aI;have f:1<=x.run.2/\x.run.1+x.run.2<=64:=ayq hm.2;have b: (match gy ((aG x.s.T x.c.r).1.runs++[x.run]) (aI (aG x.s.T x.c.r).1.runs*32) (min x.c.a 129) (min x.c.b 9)with|some a=>a+min x.c.a 129|none=>aI (aG x.s.T x.c.r).1.runs*32)<=2048:=by
     split
     ·rename_i q;exact ahk (CO q) (by omega)
     ·exact ahk (aml 32 (show _<=64 by omega)) (by decide)
    obtain⟨j,i⟩:=U7 (x:={s:=x.s,aa:=x.aa,c:=x.c,run:=x.run,lT:=n,asks:=x.asks,back:=x.back}) hx.s (ayp d b (λr e=>by
     rcases aev.1 e with e|e
     ·exact d.runs r e
     ·rw[afC.1 e];exact f) (by omega)) l
    refine⟨j,i,by show 0<4294967296;omega,?_⟩;show(gy ((aG x.s.T x.c.r).1.runs++[x.run]) (aI (aG x.s.T x.c.r).1.runs*32) (min x.c.a 129) (min x.c.b 9)).getD 0<_;cases q:gy ((aG x.s.T x.c.r).1.runs++[x.run]) (aI (aG x.s.T x.c.r).1.runs*32) (min x.c.a 129) (min x.c.b 9)with
    |none=>show 0<_;omega
    |some k=>have:=CO q;show k<_;omega
theorem ayC(h:oc x= .ok a):RO x a:=by
 unfold oc at h;obtain⟨_,_,h⟩:=aJ h;have key:eV (mE x.s.T x.c.r (min x.c.a 8) x.c.s (decide ((ca x.s.O x.s.T x.c.s).kind=3))).1:=by
  rw[aiE];split
  ·exact hx.s.fa.set ((hx.s.T.get x.c.r).setCells λi=>by
    unfold ar;split
    ·exact hx.c.s
    ·exact(hx.s.T.get x.c.r).cells i)
  ·exact hx.s.fa
 try rfl
 split at h
 ·obtain⟨_,_,h⟩:=aJ h
  try rfl
  obtain⟨_,_,h⟩:=aJ h;cases h;exact⟨hx.s.wy key,rfl,by show 0<4294967296;omega,by show 0<18446744073709551616;omega⟩
 ·try dsimp only at h
  obtain⟨_,_,h⟩:=aJ h;cases h;exact⟨hx.s.wy key,rfl,by show 0<4294967296;omega,by show 0<18446744073709551616;omega⟩
theorem ayD(h:uI x= .ok a):RO x a:=by
 obtain⟨_,_,h⟩:=aJ h;obtain⟨_,_,h⟩:=aJ h;cases h;refine⟨hx.s,rfl,?_,by show 0<18446744073709551616;omega⟩;unfold uz;split
 ·simp
 ·split
  ·simp
  ·dsimp only;split
   ·simp
   ·split
    ·simp
    ·exact(hx.s.T.get x.c.r).cells _
theorem ayE(h:mH x= .ok a):RO x a:=by
 unfold mH at h;obtain⟨_,_,h⟩:=aJ h;obtain⟨_,_,h⟩:=aJ h
 try dsimp only at h
 have j:=hx.t;have hm: ∀b,uV ⟨x.aa % 256,x.c.v,x.c.r,b⟩:=λb=>⟨by grind,hx.c.v,hx.c.r⟩
 have fin: ∀ (y:au) (b:Bool),bm y.s->y.back=x.back->(bg (nf (y.s.de x.c.a) ⟨x.aa % 256,x.c.v,x.c.r,b⟩).2>>=λ_=>(Pure.pure (y.bx x.c.a (nf (y.s.de x.c.a) ⟨x.aa % 256,x.c.v,x.c.r,b⟩).1,bL):R (au×bA)))= .ok a->RO x a:=by
  intro y b d g h;obtain⟨_,_,h⟩:=aJ h;cases h;exact⟨d.Ar ((d.bx _).put (hm b)),g,by show 0<4294967296;omega,by show 0<18446744073709551616;omega⟩
 split at h
 ·obtain⟨_,_,h⟩:=aJ h
  try dsimp only at h
  obtain⟨y,e,h⟩:=aJ h;cases e;refine fin _ _ ?_ ?_ h
  ·split
   ·exact hx.s.uX (hx.s.O.held hx.c.r)
   ·exact hx.s
  ·split<;>rfl
 ·split at h
  ·obtain⟨_,_,h⟩:=aJ h;obtain⟨y,e,h⟩:=aJ h;obtain⟨f,i⟩:=U8 hx.s e
   try dsimp only at h
   obtain⟨_,_,h⟩:=aJ h;obtain⟨z,c,h⟩:=aJ h;cases c;exact fin (y.o (xO y.s.O y.s.T x.c.r).1) _ (f.uX (f.O.fly hx.c.r)) i h
  ·obtain⟨z,c,h⟩:=aJ h;cases c;exact fin _ _ hx.s rfl h
end
structure GI(y:au):Prop where
 s:bm y.s
 fo:Go.Proofs.YteplichagkpciaaGreatDoor.fo y<=2048
 runs: ∀r∈y.back,r.1<=64/\r.2<=64
def GI.len(h:GI y):y.back.length<=4096:=by have:=h.fo;unfold Go.Proofs.YteplichagkpciaaGreatDoor.fo at this;omega
def GI.set{z:au}(h:GI y)(b:bm z.s)(c:z.back=y.back)(d:z.s.T=y.s.T):GI z:=
 ⟨b,by have:=h.fo;unfold Go.Proofs.YteplichagkpciaaGreatDoor.fo at*;grind,by rw[c];exact h.runs⟩
theorem ale: ∀ (l:lN) (y:au),bm y.s->(∀r∈y.back,r.1<=64/\r.2<=64)-> ∀r∈(l.foldl gO y).back,r.1<=64/\r.2<=64
 | [],_,_,h=>h
 |a::l,y,c,h=>ale l (gO y a) (T5 [a] y c) λr b=>by
  rcases aev.1 (show r∈y.back++(aG y.s.T a).1.runs from b)with b|b
  ·grind
  ·have:=(c.T.get a).runs r b;omega
def GI.gone(h:GI y)(a:Nat):GI (gi y a):=⟨Ud h.s a,ahk (Ub h.s a) h.fo,ale _ y h.s h.runs⟩
def GI.iZ{z:au}(h:GI y)(c:a<4294967296)(b:jH y a aa= .ok z):GI z:=by
 obtain⟨_,_,b⟩:=aJ b;have d:GI (y.o (dC y.s.O y.s.T a aa false).1):=h.set (h.s.uX (h.s.O.held c)) rfl rfl;cases b;split
 ·exact d.gone a
 omega
theorem GI.foldlM{β:Type}{P:β->Prop}{f:au->β->R au}(d: ∀y b z,GI y->P b->f y b= .ok z->GI z): ∀ (l:List β) (y z:au),(∀b∈l,P b)->GI y->l.foldlM f y= .ok z->GI z
 | [],y,z,_,h,e=>by cases e;exact h
 |b::l,y,z,g,h,e=>by
  obtain⟨w,e1,j⟩:=aJ (show(f y b>>=λw=>l.foldlM f w)= .ok z from by grind);exact GI.foldlM d l w z (λc i=>g c (afO _ i)) (d y b w h (g b (ahi ..)) e1) j
theorem GI.foldl{β:Type}{f:au->β->au}(c: ∀y b,GI y->GI (f y b)): ∀ (l:List β) (y:au),GI y->GI (l.foldl f y)
 | [],_,h=>h
 |b::l,y,h=>GI.foldl c l (f y b) (c y b h)
def GI.dies(h:GI x)(e:mI x aa= .ok y):GI y:=by
 rw[Uf]at e;obtain⟨w,e1,g⟩:=aJ e;have q:GI (sc x aa):=h.set ((h.s.Ar jb.gone).L1) rfl rfl;have p:GI w:=GI.foldlM (P:=uV) (λy m z b hm e=>by
  unfold Aw at e;split at e
  ·cases e;exact b
  ·split at e
   ·obtain⟨k,j⟩:=GN b.s hm.aO e;obtain⟨_,_,e⟩:=aJ e;cases e;exact b.set k j rfl
   ·cases e;exact b.gone _) _ _ _ (λm hm=>by
    obtain⟨i,_,rfl⟩:=afH.1 hm;exact(h.s.bx aa).ring _) q e1
 unfold Ma at g;have o:=GI.foldl (f:=λy h=>y.k (mB y.s.K h).1) (λy a b=>b.set (b.s.Aq (b.s.tok.ret a)) rfl rfl) (we w.s.K aa) w p;have d:=λl=>GI.foldl (f:=gi) (λy a b=>b.gone a) l _ o
 refine GI.foldlM (P:=λa=>a<4294967296) (λy a z b c e=>b.iZ c e) _ _ _ (λa c=>?_) (d _) g;have n:=(afY.1 c).1;exact fU ((iE (d _).s.T.b).1 n)
def GI.start{s:bD}(d:bm s)(aa:Nat)(c:cq)(run:aC)(n:Nat)(b:Bool):GI ⟨s,aa,c,run,n,b,[]⟩:=by
 refine⟨d,?_,λr e=>by grind⟩;have:=mA s.T.b;show([]:List aC).length+64*(ba s.T.b).length<=2048
 grind
structure RD(c:cq)(a:au×bA):Prop where
 s:bm a.1.s
 len:a.1.back.length<=4096
 runs: ∀r∈a.1.back,r.1<=64/\r.2<=64
 v:c.op=3->a.2.v=0
 w:a.2.w<4294967296
 v2:a.2.v<18446744073709551616
def RO.d{a:au×bA}(h:RO x a)(b:GI x)(d:c.op=3->a.2.v=0):RD c a:=
 ⟨h.s,by rw[h.back];exact b.len,by rw[h.back];exact b.runs,d,h.w,h.v⟩
def GI.d(h:GI y):RD c (y,bL):=⟨h.s,h.len,h.runs,λ_=>rfl,by show 0<4294967296;omega,by show 0<18446744073709551616;omega⟩
def ayF(hx:ns x)(d:GI x){a:au×bA}(h:rR x= .ok a):RD x.c a:=by
 unfold rR at h;obtain⟨_,_,h⟩:=aJ h;obtain⟨_,_,h⟩:=aJ h
 try rfl
 obtain⟨y,e,h⟩:=aJ h;cases h;have b:=hx.s.T.get x.c.r;have c:gh {df with di:=(aG x.s.T x.c.r).1.di}:=⟨by simp[df],b.di,by simp[df],by simp[df],by simp[df],by simp[df,aI]⟩;obtain⟨g,f⟩:=U7 (x:={x with back:=x.back++(aG x.s.T x.c.r).1.runs}) hx.s c e;have i: (aG x.s.T x.c.r).1.runs.length<=64:=ahk (TC λr h=>(b.runs r h).1) b.aI;refine⟨g,?_,?_,λ_=>rfl,by show 0<4294967296;omega,by show 0<18446744073709551616;omega⟩
 ·rw[f];have:=d.fo;unfold fo at this
  grind
 ·rw[f];intro r hm;rcases aev.1 (show r∈x.back++(aG x.s.T x.c.r).1.runs from hm)with hm|hm
  ·exact d.runs r hm
  ·have:=b.runs r hm;omega
def ayG(b:GI x){a:au×bA}(h:rS x= .ok a):RD x.c a:=by
 obtain⟨_,_,h⟩:=aJ h;cases h;exact(b.gone _).d
def ayH(hx:ns x)(b:GI x){a:au×bA}(h:uF x= .ok a):RD x.c a:=by
 obtain⟨_,_,h⟩:=aJ h;obtain⟨y,e,h⟩:=aJ h;cases h;exact(b.iZ hx.c.r e).d
def alf(b:GI x){a:au×bA}{t:Nat}(h: (mI x t>>=λy=>.ok (y,bL))= .ok a):RD x.c a:=by
 obtain⟨y,e,h⟩:=aJ h;cases h;exact(b.dies e).d
def ayI{k:bo}(c:fC k.b){x:Tok}: (lR k x).2.1<4294967296:=by
 unfold lR;split
 ·simp
 ·split
  ·rename_i i b;split
   ·exact FV (rP b).1 (c i).1
   grind
  grind
def ayJ(hx:ns x)(b:GI x)(c:x.run.1<=64/\x.run.2<=64){a:au×bA}(h:ie x= .ok a):RD x.c a:=by
 unfold ie at h;split at h
 all_goals try(rename_i ho;first
  |exact(ayr hx h).d b (λq=>absurd (ho ▸ q) (by decide))
  |exact(ayB hx c h).d b (λq=>absurd (ho ▸ q) (by decide))
  |exact(ald hx h).1.d b (λq=>ahl bA.v (ald hx h).2)
  |exact ayF hx b h
  |exact ayG b h
  |exact ayH hx b h
  |exact alf b h
  |exact(ays hx h).d b (λq=>absurd (ho ▸ q) (by decide))
  |exact(ayt hx h).d b (λq=>absurd (ho ▸ q) (by decide))
  |exact(ayu hx h).d b (λq=>absurd (ho ▸ q) (by decide))
  |exact(ayv hx h).d b (λq=>absurd (ho ▸ q) (by decide))
  |exact(ayw hx (λt=>ayI hx.s.K.b) h).d b (λq=>absurd (ho ▸ q) (by decide))
  |exact(ayx hx h).d b (λq=>absurd (ho ▸ q) (by decide))
  |exact(ayE hx h).d b (λq=>absurd (ho ▸ q) (by decide))
  |exact(ayA hx h).d b (λq=>absurd (ho ▸ q) (by decide))
  |exact(ayy hx h).d b (λq=>absurd (ho ▸ q) (by decide))
  |exact(ayC hx h).d b (λq=>absurd (ho ▸ q) (by decide))
  |exact(ayD hx h).d b (λq=>absurd (ho ▸ q) (by decide))
  |exact(ayz hx h).d b (λq=>absurd (ho ▸ q) (by decide)))
 ·unfold wi at h;obtain⟨_,_,h⟩:=aJ h;exact alf b h
 ·cases h
def alg{s:bD}(d:bm s)(j:iI c){run:aC}(f:run.1<=64/\run.2<=64):si (ds s aa c run) c/\ (ds s aa c run).2.1.v<18446744073709551616:=by
 rw[Uj];cases h:iF ⟨s,aa,c,run,0,false,[]⟩with
 |error e=>
  have:=ayn h;exact⟨⟨d,by simp,λr f=>(by grind),λ_=>by show 0<18446744073709551616;omega,by show 0<4294967296;omega,by grind⟩,by show 0<18446744073709551616;omega⟩
 |ok a=>
  obtain⟨y,r⟩:=a;have he:=Md h;obtain⟨_,g,h⟩:=aJ (show(ask _ _>>=λ_=>ie _)=_ from h);have g:=ME g;have i:aa<8:=by grind
  have b:=ayJ (x:=⟨s,aa,c,run,0,false,[]⟩) ⟨d,i,j,by grind,by grind⟩ (GI.start d ..) f h;exact⟨⟨b.s,b.len,b.runs,λq=>by rw[show r.v=0 from b.v q];decide,b.w,by grind⟩,b.v2⟩
def U9{s:bD}(b:bm s)(e:iI c){run:aC}(d:run.1<=64/\run.2<=64):si (ds s aa c run) c:=(alg b e d).1
structure SK(s:bG)(c0:cq)(n:Nat):Prop where
 S:bm s.x.S
 P:fh s.x.P
 M: ∀i,iJ (s.x.M i)
 Q: ∀k∈s.x.Q,k<2147483648
 len:s.x.Q.length<=n
 c:fS s.c
 run:s.c.run.1<=64/\s.c.run.2<=64
 cc:s.c.c=c0
 w:s.r.w<4294967296
 e:s.r.e<4294967296
 v:s.r.v<18446744073709551616
theorem alh: ∀ (l:lN) (f g:Nat->Nat) (P:cy),fh P->(∀i,g i<256)->fh (l.foldl (λP i=>mK P (f i) (g i)) P)
 | [],_,_,_,a,_=>a
 |i::l,f,g,P,a,b=>alh l f g _ (a.write _ _ (b i)) b
section
variable{s:bG}{c0:cq}{n:Nat}(h:SK s c0 n)
include h
theorem SK.jd:iI c0:=h.cc ▸ h.c.jd
theorem SK.ends{r:bA}(b:r.w<4294967296)(e:r.e<4294967296)(c:r.v<18446744073709551616):SK (o8 s r) c0 (n+64):=by
 refine⟨h.S,h.P,Up h.M _,λk a=>?_,?_,h.c,h.run,h.cc,b,e,c⟩
 ·rcases aev.1 (show k∈s.x.Q++fg s.c.run from a)with a|a
  ·exact h.Q k a
  ·obtain⟨i,d,rfl⟩:=afH.1 a;have:=alI.1 d;have:=h.run;omega
 ·show(o7 _ _).Q.length<=_;rw[akT];have:=h.len;have:=h.run;omega
theorem SK.check(b: ∀a∈uJ s.x.S c0,a<4294967296):SK (jq s).1 c0 (n+64):=by
 have c:=h.len;unfold jq;rw[h.cc];split
 ·exact⟨h.S,h.P,h.M,h.Q,by grind,h.c,h.run,h.cc,h.w,h.e,h.v⟩
 split
 ·exact⟨h.S,h.P,h.M,h.Q,by grind,h.c,h.run,h.cc,h.w,h.e,h.v⟩
 split
 ·refine h.ends (by show 0<_;omega) ?_ (by show 0<_;omega);show o5 s.x.S s.c.aa c0<_;unfold o5;split
  ·omega
  ·exact(U9 h.S h.jd (run:=(0,0)) ⟨by simp,by simp⟩).e
 ·exact⟨h.S,h.P,h.M,h.Q,by grind,⟨h.c.aa,h.c.jd,b,h.c.run,h.c.fw⟩,h.run,h.cc,h.w,h.e,h.v⟩
theorem SK.marks:SK (jr s).1 c0 n:=by
 unfold jr;split
 ·exact h
 ·rename_i a l c;refine⟨h.S,h.P,awc h.M _,h.Q,h.len,?_,?_,?_,h.w,h.e,h.v⟩
  ·show fS (if(iU s.x.M (aL a) s.c.aa).2 then{s.c with aW:=l}else s.c);split
   ·exact⟨h.c.aa,h.c.jd,λb d=>h.c.aW b (by grind),h.c.run,h.c.fw⟩
   ·exact h.c
  ·show(if(iU s.x.M (aL a) s.c.aa).2 then{s.c with aW:=l}else s.c).run.1<=64/\ (if(iU s.x.M (aL a) s.c.aa).2 then{s.c with aW:=l}else s.c).run.2<=64;split
   ·exact h.run
   ·exact h.run
  ·show(if(iU s.x.M (aL a) s.c.aa).2 then{s.c with aW:=l}else s.c).c=c0;split
   ·exact h.cc
   ·exact h.cc
theorem SK.ayK:SK (jI s).1 c0 (n+64):=by
 have d:=h.len;have c:=aka s.x.S s.c.aa s.c.c;unfold jI;dsimp only;split
 ·exact⟨h.S,h.P,h.M,h.Q,by grind,h.c,h.run,h.cc,h.w,h.e,h.v⟩
 have a:=h.P.aj9 (dY s.x.S s.c.aa s.c.c);split
 ·have b:SK {s with x:={s.x with P:=(fW s.x.P (dY s.x.S s.c.aa s.c.c)).1}} c0 n:=⟨h.S,a,h.M,h.Q,h.len,h.c,h.run,h.cc,h.w,h.e,h.v⟩;refine b.ends (by show 0<_;omega) ?_ (by show 0<_;omega);unfold fW
  grind
 ·rename_i he;have:=awO h.P _ (by omega) (Decidable.not_not.1 he);exact⟨h.S,a,h.M,h.Q,by grind,⟨h.c.aa,h.c.jd,h.c.aW,⟨by grind,by show dY _ _ _<_;omega⟩,h.c.fw⟩,⟨by show(fW _ _).2.1<=_;omega,by show dY _ _ _<=_;omega⟩,h.cc,h.w,h.e,h.v⟩
theorem SK.ayL:SK (kQ s).1 c0 n:=by
 unfold kQ;split
 ·exact h
 ·have:=h.run;exact⟨h.S,h.P.clear _,h.M,h.Q,h.len,⟨h.c.aa,h.c.jd,h.c.aW,h.c.run,by grind⟩,h.run,h.cc,h.w,h.e,h.v⟩
theorem SK.fi:SK (Go.Proofs.YteplichagkpciaaGreatDoor.fi s) c0 (n+64):=by
 have c:=h.len;unfold Go.Proofs.YteplichagkpciaaGreatDoor.fi;split
 ·have b:=h.run;refine⟨h.S,h.P,h.M,λk a=>?_,?_,⟨h.c.aa,h.c.jd,h.c.aW,⟨by simp,by simp⟩,h.c.fw⟩,⟨by simp,by simp⟩,h.cc,h.w,h.e,h.v⟩
  ·rcases aev.1 (show k∈s.x.Q++fg s.c.run from a)with a|a
   ·exact h.Q k a
   ·obtain⟨i,d,rfl⟩:=afH.1 a
    grind
  ·show(s.x.Q++fg s.c.run).length<=_;rw[aer];have: (fg s.c.run).length=s.c.run.2:=by simp[fg]
   omega
 ·exact⟨h.S,h.P,h.M,h.Q,by omega,h.c,h.run,h.cc,h.w,h.e,h.v⟩
theorem SK.ayM:SK (rW s) c0 (n+262400):=by
 rw[ako];have a:=h.fi;generalize Go.Proofs.YteplichagkpciaaGreatDoor.fi s=st at a;obtain⟨b,d⟩:=alg a.S a.jd (aa:=st.c.aa) (run:=st.c.run) a.run;unfold Mt;rw[a.cc];dsimp only;split
 ·have:=a.ends b.w b.e d;exact⟨this.S,this.P,this.M,this.Q,by have:=this.len;omega,this.c,this.run,this.cc,this.w,this.e,this.v⟩
 ·have v:=a.len;have q:=b.len;have w:fh (AD st.x.P c0 (iG st.x.S c0).1):=by
   unfold AD;split
   ·exact alh _ _ _ _ a.P λi=>aoc _ (by omega)
   ·exact a.P
  generalize t: ({st.x with S:=(ds st.x.S st.c.aa c0 st.c.run).1,P:=AD st.x.P c0 (iG st.x.S c0).1}:Core)=X;have e:X.Q=st.x.Q:=by grind
  have j:X.M=st.x.M:=by grind
  have g:fh X.P:=by grind
  have f:bm X.S:=by rw[<-t];exact b.S
  obtain⟨o,m,l⟩:=UL (ds st.x.S st.c.aa c0 st.c.run).2.2 X;have k:=CT (ds st.x.S st.c.aa c0 st.c.run).2.2 X λr p=>(b.runs r p).2
  have u:SK {st with x:=(ds st.x.S st.c.aa c0 st.c.run).2.2.foldl ch X,c:={st.c with run:=(0,0)}} c0 (n+262336):=
   ⟨o ▸ f,m ▸ g,by rw[show((ds st.x.S st.c.aa c0 st.c.run).2.2.foldl ch X).M=X.M from l,j];exact a.M,UM _ X b.runs (by rw[e];exact a.Q),by
     rw[e]at k;exact ahk k (by omega),⟨a.c.aa,a.c.jd,a.c.aW,⟨by show 0<_;omega,by show 0<_;omega⟩,a.c.fw⟩,⟨by show 0<=_;omega,by show 0<=_;omega⟩,a.cc,a.w,a.e,a.v⟩
  refine u.ends b.w b.e ?_;show AE _ _ _ _<_;unfold AE;split
  ·exact UH a.P _ _ d _ (akd a.S c0).1
  omega
theorem SK.mono{m:Nat}(a:n<=m):SK s c0 m:=⟨h.S,h.P,h.M,h.Q,by have:=h.len;omega,h.c,h.run,h.cc,h.w,h.e,h.v⟩
end
def ayN(c:eV t){h:Nat}(b:a∈under t h):t.az a=true:=by
 unfold under at b;split at b
 ·rename_i d;exact Co c.ok.b d b
 grind
def ayO{s:bD}(g:bm s): ∀a∈uJ s c,a<4294967296:=by
 have j: ∀h,∀a∈o6 s h,a<4294967296:=λh a d=>by
  unfold o6 at d;split at d
  ·rename_i i;rw[afC.1 d];exact fU i
  ·cases d
 have e: ∀h,∀a∈under s.T h,a<4294967296:=λh a d=>fU (ayN g.fa d)
 intro a d;unfold uJ at d;split at d
 ·exact j _ a d
 split at d
 ·exact e _ a d
 split at d
 ·split at d
  ·cases d
  ·rename_i f;split at d
   ·exact e _ a d
   ·rcases aev.1 d with d|d
    ·exact e _ a d
    ·rw[afC.1 d];refine fU (b:=s.T.b) ?_;simp only[not_or,Bool.not_eq_false]at f;exact f.2
 grind
def ali{x:Core}{c:Call}(a:jO x)(i:fS c)(g:c.run.1<=64/\c.run.2<=64):SK (fE x c) c.c (x.Q.length+262528):=by
 have j:SK ⟨x,c,bL,false⟩ c.c x.Q.length:=⟨a.S,a.P,a.M,a.Q,afA _,i,g,rfl,by show 0<_;omega,by show 0<_;omega,by show 0<_;omega⟩;have f:=j.check (ayO a.S);have e:=f.marks;have d:=e.ayK;have b:=d.ayL;unfold fE;dsimp only;split
 ·exact f.mono (by omega)
 split
 ·exact e.mono (by omega)
 split
 ·exact d.mono (by omega)
 split
 ·exact b.mono (by omega)
 ·exact b.ayM.mono (by omega)
def ayP(h:dG m)(t:Nat): (fE m.ai (m.aB t).c).r.v<18446744073709551616:=(ali h.ai (h.c t) (h.run t)).v
def alj(h:dG m)(e:m.ai.Q.length<2147483648)(t:Nat):ak5 m t/\ (yn m t).ai.Q.length<=m.ai.Q.length+262528:=by
 have a:=ali h.ai (h.c t) (h.run t);have d:SK ⟨m.ai,(m.aB t).c,bL,false⟩ (m.aB t).c.c m.ai.Q.length:=⟨h.ai.S,h.ai.P,h.ai.M,h.ai.Q,afA _,h.c t,h.run t,rfl,by show 0<_;omega,by show 0<_;omega,by show 0<_;omega⟩;have b:=d.fi;have c:=a.len;refine⟨⟨?_,⟨⟨a.S,a.P,a.M,a.Q,by show(fE _ _).x.Q.length<_;omega⟩,λj=>?_,λj=>?_,λj=>?_,h.now,h.ev,λj=>?_⟩,⟨a.w,a.e⟩,?_⟩,c⟩
 ·rw[b.cc];exact U9 b.S (h.c t).jd b.run
 ·show l5 (ar m.aB t _ j).t;unfold ar;split
  ·exact h.t t
  ·exact h.t j
 ·show fS (ar m.aB t _ j).c;unfold ar;split
  ·exact a.c
  ·exact h.c j
 ·show(ar m.aB t _ j).fr<_;unfold ar;split
  ·exact h.fr t
  ·exact h.fr j
 ·show(ar m.aB t _ j).c.run.1<=64/\ (ar m.aB t _ j).c.run.2<=64;unfold ar;split
  ·exact a.run
  ·exact h.run j
 ·rw[a.cc];exact(h.c t).jd.op
def ayQ{t:Task}(h:l5 t){v:Nat}(a:v<18446744073709551616): ∀j,ar t.aW i v j<18446744073709551616:=λj=>by
 unfold ar;split
 ·omega
 ·exact h.aW j
def ayR{t:Task}(h:l5 t):l5 (qB t):=by
 unfold qB;split
 ·exact h
 split
 ·exact h
 ·rename_i x c;have e:t.next<t.code.length:=(adg.1 c).1;have f:=h.len;have b:=GF h c;have a: ∀v,v<18446744073709551616->l5 {t with aW:=ar t.aW (x.a % 8) v,next:=t.next+1}:=λv d=>
   ⟨h.len,h.ins,by show t.next+1<=64;omega,ayQ h d⟩
  dsimp only;split
  ·exact a _ (by have:=b.n;omega)
  split
  ·exact a _ (aoc _ (by decide))
  split
  ·exact a _ (aoc _ (by decide))
  split
  ·exact a _ (aoc _ (by decide))
  split
  ·rename_i i;refine⟨h.len,h.ins,?_,h.aW⟩;show x.n<=64;exact b.j (.inl i)
  split
  ·rename_i g;refine⟨h.len,h.ins,?_,h.aW⟩;have:=b.j (.inr g);show(if _ then x.n else t.next+1)<=64;split
   ·omega
   ·exact ahk e f
  ·exact⟨h.len,h.ins,by show t.next+1<=64;omega,h.aW⟩
def ayS{t:Task}(h:l5 t){r:bA}(c:r.v<18446744073709551616)(b:r.w<4294967296)(f:r.e<4294967296):l5 (uL t r):=by
 unfold uL;split
 ·exact h
 ·rename_i x a;have d:t.next<t.code.length:=(adg.1 a).1;have e:=h.len;split
  ·refine⟨h.len,h.ins,by grind,λj=>?_⟩;show ar (ar (ar t.aW (x.a % 8) r.v) 4 r.w) 7 r.e j<_;unfold ar;split
   ·omega
   ·split
    ·omega
    ·split
     ·omega
     ·exact h.aW j
  omega
structure sk(m:aV):Prop where
 ok:dG m
 q:m.ai.Q.length<=263200*m.now
 e:m.cU.length<=m.now
def dG.C3(h:dG m){n:Nat}(a:n<2147483648):dG {m with now:=n}:=⟨h.ai,h.t,h.c,h.fr,a,h.ev,h.run⟩
def dG.ended(h:dG m){t:Nat}{c:Call}{run:aC}{r:bA}(b:r.v<18446744073709551616)(a:r.w<4294967296)(d:r.e<4294967296)(e:m.cU.length<2147483647):dG (Ln m t c run r):=by
 refine⟨h.ai,λj=>?_,λj=>?_,λj=>?_,h.now,?_,λj=>?_⟩
 ·show l5 (ar m.aB t _ j).t;unfold ar;split
  ·exact ayS (h.t t) b a d
  ·exact h.t j
 ·show fS (ar m.aB t _ j).c;unfold ar;split
  ·exact CZ
  ·exact h.c j
 ·show(ar m.aB t _ j).fr<_;unfold ar;split
  ·exact h.fr t
  ·exact h.fr j
 ·show(m.cU++[_]).length<_
  grind
 ·show(ar m.aB t _ j).c.run.1<=64/\ (ar m.aB t _ j).c.run.2<=64;unfold ar;split
  ·exact⟨by show 0<=64;omega,by show 0<=64;omega⟩
  ·exact h.run j
structure GO(a b:aV):Prop where
 q:b.ai.Q.length<=a.ai.Q.length+262600
 e:b.cU.length<=a.cU.length+1
 n:b.now=a.now
def alk(h:dG m)(c:m.ai.Q.length<2147483648)(b:m.cU.length<2147483647)(t:Nat):dG (uN m t)/\GO m (uN m t):=by
 obtain⟨a,d⟩:=alj h c t;rw[akX];split
 ·refine⟨a.m'.ended (ayP h t) a.r.1 a.r.2 b,by show(yn m t).ai.Q.length<=_;omega,?_,rfl⟩;show(m.cU++[_]).length<=_
  grind
 ·exact⟨a.m',by omega,by show m.cU.length<=_;omega,rfl⟩
def alm(h:dG m)(c:m.ai.Q.length<2147483648)(b:m.cU.length<2147483647){t:Nat}(d:t<8):dG (wj m t)/\GO m (wj m t):=by
 unfold wj;dsimp only;split
 ·exact alk h c b t
 split
 ·obtain⟨e,a⟩:=alk (m:=GM m t) (h.wanted d) c b t;exact⟨e,a.q,a.e,a.n⟩
 ·refine⟨⟨h.ai,λj=>?_,λj=>?_,λj=>?_,h.now,h.ev,λj=>?_⟩,by simp,by simp,rfl⟩
  ·show l5 (ar m.aB t _ j).t;unfold ar;split
   ·exact ayR (h.t t)
   ·exact h.t j
  ·show fS (ar m.aB t _ j).c;unfold ar;split
   ·exact h.c t
   ·exact h.c j
  ·show(ar m.aB t _ j).fr<_;unfold ar;split
   ·exact h.fr t
   ·exact h.fr j
  ·show(ar m.aB t _ j).c.run.1<=64/\ (ar m.aB t _ j).c.run.2<=64;unfold ar;split
   ·exact h.run t
   ·exact h.run j
def ayT:iI fN:=⟨by decide,by decide,by decide,by decide,by decide,by decide⟩
def aln(h:dG m)(t:Nat):si (ds m.ai.S t fN (0,0)) fN:=U9 h.ai.S ayT ⟨by simp,by simp⟩
def alo(h:dG m)(g:m.ai.Q.length<2147483648)(f:m.cU.length<2147483647)(t:Nat):dG (xU m t)/\GO m (xU m t):=by
 have b:=aln h t;have d:=CT (ds m.ai.S t fN (0,0)).2.2 m.ai λr c=>(b.runs r c).2
 have e:=b.len;have a:=jO.akm (x:=m.ai) h.ai b.runs (by omega);refine⟨⟨⟨b.S,a.P,a.M,a.Q,a.Ql⟩,h.t,h.c,h.fr,h.now,?_,h.run⟩,?_,?_,rfl⟩
 ·show(m.cU++[_]).length<_
  grind
 ·exact ahk d (by omega)
 ·show(m.cU++[_]).length<=_
  grind
def ayU(h:dG m)(a:m.ai.Q.length<1073741824):dG (mO m)/\ (mO m).ai.Q.length<=m.ai.Q.length+512:=by
 obtain⟨c,b⟩:=U0 h a 8 (by omega);exact⟨c,b⟩
def alp(m:aV)(i:Nat): (mN m i).cU=m.cU/\ (mN m i).now=m.now:=by unfold mN;grind
theorem MF(m:aV): ∀k,(hH m k).cU=m.cU/\ (hH m k).now=m.now
 |0=>⟨rfl,rfl⟩
 |k+1=>by rw[MA];exact⟨(alp _ _).1.trans (MF m k).1,(alp _ _).2.trans (MF m k).2⟩
def alq{x:Core}(h:jO x):jO (iV x).1/\ (iV x).1.Q.length<=x.Q.length:=by
 unfold iV;split
 ·grind
 ·rename_i a l c;exact⟨⟨h.S,h.P.back _,h.M,λk b=>h.Q k (by grind),by have:=h.Ql;grind⟩,by grind⟩
def sk.clear{a:aV}(h:sk a)(e:dG m)(b:GO a {m with now:=a.now})(g:m.now=a.now+1)(i:a.now<=4000):sk (mO m):=by
 have o:m.ai.Q.length<=a.ai.Q.length+262600:=b.q;have n:m.cU.length<=a.cU.length+1:=b.e;have l:=h.q;have k:=h.e;obtain⟨f,j⟩:=ayU e (by omega);obtain⟨d,c⟩:=MF m 8;have d: (mO m).cU=m.cU:=d;have c: (mO m).now=m.now:=c;exact⟨f,by omega,by grind⟩
def ayV(h:sk m)(e:m.now<=4000)(b:Nat):sk (j7 m b).1/\ (j7 m b).1.now<=m.now+1:=by
 have g:=h.q;have he:=h.e;have c:=(h.ok.C3 (n:=m.now+1) (by omega));have key: ∀m':aV,dG m'->GO m {m' with now:=m.now}->m'.now=m.now+1->sk (mO m')/\ (mO m').now<=m.now+1:=λm' d a f=>
  ⟨h.clear d a f e,by have: (mO m').now=m'.now:=(MF m' 8).2;omega⟩
 unfold j7;dsimp only;split
 ·grind
 split
 ·split
  ·obtain⟨d,a⟩:=alq h.ok.ai;exact key _ ⟨d,h.ok.t,h.ok.c,h.ok.fr,by show m.now+1<_;omega,h.ok.ev,h.ok.run⟩ ⟨by show(iV m.ai).1.Q.length<=_;omega,by show m.cU.length<=_;omega,rfl⟩ rfl
  grind
 split
 ·exact⟨h,Nat.le_succ m.now⟩
 split
 ·obtain⟨d,a⟩:=alo c (by show m.ai.Q.length<_;omega) (by show m.cU.length<_;omega) (b % 8);exact key _ d ⟨a.q,a.e,rfl⟩ a.n
 ·obtain⟨d,a⟩:=alm c (by show m.ai.Q.length<_;omega) (by show m.cU.length<_;omega) (aoc b (by decide));exact key _ d ⟨a.q,a.e,rfl⟩ a.n
def bJ.C3{n:Nat}{H:List ae}(h:bJ n M p q m qv ev aE aP H)(k:Nat):
 bJ n M p q {m with now:=k} qv ev aE aP (H.set M (.box (cH {m with now:=k} p aE aP ev) none)):=h.set rfl rfl h.cv h.rv
def alr{n:Nat}{H:List ae}(hD: ∀op,pC op)(d:bJ n M p q m qv ev aE aP H)(l:sk m)(hn:m.now<=4000)(b:Nat)(hb:b<256)(lo:oN):
  ∃J,D XC (.fn (.func 30) [] []) [.ptr M 0,.int .u8 b] ⟨H,lo⟩=some J/\hE n M p q H lo (j7 m b).1 qv ev (.int .i64 (j7 m b).2) J:=by
 refine cE uo λN t=>?_
 have GL:M<N:=by rw[<-t];exact d.lt
 have pA:p<N:=by rw[<-t];exact d.co.lt
 have U5:=d.nM;have hq:=l.q;have he:=l.e;have Y:b % 8<8:=aoc _ (by decide);have e: (b:Int).tmod 8=((b % 8:Nat):Int):=by rw[Int.tmod_eq_emod_of_nonneg (by omega)];omega
 have i:IntKind.i64.wrap ((b % 8:Nat):Int)=((b % 8:Nat):Int):=wrap_i64 (by omega) (by omega);have A:IntKind.i64.wrap ((m.now:Int)+1)=((m.now+1:Nat):Int):=wrap_i64 (by omega) (by omega);have g:=l.ok.C3 (n:=m.now+1) (by omega);have hA:=d.C3 (m.now+1);have hF:=d.fM (.box (cH {m with now:=m.now+1} p aE aP ev) none);have f:dy EK.ptr (AV.ptr M 0) AV.eB=some false:=rfl;have o:aM (cH m p aE aP ev) 193 [.int .i64 ((m.now:Int)+1)]=cH {m with now:=m.now+1} p aE aP ev:=akO (n:=m.now+1);unfold j7;dsimp only;by_cases k1:8<b/\b<16\/24<=b
 ·rw[adY k1];have g1: (8:Int)<b:=by omega
  by_cases k2:b<16
  ·have g2: (b:Int)<16:=by omega
   simp only[go_sem,simprocAttr,uo,e,i,f,g1,g2];exact hE.fin d t d Fm.refl (fL.no ⟨rfl,rfl⟩) (aeu _)
  ·have g2: ¬(b:Int)<16:=by omega
   have I: (24:Int)<=b:=by omega
   simp only[go_sem,simprocAttr,uo,e,i,f,g1,g2,I];exact hE.fin d t d Fm.refl (fL.no ⟨rfl,rfl⟩) (aeu _)
 rw[adU k1];have I: ¬(24:Int)<=b:=by omega
 have E: ∀ (m':aV) (y C:AV) (ow s:Nat->AV) (W:List ae) (aj:oN),dG m'->m'.ai.Q.length<1073741824->bJ n M p q m' y C ow s W->Fm n [M,p,q] H W->fL (y=qv/\C=ev) p aj->
   ∃v w c,D XC (.fn (.func 63) [] []) [.ptr M 0] ⟨W,aj⟩=some (.ret v ⟨w,c⟩)/\hE n M p q H lo (mO m') qv ev (.int .i64 0) (.ret (finish N lo (.int .i64 0) ⟨w,c⟩).1 (finish N lo (.int .i64 0) ⟨w,c⟩).2):=by
  intro m' y C ow s W aj h1 h2 h3 h4 h5;obtain⟨J,G,x,P,u,r,w,c,rfl,F,c3,c4⟩:=axF h3 h1 h2 aj;exact⟨_,w,c,G,hE.fin d t F (h4.trans c3) (h5.step c4 λa b=>⟨b.1.trans a.1,b.2.trans a.2⟩) (aeu _)⟩
 by_cases k8:b=8
 ·rw[adY k8];have g1: ¬(8:Int)<b:=by omega
  have B: (b:Int)=8:=by omega
  obtain⟨J,Q,x,W,c,rfl,r2,U,r4⟩:=awN d.co l.ok.ai none;have k:=d.ai r2 U;obtain⟨T,ro2⟩:=alq l.ok.ai;cases L: (iV m.ai).2 with
  |false=>
   rw[L]at Q;rw[adU (by decide)];have e1: ({m with ai:=(iV m.ai).1}:aV)=m:=by
    have: (iV m.ai).1=m.ai:=by
     unfold iV at L⊢;split
     ·rfl
     ·rename_i h;rw[h]at L;cases L
    rw[this]
   rw[e1]at k;simp only[go_sem,simprocAttr,uo,f,B,d.box,sj,Q];exact hE.fin d t k (bJ.fc U) ((gA.n r4).imp (λq=>⟨q.1,q.2,rfl⟩) id) (aeu _)
  |true=>
   rw[L]at Q;rw[adY rfl];have MC:=k.C3 (m.now+1);have hF3:=(bJ.fc (M:=M) U).trans (k.fM (.box (cH {{m with ai:=(iV m.ai).1}with now:=m.now+1} p aE aP ev) none));obtain⟨v,w,K,G,F⟩:=E {m with ai:=(iV m.ai).1,now:=m.now+1} _ _ _ _ _ c ⟨T,l.ok.t,l.ok.c,l.ok.fr,by show m.now+1<_;omega,l.ok.ev,l.ok.run⟩ (by show(iV m.ai).1.Q.length<_;omega) MC hF3 ((gA.n r4).imp (λq=>⟨q.1,q.2,rfl⟩) id);have hb2:=k.box;have o:aM (cH {m with ai:=(iV m.ai).1} p aE aP ev) 193 [.int .i64 ((m.now:Int)+1)]=cH {m with ai:=(iV m.ai).1,now:=m.now+1} p aE aP ev:=akO (m:={m with ai:=(iV m.ai).1}) (n:=m.now+1);have Z:=CX (m:={m with ai:=(iV m.ai).1}) (p:=p) (aE:=aE) (aP:=aP) (ev:=ev);simp only[go_sem,simprocAttr,uo,f,B,d.box,sj,Q,hb2,Z,A,o,pJ,G];exact F
 rw[adU k8];have B: ¬(b:Int)=8:=by omega
 have j:=λlo=>akR d (b % 8) lo
 cases O:Ct m (b % 8)with
 |false=>
  rw[O]at j;rw[adY rfl];by_cases z:16<=b
  ·have g1: (8:Int)<b:=by omega
   have g2: ¬(b:Int)<16:=by omega
   simp only[go_sem,simprocAttr,uo,e,i,f,g1,g2,I,B,j];exact hE.fin d t d Fm.refl (fL.no ⟨rfl,rfl⟩) (aeu _)
  ·have g1: ¬(8:Int)<b:=by omega
   simp only[go_sem,simprocAttr,uo,e,i,f,g1,I,B,j];exact hE.fin d t d Fm.refl (fL.no ⟨rfl,rfl⟩) (aeu _)
 |true=>
  rw[O]at j;rw[adU (by decide)];by_cases z:16<=b
  ·rw[adY z];have g1: (8:Int)<b:=by omega
   have g2: ¬(b:Int)<16:=by omega
   have g5: (16:Int)<=b:=by omega
   obtain⟨J,s1,x,P,u,r,W,c,rfl,s2,S,R⟩:=axQ hD hA g (b % 8) Y (by show m.ai.Q.length<_;omega) (aln g _) none;obtain⟨X,V⟩:=alo g (by show m.ai.Q.length<_;omega) (by show m.cU.length<_;omega) (b % 8);have o3:_<=m.ai.Q.length+262600:=V.q;obtain⟨v,w,K,G,F⟩:=E _ _ _ _ _ _ c X (by omega) s2 (hF.trans S) (gA.n R);simp only[go_sem,simprocAttr,uo,e,i,f,g1,g2,I,B,g5,j,d.box,CX,A,o,pJ,s1,G];exact F
  ·rw[adU z];have g1: ¬(8:Int)<b:=by omega
   have g5: ¬(16:Int)<=b:=by omega
   obtain⟨J,s1,x,P,u,r,W,c,rfl,s2,S,R⟩:=axO hD hA g (b % 8) Y (by show m.ai.Q.length<_;omega) (λm h1 h2=>(alj h1 h2 _).1) none;obtain⟨X,V⟩:=alm g (by show m.ai.Q.length<_;omega) (by show m.cU.length<_;omega) Y;have o3:_<=m.ai.Q.length+262600:=V.q;obtain⟨v,w,K,G,F⟩:=E _ _ _ _ _ _ c X (by omega) s2 (hF.trans S) (gA.n R);simp only[go_sem,simprocAttr,uo,e,i,f,g1,I,B,g5,j,d.box,CX,A,o,pJ,s1,G];exact F
def yo:bD:={mP with alive:=λ_=>false,born:=λ_=>false}
theorem ayY:nE=bw yo:=rfl
def ayZ(H:List ae)(lo:oN):D X0 (.fn (.func 52) [] []) [] ⟨H,lo⟩=some (.ret (.agg (bw mP)) ⟨H,lo⟩):=by
 refine aH P6 λN a=>?_
 have d:=agt (s:=yo) (i:=0) (v:=true) (by omega);have c:=agu (s:={yo with alive:=ar yo.alive 0 true}) (i:=0) (v:=true) (by omega);have b: ({yo with alive:=ar yo.alive 0 true,born:=ar yo.born 0 true}:bD)=mP:=by rfl
 simp only[F1,go_sem,simprocAttr,P6,a,ayY,d,c,b,ep,oW,Me,Ul]
def ay0(n:Nat)(h:1<=n/\n<=64)(H:List ae)(lo:oN):D X0 (.fn (.func 137) [] []) [.int .i64 n] ⟨H,lo⟩=some (.ret (.agg [.sl [[.int .i64 0,.int .i64 n]] true]) ⟨H,lo⟩):=by
 refine aH QJ λN a=>?_
 have e: ¬(n:Int)<1:=by omega
 have d:min (n:Int) 64=n:=by omega
 have c:b9 [[AV.int IntKind.i64 0,AV.int IntKind.i64 n]]<=N+1:=aeu _;have b:b9 [[AV.int IntKind.i64 0,AV.int IntKind.i64 n]]<=N:=aeu _;simp only[F1,go_sem,simprocAttr,QJ,a,e,d,c,b]
def GP:cy:=⟨0,[],λ_ _=>0,true⟩
def vk(n:Nat):cy:=⟨n,[(0,n)],λ_ _=>0,true⟩
theorem als{v:AV}: ∀n,ji n [v]=List.replicate n v
 |0=>rfl
 |n+1=>by show[v]++ji n [v]=_;rw[als n];rfl
theorem alu{v:AV}{m:Nat}: ∀n,arr n (λ_=>List.replicate m v)=List.replicate (n*m) v
 |0=>by rw[Nat.zero_mul];rfl
 |n+1=>by rw[zU,alu n,aBj,ap2]
theorem ay1:qL (λ_=>0)=List.replicate 32 (AV.int .u8 0):=rfl
def ay2:aen=b8 GP:=by
 show[AV.int .i64 0,.aq]++ji 2048 [AV.int .u8 0]=[AV.int .i64 0,.aq]++arr 64 λ_=>qL λ_=>0
 rw[als,ay1,alu]
theorem aDH:b8 GP=AV.int .i64 0:: .aq::arr 64 λ_=>qL λ_=>0:=rfl
theorem aDI{n:Nat}:b8 (vk n)=AV.int .i64 n:: .sl [[.int .i64 0,.int .i64 n]] true::arr 64 λ_=>qL λ_=>0:=rfl
def alv{N id o:Nat}{k:IntKind}{a:Int}{H:List ae}(h:N<=id):finish N lo (.aw [.ptr id o,.int k a]) ⟨H,none⟩=(.aw [.ptr id o,.int k a],⟨H,lo⟩):=by
 have b: ¬(AV.aw [.ptr id o,.int k a]).refs<=N:=by simp only[AV.refs,aK];omega
 refine adk b ?_;rw[Is,adU b,iL,O2 h]
def ay3{N id o:Nat}{k:IntKind}{a:Int}{H:List ae}(h:N<=id):finish N lo (.aw [.ptr id o,.int k a]) ⟨H,some j⟩=(.aw [.ptr id o,.int k a],⟨H,cJ lo j⟩):=by
 have b: ¬(AV.aw [.ptr id o,.int k a]).refs<=N:=by simp only[AV.refs,aK];omega
 rw[DS];split
 ·rw[Is,adU b,iL,O2 h];rfl
 ·rfl
def ay4(n:Nat)(h:1<=n/\n<=64)(N:Nat)(H:List ae)(d:H.length=N)(lo:oN):D X0 (.fn (.func 104) [] []) [.int .i64 n] ⟨H,lo⟩=some (.ret (.aw [.ptr N 0,.int .i64 0]) ⟨H++[.box (b8 (vk n)) none],lo⟩):=by
 refine aH Qq λM g=>?_
 have f: ¬(n:Int)<1:=by omega
 have e: ¬(64:Int)<n:=by omega
 have b:=λH lo=>ay0 n h H lo
 have c:1<=(b8 GP).length:=by rw[yg];omega
 have a:1<=(List.drop 1 (b8 GP)).length:=by rw[amy,yg];omega
 have he:AV.int .i64 n::AV.sl [[.int .i64 0,.int .i64 n]] true::List.drop 1 (List.drop 1 (b8 GP))=b8 (vk n):=by rfl
 simp only[go_sem,simprocAttr,Qq,d,f,e,b,ay2,c,a,he];rw[alv (by omega)]
theorem GQ:jS=bw yo++([.eB]++(cZ (λ_=>xS)++[.aq])):=rfl
def ay5(n:Nat)(h:1<=n/\n<=64)(N:Nat)(H:List ae)(e:H.length=N)(lo:oN):D X0 (.fn (.func 67) [] []) [.int .i64 n] ⟨H,lo⟩=some (.ret (.aw [.ptr (N+1) 0,.int .i64 0]) ⟨H++[.box (b8 (vk n)) none,.box (bp ⟨mP,vk n,λ_=>xS,[]⟩ N .aq) none],lo⟩):=by
 refine aH Qa λM j=>?_
 obtain rfl:M=N:=by omega
 have f:=λlo=>ay4 n h M H e lo
 have i:=λH lo=>ayZ H lo
 have d:List.drop 952 jS=[.eB]++(cZ (λ_=>xS)++[.aq]):=by rw[GQ];exact List.drop_left' (ep _)
 have g:jS.length=1274:=by rw[GQ,aer,ep,aer,aer,eh];rfl
 have a:aM (bw mP++List.drop 952 jS) 952 [.ptr M 0]=bp ⟨mP,vk n,λ_=>xS,[]⟩ M .aq:=by
  rw[d,gX (by rw[ep];omega),ep];rfl
 have c:953<=952+(List.drop 952 jS).length:=by rw[d];simp[eh]
 have b:952<=jS.length:=by rw[g];omega
 simp only[go_sem,simprocAttr,Qa,e,f,i,ep,b,c,a];rw[alv (by omega)]
theorem alw:IG=[.eB]++(arr 8 (λ_=>yl Cs .aq .aq)++[.int .i64 0,.aq]):=rfl
def fz(n:Nat)(aD:List lB)(k:Nat):aV:=⟨⟨mP,vk n,λ_=>xS,[]⟩,λi=>{Cs with t:={uM with code:=if i<k then((aD[i]?).bind decode).getD []else[]}},0,[]⟩
def ay6(n:Nat)(aD:List lB)(a:lN):fz n aD aD.length=S5 ⟨n,aD,a⟩:=by
 unfold fz S5
 congr 1
 grind
def mU(m:aV)(n N:Nat)(pv kv:AV)(aE:Nat->AV)(H:List ae):List ae:=
 H++[.box [.int .i64 n,pv,kv] none,.box (cH m (N+3) aE (λ_=>.aq) .aq) none,.box (b8 (vk n)) none,.box (bp ⟨mP,vk n,λ_=>xS,[]⟩ (N+2) .aq) none]
def alx{n N:Nat}{H:List ae}(a:H.length=N): (mU m n N pv kv aE H)[N+1]?=some (.box (cH m (N+3) aE (λ_=>.aq) .aq) none):=by
 unfold mU;grind
def ay7{m':aV}{n N:Nat}{ow:Nat->AV}{H:List ae}(a:H.length=N): (mU m n N pv kv aE H).set (N+1) (.box (cH m' (N+3) ow (λ_=>.aq) .aq) none)=mU m' n N pv kv ow H:=by
 unfold mU;simp_all
def ay8{n:Nat}{cv:AV}(c:k<aD.length)(b:k<8):
  aM (cH (fz n aD k) p aE (λ_=>.aq) .aq) (1+k*24) (dn {uM with code:=(decode (aD.getD k default)).getD []} cv)=cH (fz n aD (k+1)) p (ar aE k cv) (λ_=>.aq) .aq:=by
 have g:=GJ (m:=fz n aD k) (p:=p) (aE:=aE) (aP:=λ_=>.aq) (ev:=.aq) (o:=0) (vs:=dn {uM with code:=(decode (aD.getD k default)).getD []} cv) (r:={Cs with t:={uM with code:=(decode (aD.getD k default)).getD []}}) (cv:=cv) (rv:=.aq) b (by rw[yk];omega) rfl;have e:ar (λ_=>AV.aq) k AV.aq=λ_=>AV.aq:=nb (f:=λ_=>AV.aq)
 have d: ({fz n aD k with aB:=ar (fz n aD k).aB k {Cs with t:={uM with code:=(decode (aD.getD k default)).getD []}}}:aV)=fz n aD (k+1):=by
  have a:ar (fz n aD k).aB k {Cs with t:={uM with code:=(decode (aD.getD k default)).getD []}}=(fz n aD (k+1)).aB:=by
   unfold ar fz
   grind
  rw[a];rfl
 grind
def aly{n:Nat}{a:lB}(h:GG n aD a pv kv)(x:og ⟨n,aD,a.map UInt8.toNat⟩=true)(N:Nat)(H:List ae)(r:H.length=N)(lo:oN):
  ∃P,D XC (.fn (.func 33) [] []) [.agg [.int .i64 n,pv,kv]] ⟨H,lo⟩=some P/\ ∃aE aj,P= .ret (.aw [.ptr (N+1) 0,.int .i64 0]) ⟨mU (fz n aD aD.length) n N pv kv aE H,aj⟩/\
   (∀i,Rv (aE i) 5 (((fz n aD aD.length).aB i).t.code.map dm))/\ (aj=lo\/ ∃j,N<=j/\aj=cJ lo j):=by
 obtain⟨w,f,R⟩:1<=n/\n<=64/\aD.length<=8:=by unfold og at x;simp at x;omega
 have b:=λH lo=>c0 (axA h (by omega) H lo)
 rw[x]at b;refine cE PZ λM Z=>?_
 obtain rfl:M=N:=by omega
 have G:=λB lo=>c0 (ay5 n ⟨w,f⟩ (M+2) (H++[.box [.int .i64 n,pv,kv] none,.box B none]) (by simp[r]) lo)
 have c:=h.pr;have s:aM IG 0 [.ptr (M+3) 0]=cH (fz n aD 0) (M+3) (λ_=>.aq) (λ_=>.aq) .aq:=by rw[alw];rfl
 have y:1<=IG.length:=by rw[alw];simp
 have z: ¬M+2<=M:=by omega
 have I:M+2+1=M+3:=rfl;have A:=λE=>c.bS (E:=E)
 simp only[go_sem,simprocAttr,PZ,r,b,G,s,y,z,A,I];refine iq aD.length (λk e W aj=> ∃aE,e 4= .ptr (M+1) 0/\e 22=pv/\e 23= .int .i64 aD.length/\e 24= .int .i64 k/\W=mU (fz n aD k) n M pv kv aE H/\ (∀i,Rv (aE i) 5 (((fz n aD k).aB i).t.code.map dm))/\aj=some (M+1)) 0 (by omega) ?_ ?_
 ·refine⟨λ_=>.aq,?_⟩;simp only[go_sem,simprocAttr];exact⟨rfl,λi=>.aq,rfl⟩
 rintro k Y e W aj ⟨aE,O,q,o,l,rfl,g,rfl⟩ V X;simp only[bX,go_sem,simprocAttr,aeC,O,q,o,l];refine⟨λS=>?_,λS=>?_⟩
 ·have d:k<aD.length:=by omega
  have U:k<8:=by omega
  obtain⟨cv,t1,t2⟩:=axB (aD.getD k default) (mU (fz n aD k) n M pv kv aE H) (some (M+1));have t1:=c0 t1;have F: (0:Int)<=k/\ (k:Int)<8:=by omega
  have T:=alx (m:=fz n aD k) (n:=n) (pv:=pv) (kv:=kv) (aE:=aE) r;have Q:=λm' ow=>ay7 (m:=fz n aD k) (m':=m') (n:=n) (pv:=pv) (kv:=kv) (aE:=aE) (ow:=ow) r
  have u:=ay8 (n:=n) (p:=M+3) (cv:=cv) (aE:=aE) d U;have v:=GB (t:={uM with code:=(decode (aD.getD k default)).getD []}) (cY t2 (bB (λ_=>rfl) _));have C:1+k*24+10<=195:=by omega
  simp(disch:=omega) only[go_sem,simprocAttr,O,q,o,l,c.cp,c.c7,sC,t1,F,T,Q,u,v,C,pJ,yk];refine⟨by omega,by omega,ar aE k cv,rfl,λi=>?_⟩;by_cases L:i=k
  ·subst L;have e:aD.getD i default=aD[i]:=by simp[List.getD,d]
   rw[cF];have J: ((fz n aD (i+1)).aB i).t.code=(decode (aD.getD i default)).getD []:=by
    show(if i<i+1 then((aD[i]?).bind decode).getD []else[])=_;rw[adY (by omega),aep d,e];rfl
   rw[J];exact t2
  ·rw[da L];have J: ((fz n aD (k+1)).aB i).t.code=((fz n aD k).aB i).t.code:=by
    show(if i<k+1 then((aD[i]?).bind decode).getD []else[])=(if i<k then((aD[i]?).bind decode).getD []else[]);by_cases K:i<k
    ·rw[adY K,adY (by omega)]
    ·rw[adU K,adU (by omega)]
   rw[J];exact g i
 ·obtain rfl:k=aD.length:=by omega
  rw[ay3 (by omega)];exact⟨aE,_,rfl,g,.inr ⟨M+1,by omega,rfl⟩⟩
theorem alz: ∀ (s:lB),∀x∈rY s,x.n<65536
 |a::b::c::d::e::f::r,x,h=>by
  rcases ag7.1 h with rfl|h
  ·have:=e.toNat_lt;have:=f.toNat_lt
   grind
  ·exact alz r x h
 | [],x,h=>by cases h
 | [_],x,h=>by cases h
 | [_,_],x,h=>by cases h
 | [_,_,_],x,h=>by cases h
 | [_,_,_,_],x,h=>by cases h
 | [_,_,_,_,_],x,h=>by cases h
def ay9{s:lB}{l:List ee}(h:decode s=some l):l.length<=64/\ ∀x∈l,GA x:=by
 unfold decode at h;split at h
 ·cases h
 split at h
 ·rename_i hm;cases h;unfold qA at hm;simp only[ag9,ai8,afP]at hm;refine⟨hm.1,λx a=>?_⟩;have b:=hm.2 x a;unfold rX at b;simp at b;have c:=alz s x a;exact⟨by omega,by omega,by omega,by omega,c,λd=>by omega⟩
 grind
def alA(h:Nat):az (λ_=>⟨0,false,false⟩) h=false:=by
 unfold az;grind
def aza:bm mP:=by
 have a:fC (λ_=>⟨0,false,false⟩):=λi=>⟨aeu _,λh=>by rfl⟩
 refine⟨⟨⟨a,λi=>Cz⟩,λh=>?_,λi=>?_⟩,⟨λi=>by show 0<4294967296;omega,λi=>TI⟩,⟨⟨a,λi h=>(by cases h),λi=>ahM⟩,λi=>CM _,[],.nil,λh q=>(by cases q),λh q=>?_,.nil,λh q=>(by cases q)⟩,λi=>⟨by show 0<4;omega,by show 0<=4;omega,λj=>TQ⟩⟩
 ·have e:aT mP.T h=[]:=by
    unfold aT eP bI;have:mP.T.az h=false:=alA h
    grind
  grind
 ·exact CM _
 ·rw[show az mP.K.b h=false from alA h]at q;cases q
def azb:iJ xS:=⟨by trivial,by trivial,λi=>by show 0<8;omega,λi j h=>by cases h⟩
def azc{n:Nat}(h:1<=n/\n<=64):fh (vk n):=⟨h.2,⟨List.pairwise_singleton _ _,λx a=>by rw[afC.1 a];omega⟩,λi j=>by show 0<256;omega⟩
def alB{n:Nat}(h:1<=n/\n<=64)(aD:List lB)(k:Nat):sk (fz n aD k):=by
 refine⟨⟨⟨aza,azc h,λi=>azb,λk d=>(by cases d),by show 0<_;omega⟩,λi=>?_,λi=>CZ,λi=>by show 0<_;omega,by show 0<_;omega,by show 0<_;omega,λi=>⟨by show 0<=64;omega,by show 0<=64;omega⟩⟩,by show 0<=_;omega,by show 0<=_;omega⟩;have a: (if i<k then((aD[i]?).bind decode).getD []else[]).length<=64/\ ∀x∈(if i<k then((aD[i]?).bind decode).getD []else[]),GA x:=by
  split
  ·cases c: (aD[i]?).bind decode with
   |none=>simp
   |some l=>
    obtain⟨s,_,b⟩:=anY.1 c;exact ay9 b
  grind
 exact⟨a.1,a.2,by show 0<=64;omega,λj=>by show 0<_;omega⟩
def alC{n N:Nat}{H:List ae}(b:H.length=N)
  (a: ∀i,Rv (aE i) 5 (((fz n aD aD.length).aB i).t.code.map dm)):
  bJ N (N+1) (N+3) (N+2) (fz n aD aD.length) .aq .aq aE (λ_=>.aq) (mU (fz n aD aD.length) n N pv kv aE H):=
 ⟨by omega,by omega,⟨by omega,by omega,by omega,by unfold mU;rw[bE b];rfl,by unfold mU;rw[bE b];rfl,dk.aq⟩,alx b,dk.aq,a,λi=>.aq⟩
def azd{N id o:Nat}{vs:lA}{aj:oN}{H:List ae}(h:N<=id):finish N lo (.aw (.ptr id o::vs)) ⟨H,aj⟩=(.aw (.ptr id o::vs),⟨H,gB lo aj⟩):=by
 have a: ¬(AV.aw (.ptr id o::vs)).refs<=N:=by simp only[AV.refs,aK];omega
 have b: ∀E,Den.freeze E N 12 (.aw (.ptr id o::vs))=none:=λE=>by rw[Is,adU a,iL,O2 h]
 cases aj with
 |none=>rw[Bg,adU a,b]
 |some j=>
  rw[DS,b,adU a]
  grind
def bJ.mono{n:Nat}{H:List ae}(h:bJ n M p q m qv ev aE aP H)(b:a<=n):bJ a M p q m qv ev aE aP H:=
 ⟨by have:=h.nM;omega,h.Mq,⟨by have:=h.co.mp;omega,by have:=h.co.mq;omega,h.co.qp,h.co.box,h.co.fY,h.co.jc⟩,h.box,h.vi,h.cv,h.rv⟩
def GR(e:Nat):lA:=[.int .i64 e]
def bJ.aze{n:Nat}{H W:List ae}{ty:TypeId}(h:bJ n M p q m qv ev aE aP H)(j:ty≠p9\/sz≠1)(g:ty≠qa\/sz≠14)
  (b: ∀ (i:Nat) (o:ae),(∀a d,o≠ae.row a sz ty d)->H[i]?=some o->W[i]?=some o):bJ n M p q m qv ev aE aP W:=by
 have c: ∀cs tg,∀a d,ae.box cs tg≠ .row a sz ty d:=λ_ _ _ _ e=>by cases e
 refine⟨h.nM,h.Mq,⟨h.co.mp,h.co.mq,h.co.qp,b _ _ (c _ _) h.co.box,b _ _ (c _ _) h.co.fY,h.co.jc.oC λid ak all f=>b _ _ (λa d e=>?_) f⟩,b _ _ (c _ _) h.box,h.vi.oC λid ak all f=>b _ _ (λa d e=>?_) f,h.cv,h.rv⟩
 ·grind
 grind
def runK(n:Nat)(aD:List lB)(a:lB)(k:Nat):aV×lN:=
 ((a.take k).map UInt8.toNat).foldl (λp b=>((j7 p.1 b).1,p.2++[(j7 p.1 b).2])) (fz n aD aD.length,[])
def GS{n:Nat}{a:lB}(h:k<a.length):
  runK n aD a (k+1)=((j7 (runK n aD a k).1 (a.getD k default).toNat).1,(runK n aD a k).2++[(j7 (runK n aD a k).1 (a.getD k default).toNat).2]):=by
 have e:a.getD k default=a[k]:=by grind
 unfold runK;rw[afX,aep h,afI,amz,e];rfl
def alD(n:Nat)(aD:List lB)(a:lB):runK n aD a a.length=F2 ⟨n,aD,a.map UInt8.toNat⟩:=by
 unfold runK F2;rw[afK,ay6 n aD (a.map UInt8.toNat)]
theorem GU{n:Nat}(h:1<=n/\n<=64)(aD:List lB){a:lB}(b:a.length<=4000): ∀k,k<=a.length->sk (runK n aD a k).1/\ (runK n aD a k).1.now<=k
 |0,_=>⟨alB h aD _,afA 0⟩
 |k+1,d=>by
  obtain⟨c,g⟩:=GU h aD b k (by omega);obtain⟨f,e⟩:=ayV c (by omega) (a.getD k default).toNat;rw[GS (by omega)]
  grind
theorem alE{n:Nat}{aD:List lB}{a:lB}: ∀k,k<=a.length->(runK n aD a k).2.length=k
 |0,_=>rfl
 |k+1,b=>by rw[GS (by omega)];rw[aer,alE k (by omega)];rfl
def azf{n:Nat}{b:lB}(hD: ∀op,pC op)(h:GG n aD b pv kv)(l:og ⟨n,aD,b.map UInt8.toNat⟩=true)(N:Nat)(H:List ae)(s:H.length=N)(lo:oN):
  ∃z,D XC (.fn (.func 13) [] []) [.agg [.int .i64 n,pv,kv]] ⟨H,lo⟩=some z/\ ∃M p q qv ev aE aP c H' aj,z= .ret (.aw [.ptr M 0,c,.int .i64 0]) ⟨H',aj⟩/\
   bJ N M p q (F2 ⟨n,aD,b.map UInt8.toNat⟩).1 qv ev aE aP H'/\dk N H' c 1 vN ((F2 ⟨n,aD,b.map UInt8.toNat⟩).2.map GR)/\H.length<=H'.length/\ ∀i,i<N->H'[i]?=H[i]?:=by
 obtain⟨F,o,G⟩:1<=n/\n<=64/\b.length<=4000:=by unfold og at l;simp at l;omega
 refine cE PV λM hM=>?_
 obtain rfl:M=N:=by omega
 have C2:=cY h.pr (bB (λ_=>rfl) _);have D0:=cY h.pk (bB (λ_=>rfl) _);obtain⟨z,S,aE,L7,rfl,R,n3⟩:=aly h l (M+1) (H++[.box [.int .i64 n,pv,kv] none]) (by simp[s]) none;have O:M+1+1=M+2:=rfl;have I:=λE=>h.pk.bS (E:=E)
 have g:=alC (N:=M+1) (n:=n) (aD:=aD) (pv:=pv) (kv:=kv) (H:=H++[.box [.int .i64 n,pv,kv] none]) (by simp[s]) R;have T: (mU (fz n aD aD.length) n (M+1) pv kv aE (H++[.box [.int .i64 n,pv,kv] none]))[M]?=some (.box [.int .i64 n,pv,kv] none):=by
  unfold mU;rw[adf (by simp[s]),dB s];rfl
 simp only[go_sem,simprocAttr,PV,s,O,S,T,I];refine iq b.length (λk e W aj=> ∃qv ev aE aP c,e 5= .ptr (M+2) 0/\e 7=c/\e 19=kv/\e 20= .int .i64 b.length/\e 21= .int .i64 k/\bJ (M+1) (M+2) (M+4) (M+3) (runK n aD b k).1 qv ev aE aP W/\dk M W c 1 vN ((runK n aD b k).2.map GR)/\H.length<=W.length/\ ∀i,i<M->W[i]?=H[i]?) 0 (by omega) ?_ ?_
 ·refine⟨.aq,.aq,aE,λ_=>.aq,.aq,?_⟩;simp only[go_sem,simprocAttr];refine⟨g,dk.aq,by unfold mU;simp,λi J=>?_⟩;unfold mU;rw[adf (by simp;omega),adf (by omega)]
 clear g T S R n3 aE;rintro k hk e W aj ⟨qv,ev,aE,aP,c,V,e7,v,u,t,g,U,hl,f⟩ nn hn;simp only[bX,go_sem,simprocAttr,aeB,V,e7,v,u,t];refine⟨λhh=>?_,λhh=>?_⟩
 ·have r:k<b.length:=by omega
  obtain⟨o1,o2⟩:=GU ⟨F,o⟩ aD G k (by omega);have hb:=(b.getD k default).toNat_lt;obtain⟨z,Z,A,Q,w,m,X,C,rfl,Y,x,p4⟩:=alr hD g o1 (by omega) (b.getD k default).toNat hb aj;have K:M<=X.length:=by have:=x.len;omega
  have L:dk M X c 1 vN ((runK n aD b k).2.map GR):=U.oC λid ak all j=>x.box id _ (by
   have h1:=g.box;have h2:=g.co.box;have h3:=g.co.fY;intro l;simp at l;rcases l with rfl|rfl|rfl
   ·rw[h1]at j;cases j
   ·rw[h2]at j;cases j
   ·rw[h3]at j;cases j) (λq=>by
   rcases q with⟨a,d,q⟩| ⟨a,d,q⟩
   ·injection q with _ _ q;cases q
   ·injection q with _ q;cases q) j
  obtain⟨B,W3,g1,g2,g3,g4,g5,g6,g7,g8⟩:=dk.append (bytes:=8) (lo:=C) (y:=GR (j7 (runK n aD b k).1 (b.getD k default).toNat).2) L K (by omega) rfl rfl (by rw[afB,alE k (by omega)];unfold room;omega);have P:=Y.aze (sz:=1) (ty:=vN) (.inl (by decide)) (.inl (by decide)) g5;unfold GR at g1;simp(disch:=omega) only[go_sem,simprocAttr,V,e7,v,u,t,h.pk.cp,h.pk.c7,bC,Z,g1];rw[GS r];refine⟨by omega,r,A,Q,w,m,B,rfl,P,?_,by have:=x.len;omega,λi J=>(g4 i J).trans ((x.low i (by omega)).trans (f i J))⟩;rw[afI];exact g2
 ·obtain rfl:k=b.length:=by omega
  rw[azd (by omega),<-alD];exact⟨M+2,M+4,M+3,qv,ev,aE,aP,c,W,_,rfl,g.mono (by omega),U,by omega,f⟩
def Va{E:AS}(h:Rd E v sz af): (v= .aq/\af=[])\/dy .sl v .aq=some false:=by
 have a:=h.kind;cases v<;>first|exact .inr rfl|grind|skip
 ·exact .inl ⟨rfl,by have:=h.eq;simp[Den.elems]at this;omega⟩
def Vb{l:List α}{g:α->lA}{ty:TypeId}{bytes N:Nat}{H:List ae}(a:H.length=N)(b:0<sz)(i: ∀x,(g x).length=sz)(c: ∀x,aK (g x)=0)(e:l≠[])(d:l.length*bytes<=room):
  dJ ⟨H,none⟩ ty sz bytes (.sl [] true) (l.map g)=some (.ref N 0 sz 0 l.length false,⟨H++[.row 0 sz ty (l.map g)],none⟩)/\finish N lo (.ref N 0 sz 0 l.length false) ⟨H++[.row 0 sz ty (l.map g)],none⟩=(.sl (l.map g) false,⟨H,lo⟩):=by
 have f:0<l.length:=aAQ.2 e;have ha: (l.map g).all (λel=>el.length==sz)=true:=by grind
 have ho:aQ N (H++[.row 0 sz ty (l.map g)]) (.ref N 0 sz 0 l.length false) sz ty (l.map g):=
  ⟨λel h=>by grind,.inr ⟨N,0,afA _,by simp,dB a⟩⟩
 refine⟨?_,?_⟩
 ·simp only[dJ,ha];rw[adY ⟨b,trivial⟩,adU (by rw[afB];omega),adY ⟨by simpa using d,rfl⟩];simp[AS.push,a]
 ·rw[Ga (.inl rfl) ho (by rw[bB c];omega),m5 a];rfl
def azg{l:lN}{H:List ae}(h:Rd ⟨H,none⟩ v 1 (l.map ij))(e:l.length*8<=room)(lo:oN):
  ∃v',D X0 (.fn (.func 55) [] []) [v] ⟨H,lo⟩=some (.ret v' ⟨H,lo⟩)/\Rv v' 1 (l.map ij):=by
 have d:=h.eq;have a:dy EK.sl AV.aq AV.aq=some true:=rfl;have e3:b9 ([]:List lA)=0:=rfl;rcases Va h with⟨rfl,he⟩|he
 ·refine⟨.aq,?_,by rw[he];exact .aq⟩;refine aH zK λN b=>?_
  simp(disch:=omega) only[F1,go_sem,simprocAttr,zK,a]
 ·by_cases c:l=[]
  ·subst c;refine⟨.sl [] true,?_,.sl (λel h=>by cases h)⟩;refine aH zK λN b=>?_
   have e1:dJ ⟨H,none⟩ p9 1 8 (.sl [] true) []=some (.sl [] true,⟨H,none⟩):=rfl;simp(disch:=omega) only[F1,go_sem,simprocAttr,zK,he,d,e1,e3]
  ·refine⟨.sl (l.map ij) false,?_,.sl (λel h=>by obtain⟨x,_,rfl⟩:=afH.1 h;rfl)⟩;refine aH zK λN b=>?_
   obtain⟨e1,f⟩:=Vb (sz:=1) (ty:=p9) (bytes:=8) (lo:=lo) (g:=ij) b (by omega) (λ_=>rfl) (λ_=>rfl) c e;simp only[go_sem,simprocAttr,zK,he,d,e1,f]
def azh{l:lN}{H:List ae}(h:Rd ⟨H,none⟩ v 1 (l.map hC))(e:l.length*4<=room)(lo:oN):
  ∃v',D X0 (.fn (.func 85) [] []) [v] ⟨H,lo⟩=some (.ret v' ⟨H,lo⟩)/\Rv v' 1 (l.map hC):=by
 have d:=h.eq;have a:dy EK.sl AV.aq AV.aq=some true:=rfl;have e3:b9 ([]:List lA)=0:=rfl;rcases Va h with⟨rfl,he⟩|he
 ·refine⟨.aq,?_,by rw[he];exact .aq⟩;refine aH zL λN b=>?_
  simp(disch:=omega) only[F1,go_sem,simprocAttr,zL,a]
 ·by_cases c:l=[]
  ·subst c;refine⟨.sl [] true,?_,.sl (λel h=>by cases h)⟩;refine aH zL λN b=>?_
   have e1:dJ ⟨H,none⟩ bY 1 4 (.sl [] true) []=some (.sl [] true,⟨H,none⟩):=rfl;simp(disch:=omega) only[F1,go_sem,simprocAttr,zL,he,d,e1,e3]
  ·refine⟨.sl (l.map hC) false,?_,.sl (λel h=>by obtain⟨x,_,rfl⟩:=afH.1 h;rfl)⟩;refine aH zL λN b=>?_
   obtain⟨e1,f⟩:=Vb (sz:=1) (ty:=bY) (bytes:=4) (lo:=lo) (g:=hC) b (by omega) (λ_=>rfl) (λ_=>rfl) c e;simp only[go_sem,simprocAttr,zL,he,d,e1,f]
def dk.refs{N:Nat}{H:List ae}{ty:TypeId}(h:dk N H v sz ty af):v.refs<=H.length:=by
 rcases h.2 with⟨rfl,_⟩| ⟨id,ak,off,all,_,rfl,a,_⟩
 ·exact aeu _
 ·have:=ew a;simp only[AV.refs];omega
section
variable{n M p q:Nat}{m:aV}{qv ev:AV}{aE aP:Nat->AV}{H:List ae}(ha:bJ n M p q m qv ev aE aP H)
include ha
theorem GV(A:m.ai.Q.length<1073741824)(lo:oN):
  ∃v,D XC (.fn (.func 17) [] []) [.ptr M 0] ⟨H,lo⟩=some (.ret (.agg (bp m.ai q v)) ⟨H,lo⟩)/\Rv v 1 (m.ai.Q.map ij):=by
 obtain⟨N,z⟩: ∃N,H.length=N:=⟨_,rfl⟩;have u:=ha.co.jc.app [.box jS none,.box (bp m.ai q qv) none];obtain⟨v,r,c⟩:=azg (u.rd (lo:=none)) (by unfold room;omega) none;have r:=c0 r;refine⟨v,?_,c⟩;refine aH PX λK B=>?_
 obtain rfl:K=N:=by omega
 have s:jS.length=1274:=by rw[GQ,aer,ep,aer,aer,eh];rfl
 have w: ∀l:lA,l.length=1274->aM jS 0 l=l:=λl h=>nQ (by rw[s,h])
 have y:aK (bp m.ai q qv)<=K:=by
  rw[Mm];have:=ha.co.jc.refs;have:=ha.co.qp;have:=ha.co.lt;omega
 have b:aK (bp m.ai q v)<=K:=by
  rw[Mm];have:=cY c (bB (λ_=>rfl) _);have:=ha.co.qp;have:=ha.co.lt;omega
 have a:=qK (c ⟨H,none⟩);have o:aK (bp m.ai q qv)<=K+1+1:=by omega
 have k:v.refs<=K+1+1:=by have:=cY c (bB (λ_=>rfl) _);omega
 have j:aK (bp m.ai q v)<=K+1:=by omega
 have d:dy EK.ptr (AV.ptr M 0) AV.eB=some false:=rfl;have f:=aZ (L:=[.box jS none]) ha.box;have e:=aZ (L:=[.box jS none]) ha.co.box;have i:=vd (x:=m.ai) (q:=q) (qv:=qv);have g:=vd (x:=m.ai) (q:=q) (qv:=v);have t: ∀l:lA,l.length=1274->List.take 1274 l=l:=λl h=>by rw[<-h,afK]
 simp only[F1,go_sem,simprocAttr,PX,z,d,f,e,sj,r,w,t,i,g,KL,KS,s,o,k,j,b,a.1,a.2]
end
section
variable{n M p q:Nat}{m:aV}{qv ev:AV}{aE aP:Nat->AV}{H:List ae}
def Vc(M t:Nat)(H:List ae)(lo:oN):D XC (.fn (.func 64) [] []) [.ptr M 0,.int .i64 t] ⟨H,lo⟩=some (.ret (.bool (decide (t<8))) ⟨H,lo⟩):=by
 refine aH J8 λN d=>?_
 have a:dy EK.ptr (AV.ptr M 0) AV.eB=some false:=rfl;have c: (t:Int)>=0:=by omega
 by_cases h:t<8
 ·have b: (t:Int)<8:=by omega
  rw[aet h];simp(disch:=omega) only[F1,go_sem,simprocAttr,J8,a,c,b]
 ·have b: ¬(t:Int)<8:=by omega
  rw[aeq h];simp(disch:=omega) only[F1,go_sem,simprocAttr,J8,a,c,b]
theorem alF(c:Call)(v:AV): (bN c v).length=12:=rfl
theorem cl7(c:Call)(v:AV): (bN c v)[7]?=some (.bool c.checked):=rfl
theorem cl1(c:Call)(v:AV):Den.part true 6 (bN c v) 1=some (.agg (bn c.c)):=rfl
def MG(c:Call)(v:AV):aK (bN c v)=v.refs:=by simp[bN,aK,AV.refs,bn,aA]
theorem clT(c:Call)(v:AV):List.take 12 (bN c v)=bN c v:=rfl
def CC:=gG @alF<|gG @cl7<|gG @cl1<|gG @MG<|gG @clT<|gG @apY.{0} @amA.{0}
def sq(m:aV)(t:Nat)(rv:AV):AV:=match o9 m t with
 |some c=>.aw [.agg (bN c rv),.bool true]
 |none=>.aw [.agg (bN gk .aq),.bool false]
def alJ(u:bJ n M p q m qv ev aE aP H)(C: ∀i,(m.aB i).c.aW.length<1073741824)(t:Nat)(lo:oN):
  ∃rv,D XC (.fn (.func 46) [] []) [.ptr M 0,.int .i64 t] ⟨H,lo⟩=some (.ret (sq m t rv) ⟨H,lo⟩)/\ (∀c,o9 m t=some c->Rv rv 1 (c.aW.map hC)):=by
 by_cases a:t<8
 ·have A: (t:Int)<8:=by omega
  have B: (0:Int)<=t:=by omega
  obtain⟨v,g,x⟩:=azh (lo:=none) (H:=H++[.box (bN gk .aq) none,.box (bN (m.aB t).c (aP t)) none]) ((u.rv t) _) (by have:=C t;unfold room;omega);have g:=c0 g;have e:=qK (x ⟨H,none⟩);have j:=cY x (bB (λ_=>rfl) _);have h:=cY (u.rv t) (bB (λ_=>rfl) _);have o: ∀v:AV,aK (bN (m.aB t).c v)=v.refs:=λv=>by simp[bN,aK,AV.refs,bn,aA]
  have z: ∀L,(H++L)[M]?=some (.box (cH m p aE aP ev) none):=λL=>aZ u.box
  have y: ∀v,bN gk v=[(.int .i64 0),(.int .u8 0),(.int .u32 0),(.int .u32 0),(.int .u32 0),(.int .u32 0),(.int .u64 0),(.bool false),v,(.int .i64 0),(.int .i64 0),(.int .i64 0)]:=λv=>rfl
  have r: ∀v,(bN (m.aB t).c v).length=12:=λv=>rfl
  have s: ∀v,(bN (m.aB t).c v)[8]?=some v:=λv=>rfl
  have l: ∀v w,aM (bN (m.aB t).c v) 8 [w]=bN (m.aB t).c w:=λv w=>rfl
  have k: ∀v,List.take 12 (bN (m.aB t).c v)=bN (m.aB t).c v:=λv=>rfl
  cases d: (m.aB t).busy
  ·refine⟨.aq,?_,λc b=>by unfold o9 at b;simp[d]at b⟩;have hu:sq m t .aq= .aw [.agg (bN gk .aq),.bool false]:=by unfold sq o9;simp[d]
   rw[hu];refine aH zJ λN f=>?_
   simp only[F1,go_sem,simprocAttr,zJ,f,Vc,aet a,z,ym a,d,B,A,y]
  ·rw[y]at g;refine⟨v,?_,λc b=>by unfold o9 at b;simp[d,a]at b;subst b;exact x⟩;have hu:sq m t v= .aw [.agg (bN (m.aB t).c v),.bool true]:=by unfold sq o9;simp[d,a]
   rw[hu];refine aH zJ λN f=>?_
   simp only[F1,go_sem,simprocAttr,zJ,f,Vc,aet a,z,ym a,CY a,d,B,A,g,o,j,h,r,s,l,k,e.1,e.2,apY,amA]
 ·have hu:sq m t .aq= .aw [.agg (bN gk .aq),.bool false]:=by unfold sq o9;simp[a]
  refine⟨.aq,?_,λc b=>by unfold o9 at b;simp[a]at b⟩;rw[hu];refine aH zJ λN f=>?_
  simp only[F1,go_sem,simprocAttr,zJ,f,Vc,aeq a];rfl
end
def azi{s:bD}(a:bm s)(c:cq): (uJ s c).length<=39135394:=by
 have d:=F9 a.tr c.r;have b: ∀h,(o6 s h).length<=1:=λh=>by unfold o6;grind
 unfold uJ
 grind
def ki(c:Call):Prop:=c.aW.length<=39135394
def azj{x:Core}{c:Call}(i:bm x.S)(h:ki c):ki (fE x c).c:=by
 have b:ki (jq ⟨x,c,bL,false⟩).1.c:=by
  unfold jq;repeat' split
  all_goals first|exact h|exact azi i _
 have d: ∀s:bG,ki s.c->ki (jr s).1.c:=λs a=>by
  unfold jr;split
  ·exact a
  ·rename_i e;dsimp only;split
   ·have:s.c.aW.length<=39135394:=a;rw[e,afL]at this;exact ahk (Nat.le_succ _) this
   ·exact a
 have f: ∀s:bG,ki s.c->ki (jI s).1.c:=λs a=>by
  unfold jI;dsimp only;repeat' split
  all_goals exact a
 have g: ∀s:bG,ki s.c->ki (kQ s).1.c:=λs a=>by
  unfold kQ;split<;>exact a
 have j: ∀s:bG,ki s.c->ki (rW s).c:=λs a=>by
  unfold rW;dsimp only;repeat' split
  all_goals exact a
 unfold fE;dsimp only
 repeat' split
 ·exact b
 ·exact d _ b
 ·exact f _ (d _ b)
 ·exact g _ (f _ (d _ b))
 ·exact j _ (g _ (f _ (d _ b)))
def qQ(m:aV):Prop:= ∀i,ki (m.aB i).c
def Vd:ki gk:=aeu _
def qQ.set(h:qQ m){t:Nat}{r:Runner}(a:ki r.c)(i:Nat):ki (ar m.aB t r i).c:=by
 unfold ar;split
 ·omega
 ·exact h i
def azk(h:qQ m)(i:Nat):qQ (mN m i):=by
 unfold mN;split
 ·exact h.set Vd
 omega
def Ve(h:qQ m):qQ (mO m):=by
 unfold mO;generalize List.range 8=l
 induction l generalizing m with
 |nil=>exact h
 |cons a l b=>exact b (azk h a)
def alK(a:bm m.ai.S)(h:qQ m)(t:Nat):qQ (uN m t):=by
 have b:=azj (x:=m.ai) a (h t);unfold uN;dsimp only;split
 ·intro i;by_cases q:i=t
  ·subst q;show ki (Runner.c (ar _ _ _ _));rw[cF];exact Vd
  ·show ki (Runner.c (ar _ _ _ i));rw[da q];show ki (Runner.c (ar m.aB t _ i));rw[da q];exact h i
 ·exact h.set b
def azl(a:bm m.ai.S)(h:qQ m)(b:Nat):qQ (j7 m b).1:=by
 unfold j7;dsimp only
 repeat' split
 ·exact h
 ·exact Ve (m:={m with ai:=_,now:=_}) h
 ·exact h
 ·exact h
 ·exact Ve (m:=xU _ _) h
 ·refine Ve ?_;unfold wj;dsimp only
  repeat' split
  ·refine alK ?_ ?_ _;exact a;exact h
  ·refine alK ?_ ?_ _;exact a;exactλi=>h.set Vd i
  ·exactλi=>h.set (t:=b % 8) (r:={m.aB (b % 8)with t:=qB (m.aB (b % 8)).t}) (h (b % 8)) i
def alL(n:Nat)(aD:List lB)(k:Nat):qQ (fz n aD k):=λi=>aeu _
theorem alM{n:Nat}(h:1<=n/\n<=64)(aD:List lB){a:lB}(b:a.length<=4000): ∀k,k<=a.length->qQ (runK n aD a k).1
 |0,_=>alL _ _ _
 |k+1,c=>by
  rw[GS (by omega)];exact azl (GU h aD b k (by omega)).1.ok.ai.S (alM h aD b k (by omega)) _
def uC(b:Nat):lA:=[.int .u8 b]
structure wG where
 kind:Nat
 order:lN
 C4:Nat
 every:Int
 last:Nat
 wH:Int
def azm(x:wG)(ov:AV):lA:=[.int .u8 x.kind,ov,.int .u64 x.C4,.int .i64 x.every,.int .u8 x.last,.int .i64 x.wH]
structure Vf(x:wG):Prop where
 kind:x.kind<256
 order: ∀t∈x.order,t<256
 C4:x.C4<18446744073709551616
 every: -9223372036854775808<=x.every/\x.every<9223372036854775808
 last:x.last<256
 wH: -9223372036854775808<=x.wH/\x.wH<9223372036854775808
def azn(x:wG):Bool:=decide (x.kind<3)&&decide (x.order.length<=16)&&decide (0<=x.every)&&decide (x.every<=100)
def azo(a:Nat)(l:lN):Nat:=l.getD (j9 (λt=>decide (a<=t)) l).toNat default
def azp(a l:lN):Nat:=(a.find? λt=>l.any λy=>decide (t=y)).getD (l.getD 0 default)
def azq(a:Nat)(l:lN):Nat:=l.getD (a/8589934592 % l.length) default
def azr(a:Nat):Nat:=(6364136223846793005*a+1) % 18446744073709551616
def alN(x:wG)(l:lN):wG×Nat:=
 if x.kind=0 then(x,azo x.last l)else if x.kind=1 then(x,azp x.order l)else({x with C4:=azr x.C4},azq x.C4 l)
section
variable(x:wG)(hx:Vf x)(ov v:AV)(l:lN)(hl:l.length<=8)(h0:l≠[])(M:Nat)(H:List ae)(hM:H[M]?=some (.box (azm x ov) none))(hv:Rd ⟨H,none⟩ v 1 (l.map uC))(hl8: ∀t∈l,t<256)
include hx hM
include hl h0 hv hl8
end
def aDJ(x:wG)(l:lN): (alN x l).1.wH=x.wH:=by
 unfold alN
 grind
section
variable{n M p q:Nat}{m:aV}{qv ev:AV}{aE aP:Nat->AV}{H:List ae}
end
def pK(x:ee):lA:=[.int .i64 x.op,.int .i64 x.a,.int .i64 x.b,.int .i64 x.c,.int .i64 x.n]
def azt(v:AV)(l:List ee)(E:l.length<2147483648)(H:List ae)(h:Rd ⟨H,none⟩ v 5 (l.map pK))(lo:oN):
  D X0 (.fn (.func 86) [] []) [v] ⟨H,lo⟩=some (.ret (.bool (qA l)) ⟨H,lo⟩):=by
 refine aH Kb λN s=>?_
 unfold qA;by_cases c:l.length<=64
 ·have p: ¬((l.length:Nat):Int)>64:=by omega
  rw[aet c,amq];simp only[go_sem,simprocAttr,Kb,h.bS,p];refine eG l.length (λk e W=>H<+:W/\e 0=v/\e 3= .int .i64 k/\ ∀j,j<k->rX (l.getD j default) l.length=true) 0 (by omega) ?_ ?_
  ·simp only[go_sem,simprocAttr];exact⟨aqz,λj o=>absurd o (apN j)⟩
  rintro k F e W ⟨d,q,e3,g⟩ n B;have hw:=h.mono (aj:=none) d;simp only[bX,F1,go_sem,simprocAttr,aeL,q,e3,hw.bS];refine⟨λC=>?_,λC=>?_⟩
  ·have b:k<l.length:=by omega
   have a: ∀x,Den.part true 5 (pK x) 0=some (.agg (pK x)):=λ_=>rfl
   have r: ∀x:ee,(pK x)[0]?=some (.int .i64 x.op):=λ_=>rfl
   have z: ∀x:ee,(pK x)[1]?=some (.int .i64 x.a):=λ_=>rfl
   have y: ∀x:ee,(pK x)[2]?=some (.int .i64 x.b):=λ_=>rfl
   have w: ∀x:ee,(pK x)[3]?=some (.int .i64 x.c):=λ_=>rfl
   have u: ∀x:ee,(pK x)[4]?=some (.int .i64 x.n):=λ_=>rfl
   have t: ∀x:ee,(pK x).length=5:=λ_=>rfl
   have rr: ∀x:ee,aK (pK x)=0:=λ_=>rfl
   have A:=hw.ext (L:=[.box (pK (l.getD k default)) none]) (aj:=none);have m: ∀L,gl ⟨W++L,none⟩ .sl v=some (.int .i64 l.length):=λL=>(hw.ext (L:=L) (aj:=none)).bS
   simp(disch:=omega) only[go_sem,simprocAttr,hw.cp,hw.c7,↓a,B,t,rr,r];refine⟨by omega,?_⟩;generalize f:l.getD k default=x at*;refine w8 62 (.bool (!rX x l.length)) [0,3] rfl rfl ?_ λG=>?_
   ·unfold rX;simp(disch:=omega) only[R4,go_sem,simprocAttr,r,z,y,w,u,m,q]
    (repeat' (first|apply And.intro|intro _))
    all_goals(refine ahl AV.bool (aoo.2 ?_);simp[];try(intros;omega))
   cases hm:rX x l.length
   ·simp only[F1,go_sem,simprocAttr];have a: (l.all λx=>rX x l.length)=false:=by
     rw[aBm];exact⟨x,by rw[<-f];exact fx b,by rw[hm];decide⟩
    rw[a];exact du rfl (lW s λi g=>by obtain⟨L,rfl⟩:=d;rw[adV,adf (by omega)])
   ·simp(disch:=omega) only[go_sem,simprocAttr,q,e3];refine⟨b,d.trans (aqx _ _),pa g (by rw[f,hm])⟩
  ·have a: (l.all λx=>rX x l.length)=true:=by
     rw[afP];intro x f;obtain⟨j,o,rfl⟩:=ar8 f;have:=g j (by omega);rwa[show l.getD j default=l[j] by simp[List.getD,o]]at this
   rw[a];exact du rfl (lW s λi g=>by obtain⟨L,rfl⟩:=d;rw[adf (by omega)])
 ·have p: ((l.length:Nat):Int)>64:=by omega
  rw[aeq c,aho];simp(disch:=omega) only[F1,go_sem,simprocAttr,Kb,h.bS,p]
def azu(s:lB)(F:s.length<=1000)(H:List ae)(lo:oN):
  ∃v,D X0 (.fn (.func 48) [] []) [S s] ⟨H,lo⟩=some (.ret (.aw [v,.bool (decode s).isSome]) ⟨H,lo⟩):=by
 suffices A: ∃h,D X0 (.fn (.func 48) [] []) [S s] ⟨H,lo⟩=some h/\ (λh=> ∃v,h=aU.ret (.aw [v,.bool (decode s).isSome]) ⟨H,lo⟩) h by
  obtain⟨h,x,v,rfl⟩:=A;exact⟨v,x⟩
 refine cE P4 λN m=>?_
 simp only[go_sem,simprocAttr,P4];refine eG (s.length/6) (λk e W=>e 0=S (s.drop (6*k))/\H<+:W/\aQ N W (e 4) 5 ael ((gR s k).map pK)) 0 (by omega) ?_ ?_
 ·simp only[go_sem,simprocAttr];exact⟨aqz,aQ.aq⟩
 rintro k G e W ⟨z,a,p⟩ n B;have C: (s.drop (6*k)).length=s.length-6*k:=amy ..;have f: (gR s k).length=k:=by simp[gR]
 simp only[bX,go_sem,simprocAttr,aeG,z,B];refine⟨λE=>?_,λE=>?_⟩
 ·have c:k<s.length/6:=by omega
  have I:6<=(s.drop (6*k)).length:=by omega
  have q:vq (S (s.drop (6*k))) (some (.int .i64 6)) none=some (S (s.drop (6*(k+1)))):=by
   rw[H8,adY ⟨by omega,by omega⟩,apU];rfl
  have d: ∀j,((s.drop (6*k)).getD j 0).toNat<256:=λj=>UInt8.toNat_lt _
  have Q:=d 0;have P:=d 1;have O:=d 2;have M:=d 3;have K:=d 4;have J:=d 5;simp(disch:=omega) only[go_sem,simprocAttr];refine⟨by omega,by omega,by omega,by omega,by omega,by omega,?_⟩;refine rm (N:=N) (H0:=H) (bytes:=40) (ys:=[pK (qP (s.drop (6*k)))]) p a m (by omega) (by intro el t;rw[afC.1 t];rfl) rfl (by rw[afB,f];show(k+1)*40<=room;unfold room;omega) λv' R o r=>?_
  simp only[go_sem,simprocAttr,z,q];refine⟨c,r,?_⟩;rw[UX,afI];exact o
 ·have c:k=s.length/6:=by omega
  by_cases y:s.length % 6=0
  ·have l: ¬(0:Int)< ((s.drop (6*k)).length:Nat):=by omega
   have b:=λlo=>azt (e 4) (gR s k) (by omega) W (jJ p none) lo
   have g:rY s=gR s k:=by rw[c];exact akL y
   have u:decode s=if qA (gR s k)then some (gR s k)else none:=by
    unfold decode;by_cases x:s.length<=384
    ·rw[adU (by omega),g]
    ·rw[adY (by omega)];have:qA (gR s k)=false:=by unfold qA;rw[aeq (by rw[f];omega)];rfl
     rw[this];rfl
   rw[u];cases hm:qA (gR s k)with
   |true=>
    rw[hm]at b;simp only[go_sem,simprocAttr,l,b];rw[p.adj (by rw[bB (λ_=>rfl)];omega) (aeu _)];exact⟨_,du rfl (lW m λi w=>by obtain⟨L,rfl⟩:=a;rw[adf (by omega)])⟩
   |false=>
    rw[hm]at b;simp only[go_sem,simprocAttr,l,b];rw[sb rfl];exact⟨.aq,du rfl (lW m λi w=>by obtain⟨L,rfl⟩:=a;rw[adf (by omega)])⟩
  ·have l: (0:Int)< ((s.drop (6*k)).length:Nat):=by omega
   have u:decode s=none:=by unfold decode;rw[adY (.inl y)]
   rw[u];simp only[go_sem,simprocAttr,l];rw[sb rfl];exact⟨.aq,du rfl (lW m λi w=>by obtain⟨L,rfl⟩:=a;rw[adf (by omega)])⟩
def eA(aI:Int)(pv:AV)(bb:lB):lA:=[.int .i64 aI,pv,S bb]
structure MH(aI:Int)(aD:List lB)(bb:lB)(pv:AV):Prop where
 pg: -9223372036854775808<=aI/\aI<9223372036854775808
 pr:Rv pv 1 (aD.map sC)
def wI(aD:List lB)(bb:lB):Bool:=decide (20<aD.length)|| (decide (6000<bb.length)||aD.any λp=>decide (1000<p.length))
def MI(aD:List lB)(bb:lB):Bool:=wI aD bb||decide (1500<bb.length)
section
variable{aI:Int}{aD:List lB}{bb:lB}{pv:AV}(h:MH aI aD bb pv)
include h
theorem azv:aK (eA aI pv bb)=0:=by
 have:=cY h.pr (bB (λ_=>rfl) _);simp[eA,aK,AV.refs,S,this]
theorem azw(H:List ae)(lo:oN):D X0 (.fn (.func 47) [] []) [.agg (eA aI pv bb)] ⟨H,lo⟩=some (.ret (.bool (wI aD bb)) ⟨H,lo⟩):=by
 refine aH E8 λN f=>?_
 have g1: (eA aI pv bb)[1]?=some pv:=rfl;have g2: (eA aI pv bb)[2]?=some (S bb):=rfl;unfold wI;by_cases g:20<aD.length
 ·have a: (aD.length:Int)>20:=by omega
  rw[aet g,ath];simp only[F1,go_sem,simprocAttr,E8,f,g1,h.pr.bS,a]
 by_cases l:6000<bb.length
 ·have a: ¬(aD.length:Int)>20:=by omega
  have b: (bb.length:Int)>6000:=by omega
  rw[aeq g,aet l,ath,auu];simp only[F1,go_sem,simprocAttr,E8,f,g1,g2,h.pr.bS,a,b]
 have a: ¬(aD.length:Int)>20:=by omega
 have b: ¬(bb.length:Int)>6000:=by omega
 rw[aeq g,aeq l,auu,auu];simp only[go_sem,simprocAttr,E8,f,g1,g2,h.pr.bS,a,b];refine eG aD.length (λk e W=>W=H++[.box (eA aI pv bb) none]/\e 1= .ptr N 0/\e 3= .int .i64 k/\ ∀j,j<k->(λp:lB=>decide (1000<p.length)) (aD.getD j default)=false) 0 (by omega) ?_ ?_
 ·simp only[go_sem,simprocAttr];exactλj d=>absurd d (apN j)
 rintro k t e W ⟨rfl,e1,e3,i⟩ n s;simp(disch:=omega) only[bX,F1,go_sem,simprocAttr,aeF,e1,e3,g1,h.pr.bS];refine⟨λr=>?_,λr=>?_⟩
 ·have c:k<aD.length:=by omega
  simp(disch:=omega) only[bX,F1,go_sem,simprocAttr,e1,e3,h.pr.cp,h.pr.c7,↓pS];refine⟨by omega,λo=>?_,λo=>?_⟩
  ·rw[(List.any_eq_true).2 ⟨_,fx c,aet (by omega)⟩]
  ·exact⟨c,pa (p:=λj=>decide (1000< (aD.getD j default).length)=false) i (aeq (by omega))⟩
 ·have: (aD.any λp=>decide (1000<p.length))=false:=by
    rw[List.any_eq_false];intro x m;obtain⟨j,d,rfl⟩:=ar8 m;have:=i j (by omega);rw[show aD.getD j default=aD[j] by simp[List.getD,d]]at this;exactλq=>by rw[show decide (1000<aD[j].length)=false from this]at q;cases q
  rw[this]
theorem azx(H:List ae)(lo:oN):D X0 (.fn (.func 10) [] []) [.agg (eA aI pv bb)] ⟨H,lo⟩=some (.ret (.bool (MI aD bb)) ⟨H,lo⟩):=by
 refine aH JZ λN e=>?_
 have g2: (eA aI pv bb)[2]?=some (S bb):=rfl;have c: (eA aI pv bb).length=3:=rfl;have b:List.take 3 (eA aI pv bb)=eA aI pv bb:=rfl;have e1:decide ((bb.length:Int)>1500)=decide (1500<bb.length):=afR.2 (by omega);have a:=azw h;unfold MI;cases d:wI aD bb
 ·rw[d]at a;simp only[F1,go_sem,simprocAttr,JZ,e,g2,a,c,b,e1]
 ·rw[d]at a;simp only[F1,go_sem,simprocAttr,JZ,e,a,c,b]
theorem azy(i:wI aD bb=false)(H:List ae)(lo:oN): ∃kv,D X0 (.fn (.func 14) [] []) [.agg (eA aI pv bb)] ⟨H,lo⟩=some (.ret (.agg [.int .i64 aI,pv,kv]) ⟨H,lo⟩)/\GG aI aD bb pv kv:=by
 have g:aD.length<=20/\bb.length<=6000:=by
  unfold wI at i
  grind
 refine⟨.sl (bb.map bC) false,?_,⟨h.pr,.sl λel d=>by obtain⟨x,_,rfl⟩:=afH.1 d;rfl,by omega,by omega⟩⟩;refine aH PW λN j=>?_
 have k: (eA aI pv bb)[0]?=some (.int .i64 aI):=rfl;have g1: (eA aI pv bb)[1]?=some pv:=rfl;have g2: (eA aI pv bb)[2]?=some (S bb):=rfl;have b:=cY h.pr (bB (λ_=>rfl) _);have c:H6 (S bb)=some (.sl (bb.map bC) false):=by
  have e:H6 (S bb)=if bb.length<=room then some (.sl (bb.map bC) false)else none:=rfl
  rw[e,adY (by unfold room;omega)]
 have f:b9 (bb.map bC)=0:=bB (λ_=>rfl) _;have a:=qK (h.pr ⟨[],none⟩);simp only[F1,go_sem,simprocAttr,PW,j,k,g1,g2,c,a.1,a.2,b,f,apY,amA]
theorem azz(t:wI aD bb=false)(H:List ae)(lo:oN):D X0 (.fn (.func 11) [] []) [.agg (eA aI pv bb)] ⟨H,lo⟩=some (.ret (.bool (og ⟨aI,aD,bb.map UInt8.toNat⟩)) ⟨H,lo⟩):=by
 refine aH PU λN F=>?_
 have A: (eA aI pv bb)[0]?=some (.int .i64 aI):=rfl;have g1: (eA aI pv bb)[1]?=some pv:=rfl;have g2: (eA aI pv bb)[2]?=some (S bb):=rfl;obtain⟨w,f⟩: ∃b,b=decide (1<=aI/\aI<=64/\1<=aD.length/\aD.length<=8/\bb.length<=4000):=⟨_,rfl⟩;have r:og ⟨aI,aD,bb.map UInt8.toNat⟩=(w&&aD.all (λp=>(decode p).isSome)&& (bb.map UInt8.toNat).all lU):=by unfold og;rw[afB,f]
 rw[r];simp only[go_sem,simprocAttr,PU,F,A];refine w8 33 (.bool (!w)) [1] rfl rfl ?_ λG=>?_
 ·rw[f];simp(disch:=omega) only[R4,go_sem,simprocAttr,A,g1,g2,h.pr.bS];generalize aD.length=np
  (repeat' (first|apply And.intro|intro _))
  all_goals(refine ahl AV.bool (aoo.2 ?_);simp[];try(intros;omega))
 cases w
 ·simp(disch:=omega) only[F1,go_sem,simprocAttr];rfl
 have f:=(axU f.symm);simp only[go_sem,simprocAttr];refine eG aD.length (λk e W=>W=H++[.box (eA aI pv bb) none]/\e 1= .ptr N 0/\e 3= .int .i64 k/\ ∀j,j<k->(λp:lB=>(decode p).isSome) (aD.getD j default)=true) 0 (by omega) ?_ ?_
 ·simp only[go_sem,simprocAttr];exactλj g=>absurd g (apN j)
 rintro k I e W ⟨rfl,e1,e3,l⟩ n C;simp(disch:=omega) only[bX,go_sem,simprocAttr,aeA,e1,e3,g1,h.pr.bS];refine⟨λq=>?_,λq=>?_⟩
 ·have a:k<aD.length:=by omega
  have s: (aD.getD k default).length<=1000:=by
   unfold wI at t;simp only[Bool.or_eq_false_iff,List.any_eq_false,ai8]at t;have:=t.2.2 _ (fx a);omega
  obtain⟨v,u⟩:=azu (aD.getD k default) s (H++[.box (eA aI pv bb) none]) none;simp(disch:=omega) only[go_sem,simprocAttr,h.pr.cp,h.pr.c7,↓pS,u];refine⟨by omega,?_⟩;cases m: (decode (aD.getD k default)).isSome
  ·simp(disch:=omega) only[F1,go_sem,simprocAttr];have: (aD.all λp=>(decode p).isSome)=false:=by
    rw[aBm];exact⟨_,fx a,by rw[m];decide⟩
   rw[this];rfl
  ·simp(disch:=omega) only[go_sem,simprocAttr,e1,e3];exact⟨a,pa (p:=λj=>(decode (aD.getD j default)).isSome=true) l m⟩
 have d: (aD.all λp=>(decode p).isSome)=true:=by
  rw[afP];intro x o;obtain⟨j,g,rfl⟩:=ar8 o;have:=l j (by omega);rwa[show aD.getD j default=aD[j] by simp[List.getD,g]]at this
 rw[d,amq];clear l d;refine eG bb.length (λk e W=>W=H++[.box (eA aI pv bb) none]/\e 1= .ptr N 0/\e 6= .int .i64 k/\ ∀j,j<k->lU (bb.getD j 0).toNat=true) 0 (by omega) ?_ ?_
 ·simp only[go_sem,simprocAttr,e1];exactλj g=>absurd g (apN j)
 clear e1 e3 q;rintro i E e W ⟨rfl,e1,e6,l⟩ n C;simp(disch:=omega) only[bX,F1,go_sem,simprocAttr,aez,e1,e6,g2];refine⟨λq=>?_,λq=>?_⟩
 ·have a:i<bb.length:=by omega
  have o:=(bb.getD i 0).toNat_lt;refine⟨by omega,?_⟩;generalize z: (bb.getD i 0).toNat=c at*;refine w8 72 (.bool (!lU c)) [1,6] rfl rfl ?_ λG=>?_
  ·unfold lU;simp only[R4,go_sem,simprocAttr]
   (repeat' (first|apply And.intro|intro _))
   all_goals(refine ahl AV.bool (aoo.2 ?_);simp[];try(intros;omega))
  cases m:lU c
  ·simp(disch:=omega) only[F1,go_sem,simprocAttr];have: (bb.map UInt8.toNat).all lU=false:=by
    rw[aBm];exact⟨c,afH.2 ⟨bb.getD i 0,by rw[show bb.getD i 0=bb[i] by simp[List.getD,a]];exact ar6 a,z⟩,by rw[m];decide⟩
   rw[this]
  ·simp(disch:=omega) only[go_sem,simprocAttr,e1,e6];exact⟨a,pa (p:=λj=>lU (bb.getD j 0).toNat=true) l (by rw[z,m])⟩
 ·have d: (bb.map UInt8.toNat).all lU=true:=by
    rw[afP];intro x o;obtain⟨y,B,rfl⟩:=afH.1 o;obtain⟨j,g,rfl⟩:=ar8 B;have:=l j (by omega);rwa[show bb.getD j 0=bb[j] by simp[List.getD,g]]at this
  rw[d]
end
theorem alO(k:Nat): ∀t:List (Nat×lB×Nat),eC (.int .u8 k) (sT t)=some ((t.find? λx=>decide (k=x.1)).map λx=>.fn (.func x.2.2) [] [])
 | []=>rfl
 |a::t=>by
  have b:=alO k t;show eC (.int .u8 k) ((.int .u8 a.1,.fn (.func a.2.2) [] [])::sT t)=_;rw[LQ,List.find?_cons]
  grind
def azA{X:Ctx}{t:List (Nat×lB×Nat)}{g:Nat}(h:X.fZ g=some (sT t))(k:Nat)(E:AS)(a:Bool):
  jz X.fZ E .int .dx (.mb g) (.int .u8 k) a=some (match(t.find? λx=>decide (k=x.1)).map λx=>x.2.2 with|some f=>if a then .aw [.fn (.func f) [] [],.bool true]else .fn (.func f) [] []|none=>if a then .aw [.dx,.bool false]else .dx):=by
 have e:jz X.fZ E .int .dx (.mb g) (.int .u8 k) a=match X.fZ g with
  |some es=>(match eC (.int .u8 k) es with|some (some v)=>some (if a then .aw [v,.bool true]else v)|some none=>some (if a then .aw [.dx,.bool false]else .dx)|none=>none)
  |none=>none:=rfl
 rw[e,h];dsimp only;rw[alO];cases t.find? λx=>decide (k=x.1)<;>rfl
def aDK{t:List (Nat×lB×Nat)}{n:Nat}(h:t.all (λx=>decide (x.1<n))=true)(a:n<=k): (t.find? λx=>decide (k=x.1))=none:=by grind
def azB(a:Nat): ((xK.find? λx=>decide (a=x.1)).map λx=>x.2.2)=sd a:=by
 by_cases h:a<23
 ·have: ∀i:Fin 23,((xK.find? λx=>decide (i.1=x.1)).map λx=>x.2.2)=sd i.1:=by decide
  exact this ⟨a,h⟩
 ·match a,h with
  |n+23,_=>rfl
def alP(a:Nat):pC a:=λE=>by
 rw[azA (X:=XA) (t:=xK) rfl,azB]
 grind
structure aDL(x y:wG):Prop where
 ok:Vf y
 may:azn y=true
 wH:0<=y.wH/\y.wH<=100
 order:y.order=x.order
def alQ{n:Nat}{E:AS}(h:v.refs<=n): (finish n lo v E).1=v:=by
 obtain⟨W,l⟩:=E;cases l with
 |none=>rw[Bg,adY h]
 |some j=>
  rw[DS,adY h]
  grind
section
variable{aI:Int}{aD:List lB}{bb:lB}{pv:AV}(h:MH aI aD bb pv)(x:wG)(hx:Vf x)(ov:AV)(hov:Rv ov 1 (x.order.map uC))
include h hx hov
omit h in
end
def cg(k:Nat)(r:aC):Nat:=if r.1<=k/\k<r.1+r.2 then 1 else 0
def cR(k:Nat)(l:List aC):Nat:=(l.map (cg k)).sum
theorem vl(k:Nat):cR k []=0:=rfl
theorem lh(k:Nat)(r:aC)(l:List aC):cR k (r::l)=cg k r+cR k l:=by rfl
def ox(k:Nat)(a b:List aC):cR k (a++b)=cR k a+cR k b:=by simp[cR]
def sr(k a:Nat):cg k (a,0)=0:=adU (by simp)
def azD{r:aC}(h:r∈l):cg k r<=cR k l:=by
 obtain⟨a,b,rfl⟩:=ati h;rw[ox,lh];omega
def azE{e:List aC}{x:aC}(c:nj l x=some e)(k:Nat):cR k e+cg k x=cR k l:=by
 unfold nj at c;split at c
 ·grind
 split at c
 ·grind
 rename_i i h;cases c;obtain⟨g,b,_⟩:=ap7.1 h;have d:l.getD i (0,0)=l[i]:=by grind
 rw[d];have a:cR k l=cR k (l.take i++(l[i]::l.drop (i+1))):=by simp
 rw[a];generalize n:l[i]=y at*;generalize l.take i=A at*;generalize l.drop (i+1)=B at*;have j:x=y\/ (y.1<=x.1/\x.1+x.2<=y.1+y.2):=by simpa using b
 have f:y.1<=x.1/\x.1+x.2<=y.1+y.2:=by
  rcases j with rfl|q
  ·exact⟨afA _,afA _⟩
  ·exact q
 rw[ox,ox,ox,ox,lh]
 suffices o:cR k (if y.1<x.1 then[(y.1,x.1-y.1)]else[])+cR k (if x.1+x.2<y.1+y.2 then[(x.1+x.2,y.1+y.2- (x.1+x.2))]else[])+cg k x=cg k y by omega
 have e1:cR k (if y.1<x.1 then[(y.1,x.1-y.1)]else[])=if y.1<=k/\k<x.1 then 1 else 0:=by
  split
  ·rw[lh,vl];unfold cg;dsimp only;rw[show y.1+(x.1-y.1)=x.1 by omega];rfl
  ·rw[adU (by omega)];rfl
 have m:cR k (if x.1+x.2<y.1+y.2 then[(x.1+x.2,y.1+y.2- (x.1+x.2))]else[])=if x.1+x.2<=k/\k<y.1+y.2 then 1 else 0:=by
  split
  ·rw[lh,vl];unfold cg;dsimp only;rw[show x.1+x.2+(y.1+y.2- (x.1+x.2))=y.1+y.2 by omega];rfl
  ·rw[adU (by omega)];rfl
 rw[e1,m];unfold cg
 grind
def MJ{a b:aC}(h:a.1+a.2=b.1):cg k (a.1,a.2+b.2)=cg k a+cg k b:=by
 unfold cg;grind
def azF: ∀ (l:List aC) (x:aC) (put:Bool) (out e:List aC),dP l->(put=true-> ∀b∈l,vc x b)->gu x put out l=some e->cR k e=cR k out+cR k l+(if put then 0 else cg k x):=by
 intro l
 induction l with
 |nil=>
  intro x put out e _ _ h;cases h;cases put<;>simp[ox,lh,vl]
 |cons y ys g=>
  intro x put out e i s h;have d:dP ys:=⟨(ak8.1 i.pw).2,λz p=>i.bd z (afO _ p)⟩;have n:=(ak8.1 i.pw).1;have r:=i.bd y (ahi ..);have a: ∀c,(c-> ¬vc x y)->c->put=false:=λc u t=>by
   cases put with
   |false=>rfl
   |true=>exact absurd (s rfl y (ahi ..)) (u t)
  unfold gu at h;split at h
  ·rename_i m;have:=a _ (λ_ f=>by have:x.1+x.2<y.1:=f;omega) m;subst this;rw[g x false (out++[y]) e d (λq=>by cases q) h,ox,lh,lh,vl];omega
  split at h
  ·rename_i m j;rw[g x true _ e d (λ_ b f=>by have w:y.1+y.2<b.1:=n b f;show x.1+x.2<b.1;omega) h,ox,ox,lh,lh,vl];cases put<;>simp[lh,vl]<;>omega
  split at h
  ·rename_i m j o;have:=a _ (λ_ f=>by have:x.1+x.2<y.1:=f;omega) j;subst this;rw[g _ false out e d (λq=>by cases q) h,MJ o,lh];simp;omega
  split at h
  ·rename_i m j o v;have:=a _ (λ_ f=>by have:x.1+x.2<y.1:=f;omega) j;subst this;rw[g _ false out e d (λq=>by cases q) h,MJ v.symm,lh];simp;omega
  ·cases h
def azG{a:List aC}{x:aC}(h:dP l)(b:gM l x=some a):cR k a=cR k l+cg k x:=by
 unfold Go.Proofs.YteplichagkpciaaGreatDoor.gM at b;split at b
 ·rw[azF l x false [] a h (λq=>by cases q) b,vl];simp
 grind
def azH: ∀ (l:List aC) (x:aC) (put:Bool) (out:List aC),dP l->(∀k,cR k l+cg k x<=1)->1<=x.2-> ∃g,gu x put out l=some g:=by
 intro l
 induction l with
 |nil=>intro x put out _ _ _;exact⟨_,rfl⟩
 |cons y ys d=>
  intro x put out e j f;have a:dP ys:=⟨(ak8.1 e.pw).2,λz h=>e.bd z (afO _ h)⟩;have i:=e.bd y (ahi ..);have b: ∀k,cg k y+cR k ys+cg k x<=1:=λk=>by have:=j k;rwa[lh]at this
  have c: ∀k,cR k ys+cg k x<=1:=λk=>by grind
  unfold gu;split
  ·exact d _ _ _ a c f
  split
  ·exact d _ _ _ a c f
  split
  ·rename_i n;exact d _ _ _ a (λk=>by rw[MJ n];have:=b k;omega) (by show 1<=y.2+x.2;omega)
  split
  ·rename_i m;exact d _ _ _ a (λk=>by rw[MJ m.symm];have:=b k;omega) (by show 1<=x.2+y.2;omega)
  ·exfalso;have o:=b (max x.1 y.1);have i1:cg (max x.1 y.1) x=1:=adY (by omega);have i2:cg (max x.1 y.1) y=1:=adY (by omega);omega
def azI{x:aC}(h:dP l)(b: ∀k,cR k l+cg k x<=1)(c:1<=x.2)(d:x.1+x.2<=64): ∃a,gM l x=some a:=by
 unfold Go.Proofs.YteplichagkpciaaGreatDoor.gM;rw[adY (by simp[j5];omega)];exact azH l x false [] h b c
def azJ(h:cR k l=0):F0 l k=false:=by
 unfold F0;cases a: (decide (k<64)&&l.any λy=>decide ((k,1)=y)|| (decide (y.1<=k)&&decide (k+1<=y.1+y.2)))
 ·rfl
 ·simp only[ag9,List.any_eq_true,aos,ai8]at a;obtain⟨_,y,b,c⟩:=a;have e:=azD (k:=k) b;have d:cg k y=1:=adY (by grind);omega
def azK{x y:aC}(b:y∈l)(f:1<=x.2)(e:x.1+x.2<=64)(d:y.1<=x.1/\x.1+x.2<=y.1+y.2): ∃a,nj l x=some a:=by
 unfold nj;rw[adU (by simp[j5];omega)];cases c:l.findIdx? λy=>decide (x=y)|| (decide (y.1<=x.1)&&decide (x.1+x.2<=y.1+y.2))with
 |none=>grind
 |some i=>simp
def azL{p:cy}(h:fh p)(n:Nat): ((fW p n).2.2=0/\ (fW p n).1.n=p.n/\1<=n/\ (fW p n).2.1+n<=64/\ ∀k,cR k (fW p n).1.free+cg k ((fW p n).2.1,n)=cR k p.free)\/ ((fW p n).1=p/\ ((fW p n).2.2=6\/n<1/\ (fW p n).2.2=2)):=by
 unfold fW;by_cases c:n<1
 ·grind
 rw[adU c];cases b:p.free.find? λx=>decide (1<=n)&&decide (n<=x.2)with
 |none=>simp
 |some x=>
  have hm:=aqc b;have e:n<=x.2:=by grind
  have f:=h.free.bd x hm;obtain⟨d,a⟩:=azK (x:=(x.1,n)) hm (by omega) (by omega) (by omega);dsimp only;rw[a];exact .inl ⟨rfl,rfl,by omega,by omega,λk=>azE a k⟩
def azM{p:cy}(h:fh p)(e:q<p.n)(c:cR q p.free=0)(g: ∀k,cR k p.free<=1)(k:Nat):cR k (mJ p q).free=cR k p.free+(if q=k then 1 else 0):=by
 have f:=h.n;have e1:gj p q=0:=by unfold gj;rw[adU (by omega),azJ c];rfl
 have b: ∀k,cg k (q,1)=if q=k then 1 else 0:=λk=>by
  unfold cg;grind
 obtain⟨d,a⟩:=azI (l:=p.free) (x:=(q,1)) h.free (λk=>by grind) (afA 1) (by omega);unfold mJ Cr;rw[adY e1,a];rw[azG h.free a,b]
def alR{f g:Nat->Nat}(h: ∀j,j≠i->f j=g j): ∀n,i<n->((List.range n).map f).sum+g i=((List.range n).map g).sum+f i:=by
 have e: ∀n,n<=i->((List.range n).map f).sum=((List.range n).map g).sum:=λn a=>by
  congr 1
  exact anI λj c=>h j (by grind)
 intro n a
 induction n with
 |zero=>omega
 |succ n b=>
  rw[aog,afI,afI,List.sum_append,List.sum_append];simp only[ak9,asC,List.sum_cons,List.sum_nil];by_cases d:i=n
  ·grind
  grind
def cS(k:Nat)(t:av)(i:Nat):Nat:=bif (t.b i).dc then cR k (t.r i).runs else 0
def MK(h: (t.b i).dc=true):cS k t i=cR k (t.r i).runs:=by unfold cS;grind
def Vg(h: (t.b i).dc=false):cS k t i=0:=by unfold cS;grind
def MM{t':av}(h: (t'.b i).dc=(t.b i).dc)(a: (t'.r i).runs=(t.r i).runs):cS k t' i=cS k t i:=by unfold cS;grind
@[irreducible]def cT (k:Nat) (t:av):Nat:=((List.range 32).map (cS k t)).sum
def Vh{t':av}(a:i<32)(h: ∀j,j≠i->cS k t' j=cS k t j):cT k t'+cS k t i=cT k t+cS k t' i:=by
 unfold cT;exact alR h 32 a
def azN{t':av}(h: ∀i,(t'.b i).dc=(t.b i).dc/\ (t'.r i).runs=(t.r i).runs):cT k t'=cT k t:=by
 unfold cT;congr 1;exact anI λi _=>MM (h i).1 (h i).2
def alS{h:Nat}(a:t.az h=true): (t.b (aL h)).dc=true:=by
 rw[(z5 (show Go.Proofs.YteplichagkpciaaGreatDoor.az t.b h=true from a)).2.1]
def GW{h:Nat}(a:t.az h=true): (aG t h).1.runs=(t.r (aL h)).runs:=by unfold aG;grind
def alT{h:Nat}(b: (eu t h r).2=0):cT k (eu t h r).1+cR k (aG t h).1.runs=cT k t+cR k r.runs:=by
 unfold eu at b⊢;by_cases a:t.az h=false
 ·grind
 rw[adU a]at b⊢;have a:t.az h=true:=by grind
 split at b
 ·omega
 rename_i e;rw[adU e,GW a];have c:=alS a;have key:=Vh (k:=k) (t:=t) (t':={t with r:=ar t.r (aL h) {r with up:=(t.r (aL h)).up}}) (wc h) λj d=>MM rfl (by show cP.runs (ar _ _ _ j)=_;rw[da d])
 rw[MK c,MK (t:={t with r:=ar t.r (aL h) {r with up:=(t.r (aL h)).up}}) c]at key;rw[show({t with r:=ar t.r (aL h) {r with up:=(t.r (aL h)).up}}:av).r (aL h)={r with up:=(t.r (aL h)).up}from cF]at key;exact key
def alU{h:Nat}(a:r.runs=(aG t h).1.runs):cT k (eu t h r).1=cT k t:=by
 by_cases he: (eu t h r).2=0
 ·have:=alT (k:=k) he
  grind
 ·have: (eu t h r).1=t:=by
    unfold eu at he⊢
    grind
  rw[this]
def azO{h:Nat}(a:t.az h=true):cT k (gv t h).1+cR k (aG t h).1.runs=cT k t:=by
 unfold gv;rw[adY a,GW a];have e:=alS a;have c: (dN t.b h).1=ar t.b (aL h) (oX (t.b (aL h))):=by unfold dN;rw[adY (show Go.Proofs.YteplichagkpciaaGreatDoor.az t.b h=true from a)]
 have key:=Vh (k:=k) (t:=t) (t':={b:=(dN t.b h).1,r:=ar t.r (aL h) df}) (wc h) λj d=>MM (by show((dN t.b h).1 j).dc=_;rw[c,da d]) (by show cP.runs (ar _ _ _ j)=_;rw[da d])
 rw[MK e,Vg (t:={b:=(dN t.b h).1,r:=ar t.r (aL h) df}) (by
  show((dN t.b h).1 (aL h)).dc=false;rw[c,cF];unfold oX;grind)]at key
 omega
def alV{h:Nat}:cT k (kM t h a).1=cT k t:=by
 unfold kM;split
 ·rfl
 split
 ·rfl
 ·exact azN λi=>⟨rfl,by
   unfold ar;grind⟩
theorem azP{t0:av}{h x:Nat}:cT k (wb t0 h t x)=cT k t:=alU rfl
def azQ{h:Nat}:cT k (iT t h).1=cT k t:=by
 unfold iT;split
 ·rfl
 ·rw[alV];have: ∀ (l:lN) (u:av),cT k (l.foldl (wb t h) u)=cT k u:=by
   intro l
   induction l with
   |nil=>simp
   |cons a l b=>intro u;rw[aqD,b,azP]
  grind
def azR{h:Nat}:cT k (rN t h a).1=cT k t:=by
 unfold rN;split
 ·rfl
 split
 ·rfl
 split
 ·rfl
 ·exact alV
def azS{up n:Nat}:cT k (gN t up n).1=cT k t:=by
 have d:cT k (kK t up n).1=cT k t:=by
  unfold kK;split
  ·rfl
  split
  ·rfl
  split
  ·rename_i i c;obtain⟨i1,i2,_,_⟩:=rP c;have key:=Vh (k:=k) (t:=t) (t':={b:=ar t.b i {t.b i with dc:=true},r:=ar t.r i {df with up:=up,di:=n}}) i1 λj a=>MM (by show Slot.dc (ar _ _ _ j)=_;rw[da a]) (by show cP.runs (ar _ _ _ j)=_;rw[da a])
   rw[Vg i2,MK (t:={b:=ar t.b i {t.b i with dc:=true},r:=ar t.r i {df with up:=up,di:=n}}) (by show Slot.dc (ar _ _ _ i)=_;rw[cF])]at key;rw[show({b:=ar t.b i {t.b i with dc:=true},r:=ar t.r i {df with up:=up,di:=n}}:av).r i={df with up:=up,di:=n}from cF]at key;have e:cR k ({df with up:=up,di:=n}:cP).runs=0:=rfl
   grind
  ·rfl
 unfold gN
 grind
def alW{r to:Nat}{a:Bool}:cT k (mE t r b to a).1=cT k t:=by
 unfold mE;split
 ·rfl
 split
 ·rfl
 split
 ·rfl
 ·dsimp only;split
  ·exact alU rfl
  ·rfl
def alX{y z:Nat}(b:t.az y=true)(c:t.az z=true)(a:z≠y): (aG (gv t y).1 z).1.runs=(aG t z).1.runs/\ (gv t y).1.az z=true:=by
 have d: (gv t y).1.az z=true:=by
  unfold gv;rw[adY b];exact ai0 c b a
 refine⟨?_,d⟩;rw[GW d,GW c];unfold gv;rw[adY b];show(ar t.r (aL y) df (aL z)).runs=_;rw[da λe=>a (LZ c b e)]
theorem alY{k:Nat}: ∀ (l:lN) (t:av),l.Nodup->(∀z∈l,t.az z=true)->cT k (iZ t l)+cR k (l.flatMap λy=>(aG t y).1.runs)=cT k t
 | [],_,_,_=>rfl
 |y::l,t,f,c=>by
  obtain⟨i,g⟩:=axI.1 f;have b:=c y (ahi ..);have a: ∀z∈l,t.az z=true/\z≠y:=λz a=>⟨c z (afO _ a),λe=>i (e ▸ a)⟩
  have d:=alY (k:=k) l (gv t y).1 g λz h=>(alX b (a z h).1 (a z h).2).2
  have e: (l.flatMap λz=>(aG (gv t y).1 z).1.runs)=l.flatMap λz=>(aG t z).1.runs:=SX λz h=>(alX b (a z h).1 (a z h).2).1
  rw[e]at d;have j:=azO (k:=k) b;rw[aoX,ox];show cT k (iZ (gv t y).1 l)+_=_;omega
def cC(k:Nat)(x:au):Nat:=cT k x.s.T+cR k x.back
theorem alZ: ∀ (l:lN) (x:au),(l.foldl gO x).s.T=x.s.T/\ (l.foldl gO x).back=x.back++l.flatMap λy=>(aG x.s.T y).1.runs
 | [],x=>⟨rfl,by simp⟩
 |a::l,x=>by
  obtain⟨c,b⟩:=alZ l (gO x a);refine⟨c,?_⟩;rw[aqD,b];show(x.back++(aG x.s.T a).1.runs)++_=_;rw[adV,aoX];rfl
def MN(b:bm x.s)(h k:Nat):cC k (gi x h)=cC k x:=by
 unfold gi;obtain⟨f,d⟩:=alZ (under x.s.T h) x;show cT k (j6 ((under x.s.T h).foldl gO x).s.T h).1+cR k ((under x.s.T h).foldl gO x).back=_;rw[f,d,ox];have g:=alY (k:=k) (under x.s.T h) x.s.T (T9 b.tr h) λz a=>by
  unfold under at a;split at a
  ·rename_i c;exact Co b.T.b c a
  grind
 have: (j6 x.s.T h).1=iZ x.s.T (under x.s.T h):=by
  unfold j6;split
  ·rename_i e;rw[e];rfl
  ·rfl
 rw[this];show _=cT k x.s.T+cR k x.back;omega
def dH(x y:au):Prop:= ∀k,cC k y=cC k x
def dH.of(c: ∀k,cT k y.s.T=cT k x.s.T)(b:y.back=x.back):dH x y:=λk=>by unfold cC;grind
def dH.same(c:y.s.T=x.s.T)(b:y.back=x.back):dH x y:=.of (λk=>by rw[c]) b
theorem dH.trans{z:au}(h:dH x y)(b:dH y z):dH x z:=λk=>(b k).trans (h k)
def MO{h t:Nat}(e:mG x h t= .ok y):dH x y:=by
 obtain⟨_,_,e⟩:=aJ e;cases e;exact .same rfl rfl
def Vi{h:Nat}(e:ng x h r= .ok y)(k:Nat):cC k y+cR k (aG x.s.T h).1.runs=cC k x+cR k r.runs:=by
 obtain⟨_,he,e⟩:=aJ e;cases e;have:=alT (k:=k) (ayo he);show cT k (eu x.s.T h r).1+cR k x.back+_=cT k x.s.T+cR k x.back+_;omega
def Vj{h:Nat}(e:uA x h= .ok y):dH x y:=by
 obtain⟨_,_,e⟩:=aJ e;cases e;exact .of (λk=>azQ) rfl
theorem Vk{β:Type}{I:au->Prop}{P:β->Prop}{f:au->β->R au}(d: ∀y b z,I y->P b->f y b= .ok z->I z): ∀ (l:List β) (y z:au),(∀b∈l,P b)->I y->l.foldlM f y= .ok z->I z
 | [],y,z,_,h,e=>by cases e;exact h
 |b::l,y,z,g,h,e=>by
  obtain⟨w,e1,j⟩:=aJ (show(f y b>>=λw=>l.foldlM f w)= .ok z from by grind);exact Vk d l w z (λc i=>g c (afO _ i)) (d y b w h (g b (ahi ..)) e1) j
theorem Vl{β:Type}{I:au->Prop}{f:au->β->au}(c: ∀y b,I y->I (f y b)): ∀ (l:List β) (y:au),I y->I (l.foldl f y)
 | [],_,h=>h
 |b::l,y,h=>Vl c l (f y b) (c y b h)
section
variable{x:au}{a:au×bA}
def azT(h:nZ x= .ok a):dH x a.1:=by
 unfold nZ at h;have b:dH x (x.t (gN x.s.T x.c.r (min x.c.a 65)).1):=.of (λk=>azS) rfl;by_cases c:x.c.r=0
 ·simp only[c,ne_eq,not_true,ai5,ag6]at h;obtain⟨_,_,h⟩:=aJ h;obtain⟨y,e,h⟩:=aJ h;cases h;rw[c]at b;exact b.trans (MO e)
 ·simp only[c,ne_eq,aBe,ai5,ag6]at h;obtain⟨_,_,h⟩:=aJ h;obtain⟨_,_,h⟩:=aJ h;obtain⟨y,e,h⟩:=aJ h;cases e;cases h;exact b
def azU{w:Nat}(h:qy x w= .ok a):dH x a.1:=by
 obtain⟨_,_,h⟩:=aJ h;obtain⟨_,_,h⟩:=aJ h;obtain⟨_,_,h⟩:=aJ h;obtain⟨_,_,h⟩:=aJ h;cases h;exact .same rfl rfl
def azV(h:uB x= .ok a):dH x a.1:=by
 obtain⟨_,_,h⟩:=aJ h;obtain⟨_,_,h⟩:=aJ h;obtain⟨y,e,h⟩:=aJ h;obtain⟨z,b,h⟩:=aJ h;cases h;exact(Vj e).trans (MO b)
def azW(h:uD x= .ok a):dH x a.1:=by
 obtain⟨_,_,h⟩:=aJ h;obtain⟨_,_,h⟩:=aJ h;obtain⟨_,_,h⟩:=aJ h;cases h;exact .of (λk=>azR) rfl
def azX(h:uE x= .ok a):dH x a.1:=by
 obtain⟨_,_,h⟩:=aJ h;obtain⟨y,e,h⟩:=aJ h;obtain⟨_,_,h⟩:=aJ h;cases h;exact(Vj e).trans (.same rfl rfl)
def azY(h:rT x= .ok a):dH x a.1:=by
 obtain⟨_,_,h⟩:=aJ h;obtain⟨_,_,h⟩:=aJ h;obtain⟨_,_,h⟩:=aJ h;cases h;exact .same rfl rfl
def azZ(h:oZ x= .ok a):dH x a.1:=by
 obtain⟨_,_,h⟩:=aJ h;obtain⟨_,_,h⟩:=aJ h;obtain⟨_,_,h⟩:=aJ h;split at h
 ·obtain⟨_,_,h⟩:=aJ h;obtain⟨_,_,h⟩:=aJ h;cases h;exact .same rfl rfl
 ·obtain⟨_,_,h⟩:=aJ h;obtain⟨_,_,h⟩:=aJ h;obtain⟨_,_,h⟩:=aJ h;cases h;exact .same rfl rfl
def az0(h:uG x= .ok a):dH x a.1:=by
 obtain⟨_,_,h⟩:=aJ h;obtain⟨_,_,h⟩:=aJ h;cases h;exact .same rfl rfl
def az1(h:uH x= .ok a):dH x a.1:=by
 obtain⟨_,_,h⟩:=aJ h;cases h;exact .same rfl rfl
def az2(h:qz x= .ok a):dH x a.1:=by
 obtain⟨_,_,h⟩:=aJ h;cases h;exact .same rfl rfl
def az3(h:ni x= .ok a):dH x a.1:=by
 unfold ni at h;have b:dH x (x.bx x.aa (mD (x.s.de x.aa)).1):=.same rfl rfl
 try dsimp only at h
 obtain⟨_,_,h⟩:=aJ h;split at h
 ·obtain⟨y,e,h⟩:=aJ h;cases h;exact b.trans (MO e)
 ·obtain⟨y,e,h⟩:=aJ h;cases e;cases h;exact b
def az4(h:oc x= .ok a):dH x a.1:=by
 obtain⟨_,_,h⟩:=aJ h;split at h
 ·obtain⟨_,_,h⟩:=aJ h;obtain⟨_,_,h⟩:=aJ h;cases h;exact .of (λk=>alW) rfl
 ·obtain⟨_,_,h⟩:=aJ h;cases h;exact .of (λk=>alW) rfl
def az5(h:uI x= .ok a):dH x a.1:=by
 obtain⟨_,_,h⟩:=aJ h;obtain⟨_,_,h⟩:=aJ h;cases h;exact .same rfl rfl
def az6(h:mH x= .ok a):dH x a.1:=by
 unfold mH at h;obtain⟨_,_,h⟩:=aJ h;obtain⟨_,_,h⟩:=aJ h
 try dsimp only at h
 have fin: ∀ (y:au) (b:Bool),dH x y->(bg (nf (y.s.de x.c.a) ⟨x.aa % 256,x.c.v,x.c.r,b⟩).2>>=λ_=>(Pure.pure (y.bx x.c.a (nf (y.s.de x.c.a) ⟨x.aa % 256,x.c.v,x.c.r,b⟩).1,bL):R (au×bA)))= .ok a->dH x a.1:=by
  intro y b d h;obtain⟨_,_,h⟩:=aJ h;cases h;exact d.trans (.same rfl rfl)
 split at h
 ·obtain⟨_,_,h⟩:=aJ h
  try dsimp only at h
  obtain⟨y,e,h⟩:=aJ h;cases e;refine fin _ _ ?_ h;split
  ·exact .same rfl rfl
  ·exact .same rfl rfl
 ·split at h
  ·obtain⟨_,_,h⟩:=aJ h;obtain⟨y,e,h⟩:=aJ h
   try dsimp only at h
   obtain⟨_,_,h⟩:=aJ h;obtain⟨z,c,h⟩:=aJ h;cases c;exact fin (y.o (xO y.s.O y.s.T x.c.r).1) _ ((Vj e).trans (.same rfl rfl)) h
  ·obtain⟨z,c,h⟩:=aJ h;cases c;exact fin _ _ (.same rfl rfl) h
def az7(h:rR x= .ok a):dH x a.1:=by
 obtain⟨_,_,h⟩:=aJ h;obtain⟨_,_,h⟩:=aJ h;obtain⟨y,e,h⟩:=aJ h;cases h;intro k;have:=Vi e k;have b:cC k {x with back:=x.back++(aG x.s.T x.c.r).1.runs}=cC k x+cR k (aG x.s.T x.c.r).1.runs:=by unfold cC;dsimp only;rw[ox];omega
 have e3:cR k ({df with di:=(aG x.s.T x.c.r).1.di}:cP).runs=0:=rfl
 grind
def az8(b:bm x.s)(h:rS x= .ok a):dH x a.1:=by
 obtain⟨_,_,h⟩:=aJ h;cases h;exactλk=>MN b _ k
def al0{z:au}(e:bm y.s)(f:b<4294967296)(d:jH y b aa= .ok z):dH y z:=by
 obtain⟨_,_,d⟩:=aJ d;cases d;have g:dH y (y.o (dC y.s.O y.s.T b aa false).1):=.same rfl rfl;have c:bm (y.o (dC y.s.O y.s.T b aa false).1).s:=e.uX (e.O.held f);split
 ·exact g.trans λk=>MN c b k
 omega
def az9(b:bm x.s)(c:x.c.r<4294967296)(h:uF x= .ok a):dH x a.1:=by
 obtain⟨_,_,h⟩:=aJ h;obtain⟨y,e,h⟩:=aJ h;cases h;exact al0 b c e
def aAa(h:GI x)(e:mI x aa= .ok y):dH x y:=by
 rw[Uf]at e;obtain⟨w,e1,g⟩:=aJ e;have s:GI (sc x aa)/\dH x (sc x aa):=⟨h.set ((h.s.Ar jb.gone).L1) rfl rfl,.same rfl rfl⟩;have r:GI w/\dH x w:=Vk (I:=λy=>GI y/\dH x y) (P:=uV) (λy m z b hm e=>by
  unfold Aw at e;split at e
  ·cases e;exact b
  ·split at e
   ·have o:=MO e;obtain⟨n,j⟩:=GN b.1.s hm.aO e;obtain⟨_,_,e⟩:=aJ e;cases e;exact⟨b.1.set n j rfl,b.2.trans o⟩
   ·cases e;exact⟨b.1.gone _,b.2.trans λk=>MN b.1.s _ k⟩) _ _ _ (λm hm=>by
    obtain⟨i,_,rfl⟩:=afH.1 hm;exact(h.s.bx aa).ring _) s e1
 unfold Ma at g;have q:=Vl (I:=λy=>GI y/\dH x y) (f:=λy h=>y.k (mB y.s.K h).1) (λy a b=>⟨b.1.set (b.1.s.Aq (b.1.s.tok.ret a)) rfl rfl,b.2.trans (.same rfl rfl)⟩) (we w.s.K aa) w r;have d:=λl=>Vl (I:=λy=>GI y/\dH x y) (f:=gi) (λy a b=>⟨b.1.gone a,b.2.trans λk=>MN b.1.s _ k⟩) l _ q
 refine(Vk (I:=λy=>GI y/\dH x y) (P:=λa=>a<4294967296) (λy a z b c e=>⟨b.1.iZ c e,b.2.trans (al0 b.1.s c e)⟩) _ _ _ (λa c=>?_) (d _) g).2;have p:=(afY.1 c).1;exact fU ((iE (d _).1.s.T.b).1 p)
def al1{t:Nat}(b:GI x)(h: (mI x t>>=λy=>.ok (y,bL))= .ok a):dH x a.1:=by
 obtain⟨y,e,h⟩:=aJ h;cases h;exact aAa b e
def aAb(e:x.c.r<4294967296)(c:GI x)(ho:x.c.op≠2)(h:ie x= .ok a):dH x a.1:=by
 have d:=c.s;unfold ie at h;split at h
 all_goals try(rename_i b;first
  |exact absurd b ho
  |exact azT h|exact azU h|exact az7 h|exact az8 d h|exact az9 d e h|exact al1 c h|exact azV h|exact azW h
  |exact azX h|exact azY h|exact azZ h|exact az0 h|exact az6 h|exact az3 h|exact az1 h|exact az4 h|exact az5 h|exact az2 h)
 ·unfold wi at h;obtain⟨_,_,h⟩:=aJ h;exact al1 c h
 ·cases h
def aAc(h:ic x= .ok a)(e:x.asks=false): (∃j,gy (aG x.s.T x.c.r).1.runs (aG x.s.T x.c.r).1.len (min x.c.a 129) (min x.c.b 9)=some j)/\dH x a.1\/nh (min x.c.a 129) (min x.c.b 9)=some x.run.2/\gy (aG x.s.T x.c.r).1.runs (aG x.s.T x.c.r).1.len (min x.c.a 129) (min x.c.b 9)=none/\ ∀k,cC k a.1=cC k x+cg k x.run:=by
 unfold ic at h
 try dsimp only at h
 cases d:nh (min x.c.a 129) (min x.c.b 9)with
 |none=>rw[d]at h;cases h
 |some n=>
  rw[d]at h;obtain⟨_,e1,h⟩:=aJ h;cases e1;obtain⟨_,_,h⟩:=aJ h;obtain⟨_,_,h⟩:=aJ h;split at h
  ·rename_i j b;obtain⟨z,c,h⟩:=aJ h;cases h;refine .inl ⟨⟨j,b⟩,λk=>?_⟩;have:=Vi c k
   grind
  ·rename_i b;obtain⟨_,_,h⟩:=aJ h
   try dsimp only at h
   rw[adU (by show¬x.asks=true;rw[e];decide)]at h;obtain⟨_,hm,h⟩:=aJ h;have hm:=ME hm;simp only[ag9,ai8]at hm;obtain⟨z,c,h⟩:=aJ h;cases h;refine .inr ⟨by rw[hm.1],b,λk=>?_⟩;have:=Vi c k;dsimp only at this;rw[ox,lh,vl]at this;show cC k z=cC k x+cg k x.run;have e3:cC k z+cR k (aG x.s.T x.c.r).1.runs=cC k x+(cR k (aG x.s.T x.c.r).1.runs+(cg k x.run+0)):=this;omega
def aAd(c:gy (aG x.s.T x.c.r).1.runs (aG x.s.T x.c.r).1.len (min x.c.a 129) (min x.c.b 9)=some j)(h:ic x= .ok a):a.1.lT=x.lT:=by
 unfold ic at h
 try dsimp only at h
 cases b:nh (min x.c.a 129) (min x.c.b 9)with
 |none=>rw[b]at h;cases h
 |some n=>
  rw[b]at h;obtain⟨_,e1,h⟩:=aJ h;obtain⟨_,_,h⟩:=aJ h;obtain⟨_,_,h⟩:=aJ h;rw[c]at h;obtain⟨z,d,h⟩:=aJ h;cases h;exact UF d
end
def al2{s:bD}(n:bm s)(t:iI c){run:aC}(m:run.2=0\/dY s aa c=run.2)(i: (ds s aa c run).2.1.e=0)(k:Nat):
  cT k (ds s aa c run).1.T+cR k (ds s aa c run).2.2=cT k s.T+cg k run:=by
 rw[Uj]at i⊢;cases h:iF ⟨s,aa,c,run,0,false,[]⟩with
 |error e=>
  rw[h]at i;exact absurd i (Ui h)
 |ok a=>
  obtain⟨y,r⟩:=a;show cT k y.s.T+cR k y.back=_;obtain⟨_,u,h⟩:=aJ (show(ask _ _>>=λ_=>ie _)=_ from h);have l:cC k ⟨s,aa,c,run,0,false,[]⟩=cT k s.T:=rfl;have d:run.2=0->cg k run=0:=λh=>by obtain⟨p,q⟩:=run;cases h;exact sr k p
  by_cases ho:c.op=2
  ·have h:ic ⟨s,aa,c,run,0,false,[]⟩= .ok (y,r):=by
     unfold ie at h;grind
   rcases aAc h rfl with⟨⟨j,o⟩,f⟩| ⟨_,_,f⟩
   ·have g:dY s aa c=0:=by
      unfold dY;rw[adU (by rw[ho];decide)];cases b:iF ⟨s,aa,c,(0,0),0,true,[]⟩with
      |error e=>rfl
      |ok a=>
       obtain⟨_,_,b⟩:=aJ (show(ask _ _>>=λ_=>ie _)=_ from b);unfold ie at b;rw[show(au.c ⟨s,aa,c,(0,0),0,true,[]⟩).op=2 from ho]at b;exact aAd (x:=⟨s,aa,c,(0,0),0,true,[]⟩) o b
    rw[g]at m;rw[d (by omega)];exact(f k).trans (l.trans (afM _).symm)
   ·exact(f k).trans (by rw[l])
  ·have g:dY s aa c=0:=by unfold dY;rw[adY ho]
   rw[g]at m;rw[d (by omega)];have f:=aAb (x:=⟨s,aa,c,run,0,false,[]⟩) t.r (GI.start n ..) ho h;exact(f k).trans (l.trans (afM _).symm)
def cW(k:Nat)(x:Core):Nat:=cR k x.P.free+cT k x.S.T+x.Q.count k
def aAe(k a n:Nat):cg k (a,n+1)=cg k (a,n)+(if a+n=k then 1 else 0):=by
 unfold cg;grind
def aAf(k:Nat)(r:aC): (fg r).count k=cg k r:=by
 obtain⟨a,n⟩:=r;unfold fg
 induction n with
 |zero=>rw[sr];rfl
 |succ n b=>
  rw[aog,afI,auT,b,aAe]
  grind
def Vm(k:Nat)(x:Core)(r:aC):cW k (ch x r)=cW k x+cg k r:=by
 unfold cW ch;dsimp only;rw[auT,aAf];omega
def MQ(k:Nat)(x:Core)(c:Call):cW k (o7 x c)=cW k x+cg k c.run:=Vm k x c.run
theorem Vn(k:Nat): ∀ (l:List aC) (x:Core),cW k (l.foldl ch x)=cW k x+cR k l/\ (l.foldl ch x).P=x.P
 | [],x=>⟨rfl,rfl⟩
 |r::l,x=>by
  obtain⟨b,a⟩:=Vn k l (ch x r);exact⟨by rw[aqD,b,Vm,lh];omega,a⟩
def al3(p:cy)(a b:Nat): (mK p a b).free=p.free/\ (mK p a b).n=p.n:=by
 unfold mK;grind
theorem al4{α:Type}(f g:α->Nat): ∀ (l:List α) (p:cy),(l.foldl (λP i=>mK P (f i) (g i)) p).free=p.free/\ (l.foldl (λP i=>mK P (f i) (g i)) p).n=p.n
 | [],p=>⟨rfl,rfl⟩
 |a::l,p=>by
  obtain⟨c,b⟩:=al4 f g l (mK p (f a) (g a));exact⟨c.trans (al3 ..).1,b.trans (al3 ..).2⟩
def Vo{r:aC}(h:r.2=0):cg k r=0:=by obtain⟨p,q⟩:=r;cases h;exact sr k p
def aAg{s:bG}(n:bm s.x.S)(m:iI s.c.c)(k:Nat):cW k (rW s).x=cW k s.x+cg k s.c.run/\ (rW s).x.P.n=s.x.P.n/\ (rW s).ended=true:=by
 unfold rW;obtain⟨a,b⟩: ∃a,a=(if 0<s.c.run.2/\dY s.x.S s.c.aa s.c.c≠s.c.run.2 then{s with x:=ch s.x s.c.run,c:={s.c with run:=(0,0)}}else s):=⟨_,rfl⟩;have e1:cW k a.x+cg k a.c.run=cW k s.x+cg k s.c.run/\a.x.P=s.x.P/\a.x.S=s.x.S/\a.c.c=s.c.c/\a.c.aa=s.c.aa/\ (a.c.run.2=0\/dY s.x.S s.c.aa s.c.c=a.c.run.2):=by
  rw[b];split
  ·refine⟨?_,rfl,rfl,rfl,rfl,.inl rfl⟩;rw[Vm,sr];rfl
  grind
 dsimp only;rw[<-b];clear b;obtain⟨e1,p,e3,o,q,e6⟩:=e1;have g:bm a.x.S:=e3 ▸ n;have f:iI a.c.c:=o ▸ m;have hm:=λhe=>al2 g (aa:=a.c.aa) f (run:=a.c.run) (by grind) he k
 rw[<-e1,<-p];split
 ·refine⟨?_,rfl,rfl⟩;show cW k (o7 a.x a.c)=_;rw[MQ]
 ·rename_i he;have hm:=hm (by simpa using he);generalize ds a.x.S a.c.aa a.c.c a.c.run=d at*;obtain⟨P,h⟩: ∃P,P=(if a.c.c.op=4 then(List.range (iG a.x.S a.c.c).1.length).foldl (λP i=>mK P ((iG a.x.S a.c.c).1.getD i 0) (byteOf a.c.c.v i)) a.x.P else a.x.P):=⟨_,rfl⟩;have e:P.free=a.x.P.free/\P.n=a.x.P.n:=by
   rw[h];split
   ·exact al4 _ _ _ _
   ·exact⟨rfl,rfl⟩
  rw[<-h];obtain⟨l,j⟩:=Vn k d.2.2 {a.x with S:=d.1,P:=P};have e7:cW k {a.x with S:=d.1,P:=P}=cR k a.x.P.free+cT k d.1.T+a.x.Q.count k:=by unfold cW;dsimp only;rw[e.1]
  refine⟨?_,?_,rfl⟩
  ·show cW k (o7 (d.2.2.foldl ch {a.x with S:=d.1,P:=P}) {a.c with run:=(0,0)})=_;rw[MQ,l,e7];show _+cg k (0,0)=_;rw[sr];unfold cW;omega
  ·show(d.2.2.foldl ch {a.x with S:=d.1,P:=P}).P.n=_;rw[j];exact e.2
def cV(k:Nat)(s:bG):Nat:=cW k s.x+(if s.ended then 0 else cg k s.c.run)
structure Kp(s s':bG):Prop where
 c: ∀k,cV k s'=cV k s
 n:s'.x.P.n=s.x.P.n
theorem Kp.refl(s:bG):Kp s s:=⟨λ_=>rfl,rfl⟩
def al5{s:bG}(h:s.ended=false)(r:bA):Kp s (o8 s r):=⟨λk=>by
 unfold cV o8;rw[h,MQ];simp,rfl⟩
def aAh{s:bG}(h:s.ended=false):Kp s (jq s).1/\ (jq s).1.x.S=s.x.S/\ (jq s).1.c.c=s.c.c/\ ((jq s).2=false->(jq s).1.ended=false/\ (jq s).1.x.P=s.x.P):=by
 unfold jq;split
 ·exact⟨Kp.refl s,rfl,rfl,λ_=>⟨h,rfl⟩⟩
 split
 ·exact⟨Kp.refl s,rfl,rfl,λ_=>⟨h,rfl⟩⟩
 split
 ·exact⟨al5 h _,rfl,rfl,λq=>by cases q⟩
 ·exact⟨⟨λk=>rfl,rfl⟩,rfl,rfl,λq=>by cases q⟩
def aAi{s:bG}(h:s.ended=false):Kp s (jr s).1/\ (jr s).1.x.S=s.x.S/\ (jr s).1.c.c=s.c.c/\ (jr s).1.x.P=s.x.P/\ ((jr s).2=false->(jr s).1.ended=false):=by
 unfold jr;split
 ·exact⟨Kp.refl s,rfl,rfl,rfl,λ_=>h⟩
 ·dsimp only;refine⟨⟨λk=>?_,rfl⟩,rfl,?_,rfl,λq=>by cases q⟩
  ·unfold cV;generalize(iU s.x.M _ s.c.aa).2=b;cases b<;>rfl
  grind
def aAj{s:bG}(h:s.ended=false)(d:fh s.x.P):Kp s (jI s).1/\ (jI s).1.x.S=s.x.S/\ (jI s).1.c.c=s.c.c/\ ((jI s).2=false->(jI s).1=s):=by
 unfold jI;dsimp only;split
 ·exact⟨Kp.refl s,rfl,rfl,λ_=>rfl⟩
 ·have a:s.c.run.2=0:=by omega
  rcases azL d (dY s.x.S s.c.aa s.c.c)with⟨c,b,g,f,e⟩| ⟨c,b⟩
  ·rw[adU (by omega)];refine⟨⟨λk=>?_,b⟩,rfl,rfl,λq=>by cases q⟩;unfold cV cW;rw[h,Vo a]
   grind
  ·rw[adY (by omega),c];exact⟨al5 h _,rfl,rfl,λq=>by cases q⟩
def al6(p:cy)(i:Nat): (od p i).free=p.free/\ (od p i).n=p.n:=by unfold od;grind
def aAk{s:bG}(h:s.ended=false):Kp s (kQ s).1/\ ((kQ s).2=false->(kQ s).1=s):=by
 unfold kQ;split
 ·exact⟨Kp.refl s,λ_=>rfl⟩
 ·refine⟨⟨λk=>?_,(al6 _ _).2⟩,λq=>by cases q⟩;unfold cV cW;rw[(al6 _ _).1]
def aAl{x:Core}{c:Call}(h:jO x)(n:fS c)(k:Nat):cW k (fE x c).x+(if(fE x c).ended then 0 else cg k (fE x c).c.run)=cW k x+cg k c.run/\ (fE x c).x.P.n=x.P.n:=by
 suffices i:Kp ⟨x,c,bL,false⟩ (fE x c)from⟨i.c k,i.n⟩
 obtain⟨m,A,z,g⟩:=aAh (s:=⟨x,c,bL,false⟩) rfl;unfold fE;dsimp only;generalize jq ⟨x,c,bL,false⟩=s1 at*;split
 ·omega
 rename_i D;obtain⟨g,y⟩:=g (by grind);obtain⟨l,w,v,u,d⟩:=aAi (s:=s1.1) g;generalize jr s1.1=s2 at*;have t2:Kp ⟨x,c,bL,false⟩ s2.1:=⟨λk=>(l.c k).trans (m.c k),l.n.trans m.n⟩;split
 ·omega
 rename_i C;have d:=d (by grind);have e:s2.1.x.P=x.P:=u.trans y;obtain⟨j,t,r,f⟩:=aAj (s:=s2.1) d (e ▸ h.P);generalize jI s2.1=b at*;have t3:Kp ⟨x,c,bL,false⟩ b.1:=⟨λk=>(j.c k).trans (t2.c k),j.n.trans t2.n⟩;split
 ·exact t3
 rename_i q;have f:=f (by simpa using q);have e3:b.1.ended=false:=by rw[f];exact d
 obtain⟨d1,d2⟩:=aAk (s:=b.1) e3;generalize kQ b.1=a at*;have t4:Kp ⟨x,c,bL,false⟩ a.1:=⟨λk=>(d1.c k).trans (t3.c k),d1.n.trans t3.n⟩;split
 ·exact t4
 rename_i p;have d2:=d2 (by simpa using p);have o:a.1.x.S=x.S:=by rw[d2,t,w,A]
 have hC:a.1.c.c=c.c:=by rw[d2,r,v,z]
 have E:a.1.ended=false:=by rw[d2];exact e3
 have hm:=λk=>aAg (s:=a.1) (o ▸ h.S) (hC ▸ n.jd) k
 refine⟨λk=>?_,(hm 0).2.1.trans t4.n⟩;obtain⟨B,_,m3⟩:=hm k;rw[<-t4.c k];unfold cV;grind
@[irreducible]def cL (k:Nat) (f:Nat->Runner):Nat:=((List.range 8).map λt=>cg k (f t).c.run).sum
def cM(k:Nat)(m:aV):Nat:=cW k m.ai+cL k m.aB
def aAm{f:Nat->Runner}{t:Nat}{r:Runner}(a:t<8):cL k (ar f t r)+cg k (f t).c.run=cL k f+cg k r.c.run:=by
 have key:=alR (f:=λj=>cg k (ar f t r j).c.run) (g:=λj=>cg k (f j).c.run) (i:=t) (λj b=>by rw[da b]) 8 a;rw[cF]at key;unfold cL;exact key
structure ek(n:Nat)(m:aV):Prop where
 np:m.ai.P.n=n
 pc: ∀k,cM k m=if k<n then 1 else 0
 idle: ∀t,(m.aB t).busy=false->(m.aB t).c.run.2=0
def aAn{s:bD}(b:bm s)(d:iI c)(k:Nat):cT k (ds s aa c (0,0)).1.T+cR k (ds s aa c (0,0)).2.2=cT k s.T:=by
 by_cases he: (ds s aa c (0,0)).2.1.e=0
 ·have:=al2 b (aa:=aa) d (run:=(0,0)) (.inl rfl) he k;rw[sr]at this;omega
 ·rw[Uj]at he⊢;cases h:iF ⟨s,aa,c,(0,0),0,false,[]⟩with
  |error e=>rfl
  |ok a=>
   rw[h]at he;exact absurd (Md h) he
section
variable{n:Nat}{m:aV}(h:ek n m)
include h
theorem ek.mk'{m':aV}(a:m'.ai.P.n=m.ai.P.n)(c: ∀k,cM k m'=cM k m)(b: ∀t,(m'.aB t).busy=false->(m'.aB t).c.run.2=0):ek n m':=⟨a.trans h.np,λk=>(c k).trans (h.pc k),b⟩
theorem ek.aAo{t:Nat}{r:Runner}(a:r.busy=false->r.c.run.2=0)(i:Nat): (ar m.aB t r i).busy=false->(ar m.aB t r i).c.run.2=0:=by
 unfold ar;split
 ·omega
 ·exact h.idle i
theorem ek.now(k:Nat):ek n {m with now:=k}:=⟨h.np,h.pc,h.idle⟩
theorem ek.put{x:Core}{r:Runner}{t:Nat}(b:t<8)(d:x.P.n=m.ai.P.n)(g: ∀k,cW k x+cg k r.c.run=cW k m.ai+cg k (m.aB t).c.run)(c:r.busy=false->r.c.run.2=0){f:Nat->Runner}(e:f=ar m.aB t r){ev:List Event}:ek n ⟨x,f,a,ev⟩:=by
 subst e;refine h.mk' d (λk=>?_) λi=>h.aAo c i
 have:=aAm (k:=k) (f:=m.aB) (r:=r) b;have:=g k;show cW k x+cL k (ar m.aB t r)=cW k m.ai+cL k m.aB;omega
theorem ek.calls(c:dG m){t:Nat}(b:t<8)(d: (m.aB t).busy=true):ek n (uN m t):=by
 have a:=λk=>aAl c.ai (c.c t) k
 unfold uN;dsimp only;split
 ·rename_i he;refine h.put b (a 0).2 (λk=>?_) (λ_=>(rfl:gk.run.2=0)) rJ;obtain⟨e,_⟩:=a k;rw[show cg k gk.run=0 from sr k 0]
  grind
 ·refine h.put b (a 0).2 (λk=>?_) (λq=>by grind) rfl
  grind
theorem ek.UZ(i:Nat)(a:i<8):ek n (mN m i):=by
 unfold mN;split
 ·refine h.put (x:=o7 m.ai (m.aB i).c) (r:={m.aB i with busy:=false,c:=gk}) a rfl (λk=>?_) (λ_=>rfl) rfl;rw[MQ,show cg k gk.run=0 from sr k 0];omega
 omega
omit h in
theorem ek.hH(h:ek n m): ∀k,k<=8->ek n (Go.Proofs.YteplichagkpciaaGreatDoor.hH m k)
 |0,_=>h
 |k+1,a=>by rw[MA];exact(ek.hH h k (by omega)).UZ k (by omega)
theorem ek.clear:ek n (mO m):=h.hH 8 (afA 8)
theorem ek.aAp(g:dG m)(t:Nat):ek n (xU m t):=by
 unfold xU;dsimp only;have j:=λk=>aAn g.ai.S (aa:=t) (c:={mM with op:=20}) ⟨by decide,by decide,by decide,by decide,by decide,by decide⟩ k
 generalize ds m.ai.S t {mM with op:=20} (0,0)=d at*;have b:=λk=>Vn k d.2.2 m.ai
 refine h.mk' (by rw[(b 0).2]) (λk=>?_) h.idle;obtain⟨e,i⟩:=b k;have o: (d.2.2.foldl ch m.ai).S=m.ai.S:=by
  have: ∀ (l:List aC) (x:Core),(l.foldl ch x).S=x.S:=by
   intro l
   induction l with
   |nil=>simp
   |cons a l f=>intro x;exact f _
  grind
 show cW k {d.2.2.foldl ch m.ai with S:=d.1}+cL k m.aB=cW k m.ai+cL k m.aB;unfold cW at e⊢
 grind
theorem ek.aAq(e:dG m):ek n {m with ai:=(iV m.ai).1}:=by
 unfold iV;split
 ·exact h
 ·rename_i q c j;have f: ∀k,cR k m.ai.P.free+(if q=k then 1 else 0)<=if k<n then 1 else 0:=λk=>by
   have g:=h.pc k;unfold cM cW at g
   grind
  have b:=f q;rw[adY rfl]at b;have a:q<n:=by grind
  rw[adY a]at b;have i:=λk=>azM e.ai.P (q:=q) (by rw[h.np];exact a) (by omega) (λk=>by grind) k
  have d: (mJ m.ai.P q).n=m.ai.P.n:=by unfold mJ Cr;grind
  refine h.mk' d (λk=>?_) h.idle;show cW k {m.ai with P:=mJ m.ai.P q,Q:=c}+cL k m.aB=cW k m.ai+cL k m.aB;unfold cW
  grind
theorem ek.steps(c:dG m){t:Nat}(a:t<8):ek n (wj m t):=by
 unfold wj;dsimp only;split
 ·rename_i b;exact h.calls c a b
 ·have b: (m.aB t).busy=false:=by grind
  split
  ·have hw:ek n (GM m t):=h.put a rfl (λk=>by
     rw[Vo (h.idle t b)];show cW k m.ai+cg k (0,0)=_;rw[sr]) (λq=>by rfl) rfl
   exact hw.calls (c.wanted a) a (by show(ar m.aB t _ t).busy=true;rw[cF])
  ·exact h.put (r:={m.aB t with t:=qB (m.aB t).t}) a rfl (λk=>rfl) (λ_=>h.idle t b) rfl
theorem ek.pick(c:sk m)(e:m.now<=4000)(b:Nat):ek n (j7 m b).1:=by
 have a:=c.ok.C3 (n:=m.now+1) (by omega);have d:=h.now (m.now+1);unfold j7;dsimp only;split
 ·exact h
 split
 ·split
  ·exact((h.aAq c.ok).now (m.now+1)).clear
  omega
 split
 ·exact h
 split
 ·exact(d.aAp a _).clear
 ·exact(d.steps a (aoc b (by decide))).clear
end
def al7{n:Nat}(aD:List lB)(k:Nat):ek n (fz n aD k):=by
 refine⟨rfl,λk=>?_,λt _=>rfl⟩;have e1:cT k mP.T=0:=by
  unfold cT;have: (List.range 32).map (cS k mP.T)=(List.range 32).map λ_=>0:=anI λi _=>Vg rfl
  rw[this];rfl
 have b: ∀f:Nat->Runner,(∀t,(f t).c.run.2=0)->cL k f=0:=λf a=>by
  unfold cL;have: ((List.range 8).map λt=>cg k (f t).c.run)=(List.range 8).map λ_=>0:=anI λi _=>Vo (a i)
  rw[this];rfl
 show cR k [(0,n)]+cT k mP.T+0+cL k _=_;rw[e1,b _ λt=>rfl,lh,vl];unfold cg;grind
theorem al8{n:Nat}(h:1<=n/\n<=64)(aD:List lB){a:lB}(b:a.length<=4000): ∀k,k<=a.length->ek n (runK n aD a k).1
 |0,_=>al7 aD _
 |k+1,d=>by
  obtain⟨c,e⟩:=GU h aD b k (by omega);rw[GS (by omega)];exact(al8 h aD b k (by omega)).pick c (by omega) _
def aAr{H:List ae}(h:Rd ⟨H,none⟩ v 2 (l.map aA))(e:l.length*16<=room)(lo:oN):
  ∃v',D X0 (.fn (.func 107) [] []) [v] ⟨H,lo⟩=some (.ret v' ⟨H,lo⟩)/\Rv v' 2 (l.map aA):=by
 have d:=h.eq;have a:dy EK.sl AV.aq AV.aq=some true:=rfl;have e3:b9 ([]:List lA)=0:=rfl;rcases Va h with⟨rfl,he⟩|he
 ·refine⟨.aq,?_,by rw[he];exact .aq⟩;refine aH zM λN b=>?_
  simp(disch:=omega) only[F1,go_sem,simprocAttr,zM,a]
 ·by_cases c:l=[]
  ·subst c;refine⟨.sl [] true,?_,.sl (λel h=>by cases h)⟩;refine aH zM λN b=>?_
   have e1:dJ ⟨H,none⟩ eZ 2 16 (.sl [] true) []=some (.sl [] true,⟨H,none⟩):=rfl;simp(disch:=omega) only[F1,go_sem,simprocAttr,zM,he,d,e1,e3]
  ·refine⟨.sl (l.map aA) false,?_,.sl (λel h=>by obtain⟨x,_,rfl⟩:=afH.1 h;rfl)⟩;refine aH zM λN b=>?_
   obtain⟨e1,f⟩:=Vb (sz:=2) (ty:=eZ) (bytes:=16) (lo:=lo) (g:=aA) b (by omega) (λ_=>rfl) (λ_=>rfl) c e;simp only[go_sem,simprocAttr,zM,he,d,e1,f]
def al9(h:Rv v 2 (l.map aA))(e:l.length<=64)(H:List ae)(lo:oN):
  ∃v',D X0 (.fn (.func 71) [] []) [.agg [v]] ⟨H,lo⟩=some (.ret v' ⟨H,lo⟩)/\Rv v' 2 (l.map aA):=by
 obtain⟨v',d,b⟩:=aAr (H:=H++[.box [v] none]) (h _) (by unfold room;omega) none;refine⟨v',?_,b⟩;refine aH Qd λN c=>?_
 have a:=cY b (bB (λ_=>rfl) _);simp only[F1,go_sem,simprocAttr,Qd,c,d,a]
section
variable{p:cy}{q:Nat}{H:List ae}(h:H[q]?=some (.box (b8 p) none))
include h
theorem Vp(lo:oN):D X0 (.fn (.func 39) [] []) [.ptr q 0] ⟨H,lo⟩=some (.ret (.agg [nv p]) ⟨H,lo⟩):=by
 refine aH P2 λN d=>?_
 have b:dy EK.ptr (AV.ptr q 0) AV.eB=some false:=rfl;have a:=cY (sf p) (bB (λ_=>rfl) _);have c:=aZ (L:=[.box [.aq] none]) h;simp only[F1,go_sem,simprocAttr,P2,d,b,c,↓yh,a]
theorem ama(lo:oN):D X0 (.fn (.func 70) [] []) [.ptr q 0] ⟨H,lo⟩=some (.ret (.int .i64 p.n) ⟨H,lo⟩):=by
 refine aH Qc λN c=>?_
 have a:dy EK.ptr (AV.ptr q 0) AV.eB=some false:=rfl;have b: (b8 p)[0]?=some (.int .i64 p.n):=rfl;simp(disch:=omega) only[F1,go_sem,simprocAttr,Qc,a,h,b]
end
def aAs(f:Nat->Bool):dy (.agg [.bool,.bool,.bool,.bool,.bool,.bool,.bool,.bool]) (.agg (oU f)) (.agg [.bool false,.bool false,.bool false,.bool false,.bool false,.bool false,.bool false,.bool false])=some ((List.range 8).all λt=>!f t):=by
 have e:oU f=[.bool (f 0),.bool (f 1),.bool (f 2),.bool (f 3),.bool (f 4),.bool (f 5),.bool (f 6),.bool (f 7)]:=rfl;have a: ((List.range 8).all λt=>!f t)=(!f 0&& (!f 1&& (!f 2&& (!f 3&& (!f 4&& (!f 5&& (!f 6&& (!f 7&&true)))))))):=rfl;rw[e,a];generalize f 0=l;generalize f 1=k;generalize f 2=j;generalize f 3=i;generalize f 4=g;generalize f 5=d;generalize f 6=c;generalize f 7=b;rcases l with _|_
 rotate_left
 ·rfl
 rcases k with _|_
 rotate_left
 ·rfl
 rcases j with _|_
 rotate_left
 ·rfl
 rcases i with _|_
 rotate_left
 ·rfl
 rcases g with _|_
 rotate_left
 ·rfl
 rcases d with _|_
 rotate_left
 ·rfl
 rcases c with _|_
 rotate_left
 ·rfl
 cases b<;>rfl
section
variable{n M p q:Nat}{m:aV}{qv ev:AV}{aE aP:Nat->AV}{H:List ae}(ha:bJ n M p q m qv ev aE aP H)
include ha
def AH(m:aV):Bool:=(List.range 8).all (λt=>!m.ai.S.alive t)&&m.ai.Q.isEmpty
theorem Vq(e:m.ai.Q.length<1073741824)(lo:oN):D XC (.fn (.func 35) [] []) [.ptr M 0] ⟨H,lo⟩=some (.ret (.bool (AH m)) ⟨H,lo⟩):=by
 refine aH J1 λN k=>?_
 obtain⟨cv,d,g⟩:=GV ha e none;have b:dy EK.ptr (AV.ptr M 0) AV.eB=some false:=rfl;have f: (bp m.ai q cv)[1273]?=some cv:=Gw;have c:=aAs m.ai.S.alive;have j:decide ((m.ai.Q.length:Int)=0)=m.ai.Q.isEmpty:=by
  cases m.ai.Q with
  |nil=>rfl
  |cons a l=>rfl
 unfold AH;generalize(List.range 8).all (λt=>!m.ai.S.alive t)=i at*;cases i
 ·simp(disch:=omega) only[F1,go_sem,simprocAttr,J1,b,d,↓Mo,↓agr,c];rfl
 ·simp(disch:=omega) only[F1,go_sem,simprocAttr,J1,b,d,↓Mo,↓agr,c,f,g.bS]
  grind
def GX(m:aV):Bool:=decide (m.ai.P.free=[(0,m.ai.P.n)])
theorem amb(w:fh m.ai.P)(v:m.ai.Q.length<1073741824)(lo:oN):D XC (.fn (.func 36) [] []) [.ptr M 0] ⟨H,lo⟩=some (.ret (.bool (GX m)) ⟨H,lo⟩):=by
 refine aH J2 λN i=>?_
 obtain⟨cv,o,x⟩:=GV ha v none;have b:dy EK.ptr (AV.ptr M 0) AV.eB=some false:=rfl;have l: (bp m.ai q cv)[952]?=some (.ptr q 0):=yj;have g:=λlo=>c0 (Vp ha.co.fY lo)
 have d:=λlo=>c0 (ama ha.co.fY lo)
 obtain⟨fv,f1,f2⟩:=al9 (sf m.ai.P) w.free.ok.1 H none;have f1:=c0 f1;have s:=cY (sf m.ai.P) (bB (λ_=>rfl) _);unfold GX;by_cases j:m.ai.P.free.length=1
 ·have a: (m.ai.P.free.length:Int)=1:=by omega
  obtain⟨r,t⟩:=List.length_eq_one_iff.1 j;have k:0<m.ai.P.free.length:=by omega
  have f:m.ai.P.free.getD 0 default=r:=by grind
  have c: [AV.int .i64 0,.int .i64 m.ai.P.n]=aA (0,m.ai.P.n):=rfl;have u:Den.part true 2 (aA r) 0=some (.agg (aA r)):=rfl;have e1:decide (m.ai.P.free=[(0,m.ai.P.n)])=decide (r=(0,m.ai.P.n)):=by rw[t];exact afR.2 (by simp)
  rw[e1];simp only[F1,go_sem,simprocAttr,J2,i,b,o,l,g,d,f1,f2.bS,f2.cp,f2.c7 k,a,f2.apJ k,f,c,run_eq]
 ·have a: ¬(m.ai.P.free.length:Int)=1:=by omega
  have:decide (m.ai.P.free=[(0,m.ai.P.n)])=false:=aeq λe=>j (by rw[e];rfl)
  rw[this];simp only[F1,go_sem,simprocAttr,J2,i,b,o,l,g,f1,f2.bS,a]
end
section
variable{S:Type}{V:YV S}{b:Nat}
def MR(X:Ctx)(V:YV S)(b:Nat)(y:AV)(x:lA)(s:S)(Q:Bool->S->Prop):Prop:=
 ∀W,V.P s W->b<=W.length-> ∀lo,∃c d a,D X y x ⟨W,lo⟩=some (.ret (.bool c) ⟨a,lo⟩)/\V.P d a/\W.length<=a.length/\ (∀i,i<W.length-> ¬V.cA i->a[i]?=W[i]?)/\Q c d
def aAt{X:Ctx}(hr: ∀s,V.row s=none)(r:b<=V.c){y:AV}{x:lA}{s:S}{Q:Bool->S->Prop}(h:Iy X V b y x s Q):MR X V b y x s Q:=by
 intro W g f lo;obtain⟨c,d,o,aj,n,m,a,_,l,k⟩:=h W g f lo;rcases l with⟨rfl,_⟩| ⟨j,q,p,_⟩
 ·exact⟨c,d,o,n,m,a.1,λi e hp=>a.2 i e hp (by grind),k⟩
 ·omega
structure fO(V:YV S)(W0:List ae)(s:S)(W:List ae):Prop where
 P:V.P s W
 len:W0.length<=W.length
 fr: ∀i,i<W0.length-> ¬V.cA i->W[i]?=W0[i]?
variable(hV:V.Ok)(hr: ∀s,V.row s=none)(hp: ∀i,V.cA i->i<b)
include hV hr hp
theorem fO.cut{W c:List ae}{s:S}(g:b<=W0.length)(h:fO V W0 s W)(f:W0.length<=c.length)(d: ∀i,i<W0.length->c[i]?=W[i]?):fO V W0 s c:=
 ⟨hV.st _ _ _ h.P λi a=>(by grind),f,λi a e=>(d i a).trans (h.fr i a e)⟩
omit hV hr hp in
theorem fO.step{W a:List ae}{s c:S}(h:fO V W0 s W)(j:V.P c a)(g:W.length<=a.length)(f: ∀i,i<W.length-> ¬V.cA i->a[i]?=W[i]?):fO V W0 c a:=
 ⟨j,ahk h.len g,λi e d=>by rw[f i (by have:=h.len;omega) d];exact h.fr i e d⟩
theorem aAu(hb:b<=W0.length){y:AV}{yb:Nat}(Z:W0[yb]?=some (.box [y] none))(L: ¬V.cA yb){u:AV}(M:Rv v 2 (l.map aA))(Q:RB l){I:Nat->S->Prop}{J:S->Prop}{s:S}
  (t: ∀j,j<l.length-> ∀i,i< (l.getD j default).2-> ∀s,I (p+aI (l.take j)+i) s->MR XC V b y [.int .i64 ((l.getD j default).1+i:Nat),u] s (λc a=>if c=true then I (p+aI (l.take j)+i+1) a else J a))
  (hP:V.P s W0) (h0:I p s) (lo:oN):
  ∃c a o,D XC (.fn (.func 106) [] [.ptr yb 0]) [v,u] ⟨W0,lo⟩=some (.ret (.bool c) ⟨o,lo⟩)/\fO V W0 a o/\o.length=W0.length/\ (if c=true then I (p+aI l) a else J a):=by
 suffices h: ∃F,D XC (.fn (.func 106) [] [.ptr yb 0]) [v,u] ⟨W0,lo⟩=some F/\
   (λF=> ∃c a o,F=aU.ret (.bool c) ⟨o,lo⟩/\fO V W0 a o/\o.length=W0.length/\ (if c=true then I (p+aI l) a else J a)) F by
  obtain⟨F,h1,c,a,o,rfl,q⟩:=h;exact⟨c,a,o,h1,q⟩
 refine r7 Qr rfl rfl rfl λN hN=>?_
 have DK:=ew Z;have fin: ∀ {W:List ae} {s:S} {c:Bool},fO V W0 s W->finish N lo (.bool c) ⟨W,none⟩=(.bool c,⟨W.take N,lo⟩)/\fO V W0 s (W.take N)/\ (W.take N).length=W0.length:=λ {W s c} R=>by
  have Q:=R.len;refine⟨sb rfl,R.cut hV hr hp hb (by rw[afS];omega) (λi hi=>afT (by omega)),by rw[afS];omega⟩
 simp only[go_sem,simprocAttr,Qr,M.bS];refine eG l.length (λk e W=> ∃a,I (p+aI (l.take k)) a/\fO V W0 a W/\e 1=u/\e 2= .ptr yb 0/\e 9=v/\e 10= .int .i64 l.length/\e 11= .int .i64 k) 0 (by omega) ?_ ?_
 ·simp only[go_sem,simprocAttr];exact⟨s,by simpa[aI]using h0,⟨hP,afA _,λ_ _ _=>rfl⟩⟩
 rintro k R e W1 ⟨s1,T,z,e1,H,B,g,f⟩ n hn;simp only[bX,F1,go_sem,simprocAttr,aeR,B,g,f];refine⟨λh=>?_,λh=>?_⟩
 rotate_left
 ·obtain rfl:k=l.length:=by omega
  rw[afK]at T;obtain⟨f1,f2,f3⟩:=fin (c:=true) z;exact⟨_,_,_,rfl,f2,f3,T⟩
 have m:k<l.length:=by omega
 have vJ:=Q.2 _ (fx m);have P:=LF m;have t:=t k m;generalize O:l.getD k default=r at*;have Ly:N<=n:=by have:=z.len;omega
 simp(disch:=omega) only[go_sem,simprocAttr,M.cp,M.c7,h,hn,O];refine eG r.2 (λi e W=> ∃a,I (p+aI (l.take k)+i) a/\fO V W0 a W/\W[n]?=some (.box (aA r) none)/\e 1=u/\e 2= .ptr yb 0/\e 7= .ptr n 0/\e 9=v/\e 10= .int .i64 l.length/\e 11= .int .i64 k/\e 16= .int .i64 r.2/\e 17= .int .i64 i) 0 (by omega) ?_ ?_
 ·simp(disch:=omega) only[go_sem,simprocAttr,e1,H,B,g,f];exact⟨s1,T,z.cut hV hr hp hb (by have:=z.len;rw[aer];omega) λi hi=>adf (by have:=z.len;omega)⟩
 rintro i hi e W2 ⟨s2,A,d,G,e1,H,e7,B,g,f,E,C⟩ n2 hn2;simp only[bX,go_sem,simprocAttr,aeQ,e1,H,B,g,f,E,C];refine⟨λh2=>?_,λh2=>?_⟩
 rotate_left
 ·obtain rfl:i=r.2:=by omega
  have:=Q.1;exact⟨m,s2,by rw[P,<-akl];exact A,d,ahl _ (wrap_i64 (by omega) (by omega))⟩
 have w:i<r.2:=by omega
 obtain⟨c,s3,W3,K,p2,p3,Y,X⟩:=t i w s2 A W2 d.P (by have:=d.len;omega) none;have x:=d.step p2 p3 Y;have U:W2[yb]?=some (.box [y] none):=by rw[d.fr yb (by omega) L];exact Z
 have w3:W3[n]?=some (.box (aA r) none):=by rw[Y n (ew G) (λq=>by have:=hp _ q;omega)];exact G
 have r0: (aA r)[0]?=some (.int .i64 r.1):=rfl;rw[anW]at K;cases c
 ·obtain⟨f1,f2,f3⟩:=fin (c:=false) x;simp(disch:=omega) only[go_sem,simprocAttr,e1,e7,U,G,K];exact⟨_,_,_,by rw[f1],f2,f3,X⟩
 ·simp(disch:=omega) only[go_sem,simprocAttr,e1,H,e7,B,g,f,E,C,U,G,K];exact⟨w,s3,X,x,w3⟩
end
def eW(l:List aC):lN:=l.flatMap fg
def amc(r:aC): (fg r).length=r.2:=by simp[fg]
theorem pL: ∀l:List aC,(eW l).length=aI l
 | []=>rfl
 |r::l=>by
  show(fg r++eW l).length=r.2+aI l;rw[aer,amc,pL l]
def GY(a b:List aC):eW (a++b)=eW a++eW b:=ak1
def Vr[Inhabited α]{l:List α}(h:k<l.length):l.getD k default=l[k]:=by grind
def amd[Inhabited α]{l:List α}(h:k<l.length):l=l.take k++(l.getD k default::l.drop (k+1)):=by simp_all
def ame(c:j<l.length)(a:i< (l.getD j default).2): (eW l)[aI (l.take j)+i]?=some ((l.getD j default).1+i):=by
 have d:=ahl eW (amd c);rw[d,GY];generalize l.getD j default=r at*;rw[afJ (by rw[pL];omega),pL,ahB];show(fg r++eW (l.drop (j+1)))[i]?=_;rw[adf (by rw[amc];exact a)];simp[fg,a]
def MS[Inhabited α]{l:List α}(f:α->List β)(h:k<l.length): (l.take (k+1)).flatMap f=(l.take k).flatMap f++f (l.getD k default):=by
 rw[afX,aep h,Vr h,ak1];simp
def amf[Inhabited α]{l:List α}(f:α->List β)(h:k<l.length):l.flatMap f=(l.take k).flatMap f++(f (l.getD k default)++(l.drop (k+1)).flatMap f):=by
 have a:=ahl (List.flatMap f) (amd h)
 grind
def fG(m:aV)(t:Nat):aC:=match o9 m t with|some c=>c.run|none=>(0,0)
def ik(m:aV)(h:Nat):List aC:=(aG m.ai.S.T h).1.runs
def pF(P i:Nat)(k:Nat):lA:=[.int .i64 k,.ptr P i]
def ea(m:aV):List (Nat×Nat):=
 (eW m.ai.P.free).map (·,0)++((eW ((ba m.ai.S.T.b).flatMap (ik m))).map (·,1)++((eW ((List.range 8).flatMap λt=>[fG m t])).map (·,2)++m.ai.Q.map (·,3)))
def ss(P:Nat)(m:aV):List lA:=(ea m).map λx=>pF P x.2 x.1
def aAv(P:Nat)(m:aV):ss P m=(eW m.ai.P.free).map (pF P 0)++((eW ((ba m.ai.S.T.b).flatMap (ik m))).map (pF P 1)++((eW ((List.range 8).flatMap λt=>[fG m t])).map (pF P 2)++m.ai.Q.map (pF P 3))):=by
 unfold ss ea;simp only[afI,awm];rfl
section
variable{S:Type}{V:YV S}{b:Nat}(hV:V.Ok)(hr: ∀s,V.row s=none)(hp: ∀i,V.cA i->i<b)
include hV hr hp
theorem Vs(t:b<=W0.length){y:AV}{yb:Nat}(n:W0[yb]?=some (.box [y] none))(d: ¬V.cA yb){P c:Nat}(p:Rv v 2 (l.map aA))(q:RB l){I:Nat->S->Prop}{J:S->Prop}{s:S}
  {xs A B:List lA} (o:xs=A++((eW l).map (pF P c)++B))  (r:k=A.length)
  (e: ∀j x s,xs[j]?=some x->I j s->MR XC V b y x s (λc a=>if c=true then I (j+1) a else J a))
  (u:V.P s W0) (z:I k s) (lo:oN):
  ∃g a f,D XC (.fn (.func 106) [] [.ptr yb 0]) [v,.ptr P c] ⟨W0,lo⟩=some (.ret (.bool g) ⟨f,lo⟩)/\fO V W0 a f/\f.length=W0.length/\ (if g=true then I (k+aI l) a else J a):=by
 refine aAu hV hr hp t n d p q (λj h i m s w=>?_) u z lo;refine e _ _ s ?_ w;rw[o,r,akl,afJ (by omega),ahB,adf,afU,ame h m]
 ·rfl
 ·have:=adg.1 (ame h m)
  grind
end
section
set_option maxHeartbeats 2000000
def aAw{N:Nat}{H W:List ae}{ty:TypeId}(h:aQ N H v sz ty af)(e: ∀i,N<=i->i<H.length->W[i]?=H[i]?):aQ N W v sz ty af:=by
 refine⟨h.1,?_⟩;rcases h.2 with q| ⟨id,ak,d,b,a⟩
 ·grind
 grind
def C5(a b:List aC):aI (a++b)=aI a+aI b:=by unfold aI;simp
def amg{x:Core}:Den.part true 96 (bp x q qv) 0=some (.agg (bU x.S.T.b)):=by
 unfold bp;rw[nc (by rw[ep];omega) (by omega)];unfold bw;rw[nc (by rw[iA];omega) (by omega)];exact SF
def amh{x:Core}:Den.part true 480 (bp x q qv) 0=some (.agg (aN x.S.T)):=by
 unfold bp;rw[nc (by rw[ep];omega) (by omega)];exact Lf
section
variable{n M p q:Nat}{m:aV}{qv ev cv:AV}{aE aP:Nat->AV}{H:List ae}(ha:bJ n M p q m qv ev aE aP H)(hm:dG m)(GZ: ∀i,(m.aB i).c.aW.length<1073741824)(G4:Rv cv 1 (m.ai.Q.map ij))(hQl:m.ai.Q.length<1073741824)
include ha hm GZ G4 hQl
theorem aAy{S:Type}{V:YV S}(hV:V.Ok)(hr: ∀s,V.row s=none)(hc:b<=V.c)(ami: ∀s W,V.P s W-> ∃R,W=H++R)(a P:Nat):
  O9 XC V b (.fn (.func 105) [] [.ptr (a+2) 0,.ptr (a+1) 0,.ptr a 0]) a [.box [.ptr M 0] none,.box [.ptr P 0] none,.box (bp m.ai q cv) none] (ss P m):=by
 intro yi I J F8 G W s hP h0 vL aDM hG lo;obtain⟨y,hy⟩: ∃y,y=AV.fn (.yield yi) [] []:=⟨_,rfl⟩;rw[<-hy]at G⊢;have hp: ∀i,V.cA i->i<b:=λi u=>(F8 i u).1
 have G: ∀j x s,(ss P m)[j]?=some x->I j s->MR XC V b y x s (λc f=>if c=true then I (j+1) f else J f):=λj x s h1 h2=>aAt hr hc (G j x s h1 h2)
 suffices h: ∃cr,D XC (.fn (.func 105) [] [.ptr (a+2) 0,.ptr (a+1) 0,.ptr a 0]) [y] ⟨W,lo⟩=some cr/\
   (λcr=> ∃f d,cr=aU.ret (.aw []) ⟨d,lo⟩/\fO V W f d/\ (I (ss P m).length f\/J f)) cr by
  obtain⟨cr,h1,f,d,rfl,q1,q2⟩:=h;exact⟨f,d,lo,h1,q1.P,q2,by have:=q1.len;omega,λi u hq _=>q1.fr i (by omega) hq,.inl ⟨rfl,hr f⟩⟩
 have Ms: ∀E,oH E y none=some (.ptr E.heap.length 0,E.push (.box [y] none)):=λE=>by rw[hy];rfl
 refine r7 Kf rfl rfl rfl λN hN=>?_
 obtain rfl:N=b:=by omega
 have g0:W[a]?=some (.box [.ptr M 0] none):=hG 0 (by simp);have g1:W[a+1]?=some (.box [.ptr P 0] none):=hG 1 (by simp);have g2:W[a+2]?=some (.box (bp m.ai q cv) none):=hG 2 (by simp);have np: ∀j,j<3-> ¬V.cA (a+j):=λj hj h=>(F8 _ h).2 ⟨by omega,by simp;omega⟩
 have Z:=aAv P m;have w0: ∀L,(W++L)[a]?=some (.box [.ptr M 0] none):=λL=>aZ g0
 have w1: ∀L,(W++L)[a+1]?=some (.box [.ptr P 0] none):=λL=>aZ g1
 have w2: ∀L,(W++L)[a+2]?=some (.box (bp m.ai q cv) none):=λL=>aZ g2
 obtain⟨R,hR⟩:=ami s W hP;have Dp:=c0 (Vp (H:=W++[.box [y] none]) (by rw[hR,adV];exact(ha.app _).co.fY) none);obtain⟨fv,f1,f2⟩:=al9 (sf m.ai.P) hm.ai.P.free.ok.1 (W++[.box [y] none]) none;have f1:=c0 f1;have G5: ¬V.cA N:=λh=>by have:=hp _ h;omega
 have down: ∀ {z:List ae} {f:S} {d:List ae},N<=z.length->(∀i,i<N-> ¬V.cA i->z[i]?=W[i]?)->fO V z f d->fO V W f d:=λ {z f d} h1 h2 h=>⟨h.P,by have:=h.len;omega,λi u hq=>(h.fr i (by omega) hq).trans (h2 i (by omega) hq)⟩
 have fin: ∀ {f:S} {d:List ae},fO V W f d->finish N lo (.aw []) ⟨d,none⟩=(.aw [],⟨d.take N,lo⟩)/\fO V W f (d.take N):=λ {f d} hk=>by
  have hl:=hk.len;exact⟨sb rfl,hk.cut hV hr hp (by omega) (by rw[afS];omega) (λi u=>afT (by omega))⟩
 have Wq: ∀ {L:List ae},∀i,i<N-> ¬V.cA i->(W++L)[i]?=W[i]?:=λi u _=>adf (by omega)
 have D3:V.P s (W++[.box [y] none]):=hV.st _ _ _ hP λi u=>by
  rcases u with u|u
  ·exact adf (by have:=hp i u;omega)
  ·rw[hr]at u;cases u
 have wW:RB m.ai.P.free:=⟨by have:=hm.ai.P.free.ok.1;omega,λx Z=>by have:=(hm.ai.P.free.bd x Z).2;omega⟩;have wZ: (W++[.box [y] none])[N]?=some (.box [y] none):=by rw[dB hN];rfl
 obtain⟨c,s1,W1,a1,a2,a3,a4⟩:=Vs (J:=J) hV hr hp (W0:=W++[.box [y] none]) (by simp;omega) (y:=y) (yb:=N) wZ G5 (P:=P) (c:=0) f2 wW (A:=[]) Z rfl G D3 h0 none;have k1:fO V W s1 W1:=down (by simp;omega) Wq a2;cases c
 ·obtain⟨e1,e2⟩:=fin k1;simp(disch:=omega) only[go_sem,simprocAttr,Kf,hN,Ms,w1,w2,yj,Dp,f1,a1];rw[e1];exact⟨_,_,rfl,e2,.inr a4⟩
 have v2:W1[a+2]?=some (.box (bp m.ai q cv) none):=by rw[k1.fr _ (by have:=ew g2;omega) (np 2 (by omega))];exact g2
 have Bo:W1.length=N+1:=by rw[a3];simp;omega
 obtain⟨v,L,i1,i2⟩:=LA m.ai.S.T.b hm.ai.S.T.b (N+1) W1 Bo none;have G6:D X (.fn (.func 19) [] []) [.agg (bU m.ai.S.T.b)] ⟨W1,none⟩=some _:=qE (p:=mR) rfl i1;have i1:=cX G6;have Q:=(jJ i2 none).bS;have hlb:96<=(bp m.ai q cv).length:=by rw[vd];omega
 have hb:=amg (x:=m.ai) (q:=q) (qv:=cv);simp(disch:=omega) only[go_sem,simprocAttr,Kf,hN,Ms,w1,w2,yj,Dp,f1,a1,v2,↓hb,i1,Q];obtain⟨z,U⟩: ∃z,z=W1++L:=⟨_,rfl⟩;have hBl:N+1<=z.length:=by rw[U,aer];omega
 have MT: ∀i,i<N-> ¬V.cA i->z[i]?=W[i]?:=λi u hq=>by rw[U,adf (by omega)];exact k1.fr i (by omega) hq
 have hBy:z[N]?=some (.box [y] none):=by rw[U,adf (by omega),a2.fr N (by simp;omega) G5];exact wZ
 have kB:fO V z s1 z:=by
  refine⟨hV.st _ _ _ a2.P λi u=>?_,afA _,λ_ _ _=>rfl⟩;rcases u with u|u
  ·rw[U];exact adf (by have:=hp i u;omega)
  ·rw[hr]at u;cases u
 rw[<-U];rw[<-U]at i2;clear Q i1 G6 a1 Dp f1 hb;have facts: ∀ {f:S} {d:List ae},fO V z f d->d[N]?=some (.box [y] none)/\d[a]?=some (.box [.ptr M 0] none)/\d[a+1]?=some (.box [.ptr P 0] none)/\d[a+2]?=some (.box (bp m.ai q cv) none)/\N+1<=d.length/\ (∃R,d=H++R)/\aQ (N+1+1) d v 1 bY ((ba m.ai.S.T.b).map hC):=λ {f d} h=>by
  have hl:=h.len;have l2:=ew g2;refine⟨?_,?_,?_,?_,by omega,ami _ _ h.P,aAw i2 λi h1 h2=>h.fr i h2 λhq=>by have:=hp i hq;omega⟩
  ·rw[h.fr N (by omega) G5];exact hBy
  ·rw[h.fr a (by omega) (np 0 (by omega)),MT a (by omega) (np 0 (by omega))];exact g0
  ·rw[h.fr _ (by omega) (np 1 (by omega)),MT _ (by omega) (np 1 (by omega))];exact g1
  ·rw[h.fr _ (by omega) (np 2 (by omega)),MT _ (by omega) (np 2 (by omega))];exact g2
 have T: ∀ {f:S} {d:List ae},fO V z f d->finish N lo (.aw []) ⟨d,none⟩=(.aw [],⟨d.take N,lo⟩)/\fO V W f (d.take N):=λ {f d} hk=>fin (down (by omega) MT hk)
 have push: ∀ {f:S} {d:List ae} (o:ae),fO V z f d->V.P f (d++[o]):=λ {f d} o h=>hV.st _ _ _ h.P λi u=>by
  rcases u with u|u
  ·exact adf (by have:=hp i u;have:=h.len;omega)
  ·rw[hr]at u;cases u
 have bk: ∀ {f s2:S} {d F:List ae} {o:ae},fO V z f d->fO V (d++[o]) s2 F->fO V z s2 F:=λ {f s2 d F o} h h2=>⟨h2.P,by have:=h.len;have:=h2.len;simp at this;omega,λi u hq=>by
  have:=h.len;rw[h2.fr i (by simp;omega) hq,adf (by omega)];exact h.fr i u hq⟩
 obtain⟨l,hl⟩: ∃l,l=ba m.ai.S.T.b:=⟨_,rfl⟩;rw[<-hl]at Z i2 facts⊢;obtain⟨Y,MU⟩: ∃Y,Y=List.range 8:=⟨_,rfl⟩;rw[<-MU]at Z;have Lu:l.length<=32:=by rw[hl];exact mA _
 refine eG l.length (λk e d=> ∃f,I (aI m.ai.P.free+aI ((l.take k).flatMap (ik m))) f/\fO V z f d/\e 1= .ptr (a+2) 0/\e 2= .ptr (a+1) 0/\e 3= .ptr a 0/\e 4= .ptr N 0/\e 5= .fn (.func 106) [] [.ptr N 0]/\e 31=v/\e 32= .int .i64 l.length/\e 33= .int .i64 k) 0 (by omega) ?_ ?_
 ·simp(disch:=omega) only[go_sem,simprocAttr];exact⟨s1,by simpa[aI]using a4,kB⟩
 rintro k hk e F ⟨s2,w,K,e1,e2,e3,e4,e5,e31,e32,e33⟩ n2 C;obtain⟨u0,u1,u2,u3,u4,⟨R2,u5⟩,u6⟩:=facts K;simp(disch:=omega) only[bX,go_sem,simprocAttr,aeP,e31,e32,e33];refine⟨λh=>?_,λh=>?_⟩
 ·have r:k<l.length:=by omega
  have lr:Rd ⟨F,none⟩ v 1 (l.map hC):=jJ u6 none;have hL:=lr.c7 (X:=XC) (off:=0) (n:=1) (agg:=false) r;rw[pH]at hL;have gd:l.getD k default∈ba m.ai.S.T.b:=by rw[<-hl];exact fx r
  have gd:=(iE hm.ai.S.T.b).1 gd;have MV:=MS (ik m) r;have MW:=amf (ik m) r;generalize l.getD k default=h at*;have hh:=fU gd;have Bn:=c0 (r6 m.ai.S.T hm.ai.S.T h hh F none);have G7:=hm.ai.S.T.get h;obtain⟨c,s3,W3,b1,b2,b3,b4⟩:=Vs (J:=J) hV hr hp (W0:=F++[.box (bM (aG m.ai.S.T h).1) none]) (by simp;omega) (y:=y) (yb:=N) (aZ u0) G5 (P:=P) (c:=1) (l:=ik m h) (v:=ed (aG m.ai.S.T h).1.runs) (mz _) G7.rb.1
   (A:=(eW m.ai.P.free).map (pF P 0)++(eW ((l.take k).flatMap (ik m))).map (pF P 1)) (B:=(eW ((l.drop (k+1)).flatMap (ik m))).map (pF P 1)++((eW (Y.flatMap λt=>[fG m t])).map (pF P 2)++m.ai.Q.map (pF P 3)))
   (by rw[Z,MW,GY,GY];simp only[afI,adV]) (by simp only[aer,afB,pL]) G (push _ K) w none
  have k3:=bk K b2;have hT:=amh (x:=m.ai) (q:=q) (qv:=cv);have r2: (bM (aG m.ai.S.T h).1)[2]?=some (ed (aG m.ai.S.T h).1.runs):=rfl;have v1: (F++[.box (bM (aG m.ai.S.T h).1) none])[a+1]?=some (.box [.ptr P 0] none):=aZ u2;cases c
  ·obtain⟨q1,q2⟩:=T k3;simp(disch:=omega) only[go_sem,simprocAttr,e1,e2,e5,C,lr.cp,hL,u3,↓hT,Bn,lV,jt,v1,b1];exact⟨by omega,by rw[q1];exact⟨_,_,rfl,q2,.inr b4⟩⟩
  simp(disch:=omega) only[go_sem,simprocAttr,e1,e2,e3,e4,e5,e31,e32,e33,C,lr.cp,hL,u3,↓hT,Bn,lV,jt,v1,b1];refine⟨by omega,r,s3,?_,k3⟩;rw[MV,C5,<-akl];exact b4
 obtain rfl:k=l.length:=by omega
 rw[afK]at w;clear u0 u1 u2 u3 u4 u5 u6;refine eG 8 (λk e d=> ∃f,I (aI m.ai.P.free+aI (l.flatMap (ik m))+aI ((Y.take k).flatMap λt=>[fG m t])) f/\fO V z f d/\e 1= .ptr (a+2) 0/\e 2= .ptr (a+1) 0/\e 3= .ptr a 0/\e 4= .ptr N 0/\e 5= .fn (.func 106) [] [.ptr N 0]/\e 56= .int .i64 k) 0 (by omega) ?_ ?_
 ·simp(disch:=omega) only[go_sem,simprocAttr,e1,e2,e3,e4,e5];exact⟨s2,by simpa[aI]using w,K⟩
 rintro k hk e F ⟨s2,w,K,e1,e2,e3,e4,e5,e56⟩ n2 C;obtain⟨u0,u1,u2,u3,u4,⟨R2,u5⟩,u6⟩:=facts K;simp(disch:=omega) only[bX,go_sem,simprocAttr,aeO,e1,e3,e56];refine⟨λh=>?_,λh=>?_⟩
 ·have r:k<Y.length:=by rw[MU];simp;omega
  have MV:=MS (λt=>[fG m t]) r;have MW:=amf (λt=>[fG m t]) r;have hgk:Y.getD k default=k:=by rw[Vr r];simp[MU]
  rw[hgk]at MV MW;obtain⟨rv,c1,c2⟩:=alJ (H:=F) (by rw[u5];exact ha.app _) GZ k none;obtain⟨cl,ml,O⟩: ∃cl,(∃b,sq m k rv= .aw [.agg cl,.bool b])/\cl.length=12/\Den.part true 2 cl 9=some (.agg (aA (fG m k)))/\aM [(.int .i64 0),(.int .u8 0),(.int .u32 0),(.int .u32 0),(.int .u32 0),(.int .u32 0),(.int .u64 0),(.bool false),.aq,(.int .i64 0),(.int .i64 0),(.int .i64 0)] 0 cl=cl/\aK cl=0:=by
   unfold sq fG;cases Vt:o9 m k with
   |none=>exact⟨_,⟨_,rfl⟩,rfl,rfl,rfl,rfl⟩
   |some c=>exact⟨_,⟨_,rfl⟩,rfl,rfl,rfl,by rw[MG];exact cY (c2 c Vt) (bB (λ_=>rfl) _)⟩
  obtain⟨⟨b0,hu⟩,amn,O,Am,DW⟩:=And.intro ml O;have hur: (fG m k).1<65536/\ (fG m k).2<65536:=by
   unfold fG o9;split
   ·rename_i c hc;split at hc
    ·cases hc;exact(hm.c k).run
    ·cases hc
   ·decide
  have Mi: ∀g,Rv (.sl [aA (fG m k)] g) 2 ([fG m k].map aA):=λg=>.sl (by intro el h;simp at h;subst h;rfl)
  obtain⟨c,s3,W3,b1,b2,b3,b4⟩:=Vs (J:=J) hV hr hp (W0:=F++[.box cl none]) (by simp;omega) (y:=y) (yb:=N) (aZ u0) G5 (P:=P) (c:=2) (l:=[fG m k]) (Mi true) ⟨by simp,λx Z=>by simp at Z;subst Z;omega⟩
   (A:=(eW m.ai.P.free).map (pF P 0)++((eW (l.flatMap (ik m))).map (pF P 1)++(eW ((Y.take k).flatMap λt=>[fG m t])).map (pF P 2))) (B:=(eW ((Y.drop (k+1)).flatMap λt=>[fG m t])).map (pF P 2)++m.ai.Q.map (pF P 3))
   (by rw[Z,MW,GY,GY];simp only[afI,adV]) (by simp only[aer,afB,pL,akl]) G (push _ K) w none
  have k3:=bk K b2;have v1: (F++[.box cl none])[a+1]?=some (.box [.ptr P 0] none):=aZ u2;rw[hu]at c1;cases c
  ·obtain⟨q1,q2⟩:=T k3;simp(disch:=omega) only[go_sem,simprocAttr,e2,e5,C,u1,c1,Am,amn,DW,v1,↓O,b1];rw[q1];exact⟨_,_,rfl,q2,.inr b4⟩
  simp(disch:=omega) only[go_sem,simprocAttr,e1,e2,e3,e4,e5,e56,C,u1,c1,Am,amn,DW,v1,↓O,b1];refine⟨by omega,s3,?_,k3⟩;rw[MV,C5,<-akl];exact b4
 obtain rfl:k=8:=by omega
 rw[show Y.take 8=Y by rw[MU];rfl]at w;clear u0 u1 u2 u4 u5 u6;simp(disch:=omega) only[go_sem,simprocAttr,u3,Gw,G4.bS];refine eG m.ai.Q.length (λk e d=> ∃f,I (aI m.ai.P.free+aI (l.flatMap (ik m))+aI (Y.flatMap λt=>[fG m t])+k) f/\fO V z f d/\e 1= .ptr (a+2) 0/\e 2= .ptr (a+1) 0/\e 3= .ptr a 0/\e 4= .ptr N 0/\e 76=cv/\e 77= .int .i64 m.ai.Q.length/\e 78= .int .i64 k) 0 (by omega) ?_ ?_
 ·simp(disch:=omega) only[go_sem,simprocAttr,e1,e2,e3,e4];exact⟨s2,w,K⟩
 rintro k hk e F ⟨s2,w,K,e1,e2,e3,e4,e76,e77,e78⟩ n2 C;obtain⟨u0,u1,u2,u3,u4,⟨R2,u5⟩,u6⟩:=facts K;simp(disch:=omega) only[bX,F1,go_sem,simprocAttr,aeN,e76,e77,e78];refine⟨λh=>?_,λh=>?_⟩
 ·have r:k<m.ai.Q.length:=by omega
  have hq1: (ss P m)[aI m.ai.P.free+aI (l.flatMap (ik m))+aI (Y.flatMap λt=>[fG m t])+k]?=some (pF P 3 (m.ai.Q.getD k default)):=by
   rw[Z,<-adV,<-adV,afJ (by simp only[aer,afB,pL];omega)];simp only[aer,afB,pL,ahB,afU];rw[aep r,Vr r];rfl
  have hL:=G4.c7 (X:=XC) (E:=⟨F,none⟩) (off:=0) (n:=1) (agg:=false) r;have pq: ∀x:Nat,Den.part false 1 (ij x) 0=some (.int .i64 x):=λ_=>rfl
  rw[pq]at hL;have hQi:m.ai.Q.getD k default<2147483648:=hm.ai.Q _ (fx r);generalize m.ai.Q.getD k default=pg at*;obtain⟨c,s3,W3,b1,b2,b3,b4,b5⟩:=G _ _ s2 hq1 w F K.P (by omega) none;have b1:D XC y [.int .i64 pg,.ptr P 3] ⟨F,none⟩=_:=b1;have k3:=K.step b2 b3 b4;cases c
  ·obtain⟨q1,q2⟩:=T k3;simp(disch:=omega) only[go_sem,simprocAttr,e2,e4,G4.cp,hL,C,u0,u2,b1];exact⟨by omega,by rw[q1];exact⟨_,_,rfl,q2,.inr b5⟩⟩
  simp(disch:=omega) only[go_sem,simprocAttr,e1,e2,e3,e4,e76,e77,e78,G4.cp,hL,C,u0,u2,b1];exact⟨by omega,r,s3,b5,k3⟩
 obtain rfl:k=m.ai.Q.length:=by omega
 obtain⟨q1,q2⟩:=T K;refine⟨_,_,rfl,q2,.inl ?_⟩;have: (ss P m).length=aI m.ai.P.free+aI (l.flatMap (ik m))+aI (Y.flatMap λt=>[fG m t])+m.ai.Q.length:=by
  rw[Z];simp only[aer,afB,pL];omega
 rw[this];exact w
end
end
def aAD(k:Nat)(r:aC): (fg r).count k=cg k r:=by
 unfold fg cg;obtain⟨a,n⟩:=r
 induction n with
 |zero=>simp
 |succ n b=>
  rw[aog,afI,auT,b];simp only[ak9,asC,List.count_cons,List.count_nil,asa]
  grind
theorem amr(k:Nat): ∀l:List aC,(eW l).count k=cR k l
 | []=>rfl
 |r::l=>by
  show(fg r++eW l).count k=_;rw[auT,aAD,amr k l,lh]
theorem Vu{α:Type}(k:Nat)(f:α->List aC): ∀l:List α,cR k (l.flatMap f)=(l.map λx=>cR k (f x)).sum
 | []=>rfl
 |x::l=>by rw[aoX,ox,Vu k f l];rfl
theorem Vv{p:Nat->Bool}{f:Nat->Nat}: ∀l:lN,((l.filter p).map f).sum=(l.map λi=>bif p i then f i else 0).sum
 | []=>rfl
 |x::l=>by
  cases h:p x
  ·simp[h,Vv l]
  ·simp[h,Vv l]
def aAE(b:fC m.ai.S.T.b)(k:Nat):cR k ((ba m.ai.S.T.b).flatMap (ik m))=cT k m.ai.S.T:=by
 rw[Vu];unfold ba cT;rw[awm,Vv]
 congr 1
 refine anI λi a=>?_
 have a:=alI.1 a;unfold cS;cases h: (m.ai.S.T.b i).dc with
 |false=>rfl
 |true=>
  have d:az m.ai.S.T.b (dh i (m.ai.S.T.b i).gen)=true:=by rw[Lh b a];exact h
  have c:aL (dh i (m.ai.S.T.b i).gen)=i:=Cl (K9 a (b i).1);show cR k (ik m _)=cR k _;unfold ik;rw[GW d,c]
def aAF{n:Nat}(h:ek n m)(k:Nat):cR k ((List.range 8).flatMap λt=>[fG m t])=cL k m.aB:=by
 rw[Vu];unfold cL
 congr 1
 refine anI λt d=>?_
 rw[lh,vl];unfold fG o9;cases b: (m.aB t).busy
 ·rw[adU (by simp)];have:=h.idle t b;rw[sr];generalize(m.aB t).c.run=r at*;obtain⟨a,c⟩:=r;subst this;rw[sr]
 grind
def yp(m:aV):lN:=(ea m).map (·.1)
def G8(m:aV):yp m=eW m.ai.P.free++(eW ((ba m.ai.S.T.b).flatMap (ik m))++(eW ((List.range 8).flatMap λt=>[fG m t])++m.ai.Q)):=by
 unfold yp ea;simp only[afI,awm]
 congr 1
 ·exact List.map_id _
 congr 1
 ·exact List.map_id _
 congr 1
 ·exact List.map_id _
 ·exact List.map_id _
def aAG{n:Nat}(h:ek n m)(a:fC m.ai.S.T.b)(k:Nat): (yp m).count k=if k<n then 1 else 0:=by
 rw[<-h.pc k,G8];simp only[auT,amr,aAE a,aAF h];unfold cM cW;omega
def G9{n:Nat}(h:ek n m)(a:fC m.ai.S.T.b): (yp m).Perm (List.range n):=by
 rw[List.perm_iff_count];intro k;rw[aAG h a,List.count_range]
def iK(m:aV):Nat:=aI m.ai.P.free
def nz(m:aV):Nat:=aI ((ba m.ai.S.T.b).flatMap (ik m))
def pM(m:aV):Nat:=aI ((List.range 8).flatMap λt=>[fG m t])
def Vw{n:Nat}(h:ek n m)(a:fC m.ai.S.T.b):iK m+nz m+pM m+m.ai.Q.length=n:=by
 have:=(G9 h a).length_eq;rw[G8,auS]at this;simp only[aer,pL]at this;unfold iK nz pM;omega
def ams{n:Nat}(h:ek n m)(b:fC m.ai.S.T.b)(a:k∈yp m):k<n:=alI.1 ((G9 h b).mem_iff.1 a)
def amt{n:Nat}(h:ek n m)(a:fC m.ai.S.T.b): (yp m).Nodup:=(G9 h a).nodup_iff.2 ayW
section
set_option maxHeartbeats 2000000
section
variable{n M p q:Nat}{m:aV}{qv ev:AV}{aE aP:Nat->AV}{H:List ae}(ha:bJ n M p q m qv ev aE aP H)(hQ:m.ai.Q.length<1073741824)
include ha hQ
theorem aAH(P:Nat)(k:P<H.length)(K:Nat)(o:H.length=K)(lo:oN): ∃cv,Rv cv 1 (m.ai.Q.map ij)/\D XC (.fn (.func 69) [] []) [.ptr M 0,.ptr P 0] ⟨H,lo⟩=some (.ret (.fn (.func 105) [] [.ptr (K+2) 0,.ptr (K+1) 0,.ptr K 0]) ⟨H++[.box [.ptr M 0] none,.box [.ptr P 0] none,.box (bp m.ai q cv) none],lo⟩):=by
 obtain⟨cv,g,b⟩:=GV (ha.app [.box [.ptr M 0] none,.box [.ptr P 0] none]) hQ none;refine⟨cv,b,?_⟩;refine aH Qb λN f=>?_
 obtain rfl:K=N:=by omega
 have l:=ha.lt;have a:jS.length=1274:=by rw[GQ,aer,ep,aer,aer,eh];rfl
 have d:aM jS 0 (bp m.ai q cv)=bp m.ai q cv:=nQ (by rw[a,vd]);have e:aK (bp m.ai q cv)<=K+2:=by
  rw[Mm];have:=cY b (bB (λ_=>rfl) _);have:=ha.co.qp;have:=ha.co.lt;omega
 have j: ∀E:AS,oH E (.ptr M 0) none=some (.ptr E.heap.length 0,E.push (.box [.ptr M 0] none)):=λ_=>rfl
 have h: ∀E:AS,oH E (.ptr P 0) none=some (.ptr E.heap.length 0,E.push (.box [.ptr P 0] none)):=λ_=>rfl
 simp only[go_sem,simprocAttr,Qb,f,j,h,g,d,a,vd];rw[adY (by omega),Ah (by omega)]
end
def cI(L:List (Nat×Nat))(i:Nat):Nat:=L.countP λx=>x.2==i
def aAI(L:List (Nat×Nat))(x:Nat×Nat)(i:Nat):cI (L++[x]) i=cI L i+if x.2=i then 1 else 0:=by
 unfold cI
 grind
def sI(L:List (Nat×Nat))(k:Nat):Bool:=decide (k∈L.map (·.1))
def aAJ(L:List (Nat×Nat))(x:Nat×Nat):sI (L++[x])=ar (sI L) x.1 true:=by
 unfold sI ar
 grind
def je(L:List (Nat×Nat)):lA:=[.int .i64 (cI L 0),.int .i64 (cI L 1),.int .i64 (cI L 2),.int .i64 (cI L 3)]
def yq(f:Nat->Bool):lA:=arr 64 λk=>[.bool (f k)]
def aAK{f:Nat->Bool}(h:k<64):Den.part false 1 (yq f) k=some (.bool (f k)):=by
 have:=kH (ag:=false) (m:=1) (n:=64) (k:=1) (i:=k) (o:=0) (f:=λi=>[AV.bool (f i)]) (λ_=>rfl) h (by omega) (by omega);rw[show k*1+0=k by omega]at this;exact this
def aAL{f:Nat->Bool}(h:k<64):aM (yq f) k [.bool true]=yq (ar f k true):=by
 have:=nR (n:=64) (k:=1) (i:=k) (o:=0) (vs:=[AV.bool true]) (f:=λi=>[AV.bool (f i)]) (λ_=>rfl) h (by simp);rw[show k*1+0=k by omega]at this;unfold yq;rw[this];exact ahl (arr 64) (oS (λv:Bool=>[AV.bool v]) f k true).symm
theorem aAM(f:Nat->Bool): (yq f).length=64:=by rfl
def Ha{L:List (Nat×Nat)}(h:i<4): (je L)[i]?=some (.int .i64 (cI L i)):=by
 rcases(show i=0\/i=1\/i=2\/i=3 by omega)with rfl|rfl|rfl|rfl<;>rfl
def aAN{L:List (Nat×Nat)}(h:i<4):aM (je L) i [.int .i64 ((cI L i:Nat)+1:Int)]=je (L++[(k,i)]):=by
 unfold je;rcases(show i=0\/i=1\/i=2\/i=3 by omega)with rfl|rfl|rfl|rfl<;>simp[aAI,aM]
def aAO{x:Nat×Nat}(h:x∈ea m):x.2<4:=by
 unfold ea at h
 grind
def amu(m:aV):cI (ea m) 0=iK m/\cI (ea m) 1=nz m/\cI (ea m) 2=pM m/\cI (ea m) 3=m.ai.Q.length:=by
 unfold cI ea iK nz pM;simp only[List.countP_append,List.countP_map,<-pL];have key: ∀ (i j:Nat) (l:lN),List.countP ((λx:Nat×Nat=>x.2==j) ∘ λk=>(k,i)) l=if i=j then l.length else 0:=by
  intro i j l
  induction l with
  |nil=>simp
  |cons a l b=>grind
 simp_all
section
variable{n M p q np:Nat}{m:aV}{qv ev:AV}{aE aP:Nat->AV}{H:List ae}(ha:bJ n M p q m qv ev aE aP H)(hm:dG m)(GZ: ∀i,(m.aB i).c.aW.length<1073741824)(hQ:m.ai.Q.length<1073741824)(hp:ek np m)
include ha hm GZ hQ hp
theorem amv(lo:oN):D XC (.fn (.func 34) [] []) [.ptr M 0] ⟨H,lo⟩=some (.ret (.aw [.agg (je (ea m)),.int .i64 0]) ⟨H,lo⟩):=by
 refine aH P0 λN I=>?_
 have V:dy EK.ptr (AV.ptr M 0) AV.eB=some false:=rfl;have z0: [AV.int .i64 0,.int .i64 0,.int .i64 0,.int .i64 0]=je []:=rfl;have z1:aeo=yq (sI []):=rfl;obtain⟨cv,c2,c1⟩:=aAH (ha.app [.box (je []) none,.box [.int .i64 0] none,.box (je []) none,.box (yq (sI [])) none]) hQ (N+2) (by simp;omega) (N+4) (by simp;omega) none;have Pc:=hp.np;have aDQ:=hm.ai.P.n;simp only[go_sem,simprocAttr,P0,I,V,z0,z1,c1];have hx: ∀ {j:Nat} {x:lA},(ss (N+2) m)[j]?=some x-> ∃y,(ea m)[j]?=some y/\x=pF (N+2) y.2 y.1:=λ {j x} h=>by
  unfold ss at h;rw[afU]at h;cases v: (ea m)[j]? with
  |none=>rw[v]at h;cases h
  |some y=>rw[v]at h;cases h;exact⟨y,rfl,rfl⟩
 refine aek (S:=List (Nat×Nat)) (λe=>e 0= .ptr M 0/\e 2= .ptr N 0/\e 3= .ptr (N+1) 0/\e 4= .ptr (N+2) 0/\e 5= .ptr (N+3) 0) (by simp only[go_sem,simprocAttr]) (ss (N+2) m) I [.box [.ptr M 0] none,.box [.ptr (N+2) 0] none,.box (bp m.ai q cv) none] (λs=>[.box (je []) none,.box [.int .i64 0] none,.box (je s) none,.box (yq (sI s)) none]) (nB:=4) (λ_=>rfl) []
  (λj s=>s=(ea m).take j) (λ_ _=>False) rfl ?_ (by simp) rfl (λex s h=>h.elim) ?_ ?_ (λe _ ex s l p _ h=>h.elim)
 ·refine aAy (cv:=cv) ha hm GZ c2 hQ ?_ (λ_=>rfl) (afA _) ?_ (N+4) (N+2)
  ·refine Iz (Pg ?_);intro s;rfl
  ·intro s W h;refine⟨W.drop N,?_⟩;have:=iQ.take (N:=N) h.1.1 I;rw[<-this,ai7]
 ·rintro e ⟨e0,e2,e3,e4,e5⟩ j x s P rfl;obtain⟨⟨pg,i⟩,v,rfl⟩:=hx P;obtain⟨C,E⟩:=adg.1 v;have g: (pg,i)∈ea m:=E ▸ ar6 C;have F:i<4:=aAO g;have A:pg<np:=ams hp hm.ai.S.T.b (afH.2 ⟨_,g,rfl⟩);have o: (ea m).take (j+1)=(ea m).take j++[(pg,i)]:=by rw[afX,v];rfl
  have B:sI ((ea m).take j) pg=false:=by
   refine aeq λh=>?_
   have t:=amt hp hm.ai.S.T.b;unfold yp at t;rw[<-ai7 j ((ea m).map (·.1))]at t;refine(aBl.1 t).2.2 pg (by rw[<-List.map_take];exact h) pg ?_ rfl;rw[<-List.map_drop,anc C,E];simp
  rw[o];have U:=aAJ ((ea m).take j) (pg,i);have MD:=aAN (L:=(ea m).take j) (k:=pg) F;have hc2:=Ha (L:=(ea m).take j) F;have T:=aAL (f:=sI ((ea m).take j)) (show pg<64 by omega);have Q:=aAK (f:=sI ((ea m).take j)) (show pg<64 by omega);have ml:cI ((ea m).take j) i<9223372036854775807:=by
   have h1:cI ((ea m).take j) i<=((ea m).take j).length:=List.countP_le_length;have h2: ((ea m).take j).length<=(ea m).length:=by rw[afS];omega
   have h3:=(G9 hp hm.ai.S.T.b).length_eq;unfold yp at h3;rw[afB,auS]at h3;omega
  generalize(ea m).take j=L at*;refine⟨rfl,λW n' hn hnl J=>?_⟩;simp only[go_sem,simprocAttr,hU,pF];refine⟨[],by simp,λW2 Te G=>?_⟩;simp only[gr,gq,anX,afM,Nat.reduceAdd]at G;obtain⟨w0,w1,K,w3⟩:=G;have p1: ¬(pg:Int)<0:=by omega
  have p2: ¬(pg:Int)>=64:=by omega
  simp(disch:=omega) only[go_sem,simprocAttr,aeD,e5,K,w3,MD,hc2,T,Q,B,p1,p2,rq];refine⟨by omega,by omega,by rw[aAM];omega,by show i+1<=4;omega,L++[(pg,i)],?_,λk hk1 hk2=>?_,rfl⟩
  ·simp only[gr,gq,anX,afM,Nat.reduceAdd];refine⟨?_,?_,?_,?_⟩
   ·rw[adb (by omega),adb (by omega)];exact w0
   ·rw[adb (by omega),adb (by omega)];exact w1
   ·rw[afD (by simp;omega)]
   ·rw[adb (by omega),afD (by omega),U]
  ·rw[adb (by omega),adb (by omega)]
 ·rintro e ⟨e0,e2,e3,e4,e5⟩ s l p Bp rfl d J hd;have O: (ss (N+2) m).length=(ea m).length:=afB _;rw[O,afK]at J;simp only[gr,gq,anX,afM,Nat.reduceAdd]at J;obtain⟨w0,w1,K,w3⟩:=J;have o:=iQ.take d I;obtain⟨R,hR⟩: ∃R,l=H++R:=⟨l.drop N,by rw[<-o,ai7]⟩;have u:=ha.app R;rw[<-hR]at u;obtain⟨cv',d1,d2⟩:=GV u hQ none;have A:=c0 (ama u.co.fY none);have g9: (bp m.ai q cv')[952]?=some (.ptr q 0):=yj;obtain⟨n0,n1,n2,n3⟩:=amu m;have f0: (je (ea m))[0]?=some (.int .i64 (iK m)):=by rw[Ha (by omega),n0]
  have f1: (je (ea m))[1]?=some (.int .i64 (nz m)):=by rw[Ha (by omega),n1]
  have f2: (je (ea m))[2]?=some (.int .i64 (pM m)):=by rw[Ha (by omega),n2]
  have f3: (je (ea m))[3]?=some (.int .i64 m.ai.Q.length):=by rw[Ha (by omega),n3]
  have w:=Vw hp hm.ai.S.T.b;rw[<-hp.np]at w;have r: ((iK m:Int)+nz m+pM m+m.ai.Q.length)=m.ai.P.n:=by omega
  have X:Den.part true 4 (je (ea m)) 0=some (.agg (je (ea m))):=rfl;have Y: ∀L,(je L).length=4:=λ_=>rfl
  have z: ∀L,aK (je L)=0:=λ_=>rfl
  have Z:List.drop 4 (je [])=[]:=rfl;have s1: ∀a b c,(((l.set N a).set (N+1) b).set p c).take N=H:=λa b c=>(((d.set (by omega)).set (by omega)).set (by omega)).take I
  have s2: ∀a b,((l.set N a).set (N+1) b)[p]?=some .bt:=λa b=>by rw[adb (by omega),adb (by omega)];exact hd
  have s3: ∀a,(l.set N a)[N+1]?=some (.box [.int .i64 0] none):=λa=>by rw[adb (by omega)];exact w1
  have s4: ∀a b c,(((l.set N a).set (N+1) b).set p c)[N]?=some a:=λa b c=>by rw[adb (by omega),adb (by omega)];exact cG w0
  have s5: ∀a b c,(((l.set N a).set (N+1) b).set p c)[N+1]?=some b:=λa b c=>by rw[adb (by omega),afD (by rw[afN];exact ew w1)]
  simp(disch:=omega) only[go_sem,simprocAttr,e0,e2,e3,e4,w0,K,d1,A,g9,f0,f1,f2,f3,r,X,Y,z,Z,afW,nm,s2,s3,s4,s5];rw[sb (by simp[AV.refs,aK,z]),s1]
end
end
def wJ:aV:=fz 4 [[]] 1
def wq1:aV:=(j7 wJ 16).1
theorem aAS:GX wJ=true:=by rfl
theorem aAT:AH wJ=false:=by rfl
theorem aAU:AH wq1=true:=by rfl
theorem aAV:je (ea wJ)=[.int .i64 4,.int .i64 0,.int .i64 0,.int .i64 0]:=by rfl
theorem aAW:og ⟨4,[[]],List.map UInt8.toNat []⟩=true:=by rfl
def aAX(H:List ae)(lo:oN): ∃E,D XC (.fn (.func 32) [] []) [] ⟨H,lo⟩=some (.ret (.bool true) E):=by
 suffices Q: ∃c,D XC (.fn (.func 32) [] []) [] ⟨H,lo⟩=some c/\ (λc=> ∃E,c= .ret (.bool true) E) c by grind
 refine cE PY λN p=>?_
 have k:GG 4 [[]] [] (.sl [[S []]] true) .aq:=⟨.sl (λel h=>by grind),.aq,by decide,by decide⟩;obtain⟨c,g,aE,d,rfl,y,M⟩:=aly (n:=4) k aAW N H p none;have b:=alC (n:=4) (aD:=[[]]) (pv:=.sl [[S []]] true) (kv:=.aq) (H:=H) p y;have g:D XC (.fn (.func 33) [] []) [.agg [.int .i64 4,.sl [[S []]] true,.aq]] ⟨H,none⟩=_:=g;have B:dy EK.ptr (AV.ptr (N+1) 0) AV.eB=some false:=rfl;have j:sk wJ:=alB (by decide) _ _;have O:=alL 4 [[]] 1;have e: ∀i,(wJ.aB i).c.aW.length<1073741824:=λi=>by show 0<1073741824;decide
 have C:ek 4 wJ:=al7 _ _;generalize mU (fz 4 [[]] [[]].length) 4 N (.sl [[S []]] true) .aq aE H=W at*;have b:bJ N (N+1) (N+3) (N+2) wJ .aq .aq aE (λ_=>.aq) W:=b;have t:=λlo=>amv b j.ok e (by decide) C lo
 rw[aAV]at t;have P: [ae.box [AV.int .i64 4,.int .i64 0,.int .i64 0,.int .i64 0] none]=[ae.box [AV.int .i64 4,.int .i64 0,.int .i64 0,.int .i64 0] none]:=rfl;have a:=b.app [ae.box [AV.int .i64 4,.int .i64 0,.int .i64 0,.int .i64 0] none];have s:=λlo=>amb a j.ok.ai.P (by decide) lo
 have r:=λlo=>Vq a (by decide) lo
 rw[aAS]at s;rw[aAT]at r;obtain⟨c,f,v,J,q,o,m,z,rfl,x,w,L⟩:=alr alP a j (by decide) 16 (by omega) d;have K:=λlo=>Vq x (by decide) lo
 have l: ∀lo,D XC (.fn (.func 35) [] []) [.ptr (N+1) 0] ⟨m,lo⟩=some (.ret (.bool true) ⟨m,lo⟩):=λlo=>by rw[K,show AH (j7 wJ 16).1=true from aAU]
 have f:D XC (.fn (.func 30) [] []) [.ptr (N+1) 0,.int .u8 16] ⟨W++[ae.box [AV.int .i64 4,.int .i64 0,.int .i64 0,.int .i64 0] none],d⟩=_:=f;have I:=b.lt;have G:=b.co.lt;have F:=ew b.co.fY;have u:m[W.length]?=some (.box [.int .i64 4,.int .i64 0,.int .i64 0,.int .i64 0] none):=w.own (by simp;omega) (by rw[dB rfl];rfl);have A:dy (.agg [.int,.int,.int,.int]) (.agg [.int .i64 4,.int .i64 0,.int .i64 0,.int .i64 0]) (.agg [.int .i64 4,.int .i64 0,.int .i64 0,.int .i64 0])=some true:=rfl;simp only[go_sem,simprocAttr,PY,g,t,s,r,f,l,u,A];exact⟨_,by rw[alQ (aeu _)]⟩
def aAY{r:aC}:k∈fg r↔r.1<=k/\k<r.1+r.2:=by
 unfold fg;simp only[afH,alI];constructor
 ·omega
 ·intro h;exact⟨k-r.1,by omega,by omega⟩
def MX:k∈eW l↔ ∃r∈l,r.1<=k/\k<r.1+r.2:=by
 unfold eW;simp only[apS,aAY]
section
variable{n:Nat}{m:aV}(h:ek n m)(hb:fC m.ai.S.T.b)
include h hb
theorem aAZ: ∀k∈eW m.ai.P.free,k<n:=λk a=>ams h hb (by rw[G8];grind)
theorem aA0: (eW m.ai.P.free).Nodup:=by
 have:=amt h hb;rw[G8]at this
 grind
theorem aA1(b:fh m.ai.P): (List.range n).countP (λk=>uP m.ai.P.free k)=iK m:=by
 unfold iK;rw[<-pL,List.countP_eq_length_filter];refine List.Perm.length_eq ?_;refine(List.perm_ext_iff_of_nodup (ayW.sublist List.filter_sublist) (aA0 h hb)).2 λk=>?_
 rw[afY,alI,MX];have a:=b.n;rw[h.np]at a;unfold uP holds;constructor
 ·grind
 ·rintro⟨r,e,d,c⟩;have:=aAZ h hb k (MX.2 ⟨r,e,d,c⟩)
  grind
theorem aA2(q:fh m.ai.P)(D:1<=n):GX m=decide (iK m=n):=by
 unfold GX;refine afR.2 ?_;rw[h.np];constructor
 ·intro e;unfold iK;rw[e];simp[aI]
 ·intro e;have d: (eW m.ai.P.free).Perm (List.range n):=by
   have g:=G9 h hb;have C:=Vw h hb;rw[G8]at g;have E:eW ((ba m.ai.S.T.b).flatMap (ik m))=[]:=aCn (by rw[pL];unfold iK nz at*;omega);have e3:eW ((List.range 8).flatMap λt=>[fG m t])=[]:=aCn (by rw[pL];unfold iK pM at*;omega)
   grind
  have b: ∀k,k<n-> ∃r∈m.ai.P.free,r.1<=k/\k<r.1+r.2:=λk u=>MX.1 (d.mem_iff.2 (alI.2 u))
  have f: ∀r∈m.ai.P.free,r.1+r.2<=n:=λr i=>by
   have g:=(q.free.bd r i).1;have:=alI.1 (d.mem_iff.1 (MX.2 ⟨r,i,show r.1<=r.1+r.2-1 by omega,by omega⟩));omega
  have o:=q.free.pw;generalize m.ai.P.free=l at*
  match l with
  | []=>obtain⟨r,i,_⟩:=b 0 (by omega);cases i
  | [r]=>
    obtain⟨B,w,g,_⟩:=b 0 (by omega);obtain rfl:=afC.1 w;obtain⟨p,s,_,v⟩:=b (n-1) (by omega);obtain rfl:=afC.1 s;have:=f p (afC.2 rfl);obtain⟨a,c⟩:=p;dsimp only at*;rw[show a=0 by omega,show c=n by omega]
  |r::y::t=>
   have g:=(ak8.1 o).1;have s:=f y (by simp);have v:r.1+r.2<y.1:=g y (by simp);obtain⟨z,j,A,x⟩:=b (r.1+r.2) (by omega);rcases ag7.1 j with rfl|j
   ·omega
   ·have:r.1+r.2<z.1:=g z j;omega
end
section
set_option maxHeartbeats 2000000
def wC(a b c d:Nat):lA:=[.int .i64 a,.int .i64 b,.int .i64 c,.int .i64 d]
def yr(m:aV)(k:Nat):Bool:=(List.range k).any m.ai.S.alive
def aA3(m:aV)(k:Nat):yr m (k+1)=(yr m k||m.ai.S.alive k):=by unfold yr;grind
def yt(m:aV)(k:Nat):Nat:=(List.range k).countP λi=>uP m.ai.P.free i
def aA4(m:aV)(k:Nat):yt m (k+1)=yt m k+if uP m.ai.P.free k then 1 else 0:=by unfold yt;rw[aog,List.countP_append];grind
def aA5(m:aV)(k:Nat):yt m k<=k:=by
 have:=List.countP_le_length (p:=λi=>uP m.ai.P.free i) (l:=List.range k);rw[auS]at this;exact this
def su(m:aV)(k:Nat):Nat:=aI (((ba m.ai.S.T.b).take k).flatMap (ik m))
def aA6(h:k< (ba m.ai.S.T.b).length):su m (k+1)=su m k+aI (ik m ((ba m.ai.S.T.b).getD k default)):=by
 unfold su;rw[MS _ h,C5]
def amw(m:aV)(k:Nat):su m k<=nz m:=by
 unfold su nz;have a: (ba m.ai.S.T.b).flatMap (ik m)=((ba m.ai.S.T.b).take k).flatMap (ik m)++((ba m.ai.S.T.b).drop k).flatMap (ik m):=by
  rw[<-ak1,ai7]
 rw[a,C5];omega
def wK(m:aV)(k:Nat):Nat:=aI (((List.range 8).take k).flatMap λt=>[fG m t])
def aA7(h:k<8):wK m (k+1)=wK m k+(fG m k).2:=by
 have a:k< (List.range 8).length:=by grind
 have b: (List.range 8).getD k default=k:=by grind
 unfold wK;rw[MS _ a,C5,b];rfl
def amx(m:aV)(k:Nat):wK m k<=pM m:=by
 unfold wK pM;have a: (List.range 8).flatMap (λt=>[fG m t])=((List.range 8).take k).flatMap (λt=>[fG m t])++((List.range 8).drop k).flatMap (λt=>[fG m t]):=by
  rw[<-ak1,ai7]
 rw[a,C5];omega
def aA8{N c o:Nat}{ty:TypeId}{H:List ae}(h:aQ N H v sz ty af)(d:j<af.length): (FP.rd a b c).ok (pY k (gg v j o))=true:=by
 rcases h.2 with⟨_,rfl⟩| ⟨id,ak,_,rfl,_⟩
 ·grind
 ·rfl
section
variable{np:Int}{aD:List lB}{bb:lB}{pv:AV}(h:MH np aD bb pv)
include h
theorem aA9(H:List ae)(lo:oN):
  ∃cr,D XC (.fn (.func 9) [] []) [.agg (eA np pv bb)] ⟨H,lo⟩=some cr/\ ∃E,cr= .ret (.bool true) E:=by
 refine cE E7 λN hN=>?_
 have hw:=aAX;have hr:=azv h;have hl: (eA np pv bb).length=3:=rfl;have ht:List.take 3 (eA np pv bb)=eA np pv bb:=rfl;have T:=λH lo=>c0 (azx h H lo)
 have P: ∀E:AS,∃E',aU.ret (finish N lo (.bool true) E).1 (finish N lo (.bool true) E).2= .ret (.bool true) E':=λE=>⟨_,by rw[alQ (aeu _)]⟩
 obtain⟨Vx,Gm⟩:=hw (H++[.box (eA np pv bb) none]) none;obtain⟨g,hg⟩: ∃g,g=MI aD bb:=⟨_,rfl⟩;rw[<-hg]at T;cases g with
 |true=>
  simp(disch:=omega) only[go_sem,simprocAttr,E7,hN,hl,ht,T,Gm];exact P Vx
 |false=>
  have Y:wI aD bb=false/\bb.length<=1500:=by
   unfold MI at hg;have hg:=hg.symm;simp only[Bool.or_eq_false_iff,decide_eq_false_iff_not]at hg;exact⟨hg.1,by omega⟩
  have AZ:=λH lo=>c0 (azz h Y.1 H lo)
  obtain⟨sm,f⟩: ∃g,g=og ⟨np,aD,bb.map UInt8.toNat⟩:=⟨_,rfl⟩;rw[<-f]at AZ;cases sm with
  |false=>
   simp(disch:=omega) only[go_sem,simprocAttr,E7,hN,hl,ht,T,AZ,Gm];exact P Vx
  |true=>
   clear Gm Vx;obtain⟨kv,o1,o2⟩:=azy h Y.1 (H++[.box (eA np pv bb) none]) none;have o1:=c0 o1;have UP: ∃n:Nat,np=n:=⟨np.toNat,by unfold og at f;have f:=f.symm;simp at f;omega⟩;obtain⟨n,rfl⟩:=UP;obtain⟨cr,r1,M,p,q,qv,ev,aE,aP,ov2,H1,L7,rfl,S,r3,r4,r5⟩:=azf alP o2 f.symm (N+1) (H++[.box (eA n pv bb) none]) (by simp[hN]) none;have hpn:dy EK.ptr (AV.ptr M 0) AV.eB=some false:=rfl;have C:H1[N]?=some (.box (eA n pv bb) none):=by rw[r5 N (by omega),dB hN];rfl
   have t:1<=n/\n<=64/\bb.length<=4000:=by unfold og at f;have f:=f.symm;simp at f;omega
   obtain⟨F,k2⟩:=GU ⟨t.1,t.2.1⟩ aD t.2.2 bb.length (afA _);have k3:=alM ⟨t.1,t.2.1⟩ aD t.2.2 bb.length (afA _);have k4:=al8 ⟨t.1,t.2.1⟩ aD t.2.2 bb.length (afA _);rw[alD]at F k2 k3 k4;generalize(F2 ⟨n,aD,bb.map UInt8.toNat⟩).1=m at*;have hQ:m.ai.Q.length<1073741824:=by have:=F.q;omega
   have hRr: ∀i,(m.aB i).c.aW.length<1073741824:=λi=>by have:=k3 i;unfold ki at this;omega
   obtain⟨cv,d1,d2⟩:=GV S hQ L7;obtain⟨a,haa⟩: ∃a,H1.length=a:=⟨_,rfl⟩;have hab:N+1<=M/\M<a/\p<a/\q<a:=by
    have:=S.nM;have:=S.lt;have:=S.co.lt;have:=ew S.co.fY;omega
   have hz:jS.length=1274:=by rw[GQ,aer,ep,aer,aer,eh];rfl
   have hd:aM jS 0 (bp m.ai q cv)=bp m.ai q cv:=nQ (by rw[hz,vd]);have DW:aK (bp m.ai q cv)<=a:=by
    rw[Mm];have:=cY d2 (bB (λ_=>rfl) _);have:=S.co.qp;have:=S.co.lt;omega
   have g8: (bp m.ai q cv)[1273]?=some cv:=Gw;have hwz: ∀x,List.take 4 (wC 0 0 0 x)=wC 0 0 0 x:=λ_=>rfl
   simp(disch:=omega) only[go_sem,simprocAttr,E7,hN,hl,ht,T,AZ,o1,r1,hpn,haa,d1,hz,hd,vd,g8,d2.bS];have g0: ∀x y z w,(wC x y z w)[0]?=some (.int .i64 x):=λ_ _ _ _=>rfl
   have g1: ∀x y z w,(wC x y z w)[1]?=some (.int .i64 y):=λ_ _ _ _=>rfl
   have g2: ∀x y z w,(wC x y z w)[2]?=some (.int .i64 z):=λ_ _ _ _=>rfl
   have g3: ∀x y z w,(wC x y z w)[3]?=some (.int .i64 w):=λ_ _ _ _=>rfl
   have u0: ∀x y z w,aM (wC x y z w) 0 [.int .i64 ((x:Int)+1)]=wC (x+1) y z w:=λ_ _ _ _=>rfl
   have u1: ∀x y z w v:Nat,aM (wC x y z w) 1 [.int .i64 ((y:Int)+v)]=wC x (y+v) z w:=λ_ _ _ _ _=>rfl
   have u2: ∀x y z w v:Nat,aM (wC x y z w) 2 [.int .i64 ((z:Int)+v)]=wC x y (z+v) w:=λ_ _ _ _ _=>rfl
   have sn: (eA (n:Int) pv bb)[0]?=some (.int .i64 n):=rfl;have n64:=F.ok.ai.P.n;rw[k4.np]at n64;refine iq n (λk e W aj=>e 1= .ptr N 0/\e 3= .ptr M 0/\e 6= .ptr a 0/\e 7= .ptr (a+1) 0/\e 8= .int .i64 k/\bJ (N+1) M p q m qv ev aE aP W/\W[N]?=some (.box (eA n pv bb) none)/\W[a]?=some (.box (bp m.ai q cv) none)/\W[a+1]?=some (.box (wC (yt m k) 0 0 m.ai.Q.length) none)) 0 (by omega) ?_ ?_
   ·simp(disch:=omega) only[go_sem,simprocAttr];exact⟨S.app _,aZ C,rfl⟩
   clear C r1 S r3 r4 r5;rintro k hk e W aj ⟨e1,e3,e6,e7,e8,I,C,K,d⟩ nn hn;have mn:=c0 (Vp I.co.fY aj);have B:=c0 (agX (nv m.ai.P) m.ai.P.free (sf _) F.ok.ai.P.free.ok k (by omega) W aj);have R:=aA4 m k;have hb1:=aA5 m k;obtain⟨v,L,i1,i2⟩:=LA m.ai.S.T.b F.ok.ai.S.T.b nn W hn aj;have G6:D X (.fn (.func 19) [] []) [.agg (bU m.ai.S.T.b)] ⟨W,aj⟩=some _:=qE (p:=mR) rfl i1;have i1:=cX G6;have hlb:96<=(bp m.ai q cv).length:=by rw[vd];omega
   have hbk:=amg (x:=m.ai) (q:=q) (qv:=cv);simp(disch:=omega) only[bX,go_sem,simprocAttr,aey,e1,e6,e8,C,sn,K,↓hbk,i1];refine⟨λhh=>?_,λhh=>?_⟩
   ·have Tn:k<n:=by omega
    cases hv:uP m.ai.P.free k
    ·rw[hv]at B R;simp(disch:=omega) only[go_sem,simprocAttr,e1,e3,e6,e7,e8,K,yj,mn,B];exact⟨Tn,I,C,by rw[R];exact d⟩
    ·rw[hv]at B R;generalize yt m k=x at*;simp(disch:=omega) only[go_sem,simprocAttr,e1,e3,e6,e7,e8,K,yj,mn,B,d,g0,u0];exact⟨by show 1<=4;omega,Tn,I.other d (by omega) (by omega) (by omega) _,C,by rw[show yt m (k+1)=x+1 from R];exact cG d⟩
   ·obtain rfl:k=n:=by omega
    clear mn B R hb1;have aBf:yt m k=iK m:=aA1 k4 F.ok.ai.S.T.b F.ok.ai.P;rw[aBf]at d;have aDT:=Vw k4 F.ok.ai.S.T.b;have rf:=mA m.ai.S.T.b;refine iq (ba m.ai.S.T.b).length (λj e W aj=>e 1= .ptr N 0/\e 3= .ptr M 0/\e 6= .ptr a 0/\e 7= .ptr (a+1) 0/\e 9=v/\e 10= .int .i64 j/\bJ (N+1) M p q m qv ev aE aP W/\W[N]?=some (.box (eA k pv bb) none)/\W[a]?=some (.box (bp m.ai q cv) none)/\W[a+1]?=some (.box (wC (iK m) (su m j) 0 m.ai.Q.length) none)/\aQ (nn+1) W v 1 bY ((ba m.ai.S.T.b).map hC)) 0 (by omega) ?_ ?_
    ·simp(disch:=omega) only[go_sem,simprocAttr,e1,e3,e6,e7];exact⟨I.app _,aZ C,aZ K,aZ d,i2⟩
    clear I C K d i1 G6 i2 e1 e3 e6 e7 e8;rintro j hj e W aj ⟨e1,e3,e6,e7,e9,Vy,I,C,K,d,A⟩ n2 O;have J:=(jJ A aj).bS;have U: ∀L,(W++L)[a]?=some (.box (bp m.ai q cv) none):=λL=>aZ K
    have hT:=amh (x:=m.ai) (q:=q) (qv:=cv);simp(disch:=omega) only[bX,go_sem,simprocAttr,aex,e6,e9,Vy,J,U,↓hT];refine⟨λhh=>?_,λhh=>?_⟩
    ·have u:j< (ba m.ai.S.T.b).length:=by omega
     have gd:=(iE F.ok.ai.S.T.b).1 (fx u);have G7:=F.ok.ai.S.T.get ((ba m.ai.S.T.b).getD j default);have DT:=aA6 u;have vJ:=amw m j;have aDU:=amw m (j+1);have lr: ∀L,Rd ⟨W++L,aj⟩ v 1 ((ba m.ai.S.T.b).map hC):=λL=>jJ (A.ext (L:=L)) aj
     have hL:=λL=>(lr L).c7 (X:=XC) (off:=0) (n:=1) (agg:=false) u
     rw[pH]at hL;generalize(ba m.ai.S.T.b).getD j default=r at*;have hh:=fU gd;have Bn:=λL=>c0 (r6 m.ai.S.T F.ok.ai.S.T r hh (W++L) aj)
     obtain⟨rr,sQ⟩: ∃rr,rr=(aG m.ai.S.T r).1:=⟨_,rfl⟩;have G7:gh rr:=by rw[sQ];exact G7
     have DT:su m (j+1)=su m j+aI rr.runs:=by rw[sQ];exact DT
     have Tz:=λH lo=>c0 (Gc (ed rr.runs) rr.len rr.runs (mz _) G7.rb.1 H lo)
     have IC:Den.part true 2 (bM rr) 2=some (.agg [ed rr.runs,.int .i64 rr.len]):=rfl;have s: ∀L,(W++L)[a+1]?=some (.box (wC (iK m) (su m j) 0 m.ai.Q.length) none):=λL=>aZ d
     simp(disch:=omega) only[go_sem,simprocAttr,e1,e3,e6,e7,e9,Vy,U,(lr []).cp,hL,Bn,lV,<-sQ,jt,↓IC,Tz,s,g1,u1,O];refine⟨by omega,aA8 A (by rw[afB];exact u),by show 2<=4;omega,u,(I.app _).other (s _) (by omega) (by omega) (by omega) _,aZ C,?_,aQ.nq A.ext (s _)⟩;rw[DT];exact cG (s _)
    ·obtain rfl:j=(ba m.ai.S.T.b).length:=by omega
     have hrk:su m (ba m.ai.S.T.b).length=nz m:=by unfold su nz;rw[afK]
     rw[hrk]at d;refine iq 8 (λj e W aj=>e 1= .ptr N 0/\e 3= .ptr M 0/\e 6= .ptr a 0/\e 7= .ptr (a+1) 0/\e 13= .bool (yr m j)/\e 14= .int .i64 j/\bJ (N+1) M p q m qv ev aE aP W/\W[N]?=some (.box (eA k pv bb) none)/\W[a]?=some (.box (bp m.ai q cv) none)/\W[a+1]?=some (.box (wC (iK m) (nz m) (wK m j) m.ai.Q.length) none)) 0 (by omega) ?_ ?_
     ·simp(disch:=omega) only[go_sem,simprocAttr,e1,e3,e6,e7];exact⟨rfl,I,C,K,d⟩
     clear I C K d e1 e3 e6 e7 e9 Vy A U J;rintro j hj e W aj ⟨e1,e3,e6,e7,Vz,VA,I,C,K,d⟩ n2 O;simp(disch:=omega) only[bX,go_sem,simprocAttr,aew,e3,VA];refine⟨λhh=>?_,λhh=>?_⟩
     ·have u:j<8:=by omega
      have yL:=aA7 (m:=m) u;have ml:=amx m j;have aDV:=amx m (j+1);have U3:=aA3 m j;obtain⟨rv,c1,c2⟩:=alJ I hRr j aj;obtain⟨cl,⟨b0,hu⟩,Q,V,Am,Z⟩: ∃cl,(∃b,sq m j rv= .aw [.agg cl,.bool b])/\cl.length=12/\cl[10]?=some (.int .i64 (fG m j).2)/\aM [(.int .i64 0),(.int .u8 0),(.int .u32 0),(.int .u32 0),(.int .u32 0),(.int .u32 0),(.int .u64 0),(.bool false),.aq,(.int .i64 0),(.int .i64 0),(.int .i64 0)] 0 cl=cl/\aK cl=0:=by
       unfold sq fG;cases Vt:o9 m j with
       |none=>exact⟨_,⟨_,rfl⟩,rfl,rfl,rfl,rfl⟩
       |some c=>exact⟨_,⟨_,rfl⟩,rfl,rfl,rfl,by rw[MG];exact cY (c2 c Vt) (bB (λ_=>rfl) _)⟩
      rw[hu]at c1;have s: ∀L,(W++L)[a+1]?=some (.box (wC (iK m) (nz m) (wK m j) m.ai.Q.length) none):=λL=>aZ d
      have U: ∀L,(W++L)[a]?=some (.box (bp m.ai q cv) none):=λL=>aZ K
      have hcS: ∀L o,((W++L).set (a+1) o)[a]?=some (.box (bp m.ai q cv) none):=λL o=>by rw[adb (by omega)];exact aZ K
      have oF: (bp m.ai q cv)[936+j]?=some (.bool (m.ai.S.alive j)):=by
       have h1:Den.part false 1 (bp m.ai q cv) (936+j)=some (.bool (m.ai.S.alive j)):=by
        unfold bp;rw[nc (by rw[ep];omega) (by omega)];exact SO u
       exact h1
      generalize yr m j=lv at*;cases lv
      ·simp(disch:=omega) only[go_sem,simprocAttr,e1,e3,e6,e7,Vz,VA,c1,Q,Am,Z,V,s,hcS,g2,u2,oF,O];exact⟨by show 3<=4;omega,by omega,u,by rw[U3];rfl,(I.app _).other (s _) (by omega) (by omega) (by omega) _,aZ C,by rw[yL];exact cG (s _)⟩
      ·simp(disch:=omega) only[go_sem,simprocAttr,e1,e3,e6,e7,Vz,VA,c1,Q,Am,Z,V,s,hcS,g2,u2,O];exact⟨by show 3<=4;omega,u,by rw[U3];rfl,(I.app _).other (s _) (by omega) (by omega) (by omega) _,aZ C,by rw[yL];exact cG (s _)⟩
     ·obtain rfl:j=8:=by omega
      have hck:wK m 8=pM m:=by unfold wK pM;rfl
      rw[hck]at d;obtain⟨q0,q1,q2,q3⟩:=amu m;have hpw:je (ea m)=wC (iK m) (nz m) (pM m) m.ai.Q.length:=by unfold je wC;rw[q0,q1,q2,q3]
      have c1:=λlo=>amv I F.ok hRr hQ k4 lo
      rw[hpw]at c1;obtain⟨w,G⟩: ∃w,w=wC (iK m) (nz m) (pM m) m.ai.Q.length:=⟨_,rfl⟩;have hwl:w.length=4:=by rw[G];rfl
      have hwr:aK w=0:=by rw[G];rfl
      have hwe:dy (.agg [.int,.int,.int,.int]) (.agg w) (.agg w)=some true:=by
       rw[G];simp[dy,wC,OZ,O0]
      have NB:Den.part true 4 w 0=some (.agg w):=by rw[G];rfl
      have w0:w[0]?=some (.int .i64 (iK m)):=by rw[G];rfl
      have w3:w[3]?=some (.int .i64 m.ai.Q.length):=by rw[G];rfl
      rw[<-G]at c1 d;have hA2:=I.app [.box w none];have c2:=λlo=>amb hA2 F.ok.ai.P hQ lo
      have c3:=λlo=>Vq hA2 hQ lo
      rw[aA2 k4 F.ok.ai.S.T.b F.ok.ai.P t.1]at c2;have hmq:AH m=(!yr m 8&&m.ai.Q.isEmpty):=by
       unfold AH yr
       congr 1
       rw[List.not_any_eq_all_not]
      rw[hmq]at c3;obtain⟨IA,WH⟩:=hw (W++[.box w none]) aj;have hbL: (W++[.box w none])[N]?=_:=aZ C;have hwL: (W++[.box w none])[a+1]?=_:=aZ d;have hQe:decide ((m.ai.Q.length:Int)=0)=m.ai.Q.isEmpty:=by
       cases m.ai.Q with
       |nil=>rfl
       |cons a l=>exact aeq (by simp only[afL];omega)
      have hnk:decide ((iK m:Int)=k)=decide (iK m=k):=afR.2 (by omega);have z4: ∀l:lA,l.length=4->aM [AV.int .i64 0,.int .i64 0,.int .i64 0,.int .i64 0] 0 l=l:=λl h=>nQ (by rw[h];rfl)
      have bq: (false==false)=true/\ (true==true)=true:=⟨rfl,rfl⟩;generalize yr m 8=lv at*;generalize m.ai.Q.isEmpty=qe at*;generalize decide (iK m=k)=fe at*;cases lv<;>cases qe<;>cases fe
      all_goals
       simp(disch:=omega) only[go_sem,simprocAttr,e1,e3,e7,Vz,c1,z4,hwl,hwr,O,hbL,hwL,sn,↓NB,hwe,w0,w3,hnk,hQe,c2,c3,WH,bq,axS,atj,axH,aqw];exact P IA
theorem aBq: ∃E,D XC (.fn (.func 9) [] []) [.agg (eA np pv bb)] ⟨[],none⟩=some (.ret (.bool true) E):=by
 obtain⟨b,a,E,rfl⟩:=aA9 h [] none
 grind
end
end
set_option maxHeartbeats 1000000 in
set_option maxRecDepth 100000 in
def aBr(n:Nat)(f:0<n)(d:n<=1024)(w:World):
  Calls Tryz.prog 192 #[.slice none 0 0,.int .i64 n] w λe w'=> ∃cs:Array Value,e= .returned (.slice (some ⟨w.heap.size,0,none⟩) 0 (grownCap w n 0 eZ))/\w'=w.drew.alloc (.cells cs eZ)/\cs.size=grownCap w n 0 eZ*2:=by
 go_enter Tryz.func192,Tryz.ntmps192
 have c:Tryz.t100.bytes=16:=by kernel_rfl
 have b:Builtin.nextslicecap n 0=n:=by unfold Builtin.nextslicecap;simp;omega
 go_wp2
 all_goals first
  | (exfalso;simp only[c,b]at*;omega)
  | (go_ret;refine⟨rfl,_,rfl,?_⟩;have a:=aAP w n 0 eZ;unfold grownCap eZ at a⊢;simp only[aBQ,aBo,aBi,afL,anJ];generalize(Question.appendCap n 0 _).cut _=q at*;omega)
set_option maxHeartbeats 1000000 in
set_option maxRecDepth 100000 in
def aBs(w:World):
  Calls Tryz.prog 192 #[.slice none 0 0,.int .i64 0] w λe w'=>e= .returned (.slice none 0 0)/\w'=w:=by
 go_enter Tryz.func192,Tryz.ntmps192
 go_wp2
 all_goals(go_ret;exact⟨rfl,rfl⟩)
def aBt{f:Nat}{fn:Func}(d:Tryz.prog.funcs[f]?=some fn)(g:fn.body.isSome=true)(a: (fn.name== "runtime.NumGoroutine")=false)(args:Array Value)(w:World):
  (callFunc f args).run Tryz.prog w= .ok (.enter f args) w:=by
 have b: ¬fn.name= "runtime.NumGoroutine" :=by grind
 obtain⟨c,e⟩:=asB.1 g;simp[callFunc,aqv,d,b,e]
def aBu(B:Nat)(b:World):gJ Tryz.prog B b 192 CR:=by
 intro args E s h G w a hw i;rw[aBt (f:=192) (fn:=Tryz.f192) Tryz.func192 (by rfl) (by rfl)];show CallsIn (W none) 0 Tryz.prog _ a w _;rw[an1];refine callsIn_wide.2 ?_;unfold CR at h;split at h
 ·rename_i n;simp only[aF]at i;obtain⟨v0,q,r,rfl,v1,p,rfl,rfl,rfl⟩:=i;obtain rfl:a= #[.slice none 0 0,.int .i64 n]:=by grind
  split at h
  ·rename_i g;subst g;cases h;refine(aBs w).mono ?_;rintro e w' ⟨rfl,rfl⟩;exact⟨G,G.le_refl,hw,rfl,.refl _⟩
  ·split at h
   ·rename_i g;obtain⟨k,rfl⟩: ∃k:Nat,n=k:=⟨n.toNat,by omega⟩;cases h;refine(aBr k (by omega) (by omega) w).mono ?_;rintro e w' ⟨cs,rfl,rfl,d⟩;obtain⟨m,o,v2,e1,g1,g2,l,j⟩:=Ho hw (sz:=2) (af:=[]) (c:=cs) (vs:=[]) (post:=cs.toList) (w':=w.drew) eZ rfl (λel h=>by cases h) rfl (λv h=>by cases h) d (aeu _) 0 rfl rfl hw.drew;cases e1;exact⟨m,g1,g2,l,j⟩
   ·cases h
 grind
end Go.Proofs.YteplichagkpciaaGreatDoor
