/- What functions do; conditions as stated. -/
import Derived.Test.YteplichagkpciaaGreatDoorM3
import Derived.KernelRfl
import Derived.Test.YteplichagkpciaaGreatDoorProg
import Derived.WalkKit
import Derived.Lib.AppendZerosOnto
set_option linter.all false
set_option maxRecDepth 10000
set_option maxHeartbeats 1000000
namespace Go.Proofs.YteplichagkpciaaGreatDoor
open Go Go.Den Go.RowKit
variable{r:cQ}{l:List aC}{n w a aa i M p q k sz:Nat}{x y z:az}{t t':ar}{c:ck}{m:bg}{qv ev pv kv v:AV}{aH aT:Nat->AV}{lo:oN}{aF:List lB}
def awL:=@decide_eq_true_iff
def azu:=@List.all_eq_false
def aBy:=@List.foldlM_cons
structure RO(x:az)(a:az×bE):Prop where
 s:aV a.1.s
 back:a.1.back=x.back
 w:a.2.w<4294967296
 v:a.2.v<18446744073709551616
def mm{e:Nat}{u:Unit}(h:ca e= .ok u):e=0:=by
 unfold ca at h;grind
def awR(h:gM r)(d:n<=2048)(b: ∀x∈l,1<=x.2/\x.1+x.2<=64)(c:aS l<=64):gM {r with runs:=l,len:=n}:=⟨h.up,h.cF,d,h.cells,b,c⟩
def uf{b:Bool}{e:Nat}{u:Unit}(h:ask b e= .ok u):b=true:=by
 unfold ask at h;grind
def awS{r:aC}(h:ma (l++[r]) n=true):1<=r.2/\r.1+r.2<=64:=by
 unfold ma at h;rw[KO]at h;simp only[aeW]at h;cases hm:kI [] l with
 |none=>grind
 |some m=>
  rw[hm]at h;unfold kI at h;cases b:gL m r with
  |none=>grind
  |some a=>
   unfold gL at b;split at b
   ·rename_i c;unfold ke at c
    grind
   grind
def Cn{h t:Nat}(b:aV x.s)(c:h<4294967296)(e:kK x h t= .ok y):aV y.s/\y.back=x.back:=by
 obtain⟨_,_,e⟩:=aB e;cases e;exact⟨b.qd (b.O.gL c),rfl⟩
def Ud{h:Nat}(b:aV x.s)(c:gM r)(e:mb x h r= .ok y):aV y.s/\y.back=x.back:=by
 obtain⟨_,_,e⟩:=aB e;cases e;exact⟨b.s6 (b.dY.set c),rfl⟩
def Co{h:Nat}(b:aV x.s)(e:sR x h= .ok y):aV y.s/\y.back=x.back:=by
 obtain⟨_,_,e⟩:=aB e;cases e;exact⟨b.s6 (b.dY.cut h),rfl⟩
section
variable{x:az}(hx:mX x){a:az×bE}
include hx
theorem awT(h:pN x= .ok a):RO x a:=by
 unfold pN at h;have b: (eZ x.s.T x.c.r (min x.c.a 65)).2.1<4294967296:=ahS hx.s.T.b;have c:aV (x.t (eZ x.s.T x.c.r (min x.c.a 65)).1).s:=hx.s.s6 (hx.s.dY.new _ _ hx.c.r);by_cases d:x.c.r=0
 ·simp only[d,ne_eq,not_true,ags,ae4]at h;obtain⟨_,_,h⟩:=aB h;obtain⟨y,e,h⟩:=aB h;cases h;rw[d]at b c;obtain⟨g,f⟩:=Cn c b e;exact⟨g,f,b,by show 0<18446744073709551616;omega⟩
 ·simp only[d,ne_eq,axp,ags,ae4]at h;obtain⟨_,_,h⟩:=aB h;obtain⟨_,_,h⟩:=aB h;obtain⟨y,e,h⟩:=aB h;cases e;cases h;exact⟨c,rfl,b,by show 0<18446744073709551616;omega⟩
theorem akj(h:pO x w= .ok a):RO x a/\a.2=bu:=by
 obtain⟨_,_,h⟩:=aB h;obtain⟨_,_,h⟩:=aB h;obtain⟨_,_,h⟩:=aB h;obtain⟨_,_,h⟩:=aB h;cases h;exact⟨⟨hx.s,rfl,by show 0<4294967296;omega,by show 0<18446744073709551616;omega⟩,rfl⟩
theorem awU(h:w8 x= .ok a):RO x a:=by
 obtain⟨_,_,h⟩:=aB h;obtain⟨_,_,h⟩:=aB h;obtain⟨y,e,h⟩:=aB h;obtain⟨z,g,h⟩:=aB h;cases h;obtain⟨f,d⟩:=Co hx.s e;obtain⟨c,b⟩:=Cn f hx.c.r g;exact⟨c,b.trans d,by show 0<4294967296;omega,by show 0<18446744073709551616;omega⟩
theorem awV(h:w9 x= .ok a):RO x a:=by
 obtain⟨_,_,h⟩:=aB h;obtain⟨_,_,h⟩:=aB h;obtain⟨_,_,h⟩:=aB h;cases h;exact⟨hx.s.s6 (hx.s.dY.atA _ _ hx.c.s),rfl,by show 0<4294967296;omega,by show 0<18446744073709551616;omega⟩
theorem awW(h:xa x= .ok a):RO x a:=by
 obtain⟨_,_,h⟩:=aB h;obtain⟨y,e,h⟩:=aB h;obtain⟨_,_,h⟩:=aB h;cases h;obtain⟨b,c⟩:=Co hx.s e;exact⟨b.qd (b.O.freeze hx.c.r),c,by show 0<4294967296;omega,by show 0<18446744073709551616;omega⟩
theorem awX(h:vz x= .ok a):RO x a:=by
 obtain⟨_,_,h⟩:=aB h;obtain⟨_,_,h⟩:=aB h;obtain⟨_,_,h⟩:=aB h;cases h;exact⟨hx.s.qd (hx.s.O.held hx.c.r),rfl,by show 0<4294967296;omega,by show 0<18446744073709551616;omega⟩
theorem awY(b: ∀t,(lr x.s.K t).2.1<4294967296)(h:pP x= .ok a):RO x a:=by
 unfold pP at h;obtain⟨_,_,h⟩:=aB h;obtain⟨_,_,h⟩:=aB h;obtain⟨_,_,h⟩:=aB h
 try rfl
 have d:=hx.t;have c:sZ ⟨x.c.r,x.aa % 256,x.c.a % 256,decide (x.c.b=1),x.c.s⟩:=⟨hx.c.r,anr _ (by omega),anr _ (by omega),hx.c.s⟩;split at h
 ·obtain⟨_,_,h⟩:=aB h;obtain⟨_,_,h⟩:=aB h;cases h;exact⟨hx.s.xA (hx.s.tok.ahM c),rfl,b _,by show 0<18446744073709551616;omega⟩
 ·obtain⟨_,_,h⟩:=aB h;obtain⟨_,_,h⟩:=aB h;obtain⟨_,_,h⟩:=aB h;cases h;exact⟨hx.s.xA (hx.s.tok.ahM c),rfl,b _,by show 0<18446744073709551616;omega⟩
theorem awZ(h:vA x= .ok a):RO x a:=by
 obtain⟨_,_,h⟩:=aB h;obtain⟨_,_,h⟩:=aB h;cases h;exact⟨hx.s.xA (hx.s.tok.ret _),rfl,by show 0<4294967296;omega,by show 0<18446744073709551616;omega⟩
theorem aw0(h:vB x= .ok a):RO x a:=by
 obtain⟨_,_,h⟩:=aB h;cases h;exact⟨hx.s.vO (hx.s.bx _).close,rfl,by show 0<4294967296;omega,by show 0<18446744073709551616;omega⟩
theorem aw1(h:pQ x= .ok a):RO x a:=by
 obtain⟨_,_,h⟩:=aB h;cases h;exact⟨hx.s.Fx,rfl,by show 0<4294967296;omega,by show 0<18446744073709551616;omega⟩
theorem aw2(h:nw x= .ok a):RO x a:=by
 unfold nw at h;obtain⟨c,hm⟩:=(hx.s.bx x.aa).take;have b:aV (x.bx x.aa (iE (x.s.bw x.aa)).1).s:=hx.s.vO c
 try dsimp only at h
 obtain⟨_,_,h⟩:=aB h;split at h
 ·obtain⟨y,e,h⟩:=aB h;cases h;obtain⟨f,d⟩:=Cn b hm.aJ e;exact⟨f,d,hm.aJ,hm.word⟩
 ·obtain⟨y,e,h⟩:=aB h;cases e;cases h;exact⟨b,rfl,hm.aJ,hm.word⟩
theorem aw3(e:x.run.1<=64/\x.run.2<=64)(h:hO x= .ok a):RO x a:=by
 unfold hO at h
 try dsimp only at h
 have d:=hx.s.T.get x.c.r;cases m:jX (min x.c.a 129) (min x.c.b 9)with
 |none=>rw[m]at h;cases h
 |some n=>
  rw[m]at h;obtain⟨_,e1,h⟩:=aB h;cases e1;obtain⟨_,_,h⟩:=aB h;obtain⟨_,_,h⟩:=aB h;split at h
  ·rename_i k u;obtain⟨z,l,h⟩:=aB h;cases h;have b:k+min x.c.a 129<=2048:=by
    have:=zG u;have:=d.aS;omega
   obtain⟨j,i⟩:=Ud (r:={(aE x.s.T x.c.r).1 with len:=k+min x.c.a 129}) hx.s ⟨d.up,d.cF,b,d.cells,d.runs,d.aS⟩ l;exact⟨j,i,by show 0<4294967296;omega,by show k<18446744073709551616;omega⟩
  ·obtain⟨_,g,h⟩:=aB h;have g:=uf g
   try dsimp only at h
   split at h
   ·cases h;exact⟨hx.s,rfl,by show 0<4294967296;omega,by show 0<18446744073709551616;omega⟩
   ·obtain⟨_,hm,h⟩:=aB h;have hm:=uf hm;obtain⟨z,l,h⟩:=aB h;cases h;simp only[ae1]at g;simp only[aeW,ae1]at hm;have t:=Tg (aE x.s.T x.c.r).1.runs x.run;have o:=d.cF;have p:=d.aS;have f:1<=x.run.2/\x.run.1+x.run.2<=64:=awS hm.2;have b: (match gn ((aE x.s.T x.c.r).1.runs++[x.run]) (aS (aE x.s.T x.c.r).1.runs*32) (min x.c.a 129) (min x.c.b 9)with|some a=>a+min x.c.a 129|none=>aS (aE x.s.T x.c.r).1.runs*32)<=2048:=by
     split
     ·rename_i q;exact aga (zG q) (by omega)
     ·exact aga (ajv 32 (show _<=64 by omega)) (by decide)
    obtain⟨j,i⟩:=Ud (x:={s:=x.s,aa:=x.aa,c:=x.c,run:=x.run,jW:=n,asks:=x.asks,back:=x.back}) hx.s (awR d b (λr e=>by
     rcases adB.1 e with e|e
     ·exact d.runs r e
     ·rw[aeH.1 e];exact f) (by omega)) l
    refine⟨j,i,by show 0<4294967296;omega,?_⟩;show(gn ((aE x.s.T x.c.r).1.runs++[x.run]) (aS (aE x.s.T x.c.r).1.runs*32) (min x.c.a 129) (min x.c.b 9)).getD 0<_;cases q:gn ((aE x.s.T x.c.r).1.runs++[x.run]) (aS (aE x.s.T x.c.r).1.runs*32) (min x.c.a 129) (min x.c.b 9)with
    |none=>show 0<_;omega
    |some k=>have:=zG q;show k<_;omega
theorem aw4(h:ox x= .ok a):RO x a:=by
 unfold ox at h;obtain⟨_,_,h⟩:=aB h;have key:ek (lv x.s.T x.c.r (min x.c.a 8) x.c.s (decide ((bH x.s.O x.s.T x.c.s).kind=3))).1:=by
  rw[S7];split
  ·exact hx.s.dY.set ((hx.s.T.get x.c.r).setCells λi=>by
    unfold ai;split
    ·exact hx.c.s
    ·exact(hx.s.T.get x.c.r).cells i)
  ·exact hx.s.dY
 try rfl
 split at h
 ·obtain⟨_,_,h⟩:=aB h
  try rfl
  obtain⟨_,_,h⟩:=aB h;cases h;exact⟨hx.s.s6 key,rfl,by show 0<4294967296;omega,by show 0<18446744073709551616;omega⟩
 ·try dsimp only at h
  obtain⟨_,_,h⟩:=aB h;cases h;exact⟨hx.s.s6 key,rfl,by show 0<4294967296;omega,by show 0<18446744073709551616;omega⟩
theorem aw5(h:vC x= .ok a):RO x a:=by
 obtain⟨_,_,h⟩:=aB h;obtain⟨_,_,h⟩:=aB h;cases h;refine⟨hx.s,rfl,?_,by show 0<18446744073709551616;omega⟩;unfold sQ;split
 ·simp
 ·split
  ·simp
  ·dsimp only;split
   ·simp
   ·split
    ·simp
    ·exact(hx.s.T.get x.c.r).cells _
theorem aw6(h:mS x= .ok a):RO x a:=by
 unfold mS at h;obtain⟨_,_,h⟩:=aB h;obtain⟨_,_,h⟩:=aB h
 try dsimp only at h
 have j:=hx.t;have hm: ∀b,qc ⟨x.aa % 256,x.c.v,x.c.r,b⟩:=λb=>⟨by grind,hx.c.v,hx.c.r⟩
 have fin: ∀ (y:az) (b:Bool),aV y.s->y.back=x.back->(ca (iD (y.s.bw x.c.a) ⟨x.aa % 256,x.c.v,x.c.r,b⟩).2>>=λ_=>(Pure.pure (y.bx x.c.a (iD (y.s.bw x.c.a) ⟨x.aa % 256,x.c.v,x.c.r,b⟩).1,bu):R (az×bE)))= .ok a->RO x a:=by
  intro y b d g h;obtain⟨_,_,h⟩:=aB h;cases h;exact⟨d.vO ((d.bx _).put (hm b)),g,by show 0<4294967296;omega,by show 0<18446744073709551616;omega⟩
 split at h
 ·obtain⟨_,_,h⟩:=aB h
  try dsimp only at h
  obtain⟨y,e,h⟩:=aB h;cases e;refine fin _ _ ?_ ?_ h
  ·split
   ·exact hx.s.qd (hx.s.O.held hx.c.r)
   ·exact hx.s
  ·split<;>rfl
 ·split at h
  ·obtain⟨_,_,h⟩:=aB h;obtain⟨y,e,h⟩:=aB h;obtain⟨f,i⟩:=Co hx.s e
   try dsimp only at h
   obtain⟨_,_,h⟩:=aB h;obtain⟨z,c,h⟩:=aB h;cases c;exact fin (y.o (vt y.s.O y.s.T x.c.r).1) _ (f.qd (f.O.rH hx.c.r)) i h
  ·obtain⟨z,c,h⟩:=aB h;cases c;exact fin _ _ hx.s rfl h
end
structure GI(y:az):Prop where
 s:aV y.s
 fk:Go.Proofs.YteplichagkpciaaGreatDoor.fk y<=2048
 runs: ∀r∈y.back,r.1<=64/\r.2<=64
def GI.len(h:GI y):y.back.length<=4096:=by have:=h.fk;unfold Go.Proofs.YteplichagkpciaaGreatDoor.fk at this;omega
def GI.set(h:GI y)(b:aV z.s)(c:z.back=y.back)(d:z.s.T=y.s.T):GI z:=
 ⟨b,by have:=h.fk;unfold Go.Proofs.YteplichagkpciaaGreatDoor.fk at*;grind,by rw[c];exact h.runs⟩
theorem akk: ∀ (l:lN) (y:az),aV y.s->(∀r∈y.back,r.1<=64/\r.2<=64)-> ∀r∈(l.foldl fw y).back,r.1<=64/\r.2<=64
 | [],_,_,h=>h
 |a::l,y,c,h=>akk l (fw y a) (Th [a] y c) λr b=>by
  rcases adB.1 (show r∈y.back++(aE y.s.T a).1.runs from b)with b|b
  ·grind
  ·have:=(c.T.get a).runs r b;omega
def GI.gone(h:GI y)(a:Nat):GI (eh y a):=⟨FB h.s a,aga (To h.s a) h.fk,akk _ y h.s h.runs⟩
def GI.fY(h:GI y)(c:a<4294967296)(b:jl y a aa= .ok z):GI z:=by
 obtain⟨_,_,b⟩:=aB b;have d:GI (y.o (db y.s.O y.s.T a aa false).1):=h.set (h.s.qd (h.s.O.held c)) rfl rfl;cases b;split
 ·exact d.gone a
 omega
theorem GI.foldlM{β:Type}{P:β->Prop}{f:az->β->R az}(d: ∀y b z,GI y->P b->f y b= .ok z->GI z): ∀ (l:List β) (y z:az),(∀b∈l,P b)->GI y->l.foldlM f y= .ok z->GI z
 | [],y,z,_,h,e=>by cases e;exact h
 |b::l,y,z,g,h,e=>by
  obtain⟨w,e1,j⟩:=aB (show(f y b>>=λw=>l.foldlM f w)= .ok z from by grind);exact GI.foldlM d l w z (λc i=>g c (aeR _ i)) (d y b w h (g b (aeX ..)) e1) j
theorem GI.foldl{β:Type}{f:az->β->az}(c: ∀y b,GI y->GI (f y b)): ∀ (l:List β) (y:az),GI y->GI (l.foldl f y)
 | [],_,h=>h
 |b::l,y,h=>GI.foldl c l (f y b) (c y b h)
def GI.dies(h:GI x)(e:lC x aa= .ok y):GI y:=by
 rw[Lf]at e;obtain⟨w,e1,g⟩:=aB e;have q:GI (nK x aa):=h.set ((h.s.vO hZ.gone).Fx) rfl rfl;have p:GI w:=GI.foldlM (P:=qc) (λy m z b hm e=>by
  unfold s8 at e;split at e
  ·cases e;exact b
  ·split at e
   ·obtain⟨k,j⟩:=Cn b.s hm.aJ e;obtain⟨_,_,e⟩:=aB e;cases e;exact b.set k j rfl
   ·cases e;exact b.gone _) _ _ _ (λm hm=>by
    obtain⟨i,_,rfl⟩:=aeO.1 hm;exact(h.s.bx aa).ring _) q e1
 unfold B9 at g;have o:=GI.foldl (f:=λy h=>y.k (jC y.s.K h).1) (λy a b=>b.set (b.s.xA (b.s.tok.ret a)) rfl rfl) (rm w.s.K aa) w p;have d:=λl=>GI.foldl (f:=eh) (λy a b=>b.gone a) l _ o
 refine GI.foldlM (P:=λa=>a<4294967296) (λy a z b c e=>b.fY c e) _ _ _ (λa c=>?_) (d _) g;have n:=(ae2.1 c).1;exact gl ((iQ (d _).s.T.b).1 n)
def GI.start{s:aZ}(d:aV s)(aa:Nat)(c:ck)(run:aC)(n:Nat)(b:Bool):GI ⟨s,aa,c,run,n,b,[]⟩:=by
 refine⟨d,?_,λr e=>by grind⟩;have:=nr s.T.b;show([]:List aC).length+64*(bt s.T.b).length<=2048
 grind
structure RD(c:ck)(a:az×bE):Prop where
 s:aV a.1.s
 len:a.1.back.length<=4096
 runs: ∀r∈a.1.back,r.1<=64/\r.2<=64
 v:c.op=3->a.2.v=0
 w:a.2.w<4294967296
 v2:a.2.v<18446744073709551616
def RO.d{a:az×bE}(h:RO x a)(b:GI x)(d:c.op=3->a.2.v=0):RD c a:=
 ⟨h.s,by rw[h.back];exact b.len,by rw[h.back];exact b.runs,d,h.w,h.v⟩
def GI.d(h:GI y):RD c (y,bu):=⟨h.s,h.len,h.runs,λ_=>rfl,by show 0<4294967296;omega,by show 0<18446744073709551616;omega⟩
def aw7(hx:mX x)(d:GI x){a:az×bE}(h:sS x= .ok a):RD x.c a:=by
 unfold sS at h;obtain⟨_,_,h⟩:=aB h;obtain⟨_,_,h⟩:=aB h
 try rfl
 obtain⟨y,e,h⟩:=aB h;cases h;have b:=hx.s.T.get x.c.r;have c:gM {cY with cF:=(aE x.s.T x.c.r).1.cF}:=⟨by simp[cY],b.cF,by simp[cY],by simp[cY],by simp[cY],by simp[cY,aS]⟩;obtain⟨g,f⟩:=Ud (x:={x with back:=x.back++(aE x.s.T x.c.r).1.runs}) hx.s c e;have i: (aE x.s.T x.c.r).1.runs.length<=64:=aga (SN λr h=>(b.runs r h).1) b.aS;refine⟨g,?_,?_,λ_=>rfl,by show 0<4294967296;omega,by show 0<18446744073709551616;omega⟩
 ·rw[f];have:=d.fk;unfold fk at this
  grind
 ·rw[f];intro r hm;rcases adB.1 (show r∈x.back++(aE x.s.T x.c.r).1.runs from hm)with hm|hm
  ·exact d.runs r hm
  ·have:=b.runs r hm;omega
def aw8(b:GI x){a:az×bE}(h:vx x= .ok a):RD x.c a:=by
 obtain⟨_,_,h⟩:=aB h;cases h;exact(b.gone _).d
def aw9(hx:mX x)(b:GI x){a:az×bE}(h:xb x= .ok a):RD x.c a:=by
 obtain⟨_,_,h⟩:=aB h;obtain⟨y,e,h⟩:=aB h;cases h;exact(b.fY hx.c.r e).d
def akl(b:GI x){a:az×bE}{t:Nat}(h: (lC x t>>=λy=>.ok (y,bu))= .ok a):RD x.c a:=by
 obtain⟨y,e,h⟩:=aB h;cases h;exact(b.dies e).d
def axa{k:bp}(c:iB k.b){x:Tok}: (lr k x).2.1<4294967296:=by
 unfold lr;split
 ·simp
 ·split
  ·rename_i i b;split
   ·exact E6 (pK b).1 (c i).1
   grind
  grind
def axb(hx:mX x)(b:GI x)(c:x.run.1<=64/\x.run.2<=64){a:az×bE}(h:gp x= .ok a):RD x.c a:=by
 unfold gp at h;split at h
 all_goals try(rename_i ho;first
  |exact(awT hx h).d b (λq=>absurd (ho ▸ q) (by decide))
  |exact(aw3 hx c h).d b (λq=>absurd (ho ▸ q) (by decide))
  |exact(akj hx h).1.d b (λq=>ahR bE.v (akj hx h).2)
  |exact aw7 hx b h
  |exact aw8 b h
  |exact aw9 hx b h
  |exact akl b h
  |exact(awU hx h).d b (λq=>absurd (ho ▸ q) (by decide))
  |exact(awV hx h).d b (λq=>absurd (ho ▸ q) (by decide))
  |exact(awW hx h).d b (λq=>absurd (ho ▸ q) (by decide))
  |exact(awX hx h).d b (λq=>absurd (ho ▸ q) (by decide))
  |exact(awY hx (λt=>axa hx.s.K.b) h).d b (λq=>absurd (ho ▸ q) (by decide))
  |exact(awZ hx h).d b (λq=>absurd (ho ▸ q) (by decide))
  |exact(aw6 hx h).d b (λq=>absurd (ho ▸ q) (by decide))
  |exact(aw2 hx h).d b (λq=>absurd (ho ▸ q) (by decide))
  |exact(aw0 hx h).d b (λq=>absurd (ho ▸ q) (by decide))
  |exact(aw4 hx h).d b (λq=>absurd (ho ▸ q) (by decide))
  |exact(aw5 hx h).d b (λq=>absurd (ho ▸ q) (by decide))
  |exact(aw1 hx h).d b (λq=>absurd (ho ▸ q) (by decide)))
 ·unfold xc at h;obtain⟨_,_,h⟩:=aB h;exact akl b h
 ·cases h
def akm{s:aZ}(d:aV s)(j:gB c){run:aC}(f:run.1<=64/\run.2<=64):rM (bN s aa c run) c/\ (bN s aa c run).2.1.v<18446744073709551616:=by
 rw[zK];cases h:fV ⟨s,aa,c,run,0,false,[]⟩with
 |error e=>
  have:=(aij h).2;exact⟨⟨d,by simp,λr f=>(by grind),λ_=>by show 0<18446744073709551616;omega,by show 0<4294967296;omega,by grind⟩,by show 0<18446744073709551616;omega⟩
 |ok a=>
  obtain⟨y,r⟩:=a;have he:=Ca h;obtain⟨_,g,h⟩:=aB (show(ask _ _>>=λ_=>gp _)=_ from h);have g:=uf g;have i:aa<8:=by grind
  have b:=axb (x:=⟨s,aa,c,run,0,false,[]⟩) ⟨d,i,j,by grind,by grind⟩ (GI.start d ..) f h;exact⟨⟨b.s,b.len,b.runs,λq=>by rw[show r.v=0 from b.v q];decide,b.w,by grind⟩,b.v2⟩
def LK{s:aZ}(b:aV s)(e:gB c){run:aC}(d:run.1<=64/\run.2<=64):rM (bN s aa c run) c:=(akm b e d).1
structure SK(s:bK)(c0:ck)(n:Nat):Prop where
 S:aV s.x.S
 P:fK s.x.P
 M: ∀i,iU (s.x.M i)
 Q: ∀k∈s.x.Q,k<2147483648
 len:s.x.Q.length<=n
 c:fR s.c
 run:s.c.run.1<=64/\s.c.run.2<=64
 cc:s.c.c=c0
 w:s.r.w<4294967296
 e:s.r.e<4294967296
 v:s.r.v<18446744073709551616
theorem akn: ∀ (l:lN) (f g:Nat->Nat) (P:cJ),fK P->(∀i,g i<256)->fK (l.foldl (λP i=>lE P (f i) (g i)) P)
 | [],_,_,_,a,_=>a
 |i::l,f,g,P,a,b=>akn l f g _ (a.write _ _ (b i)) b
section
variable{s:bK}{c0:ck}{n:Nat}(h:SK s c0 n)
include h
theorem SK.gC:gB c0:=h.cc ▸ h.c.gC
theorem SK.ends{r:bE}(b:r.w<4294967296)(e:r.e<4294967296)(c:r.v<18446744073709551616):SK (oy s r) c0 (n+64):=by
 refine⟨h.S,h.P,Tw h.M _,λk a=>?_,?_,h.c,h.run,h.cc,b,e,c⟩
 ·rcases adB.1 (show k∈s.x.Q++gy s.c.run from a)with a|a
  ·exact h.Q k a
  ·obtain⟨i,d,rfl⟩:=aeO.1 a;have:=anc.1 d;have:=h.run;omega
 ·show(me _ _).Q.length<=_;rw[aj2];have:=h.len;have:=h.run;omega
theorem SK.check(b: ∀a∈xd s.x.S c0,a<4294967296):SK (gz s).1 c0 (n+64):=by
 have c:=h.len;unfold gz;rw[h.cc];split
 ·exact⟨h.S,h.P,h.M,h.Q,by grind,h.c,h.run,h.cc,h.w,h.e,h.v⟩
 split
 ·exact⟨h.S,h.P,h.M,h.Q,by grind,h.c,h.run,h.cc,h.w,h.e,h.v⟩
 split
 ·refine h.ends (by show 0<_;omega) ?_ (by show 0<_;omega);show lD s.x.S s.c.aa c0<_;unfold lD;split
  ·omega
  ·exact(LK h.S h.gC (run:=(0,0)) ⟨by simp,by simp⟩).e
 ·exact⟨h.S,h.P,h.M,h.Q,by grind,⟨h.c.aa,h.c.gC,b,h.c.run,h.c.fx⟩,h.run,h.cc,h.w,h.e,h.v⟩
theorem SK.marks:SK (gA s).1 c0 n:=by
 unfold gA;split
 ·exact h
 ·rename_i a l c;refine⟨h.S,h.P,au3 h.M _,h.Q,h.len,?_,?_,?_,h.w,h.e,h.v⟩
  ·show fR (if(jm s.x.M (aI a) s.c.aa).2 then{s.c with ba:=l}else s.c);split
   ·exact⟨h.c.aa,h.c.gC,λb d=>h.c.ba b (by grind),h.c.run,h.c.fx⟩
   ·exact h.c
  ·show(if(jm s.x.M (aI a) s.c.aa).2 then{s.c with ba:=l}else s.c).run.1<=64/\ (if(jm s.x.M (aI a) s.c.aa).2 then{s.c with ba:=l}else s.c).run.2<=64;split
   ·exact h.run
   ·exact h.run
  ·show(if(jm s.x.M (aI a) s.c.aa).2 then{s.c with ba:=l}else s.c).c=c0;split
   ·exact h.cc
   ·exact h.cc
theorem SK.axc:SK (gq s).1 c0 (n+64):=by
 have d:=h.len;have c:=ajk s.x.S s.c.aa s.c.c;unfold gq;dsimp only;split
 ·exact⟨h.S,h.P,h.M,h.Q,by grind,h.c,h.run,h.cc,h.w,h.e,h.v⟩
 have a:=h.P.ajj (bR s.x.S s.c.aa s.c.c);split
 ·have b:SK {s with x:={s.x with P:=(fI s.x.P (bR s.x.S s.c.aa s.c.c)).1}} c0 n:=⟨h.S,a,h.M,h.Q,h.len,h.c,h.run,h.cc,h.w,h.e,h.v⟩;refine b.ends (by show 0<_;omega) ?_ (by show 0<_;omega);unfold fI
  grind
 ·rename_i he;have:=avF h.P _ (by omega) (Decidable.not_not.1 he);exact⟨h.S,a,h.M,h.Q,by grind,⟨h.c.aa,h.c.gC,h.c.ba,⟨by grind,by show bR _ _ _<_;omega⟩,h.c.fx⟩,⟨by show(fI _ _).2.1<=_;omega,by show bR _ _ _<=_;omega⟩,h.cc,h.w,h.e,h.v⟩
theorem SK.axd:SK (il s).1 c0 n:=by
 unfold il;split
 ·exact h
 ·have:=h.run;exact⟨h.S,h.P.clear _,h.M,h.Q,h.len,⟨h.c.aa,h.c.gC,h.c.ba,h.c.run,by grind⟩,h.run,h.cc,h.w,h.e,h.v⟩
theorem SK.fa:SK (Go.Proofs.YteplichagkpciaaGreatDoor.fa s) c0 (n+64):=by
 have c:=h.len;unfold Go.Proofs.YteplichagkpciaaGreatDoor.fa;split
 ·have b:=h.run;refine⟨h.S,h.P,h.M,λk a=>?_,?_,⟨h.c.aa,h.c.gC,h.c.ba,⟨by simp,by simp⟩,h.c.fx⟩,⟨by simp,by simp⟩,h.cc,h.w,h.e,h.v⟩
  ·rcases adB.1 (show k∈s.x.Q++gy s.c.run from a)with a|a
   ·exact h.Q k a
   ·obtain⟨i,d,rfl⟩:=aeO.1 a
    grind
  ·show(s.x.Q++gy s.c.run).length<=_;rw[aeG];have: (gy s.c.run).length=s.c.run.2:=by simp[gy]
   omega
 ·exact⟨h.S,h.P,h.M,h.Q,by omega,h.c,h.run,h.cc,h.w,h.e,h.v⟩
theorem SK.axe:SK (nz s) c0 (n+262400):=by
 rw[ajy];have a:=h.fa;generalize Go.Proofs.YteplichagkpciaaGreatDoor.fa s=st at a;obtain⟨b,d⟩:=akm a.S a.gC (aa:=st.c.aa) (run:=st.c.run) a.run;unfold LA;rw[a.cc];dsimp only;split
 ·have:=a.ends b.w b.e d;exact⟨this.S,this.P,this.M,this.Q,by have:=this.len;omega,this.c,this.run,this.cc,this.w,this.e,this.v⟩
 ·have v:=a.len;have q:=b.len;have w:fK (zR st.x.P c0 (gN st.x.S c0).1):=by
   unfold zR;split
   ·exact akn _ _ _ _ a.P λi=>anr _ (by omega)
   ·exact a.P
  generalize t: ({st.x with S:=(bN st.x.S st.c.aa c0 st.c.run).1,P:=zR st.x.P c0 (gN st.x.S c0).1}:Core)=X;have e:X.Q=st.x.Q:=by grind
  have j:X.M=st.x.M:=by grind
  have g:fK X.P:=by grind
  have f:aV X.S:=by rw[<-t];exact b.S
  obtain⟨o,m,l⟩:=TT (bN st.x.S st.c.aa c0 st.c.run).2.2 X;have k:=Ce (bN st.x.S st.c.aa c0 st.c.run).2.2 X λr p=>(b.runs r p).2
  have u:SK {st with x:=(bN st.x.S st.c.aa c0 st.c.run).2.2.foldl bT X,c:={st.c with run:=(0,0)}} c0 (n+262336):=
   ⟨o ▸ f,m ▸ g,by rw[show((bN st.x.S st.c.aa c0 st.c.run).2.2.foldl bT X).M=X.M from l,j];exact a.M,TU _ X b.runs (by rw[e];exact a.Q),by
     rw[e]at k;exact aga k (by omega),⟨a.c.aa,a.c.gC,a.c.ba,⟨by show 0<_;omega,by show 0<_;omega⟩,a.c.fx⟩,⟨by show 0<=_;omega,by show 0<=_;omega⟩,a.cc,a.w,a.e,a.v⟩
  refine u.ends b.w b.e ?_;show zS _ _ _ _<_;unfold zS;split
  ·exact TP a.P _ _ d _ (ajn a.S c0).1
  omega
theorem SK.mono{m:Nat}(a:n<=m):SK s c0 m:=⟨h.S,h.P,h.M,h.Q,by have:=h.len;omega,h.c,h.run,h.cc,h.w,h.e,h.v⟩
end
def axf(c:ek t){h:Nat}(b:a∈under t h):t.aq a=true:=by
 unfold under at b;split at b
 ·rename_i d;exact zk c.ok.b d b
 grind
def axg{s:aZ}(g:aV s): ∀a∈xd s c,a<4294967296:=by
 have j: ∀h,∀a∈rq s h,a<4294967296:=λh a d=>by
  unfold rq at d;split at d
  ·rename_i i;rw[aeH.1 d];exact gl i
  ·cases d
 have e: ∀h,∀a∈under s.T h,a<4294967296:=λh a d=>gl (axf g.dY d)
 intro a d;unfold xd at d;split at d
 ·exact j _ a d
 split at d
 ·exact e _ a d
 split at d
 ·split at d
  ·cases d
  ·rename_i f;split at d
   ·exact e _ a d
   ·rcases adB.1 d with d|d
    ·exact e _ a d
    ·rw[aeH.1 d];refine gl (b:=s.T.b) ?_;simp only[not_or,Bool.not_eq_false]at f;exact f.2
 grind
def ako{x:Core}{c:Call}(a:iV x)(i:fR c)(g:c.run.1<=64/\c.run.2<=64):SK (ee x c) c.c (x.Q.length+262528):=by
 have j:SK ⟨x,c,bu,false⟩ c.c x.Q.length:=⟨a.S,a.P,a.M,a.Q,adA _,i,g,rfl,by show 0<_;omega,by show 0<_;omega,by show 0<_;omega⟩;have f:=j.check (axg a.S);have e:=f.marks;have d:=e.axc;have b:=d.axd;unfold ee;dsimp only;split
 ·exact f.mono (by omega)
 split
 ·exact e.mono (by omega)
 split
 ·exact d.mono (by omega)
 split
 ·exact b.mono (by omega)
 ·exact b.axe.mono (by omega)
def axh(h:dt m)(t:Nat): (ee m.av (m.aw t).c).r.v<18446744073709551616:=(ako h.av (h.c t) (h.run t)).v
def akp(h:dt m)(e:m.av.Q.length<2147483648)(t:Nat):akf m t/\ (xI m t).av.Q.length<=m.av.Q.length+262528:=by
 have a:=ako h.av (h.c t) (h.run t);have d:SK ⟨m.av,(m.aw t).c,bu,false⟩ (m.aw t).c.c m.av.Q.length:=⟨h.av.S,h.av.P,h.av.M,h.av.Q,adA _,h.c t,h.run t,rfl,by show 0<_;omega,by show 0<_;omega,by show 0<_;omega⟩;have b:=d.fa;have c:=a.len;refine⟨⟨?_,⟨⟨a.S,a.P,a.M,a.Q,by show(ee _ _).x.Q.length<_;omega⟩,λj=>?_,λj=>?_,λj=>?_,h.now,h.ev,λj=>?_⟩,⟨a.w,a.e⟩,?_⟩,c⟩
 ·rw[b.cc];exact LK b.S (h.c t).gC b.run
 ·show lL (ai m.aw t _ j).t;unfold ai;split
  ·exact h.t t
  ·exact h.t j
 ·show fR (ai m.aw t _ j).c;unfold ai;split
  ·exact a.c
  ·exact h.c j
 ·show(ai m.aw t _ j).fr<_;unfold ai;split
  ·exact h.fr t
  ·exact h.fr j
 ·show(ai m.aw t _ j).c.run.1<=64/\ (ai m.aw t _ j).c.run.2<=64;unfold ai;split
  ·exact a.run
  ·exact h.run j
 ·rw[a.cc];exact(h.c t).gC.op
def axi{t:Task}(h:lL t){v:Nat}(a:v<18446744073709551616): ∀j,ai t.ba i v j<18446744073709551616:=λj=>by
 unfold ai;split
 ·omega
 ·exact h.ba j
def axj{t:Task}(h:lL t):lL (nA t):=by
 unfold nA;split
 ·exact h
 split
 ·exact h
 ·rename_i x c;have e:t.next<t.code.length:=(ack.1 c).1;have f:=h.len;have b:=FT h c;have a: ∀v,v<18446744073709551616->lL {t with ba:=ai t.ba (x.a % 8) v,next:=t.next+1}:=λv d=>
   ⟨h.len,h.ins,by show t.next+1<=64;omega,axi h d⟩
  dsimp only;split
  ·exact a _ (by have:=b.n;omega)
  split
  ·exact a _ (anr _ (by decide))
  split
  ·exact a _ (anr _ (by decide))
  split
  ·exact a _ (anr _ (by decide))
  split
  ·rename_i i;refine⟨h.len,h.ins,?_,h.ba⟩;show x.n<=64;exact b.j (.inl i)
  split
  ·rename_i g;refine⟨h.len,h.ins,?_,h.ba⟩;have:=b.j (.inr g);show(if _ then x.n else t.next+1)<=64;split
   ·omega
   ·exact aga e f
  ·exact⟨h.len,h.ins,by show t.next+1<=64;omega,h.ba⟩
def axk{t:Task}(h:lL t){r:bE}(c:r.v<18446744073709551616)(b:r.w<4294967296)(f:r.e<4294967296):lL (sT t r):=by
 unfold sT;split
 ·exact h
 ·rename_i x a;have d:t.next<t.code.length:=(ack.1 a).1;have e:=h.len;split
  ·refine⟨h.len,h.ins,by grind,λj=>?_⟩;show ai (ai (ai t.ba (x.a % 8) r.v) 4 r.w) 7 r.e j<_;unfold ai;split
   ·omega
   ·split
    ·omega
    ·split
     ·omega
     ·exact h.ba j
  omega
structure ql(m:bg):Prop where
 ok:dt m
 q:m.av.Q.length<=263200*m.now
 e:m.bz.length<=m.now
def dt.xJ(h:dt m)(a:n<2147483648):dt {m with now:=n}:=⟨h.av,h.t,h.c,h.fr,a,h.ev,h.run⟩
def dt.ended(h:dt m){t:Nat}{c:Call}{run:aC}{r:bE}(b:r.v<18446744073709551616)(a:r.w<4294967296)(d:r.e<4294967296)(e:m.bz.length<2147483647):dt (Fc m t c run r):=by
 refine⟨h.av,λj=>?_,λj=>?_,λj=>?_,h.now,?_,λj=>?_⟩
 ·show lL (ai m.aw t _ j).t;unfold ai;split
  ·exact axk (h.t t) b a d
  ·exact h.t j
 ·show fR (ai m.aw t _ j).c;unfold ai;split
  ·exact Ck
  ·exact h.c j
 ·show(ai m.aw t _ j).fr<_;unfold ai;split
  ·exact h.fr t
  ·exact h.fr j
 ·show(m.bz++[_]).length<_
  grind
 ·show(ai m.aw t _ j).c.run.1<=64/\ (ai m.aw t _ j).c.run.2<=64;unfold ai;split
  ·exact⟨by show 0<=64;omega,by show 0<=64;omega⟩
  ·exact h.run j
structure F0(a b:bg):Prop where
 q:b.av.Q.length<=a.av.Q.length+262600
 e:b.bz.length<=a.bz.length+1
 n:b.now=a.now
def akq(h:dt m)(c:m.av.Q.length<2147483648)(b:m.bz.length<2147483647)(t:Nat):dt (pT m t)/\F0 m (pT m t):=by
 obtain⟨a,d⟩:=akp h c t;rw[aj6];split
 ·refine⟨a.m'.ended (axh h t) a.r.1 a.r.2 b,by show(xI m t).av.Q.length<=_;omega,?_,rfl⟩;show(m.bz++[_]).length<=_
  grind
 ·exact⟨a.m',by omega,by show m.bz.length<=_;omega,rfl⟩
def akr(h:dt m)(c:m.av.Q.length<2147483648)(b:m.bz.length<2147483647){t:Nat}(d:t<8):dt (pU m t)/\F0 m (pU m t):=by
 unfold pU;dsimp only;split
 ·exact akq h c b t
 split
 ·obtain⟨e,a⟩:=akq (m:=vV m t) (h.wanted d) c b t;exact⟨e,a.q,a.e,a.n⟩
 ·refine⟨⟨h.av,λj=>?_,λj=>?_,λj=>?_,h.now,h.ev,λj=>?_⟩,by simp,by simp,rfl⟩
  ·show lL (ai m.aw t _ j).t;unfold ai;split
   ·exact axj (h.t t)
   ·exact h.t j
  ·show fR (ai m.aw t _ j).c;unfold ai;split
   ·exact h.c t
   ·exact h.c j
  ·show(ai m.aw t _ j).fr<_;unfold ai;split
   ·exact h.fr t
   ·exact h.fr j
  ·show(ai m.aw t _ j).c.run.1<=64/\ (ai m.aw t _ j).c.run.2<=64;unfold ai;split
   ·exact h.run t
   ·exact h.run j
def axl:gB gb:=⟨by decide,by decide,by decide,by decide,by decide,by decide⟩
def aks(h:dt m)(t:Nat):rM (bN m.av.S t gb (0,0)) gb:=LK h.av.S axl ⟨by simp,by simp⟩
def akt(h:dt m)(g:m.av.Q.length<2147483648)(f:m.bz.length<2147483647)(t:Nat):dt (vE m t)/\F0 m (vE m t):=by
 have b:=aks h t;have d:=Ce (bN m.av.S t gb (0,0)).2.2 m.av λr c=>(b.runs r c).2
 have e:=b.len;have a:=iV.ajw (x:=m.av) h.av b.runs (by omega);refine⟨⟨⟨b.S,a.P,a.M,a.Q,a.Ql⟩,h.t,h.c,h.fr,h.now,?_,h.run⟩,?_,?_,rfl⟩
 ·show(m.bz++[_]).length<_
  grind
 ·exact aga d (by omega)
 ·show(m.bz++[_]).length<=_
  grind
def axm(h:dt m)(a:m.av.Q.length<1073741824):dt (lF m)/\ (lF m).av.Q.length<=m.av.Q.length+512:=by
 obtain⟨c,b⟩:=T6 h a 8 (by omega);exact⟨c,b⟩
def aku(m:bg)(i:Nat): (kN m i).bz=m.bz/\ (kN m i).now=m.now:=by unfold kN;grind
theorem LM(m:bg): ∀k,(fo m k).bz=m.bz/\ (fo m k).now=m.now
 |0=>⟨rfl,rfl⟩
 |k+1=>by rw[zV];exact⟨(aku _ _).1.trans (LM m k).1,(aku _ _).2.trans (LM m k).2⟩
def akv{x:Core}(h:iV x):iV (gO x).1/\ (gO x).1.Q.length<=x.Q.length:=by
 unfold gO;split
 ·grind
 ·rename_i a l c;exact⟨⟨h.S,h.P.back _,h.M,λk b=>h.Q k (by grind),by have:=h.Ql;grind⟩,by grind⟩
def ql.clear{a:bg}(h:ql a)(e:dt m)(b:F0 a {m with now:=a.now})(g:m.now=a.now+1)(i:a.now<=4000):ql (lF m):=by
 have o:m.av.Q.length<=a.av.Q.length+262600:=b.q;have n:m.bz.length<=a.bz.length+1:=b.e;have l:=h.q;have k:=h.e;obtain⟨f,j⟩:=axm e (by omega);obtain⟨d,c⟩:=LM m 8;have d: (lF m).bz=m.bz:=d;have c: (lF m).now=m.now:=c;exact⟨f,by omega,by grind⟩
def akw(h:ql m)(e:m.now<=4000)(b:Nat):ql (jY m b).1/\ (jY m b).1.now<=m.now+1:=by
 have g:=h.q;have he:=h.e;have c:=(h.ok.xJ (n:=m.now+1) (by omega));have key: ∀m':bg,dt m'->F0 m {m' with now:=m.now}->m'.now=m.now+1->ql (lF m')/\ (lF m').now<=m.now+1:=λm' d a f=>
  ⟨h.clear d a f e,by have: (lF m').now=m'.now:=(LM m' 8).2;omega⟩
 unfold jY;dsimp only;split
 ·grind
 split
 ·split
  ·obtain⟨d,a⟩:=akv h.ok.av;exact key _ ⟨d,h.ok.t,h.ok.c,h.ok.fr,by show m.now+1<_;omega,h.ok.ev,h.ok.run⟩ ⟨by show(gO m.av).1.Q.length<=_;omega,by show m.bz.length<=_;omega,rfl⟩ rfl
  grind
 split
 ·exact⟨h,Nat.le_succ m.now⟩
 split
 ·obtain⟨d,a⟩:=akt c (by show m.av.Q.length<_;omega) (by show m.bz.length<_;omega) (b % 8);exact key _ d ⟨a.q,a.e,rfl⟩ a.n
 ·obtain⟨d,a⟩:=akr c (by show m.av.Q.length<_;omega) (by show m.bz.length<_;omega) (anr b (by decide));exact key _ d ⟨a.q,a.e,rfl⟩ a.n
def cb.xJ{H:List ae}(h:cb n M p q m qv ev aH aT H)(k:Nat):
 cb n M p q {m with now:=k} qv ev aH aT (H.set M (.box (c8 {m with now:=k} p aH aT ev) none)):=h.set rfl rfl h.cv h.rv
def axn{H:List ae}(hD: ∀op,oG op)(d:cb n M p q m qv ev aH aT H)(l:ql m)(hn:m.now<=4000)(b:Nat)(hb:b<256)(lo:oN):
  ∃J,D XC (.fn (.func 30) [] []) [.ptr M 0,.int .u8 b] ⟨H,lo⟩=some J/\ir n M p q H lo (jY m b).1 qv ev (.int .i64 (jY m b).2) J:=by
 refine cI sG λN t=>?_
 have FZ:M<N:=by rw[<-t];exact d.lt
 have oE:p<N:=by rw[<-t];exact d.co.lt
 have Ua:=d.nM;have hq:=l.q;have he:=l.e;have Y:b % 8<8:=anr _ (by decide);have e: (b:Int).tmod 8=((b % 8:Nat):Int):=by rw[Int.tmod_eq_emod_of_nonneg (by omega)];omega
 have i:IntKind.i64.wrap ((b % 8:Nat):Int)=((b % 8:Nat):Int):=wrap_i64 (by omega) (by omega);have A:IntKind.i64.wrap ((m.now:Int)+1)=((m.now+1:Nat):Int):=wrap_i64 (by omega) (by omega);have g:=l.ok.xJ (n:=m.now+1) (by omega);have hA:=d.xJ (m.now+1);have hF:=d.fM (.box (c8 {m with now:=m.now+1} p aH aT ev) none);have f:eI EK.ptr (AV.ptr M 0) AV.fN=some false:=rfl;have o:aN (c8 m p aH aT ev) 193 [.int .i64 ((m.now:Int)+1)]=c8 {m with now:=m.now+1} p aH aT ev:=ajX (n:=m.now+1);unfold jY;dsimp only;by_cases k1:8<b/\b<16\/24<=b
 ·rw[ac6 k1];have g1: (8:Int)<b:=by omega
  by_cases k2:b<16
  ·have g2: (b:Int)<16:=by omega
   simp only[go_sem,simprocAttr,sG,e,i,f,g1,g2];exact ir.fin d t d Fm.refl (ga.no ⟨rfl,rfl⟩) (adC _)
  ·have g2: ¬(b:Int)<16:=by omega
   have I: (24:Int)<=b:=by omega
   simp only[go_sem,simprocAttr,sG,e,i,f,g1,g2,I];exact ir.fin d t d Fm.refl (ga.no ⟨rfl,rfl⟩) (adC _)
 rw[ac0 k1];have I: ¬(24:Int)<=b:=by omega
 have E: ∀ (m':bg) (y C:AV) (nO s:Nat->AV) (W:List ae) (aj:oN),dt m'->m'.av.Q.length<1073741824->cb n M p q m' y C nO s W->Fm n [M,p,q] H W->ga (y=qv/\C=ev) p aj->
   ∃v w c,D XC (.fn (.func 63) [] []) [.ptr M 0] ⟨W,aj⟩=some (.ret v ⟨w,c⟩)/\ir n M p q H lo (lF m') qv ev (.int .i64 0) (.ret (finish N lo (.int .i64 0) ⟨w,c⟩).1 (finish N lo (.int .i64 0) ⟨w,c⟩).2):=by
  intro m' y C nO s W aj h1 h2 h3 h4 h5;obtain⟨J,G,x,P,u,r,w,c,rfl,F,c3,c4⟩:=awy h3 h1 h2 aj;exact⟨_,w,c,G,ir.fin d t F (h4.trans c3) (h5.step c4 λa b=>⟨b.1.trans a.1,b.2.trans a.2⟩) (adC _)⟩
 by_cases k8:b=8
 ·rw[ac6 k8];have g1: ¬(8:Int)<b:=by omega
  have B: (b:Int)=8:=by omega
  obtain⟨J,Q,x,W,c,rfl,r2,U,r4⟩:=avE d.co l.ok.av none;have k:=d.av r2 U;obtain⟨T,ro2⟩:=akv l.ok.av;cases L: (gO m.av).2 with
  |false=>
   rw[L]at Q;rw[ac0 (by decide)];have e1: ({m with av:=(gO m.av).1}:bg)=m:=by
    have: (gO m.av).1=m.av:=by
     unfold gO at L⊢;split
     ·rfl
     ·rename_i h;rw[h]at L;cases L
    rw[this]
   rw[e1]at k;simp only[go_sem,simprocAttr,sG,f,B,d.box,rN,Q];exact ir.fin d t k (cb.fc U) ((gR.n r4).imp (λq=>⟨q.1,q.2,rfl⟩) id) (adC _)
  |true=>
   rw[L]at Q;rw[ac6 rfl];have LJ:=k.xJ (m.now+1);have hF3:=(cb.fc (M:=M) U).trans (k.fM (.box (c8 {{m with av:=(gO m.av).1}with now:=m.now+1} p aH aT ev) none));obtain⟨v,w,K,G,F⟩:=E {m with av:=(gO m.av).1,now:=m.now+1} _ _ _ _ _ c ⟨T,l.ok.t,l.ok.c,l.ok.fr,by show m.now+1<_;omega,l.ok.ev,l.ok.run⟩ (by show(gO m.av).1.Q.length<_;omega) LJ hF3 ((gR.n r4).imp (λq=>⟨q.1,q.2,rfl⟩) id);have hb2:=k.box;have o:aN (c8 {m with av:=(gO m.av).1} p aH aT ev) 193 [.int .i64 ((m.now:Int)+1)]=c8 {m with av:=(gO m.av).1,now:=m.now+1} p aH aT ev:=ajX (m:={m with av:=(gO m.av).1}) (n:=m.now+1);have Z:=Ci (m:={m with av:=(gO m.av).1}) (p:=p) (aH:=aH) (aT:=aT) (ev:=ev);simp only[go_sem,simprocAttr,sG,f,B,d.box,rN,Q,hb2,Z,A,o,oK,G];exact F
 rw[ac0 k8];have B: ¬(b:Int)=8:=by omega
 have j:=λlo=>aj0 d (b % 8) lo
 cases O:vD m (b % 8)with
 |false=>
  rw[O]at j;rw[ac6 rfl];by_cases z:16<=b
  ·have g1: (8:Int)<b:=by omega
   have g2: ¬(b:Int)<16:=by omega
   simp only[go_sem,simprocAttr,sG,e,i,f,g1,g2,I,B,j];exact ir.fin d t d Fm.refl (ga.no ⟨rfl,rfl⟩) (adC _)
  ·have g1: ¬(8:Int)<b:=by omega
   simp only[go_sem,simprocAttr,sG,e,i,f,g1,I,B,j];exact ir.fin d t d Fm.refl (ga.no ⟨rfl,rfl⟩) (adC _)
 |true=>
  rw[O]at j;rw[ac0 (by decide)];by_cases z:16<=b
  ·rw[ac6 z];have g1: (8:Int)<b:=by omega
   have g2: ¬(b:Int)<16:=by omega
   have g5: (16:Int)<=b:=by omega
   obtain⟨J,s1,x,P,u,r,W,c,rfl,s2,S,R⟩:=awI hD hA g (b % 8) Y (by show m.av.Q.length<_;omega) (aks g _) none;obtain⟨X,V⟩:=akt g (by show m.av.Q.length<_;omega) (by show m.bz.length<_;omega) (b % 8);have o3:_<=m.av.Q.length+262600:=V.q;obtain⟨v,w,K,G,F⟩:=E _ _ _ _ _ _ c X (by omega) s2 (hF.trans S) (gR.n R);simp only[go_sem,simprocAttr,sG,e,i,f,g1,g2,I,B,g5,j,d.box,Ci,A,o,oK,s1,G];exact F
  ·rw[ac0 z];have g1: ¬(8:Int)<b:=by omega
   have g5: ¬(16:Int)<=b:=by omega
   obtain⟨J,s1,x,P,u,r,W,c,rfl,s2,S,R⟩:=awG hD hA g (b % 8) Y (by show m.av.Q.length<_;omega) (λm h1 h2=>(akp h1 h2 _).1) none;obtain⟨X,V⟩:=akr g (by show m.av.Q.length<_;omega) (by show m.bz.length<_;omega) Y;have o3:_<=m.av.Q.length+262600:=V.q;obtain⟨v,w,K,G,F⟩:=E _ _ _ _ _ _ c X (by omega) s2 (hF.trans S) (gR.n R);simp only[go_sem,simprocAttr,sG,e,i,f,g1,I,B,g5,j,d.box,Ci,A,o,oK,s1,G];exact F
def ug:aZ:={fW with alive:=λ_=>false,born:=λ_=>false}
theorem F2:m9=bn ug:=rfl
def akx(H:List ae)(lo:oN):D X0 (.fn (.func 52) [] []) [] ⟨H,lo⟩=some (.ret (.agg (bn fW)) ⟨H,lo⟩):=by
 refine aK Pf λN a=>?_
 have d:=afz (s:=ug) (i:=0) (v:=true) (by omega);have c:=afA (s:={ug with alive:=ai ug.alive 0 true}) (i:=0) (v:=true) (by omega);have b: ({ug with alive:=ai ug.alive 0 true,born:=ai ug.born 0 true}:aZ)=fW:=by rfl
 simp only[F1,go_sem,simprocAttr,Pf,a,F2,d,c,b,eg,kH,zL,xC]
def axq(n:Nat)(h:1<=n/\n<=64)(H:List ae)(lo:oN):D X0 (.fn (.func 137) [] []) [.int .i64 n] ⟨H,lo⟩=some (.ret (.agg [.sl [[.int .i64 0,.int .i64 n]] true]) ⟨H,lo⟩):=by
 refine aK PX λN a=>?_
 have e: ¬(n:Int)<1:=by omega
 have d:min (n:Int) 64=n:=by omega
 have c:b9 [[AV.int IntKind.i64 0,AV.int IntKind.i64 n]]<=N+1:=adC _;have b:b9 [[AV.int IntKind.i64 0,AV.int IntKind.i64 n]]<=N:=adC _;simp only[F1,go_sem,simprocAttr,PX,a,e,d,c,b]
def F3:cJ:=⟨0,[],λ_ _=>0,true⟩
def uh(n:Nat):cJ:=⟨n,[(0,n)],λ_ _=>0,true⟩
theorem aky{v:AV}: ∀n,jR n [v]=List.replicate n v
 |0=>rfl
 |n+1=>by show[v]++jR n [v]=_;rw[aky n];rfl
theorem akz{v:AV}{m:Nat}: ∀n,arr n (λ_=>List.replicate m v)=List.replicate (n*m) v
 |0=>by rw[Nat.zero_mul];rfl
 |n+1=>by rw[zd,akz n,aBm,apB]
theorem axr:qf (λ_=>0)=List.replicate 32 (AV.int .u8 0):=rfl
def axs:adx=cw F3:=by
 show[AV.int .i64 0,.au]++jR 2048 [AV.int .u8 0]=[AV.int .i64 0,.au]++arr 64 λ_=>qf λ_=>0
 rw[aky,axr,akz]
theorem aB7:cw F3=AV.int .i64 0:: .au::arr 64 λ_=>qf λ_=>0:=rfl
theorem aB8:cw (uh n)=AV.int .i64 n:: .sl [[.int .i64 0,.int .i64 n]] true::arr 64 λ_=>qf λ_=>0:=rfl
def akA{N id o:Nat}{k:IntKind}{a:Int}{H:List ae}(h:N<=id):finish N lo (.aA [.ptr id o,.int k a]) ⟨H,none⟩=(.aA [.ptr id o,.int k a],⟨H,lo⟩):=by
 have b: ¬(AV.aA [.ptr id o,.int k a]).refs<=N:=by simp only[AV.refs,aL];omega
 refine acp b ?_;rw[HC,ac0 b,iY,Oa h]
def axt{N id o j:Nat}{k:IntKind}{a:Int}{H:List ae}(h:N<=id):finish N lo (.aA [.ptr id o,.int k a]) ⟨H,some j⟩=(.aA [.ptr id o,.int k a],⟨H,cO lo j⟩):=by
 have b: ¬(AV.aA [.ptr id o,.int k a]).refs<=N:=by simp only[AV.refs,aL];omega
 rw[Dc];split
 ·rw[HC,ac0 b,iY,Oa h];rfl
 ·rfl
def axu(n:Nat)(h:1<=n/\n<=64)(N:Nat)(H:List ae)(d:H.length=N)(lo:oN):D X0 (.fn (.func 104) [] []) [.int .i64 n] ⟨H,lo⟩=some (.ret (.aA [.ptr N 0,.int .i64 0]) ⟨H++[.box (cw (uh n)) none],lo⟩):=by
 refine aK PA λM g=>?_
 have f: ¬(n:Int)<1:=by omega
 have e: ¬(64:Int)<n:=by omega
 have b:=λH lo=>axq n h H lo
 have c:1<=(cw F3).length:=by rw[xF];omega
 have a:1<=(List.drop 1 (cw F3)).length:=by rw[am7,xF];omega
 have he:AV.int .i64 n::AV.sl [[.int .i64 0,.int .i64 n]] true::List.drop 1 (List.drop 1 (cw F3))=cw (uh n):=by rfl
 simp only[go_sem,simprocAttr,PA,d,f,e,b,axs,c,a,he];rw[akA (by omega)]
theorem Ue:mE=bn ug++([.fN]++(dc (λ_=>xe)++[.au])):=rfl
def axv(n:Nat)(h:1<=n/\n<=64)(N:Nat)(H:List ae)(e:H.length=N)(lo:oN):D X0 (.fn (.func 67) [] []) [.int .i64 n] ⟨H,lo⟩=some (.ret (.aA [.ptr (N+1) 0,.int .i64 0]) ⟨H++[.box (cw (uh n)) none,.box (c7 ⟨fW,uh n,λ_=>xe,[]⟩ N .au) none],lo⟩):=by
 refine aK Pk λM j=>?_
 obtain rfl:M=N:=by omega
 have f:=λlo=>axu n h M H e lo
 have i:=λH lo=>akx H lo
 have d:List.drop 952 mE=[.fN]++(dc (λ_=>xe)++[.au]):=by rw[Ue];exact List.drop_left' (eg _)
 have g:mE.length=1274:=by rw[Ue,aeG,eg,aeG,aeG,eD];rfl
 have a:aN (bn fW++List.drop 952 mE) 952 [.ptr M 0]=c7 ⟨fW,uh n,λ_=>xe,[]⟩ M .au:=by
  rw[d,ij (by rw[eg];omega),eg];rfl
 have c:953<=952+(List.drop 952 mE).length:=by rw[d];simp[eD]
 have b:952<=mE.length:=by rw[g];omega
 simp only[go_sem,simprocAttr,Pk,e,f,i,eg,b,c,a];rw[akA (by omega)]
theorem akB:HL=[.fN]++(arr 8 (λ_=>xH xg .au .au)++[.int .i64 0,.au]):=rfl
def fb(n:Nat)(aF:List lB)(k:Nat):bg:=⟨⟨fW,uh n,λ_=>xe,[]⟩,λi=>{xg with t:={sU with code:=if i<k then((aF[i]?).bind decode).getD []else[]}},0,[]⟩
def axw(n:Nat)(aF:List lB)(a:lN):fb n aF aF.length=Sc ⟨n,aF,a⟩:=by
 unfold fb Sc
 congr 1
 grind
def m2(m:bg)(n N:Nat)(pv kv:AV)(aH:Nat->AV)(H:List ae):List ae:=
 H++[.box [.int .i64 n,pv,kv] none,.box (c8 m (N+3) aH (λ_=>.au) .au) none,.box (cw (uh n)) none,.box (c7 ⟨fW,uh n,λ_=>xe,[]⟩ (N+2) .au) none]
def akC{N:Nat}{H:List ae}(a:H.length=N): (m2 m n N pv kv aH H)[N+1]?=some (.box (c8 m (N+3) aH (λ_=>.au) .au) none):=by
 unfold m2;grind
def axx{m':bg}{N:Nat}{nO:Nat->AV}{H:List ae}(a:H.length=N): (m2 m n N pv kv aH H).set (N+1) (.box (c8 m' (N+3) nO (λ_=>.au) .au) none)=m2 m' n N pv kv nO H:=by
 unfold m2;simp_all
def axy{cv:AV}(c:k<aF.length)(b:k<8):
  aN (c8 (fb n aF k) p aH (λ_=>.au) .au) (1+k*24) (dn {sU with code:=(decode (aF.getD k default)).getD []} cv)=c8 (fb n aF (k+1)) p (ai aH k cv) (λ_=>.au) .au:=by
 have g:=FW (m:=fb n aF k) (p:=p) (aH:=aH) (aT:=λ_=>.au) (ev:=.au) (o:=0) (vs:=dn {sU with code:=(decode (aF.getD k default)).getD []} cv) (r:={xg with t:={sU with code:=(decode (aF.getD k default)).getD []}}) (cv:=cv) (rv:=.au) b (by rw[xG];omega) rfl;have e:ai (λ_=>AV.au) k AV.au=λ_=>AV.au:=mM (f:=λ_=>AV.au)
 have d: ({fb n aF k with aw:=ai (fb n aF k).aw k {xg with t:={sU with code:=(decode (aF.getD k default)).getD []}}}:bg)=fb n aF (k+1):=by
  have a:ai (fb n aF k).aw k {xg with t:={sU with code:=(decode (aF.getD k default)).getD []}}=(fb n aF (k+1)).aw:=by
   unfold ai fb
   grind
  rw[a];rfl
 grind
def axz{a:lB}(h:LD n aF a pv kv)(x:oz ⟨n,aF,a.map UInt8.toNat⟩=true)(N:Nat)(H:List ae)(r:H.length=N)(lo:oN):
  ∃P,D XC (.fn (.func 33) [] []) [.agg [.int .i64 n,pv,kv]] ⟨H,lo⟩=some P/\ ∃aH aj,P= .ret (.aA [.ptr (N+1) 0,.int .i64 0]) ⟨m2 (fb n aF aF.length) n N pv kv aH H,aj⟩/\
   (∀i,Rv (aH i) 5 (((fb n aF aF.length).aw i).t.code.map dm))/\ (aj=lo\/ ∃j,N<=j/\aj=cO lo j):=by
 obtain⟨w,f,R⟩:1<=n/\n<=64/\aF.length<=8:=by unfold oz at x;simp at x;omega
 have b:=λH lo=>c0 (awt h (by omega) H lo)
 rw[x]at b;refine cI Pa λM Z=>?_
 obtain rfl:M=N:=by omega
 have G:=λB lo=>c0 (axv n ⟨w,f⟩ (M+2) (H++[.box [.int .i64 n,pv,kv] none,.box B none]) (by simp[r]) lo)
 have c:=h.pr;have s:aN HL 0 [.ptr (M+3) 0]=c8 (fb n aF 0) (M+3) (λ_=>.au) (λ_=>.au) .au:=by rw[akB];rfl
 have y:1<=HL.length:=by rw[akB];simp
 have z: ¬M+2<=M:=by omega
 have I:M+2+1=M+3:=rfl;have A:=λE=>c.bZ (E:=E)
 simp only[go_sem,simprocAttr,Pa,r,b,G,s,y,z,A,I];refine gZ aF.length (λk e W aj=> ∃aH,e 4= .ptr (M+1) 0/\e 22=pv/\e 23= .int .i64 aF.length/\e 24= .int .i64 k/\W=m2 (fb n aF k) n M pv kv aH H/\ (∀i,Rv (aH i) 5 (((fb n aF k).aw i).t.code.map dm))/\aj=some (M+1)) 0 (by omega) ?_ ?_
 ·refine⟨λ_=>.au,?_⟩;simp only[go_sem,simprocAttr];exact⟨rfl,λi=>.au,rfl⟩
 rintro k Y e W aj ⟨aH,O,q,o,l,rfl,g,rfl⟩ V X;simp only[cm,go_sem,simprocAttr,adL,O,q,o,l];refine⟨λS=>?_,λS=>?_⟩
 ·have d:k<aF.length:=by omega
  have U:k<8:=by omega
  obtain⟨cv,t1,t2⟩:=awu (aF.getD k default) (m2 (fb n aF k) n M pv kv aH H) (some (M+1));have t1:=c0 t1;have F: (0:Int)<=k/\ (k:Int)<8:=by omega
  have T:=akC (m:=fb n aF k) (n:=n) (pv:=pv) (kv:=kv) (aH:=aH) r;have Q:=λm' nO=>axx (m:=fb n aF k) (m':=m') (n:=n) (pv:=pv) (kv:=kv) (aH:=aH) (nO:=nO) r
  have u:=axy (n:=n) (p:=M+3) (cv:=cv) (aH:=aH) d U;have v:=FO (t:={sU with code:=(decode (aF.getD k default)).getD []}) (dy t2 (bL (λ_=>rfl) _));have C:1+k*24+10<=195:=by omega
  simp(disch:=omega) only[go_sem,simprocAttr,O,q,o,l,c.cn,c.cE,sC,t1,F,T,Q,u,v,C,oK,xG];refine⟨by omega,by omega,ai aH k cv,rfl,λi=>?_⟩;by_cases L:i=k
  ·subst L;have e:aF.getD i default=aF[i]:=by simp[List.getD,d]
   rw[bI];have J: ((fb n aF (i+1)).aw i).t.code=(decode (aF.getD i default)).getD []:=by
    show(if i<i+1 then((aF[i]?).bind decode).getD []else[])=_;rw[ac6 (by omega),ac7 d,e];rfl
   rw[J];exact t2
  ·rw[bA L];have J: ((fb n aF (k+1)).aw i).t.code=((fb n aF k).aw i).t.code:=by
    show(if i<k+1 then((aF[i]?).bind decode).getD []else[])=(if i<k then((aF[i]?).bind decode).getD []else[]);by_cases K:i<k
    ·rw[ac6 K,ac6 (by omega)]
    ·rw[ac0 K,ac0 (by omega)]
   rw[J];exact g i
 ·obtain rfl:k=aF.length:=by omega
  rw[axt (by omega)];exact⟨aH,_,rfl,g,.inr ⟨M+1,by omega,rfl⟩⟩
theorem akD: ∀ (s:lB),∀x∈rC s,x.n<65536
 |a::b::c::d::e::f::r,x,h=>by
  rcases aeZ.1 h with rfl|h
  ·have:=e.toNat_lt;have:=f.toNat_lt
   grind
  ·exact akD r x h
 | [],x,h=>by cases h
 | [_],x,h=>by cases h
 | [_,_],x,h=>by cases h
 | [_,_,_],x,h=>by cases h
 | [_,_,_,_],x,h=>by cases h
 | [_,_,_,_,_],x,h=>by cases h
def axA{s:lB}{l:List ef}(h:decode s=some l):l.length<=64/\ ∀x∈l,FN x:=by
 unfold decode at h;split at h
 ·cases h
 split at h
 ·rename_i hm;cases h;unfold pR at hm;simp only[aeW,ae1,aeT]at hm;refine⟨hm.1,λx a=>?_⟩;have b:=hm.2 x a;unfold rB at b;simp at b;have c:=akD s x a;exact⟨by omega,by omega,by omega,by omega,c,λd=>by omega⟩
 grind
def Uf(h:Nat):aq (λ_=>⟨0,false,false⟩) h=false:=by
 unfold aq;grind
def akE:aV fW:=by
 have a:iB (λ_=>⟨0,false,false⟩):=λi=>⟨adC _,λh=>by rfl⟩
 refine⟨⟨⟨a,λi=>BV⟩,λh=>?_,λi=>?_⟩,⟨λi=>by show 0<4294967296;omega,λi=>SR⟩,⟨⟨a,λi h=>(by cases h),λi=>agO⟩,λi=>B6 _,[],.nil,λh q=>(by cases q),λh q=>?_,.nil,λh q=>(by cases q)⟩,λi=>⟨by show 0<4;omega,by show 0<=4;omega,λj=>S0⟩⟩
 ·have e:aR fW.T h=[]:=by
    unfold aR eO bD;have:fW.T.aq h=false:=Uf h
    grind
  grind
 ·exact B6 _
 ·rw[show aq fW.K.b h=false from Uf h]at q;cases q
def axB:iU xe:=⟨by trivial,by trivial,λi=>by show 0<8;omega,λi j h=>by cases h⟩
def axC(h:1<=n/\n<=64):fK (uh n):=⟨h.2,⟨List.pairwise_singleton _ _,λx a=>by rw[aeH.1 a];omega⟩,λi j=>by show 0<256;omega⟩
def akF(h:1<=n/\n<=64)(aF:List lB)(k:Nat):ql (fb n aF k):=by
 refine⟨⟨⟨akE,axC h,λi=>axB,λk d=>(by cases d),by show 0<_;omega⟩,λi=>?_,λi=>Ck,λi=>by show 0<_;omega,by show 0<_;omega,by show 0<_;omega,λi=>⟨by show 0<=64;omega,by show 0<=64;omega⟩⟩,by show 0<=_;omega,by show 0<=_;omega⟩;have a: (if i<k then((aF[i]?).bind decode).getD []else[]).length<=64/\ ∀x∈(if i<k then((aF[i]?).bind decode).getD []else[]),FN x:=by
  split
  ·cases c: (aF[i]?).bind decode with
   |none=>simp
   |some l=>
    obtain⟨s,_,b⟩:=an1.1 c;exact axA b
  grind
 exact⟨a.1,a.2,by show 0<=64;omega,λj=>by show 0<_;omega⟩
def axD{N:Nat}{H:List ae}(b:H.length=N)
  (a: ∀i,Rv (aH i) 5 (((fb n aF aF.length).aw i).t.code.map dm)):
  cb N (N+1) (N+3) (N+2) (fb n aF aF.length) .au .au aH (λ_=>.au) (m2 (fb n aF aF.length) n N pv kv aH H):=
 ⟨by omega,by omega,⟨by omega,by omega,by omega,by unfold m2;rw[bM b];rfl,by unfold m2;rw[bM b];rfl,dk.au⟩,akC b,dk.au,a,λi=>.au⟩
def axE{N id o:Nat}{vs:lA}{aj:oN}{H:List ae}(h:N<=id):finish N lo (.aA (.ptr id o::vs)) ⟨H,aj⟩=(.aA (.ptr id o::vs),⟨H,gS lo aj⟩):=by
 have a: ¬(AV.aA (.ptr id o::vs)).refs<=N:=by simp only[AV.refs,aL];omega
 have b: ∀E,Den.freeze E N 12 (.aA (.ptr id o::vs))=none:=λE=>by rw[HC,ac0 a,iY,Oa h]
 cases aj with
 |none=>rw[uG,ac0 a,b]
 |some j=>
  rw[Dc,b,ac0 a]
  grind
def cb.mono{H:List ae}(h:cb n M p q m qv ev aH aT H)(b:a<=n):cb a M p q m qv ev aH aT H:=
 ⟨by have:=h.nM;omega,h.Mq,⟨by have:=h.co.mp;omega,by have:=h.co.mq;omega,h.co.qp,h.co.box,h.co.jr,h.co.jt⟩,h.box,h.rO,h.cv,h.rv⟩
def F4(e:Nat):lA:=[.int .i64 e]
def cb.axF{H W:List ae}{ty:TypeId}(h:cb n M p q m qv ev aH aT H)(j:ty≠o6\/sz≠1)(g:ty≠m8\/sz≠14)
  (b: ∀ (i:Nat) (o:ae),(∀a d,o≠ae.row a sz ty d)->H[i]?=some o->W[i]?=some o):cb n M p q m qv ev aH aT W:=by
 have c: ∀cs tg,∀a d,ae.box cs tg≠ .row a sz ty d:=λ_ _ _ _ e=>by cases e
 refine⟨h.nM,h.Mq,⟨h.co.mp,h.co.mq,h.co.qp,b _ _ (c _ _) h.co.box,b _ _ (c _ _) h.co.jr,h.co.jt.nX λid ak all f=>b _ _ (λa d e=>?_) f⟩,b _ _ (c _ _) h.box,h.rO.nX λid ak all f=>b _ _ (λa d e=>?_) f,h.cv,h.rv⟩
 ·grind
 grind
def runK(n:Nat)(aF:List lB)(a:lB)(k:Nat):bg×lN:=
 ((a.take k).map UInt8.toNat).foldl (λp b=>((jY p.1 b).1,p.2++[(jY p.1 b).2])) (fb n aF aF.length,[])
def LN{a:lB}(h:k<a.length):
  runK n aF a (k+1)=((jY (runK n aF a k).1 (a.getD k default).toNat).1,(runK n aF a k).2++[(jY (runK n aF a k).1 (a.getD k default).toNat).2]):=by
 have e:a.getD k default=a[k]:=by grind
 unfold runK;rw[agn,ac7 h,aeP,ang,e];rfl
def akG(n:Nat)(aF:List lB)(a:lB):runK n aF a a.length=Fe ⟨n,aF,a.map UInt8.toNat⟩:=by
 unfold runK Fe;rw[aeQ,axw n aF (a.map UInt8.toNat)]
theorem akH{n:Nat}(h:1<=n/\n<=64)(aF:List lB){a:lB}(b:a.length<=4000): ∀k,k<=a.length->ql (runK n aF a k).1/\ (runK n aF a k).1.now<=k
 |0,_=>⟨akF h aF _,adA 0⟩
 |k+1,d=>by
  obtain⟨c,g⟩:=akH h aF b k (by omega);obtain⟨f,e⟩:=akw c (by omega) (a.getD k default).toNat;rw[LN (by omega)]
  grind
theorem akI{n:Nat}{aF:List lB}{a:lB}: ∀k,k<=a.length->(runK n aF a k).2.length=k
 |0,_=>rfl
 |k+1,b=>by rw[LN (by omega)];rw[aeG,akI k (by omega)];rfl
def axG{b:lB}(hD: ∀op,oG op)(h:LD n aF b pv kv)(l:oz ⟨n,aF,b.map UInt8.toNat⟩=true)(N:Nat)(H:List ae)(s:H.length=N)(lo:oN):
  ∃z,D XC (.fn (.func 13) [] []) [.agg [.int .i64 n,pv,kv]] ⟨H,lo⟩=some z/\ ∃M p q qv ev aH aT c H' aj,z= .ret (.aA [.ptr M 0,c,.int .i64 0]) ⟨H',aj⟩/\
   cb N M p q (Fe ⟨n,aF,b.map UInt8.toNat⟩).1 qv ev aH aT H'/\dk N H' c 1 uL ((Fe ⟨n,aF,b.map UInt8.toNat⟩).2.map F4)/\H.length<=H'.length/\ ∀i,i<N->H'[i]?=H[i]?:=by
 obtain⟨F,o,G⟩:1<=n/\n<=64/\b.length<=4000:=by unfold oz at l;simp at l;omega
 refine cI O3 λM hM=>?_
 obtain rfl:M=N:=by omega
 have Cm:=dy h.pr (bL (λ_=>rfl) _);have Ol:=dy h.pk (bL (λ_=>rfl) _);obtain⟨z,S,aH,lo1,rfl,R,n3⟩:=axz h l (M+1) (H++[.box [.int .i64 n,pv,kv] none]) (by simp[s]) none;have O:M+1+1=M+2:=rfl;have I:=λE=>h.pk.bZ (E:=E)
 have g:=axD (N:=M+1) (n:=n) (aF:=aF) (pv:=pv) (kv:=kv) (H:=H++[.box [.int .i64 n,pv,kv] none]) (by simp[s]) R;have T: (m2 (fb n aF aF.length) n (M+1) pv kv aH (H++[.box [.int .i64 n,pv,kv] none]))[M]?=some (.box [.int .i64 n,pv,kv] none):=by
  unfold m2;rw[acj (by simp[s]),dB s];rfl
 simp only[go_sem,simprocAttr,O3,s,O,S,T,I];refine gZ b.length (λk e W aj=> ∃qv ev aH aT c,e 5= .ptr (M+2) 0/\e 7=c/\e 19=kv/\e 20= .int .i64 b.length/\e 21= .int .i64 k/\cb (M+1) (M+2) (M+4) (M+3) (runK n aF b k).1 qv ev aH aT W/\dk M W c 1 uL ((runK n aF b k).2.map F4)/\H.length<=W.length/\ ∀i,i<M->W[i]?=H[i]?) 0 (by omega) ?_ ?_
 ·refine⟨.au,.au,aH,λ_=>.au,.au,?_⟩;simp only[go_sem,simprocAttr];refine⟨g,dk.au,by unfold m2;simp,λi J=>?_⟩;unfold m2;rw[acj (by simp;omega),acj (by omega)]
 clear g T S R n3 aH;rintro k hk e W aj ⟨qv,ev,aH,aT,c,V,e7,v,u,t,g,U,hl,f⟩ nn hn;simp only[cm,go_sem,simprocAttr,adH,V,e7,v,u,t];refine⟨λhh=>?_,λhh=>?_⟩
 ·have r:k<b.length:=by omega
  obtain⟨o1,o2⟩:=akH ⟨F,o⟩ aF G k (by omega);have hb:=(b.getD k default).toNat_lt;obtain⟨z,Z,A,Q,w,m,X,C,rfl,Y,x,p4⟩:=axn hD g o1 (by omega) (b.getD k default).toNat hb aj;have K:M<=X.length:=by have:=x.len;omega
  have L:dk M X c 1 uL ((runK n aF b k).2.map F4):=U.nX λid ak all j=>x.box id _ (by
   have h1:=g.box;have h2:=g.co.box;have h3:=g.co.jr;intro l;simp at l;rcases l with rfl|rfl|rfl
   ·rw[h1]at j;cases j
   ·rw[h2]at j;cases j
   ·rw[h3]at j;cases j) (λq=>by
   rcases q with⟨a,d,q⟩| ⟨a,d,q⟩
   ·injection q with _ _ q;cases q
   ·injection q with _ q;cases q) j
  obtain⟨B,W3,g1,g2,g3,g4,g5,g6,g7,g8⟩:=dk.append (bytes:=8) (lo:=C) (y:=F4 (jY (runK n aF b k).1 (b.getD k default).toNat).2) L K (by omega) rfl rfl (by rw[aeK,akI k (by omega)];unfold room;omega);have P:=Y.axF (sz:=1) (ty:=uL) (.inl (by decide)) (.inl (by decide)) g5;unfold F4 at g1;simp(disch:=omega) only[go_sem,simprocAttr,V,e7,v,u,t,h.pk.cn,h.pk.cE,bC,Z,g1];rw[LN r];refine⟨by omega,r,A,Q,w,m,B,rfl,P,?_,by have:=x.len;omega,λi J=>(g4 i J).trans ((x.low i (by omega)).trans (f i J))⟩;rw[aeP];exact g2
 ·obtain rfl:k=b.length:=by omega
  rw[axE (by omega),<-akG];exact⟨M+2,M+4,M+3,qv,ev,aH,aT,c,W,_,rfl,g.mono (by omega),U,by omega,f⟩
def akJ{E:AS}{af:List lA}(h:Rd E v sz af): (v= .au/\af=[])\/eI .sl v .au=some false:=by
 have a:=h.kind;cases v<;>first|exact .inr rfl|grind|skip
 ·exact .inl ⟨rfl,by have:=h.eq;simp[Den.elems]at this;omega⟩
def akK{α:Type}{l:List α}{g:α->lA}{ty:TypeId}{bytes N:Nat}{H:List ae}(a:H.length=N)(b:0<sz)(i: ∀x,(g x).length=sz)(c: ∀x,aL (g x)=0)(e:l≠[])(d:l.length*bytes<=room):
  dO ⟨H,none⟩ ty sz bytes (.sl [] true) (l.map g)=some (.ref N 0 sz 0 l.length false,⟨H++[.row 0 sz ty (l.map g)],none⟩)/\finish N lo (.ref N 0 sz 0 l.length false) ⟨H++[.row 0 sz ty (l.map g)],none⟩=(.sl (l.map g) false,⟨H,lo⟩):=by
 have f:0<l.length:=aBc.2 e;have ha: (l.map g).all (λel=>el.length==sz)=true:=by grind
 have ho:aP N (H++[.row 0 sz ty (l.map g)]) (.ref N 0 sz 0 l.length false) sz ty (l.map g):=
  ⟨λel h=>by grind,.inr ⟨N,0,adA _,by simp,dB a⟩⟩
 refine⟨?_,?_⟩
 ·simp only[dO,ha];rw[ac6 ⟨b,trivial⟩,ac0 (by rw[aeK];omega),ac6 ⟨by simpa using d,rfl⟩];simp[AS.push,a]
 ·rw[Fk (.inl rfl) ho (by rw[bL c];omega),mC a];rfl
def axH{l:lN}{H:List ae}(h:Rd ⟨H,none⟩ v 1 (l.map jH))(e:l.length*8<=room)(lo:oN):
  ∃v',D X0 (.fn (.func 55) [] []) [v] ⟨H,lo⟩=some (.ret v' ⟨H,lo⟩)/\Rv v' 1 (l.map jH):=by
 have d:=h.eq;have a:eI EK.sl AV.au AV.au=some true:=rfl;have e3:b9 ([]:List lA)=0:=rfl;rcases akJ h with⟨rfl,he⟩|he
 ·refine⟨.au,?_,by rw[he];exact .au⟩;refine aK y4 λN b=>?_
  simp(disch:=omega) only[F1,go_sem,simprocAttr,y4,a]
 ·by_cases c:l=[]
  ·subst c;refine⟨.sl [] true,?_,.sl (λel h=>by cases h)⟩;refine aK y4 λN b=>?_
   have e1:dO ⟨H,none⟩ o6 1 8 (.sl [] true) []=some (.sl [] true,⟨H,none⟩):=rfl;simp(disch:=omega) only[F1,go_sem,simprocAttr,y4,he,d,e1,e3]
  ·refine⟨.sl (l.map jH) false,?_,.sl (λel h=>by obtain⟨x,_,rfl⟩:=aeO.1 h;rfl)⟩;refine aK y4 λN b=>?_
   obtain⟨e1,f⟩:=akK (sz:=1) (ty:=o6) (bytes:=8) (lo:=lo) (g:=jH) b (by omega) (λ_=>rfl) (λ_=>rfl) c e;simp only[go_sem,simprocAttr,y4,he,d,e1,f]
def dk.refs{N:Nat}{H:List ae}{ty:TypeId}{af:List lA}(h:dk N H v sz ty af):v.refs<=H.length:=by
 rcases h.2 with⟨rfl,_⟩| ⟨id,ak,off,all,_,rfl,a,_⟩
 ·exact adC _
 ·have:=fy a;simp only[AV.refs];omega
section
variable{n M p q:Nat}{m:bg}{qv ev:AV}{aH aT:Nat->AV}{H:List ae}(ha:cb n M p q m qv ev aH aT H)
include ha
theorem axI(A:m.av.Q.length<1073741824)(lo:oN):
  ∃v,D XC (.fn (.func 17) [] []) [.ptr M 0] ⟨H,lo⟩=some (.ret (.agg (c7 m.av q v)) ⟨H,lo⟩)/\Rv v 1 (m.av.Q.map jH):=by
 obtain⟨N,z⟩: ∃N,H.length=N:=⟨_,rfl⟩;have u:=ha.co.jt.app [.box mE none,.box (c7 m.av q qv) none];obtain⟨v,r,c⟩:=axH (u.rd (lo:=none)) (by unfold room;omega) none;have r:=c0 r;refine⟨v,?_,c⟩;refine aK O7 λK B=>?_
 obtain rfl:K=N:=by omega
 have s:mE.length=1274:=by rw[Ue,aeG,eg,aeG,aeG,eD];rfl
 have w: ∀l:lA,l.length=1274->aN mE 0 l=l:=λl h=>mN (by rw[s,h])
 have y:aL (c7 m.av q qv)<=K:=by
  rw[TD];have:=ha.co.jt.refs;have:=ha.co.qp;have:=ha.co.lt;omega
 have b:aL (c7 m.av q v)<=K:=by
  rw[TD];have:=dy c (bL (λ_=>rfl) _);have:=ha.co.qp;have:=ha.co.lt;omega
 have a:=rK (c ⟨H,none⟩);have o:aL (c7 m.av q qv)<=K+1+1:=by omega
 have k:v.refs<=K+1+1:=by have:=dy c (bL (λ_=>rfl) _);omega
 have j:aL (c7 m.av q v)<=K+1:=by omega
 have d:eI EK.ptr (AV.ptr M 0) AV.fN=some false:=rfl;have f:=bm (L:=[.box mE none]) ha.box;have e:=bm (L:=[.box mE none]) ha.co.box;have i:=Lu (x:=m.av) (q:=q) (qv:=qv);have g:=Lu (x:=m.av) (q:=q) (qv:=v);have t: ∀l:lA,l.length=1274->List.take 1274 l=l:=λl h=>by rw[<-h,aeQ]
 simp only[F1,go_sem,simprocAttr,O7,z,d,f,e,rN,r,w,t,i,g,KL,KS,s,o,k,j,b,a.1,a.2]
end
def oL(x:ef):lA:=[.int .i64 x.op,.int .i64 x.a,.int .i64 x.b,.int .i64 x.c,.int .i64 x.n]
def axJ(v:AV)(l:List ef)(E:l.length<2147483648)(H:List ae)(h:Rd ⟨H,none⟩ v 5 (l.map oL))(lo:oN):
  D X0 (.fn (.func 86) [] []) [v] ⟨H,lo⟩=some (.ret (.bool (pR l)) ⟨H,lo⟩):=by
 refine aK Jl λN s=>?_
 unfold pR;by_cases c:l.length<=64
 ·have p: ¬((l.length:Nat):Int)>64:=by omega
  rw[ady c,amH];simp only[go_sem,simprocAttr,Jl,h.bZ,p];refine fE l.length (λk e W=>H<+:W/\e 0=v/\e 3= .int .i64 k/\ ∀j,j<k->rB (l.getD j default) l.length=true) 0 (by omega) ?_ ?_
  ·simp only[go_sem,simprocAttr];exact⟨arK,λj o=>absurd o (ao4 j)⟩
  rintro k F e W ⟨d,q,e3,g⟩ n B;have hw:=h.mono (aj:=none) d;simp only[cm,F1,go_sem,simprocAttr,adT,q,e3,hw.bZ];refine⟨λC=>?_,λC=>?_⟩
  ·have b:k<l.length:=by omega
   have a: ∀x,Den.part true 5 (oL x) 0=some (.agg (oL x)):=λ_=>rfl
   have r: ∀x:ef,(oL x)[0]?=some (.int .i64 x.op):=λ_=>rfl
   have z: ∀x:ef,(oL x)[1]?=some (.int .i64 x.a):=λ_=>rfl
   have y: ∀x:ef,(oL x)[2]?=some (.int .i64 x.b):=λ_=>rfl
   have w: ∀x:ef,(oL x)[3]?=some (.int .i64 x.c):=λ_=>rfl
   have u: ∀x:ef,(oL x)[4]?=some (.int .i64 x.n):=λ_=>rfl
   have t: ∀x:ef,(oL x).length=5:=λ_=>rfl
   have rr: ∀x:ef,aL (oL x)=0:=λ_=>rfl
   have A:=hw.ext (L:=[.box (oL (l.getD k default)) none]) (aj:=none);have m: ∀L,gF ⟨W++L,none⟩ .sl v=some (.int .i64 l.length):=λL=>(hw.ext (L:=L) (aj:=none)).bZ
   simp(disch:=omega) only[go_sem,simprocAttr,hw.cn,hw.cE,↓a,B,t,rr,r];refine⟨by omega,?_⟩;generalize f:l.getD k default=x at*;refine wj 62 (.bool (!rB x l.length)) [0,3] rfl rfl ?_ λG=>?_
   ·unfold rB;simp(disch:=omega) only[R4,go_sem,simprocAttr,r,z,y,w,u,m,q]
    (repeat' (first|apply And.intro|intro _))
    all_goals(refine ahR AV.bool (anb.2 ?_);simp[];try(intros;omega))
   cases hm:rB x l.length
   ·simp only[F1,go_sem,simprocAttr];have a: (l.all λx=>rB x l.length)=false:=by
     rw[azu];exact⟨x,by rw[<-f];exact fX b,by rw[hm];decide⟩
    rw[a];exact dp rfl (lH s λi g=>by obtain⟨L,rfl⟩:=d;rw[ac8,acj (by omega)])
   ·simp(disch:=omega) only[go_sem,simprocAttr,q,e3];refine⟨b,d.trans (aj8 _ _),nC g (by rw[f,hm])⟩
  ·have a: (l.all λx=>rB x l.length)=true:=by
     rw[aeT];intro x f;obtain⟨j,o,rfl⟩:=ara f;have:=g j (by omega);rwa[show l.getD j default=l[j] by simp[List.getD,o]]at this
   rw[a];exact dp rfl (lH s λi g=>by obtain⟨L,rfl⟩:=d;rw[acj (by omega)])
 ·have p: ((l.length:Nat):Int)>64:=by omega
  rw[adb c,agq];simp(disch:=omega) only[F1,go_sem,simprocAttr,Jl,h.bZ,p]
def axK(s:lB)(F:s.length<=1000)(H:List ae)(lo:oN):
  ∃v,D X0 (.fn (.func 48) [] []) [S s] ⟨H,lo⟩=some (.ret (.aA [v,.bool (decode s).isSome]) ⟨H,lo⟩):=by
 suffices A: ∃h,D X0 (.fn (.func 48) [] []) [S s] ⟨H,lo⟩=some h/\ (λh=> ∃v,h=aU.ret (.aA [v,.bool (decode s).isSome]) ⟨H,lo⟩) h by
  obtain⟨h,x,v,rfl⟩:=A;exact⟨v,x⟩
 refine cI Pc λN m=>?_
 simp only[go_sem,simprocAttr,Pc];refine fE (s.length/6) (λk e W=>e 0=S (s.drop (6*k))/\H<+:W/\aP N W (e 4) 5 adv ((ia s k).map oL)) 0 (by omega) ?_ ?_
 ·simp only[go_sem,simprocAttr];exact⟨arK,aP.au⟩
 rintro k G e W ⟨z,a,p⟩ n B;have C: (s.drop (6*k)).length=s.length-6*k:=am7 ..;have f: (ia s k).length=k:=by simp[ia]
 simp only[cm,go_sem,simprocAttr,adO,z,B];refine⟨λE=>?_,λE=>?_⟩
 ·have c:k<s.length/6:=by omega
  have I:6<=(s.drop (6*k)).length:=by omega
  have q:uu (S (s.drop (6*k))) (some (.int .i64 6)) none=some (S (s.drop (6*(k+1)))):=by
   rw[Hj,ac6 ⟨by omega,by omega⟩,ape];rfl
  have d: ∀j,((s.drop (6*k)).getD j 0).toNat<256:=λj=>UInt8.toNat_lt _
  have Q:=d 0;have P:=d 1;have O:=d 2;have M:=d 3;have K:=d 4;have J:=d 5;simp(disch:=omega) only[go_sem,simprocAttr];refine⟨by omega,by omega,by omega,by omega,by omega,by omega,?_⟩;refine qL (N:=N) (H0:=H) (bytes:=40) (ys:=[oL (qk (s.drop (6*k)))]) p a m (by omega) (by intro el t;rw[aeH.1 t];rfl) rfl (by rw[aeK,f];show(k+1)*40<=room;unfold room;omega) λv' R o r=>?_
  simp only[go_sem,simprocAttr,z,q];refine⟨c,r,?_⟩;rw[T3,aeP];exact o
 ·have c:k=s.length/6:=by omega
  by_cases y:s.length % 6=0
  ·have l: ¬(0:Int)< ((s.drop (6*k)).length:Nat):=by omega
   have b:=λlo=>axJ (e 4) (ia s k) (by omega) W (mj p none) lo
   have g:rC s=ia s k:=by rw[c];exact ajV y
   have u:decode s=if pR (ia s k)then some (ia s k)else none:=by
    unfold decode;by_cases x:s.length<=384
    ·rw[ac0 (by omega),g]
    ·rw[ac6 (by omega)];have:pR (ia s k)=false:=by unfold pR;rw[adb (by rw[f];omega)];rfl
     rw[this];rfl
   rw[u];cases hm:pR (ia s k)with
   |true=>
    rw[hm]at b;simp only[go_sem,simprocAttr,l,b];rw[p.acn (by rw[bL (λ_=>rfl)];omega) (adC _)];exact⟨_,dp rfl (lH m λi w=>by obtain⟨L,rfl⟩:=a;rw[acj (by omega)])⟩
   |false=>
    rw[hm]at b;simp only[go_sem,simprocAttr,l,b];rw[xp rfl];exact⟨.au,dp rfl (lH m λi w=>by obtain⟨L,rfl⟩:=a;rw[acj (by omega)])⟩
  ·have l: (0:Int)< ((s.drop (6*k)).length:Nat):=by omega
   have u:decode s=none:=by unfold decode;rw[ac6 (.inl y)]
   rw[u];simp only[go_sem,simprocAttr,l];rw[xp rfl];exact⟨.au,dp rfl (lH m λi w=>by obtain⟨L,rfl⟩:=a;rw[acj (by omega)])⟩
def fA(aS:Int)(pv:AV)(bh:lB):lA:=[.int .i64 aS,pv,S bh]
structure Ug(aS:Int)(aF:List lB)(bh:lB)(pv:AV):Prop where
 pg: -9223372036854775808<=aS/\aS<9223372036854775808
 pr:Rv pv 1 (aF.map sC)
def vW(aF:List lB)(bh:lB):Bool:=decide (20<aF.length)|| (decide (6000<bh.length)||aF.any λp=>decide (1000<p.length))
def LO(aF:List lB)(bh:lB):Bool:=vW aF bh||decide (1500<bh.length)
section
variable{aS:Int}{aF:List lB}{bh:lB}{pv:AV}(h:Ug aS aF bh pv)
include h
theorem axL:aL (fA aS pv bh)=0:=by
 have:=dy h.pr (bL (λ_=>rfl) _);simp[fA,aL,AV.refs,S,this]
theorem axM(H:List ae)(lo:oN):D X0 (.fn (.func 47) [] []) [.agg (fA aS pv bh)] ⟨H,lo⟩=some (.ret (.bool (vW aF bh)) ⟨H,lo⟩):=by
 refine aK En λN f=>?_
 have g1: (fA aS pv bh)[1]?=some pv:=rfl;have g2: (fA aS pv bh)[2]?=some (S bh):=rfl;unfold vW;by_cases g:20<aF.length
 ·have a: (aF.length:Int)>20:=by omega
  rw[ady g,avd];simp only[F1,go_sem,simprocAttr,En,f,g1,h.pr.bZ,a]
 by_cases l:6000<bh.length
 ·have a: ¬(aF.length:Int)>20:=by omega
  have b: (bh.length:Int)>6000:=by omega
  rw[adb g,ady l,avd,avU];simp only[F1,go_sem,simprocAttr,En,f,g1,g2,h.pr.bZ,a,b]
 have a: ¬(aF.length:Int)>20:=by omega
 have b: ¬(bh.length:Int)>6000:=by omega
 rw[adb g,adb l,avU,avU];simp only[go_sem,simprocAttr,En,f,g1,g2,h.pr.bZ,a,b];refine fE aF.length (λk e W=>W=H++[.box (fA aS pv bh) none]/\e 1= .ptr N 0/\e 3= .int .i64 k/\ ∀j,j<k->(λp:lB=>decide (1000<p.length)) (aF.getD j default)=false) 0 (by omega) ?_ ?_
 ·simp only[go_sem,simprocAttr];exactλj d=>absurd d (ao4 j)
 rintro k t e W ⟨rfl,e1,e3,i⟩ n s;simp(disch:=omega) only[cm,F1,go_sem,simprocAttr,adN,e1,e3,g1,h.pr.bZ];refine⟨λr=>?_,λr=>?_⟩
 ·have c:k<aF.length:=by omega
  simp(disch:=omega) only[cm,F1,go_sem,simprocAttr,e1,e3,h.pr.cn,h.pr.cE,↓pS];refine⟨by omega,λo=>?_,λo=>?_⟩
  ·rw[(List.any_eq_true).2 ⟨_,fX c,ady (by omega)⟩]
  ·exact⟨c,nC (p:=λj=>decide (1000< (aF.getD j default).length)=false) i (adb (by omega))⟩
 ·have: (aF.any λp=>decide (1000<p.length))=false:=by
    rw[List.any_eq_false];intro x m;obtain⟨j,d,rfl⟩:=ara m;have:=i j (by omega);rw[show aF.getD j default=aF[j] by simp[List.getD,d]]at this;exactλq=>by rw[show decide (1000<aF[j].length)=false from this]at q;cases q
  rw[this]
theorem axN(H:List ae)(lo:oN):D X0 (.fn (.func 10) [] []) [.agg (fA aS pv bh)] ⟨H,lo⟩=some (.ret (.bool (LO aF bh)) ⟨H,lo⟩):=by
 refine aK Jb λN e=>?_
 have g2: (fA aS pv bh)[2]?=some (S bh):=rfl;have c: (fA aS pv bh).length=3:=rfl;have b:List.take 3 (fA aS pv bh)=fA aS pv bh:=rfl;have e1:decide ((bh.length:Int)>1500)=decide (1500<bh.length):=ae0.2 (by omega);have a:=axM h;unfold LO;cases d:vW aF bh
 ·rw[d]at a;simp only[F1,go_sem,simprocAttr,Jb,e,g2,a,c,b,e1]
 ·rw[d]at a;simp only[F1,go_sem,simprocAttr,Jb,e,a,c,b]
theorem axO(i:vW aF bh=false)(H:List ae)(lo:oN): ∃kv,D X0 (.fn (.func 14) [] []) [.agg (fA aS pv bh)] ⟨H,lo⟩=some (.ret (.agg [.int .i64 aS,pv,kv]) ⟨H,lo⟩)/\LD aS aF bh pv kv:=by
 have g:aF.length<=20/\bh.length<=6000:=by
  unfold vW at i
  grind
 refine⟨.sl (bh.map bC) false,?_,⟨h.pr,.sl λel d=>by obtain⟨x,_,rfl⟩:=aeO.1 d;rfl,by omega,by omega⟩⟩;refine aK O4 λN j=>?_
 have k: (fA aS pv bh)[0]?=some (.int .i64 aS):=rfl;have g1: (fA aS pv bh)[1]?=some pv:=rfl;have g2: (fA aS pv bh)[2]?=some (S bh):=rfl;have b:=dy h.pr (bL (λ_=>rfl) _);have c:Hh (S bh)=some (.sl (bh.map bC) false):=by
  have e:Hh (S bh)=if bh.length<=room then some (.sl (bh.map bC) false)else none:=rfl
  rw[e,ac6 (by unfold room;omega)]
 have f:b9 (bh.map bC)=0:=bL (λ_=>rfl) _;have a:=rK (h.pr ⟨[],none⟩);simp only[F1,go_sem,simprocAttr,O4,j,k,g1,g2,c,a.1,a.2,b,f,asR,aoT]
theorem axP(t:vW aF bh=false)(H:List ae)(lo:oN):D X0 (.fn (.func 11) [] []) [.agg (fA aS pv bh)] ⟨H,lo⟩=some (.ret (.bool (oz ⟨aS,aF,bh.map UInt8.toNat⟩)) ⟨H,lo⟩):=by
 refine aK O0 λN F=>?_
 have A: (fA aS pv bh)[0]?=some (.int .i64 aS):=rfl;have g1: (fA aS pv bh)[1]?=some pv:=rfl;have g2: (fA aS pv bh)[2]?=some (S bh):=rfl;obtain⟨w,f⟩: ∃b,b=decide (1<=aS/\aS<=64/\1<=aF.length/\aF.length<=8/\bh.length<=4000):=⟨_,rfl⟩;have r:oz ⟨aS,aF,bh.map UInt8.toNat⟩=(w&&aF.all (λp=>(decode p).isSome)&& (bh.map UInt8.toNat).all lG):=by unfold oz;rw[aeK,f]
 rw[r];simp only[go_sem,simprocAttr,O0,F,A];refine wj 33 (.bool (!w)) [1] rfl rfl ?_ λG=>?_
 ·rw[f];simp(disch:=omega) only[R4,go_sem,simprocAttr,A,g1,g2,h.pr.bZ];generalize aF.length=np
  (repeat' (first|apply And.intro|intro _))
  all_goals(refine ahR AV.bool (anb.2 ?_);simp[];try(intros;omega))
 cases w
 ·simp(disch:=omega) only[F1,go_sem,simprocAttr];rfl
 have f:=(api f.symm);simp only[go_sem,simprocAttr];refine fE aF.length (λk e W=>W=H++[.box (fA aS pv bh) none]/\e 1= .ptr N 0/\e 3= .int .i64 k/\ ∀j,j<k->(λp:lB=>(decode p).isSome) (aF.getD j default)=true) 0 (by omega) ?_ ?_
 ·simp only[go_sem,simprocAttr];exactλj g=>absurd g (ao4 j)
 rintro k I e W ⟨rfl,e1,e3,l⟩ n C;simp(disch:=omega) only[cm,go_sem,simprocAttr,adG,e1,e3,g1,h.pr.bZ];refine⟨λq=>?_,λq=>?_⟩
 ·have a:k<aF.length:=by omega
  have s: (aF.getD k default).length<=1000:=by
   unfold vW at t;simp only[Bool.or_eq_false_iff,List.any_eq_false,ae1]at t;have:=t.2.2 _ (fX a);omega
  obtain⟨v,u⟩:=axK (aF.getD k default) s (H++[.box (fA aS pv bh) none]) none;simp(disch:=omega) only[go_sem,simprocAttr,h.pr.cn,h.pr.cE,↓pS,u];refine⟨by omega,?_⟩;cases m: (decode (aF.getD k default)).isSome
  ·simp(disch:=omega) only[F1,go_sem,simprocAttr];have: (aF.all λp=>(decode p).isSome)=false:=by
    rw[azu];exact⟨_,fX a,by rw[m];decide⟩
   rw[this];rfl
  ·simp(disch:=omega) only[go_sem,simprocAttr,e1,e3];exact⟨a,nC (p:=λj=>(decode (aF.getD j default)).isSome=true) l m⟩
 have d: (aF.all λp=>(decode p).isSome)=true:=by
  rw[aeT];intro x o;obtain⟨j,g,rfl⟩:=ara o;have:=l j (by omega);rwa[show aF.getD j default=aF[j] by simp[List.getD,g]]at this
 rw[d,amH];clear l d;refine fE bh.length (λk e W=>W=H++[.box (fA aS pv bh) none]/\e 1= .ptr N 0/\e 6= .int .i64 k/\ ∀j,j<k->lG (bh.getD j 0).toNat=true) 0 (by omega) ?_ ?_
 ·simp only[go_sem,simprocAttr,e1];exactλj g=>absurd g (ao4 j)
 clear e1 e3 q;rintro i E e W ⟨rfl,e1,e6,l⟩ n C;simp(disch:=omega) only[cm,F1,go_sem,simprocAttr,adF,e1,e6,g2];refine⟨λq=>?_,λq=>?_⟩
 ·have a:i<bh.length:=by omega
  have o:=(bh.getD i 0).toNat_lt;refine⟨by omega,?_⟩;generalize z: (bh.getD i 0).toNat=c at*;refine wj 72 (.bool (!lG c)) [1,6] rfl rfl ?_ λG=>?_
  ·unfold lG;simp only[R4,go_sem,simprocAttr]
   (repeat' (first|apply And.intro|intro _))
   all_goals(refine ahR AV.bool (anb.2 ?_);simp[];try(intros;omega))
  cases m:lG c
  ·simp(disch:=omega) only[F1,go_sem,simprocAttr];have: (bh.map UInt8.toNat).all lG=false:=by
    rw[azu];exact⟨c,aeO.2 ⟨bh.getD i 0,by rw[show bh.getD i 0=bh[i] by simp[List.getD,a]];exact ass a,z⟩,by rw[m];decide⟩
   rw[this]
  ·simp(disch:=omega) only[go_sem,simprocAttr,e1,e6];exact⟨a,nC (p:=λj=>lG (bh.getD j 0).toNat=true) l (by rw[z,m])⟩
 ·have d: (bh.map UInt8.toNat).all lG=true:=by
    rw[aeT];intro x o;obtain⟨y,B,rfl⟩:=aeO.1 o;obtain⟨j,g,rfl⟩:=ara B;have:=l j (by omega);rwa[show bh.getD j 0=bh[j] by simp[List.getD,g]]at this
  rw[d]
end
theorem akL(k:Nat): ∀t:List (Nat×lB×Nat),ew (.int .u8 k) (sg t)=some ((t.find? λx=>decide (k=x.1)).map λx=>.fn (.func x.2.2) [] [])
 | []=>rfl
 |a::t=>by
  have b:=akL k t;show ew (.int .u8 k) ((.int .u8 a.1,.fn (.func a.2.2) [] [])::sg t)=_;rw[KZ,List.find?_cons]
  grind
def axQ{X:Ctx}{t:List (Nat×lB×Nat)}{g:Nat}(h:X.gu g=some (sg t))(k:Nat)(E:AS)(a:Bool):
  jK X.gu E .int .dD (.lM g) (.int .u8 k) a=some (match(t.find? λx=>decide (k=x.1)).map λx=>x.2.2 with|some f=>if a then .aA [.fn (.func f) [] [],.bool true]else .fn (.func f) [] []|none=>if a then .aA [.dD,.bool false]else .dD):=by
 have e:jK X.gu E .int .dD (.lM g) (.int .u8 k) a=match X.gu g with
  |some es=>(match ew (.int .u8 k) es with|some (some v)=>some (if a then .aA [v,.bool true]else v)|some none=>some (if a then .aA [.dD,.bool false]else .dD)|none=>none)
  |none=>none:=rfl
 rw[e,h];dsimp only;rw[akL];cases t.find? λx=>decide (k=x.1)<;>rfl
def aB9{t:List (Nat×lB×Nat)}(h:t.all (λx=>decide (x.1<n))=true)(a:n<=k): (t.find? λx=>decide (k=x.1))=none:=by grind
def axR(a:Nat): ((wY.find? λx=>decide (a=x.1)).map λx=>x.2.2)=rI a:=by
 by_cases h:a<23
 ·have: ∀i:Fin 23,((wY.find? λx=>decide (i.1=x.1)).map λx=>x.2.2)=rI i.1:=by decide
  exact this ⟨a,h⟩
 ·match a,h with
  |n+23,_=>rfl
def Uh(a:Nat):oG a:=λE=>by
 rw[axQ (X:=XA) (t:=wY) rfl,axR]
 grind
def axS{E:AS}(h:v.refs<=n): (finish n lo v E).1=v:=by
 obtain⟨W,l⟩:=E;cases l with
 |none=>rw[uG,ac6 h]
 |some j=>
  rw[Dc,ac6 h]
  grind
def bX(k:Nat)(r:aC):Nat:=if r.1<=k/\k<r.1+r.2 then 1 else 0
def cR(k:Nat)(l:List aC):Nat:=(l.map (bX k)).sum
theorem ui(k:Nat):cR k []=0:=rfl
theorem kR(k:Nat)(r:aC)(l:List aC):cR k (r::l)=bX k r+cR k l:=by rfl
def nP(k:Nat)(a b:List aC):cR k (a++b)=cR k a+cR k b:=by simp[cR]
def rP(k a:Nat):bX k (a,0)=0:=ac0 (by simp)
def axT{r:aC}(h:r∈l):bX k r<=cR k l:=by
 obtain⟨a,b,rfl⟩:=avT h;rw[nP,kR];omega
def axU{e:List aC}{x:aC}(c:mT l x=some e)(k:Nat):cR k e+bX k x=cR k l:=by
 unfold mT at c;split at c
 ·grind
 split at c
 ·grind
 rename_i i h;cases c;obtain⟨g,b,_⟩:=apD.1 h;have d:l.getD i (0,0)=l[i]:=by grind
 rw[d];have a:cR k l=cR k (l.take i++(l[i]::l.drop (i+1))):=by simp
 rw[a];generalize n:l[i]=y at*;generalize l.take i=A at*;generalize l.drop (i+1)=B at*;have j:x=y\/ (y.1<=x.1/\x.1+x.2<=y.1+y.2):=by simpa using b
 have f:y.1<=x.1/\x.1+x.2<=y.1+y.2:=by
  rcases j with rfl|q
  ·exact⟨adA _,adA _⟩
  ·exact q
 rw[nP,nP,nP,nP,kR]
 suffices o:cR k (if y.1<x.1 then[(y.1,x.1-y.1)]else[])+cR k (if x.1+x.2<y.1+y.2 then[(x.1+x.2,y.1+y.2- (x.1+x.2))]else[])+bX k x=bX k y by omega
 have e1:cR k (if y.1<x.1 then[(y.1,x.1-y.1)]else[])=if y.1<=k/\k<x.1 then 1 else 0:=by
  split
  ·rw[kR,ui];unfold bX;dsimp only;rw[show y.1+(x.1-y.1)=x.1 by omega];rfl
  ·rw[ac0 (by omega)];rfl
 have m:cR k (if x.1+x.2<y.1+y.2 then[(x.1+x.2,y.1+y.2- (x.1+x.2))]else[])=if x.1+x.2<=k/\k<y.1+y.2 then 1 else 0:=by
  split
  ·rw[kR,ui];unfold bX;dsimp only;rw[show x.1+x.2+(y.1+y.2- (x.1+x.2))=y.1+y.2 by omega];rfl
  ·rw[ac0 (by omega)];rfl
 rw[e1,m];unfold bX
 grind
def LP{a b:aC}(h:a.1+a.2=b.1):bX k (a.1,a.2+b.2)=bX k a+bX k b:=by
 unfold bX;grind
def axV: ∀ (l:List aC) (x:aC) (put:Bool) (out e:List aC),dN l->(put=true-> ∀b∈l,ub x b)->gJ x put out l=some e->cR k e=cR k out+cR k l+(if put then 0 else bX k x):=by
 intro l
 induction l with
 |nil=>
  intro x put out e _ _ h;cases h;cases put<;>simp[nP,kR,ui]
 |cons y ys g=>
  intro x put out e i s h;have d:dN ys:=⟨(amI.1 i.pw).2,λz p=>i.bd z (aeR _ p)⟩;have n:=(amI.1 i.pw).1;have r:=i.bd y (aeX ..);have a: ∀c,(c-> ¬ub x y)->c->put=false:=λc u t=>by
   cases put with
   |false=>rfl
   |true=>exact absurd (s rfl y (aeX ..)) (u t)
  unfold gJ at h;split at h
  ·rename_i m;have:=a _ (λ_ f=>by have:x.1+x.2<y.1:=f;omega) m;subst this;rw[g x false (out++[y]) e d (λq=>by cases q) h,nP,kR,kR,ui];omega
  split at h
  ·rename_i m j;rw[g x true _ e d (λ_ b f=>by have w:y.1+y.2<b.1:=n b f;show x.1+x.2<b.1;omega) h,nP,nP,kR,kR,ui];cases put<;>simp[kR,ui]<;>omega
  split at h
  ·rename_i m j o;have:=a _ (λ_ f=>by have:x.1+x.2<y.1:=f;omega) j;subst this;rw[g _ false out e d (λq=>by cases q) h,LP o,kR];simp;omega
  split at h
  ·rename_i m j o v;have:=a _ (λ_ f=>by have:x.1+x.2<y.1:=f;omega) j;subst this;rw[g _ false out e d (λq=>by cases q) h,LP v.symm,kR];simp;omega
  ·cases h
def akM{a:List aC}{x:aC}(h:dN l)(b:gL l x=some a):cR k a=cR k l+bX k x:=by
 unfold Go.Proofs.YteplichagkpciaaGreatDoor.gL at b;split at b
 ·rw[axV l x false [] a h (λq=>by cases q) b,ui];simp
 grind
def axW: ∀ (l:List aC) (x:aC) (put:Bool) (out:List aC),dN l->(∀k,cR k l+bX k x<=1)->1<=x.2-> ∃g,gJ x put out l=some g:=by
 intro l
 induction l with
 |nil=>intro x put out _ _ _;exact⟨_,rfl⟩
 |cons y ys d=>
  intro x put out e j f;have a:dN ys:=⟨(amI.1 e.pw).2,λz h=>e.bd z (aeR _ h)⟩;have i:=e.bd y (aeX ..);have b: ∀k,bX k y+cR k ys+bX k x<=1:=λk=>by have:=j k;rwa[kR]at this
  have c: ∀k,cR k ys+bX k x<=1:=λk=>by grind
  unfold gJ;split
  ·exact d _ _ _ a c f
  split
  ·exact d _ _ _ a c f
  split
  ·rename_i n;exact d _ _ _ a (λk=>by rw[LP n];have:=b k;omega) (by show 1<=y.2+x.2;omega)
  split
  ·rename_i m;exact d _ _ _ a (λk=>by rw[LP m.symm];have:=b k;omega) (by show 1<=x.2+y.2;omega)
  ·exfalso;have o:=b (max x.1 y.1);have i1:bX (max x.1 y.1) x=1:=ac6 (by omega);have i2:bX (max x.1 y.1) y=1:=ac6 (by omega);omega
def akN{x:aC}(h:dN l)(b: ∀k,cR k l+bX k x<=1)(c:1<=x.2)(d:x.1+x.2<=64): ∃a,gL l x=some a:=by
 unfold Go.Proofs.YteplichagkpciaaGreatDoor.gL;rw[ac6 (by simp[ke];omega)];exact axW l x false [] h b c
def axX: ∀ (xs l:List aC),dN l->(∀k,cR k l+cR k xs<=1)->(∀x∈xs,1<=x.2/\x.1+x.2<=64)->(kI l xs).isSome=true:=by
 intro xs
 induction xs with
 |nil=>intro l _ _ _;rfl
 |cons x xs f=>
  intro l b i d;have h: ∀k,cR k l+(bX k x+cR k xs)<=1:=λk=>by have:=i k;rwa[kR]at this
  have a:=d x (aeX ..);obtain⟨e,c⟩:=akN b (λk=>by grind) a.1 a.2;unfold kI;rw[c];exact f e (b.gL c) (λk=>by rw[akM b c];grind) λy g=>d y (aeR _ g)
def axY(h:cR k l=0):Fb l k=false:=by
 unfold Fb;cases a: (decide (k<64)&&l.any λy=>decide ((k,1)=y)|| (decide (y.1<=k)&&decide (k+1<=y.1+y.2)))
 ·rfl
 ·simp only[aeW,List.any_eq_true,ao0,ae1]at a;obtain⟨_,y,b,c⟩:=a;have e:=axT (k:=k) b;have d:bX k y=1:=ac6 (by grind);omega
def axZ{x y:aC}(b:y∈l)(f:1<=x.2)(e:x.1+x.2<=64)(d:y.1<=x.1/\x.1+x.2<=y.1+y.2): ∃a,mT l x=some a:=by
 unfold mT;rw[ac0 (by simp[ke];omega)];cases c:l.findIdx? λy=>decide (x=y)|| (decide (y.1<=x.1)&&decide (x.1+x.2<=y.1+y.2))with
 |none=>grind
 |some i=>simp
def akO{p:cJ}(h:fK p)(n:Nat): ((fI p n).2.2=0/\ (fI p n).1.n=p.n/\1<=n/\ (fI p n).2.1+n<=64/\ ∀k,cR k (fI p n).1.free+bX k ((fI p n).2.1,n)=cR k p.free)\/ ((fI p n).1=p/\ ((fI p n).2.2=6\/n<1/\ (fI p n).2.2=2)):=by
 unfold fI;by_cases c:n<1
 ·grind
 rw[ac0 c];cases b:p.free.find? λx=>decide (1<=n)&&decide (n<=x.2)with
 |none=>simp
 |some x=>
  have hm:=apH b;have e:n<=x.2:=by grind
  have f:=h.free.bd x hm;obtain⟨d,a⟩:=axZ (x:=(x.1,n)) hm (by omega) (by omega) (by omega);dsimp only;rw[a];exact .inl ⟨rfl,rfl,by omega,by omega,λk=>axU a k⟩
def ax0{p:cJ}(h:fK p)(e:q<p.n)(c:cR q p.free=0)(g: ∀k,cR k p.free<=1)(k:Nat):cR k (mc p q).free=cR k p.free+(if q=k then 1 else 0):=by
 have f:=h.n;have e1:gx p q=0:=by unfold gx;rw[ac0 (by omega),axY c];rfl
 have b: ∀k,bX k (q,1)=if q=k then 1 else 0:=λk=>by
  unfold bX;grind
 obtain⟨d,a⟩:=akN (l:=p.free) (x:=(q,1)) h.free (λk=>by grind) (adA 1) (by omega);unfold mc BM;rw[ac6 e1,a];rw[akM h.free a,b]
def Ui{f g:Nat->Nat}(h: ∀j,j≠i->f j=g j): ∀n,i<n->((List.range n).map f).sum+g i=((List.range n).map g).sum+f i:=by
 have e: ∀n,n<=i->((List.range n).map f).sum=((List.range n).map g).sum:=λn a=>by
  congr 1
  exact ans λj c=>h j (by grind)
 intro n a
 induction n with
 |zero=>omega
 |succ n b=>
  rw[aoZ,aeP,aeP,List.sum_append,List.sum_append];simp only[aj9,atZ,List.sum_cons,List.sum_nil];by_cases d:i=n
  ·grind
  grind
def cS(k:Nat)(t:ar)(i:Nat):Nat:=bif (t.b i).da then cR k (t.r i).runs else 0
def LQ(h: (t.b i).da=true):cS k t i=cR k (t.r i).runs:=by unfold cS;grind
def Uj(h: (t.b i).da=false):cS k t i=0:=by unfold cS;grind
def LR(h: (t'.b i).da=(t.b i).da)(a: (t'.r i).runs=(t.r i).runs):cS k t' i=cS k t i:=by unfold cS;grind
@[irreducible]def cT (k:Nat) (t:ar):Nat:=((List.range 32).map (cS k t)).sum
def Uk(a:i<32)(h: ∀j,j≠i->cS k t' j=cS k t j):cT k t'+cS k t i=cT k t+cS k t' i:=by
 unfold cT;exact Ui h 32 a
def ax1(h: ∀i,(t'.b i).da=(t.b i).da/\ (t'.r i).runs=(t.r i).runs):cT k t'=cT k t:=by
 unfold cT;congr 1;exact ans λi _=>LR (h i).1 (h i).2
def akP{h:Nat}(a:t.aq h=true): (t.b (aI h)).da=true:=by
 rw[(sO (show Go.Proofs.YteplichagkpciaaGreatDoor.aq t.b h=true from a)).2.1]
def LS{h:Nat}(a:t.aq h=true): (aE t h).1.runs=(t.r (aI h)).runs:=by unfold aE;grind
def akQ{h:Nat}(b: (ed t h r).2=0):cT k (ed t h r).1+cR k (aE t h).1.runs=cT k t+cR k r.runs:=by
 unfold ed at b⊢;by_cases a:t.aq h=false
 ·grind
 rw[ac0 a]at b⊢;have a:t.aq h=true:=by grind
 split at b
 ·omega
 rename_i e;rw[ac0 e,LS a];have c:=akP a;have key:=Uk (k:=k) (t:=t) (t':={t with r:=ai t.r (aI h) {r with up:=(t.r (aI h)).up}}) (vu h) λj d=>LR rfl (by show cQ.runs (ai _ _ _ j)=_;rw[bA d])
 rw[LQ c,LQ (t:={t with r:=ai t.r (aI h) {r with up:=(t.r (aI h)).up}}) c]at key;rw[show({t with r:=ai t.r (aI h) {r with up:=(t.r (aI h)).up}}:ar).r (aI h)={r with up:=(t.r (aI h)).up}from bI]at key;exact key
def akR{h:Nat}(a:r.runs=(aE t h).1.runs):cT k (ed t h r).1=cT k t:=by
 by_cases he: (ed t h r).2=0
 ·have:=akQ (k:=k) he
  grind
 ·have: (ed t h r).1=t:=by
    unfold ed at he⊢
    grind
  rw[this]
def akS{h:Nat}(a:t.aq h=true):cT k (fj t h).1+cR k (aE t h).1.runs=cT k t:=by
 unfold fj;rw[ac6 a,LS a];have e:=akP a;have c: (dC t.b h).1=ai t.b (aI h) (nm (t.b (aI h))):=by unfold dC;rw[ac6 (show Go.Proofs.YteplichagkpciaaGreatDoor.aq t.b h=true from a)]
 have key:=Uk (k:=k) (t:=t) (t':={b:=(dC t.b h).1,r:=ai t.r (aI h) cY}) (vu h) λj d=>LR (by show((dC t.b h).1 j).da=_;rw[c,bA d]) (by show cQ.runs (ai _ _ _ j)=_;rw[bA d])
 rw[LQ e,Uj (t:={b:=(dC t.b h).1,r:=ai t.r (aI h) cY}) (by
  show((dC t.b h).1 (aI h)).da=false;rw[c,bI];unfold nm;grind)]at key
 omega
def akT{h:Nat}:cT k (jB t h a).1=cT k t:=by
 unfold jB;split
 ·rfl
 split
 ·rfl
 ·exact ax1 λi=>⟨rfl,by
   unfold ai;grind⟩
theorem ax2{t0:ar}{h x:Nat}:cT k (vo t0 h t x)=cT k t:=akR rfl
def ax3{h:Nat}:cT k (iA t h).1=cT k t:=by
 unfold iA;split
 ·rfl
 ·rw[akT];have: ∀ (l:lN) (u:ar),cT k (l.foldl (vo t h) u)=cT k u:=by
   intro l
   induction l with
   |nil=>simp
   |cons a l b=>intro u;rw[asp,b,ax2]
  grind
def ax4{h:Nat}:cT k (mQ t h a).1=cT k t:=by
 unfold mQ;split
 ·rfl
 split
 ·rfl
 split
 ·rfl
 ·exact akT
def ax5{up:Nat}:cT k (eZ t up n).1=cT k t:=by
 have d:cT k (kf t up n).1=cT k t:=by
  unfold kf;split
  ·rfl
  split
  ·rfl
  split
  ·rename_i i c;obtain⟨i1,i2,_,_⟩:=pK c;have key:=Uk (k:=k) (t:=t) (t':={b:=ai t.b i {t.b i with da:=true},r:=ai t.r i {cY with up:=up,cF:=n}}) i1 λj a=>LR (by show Slot.da (ai _ _ _ j)=_;rw[bA a]) (by show cQ.runs (ai _ _ _ j)=_;rw[bA a])
   rw[Uj i2,LQ (t:={b:=ai t.b i {t.b i with da:=true},r:=ai t.r i {cY with up:=up,cF:=n}}) (by show Slot.da (ai _ _ _ i)=_;rw[bI])]at key;rw[show({b:=ai t.b i {t.b i with da:=true},r:=ai t.r i {cY with up:=up,cF:=n}}:ar).r i={cY with up:=up,cF:=n}from bI]at key;have e:cR k ({cY with up:=up,cF:=n}:cQ).runs=0:=rfl
   grind
  ·rfl
 unfold eZ
 grind
def akU{r b to:Nat}{a:Bool}:cT k (lv t r b to a).1=cT k t:=by
 unfold lv;split
 ·rfl
 split
 ·rfl
 split
 ·rfl
 ·dsimp only;split
  ·exact akR rfl
  ·rfl
def akV{y z:Nat}(b:t.aq y=true)(c:t.aq z=true)(a:z≠y): (aE (fj t y).1 z).1.runs=(aE t z).1.runs/\ (fj t y).1.aq z=true:=by
 have d: (fj t y).1.aq z=true:=by
  unfold fj;rw[ac6 b];exact Tn c b a
 refine⟨?_,d⟩;rw[LS d,LS c];unfold fj;rw[ac6 b];show(ai t.r (aI y) cY (aI z)).runs=_;rw[bA λe=>a (zE c b e)]
theorem akW{k:Nat}: ∀ (l:lN) (t:ar),l.Nodup->(∀z∈l,t.aq z=true)->cT k (fY t l)+cR k (l.flatMap λy=>(aE t y).1.runs)=cT k t
 | [],_,_,_=>rfl
 |y::l,t,f,c=>by
  obtain⟨i,g⟩:=arU.1 f;have b:=c y (aeX ..);have a: ∀z∈l,t.aq z=true/\z≠y:=λz a=>⟨c z (aeR _ a),λe=>i (e ▸ a)⟩
  have d:=akW (k:=k) l (fj t y).1 g λz h=>(akV b (a z h).1 (a z h).2).2
  have e: (l.flatMap λz=>(aE (fj t y).1 z).1.runs)=l.flatMap λz=>(aE t z).1.runs:=R3 λz h=>(akV b (a z h).1 (a z h).2).1
  rw[e]at d;have j:=akS (k:=k) b;rw[apj,nP];show cT k (fY (fj t y).1 l)+_=_;omega
def cC(k:Nat)(x:az):Nat:=cT k x.s.T+cR k x.back
theorem akX: ∀ (l:lN) (x:az),(l.foldl fw x).s.T=x.s.T/\ (l.foldl fw x).back=x.back++l.flatMap λy=>(aE x.s.T y).1.runs
 | [],x=>⟨rfl,by simp⟩
 |a::l,x=>by
  obtain⟨c,b⟩:=akX l (fw x a);refine⟨c,?_⟩;rw[asp,b];show(x.back++(aE x.s.T a).1.runs)++_=_;rw[ac8,apj];rfl
def LU(b:aV x.s)(h k:Nat):cC k (eh x h)=cC k x:=by
 unfold eh;obtain⟨f,d⟩:=akX (under x.s.T h) x;show cT k (ik ((under x.s.T h).foldl fw x).s.T h).1+cR k ((under x.s.T h).foldl fw x).back=_;rw[f,d,nP];have g:=akW (k:=k) (under x.s.T h) x.s.T (Tl b.tr h) λz a=>by
  unfold under at a;split at a
  ·rename_i c;exact zk b.T.b c a
  grind
 have: (ik x.s.T h).1=fY x.s.T (under x.s.T h):=by
  unfold ik;split
  ·rename_i e;rw[e];rfl
  ·rfl
 rw[this];show _=cT k x.s.T+cR k x.back;omega
def dJ(x y:az):Prop:= ∀k,cC k y=cC k x
def dJ.of(c: ∀k,cT k y.s.T=cT k x.s.T)(b:y.back=x.back):dJ x y:=λk=>by unfold cC;grind
def dJ.same(c:y.s.T=x.s.T)(b:y.back=x.back):dJ x y:=.of (λk=>by rw[c]) b
theorem dJ.trans(h:dJ x y)(b:dJ y z):dJ x z:=λk=>(b k).trans (h k)
def LV{h t:Nat}(e:kK x h t= .ok y):dJ x y:=by
 obtain⟨_,_,e⟩:=aB e;cases e;exact .same rfl rfl
def Ul{h:Nat}(e:mb x h r= .ok y)(k:Nat):cC k y+cR k (aE x.s.T h).1.runs=cC k x+cR k r.runs:=by
 obtain⟨_,he,e⟩:=aB e;cases e;have:=akQ (k:=k) (mm he);show cT k (ed x.s.T h r).1+cR k x.back+_=cT k x.s.T+cR k x.back+_;omega
def Um{h:Nat}(e:sR x h= .ok y):dJ x y:=by
 obtain⟨_,_,e⟩:=aB e;cases e;exact .of (λk=>ax3) rfl
theorem Un{β:Type}{I:az->Prop}{P:β->Prop}{f:az->β->R az}(d: ∀y b z,I y->P b->f y b= .ok z->I z): ∀ (l:List β) (y z:az),(∀b∈l,P b)->I y->l.foldlM f y= .ok z->I z
 | [],y,z,_,h,e=>by cases e;exact h
 |b::l,y,z,g,h,e=>by
  obtain⟨w,e1,j⟩:=aB (show(f y b>>=λw=>l.foldlM f w)= .ok z from by grind);exact Un d l w z (λc i=>g c (aeR _ i)) (d y b w h (g b (aeX ..)) e1) j
theorem Uo{β:Type}{I:az->Prop}{f:az->β->az}(c: ∀y b,I y->I (f y b)): ∀ (l:List β) (y:az),I y->I (l.foldl f y)
 | [],_,h=>h
 |b::l,y,h=>Uo c l (f y b) (c y b h)
section
variable{x:az}{a:az×bE}
def ax6(h:pN x= .ok a):dJ x a.1:=by
 unfold pN at h;have b:dJ x (x.t (eZ x.s.T x.c.r (min x.c.a 65)).1):=.of (λk=>ax5) rfl;by_cases c:x.c.r=0
 ·simp only[c,ne_eq,not_true,ags,ae4]at h;obtain⟨_,_,h⟩:=aB h;obtain⟨y,e,h⟩:=aB h;cases h;rw[c]at b;exact b.trans (LV e)
 ·simp only[c,ne_eq,axp,ags,ae4]at h;obtain⟨_,_,h⟩:=aB h;obtain⟨_,_,h⟩:=aB h;obtain⟨y,e,h⟩:=aB h;cases e;cases h;exact b
def ax7(h:pO x w= .ok a):dJ x a.1:=by
 obtain⟨_,_,h⟩:=aB h;obtain⟨_,_,h⟩:=aB h;obtain⟨_,_,h⟩:=aB h;obtain⟨_,_,h⟩:=aB h;cases h;exact .same rfl rfl
def ax8(h:w8 x= .ok a):dJ x a.1:=by
 obtain⟨_,_,h⟩:=aB h;obtain⟨_,_,h⟩:=aB h;obtain⟨y,e,h⟩:=aB h;obtain⟨z,b,h⟩:=aB h;cases h;exact(Um e).trans (LV b)
def ax9(h:w9 x= .ok a):dJ x a.1:=by
 obtain⟨_,_,h⟩:=aB h;obtain⟨_,_,h⟩:=aB h;obtain⟨_,_,h⟩:=aB h;cases h;exact .of (λk=>ax4) rfl
def aya(h:xa x= .ok a):dJ x a.1:=by
 obtain⟨_,_,h⟩:=aB h;obtain⟨y,e,h⟩:=aB h;obtain⟨_,_,h⟩:=aB h;cases h;exact(Um e).trans (.same rfl rfl)
def ayb(h:vz x= .ok a):dJ x a.1:=by
 obtain⟨_,_,h⟩:=aB h;obtain⟨_,_,h⟩:=aB h;obtain⟨_,_,h⟩:=aB h;cases h;exact .same rfl rfl
def ayc(h:pP x= .ok a):dJ x a.1:=by
 obtain⟨_,_,h⟩:=aB h;obtain⟨_,_,h⟩:=aB h;obtain⟨_,_,h⟩:=aB h;split at h
 ·obtain⟨_,_,h⟩:=aB h;obtain⟨_,_,h⟩:=aB h;cases h;exact .same rfl rfl
 ·obtain⟨_,_,h⟩:=aB h;obtain⟨_,_,h⟩:=aB h;obtain⟨_,_,h⟩:=aB h;cases h;exact .same rfl rfl
def ayd(h:vA x= .ok a):dJ x a.1:=by
 obtain⟨_,_,h⟩:=aB h;obtain⟨_,_,h⟩:=aB h;cases h;exact .same rfl rfl
def aye(h:vB x= .ok a):dJ x a.1:=by
 obtain⟨_,_,h⟩:=aB h;cases h;exact .same rfl rfl
def ayf(h:pQ x= .ok a):dJ x a.1:=by
 obtain⟨_,_,h⟩:=aB h;cases h;exact .same rfl rfl
def ayg(h:nw x= .ok a):dJ x a.1:=by
 unfold nw at h;have b:dJ x (x.bx x.aa (iE (x.s.bw x.aa)).1):=.same rfl rfl
 try dsimp only at h
 obtain⟨_,_,h⟩:=aB h;split at h
 ·obtain⟨y,e,h⟩:=aB h;cases h;exact b.trans (LV e)
 ·obtain⟨y,e,h⟩:=aB h;cases e;cases h;exact b
def ayh(h:ox x= .ok a):dJ x a.1:=by
 obtain⟨_,_,h⟩:=aB h;split at h
 ·obtain⟨_,_,h⟩:=aB h;obtain⟨_,_,h⟩:=aB h;cases h;exact .of (λk=>akU) rfl
 ·obtain⟨_,_,h⟩:=aB h;cases h;exact .of (λk=>akU) rfl
def ayi(h:vC x= .ok a):dJ x a.1:=by
 obtain⟨_,_,h⟩:=aB h;obtain⟨_,_,h⟩:=aB h;cases h;exact .same rfl rfl
def ayj(h:mS x= .ok a):dJ x a.1:=by
 unfold mS at h;obtain⟨_,_,h⟩:=aB h;obtain⟨_,_,h⟩:=aB h
 try dsimp only at h
 have fin: ∀ (y:az) (b:Bool),dJ x y->(ca (iD (y.s.bw x.c.a) ⟨x.aa % 256,x.c.v,x.c.r,b⟩).2>>=λ_=>(Pure.pure (y.bx x.c.a (iD (y.s.bw x.c.a) ⟨x.aa % 256,x.c.v,x.c.r,b⟩).1,bu):R (az×bE)))= .ok a->dJ x a.1:=by
  intro y b d h;obtain⟨_,_,h⟩:=aB h;cases h;exact d.trans (.same rfl rfl)
 split at h
 ·obtain⟨_,_,h⟩:=aB h
  try dsimp only at h
  obtain⟨y,e,h⟩:=aB h;cases e;refine fin _ _ ?_ h;split
  ·exact .same rfl rfl
  ·exact .same rfl rfl
 ·split at h
  ·obtain⟨_,_,h⟩:=aB h;obtain⟨y,e,h⟩:=aB h
   try dsimp only at h
   obtain⟨_,_,h⟩:=aB h;obtain⟨z,c,h⟩:=aB h;cases c;exact fin (y.o (vt y.s.O y.s.T x.c.r).1) _ ((Um e).trans (.same rfl rfl)) h
  ·obtain⟨z,c,h⟩:=aB h;cases c;exact fin _ _ (.same rfl rfl) h
def ayk(h:sS x= .ok a):dJ x a.1:=by
 obtain⟨_,_,h⟩:=aB h;obtain⟨_,_,h⟩:=aB h;obtain⟨y,e,h⟩:=aB h;cases h;intro k;have:=Ul e k;have b:cC k {x with back:=x.back++(aE x.s.T x.c.r).1.runs}=cC k x+cR k (aE x.s.T x.c.r).1.runs:=by unfold cC;dsimp only;rw[nP];omega
 have e3:cR k ({cY with cF:=(aE x.s.T x.c.r).1.cF}:cQ).runs=0:=rfl
 grind
def ayl(b:aV x.s)(h:vx x= .ok a):dJ x a.1:=by
 obtain⟨_,_,h⟩:=aB h;cases h;exactλk=>LU b _ k
def akY{b:Nat}(e:aV y.s)(f:b<4294967296)(d:jl y b aa= .ok z):dJ y z:=by
 obtain⟨_,_,d⟩:=aB d;cases d;have g:dJ y (y.o (db y.s.O y.s.T b aa false).1):=.same rfl rfl;have c:aV (y.o (db y.s.O y.s.T b aa false).1).s:=e.qd (e.O.held f);split
 ·exact g.trans λk=>LU c b k
 omega
def aym(b:aV x.s)(c:x.c.r<4294967296)(h:xb x= .ok a):dJ x a.1:=by
 obtain⟨_,_,h⟩:=aB h;obtain⟨y,e,h⟩:=aB h;cases h;exact akY b c e
def ayn(h:GI x)(e:lC x aa= .ok y):dJ x y:=by
 rw[Lf]at e;obtain⟨w,e1,g⟩:=aB e;have s:GI (nK x aa)/\dJ x (nK x aa):=⟨h.set ((h.s.vO hZ.gone).Fx) rfl rfl,.same rfl rfl⟩;have r:GI w/\dJ x w:=Un (I:=λy=>GI y/\dJ x y) (P:=qc) (λy m z b hm e=>by
  unfold s8 at e;split at e
  ·cases e;exact b
  ·split at e
   ·have o:=LV e;obtain⟨n,j⟩:=Cn b.1.s hm.aJ e;obtain⟨_,_,e⟩:=aB e;cases e;exact⟨b.1.set n j rfl,b.2.trans o⟩
   ·cases e;exact⟨b.1.gone _,b.2.trans λk=>LU b.1.s _ k⟩) _ _ _ (λm hm=>by
    obtain⟨i,_,rfl⟩:=aeO.1 hm;exact(h.s.bx aa).ring _) s e1
 unfold B9 at g;have q:=Uo (I:=λy=>GI y/\dJ x y) (f:=λy h=>y.k (jC y.s.K h).1) (λy a b=>⟨b.1.set (b.1.s.xA (b.1.s.tok.ret a)) rfl rfl,b.2.trans (.same rfl rfl)⟩) (rm w.s.K aa) w r;have d:=λl=>Uo (I:=λy=>GI y/\dJ x y) (f:=eh) (λy a b=>⟨b.1.gone a,b.2.trans λk=>LU b.1.s _ k⟩) l _ q
 refine(Un (I:=λy=>GI y/\dJ x y) (P:=λa=>a<4294967296) (λy a z b c e=>⟨b.1.fY c e,b.2.trans (akY b.1.s c e)⟩) _ _ _ (λa c=>?_) (d _) g).2;have p:=(ae2.1 c).1;exact gl ((iQ (d _).1.s.T.b).1 p)
def akZ{t:Nat}(b:GI x)(h: (lC x t>>=λy=>.ok (y,bu))= .ok a):dJ x a.1:=by
 obtain⟨y,e,h⟩:=aB h;cases h;exact ayn b e
def ayo(e:x.c.r<4294967296)(c:GI x)(ho:x.c.op≠2)(h:gp x= .ok a):dJ x a.1:=by
 have d:=c.s;unfold gp at h;split at h
 all_goals try(rename_i b;first
  |exact absurd b ho
  |exact ax6 h|exact ax7 h|exact ayk h|exact ayl d h|exact aym d e h|exact akZ c h|exact ax8 h|exact ax9 h
  |exact aya h|exact ayb h|exact ayc h|exact ayd h|exact ayj h|exact ayg h|exact aye h|exact ayh h|exact ayi h|exact ayf h)
 ·unfold xc at h;obtain⟨_,_,h⟩:=aB h;exact akZ c h
 ·cases h
def ayp(h:hO x= .ok a)(e:x.asks=false): (∃j,gn (aE x.s.T x.c.r).1.runs (aE x.s.T x.c.r).1.len (min x.c.a 129) (min x.c.b 9)=some j)/\dJ x a.1\/jX (min x.c.a 129) (min x.c.b 9)=some x.run.2/\gn (aE x.s.T x.c.r).1.runs (aE x.s.T x.c.r).1.len (min x.c.a 129) (min x.c.b 9)=none/\ ∀k,cC k a.1=cC k x+bX k x.run:=by
 unfold hO at h
 try dsimp only at h
 cases d:jX (min x.c.a 129) (min x.c.b 9)with
 |none=>rw[d]at h;cases h
 |some n=>
  rw[d]at h;obtain⟨_,e1,h⟩:=aB h;cases e1;obtain⟨_,_,h⟩:=aB h;obtain⟨_,_,h⟩:=aB h;split at h
  ·rename_i j b;obtain⟨z,c,h⟩:=aB h;cases h;refine .inl ⟨⟨j,b⟩,λk=>?_⟩;have:=Ul c k
   grind
  ·rename_i b;obtain⟨_,_,h⟩:=aB h
   try dsimp only at h
   rw[ac0 (by show¬x.asks=true;rw[e];decide)]at h;obtain⟨_,hm,h⟩:=aB h;have hm:=uf hm;simp only[aeW,ae1]at hm;obtain⟨z,c,h⟩:=aB h;cases h;refine .inr ⟨by rw[hm.1],b,λk=>?_⟩;have:=Ul c k;dsimp only at this;rw[nP,kR,ui]at this;show cC k z=cC k x+bX k x.run;have e3:cC k z+cR k (aE x.s.T x.c.r).1.runs=cC k x+(cR k (aE x.s.T x.c.r).1.runs+(bX k x.run+0)):=this;omega
def ayq{j:Nat}(c:gn (aE x.s.T x.c.r).1.runs (aE x.s.T x.c.r).1.len (min x.c.a 129) (min x.c.b 9)=some j)(h:hO x= .ok a):a.1.jW=x.jW:=by
 unfold hO at h
 try dsimp only at h
 cases b:jX (min x.c.a 129) (min x.c.b 9)with
 |none=>rw[b]at h;cases h
 |some n=>
  rw[b]at h;obtain⟨_,e1,h⟩:=aB h;obtain⟨_,_,h⟩:=aB h;obtain⟨_,_,h⟩:=aB h;rw[c]at h;obtain⟨z,d,h⟩:=aB h;cases h;exact Lz d
end
def ak0{s:aZ}(n:aV s)(t:gB c){run:aC}(m:run.2=0\/bR s aa c=run.2)(i: (bN s aa c run).2.1.e=0)(k:Nat):
  cT k (bN s aa c run).1.T+cR k (bN s aa c run).2.2=cT k s.T+bX k run:=by
 rw[zK]at i⊢;cases h:fV ⟨s,aa,c,run,0,false,[]⟩with
 |error e=>
  rw[h]at i;exact absurd i (Tt h)
 |ok a=>
  obtain⟨y,r⟩:=a;show cT k y.s.T+cR k y.back=_;obtain⟨_,u,h⟩:=aB (show(ask _ _>>=λ_=>gp _)=_ from h);have l:cC k ⟨s,aa,c,run,0,false,[]⟩=cT k s.T:=rfl;have d:run.2=0->bX k run=0:=λh=>by obtain⟨p,q⟩:=run;cases h;exact rP k p
  by_cases ho:c.op=2
  ·have h:hO ⟨s,aa,c,run,0,false,[]⟩= .ok (y,r):=by
     unfold gp at h;grind
   rcases ayp h rfl with⟨⟨j,o⟩,f⟩| ⟨_,_,f⟩
   ·have g:bR s aa c=0:=by
      unfold bR;rw[ac0 (by rw[ho];decide)];cases b:fV ⟨s,aa,c,(0,0),0,true,[]⟩with
      |error e=>rfl
      |ok a=>
       obtain⟨_,_,b⟩:=aB (show(ask _ _>>=λ_=>gp _)=_ from b);unfold gp at b;rw[show(az.c ⟨s,aa,c,(0,0),0,true,[]⟩).op=2 from ho]at b;exact ayq (x:=⟨s,aa,c,(0,0),0,true,[]⟩) o b
    rw[g]at m;rw[d (by omega)];exact(f k).trans (l.trans (aeS _).symm)
   ·exact(f k).trans (by rw[l])
  ·have g:bR s aa c=0:=by unfold bR;rw[ac6 ho]
   rw[g]at m;rw[d (by omega)];have f:=ayo (x:=⟨s,aa,c,run,0,false,[]⟩) t.r (GI.start n ..) ho h;exact(f k).trans (l.trans (aeS _).symm)
def cW(k:Nat)(x:Core):Nat:=cR k x.P.free+cT k x.S.T+x.Q.count k
def ayr(k a n:Nat):bX k (a,n+1)=bX k (a,n)+(if a+n=k then 1 else 0):=by
 unfold bX;grind
def ays(k:Nat)(r:aC): (gy r).count k=bX k r:=by
 obtain⟨a,n⟩:=r;unfold gy
 induction n with
 |zero=>rw[rP];rfl
 |succ n b=>
  rw[aoZ,aeP,List.count_append,b,ayr]
  grind
def Up(k:Nat)(x:Core)(r:aC):cW k (bT x r)=cW k x+bX k r:=by
 unfold cW bT;dsimp only;rw[List.count_append,ays];omega
def LW(k:Nat)(x:Core)(c:Call):cW k (me x c)=cW k x+bX k c.run:=Up k x c.run
theorem Uq(k:Nat): ∀ (l:List aC) (x:Core),cW k (l.foldl bT x)=cW k x+cR k l/\ (l.foldl bT x).P=x.P
 | [],x=>⟨rfl,rfl⟩
 |r::l,x=>by
  obtain⟨b,a⟩:=Uq k l (bT x r);exact⟨by rw[asp,b,Up,kR];omega,a⟩
def ak1(p:cJ)(a b:Nat): (lE p a b).free=p.free/\ (lE p a b).n=p.n:=by
 unfold lE;grind
theorem ak2{α:Type}(f g:α->Nat): ∀ (l:List α) (p:cJ),(l.foldl (λP i=>lE P (f i) (g i)) p).free=p.free/\ (l.foldl (λP i=>lE P (f i) (g i)) p).n=p.n
 | [],p=>⟨rfl,rfl⟩
 |a::l,p=>by
  obtain⟨c,b⟩:=ak2 f g l (lE p (f a) (g a));exact⟨c.trans (ak1 ..).1,b.trans (ak1 ..).2⟩
def LX{r:aC}(h:r.2=0):bX k r=0:=by obtain⟨p,q⟩:=r;cases h;exact rP k p
def ayt{s:bK}(m:aV s.x.S)(l:gB s.c.c)(k:Nat):cW k (nz s).x=cW k s.x+bX k s.c.run/\ (nz s).x.P.n=s.x.P.n/\ (nz s).ended=true:=by
 unfold nz;obtain⟨s',a⟩: ∃s',s'=(if 0<s.c.run.2/\bR s.x.S s.c.aa s.c.c≠s.c.run.2 then{s with x:=bT s.x s.c.run,c:={s.c with run:=(0,0)}}else s):=⟨_,rfl⟩;have e1:cW k s'.x+bX k s'.c.run=cW k s.x+bX k s.c.run/\s'.x.P=s.x.P/\s'.x.S=s.x.S/\s'.c.c=s.c.c/\s'.c.aa=s.c.aa/\ (s'.c.run.2=0\/bR s.x.S s.c.aa s.c.c=s'.c.run.2):=by
  rw[a];split
  ·refine⟨?_,rfl,rfl,rfl,rfl,.inl rfl⟩;rw[Up,rP];rfl
  grind
 dsimp only;rw[<-a];clear a;obtain⟨e1,o,e3,n,p,e6⟩:=e1;have f:aV s'.x.S:=e3 ▸ m;have e:gB s'.c.c:=n ▸ l;have hm:=λhe=>ak0 f (aa:=s'.c.aa) e (run:=s'.c.run) (by grind) he k
 rw[<-e1,<-o];split
 ·refine⟨?_,rfl,rfl⟩;show cW k (me s'.x s'.c)=_;rw[LW]
 ·rename_i he;have hm:=hm (by simpa using he);generalize bN s'.x.S s'.c.aa s'.c.c s'.c.run=d at*;obtain⟨P,g⟩: ∃P,P=(if s'.c.c.op=4 then(List.range (gN s'.x.S s'.c.c).1.length).foldl (λP i=>lE P ((gN s'.x.S s'.c.c).1.getD i 0) (byteOf s'.c.c.v i)) s'.x.P else s'.x.P):=⟨_,rfl⟩;have b:P.free=s'.x.P.free/\P.n=s'.x.P.n:=by
   rw[g];split
   ·exact ak2 _ _ _ _
   ·exact⟨rfl,rfl⟩
  rw[<-g];obtain⟨j,h⟩:=Uq k d.2.2 {s'.x with S:=d.1,P:=P};have e7:cW k {s'.x with S:=d.1,P:=P}=cR k s'.x.P.free+cT k d.1.T+s'.x.Q.count k:=by unfold cW;dsimp only;rw[b.1]
  refine⟨?_,?_,rfl⟩
  ·show cW k (me (d.2.2.foldl bT {s'.x with S:=d.1,P:=P}) {s'.c with run:=(0,0)})=_;rw[LW,j,e7];show _+bX k (0,0)=_;rw[rP];unfold cW;omega
  ·show(d.2.2.foldl bT {s'.x with S:=d.1,P:=P}).P.n=_;rw[h];exact b.2
def cV(k:Nat)(s:bK):Nat:=cW k s.x+(if s.ended then 0 else bX k s.c.run)
structure Kp(s s':bK):Prop where
 c: ∀k,cV k s'=cV k s
 n:s'.x.P.n=s.x.P.n
theorem Kp.refl(s:bK):Kp s s:=⟨λ_=>rfl,rfl⟩
def ak3{s:bK}(h:s.ended=false)(r:bE):Kp s (oy s r):=⟨λk=>by
 unfold cV oy;rw[h,LW];simp,rfl⟩
def ayu{s:bK}(h:s.ended=false):Kp s (gz s).1/\ (gz s).1.x.S=s.x.S/\ (gz s).1.c.c=s.c.c/\ ((gz s).2=false->(gz s).1.ended=false/\ (gz s).1.x.P=s.x.P):=by
 unfold gz;split
 ·exact⟨Kp.refl s,rfl,rfl,λ_=>⟨h,rfl⟩⟩
 split
 ·exact⟨Kp.refl s,rfl,rfl,λ_=>⟨h,rfl⟩⟩
 split
 ·exact⟨ak3 h _,rfl,rfl,λq=>by cases q⟩
 ·exact⟨⟨λk=>rfl,rfl⟩,rfl,rfl,λq=>by cases q⟩
def ayv{s:bK}(h:s.ended=false):Kp s (gA s).1/\ (gA s).1.x.S=s.x.S/\ (gA s).1.c.c=s.c.c/\ (gA s).1.x.P=s.x.P/\ ((gA s).2=false->(gA s).1.ended=false):=by
 unfold gA;split
 ·exact⟨Kp.refl s,rfl,rfl,rfl,λ_=>h⟩
 ·dsimp only;refine⟨⟨λk=>?_,rfl⟩,rfl,?_,rfl,λq=>by cases q⟩
  ·unfold cV;generalize(jm s.x.M _ s.c.aa).2=b;cases b<;>rfl
  grind
def ayw{s:bK}(h:s.ended=false)(d:fK s.x.P):Kp s (gq s).1/\ (gq s).1.x.S=s.x.S/\ (gq s).1.c.c=s.c.c/\ ((gq s).2=false->(gq s).1=s):=by
 unfold gq;dsimp only;split
 ·exact⟨Kp.refl s,rfl,rfl,λ_=>rfl⟩
 ·have a:s.c.run.2=0:=by omega
  rcases akO d (bR s.x.S s.c.aa s.c.c)with⟨c,b,g,f,e⟩| ⟨c,b⟩
  ·rw[ac0 (by omega)];refine⟨⟨λk=>?_,b⟩,rfl,rfl,λq=>by cases q⟩;unfold cV cW;rw[h,LX a]
   grind
  ·rw[ac6 (by omega),c];exact⟨ak3 h _,rfl,rfl,λq=>by cases q⟩
def ak4(p:cJ)(i:Nat): (ny p i).free=p.free/\ (ny p i).n=p.n:=by unfold ny;grind
def ayx{s:bK}(h:s.ended=false):Kp s (il s).1/\ ((il s).2=false->(il s).1=s):=by
 unfold il;split
 ·exact⟨Kp.refl s,λ_=>rfl⟩
 ·refine⟨⟨λk=>?_,(ak4 _ _).2⟩,λq=>by cases q⟩;unfold cV cW;rw[(ak4 _ _).1]
def ayy{x:Core}{c:Call}(h:iV x)(n:fR c)(k:Nat):cW k (ee x c).x+(if(ee x c).ended then 0 else bX k (ee x c).c.run)=cW k x+bX k c.run/\ (ee x c).x.P.n=x.P.n:=by
 suffices i:Kp ⟨x,c,bu,false⟩ (ee x c)from⟨i.c k,i.n⟩
 obtain⟨m,A,z,g⟩:=ayu (s:=⟨x,c,bu,false⟩) rfl;unfold ee;dsimp only;generalize gz ⟨x,c,bu,false⟩=s1 at*;split
 ·omega
 rename_i D;obtain⟨g,y⟩:=g (by grind);obtain⟨l,w,v,u,d⟩:=ayv (s:=s1.1) g;generalize gA s1.1=s2 at*;have t2:Kp ⟨x,c,bu,false⟩ s2.1:=⟨λk=>(l.c k).trans (m.c k),l.n.trans m.n⟩;split
 ·omega
 rename_i C;have d:=d (by grind);have e:s2.1.x.P=x.P:=u.trans y;obtain⟨j,t,r,f⟩:=ayw (s:=s2.1) d (e ▸ h.P);generalize gq s2.1=b at*;have t3:Kp ⟨x,c,bu,false⟩ b.1:=⟨λk=>(j.c k).trans (t2.c k),j.n.trans t2.n⟩;split
 ·exact t3
 rename_i q;have f:=f (by simpa using q);have e3:b.1.ended=false:=by rw[f];exact d
 obtain⟨d1,d2⟩:=ayx (s:=b.1) e3;generalize il b.1=a at*;have t4:Kp ⟨x,c,bu,false⟩ a.1:=⟨λk=>(d1.c k).trans (t3.c k),d1.n.trans t3.n⟩;split
 ·exact t4
 rename_i p;have d2:=d2 (by simpa using p);have o:a.1.x.S=x.S:=by rw[d2,t,w,A]
 have hC:a.1.c.c=c.c:=by rw[d2,r,v,z]
 have E:a.1.ended=false:=by rw[d2];exact e3
 have hm:=λk=>ayt (s:=a.1) (o ▸ h.S) (hC ▸ n.gC) k
 refine⟨λk=>?_,(hm 0).2.1.trans t4.n⟩;obtain⟨B,_,m3⟩:=hm k;rw[<-t4.c k];unfold cV;grind
@[irreducible]def cL (k:Nat) (f:Nat->Runner):Nat:=((List.range 8).map λt=>bX k (f t).c.run).sum
def cM(k:Nat)(m:bg):Nat:=cW k m.av+cL k m.aw
def ak5{f:Nat->Runner}{t:Nat}{r:Runner}(a:t<8):cL k (ai f t r)+bX k (f t).c.run=cL k f+bX k r.c.run:=by
 have key:=Ui (f:=λj=>bX k (ai f t r j).c.run) (g:=λj=>bX k (f j).c.run) (i:=t) (λj b=>by rw[bA b]) 8 a;rw[bI]at key;unfold cL;exact key
structure fB(n:Nat)(m:bg):Prop where
 np:m.av.P.n=n
 pc: ∀k,cM k m=if k<n then 1 else 0
 idle: ∀t,(m.aw t).busy=false->(m.aw t).c.run.2=0
def ayz{s:aZ}(b:aV s)(d:gB c)(k:Nat):cT k (bN s aa c (0,0)).1.T+cR k (bN s aa c (0,0)).2.2=cT k s.T:=by
 by_cases he: (bN s aa c (0,0)).2.1.e=0
 ·have:=ak0 b (aa:=aa) d (run:=(0,0)) (.inl rfl) he k;rw[rP]at this;omega
 ·rw[zK]at he⊢;cases h:fV ⟨s,aa,c,(0,0),0,false,[]⟩with
  |error e=>rfl
  |ok a=>
   rw[h]at he;exact absurd (Ca h) he
section
variable{n:Nat}{m:bg}(h:fB n m)
include h
theorem fB.mk'{m':bg}(a:m'.av.P.n=m.av.P.n)(c: ∀k,cM k m'=cM k m)(b: ∀t,(m'.aw t).busy=false->(m'.aw t).c.run.2=0):fB n m':=⟨a.trans h.np,λk=>(c k).trans (h.pc k),b⟩
theorem fB.ayA{t:Nat}{r:Runner}(a:r.busy=false->r.c.run.2=0)(i:Nat): (ai m.aw t r i).busy=false->(ai m.aw t r i).c.run.2=0:=by
 unfold ai;split
 ·omega
 ·exact h.idle i
theorem fB.now(k:Nat):fB n {m with now:=k}:=⟨h.np,h.pc,h.idle⟩
theorem fB.put{x:Core}{r:Runner}{t:Nat}(b:t<8)(d:x.P.n=m.av.P.n)(g: ∀k,cW k x+bX k r.c.run=cW k m.av+bX k (m.aw t).c.run)(c:r.busy=false->r.c.run.2=0){f:Nat->Runner}(e:f=ai m.aw t r){ev:List Event}:fB n ⟨x,f,a,ev⟩:=by
 subst e;refine h.mk' d (λk=>?_) λi=>h.ayA c i
 have:=ak5 (k:=k) (f:=m.aw) (r:=r) b;have:=g k;show cW k x+cL k (ai m.aw t r)=cW k m.av+cL k m.aw;omega
theorem fB.calls(c:dt m){t:Nat}(b:t<8)(d: (m.aw t).busy=true):fB n (pT m t):=by
 have a:=λk=>ayy c.av (c.c t) k
 unfold pT;dsimp only;split
 ·rename_i he;refine h.put b (a 0).2 (λk=>?_) (λ_=>(rfl:iR.run.2=0)) rh;obtain⟨e,_⟩:=a k;rw[show bX k iR.run=0 from rP k 0]
  grind
 ·refine h.put b (a 0).2 (λk=>?_) (λq=>by grind) rfl
  grind
theorem fB.FY(i:Nat)(a:i<8):fB n (kN m i):=by
 unfold kN;split
 ·refine h.put (x:=me m.av (m.aw i).c) (r:={m.aw i with busy:=false,c:=iR}) a rfl (λk=>?_) (λ_=>rfl) rfl;rw[LW,show bX k iR.run=0 from rP k 0];omega
 omega
omit h in
theorem fB.fo(h:fB n m): ∀k,k<=8->fB n (Go.Proofs.YteplichagkpciaaGreatDoor.fo m k)
 |0,_=>h
 |k+1,a=>by rw[zV];exact(fB.fo h k (by omega)).FY k (by omega)
theorem fB.clear:fB n (lF m):=h.fo 8 (adA 8)
theorem fB.Ur(g:dt m)(t:Nat):fB n (vE m t):=by
 unfold vE;dsimp only;have j:=λk=>ayz g.av.S (aa:=t) (c:={gP with op:=20}) ⟨by decide,by decide,by decide,by decide,by decide,by decide⟩ k
 generalize bN m.av.S t {gP with op:=20} (0,0)=d at*;have b:=λk=>Uq k d.2.2 m.av
 refine h.mk' (by rw[(b 0).2]) (λk=>?_) h.idle;obtain⟨e,i⟩:=b k;have o: (d.2.2.foldl bT m.av).S=m.av.S:=by
  have: ∀ (l:List aC) (x:Core),(l.foldl bT x).S=x.S:=by
   intro l
   induction l with
   |nil=>simp
   |cons a l f=>intro x;exact f _
  grind
 show cW k {d.2.2.foldl bT m.av with S:=d.1}+cL k m.aw=cW k m.av+cL k m.aw;unfold cW at e⊢
 grind
theorem fB.ayB(e:dt m):fB n {m with av:=(gO m.av).1}:=by
 unfold gO;split
 ·exact h
 ·rename_i q c j;have f: ∀k,cR k m.av.P.free+(if q=k then 1 else 0)<=if k<n then 1 else 0:=λk=>by
   have g:=h.pc k;unfold cM cW at g
   grind
  have b:=f q;rw[ac6 rfl]at b;have a:q<n:=by grind
  rw[ac6 a]at b;have i:=λk=>ax0 e.av.P (q:=q) (by rw[h.np];exact a) (by omega) (λk=>by grind) k
  have d: (mc m.av.P q).n=m.av.P.n:=by unfold mc BM;grind
  refine h.mk' d (λk=>?_) h.idle;show cW k {m.av with P:=mc m.av.P q,Q:=c}+cL k m.aw=cW k m.av+cL k m.aw;unfold cW
  grind
theorem fB.steps(c:dt m){t:Nat}(a:t<8):fB n (pU m t):=by
 unfold pU;dsimp only;split
 ·rename_i b;exact h.calls c a b
 ·have b: (m.aw t).busy=false:=by grind
  split
  ·have hw:fB n (vV m t):=h.put a rfl (λk=>by
     rw[LX (h.idle t b)];show cW k m.av+bX k (0,0)=_;rw[rP]) (λq=>by rfl) rfl
   exact hw.calls (c.wanted a) a (by show(ai m.aw t _ t).busy=true;rw[bI])
  ·exact h.put (r:={m.aw t with t:=nA (m.aw t).t}) a rfl (λk=>rfl) (λ_=>h.idle t b) rfl
theorem fB.pick(c:ql m)(e:m.now<=4000)(b:Nat):fB n (jY m b).1:=by
 have a:=c.ok.xJ (n:=m.now+1) (by omega);have d:=h.now (m.now+1);unfold jY;dsimp only;split
 ·exact h
 split
 ·split
  ·exact((h.ayB c.ok).now (m.now+1)).clear
  omega
 split
 ·exact h
 split
 ·exact(d.Ur a _).clear
 ·exact(d.steps a (anr b (by decide))).clear
end
def ayC(aF:List lB)(k:Nat):fB n (fb n aF k):=by
 refine⟨rfl,λk=>?_,λt _=>rfl⟩;have e1:cT k fW.T=0:=by
  unfold cT;have: (List.range 32).map (cS k fW.T)=(List.range 32).map λ_=>0:=ans λi _=>Uj rfl
  rw[this];rfl
 have b: ∀f:Nat->Runner,(∀t,(f t).c.run.2=0)->cL k f=0:=λf a=>by
  unfold cL;have: ((List.range 8).map λt=>bX k (f t).c.run)=(List.range 8).map λ_=>0:=ans λi _=>LX (a i)
  rw[this];rfl
 show cR k [(0,n)]+cT k fW.T+0+cL k _=_;rw[e1,b _ λt=>rfl,kR,ui];unfold bX;grind
def ft(t:ar)(h:Nat):Bool:=t.aq h&&decide (bD t h=0)
def F5(o:bP)(h:Nat):Ow:=if(o (aI h)).root=h then(o (aI h)).own else vq
def Kf(s:aZ)(h:Nat):Option Ow:=if ft s.T h=true then some (F5 s.O h)else none
def LY{h:Nat}:ft t h=true↔t.aq h=true/\bD t h=0:=by unfold ft;simp
def LZ{h:Nat}(a:t.aq h=false):ft t h=false:=by unfold ft;grind
theorem ayD(t:ar):ft t 0=false:=by rfl
def Us(a:cu t){h:Nat}(b:t.aq h=true):root t h=h↔bD t h=0:=by
 unfold root;rw[ac6 b];constructor
 ·intro e;refine af8 λhu=>?_
  have hm:h∈aR t h:=by
   have c:=xz a hu
   grind
  have:=Fw a _ h (adA _) hm;omega
 ·intro hu;rw[pL a,ac6 hu];rfl
def L0{s:aZ}(c:aV s){h:Nat}(a:s.T.aq h=true)(b:root s.T h=h):Kf s h=some (bH s.O s.T h):=by
 unfold Kf;rw[ac6 (LY.2 ⟨a,(Us c.tr a).1 b⟩)];unfold bH F5;rw[b,(sO (show aq s.T.b h=true from a)).1]
def Cp{s:aZ}(a:aV s){h:Nat}{x:Ow}(e:Kf s h=some x):s.T.aq h=true/\root s.T h=h/\bH s.O s.T h=x:=by
 have hu:ft s.T h=true:=by unfold Kf at e;grind
 obtain⟨b,d⟩:=LY.1 hu;have c:=(Us a.tr b).2 d;rw[L0 a b c]at e
 grind
theorem aCa(s:aZ):Kf s 0=none:=by rfl
structure KP(s s':aZ)(h:Nat)(o:Option Ow):Prop where
 k: ∀z,Kf s' z=if z=h then o else Kf s z
 al:s'.alive=s.alive
 bx:s'.bw=s.bw
theorem KP.trans{a b c:aZ}{h:Nat}{o p:Option Ow}(e:KP a b h o)(d:KP b c h p):KP a c h p:=
 ⟨λz=>by rw[d.k];split;rfl;rename_i q;rw[e.k,ac0 q],d.al.trans e.al,d.bx.trans e.bx⟩
def KP.of{s s':aZ}{h:Nat}{b:Bool}(e: ∀z,ft s'.T z=if z=h then b else ft s.T z)(d:s'.O=s.O)(c:s'.alive=s.alive)(a:s'.bw=s.bw):KP s s' h (if b=true then some (F5 s.O h)else none):=by
 refine⟨λz=>?_,c,a⟩;unfold Kf
 grind
def KP.same{s s':aZ}(f: ∀z,ft s'.T z=ft s.T z)(d:s'.O=s.O)(c:s'.alive=s.alive)(a:s'.bw=s.bw):KP s s' 0 none:=
 KP.of (b:=false) (λz=>by rw[f];split;rename_i e;rw[e,ayD];rfl) d c a
def Ut(h:iT t t')(z:Nat):ft t' z=ft t z:=by unfold ft;rw[h.aq,h.bD]
def F6{s:aZ}{r:Nat}{x:Ow}(e: (eP s.O s.T r aa x).2=0)(g:cu s.T):KP s {s with O:=(eP s.O s.T r aa x).1} r (some x):=by
 unfold eP at e⊢;split at e
 ·cases e
 rename_i i;split at e
 ·cases e
 rename_i b;split at e
 ·cases e
 rename_i h;rw[ac0 i,ac0 b,ac0 h];have a:s.T.aq r=true:=by grind
 have d:root s.T r=r:=af8 λq=>b q
 have hu:ft s.T r=true:=LY.2 ⟨a,(Us g a).1 d⟩;refine⟨λz=>?_,rfl,rfl⟩;unfold Kf F5;by_cases e:z=r
 ·subst e;rw[ac6 hu,ac6 rfl];simp only[bI,ae4]
 ·by_cases c:ft s.T z=true
  ·have j:=bA (f:=s.O) (x:=⟨r,x⟩) λq=>e (zE (LY.1 c).1 a q)
   grind
  grind
def ak6{o:bP}{r:Nat}{x:Ow}(c:t.aq r=true)(b:root t r=r)(a:aa<8): (eP o t r aa x).2=0:=by
 unfold eP
 grind
def ak7{h:Nat}(e: (jB t h a).2=0)(z:Nat):ft (jB t h a).1 z=if z=h then decide (a=0)else ft t z:=by
 unfold jB at e⊢;split at e
 ·cases e
 rename_i i;split at e
 ·cases e
 rename_i g;rw[ac0 i,ac0 g];have d:t.aq h=true:=by grind
 have b: ∀r x,ar.aq {t with r:=r} x=t.aq x:=λ_ _=>rfl
 unfold ft bD iO;simp only[b];by_cases c:z=h
 ·subst c;rw[ac6 rfl,bI,d]
  grind
 ·rw[ac0 c];by_cases f:t.aq z=true
  ·rw[bA λq=>c (zE f d q)]
  grind
def ayE{h:Nat}(e: (iA t h).2=0)(z:Nat):ft (iA t h).1 z=if z=h then true else ft t z:=by
 rw[KU]at e⊢;split at e
 ·cases e
 rename_i a;rw[ac0 a,ak7 e,Ut (KT t h _ t)];rfl
def ayF{h:Nat}(e: (mQ t h a).2=0)(z:Nat):ft (mQ t h a).1 z=if z=h then false else ft t z:=by
 unfold mQ at e⊢;split at e
 ·cases e
 rename_i b;split at e
 ·cases e
 rename_i d;split at e
 ·cases e
 rename_i c;rw[ac0 b,ac0 d,ac0 c,ak7 e];have hu:a≠0:=λq=>b (.inr (by rw[q];exact aqI t.b))
 grind
def L1(s:ek t){up:Nat}(e: (eZ t up n).2.2=0):ft t (eZ t up n).2.1=false/\ ∀z,ft (eZ t up n).1 z=if z=(eZ t up n).2.1 then decide (up=0)else ft t z:=by
 unfold eZ at e⊢;dsimp only at e⊢;split at e
 ·cases e
 rename_i p;rw[ac0 p];clear p;unfold kf at e⊢;split at e
 ·cases e
 rename_i u;split at e
 ·cases e
 rename_i x;rw[ac0 u,ac0 x];split at e
 ·rename_i i h
  try rfl
  dsimp only;obtain⟨i1,i2,i3,_⟩:=pK h;have k:=s.ok.b;have a: ∀z,ar.aq {b:=ai t.b i {t.b i with da:=true},r:=ai t.r i {cY with up:=up,cF:=n}} z=true↔t.aq z=true\/z=dh i (t.b i).gen:=λz=>K6 h k
  have o: ∀z,t.aq z=true->aI z≠i:=by
   intro z c q;obtain⟨_,v,_⟩:=sO (show aq t.b z=true from c)
   grind
  have m:aI (dh i (t.b i).gen)=i:=BI (Kj i1 (k i).1);have hold: ∀z,mW t.b z->ar.aq {b:=ai t.b i {t.b i with da:=true},r:=ai t.r i {cY with up:=up,cF:=n}} z=t.aq z:=λz c=>by
   have: (ar.aq {b:=ai t.b i {t.b i with da:=true},r:=ai t.r i {cY with up:=up,cF:=n}} z=true)↔t.aq z=true:=⟨λq=>by
    rcases(a z).1 q with q|q
    ·exact q
    ·rw[q]at c;exact absurd c (S9 h k),λq=>(a z).2 (.inl q)⟩
   grind
  refine⟨LZ (B7 h k),λz=>?_⟩;generalize l: ({b:=ai t.b i {t.b i with da:=true},r:=ai t.r i {cY with up:=up,cF:=n}}:ar)=t' at*;have d: ∀j,(t'.r j).up=if j=i then up else(t.r j).up:=by
   intro j;rw[<-l];show(ai t.r i _ j).up=_;by_cases e:j=i
   ·rw[e,bI,ac6 rfl]
   ·rw[bA e,ac0 e]
  by_cases g:z=dh i (t.b i).gen
  ·rw[ac6 g];have f:t'.aq z=true:=(a z).2 (.inr g);unfold ft bD iO;rw[ac6 f,f,d,g,m,ac6 rfl];by_cases hu:up=0
   ·subst hu;simp
   ·have w:t.aq up=true:=by
      cases q:t.aq up with
      |true=>rfl
      |false=>exact absurd ⟨hu,q⟩ u
    rw[ac6 ((a up).2 (.inl w))];rfl
  ·rw[ac0 g];have e1:t'.aq z=t.aq z:=anb.2 ⟨λq=>((a z).1 q).resolve_right g,λq=>(a z).2 (.inl q)⟩;unfold ft bD iO;rw[e1];by_cases f:t.aq z=true
   ·rw[d,ac0 (o z f),hold _ (s.up (aI z))]
   ·have c:t.aq z=false:=by simpa using f
    rw[c];rfl
 grind
def ayG{y:Nat}(a:t.aq y=true)(z:Nat): (fj t y).1.aq z=(t.aq z&&decide (z≠y)):=by
 unfold fj;rw[ac6 a];show aq (dC t.b y).1 z=_;by_cases e:z=y
 ·subst e;obtain⟨b,_⟩:=sO (show aq t.b z=true from a);have:aq (dC t.b z).1 z=false:=by
   unfold aq dC;rw[b,ac6 (show aq t.b z=true from a)];refine adb ?_;show ai _ _ _ _≠_;rw[bI];unfold nm
   grind
  grind
 ·rw[ady e,avV];exact anb.2 ⟨K7,λq=>Tn q a e⟩
theorem ak8: ∀ (l:lN) (t:ar),l.Nodup->(∀y∈l,t.aq y=true)-> ∀z,(fY t l).aq z=(t.aq z&&decide (z∉l))/\ (t.aq z=true->z∉l->(fY t l).r (aI z)=t.r (aI z))
 | [],t,_,_,z=>⟨by simp[fY],λ_ _=>rfl⟩
 |y::l,t,e,f,z=>by
  obtain⟨h,c⟩:=arU.1 e;have b:=f y (aeX ..);have i:=ayG b;obtain⟨k,g⟩:=ak8 l (fj t y).1 c (λa j=>by grind) z;refine⟨?_,λd hm=>?_⟩
  ·show(fY (fj t y).1 l).aq z=_
   grind
  ·have hm:=not_or.1 λq=>hm (aeZ.2 q)
   show(fY (fj t y).1 l).r (aI z)=_;rw[g (by grind) hm.2];unfold fj;rw[ac6 b];exact bA λq=>hm.1 (zE d b q)
def ayH(a:ek t){h z:Nat}(b:bD t z≠0)(c:bD t z∈de t h):z∈de t h:=by
 refine ahI a.ok.b a.tr _ h (adA _) ?_;rw[xz a.tr b];rcases FA a.tr 32 h c with q|q
 ·grind
 grind
def ayI(c:ek t)(h z:Nat):ft (ik t h).1 z=if z=h then false else ft t z:=by
 by_cases d:t.aq h=true
 ·have b:under t h=de t h:=by unfold under;rw[ac6 d];rfl
  have he: (ik t h).1=fY t (de t h):=by
   unfold ik;rw[b,ac0 (aqL h)];rfl
  rw[he];have f: ∀y∈de t h,t.aq y=true:=λy j=>zk c.ok.b d j
  have i:=ak8 (de t h) t (ahZ c.tr 32 h) f;obtain⟨d1,d2⟩:=i z;by_cases hm:z∈de t h
  ·rw[LZ (by grind)];split
   ·rfl
   ·rename_i k
    symm
    unfold ft;rcases FA c.tr 32 h hm with q|q
    ·omega
    ·have:bD t z≠0:=λl=>by rw[pL c.tr,ac6 l]at q;cases q
     grind
  ·rw[ac0 λq=>hm (by rw[q];exact Ta c.tr h)];have e1: (fY t (de t h)).aq z=t.aq z:=by rw[d1];simp[hm]
   unfold ft bD iO;rw[e1];by_cases a:t.aq z=true
   ·rw[d2 a hm,ac6 a,ac6 a];have m: (fY t (de t h)).aq (t.r (aI z)).up=t.aq (t.r (aI z)).up:=by
     rw[(i _).1];cases g:t.aq (t.r (aI z)).up with
     |false=>rfl
     |true=>
      have hu:bD t z=(t.r (aI z)).up:=by unfold bD iO;rw[ac6 a,ac6 g]
      have: (t.r (aI z)).up∉de t h:=λq=>hm (ayH c (by rw[hu];exact Kt g) (by rw[hu];exact q))
      simp[this]
    rw[m]
   ·have a:t.aq z=false:=by simpa using a
    rw[a];rfl
 ·have b:under t h=[]:=by unfold under;rw[ac0 d]
  have he: (ik t h).1=t:=by unfold ik;rw[b];rfl
  rw[he];split
  ·rename_i e;rw[e];exact LZ (by simpa using d)
  ·rfl
theorem ak9: ∀ (l:lN) (x:az),(l.foldl fw x).s.T=x.s.T/\ (l.foldl fw x).s.O=x.s.O/\ (l.foldl fw x).s.alive=x.s.alive/\ (l.foldl fw x).s.bw=x.s.bw
 | [],_=>⟨rfl,rfl,rfl,rfl⟩
 |a::l,x=>ak9 l (fw x a)
def L3(a:aV x.s)(h:Nat):KP x.s (eh x h).s h none:=by
 obtain⟨f,e,d,c⟩:=ak9 (under x.s.T h) x;refine KP.of (b:=false) (λz=>?_) e d c;show ft (ik ((under x.s.T h).foldl fw x).s.T h).1 z=_;rw[f];exact ayI a.dY h z
def Uu{h t:Nat}(a:aV x.s)(e:kK x h t= .ok y):KP x.s y.s h (some ⟨1,t % 256,0⟩):=by
 obtain⟨_,he,e⟩:=aB e;cases e;exact F6 (mm he) a.tr
def Uv{h:Nat}(e:sR x h= .ok y):KP x.s y.s h (some (F5 x.s.O h)):=by
 obtain⟨_,he,e⟩:=aB e;cases e;exact KP.of (b:=true) (λz=>ayE (mm he) z) rfl rfl rfl
def Uw{h:Nat}(e:mb x h r= .ok y):KP x.s y.s 0 none:=by
 obtain⟨_,he,e⟩:=aB e;cases e;exact KP.same (Ut (.set ..)) rfl rfl rfl
def Ux{s:aZ}(f:aV s){r:Nat}{b:Bool}(e: (db s.O s.T r aa b).2.2=0): ∃y,Kf s r=some y/\y.kind=3/\aa<8/\fT y.hold aa= !b/\ (db s.O s.T r aa b).2.1=y.hold^^^eU aa/\KP s {s with O:=(db s.O s.T r aa b).1} r (some {y with hold:=y.hold^^^eU aa}):=by
 have j: (eP s.O s.T r aa (bH s.O s.T r)).2=0->s.T.aq r=true/\root s.T r=r/\aa<8:=λh=>by
  unfold eP at h;split at h
  ·cases h
  split at h
  ·cases h
  split at h
  ·cases h
  rename_i a d c;exact⟨by simpa using a,af8 λq=>d q,by omega⟩
 unfold db at e⊢;dsimp only at e⊢;split at e
 ·rename_i a;dsimp only at e;rw[e]at a;obtain⟨g1,g2,_⟩:=j e;rcases a with q|q
  ·cases q
  ·exact absurd g2 q.2
 rename_i a;rw[ac0 a];split at e
 ·cases e
 rename_i d;rw[ac0 d];split at e
 ·rename_i c;exact absurd e c
 rename_i c;rw[ac0 c];split at e
 ·cases e
 rename_i i;rw[ac0 i];split at e
 ·cases e
 rename_i g;rw[ac0 g];obtain⟨g1,g2,k⟩:=j (af8 λq=>c q);refine⟨bH s.O s.T r,L0 f g1 g2,af8 λq=>d q,k,?_,rfl,F6 e f.tr⟩;revert i g;cases fT (bH s.O s.T r).hold aa<;>cases b<;>simp
def kS(a:Nat->Bool)(d:Nat)(x:Ow):Prop:=(x.kind=1/\x.aa<8/\ (a x.aa=true\/x.aa=d))\/x.kind=2\/ (x.kind=3/\x.hold≠0/\ ∀i,x.hold.testBit i=true->i<8/\ (a i=true\/i=d))
def nQ:Option Ow->Bool
 |some x=>decide (x.kind=2)
 |none=>false
def jJ(h:Nat)(l:List eY):Nat:=l.countP λm=>decide (m.aJ=h)&& !m.share
def Cq(b:Nat->cA)(h:Nat):Nat:=((List.range 8).map λi=>jJ h (dG (b i))).sum
structure Lv(s:aZ)(d:Nat)(l:List eY):Prop where
 own: ∀h x,Kf s h=some x->kS s.alive d x
 rH: ∀h,h≠0->Cq s.bw h+jJ h l=(nQ (Kf s h)).toNat
 dead: ∀i,i<8->s.alive i=false->(s.bw i).n=0
def zW(h:Nat)(m:eY)(l:List eY):jJ h (m::l)=jJ h l+if m.aJ=h/\m.share=false then 1 else 0:=by
 unfold jJ;grind
def ala(h:Nat)(a b:List eY):jJ h (a++b)=jJ h a+jJ h b:=List.countP_append
def Uy{f:Nat->cA}(c:i<8)(b:cA)(h:Nat):Cq (ai f i b) h+jJ h (dG (f i))=Cq f h+jJ h (dG b):=by
 have key:=Ui (f:=λj=>jJ h (dG (ai f i b j))) (g:=λj=>jJ h (dG (f j))) (i:=i) (λj a=>by rw[bA a]) 8 c;rw[bI]at key;exact key
def kS.mono{j b:Nat->Bool}{d:Nat}{x:Ow}(h:kS j d x)(g: ∀i,i<8->j i=true->b i=true):kS b d x:=by
 rcases h with⟨f,c,a⟩|h| ⟨f,c,a⟩
 ·exact .inl ⟨f,c,a.imp_left (g _ c)⟩
 ·exact .inr (.inl h)
 ·exact .inr (.inr ⟨f,c,λi e=>⟨(a i e).1,(a i e).2.imp_left (g _ (a i e).1)⟩⟩)
def kS.L4{a:Nat->Bool}{d:Nat}(b:i<8)(h:a i=true\/i=d):kS a d ⟨1,i % 256,0⟩:=by
 exact .inl ⟨rfl,by grind,by grind⟩
section
variable{s s':aZ}{d:Nat}{l:List eY}{h:Nat}{o:Option Ow}
def Lv.put(L:Lv s d l)(K:KP s s' h o)(f:nQ o=nQ (Kf s h))(ho: ∀x,o=some x->kS s.alive d x):Lv s' d l:=by
 refine⟨λz x e=>?_,λz a=>?_,λi b c=>?_⟩
 ·rw[K.al];rw[K.k]at e;split at e
  ·grind
  ·exact L.own z x e
 ·rw[K.bx,L.rH z a,K.k]
  grind
 ·rw[K.bx];exact L.dead i b (by rw[<-K.al];exact c)
theorem Lv.same(L:Lv s d l)(K:KP s s' 0 none):Lv s' d l:=L.put K (by rfl) λx e=>by cases e
def Lv.skip{m:eY}(L:Lv s d (m::l))(b:m.aJ=0\/m.share=true):Lv s d l:=by
 refine⟨L.own,λz a=>?_,L.dead⟩;rw[<-L.rH z a,zW,ac0];rfl
 grind
def Lv.ayJ{m:eY}(L:Lv s d (m::l))(c:m.aJ≠0)(b:m.share=false): ∃x,Kf s m.aJ=some x/\x.kind=2:=by
 have a:=L.rH m.aJ c;rw[zW,ac6 ⟨rfl,b⟩]at a;cases e:Kf s m.aJ with
 |none=>rw[e]at a;simp[nQ]at a
 |some x=>
  rw[e]at a;refine⟨x,rfl,af8 λq=>?_⟩;simp[nQ,q]at a
def Lv.pop{m:eY}(L:Lv s d (m::l))(j:m.aJ≠0)(g:m.share=false)(K:KP s s' m.aJ o)(k:nQ o=false)(ho: ∀x,o=some x->kS s.alive d x):Lv s' d l:=by
 refine⟨λz x e=>?_,λz a=>?_,λi b c=>?_⟩
 ·rw[K.al];rw[K.k]at e;split at e
  ·grind
  ·exact L.own z x e
 ·rw[K.bx,K.k];have f:=L.rH z a;rw[zW]at f;by_cases e:z=m.aJ
  ·have:=Bool.toNat_le (nQ (Kf s z))
   grind
  grind
 ·rw[K.bx];exact L.dead i b (by rw[<-K.al];exact c)
end
def alb{b:cA}{m:eY}(c:hZ b)(e: (iD b m).2=0):dG (iD b m).1=dG b++[m]:=by
 unfold iD at e⊢;split at e
 ·cases e
 rename_i g;split at e
 ·cases e
 rename_i f;rw[ac0 g,ac0 f];have j:=c.n;show(List.range (b.n+1)).map (λi=>ai b.ring (jk b b.n) m (jk b i))=(List.range b.n).map (λi=>b.ring (jk b i))++[m];rw[aoZ,aeP]
 congr 1
 ·exact ans λi a=>bA (by have:=anc.1 a;unfold jk;omega)
 ·simp only[aj9,atZ,bI]
def ayK{b:cA}(c:hZ b)(e: (iE b).2.2=0):dG b=(iE b).2.1::dG (iE b).1/\ (iE b).1.n<=b.n:=by
 unfold iE at e⊢;split at e
 ·grind
 rename_i h;rw[ac0 h];refine⟨?_,Nat.sub_le _ _⟩;obtain⟨n,a⟩: ∃n,b.n=n+1:=⟨b.n-1,by omega⟩;show(List.range b.n).map (λi=>b.ring (jk b i))=b.ring b.fr:: (List.range (b.n-1)).map (λi=>b.ring ((jk b 1+i) % 4));have f:=c.fr;rw[a,aAD,aj9,aAS]
 congr 1
 ·show b.ring ((b.fr+0) % 4)=_;grind
 ·refine ans λi _=>?_
  show b.ring ((b.fr+(i+1)) % 4)=b.ring (((b.fr+1) % 4+i) % 4)
  grind
def ayL(b:cA):dG (pM b).1=dG b/\ (pM b).1.n=b.n:=by unfold pM;split<;>exact⟨rfl,rfl⟩
section
variable{s s':aZ}{d:Nat}{l l':List eY}
def Lv.box(L:Lv s d l)(g:i<8){b:cA}(m: ∀h,h≠0->jJ h (dG b)+jJ h l'=jJ h (dG (s.bw i))+jJ h l)(n:s.alive i=false->b.n=0):Lv {s with bw:=ai s.bw i b} d l':=by
 refine⟨L.own,λz a=>?_,λj c k=>?_⟩
 ·have r:=Uy (f:=s.bw) g b z;have q:=m z a;have p:=L.rH z a;show Cq (ai s.bw i b) z+jJ z l'=(nQ (Kf s z)).toNat;omega
 ·show(ai s.bw i b j).n=0;by_cases e:j=i
  ·subst e;rw[bI];grind
  ·rw[bA e];exact L.dead j c k
def Lv.send{r:Nat}{x:Ow}{m:eY}(L:Lv s 8 [])(K:KP s s' r (some x))(c:x.kind=2)(w:nQ (Kf s r)=false)(n:hZ (s.bw i))(k:i<8)(p:s.alive i=true)(u:m.aJ=r)(v:m.share=false)(e: (iD (s'.bw i) m).2=0):Lv {s' with bw:=ai s'.bw i (iD (s'.bw i) m).1} 8 []:=by
 rw[K.bx]at e⊢;refine⟨λz y q=>?_,λz b=>?_,λj g a=>?_⟩
 ·have q:Kf s' z=some y:=q;rw[K.k]at q;split at q
  ·injection q with q;exact .inr (.inl (q ▸ c))
  ·rw[K.al];exact L.own z y q
 ·have t:=Uy (f:=s.bw) k (iD (s.bw i) m).1 z;rw[alb n e,ala,zW]at t;have B:=L.rH z b;have C:jJ z []=0:=rfl;show Cq (ai s.bw i (iD (s.bw i) m).1) z+jJ z []=(nQ (Kf s' z)).toNat;rw[K.k];by_cases e:z=r
  ·subst e;have A: (nQ (some x)).toNat=1:=by show(decide (x.kind=2)).toNat=1;grind
   grind
  grind
 ·have a:s'.alive j=false:=a;rw[K.al]at a;show(ai s.bw i _ j).n=0;rw[bA λq=>by rw[q,p]at a;cases a];exact L.dead j g a
end
def F7{h:Nat}{u:Unit}(a:aV x.s)(e:fU x h w= .ok u):nQ (Kf x.s h)=false:=by
 cases b:Kf x.s h with
 |none=>rfl
 |some y=>
  obtain⟨d,_,ho⟩:=Cp a b;refine adb λq=>?_
  have c:=mm (show ca _=_ from e);unfold sP at c
  grind
def L5(a t i:Nat): (a^^^eU t).testBit i=(a.testBit i^^decide (t % 8=i)):=by unfold eU;grind
def kS.more{a:Nat->Bool}{d t:Nat}{y:Ow}(h:kS a d y)(c:y.kind=3)(b:t<8)(k:a t=true)(g:fT y.hold t=false):kS a d {y with hold:=y.hold^^^eU t}:=by
 have e:t % 8=t:=amX b;unfold fT at g;refine .inr (.inr ⟨c,λq=>?_,λi f=>?_⟩)
 ·have j:=L5 y.hold t t
  grind
 ·rw[L5,e]at f;by_cases q:t=i
  ·grind
  ·rcases h with⟨j,_⟩|h| ⟨_,_,l⟩
   ·omega
   ·omega
   grind
def kS.less{a:Nat->Bool}{d t:Nat}{y:Ow}(h:kS a d y)(b:y.kind=3)(e:fT y.hold t=true)(f:y.hold^^^eU t≠0):kS a d {y with hold:=y.hold^^^eU t}:=by
 unfold fT at e;refine .inr (.inr ⟨b,f,λi c=>?_⟩);rw[L5]at c;by_cases q:t % 8=i
 ·grind
 ·rcases h with⟨j,_⟩|h| ⟨_,_,g⟩
  ·omega
  ·omega
  grind
def Cr(y:Ow)(t:Nat):Option Ow:=if y.hold^^^eU t=0 then none else some {y with hold:=y.hold^^^eU t}
def alc{h t:Nat}(a:aV y.s)(e:h<4294967296)(b:jl y h t= .ok z): ∃x,Kf y.s h=some x/\x.kind=3/\t<8/\fT x.hold t=true/\KP y.s z.s h (Cr x t)/\aV z.s:=by
 have l:=(ah3 a e b).1;obtain⟨_,he,b⟩:=aB b;obtain⟨x,k,j,i,g,f,d⟩:=Ux a (mm he);cases b;refine⟨x,k,j,i,g,?_,l⟩;unfold Cr;rw[f];have c:aV (y.o (db y.s.O y.s.T h t false).1).s:=a.qd (a.O.held e);split
 ·exact d.trans (L3 c h)
 ·exact d
def ald{s s':aZ}{d h t:Nat}{l:List eY}{x:Ow}(L:Lv s d l)(a:Kf s h=some x)(c:x.kind=3)(b:fT x.hold t=true)(K:KP s s' h (Cr x t)):Lv s' d l:=by
 refine L.put K ?_ λy e=>?_
 ·rw[a];unfold Cr;split
  ·show false=decide (x.kind=2);grind
  ·rfl
 ·unfold Cr at e;split at e
  ·cases e
  ·rename_i f;injection e with e;rw[<-e];exact(L.own h x a).less c b f
def ayM{t:Nat}(L:Lv x.s 8 [])(l:t<8):Lv (nK x t).s t (dG (x.s.bw t)):=by
 have c: ∀i,i<8->(x.s.alive i=true\/i=8)->ai x.s.alive t false i=true\/i=t:=λi a h=>by
  by_cases e:i=t
  ·omega
  ·rw[bA e];grind
 refine⟨λz y e=>?_,λz k=>?_,λi a g=>?_⟩
 ·rcases L.own z y e with⟨j,d,b⟩|h| ⟨j,d,b⟩
  ·exact .inl ⟨j,d,c _ d b⟩
  ·exact .inr (.inl h)
  ·exact .inr (.inr ⟨j,d,λi a=>⟨(b i a).1,c _ (b i a).1 (b i a).2⟩⟩)
 ·have j:=Uy (f:=x.s.bw) l rp z;have d:=L.rH z k;have b:jJ z (dG rp)=0:=rfl;have m:jJ z []=0:=rfl;show Cq (ai x.s.bw t rp) z+_=(nQ (Kf x.s z)).toNat;omega
 ·show(ai x.s.bw t rp i).n=0;by_cases e:i=t
  ·rw[e,bI];rfl
  ·rw[bA e];have g:ai x.s.alive t false i=false:=g;rw[bA e]at g;exact L.dead i a g
def ayN{m:eY}{d:Nat}{l:List eY}(a:aV y.s)(f:qc m)(L:Lv y.s d (m::l)): ∃z,s8 y m= .ok z/\aV z.s/\Lv z.s d l/\z.s.alive=y.s.alive:=by
 unfold s8;by_cases b:m.aJ=0\/m.share=true
 ·rw[ac6 b];exact⟨y,rfl,a,L.skip b,rfl⟩
 rw[ac0 b];have c:m.aJ≠0:=λq=>b (.inl q)
 have g:m.share=false:=by grind
 obtain⟨x,j,k⟩:=L.ayJ c g;obtain⟨g1,g2,_⟩:=Cp a j;by_cases h:y.s.alive m.fr=true
 ·rw[ac6 h];have e:=ak6 (o:=y.s.O) (x:=⟨1,m.fr % 256,0⟩) g1 g2 f.fr;have i:kK y m.aJ m.fr= .ok (y.o (ow y.s.O y.s.T m.aJ m.fr).1):=by
   unfold kK;rw[show(ow y.s.O y.s.T m.aJ m.fr).2=0 from e];rfl
  exact⟨_,i,(Cn a f.aJ i).1,L.pop c g (F6 e a.tr) rfl λx q=>by injection q with q;rw[<-q];exact kS.L4 f.fr (.inl h),rfl⟩
 ·rw[ac0 h];have K:=L3 a m.aJ;exact⟨_,rfl,FB a m.aJ,L.pop c g K rfl (λx q=>by cases q),K.al⟩
theorem ale{d:Nat}: ∀ (l:List eY) (y:az),aV y.s->(∀m∈l,qc m)->Lv y.s d l-> ∃z,l.foldlM s8 y= .ok z/\aV z.s/\Lv z.s d []/\z.s.alive=y.s.alive
 | [],y,b,_,L=>⟨y,rfl,b,L,rfl⟩
 |m::l,y,b,hm,L=>by
  obtain⟨z,e,g,f,c⟩:=ayN b (hm m (aeX ..)) L;obtain⟨w,k,w1,i,h⟩:=ale l z g (λa j=>hm a (aeR _ j)) f;exact⟨w,by rw[aBy,e];exact k,w1,i,h.trans c⟩
theorem alf{d:Nat}: ∀ (l:lN) (y:az),aV y.s->Lv y.s d []->(∀h∈l,nQ (Kf y.s h)=false)->aV (l.foldl eh y).s/\Lv (l.foldl eh y).s d []/\ (l.foldl eh y).s.alive=y.s.alive/\ ∀h,Kf (l.foldl eh y).s h=if h∈l then none else Kf y.s h
 | [],y,b,L,_=>⟨b,L,rfl,λh=>by simp⟩
 |a::l,y,b,L,c=>by
  have K:=L3 b a;obtain⟨i,g,f,e⟩:=alf l (eh y a) (FB b a) (L.put K (by rw[c a (aeX ..)];rfl) λx q=>by cases q) λh j=>by
   rw[K.k];split
   ·rfl
   grind
  refine⟨i,g,f.trans K.al,λh=>?_⟩;show Kf (l.foldl eh (eh y a)).s h=_;rw[e,K.k]
  grind
def ayO{s:aZ}{h t:Nat}{x:Ow}(b:aV s)(a:t<8)(c:Kf s h=some x)(e:x.kind=3)(d:fT x.hold t=true): (db s.O s.T h t false).2.2=0:=by
 obtain⟨g1,g2,f⟩:=Cp b c;have e1: ∀y,(eP s.O s.T h t y).2=0:=λy=>ak6 g1 g2 a
 unfold db
 grind
def ayP{h t:Nat}(a: (db y.s.O y.s.T h t false).2.2=0): ∃z,jl y h t= .ok z:=by
 unfold jl;dsimp only;rw[a];exact⟨_,rfl⟩
theorem alg{t:Nat}(j:t<8): ∀ (l:lN) (y:az),l.Nodup->aV y.s->Lv y.s t []->(∀h∈l,h<4294967296/\ ∃x,Kf y.s h=some x/\x.kind=3/\fT x.hold t=true)-> ∃z,l.foldlM (λy h=>jl y h t) y= .ok z/\Lv z.s t []/\z.s.alive=y.s.alive/\ (∀h,h∉l->Kf z.s h=Kf y.s h)/\ ∀h∈l,∀x,Kf z.s h=some x->x.kind=3/\fT x.hold t=false
 | [],y,_,_,L,_=>⟨y,rfl,L,rfl,λ_ _=>rfl,λh b=>by grind⟩
 |a::l,y,C,k,L,D=>by
  obtain⟨s,p⟩:=arU.1 C;obtain⟨E,x,A,v,u⟩:=D a (aeX ..);obtain⟨z,e⟩:=ayP (ayO k j A v u);obtain⟨m,o,i,_,d,K,B⟩:=alc k E e;have f: ∀h∈l,h≠a:=λh b q=>s (q ▸ b)
  obtain⟨w,F,w1,n,g,G⟩:=alg j l z p B (ald L o i d K) λh b=>by
   rw[K.k,ac0 (f h b)];grind
  refine⟨w,by rw[aBy,e];exact F,w1,n.trans K.al,λh b=>?_,λh b x c=>?_⟩
  ·have b:=not_or.1 λq=>b (aeZ.2 q)
   rw[g h b.2,K.k,ac0 b.1]
  ·by_cases q:h∈l
   ·grind
   ·rcases aeZ.1 b with r|r
    ·subst r;rw[g h q,K.k,ac6 rfl]at c;unfold Cr at c;split at c
     ·cases c
     ·injection c with c
      rw[<-c];refine⟨i,?_⟩;unfold fT at d⊢;show(m.hold^^^eU t).testBit (t % 8)=false;rw[L5,d];simp
    grind
def alh{t:Nat}(k:aV x.s)(L:Lv x.s 8 [])(A:t<8): ∃y,lC x t= .ok y/\Lv y.s 8 []/\y.s.alive=ai x.s.alive t false:=by
 rw[Lf];have E:aV (nK x t).s:=(k.vO hZ.gone).Fx;obtain⟨w,e,w1,N,P⟩:=ale (dG (x.s.bw t)) (nK x t) E (λm hm=>by
  obtain⟨i,_,rfl⟩:=aeO.1 hm;exact(k.bx t).ring _) (ayM L A)
 rw[e];show∃y,B9 w t= .ok y/\_;unfold B9;have j: ∀ (l:lN) (w:az),aV w.s->Lv w.s t []->aV (l.foldl (λy h=>y.k (jC y.s.K h).1) w).s/\Lv (l.foldl (λy h=>y.k (jC y.s.K h).1) w).s t []/\ (l.foldl (λy h=>y.k (jC y.s.K h).1) w).s.alive=w.s.alive:=by
  intro l
  induction l with
  |nil=>intro w a b;exact⟨a,b,rfl⟩
  |cons a l R=>intro w f j;exact R (w.k (jC w.s.K a).1) (f.xA (f.tok.ret a)) (j.same (KP.same (λ_=>rfl) rfl rfl rfl))
 obtain⟨v1,v2,Q⟩:=j (rm w.s.K t) w w1 N;dsimp only;generalize(rm w.s.K t).foldl (λy h=>y.k (jC y.s.K h).1) w=v at*;clear j w1 N;have g: ∀ (s:aZ) (p:Nat->Bool),aV s-> ∀h,h∈(bt s.T.b).filter p->s.T.aq h=true/\p h=true:=λs p k h o=>by
  obtain⟨a,b⟩:=ae2.1 o;exact⟨(iQ k.T.b).1 a,b⟩
 have d: ∀ (s:aZ) (p:Nat->Bool),aV s-> ∀h,s.T.aq h=true->p h=true->h∈(bt s.T.b).filter p:=λs p k h T S=>ae2.2 ⟨(iQ k.T.b).2 T,S⟩
 obtain⟨g1,g2,V,U⟩:=alf ((bt v.s.T.b).filter λh=>decide (root v.s.T h=h)&&decide ((bH v.s.O v.s.T h).kind=1)&&decide ((bH v.s.O v.s.T h).aa=t)) v v1 v2 λh o=>by
  obtain⟨a,b⟩:=g _ _ v1 h o;simp only[aeW,ae1]at b;rw[L0 v1 a b.1.1];show decide (_=2)=false;rw[b.1.2];rfl
 have F: ∀h y,Kf (((bt v.s.T.b).filter λh=>decide (root v.s.T h=h)&&decide ((bH v.s.O v.s.T h).kind=1)&&decide ((bH v.s.O v.s.T h).aa=t)).foldl eh v).s h=some y-> ¬(y.kind=1/\y.aa=t):=λh y c q=>by
  rw[U]at c;split at c
  ·cases c
  ·rename_i hm;obtain⟨J,I,H⟩:=Cp v1 c;exact hm (d _ _ v1 h J (by rw[H,q.1,q.2,I];simp))
 generalize((bt v.s.T.b).filter λh=>decide (root v.s.T h=h)&&decide ((bH v.s.O v.s.T h).kind=1)&&decide ((bH v.s.O v.s.T h).aa=t)).foldl eh v=u at*;obtain⟨z,W,D,O,M,K⟩:=alg A ((bt u.s.T.b).filter λh=>decide (root u.s.T h=h)&&decide ((bH u.s.O u.s.T h).kind=3)&& (decide (t<8)&&fT (bH u.s.O u.s.T h).hold t)) u ((Tk _).filter _) g1 g2 λh o=>by
  obtain⟨a,b⟩:=g _ _ g1 h o;simp only[aeW,ae1]at b;exact⟨gl a,_,L0 g1 a b.1.1,b.1.2,b.2.2⟩
 have G:z.s.alive=ai x.s.alive t false:=by rw[O,V,Q,P];rfl
 refine⟨z,W,⟨λh y c=>?_,D.rH,D.dead⟩,G⟩;have n: ∀i,(z.s.alive i=true\/i=t)->i≠t->z.s.alive i=true\/i=8:=λi q r=>.inl (q.resolve_right r)
 rcases D.own h y c with⟨f,j,C⟩|q| ⟨f,j,C⟩
 ·refine .inl ⟨f,j,n _ C λq=>?_⟩;by_cases hm:h∈(bt u.s.T.b).filter λh=>decide (root u.s.T h=h)&&decide ((bH u.s.O u.s.T h).kind=3)&& (decide (t<8)&&fT (bH u.s.O u.s.T h).hold t)
  ·have:=(K h hm y c).1;rw[f]at this;cases this
  ·exact F h y ((M h hm) ▸ c) ⟨f,q⟩
 ·exact .inr (.inl q)
 ·refine .inr (.inr ⟨f,j,λi B=>⟨(C i B).1,n _ (C i B).2 λq=>?_⟩⟩);subst q;have e8:i % 8=i:=amX A;by_cases hm:h∈(bt u.s.T.b).filter λh=>decide (root u.s.T h=h)&&decide ((bH u.s.O u.s.T h).kind=3)&& (decide (i<8)&&fT (bH u.s.O u.s.T h).hold i)
  ·have:=(K h hm y c).2;unfold fT at this;rw[e8,B]at this;cases this
  ·have c:=(M h hm) ▸ c;obtain⟨J,I,H⟩:=Cp g1 c;exact hm (d _ _ g1 h J (by unfold fT;rw[H,I,f,e8,B];simp[A]))
section
variable{x:az}{a:az×bE}(hs:aV x.s)(hL:Lv x.s 8 [])(ht:x.aa<8)(lW:x.s.alive x.aa=true)
include hs hL
omit hs in
theorem ayQ(h:hO x= .ok a):Lv a.1.s 8 []:=by
 unfold hO at h
 try dsimp only at h
 cases d:jX (min x.c.a 129) (min x.c.b 9)with
 |none=>rw[d]at h;cases h
 |some n=>
  rw[d]at h;obtain⟨_,e1,h⟩:=aB h;cases e1;obtain⟨_,_,h⟩:=aB h;obtain⟨_,_,h⟩:=aB h;split at h
  ·obtain⟨z,b,h⟩:=aB h;cases h;exact hL.same (Uw b)
  ·obtain⟨_,_,h⟩:=aB h
   try dsimp only at h
   split at h
   ·cases h;exact hL
   ·obtain⟨_,_,h⟩:=aB h;obtain⟨z,b,h⟩:=aB h;cases h;exact hL.same (Uw (x:={s:=x.s,aa:=x.aa,c:=x.c,run:=x.run,jW:=n,asks:=x.asks,back:=x.back}) b)
omit hs in
theorem ayR(h:pO x w= .ok a):Lv a.1.s 8 []:=by
 unfold pO at h;obtain⟨_,_,h⟩:=aB h;obtain⟨_,_,h⟩:=aB h;obtain⟨_,_,h⟩:=aB h;obtain⟨_,_,h⟩:=aB h;cases h;exact hL
omit hs in
theorem ayS(h:sS x= .ok a):Lv a.1.s 8 []:=by
 unfold sS at h;obtain⟨_,_,h⟩:=aB h;obtain⟨_,_,h⟩:=aB h
 try dsimp only at h
 obtain⟨y,e,h⟩:=aB h;cases h;exact hL.same (Uw (x:={x with back:=x.back++(aE x.s.T x.c.r).1.runs}) e)
theorem ayT(h:vx x= .ok a):Lv a.1.s 8 []:=by
 obtain⟨_,hm,h⟩:=aB h;cases h;exact hL.put (L3 hs _) (F7 hs hm).symm λx q=>by cases q
theorem ayU(h:w9 x= .ok a):Lv a.1.s 8 []:=by
 obtain⟨_,hm,h⟩:=aB h;obtain⟨_,_,h⟩:=aB h;obtain⟨_,he,h⟩:=aB h;cases h;exact hL.put (KP.of (s':=(x.t (mQ x.s.T x.c.r x.c.s).1).s) (b:=false) (λz=>ayF (mm he) z) rfl rfl rfl) (F7 hs hm).symm λx q=>by cases q
omit hs in
theorem ayV(h:pP x= .ok a):Lv a.1.s 8 []:=by
 unfold pP at h;obtain⟨_,_,h⟩:=aB h;obtain⟨_,_,h⟩:=aB h;obtain⟨_,_,h⟩:=aB h
 try dsimp only at h
 split at h
 ·obtain⟨_,_,h⟩:=aB h
  try dsimp only at h
  obtain⟨_,_,h⟩:=aB h;cases h;exact hL.same (KP.same (λ_=>rfl) rfl rfl rfl)
 ·obtain⟨_,_,h⟩:=aB h;obtain⟨_,_,h⟩:=aB h
  try dsimp only at h
  obtain⟨_,_,h⟩:=aB h;cases h;exact hL.same (KP.same (λ_=>rfl) rfl rfl rfl)
omit hs in
theorem ayW(h:vA x= .ok a):Lv a.1.s 8 []:=by
 unfold vA at h;obtain⟨_,_,h⟩:=aB h;obtain⟨_,_,h⟩:=aB h;cases h;exact hL.same (KP.same (λ_=>rfl) rfl rfl rfl)
omit hs in
theorem ayX(h:vC x= .ok a):Lv a.1.s 8 []:=by
 unfold vC at h;obtain⟨_,_,h⟩:=aB h
 try dsimp only at h
 obtain⟨_,_,h⟩:=aB h;cases h;exact hL
omit hs in
theorem ayY(h:ox x= .ok a):Lv a.1.s 8 []:=by
 unfold ox at h;obtain⟨_,_,h⟩:=aB h;have key:Lv (x.t (lv x.s.T x.c.r (min x.c.a 8) x.c.s (decide ((bH x.s.O x.s.T x.c.s).kind=3))).1).s 8 []:=by
  rw[S7];split
  ·exact hL.same (KP.same (Ut (.set ..)) rfl rfl rfl)
  ·exact hL
 try dsimp only at h
 split at h
 ·obtain⟨_,_,h⟩:=aB h
  try dsimp only at h
  obtain⟨_,_,h⟩:=aB h;cases h;exact key
 ·try dsimp only at h
  obtain⟨_,_,h⟩:=aB h;cases h;exact key
omit hs in
theorem ayZ(h:pQ x= .ok a):Lv a.1.s 8 []:=by
 unfold pQ at h;obtain⟨_,_,h⟩:=aB h;cases h;have hm: ∀i,x.s.alive i=true->ai x.s.alive x.c.a true i=true:=λi c=>by
  by_cases e:i=x.c.a
  ·rw[e,bI]
  ·rw[bA e];exact c
 refine⟨λz y e=>(hL.own z y e).mono λi _=>hm i,hL.rH,λi c b=>hL.dead i c ?_⟩;have b:ai x.s.alive x.c.a true i=false:=b;cases q:x.s.alive i with
 |false=>rfl
 |true=>rw[hm i q]at b;cases b
theorem ay0(f:x.c.r<4294967296)(h:xb x= .ok a):Lv a.1.s 8 []:=by
 obtain⟨_,_,h⟩:=aB h;obtain⟨y,e,h⟩:=aB h;cases h;obtain⟨y,d,c,_,b,K,_⟩:=alc hs f e;exact ald hL d c b K
theorem ay1(h:vz x= .ok a):Lv a.1.s 8 []:=by
 obtain⟨_,b,h⟩:=aB h;have b:=uf b;simp only[aeW,ae1]at b;obtain⟨_,_,h⟩:=aB h;obtain⟨_,he,h⟩:=aB h;cases h;obtain⟨y,c,e,f,d,_,K⟩:=Ux hs (mm he);refine hL.put K ?_ λz q=>?_
 ·rw[c];rfl
 ·injection q with q;rw[<-q];exact(hL.own _ y c).more e b.1 b.2 d
include ht lW
theorem ay2(g:x.c.r<4294967296)(h:pN x= .ok a):Lv a.1.s 8 []:=by
 unfold pN at h;have c:aV (x.t (eZ x.s.T x.c.r (min x.c.a 65)).1).s:=hs.s6 (hs.dY.new _ _ g);by_cases d:x.c.r=0
 ·simp only[d,ne_eq,not_true,ags,ae4]at h;obtain⟨_,he,h⟩:=aB h;obtain⟨y,e,h⟩:=aB h;cases h;rw[d]at c;have he:=mm he;refine hL.put ((KP.of (s':=(x.t (eZ x.s.T 0 (min x.c.a 65)).1).s) (b:=true) (λz=>(L1 hs.dY he).2 z) rfl rfl rfl).trans (Uu c e)) ?_ λz q=>?_
  ·unfold Kf;rw[(L1 hs.dY he).1];rfl
  ·injection q with q;rw[<-q];exact kS.L4 ht (.inl lW)
 ·simp only[d,ne_eq,axp,ags,ae4]at h;obtain⟨_,_,h⟩:=aB h;obtain⟨_,he,h⟩:=aB h;obtain⟨y,e,h⟩:=aB h;cases e;cases h;have he:=mm he;have f:=(L1 hs.dY he).2;rw[adb d]at f;refine hL.put (KP.of (s':=(x.t (eZ x.s.T x.c.r (min x.c.a 65)).1).s) (b:=false) f rfl rfl rfl) ?_ λz q=>by cases q
  unfold Kf;rw[(L1 hs.dY he).1]
theorem ay3(h:w8 x= .ok a):Lv a.1.s 8 []:=by
 obtain⟨_,hm,h⟩:=aB h;obtain⟨_,_,h⟩:=aB h;obtain⟨y,e,h⟩:=aB h;obtain⟨z,b,h⟩:=aB h;cases h;refine hL.put ((Uv e).trans (Uu (Co hs e).1 b)) ?_ λz q=>?_
 ·rw[F7 hs hm];rfl
 ·injection q with q;rw[<-q];exact kS.L4 ht (.inl lW)
theorem ay4(h:xa x= .ok a):Lv a.1.s 8 []:=by
 obtain⟨_,hm,h⟩:=aB h;obtain⟨y,e,h⟩:=aB h;obtain⟨_,he,h⟩:=aB h;cases h;refine hL.put ((Uv e).trans (F6 (mm he) (Co hs e).1.tr)) ?_ λz q=>?_
 ·rw[F7 hs hm];rfl
 ·injection q with q
  rw[<-q];refine .inr (.inr ⟨rfl,?_,λi b=>?_⟩)
  ·unfold eU
   grind
  ·unfold eU at b
   grind
theorem ay5(h:nw x= .ok a):Lv a.1.s 8 []:=by
 unfold nw at h
 try dsimp only at h
 obtain⟨_,he,h⟩:=aB h;obtain⟨t1,t2⟩:=ayK (hs.bx x.aa) (mm he);have b:aV (x.bx x.aa (iE (x.s.bw x.aa)).1).s:=hs.vO (hs.bx x.aa).take.1;have d:Lv (x.bx x.aa (iE (x.s.bw x.aa)).1).s 8 [(iE (x.s.bw x.aa)).2.1]:=hL.box ht (λh f=>by
  rw[t1,zW,zW];omega) λg=>by grind
 split at h
 ·rename_i c;obtain⟨y,e,h⟩:=aB h;cases h;exact d.pop c.1 c.2 (Uu b e) rfl λz q=>by injection q with q;rw[<-q];exact kS.L4 ht (.inl lW)
 ·obtain⟨y,e,h⟩:=aB h;cases e;cases h;refine d.skip ?_
  grind
omit ht lW in
theorem ay6(h:mS x= .ok a):Lv a.1.s 8 []:=by
 unfold mS at h;obtain⟨_,c,h⟩:=aB h;have c:=uf c;simp only[aeW,ae1]at c;obtain⟨_,_,h⟩:=aB h
 try dsimp only at h
 have fin: ∀ (y:az) (d:Bool),aV y.s->Lv y.s 8 []->y.s.alive=x.s.alive->(x.c.r=0\/d=true)->(ca (iD (y.s.bw x.c.a) ⟨x.aa % 256,x.c.v,x.c.r,d⟩).2>>=λ_=>(Pure.pure (y.bx x.c.a (iD (y.s.bw x.c.a) ⟨x.aa % 256,x.c.v,x.c.r,d⟩).1,bu):R (az×bE)))= .ok a->Lv a.1.s 8 []:=by
  intro y d r L v u h;obtain⟨_,he,h⟩:=aB h;cases h;refine L.box c.1 (λh s=>?_) λm=>by rw[v,c.2]at m;cases m
  have i: ¬(x.c.r=h/\d=false):=λ ⟨n,k⟩=>by
   rcases u with q|q
   ·exact s (n.symm.trans q)
   ·rw[q]at k;cases k
  rw[alb (r.bx _) (mm he),ala,zW,ac0 i];rfl
 split at h
 ·rename_i b;simp only[aeW,ae1]at b;obtain⟨_,_,h⟩:=aB h
  try dsimp only at h
  obtain⟨y,e,h⟩:=aB h;cases e;by_cases he: (vy x x.c.r x.c.a).2=0
  ·simp only[he,ae4]at h;obtain⟨y,f,p,w,o,_,K⟩:=Ux hs (show(db x.s.O x.s.T x.c.r x.c.a true).2.2=0 from he);refine fin (x.o (vy x x.c.r x.c.a).1) _ ?_ (hL.put K (by rw[f];rfl) λz q=>by injection q with q;rw[<-q];exact(hL.own _ y f).more p c.1 c.2 o) rfl (.inr (by simp[b])) h;have t:=(Cp hs f).1;exact hs.qd (hs.O.held (gl t))
  ·simp only[he,ags]at h;exact fin x _ hs hL rfl (.inr (by simp[b])) h
 ·rename_i b;split at h
  ·rename_i l;have g: (decide (x.c.r≠0)&&decide (x.c.b=1))=false:=by simpa using b
   obtain⟨_,hm,h⟩:=aB h;obtain⟨y,e,h⟩:=aB h
   try dsimp only at h
   obtain⟨_,ho,h⟩:=aB h;obtain⟨z,j,h⟩:=aB h;cases j;obtain⟨_,he,h⟩:=aB h;cases h;exact hL.send ((Uv e).trans (F6 (mm ho) (Co hs e).1.tr)) rfl (F7 hs hm) (hs.bx _) c.1 c.2 rfl g (mm he)
  ·rename_i l;obtain⟨z,j,h⟩:=aB h;cases j;exact fin _ _ hs hL rfl (.inl (af8 λq=>l q)) h
omit hs ht lW in
theorem ay7(ht:x.aa<8)(h:vB x= .ok a):Lv a.1.s 8 []:=by
 unfold vB at h
 try dsimp only at h
 obtain⟨_,_,h⟩:=aB h;cases h;obtain⟨d,c⟩:=ayL (x.s.bw x.aa);exact hL.box ht (λh _=>by rw[d]) λb=>by rw[c];exact hL.dead _ ht b
omit ht lW in
theorem ali{t:Nat}(c:t<8)(h: (lC x t>>=λy=>.ok (y,bu))= .ok a):Lv a.1.s 8 []:=by
 obtain⟨y,e,h⟩:=aB h;cases h;obtain⟨z,b,L,_⟩:=alh hs hL c;rw[e]at b;injection b with b
 rw[b];exact L
theorem ay8(d:gB x.c)(h:gp x= .ok a):Lv a.1.s 8 []:=by
 have c:=d.r;unfold gp at h;split at h
 all_goals try(first
  |exact ayQ hL h|exact ayR hL h|exact ayS hL h|exact ayT hs hL h|exact ayU hs hL h|exact ayV hL h|exact ayW hL h|exact ayX hL h|exact ayY hL h|exact ayZ hL h
  |exact ay0 hs hL c h|exact ay1 hs hL h|exact ay2 hs hL ht lW c h|exact ay3 hs hL ht lW h|exact ay4 hs hL ht lW h|exact ay5 hs hL ht lW h|exact ay6 hs hL h|exact ay7 hL ht h|exact ali hs hL ht h)
 ·unfold xc at h;obtain⟨_,b,h⟩:=aB h;have b:=uf b;simp only[aeW,ae1]at b;exact ali hs hL b.1 h
 ·cases h
end
def alj{s:aZ}(hs:aV s)(hL:Lv s 8 [])(d:gB c)(run:aC):Lv (bN s aa c run).1 8 []:=by
 rw[zK];cases h:fV ⟨s,aa,c,run,0,false,[]⟩with
 |error e=>omega
 |ok a=>
  obtain⟨y,r⟩:=a;obtain⟨_,b,h⟩:=aB (show(ask _ _>>=λ_=>gp _)=_ from h);have b:=uf b;simp only[aeW,ae1]at b;exact ay8 (x:=⟨s,aa,c,run,0,false,[]⟩) (a:=(y,r)) hs hL b.1 b.2 d h
def ay9{s:aZ}(hs:aV s)(hL:Lv s 8 []){t:Nat}(ht:t<8)(b:s.alive t=true)(run:aC): (bN s t {gP with op:=20} run).1.alive=ai s.alive t false:=by
 obtain⟨y,e,_,h⟩:=alh (x:=⟨s,t,{gP with op:=20},run,0,false,[]⟩) hs hL ht;rw[zK];have:fV ⟨s,t,{gP with op:=20},run,0,false,[]⟩= .ok (y,bu):=by
  unfold fV;rw[show(decide (t<8)&&s.alive t)=true by grind];show(lC ⟨s,t,{gP with op:=20},run,0,false,[]⟩ t>>=λy=>(.ok (y,bu):R (az×bE)))=_;rw[e];rfl
 grind
theorem alk: ∀ (l:List aC) (x:Core),(l.foldl bT x).S=x.S
 | [],_=>rfl
 |_::l,x=>alk l _
def aza{s:bK}(f:aV s.x.S)(b:Lv s.x.S 8 [])(d:gB s.c.c):Lv (nz s).x.S 8 []:=by
 unfold nz;obtain⟨s',a⟩: ∃s',s'=(if 0<s.c.run.2/\bR s.x.S s.c.aa s.c.c≠s.c.run.2 then{s with x:=bT s.x s.c.run,c:={s.c with run:=(0,0)}}else s):=⟨_,rfl⟩;have e:s'.x.S=s.x.S/\s'.c.c=s.c.c:=by rw[a];split<;>exact⟨rfl,rfl⟩
 dsimp only;rw[<-a];rw[<-e.1]at f b;rw[<-e.2]at d;split
 ·exact b
 ·show Lv (List.foldl bT _ _).S 8 [];rw[alk];exact alj f b d _
def azb(s:bK): (gz s).1.x.S=s.x.S/\ (gz s).1.c.c=s.c.c:=by
 unfold gz;split
 ·simp
 split
 ·simp
 split<;>exact⟨rfl,rfl⟩
def azc(s:bK): (gA s).1.x.S=s.x.S/\ (gA s).1.c.c=s.c.c:=by
 unfold gA
 grind
def azd(s:bK): (gq s).1.x.S=s.x.S/\ (gq s).1.c.c=s.c.c:=by
 unfold gq;dsimp only;split
 ·simp
 split<;>exact⟨rfl,rfl⟩
def aze(s:bK): (il s).1.x.S=s.x.S/\ (il s).1.c.c=s.c.c:=by
 unfold il
 grind
def azf{x:Core}{c:Call}(d:iV x)(f:fR c)(k:Lv x.S 8 []):Lv (ee x c).x.S 8 []:=by
 obtain⟨o,j⟩:=azb ⟨x,c,bu,false⟩;unfold ee;dsimp only;generalize gz ⟨x,c,bu,false⟩=s1 at*;split
 ·grind
 obtain⟨n,i⟩:=azc s1.1;generalize gA s1.1=s2 at*;split
 ·grind
 obtain⟨m,h⟩:=azd s2.1;generalize gq s2.1=a at*;split
 ·grind
 obtain⟨l,g⟩:=aze a.1;generalize il a.1=b at*;have e:b.1.x.S=x.S:=by grind
 split
 ·grind
 ·exact aza (by rw[e];exact d.S) (by grind) (by rw[g,h,i,j];exact f.gC)
structure uj(m:bg):Prop where
 s:Lv m.av.S 8 []
 b: ∀i,i<8->(m.aw i).busy=true->m.av.S.alive i=true
theorem F8(m:bg): ∀k,(fo m k).av.S=m.av.S
 |0=>rfl
 |k+1=>by
  rw[zV];unfold kN;split
  ·exact F8 m k
  ·exact F8 m k
theorem Uz(m:bg): ∀k,k<=8-> ∀i,i<k->((fo m k).aw i).busy=true->m.av.S.alive i=true
 |0,_,i,b,_=>by omega
 |k+1,d,i,b,a=>by
  rw[zV]at a;unfold kN at a;split at a
  ·have a: (ai (fo m k).aw k _ i).busy=true:=a;by_cases e:i=k
   ·rw[e,bI]at a;cases a
   ·rw[bA e]at a;exact Uz m k (by omega) i (by omega) a
  ·rename_i c;by_cases e:i=k
   ·subst e;cases q:m.av.S.alive i with
    |true=>rfl
    |false=>exact absurd ⟨a,by unfold vD;rw[F8,q,aph]⟩ c
   ·exact Uz m k (by omega) i (by omega) a
def UA(h:Lv m.av.S 8 []):uj (lF m):=by
 have e:lF m=fo m 8:=rfl;rw[e];refine⟨by rw[F8];exact h,λi a b=>?_⟩;rw[F8];exact Uz m 8 (adA 8) i a b
def alm(a:dt m)(b:Lv m.av.S 8 [])(t:Nat):Lv (pT m t).av.S 8 []:=by
 have h:=azf a.av (a.c t) b;unfold pT;dsimp only;split<;>exact h
def azg(a:dt m)(b:Lv m.av.S 8 []){t:Nat}(c:t<8):Lv (pU m t).av.S 8 []:=by
 unfold pU;dsimp only;split
 ·exact alm a b t
 split
 ·exact alm (m:=vV m t) (a.wanted c) b t
 omega
def aln:gB {gP with op:=20}:=⟨by decide,by decide,by decide,by decide,by decide,by decide⟩
def uj.pick(h:uj m)(c:ql m)(d:m.now<=4000)(b:Nat):uj (jY m b).1:=by
 have a:=c.ok.xJ (n:=m.now+1) (by omega);unfold jY;dsimp only;split
 ·exact h
 split
 ·split
  ·refine UA ?_;have: (gO m.av).1.S=m.av.S:=by unfold gO;grind
   rw[this];exact h.s
  omega
 split
 ·exact h
 split
 ·exact UA (alj c.ok.av.S h.s aln _)
 ·exact UA (azg a h.s (anr b (by decide)))
def azh(aF:List lB)(k:Nat):uj (fb n aF k):=by
 have a: ∀h,Kf fW h=none:=λh=>by unfold Kf;rw[LZ (show fW.T.aq h=false from Uf h)];rfl
 refine⟨⟨λh x e=>?_,λh _=>?_,λi _ _=>rfl⟩,λi _ q=>by cases q⟩
 ·rw[show Kf (fb n aF k).av.S h=none from a h]at e;cases e
 ·rw[show Kf (fb n aF k).av.S h=none from a h];rfl
structure zX(n:Nat)(m:bg)(k:Nat):Prop where
 p:fB n m
 i:ql m
 l:uj m
 now:m.now<=k
theorem zX.pick(h:zX n m k)(c:k<=4000)(b:Nat):zX n (jY m b).1 (k+1):=by
 have a:=aga h.now c;obtain⟨d,e⟩:=akw h.i a b;exact⟨h.p.pick h.i a b,d,h.l.pick h.i a b,by have:=h.now;omega⟩
def azi(h:1<=n/\n<=64)(aF:List lB)(k:Nat):zX n (fb n aF k) 0:=⟨ayC aF k,akF h aF k,azh aF k,adA 0⟩
structure DS(n:Nat)(m:bg)(k j:Nat):Prop where
 p:zX n m k
 d: ∀i,i<8->m.av.S.alive i=false
 q:m.av.Q.length=j
def m4(s:aZ)(e:Event):Option aZ:=
 if e.r.e=6/\0<bR s e.aa e.c then some s
 else if bR s e.aa e.c≠e.run.2\/ (if e.c.op=3 then{(bN s e.aa e.c e.run).2.1 with v:=e.r.v}else(bN s e.aa e.c e.run).2.1)≠e.r then none
 else some (bN s e.aa e.c e.run).1
def replay(l:List Event):Option aZ:=l.foldlM m4 fW
def alo(l:List Event)(e:Event){s:aZ}(h:replay l=some s):replay (l++[e])=m4 s e:=by
 unfold replay at*;simp_all
def L6{s:aZ}{e:Event}(h:bR s e.aa e.c=e.run.2)(a:e.r=if e.c.op=3 then{(bN s e.aa e.c e.run).2.1 with v:=e.r.v}else(bN s e.aa e.c e.run).2.1)(b:e.run.2=0\/e.r.e≠6):m4 s e=some (bN s e.aa e.c e.run).1:=by
 unfold m4
 grind
def azj{s:aZ}{e:Event}(h:0<bR s e.aa e.c)(a:e.r.e=6):m4 s e=some s:=ac6 ⟨a,h⟩
def UB{s:aZ}(h:0<bR s aa c):c.op=2/\ (s.alive aa=true/\aa<8)/\jX (min c.a 129) (min c.b 9)=some (bR s aa c)/\sP s.T s.O s.K aa c.r 1=0/\s.T.aq c.r=true/\gn (aE s.T c.r).1.runs (aE s.T c.r).1.len (min c.a 129) (min c.b 9)=none/\aS (aE s.T c.r).1.runs+bR s aa c<=(aE s.T c.r).1.cF:=by
 unfold bR at h⊢;split at h
 ·omega
 rename_i ho;have ho:c.op=2:=af8 λq=>ho q
 rw[ac0 (by omega)];cases b:fV ⟨s,aa,c,(0,0),0,true,[]⟩with
 |error e=>grind
 |ok a=>
  obtain⟨y,r⟩:=a;rw[b]at h;have h:0<y.jW:=h;obtain⟨_,f,b⟩:=aB (show(ask _ _>>=λ_=>gp _)=_ from b);have f:=uf f;simp only[aeW,ae1]at f;unfold gp at b;rw[show(az.c ⟨s,aa,c,(0,0),0,true,[]⟩).op=2 from ho]at b;have b:hO ⟨s,aa,c,(0,0),0,true,[]⟩= .ok (y,r):=b;unfold hO at b
  try dsimp only at b
  cases j:jX (min c.a 129) (min c.b 9)with
  |none=>rw[j]at b;cases b
  |some n=>
   rw[j]at b;obtain⟨_,e1,b⟩:=aB b;cases e1;obtain⟨_,hm,b⟩:=aB b;obtain⟨_,i,b⟩:=aB b;have i:=mm i;have d:s.T.aq c.r=true:=by
    unfold aE at i
    grind
   split at b
   ·obtain⟨z,l,b⟩:=aB b;cases b;have m:y.jW=0:=Lz l;omega
   ·rename_i k;obtain⟨_,g,b⟩:=aB b;have g:=uf g;simp only[ae1]at g;cases b;exact⟨ho,⟨f.2,f.1⟩,rfl,mm (show ca _=_ from hm),d,k,g⟩
def azk{s:aZ}(v:aV s)(h:0<bR s aa c){run:aC}(w:run.2=bR s aa c)(F:run.1+run.2<=64)(H: ∀k,cT k s.T+bX k run<=1): (bN s aa c run).2.1.e=0/\ (bN s aa c run).2.2=[]:=by
 obtain⟨ho,⟨D,E⟩,B,hm,p,C,A⟩:=UB h;have f:=v.T.get c.r;have i: (aE s.T c.r).2=0:=by unfold aE;grind
 have m: ∀k,cR k (aE s.T c.r).1.runs<=cT k s.T:=λk=>by
  have:=akS (k:=k) p;omega
 have g: (kI [] ((aE s.T c.r).1.runs++[run])).isSome=true:=axX _ _ ⟨.nil,λx e=>by grind⟩ (λk=>by
  rw[nP,kR,ui]
  grind) λx e=>by
   rcases adB.1 e with e|e
   ·exact f.runs x e
   grind
 have d: ∀n,n<=aS ((aE s.T c.r).1.runs++[run])*32->ma ((aE s.T c.r).1.runs++[run]) n=true:=λn h=>by unfold ma;rw[g,ady h];rfl
 have o:=Tg (aE s.T c.r).1.runs run;obtain⟨y,l⟩: ∃y,hO ⟨s,aa,c,run,0,false,[]⟩= .ok y/\y.1.back=[]:=by
  unfold hO fU mb;dsimp only;rw[B,hm,i,C];have b: ∀n,n<=aS ((aE s.T c.r).1.runs++[run])*32->(ed s.T c.r {(aE s.T c.r).1 with runs:=(aE s.T c.r).1.runs++[run],len:=n}).2=0:=λn h=>by
   unfold ed;rw[ac0 (by rw[p];decide),ac0];rintro(q|q)
   ·have:=f.cF;have q:64< (aE s.T c.r).1.cF:=q;omega
   ·rw[show ma _ _=_ from d n h]at q;cases q
  have u:decide (aS (aE s.T c.r).1.runs+bR s aa c<=(aE s.T c.r).1.cF)=true:=ady A;have t: (decide (run.2=bR s aa c)&&ma ((aE s.T c.r).1.runs++[run]) (aS (aE s.T c.r).1.runs*32))=true:=by
   rw[ady w,d _ (by rw[o];exact ajv 32 (by omega))];rfl
  have G:aS (aE s.T c.r).1.runs*32<=aS ((aE s.T c.r).1.runs++[run])*32:=by rw[o];exact ajv 32 (by omega)
  cases e:gn ((aE s.T c.r).1.runs++[run]) (aS (aE s.T c.r).1.runs*32) (min c.a 129) (min c.b 9)with
  |none=>
   have j:=b _ G;simp only[ask,ca,u,t,j,ae4,aeJ,ags,bind,Except.bind,pure,Except.pure];refine⟨_,rfl,?_⟩;rfl
  |some k=>
   have j:=b _ (zG e);simp only[ask,ca,u,t,j,ae4,aeJ,ags,bind,Except.bind,pure,Except.pure];refine⟨_,rfl,?_⟩;rfl
 have a:fV ⟨s,aa,c,run,0,false,[]⟩= .ok y:=by
  unfold fV;rw[show(decide (aa<8)&&s.alive aa)=true by rw[D,ady E];rfl];show gp _=_;unfold gp;rw[show(az.c ⟨s,aa,c,run,0,false,[]⟩).op=2 from ho];exact l.1
 obtain⟨z,r⟩:=y;rw[zK,a];exact⟨Ca a,l.2⟩
def alp{s:aZ}{run:aC}(h: (bN s aa c run).2.1.e≠0): (bN s aa c run).1=s/\ (bN s aa c run).2.1={bu with e:=(bN s aa c run).2.1.e}:=by
 rw[zK]at h⊢;cases b:fV ⟨s,aa,c,run,0,false,[]⟩with
 |error e=>simp
 |ok a=>
  rw[b]at h;exact absurd (Ca b) h
def oM(c:Call):Prop:=c.run=(0,0)\/ (c.c.op=2/\0<c.run.2/\jX (min c.c.a 129) (min c.c.b 9)=some c.run.2/\c.run.1+c.run.2<=64)
def azl(x:Core)(c:Call):ee x c=(gz ⟨x,c,bu,false⟩).1\/ee x c=(gA ⟨x,c,bu,false⟩).1\/ee x c=(gq ⟨x,c,bu,false⟩).1\/ee x c=(il ⟨x,c,bu,false⟩).1\/ (ee x c=nz ⟨x,c,bu,false⟩/\ (gq ⟨x,c,bu,false⟩).2=false):=by
 have e: ∀s,(gz s).2=false->(gz s).1=s:=λs=>by
  unfold gz;grind
 have d: ∀s,(gA s).2=false->(gA s).1=s:=λs=>by
  unfold gA;grind
 have b: ∀s,(gq s).2=false->(gq s).1=s:=λs=>by
  unfold gq;grind
 have a: ∀s,(il s).2=false->(il s).1=s:=λs=>by
  unfold il;grind
 unfold ee
 grind
theorem UC(a b:Nat):handed (0,0) a b=(0,0):=by rfl
theorem alq: ∀ (l:List aC) (x:Core),(l.foldl bT x).S=x.S
 | [],_=>rfl
 |_::l,x=>alq l _
theorem alr: ∀ (l:List aC) (x:Core),x.Q.length<=(l.foldl bT x).Q.length
 | [],_=>adA _
 |r::l,x=>aga (by show x.Q.length<=(x.Q++gy r).length;grind) (alr l (bT x r))
structure als(x:Core)(c:Call)(s:bK):Prop where
 cc:s.c.c=c.c
 ct:s.c.aa=c.aa
 run:s.ended=false->oM s.c
 stay:s.ended=false->s.x.S=x.S
 ev:s.ended=true-> ∀e:Event,e.aa=c.aa->e.c=c.c->e.r=s.r->e.run=handed (if s.r.e≠0\/s.c.c.op≠2 then(0,0)else c.run) x.Q.length s.x.Q.length->m4 x.S e=some s.x.S
def alu{s:aZ}{r:bE}{run:aC}(f:r.e≠0)(m:bR s aa c=0)(h: (bN s aa c (0,0)).2.1=r){e:Event}(l:e.aa=aa)(k:e.c=c)(j:e.r=r){d b:Nat}(g:e.run=handed (if r.e≠0\/d≠2 then(0,0)else run) a b):m4 s e=some s:=by
 rw[ac6 (.inl f),UC]at g;have he:=alp (s:=s) (aa:=aa) (c:=c) (run:=(0,0)) (by grind);have i:=L6 (s:=s) (e:=e) (by grind) (by grind) (by grind)
 grind
def alv{y:Core}{d:Call}(h:d.run=(0,0)): (me y d).Q.length=y.Q.length:=by
 show(y.Q++gy d.run).length=_;rw[h];simp[gy]
def azm{s:bK}(F:iV s.x)(n:oM s.c)(G: ∀k,cT k s.x.S.T+bX k s.c.run<=1)(K:bR s.x.S s.c.aa s.c.c=0\/0<s.c.run.2):als s.x s.c (nz s):=by
 unfold nz;obtain⟨s',b⟩: ∃s',s'=(if 0<s.c.run.2/\bR s.x.S s.c.aa s.c.c≠s.c.run.2 then{s with x:=bT s.x s.c.run,c:={s.c with run:=(0,0)}}else s):=⟨_,rfl⟩;dsimp only;rw[<-b];obtain⟨P,A⟩: ∃P,P=(if s'.c.c.op=4 then(List.range (gN s'.x.S s'.c.c).1.length).foldl (λP i=>lE P ((gN s'.x.S s'.c.c).1.getD i 0) (byteOf s'.c.c.v i)) s'.x.P else s'.x.P):=⟨_,rfl⟩;rw[<-A];obtain⟨v,j⟩: ∃v,v=(if s'.c.c.op=3 then(List.range (gN s'.x.S s'.c.c).1.length).foldl (λv i=>v|||rA s'.x.P ((gN s'.x.S s'.c.c).1.getD i 0)*2^(8*i)) (bN s'.x.S s'.c.aa s'.c.c s'.c.run).2.1.v else(bN s'.x.S s'.c.aa s'.c.c s'.c.run).2.1.v):=⟨_,rfl⟩;rw[<-j];have j:s'.c.c.op≠3->v=(bN s'.x.S s'.c.aa s'.c.c s'.c.run).2.1.v:=λq=>by grind
 clear A;by_cases h:0<bR s.x.S s.c.aa s.c.c
 ·have z:0<s.c.run.2:=by omega
  obtain⟨J,_,E,_⟩:=UB h;obtain⟨ho,_,he,y⟩:s.c.c.op=2/\0<s.c.run.2/\jX (min s.c.c.a 129) (min s.c.c.b 9)=some s.c.run.2/\s.c.run.1+s.c.run.2<=64:=by
   rcases n with q|q
   ·rw[q]at z;cases z
   ·exact q
  have m:s.c.run.2=bR s.x.S s.c.aa s.c.c:=by rw[E]at he;injection he with he;exact he.symm
  obtain⟨g1,g2⟩:=azk F.S h m y G;rw[ac0 (by omega)]at b;subst b;rw[ac0 (by rw[g1];decide),g2];refine⟨rfl,rfl,λq=>(by cases q),λq=>(by cases q),λ_ e g f d p=>?_⟩;have o:e.run=handed (if(bN s'.x.S s'.c.aa s'.c.c s'.c.run).2.1.e≠0\/s'.c.c.op≠2 then(0,0)else s'.c.run) s'.x.Q.length (me {s'.x with S:=(bN s'.x.S s'.c.aa s'.c.c s'.c.run).1,P:=P} {s'.c with run:=(0,0)}).Q.length:=p;have a:e.run=s'.c.run:=by
   rw[o,alv rfl,ac0 (by rw[g1,ho];simp)];unfold handed;exact ac0 λq=>by have q:=q.1;dsimp only at q;omega
  have d:e.r={(bN s'.x.S s'.c.aa s'.c.c s'.c.run).2.1 with v:=v}:=d;have w:=L6 (s:=s'.x.S) (e:=e) (by rw[g,f,a,m]) (by
   rw[g,f,a,d,j (by rw[ho];decide),ho];rfl) (.inr (by rw[d];show(bN s'.x.S s'.c.aa s'.c.c s'.c.run).2.1.e≠6;rw[g1];decide))
  rw[w,g,f,a];rfl
 ·have B:bR s.x.S s.c.aa s.c.c=0:=by omega
  obtain⟨e1,C,e3,I,H⟩:s'.x.S=s.x.S/\s'.c.c=s.c.c/\s'.c.aa=s.c.aa/\s'.c.run=(0,0)/\ (s.c.run=(0,0)\/ (0<s.c.run.2/\s.x.Q.length+s.c.run.2<=s'.x.Q.length)):=by
   rw[b];split
   ·rename_i q;refine⟨rfl,rfl,rfl,rfl,.inr ⟨q.1,?_⟩⟩;show _<=(s.x.Q++gy s.c.run).length;rw[aeG];simp[gy]
   ·rename_i q;have l:s.c.run=(0,0):=by
     rcases n with r|r
     ·exact r
     ·omega
    exact⟨rfl,rfl,rfl,l,.inl l⟩
  clear b;rw[e1,C,e3,I]at j⊢;split
  ·rename_i u;refine⟨C,e3,λq=>(by cases q),λq=>(by cases q),λ_ e g f d p=>?_⟩;show m4 s.x.S e=some s'.x.S;rw[e1];exact alu u B rfl g f d p
  ·refine⟨rfl,rfl,λq=>(by cases q),λq=>(by cases q),λ_ e g f d p=>?_⟩;have a:e.run=(0,0):=by
    rw[p];split
    ·exact UC _ _
    ·rcases H with q| ⟨D,r⟩
     ·rw[q];exact UC _ _
     ·have o:=alr (bN s.x.S s.c.aa s.c.c (0,0)).2.2 {s'.x with S:=(bN s.x.S s.c.aa s.c.c (0,0)).1,P:=P};have o:s'.x.Q.length<=_:=o;unfold handed;refine ac6 ⟨?_,D⟩;show s.c.run.2<=(me _ _).Q.length-s.x.Q.length;rw[alv rfl];exact Nat.le_sub_of_add_le (by rw[Nat.add_comm];exact aga r o)
   have d:e.r={(bN s.x.S s.c.aa s.c.c (0,0)).2.1 with v:=v}:=d;have w:=L6 (s:=s.x.S) (e:=e) (by rw[g,f,a,B]) (by
    rw[g,f,a,d];split
    ·rfl
    ·rename_i t;rw[j t]) (by rw[a];exact .inl rfl)
   rw[w,g,f,a];show _=some (List.foldl bT _ _).S;rw[alq]
def azn{x:Core}{c:Call}(m:iV x)(a:oM c)(v: ∀k,cT k x.S.T+bX k c.run<=1):als x c (ee x c):=by
 rcases azl x c with h|h|h|h| ⟨h,f⟩<;>rw[h]
 ·unfold gz;split
  ·exact⟨rfl,rfl,λ_=>a,λ_=>rfl,λq=>by cases q⟩
  split
  ·exact⟨rfl,rfl,λ_=>a,λ_=>rfl,λq=>by cases q⟩
  split
  ·rename_i b;refine⟨rfl,rfl,λq=>(by cases q),λq=>(by rfl),λ_ e l j i p=>?_⟩;unfold lD at b;split at b
   ·omega
   ·rename_i g;have he:=alp b;have n:lD x.S c.aa c.c=(bN x.S c.aa c.c (0,0)).2.1.e:=by unfold lD;rw[ac0 g]
    refine alu (r:={bu with e:=lD x.S c.aa c.c}) (by rw[n];exact b) (by dsimp only at g;omega) ?_ l j i p;rw[n];exact he.2
  ·exact⟨rfl,rfl,λ_=>a,λ_=>rfl,λq=>by cases q⟩
 ·unfold gA;split
  ·exact⟨rfl,rfl,λ_=>a,λ_=>rfl,λq=>by cases q⟩
  ·dsimp only;refine⟨?_,?_,λ_=>?_,λ_=>rfl,λq=>by cases q⟩
   ·split<;>rfl
   ·split<;>rfl
   ·split<;>exact a
 ·unfold gq;dsimp only;split
  ·exact⟨rfl,rfl,λ_=>a,λ_=>rfl,λq=>by cases q⟩
  rename_i g;have d:0<bR x.S c.aa c.c:=by omega
  have o:=akO m.P (bR x.S c.aa c.c);split
  ·rename_i b;refine⟨rfl,rfl,λq=>(by cases q),λq=>(by cases q),λ_ e l j i p=>?_⟩;refine azj (by rw[l,j];exact d) ?_;rw[i];show(fI x.P (bR x.S c.aa c.c)).2.2=6;rcases o with⟨q,_⟩| ⟨_,q| ⟨q,_⟩⟩
   ·exact absurd q b
   ·exact q
   ·omega
  ·rename_i b;refine⟨rfl,rfl,λ_=>?_,λ_=>rfl,λq=>by cases q⟩;obtain⟨u,_,t,_⟩:=UB d;rcases o with⟨_,_,_,q,_⟩| ⟨_,q⟩
   ·exact .inr ⟨u,d,t,q⟩
   ·exact absurd (by omega: (fI x.P (bR x.S c.aa c.c)).2.2≠0) (by simpa using b)
 ·unfold il;split
  ·exact⟨rfl,rfl,λ_=>a,λ_=>rfl,λq=>by cases q⟩
  ·exact⟨rfl,rfl,λ_=>a,λ_=>rfl,λq=>by cases q⟩
 ·have f:bR x.S c.aa c.c=0\/0<c.run.2:=by
    unfold gq at f;dsimp only at f;split at f
    ·assumption
    ·split at f<;>cases f
  exact azm (s:=⟨x,c,bu,false⟩) m a v f
structure UD(e:Event):Prop where
 gC:gB e.c
 aa:e.aa<4294967296
 run:e.run.1<=64/\e.run.2<=64
structure ib(m:bg):Prop where
 rep:replay m.bz=some m.av.S
 run: ∀i,oM (m.aw i).c
 ct: ∀i,(m.aw i).busy=true->(m.aw i).c.aa=i
 now: ∀e∈m.bz,e.fr<=e.to/\e.to<=m.now
 fr: ∀i,i<8->(m.aw i).busy=true->m.av.S.alive i=true->(m.aw i).fr<=m.now/\ ∀e∈m.bz,e.aa=i->e.to< (m.aw i).fr
 ord:m.bz.Pairwise λa b=>a.to<b.to
 own:m.bz.Pairwise λa b=>a.aa=b.aa->b.c.op=20\/a.to<b.fr
 ok: ∀e∈m.bz,UD e
theorem oM.c0:oM iR:=.inl rfl
def L7{α:Type}{R:α->α->Prop}{l:List α}{a:α}(h:l.Pairwise R)(c: ∀b∈l,R b a): (l++[a]).Pairwise R:=by grind
def F9{α:Type}{P:α->Prop}{l:List α}{a:α}(h: ∀b∈l,P b)(c:P a): ∀b∈l++[a],P b:=by grind
def azo(k:Nat)(f:Nat->Runner){t:Nat}(a:t<8):bX k (f t).c.run<=cL k f:=by
 have:=ak5 (k:=k) (f:=f) (r:=xg) a;have b:bX k xg.c.run=0:=rP k 0;omega
section
variable{m:bg}(h:ib m)
include h
theorem ib.calls(z:fB n m)(r:uj m)(p:dt m)(A: ∀e∈m.bz,e.to<m.now){t:Nat}(o:t<8)(l: (m.aw t).busy=true):ib (pT m t):=by
 have B: ∀k,cT k m.av.S.T+bX k (m.aw t).c.run<=1:=λk=>by
  have D:=z.pc k;have E:=azo k m.aw o;unfold cM cW at D
  grind
 have d:=azn p.av (h.run t) B;have v:=r.b t o l;obtain⟨g,f⟩:=h.fr t o l v;unfold pT;dsimp only;generalize ee m.av (m.aw t).c=s at*;split
 ·rename_i he;unfold Fc;dsimp only;simp only[bI];have u:=d.ev he ⟨t,s.c.c,handed (if s.r.e≠0\/s.c.c.op≠2 then(0,0)else(m.aw t).c.run) m.av.Q.length s.x.Q.length,s.r,(m.aw t).fr,m.now⟩ (h.ct t l).symm d.cc rfl rfl;refine⟨(alo _ _ h.rep).trans u,λi=>?_,λi a=>?_,F9 h.now ⟨g,adA _⟩,λi j a _=>?_,L7 h.ord A,L7 h.own λb w q=>.inr (f b w q),F9 h.ok ⟨by rw[d.cc];exact(p.c t).gC,by grind,?_⟩⟩
  rotate_right
  ·have C:=p.run t;unfold handed
   grind
  ·show oM (ai (ai m.aw t _) t _ i).c;by_cases e:i=t
   ·rw[e,bI];exact oM.c0
   ·rw[bA e,bA e];exact h.run i
  ·have a: (ai (ai m.aw t _) t _ i).busy=true:=a;have e:i≠t:=λe=>by rw[e,bI]at a;cases a
   rw[bA e,bA e]at a;show(ai (ai m.aw t _) t _ i).c.aa=i;rw[bA e,bA e];exact h.ct i a
  ·have a: (ai (ai m.aw t _) t _ i).busy=true:=a;have e:i≠t:=λe=>by rw[e,bI]at a;cases a
   rw[bA e,bA e]at a;show(ai (ai m.aw t _) t _ i).fr<=m.now/\ ∀e∈(_:List Event),Event.aa e=i->Event.to e< (ai (ai m.aw t _) t _ i).fr;rw[bA e,bA e];obtain⟨y,x⟩:=h.fr i j a (r.b i j a);exact⟨y,F9 x λq=>absurd q.symm e⟩
 ·rename_i he;have he:s.ended=false:=by simpa using he
  refine⟨by rw[show({m with av:=s.x,aw:=ai m.aw t {m.aw t with c:=s.c}}:bg).av.S=m.av.S from d.stay he];exact h.rep,λi=>?_,λi a=>?_,h.now,λi j a _=>?_,h.ord,h.own,h.ok⟩
  ·show oM (ai m.aw t _ i).c;by_cases e:i=t
   ·rw[e,bI];exact d.run he
   ·rw[bA e];exact h.run i
  ·have a: (ai m.aw t _ i).busy=true:=a;show(ai m.aw t _ i).c.aa=i;by_cases e:i=t
   ·rw[e,bI];exact d.ct.trans (h.ct t l)
   ·rw[bA e]at a⊢;exact h.ct i a
  ·have a: (ai m.aw t _ i).busy=true:=a;show(ai m.aw t _ i).fr<=m.now/\ ∀e∈m.bz,e.aa=i->e.to< (ai m.aw t _ i).fr;by_cases e:i=t
   ·rw[e,bI];exact⟨g,f⟩
   ·rw[bA e]at a⊢;exact h.fr i j a (r.b i j a)
theorem ib.azp(b:Nat)(a:m.now<=b):ib {m with now:=b}:=⟨h.rep,h.run,h.ct,λe he=>⟨(h.now e he).1,aga (h.now e he).2 a⟩,λi f c d=>⟨aga (h.fr i f c d).1 a,(h.fr i f c d).2⟩,h.ord,h.own,h.ok⟩
theorem ib.FY(i:Nat):ib (kN m i):=by
 unfold kN;split
 ·refine⟨h.rep,λj=>?_,λj a=>?_,h.now,λj c a b=>?_,h.ord,h.own,h.ok⟩
  ·show oM (ai m.aw i _ j).c;by_cases e:j=i
   ·rw[e,bI];exact oM.c0
   ·rw[bA e];exact h.run j
  ·have a: (ai m.aw i _ j).busy=true:=a;have e:j≠i:=λe=>by rw[e,bI]at a;cases a
   rw[bA e]at a;show(ai m.aw i _ j).c.aa=j;rw[bA e];exact h.ct j a
  ·have a: (ai m.aw i _ j).busy=true:=a;have e:j≠i:=λe=>by rw[e,bI]at a;cases a
   rw[bA e]at a;show(ai m.aw i _ j).fr<=m.now/\ ∀e∈m.bz,e.aa=j->e.to< (ai m.aw i _ j).fr;rw[bA e];exact h.fr j c a b
 omega
omit h in
theorem ib.fo(h:ib m): ∀k,ib (Go.Proofs.YteplichagkpciaaGreatDoor.fo m k)
 |0=>h
 |k+1=>by rw[zV];exact(ib.fo h k).FY k
theorem ib.clear:ib (lF m):=h.fo 8
theorem ib.steps(g:fB n m)(l:uj m)(p:dt m)(i: ∀e∈m.bz,e.to<m.now){t:Nat}(d:t<8)(r:m.av.S.alive t=true):ib (pU m t):=by
 unfold pU;dsimp only;split
 ·rename_i f;exact h.calls g l p i d f
 rename_i f;have f: (m.aw t).busy=false:=by grind
 split
 ·have hw:fB n (vV m t):=g.put d rfl (λk=>by
    rw[LX (g.idle t f)];show cW k m.av+bX k (0,0)=_;rw[rP]) (λq=>by rfl) rfl
  have o: ((vV m t).aw t).busy=true:=by show(ai m.aw t _ t).busy=true;rw[bI]
  refine ib.calls (m:=vV m t) ⟨h.rep,λj=>?_,λj a=>?_,h.now,λj c a b=>?_,h.ord,h.own,h.ok⟩ hw ⟨l.s,λj c a=>?_⟩ (p.wanted d) i d o
  ·show oM (ai m.aw t _ j).c;by_cases e:j=t
   ·rw[e,bI];exact .inl rfl
   ·rw[bA e];exact h.run j
  ·have a: (ai m.aw t _ j).busy=true:=a;show(ai m.aw t _ j).c.aa=j;by_cases e:j=t
   ·rw[e,bI]
   ·rw[bA e]at a⊢;exact h.ct j a
  ·have a: (ai m.aw t _ j).busy=true:=a;show(ai m.aw t _ j).fr<=m.now/\ ∀e∈m.bz,e.aa=j->e.to< (ai m.aw t _ j).fr;by_cases e:j=t
   ·rw[e,bI];exact⟨adA _,λe he _=>i e he⟩
   ·rw[bA e]at a⊢;exact h.fr j c a b
  ·have a: (ai m.aw t _ j).busy=true:=a;show m.av.S.alive j=true;by_cases e:j=t
   ·rw[e];exact r
   ·rw[bA e]at a;exact l.b j c a
 ·have key: ∀j,(ai m.aw t {m.aw t with t:=nA (m.aw t).t} j).c=(m.aw j).c/\ (ai m.aw t {m.aw t with t:=nA (m.aw t).t} j).busy=(m.aw j).busy/\ (ai m.aw t {m.aw t with t:=nA (m.aw t).t} j).fr=(m.aw j).fr:=λj=>by
    by_cases e:j=t
    ·rw[e,bI];exact⟨rfl,rfl,rfl⟩
    ·rw[bA e];exact⟨rfl,rfl,rfl⟩
  refine⟨h.rep,λj=>?_,λj a=>?_,h.now,λj c a b=>?_,h.ord,h.own,h.ok⟩
  ·show oM (ai m.aw t _ j).c;rw[(key j).1];exact h.run j
  ·have a: (ai m.aw t _ j).busy=true:=a;rw[(key j).2.1]at a;show(ai m.aw t _ j).c.aa=j;rw[(key j).1];exact h.ct j a
  ·have a: (ai m.aw t _ j).busy=true:=a;rw[(key j).2.1]at a;show(ai m.aw t _ j).fr<=m.now/\ ∀e∈m.bz,e.aa=j->e.to< (ai m.aw t _ j).fr;rw[(key j).2.2];exact h.fr j c a b
theorem ib.Ur(k:uj m)(i:dt m)(g: ∀e∈m.bz,e.to<m.now){t:Nat}(f:t<8)(n:m.av.S.alive t=true):ib (vE m t):=by
 have d:=ay9 i.av.S k.s f n (0,0);have p:bR m.av.S t {gP with op:=20}=0:=ac6 (by decide);unfold vE;have c:=L6 (s:=m.av.S) (e:=⟨t,{gP with op:=20},(0,0),(bN m.av.S t {gP with op:=20} (0,0)).2.1,m.now,m.now⟩) p rfl (.inl rfl);refine⟨(alo _ _ h.rep).trans c,h.run,h.ct,F9 h.now ⟨adA _,adA _⟩,λj o l a=>?_,L7 h.ord g,L7 h.own λb _ _=>.inl rfl,F9 h.ok ⟨aln,by grind,by simp,by simp⟩⟩;rw[d]at a;have e:j≠t:=λe=>by rw[e,bI]at a;cases a
 rw[bA e]at a;obtain⟨r,q⟩:=h.fr j o l a
 grind
end
def ib.pick(h:ib m)(f:zX n m k)(s:k<=4000)(b:Nat):ib (jY m b).1:=by
 have r:=f.now;have c:=f.i.ok.xJ (n:=m.now+1) (by omega);have a:=h.azp (m.now+1) (by omega);have g: ∀e∈m.bz,e.to<m.now+1:=λe he=>by have:=(h.now e he).2;omega
 have l: ∀t,vD m t=true->m.av.S.alive t=true:=λt q=>by unfold vD at q;grind
 unfold jY;dsimp only;split
 ·exact h
 split
 ·split
  ·refine ib.clear ?_;have: (gO m.av).1.S=m.av.S:=by unfold gO;grind
   exact⟨by rw[show({m with av:=(gO m.av).1,now:=m.now+1}:bg).av.S=m.av.S from this];exact h.rep,a.run,a.ct,a.now,λi j p d=>a.fr i j p (by rw[<-this];exact d),a.ord,a.own,a.ok⟩
  omega
 split
 ·exact h
 rename_i d;have d:m.av.S.alive (b % 8)=true:=l _ (by simpa using d);have j:b % 8<8:=anr b (by decide);have o:uj {m with now:=m.now+1}:=⟨f.l.s,f.l.b⟩;split
 ·exact(a.Ur o c g j d).clear
 ·exact(a.steps (f.p.now _) o c g j d).clear
def azq(n:Nat)(aF:List lB)(k:Nat):ib (fb n aF k):=⟨rfl,λi=>.inl rfl,λi q=>(by cases q),λe he=>(by cases he),λi _ q=>(by cases q),.nil,.nil,λe he=>(by cases he)⟩
theorem alw{n:Nat}(h:1<=n/\n<=64)(aF:List lB){a:lB}(c:a.length<=4000): ∀k,k<=a.length->ib (runK n aF a k).1/\zX n (runK n aF a k).1 k
 |0,_=>⟨azq ..,azi h ..⟩
 |k+1,e=>by
  obtain⟨d,b⟩:=alw h aF c k (by omega);rw[LN (by omega)];exact⟨d.pick b (by omega) _,b.pick (by omega) _⟩
instance:Inhabited Event:=⟨⟨0,gP,(0,0),bu,0,0⟩⟩
def azr{l:List Event}{H:List ae}(h:Rd ⟨H,none⟩ v 14 (l.map bo))(e:l.length*96<=room)(lo:oN):
  ∃v',D X0 (.fn (.func 51) [] []) [v] ⟨H,lo⟩=some (.ret v' ⟨H,lo⟩)/\Rv v' 14 (l.map bo):=by
 have d:=h.eq;have a:eI EK.sl AV.au AV.au=some true:=rfl;have e3:b9 ([]:List lA)=0:=rfl;rcases akJ h with⟨rfl,he⟩|he
 ·refine⟨.au,?_,by rw[he];exact .au⟩;refine aK y3 λN b=>?_
  simp(disch:=omega) only[F1,go_sem,simprocAttr,y3,a]
 ·by_cases c:l=[]
  ·subst c;refine⟨.sl [] true,?_,.sl (λel h=>by cases h)⟩;refine aK y3 λN b=>?_
   have e1:dO ⟨H,none⟩ m8 14 96 (.sl [] true) []=some (.sl [] true,⟨H,none⟩):=rfl;simp(disch:=omega) only[F1,go_sem,simprocAttr,y3,he,d,e1,e3]
  ·refine⟨.sl (l.map bo) false,?_,.sl (λel h=>by obtain⟨x,_,rfl⟩:=aeO.1 h;rfl)⟩;refine aK y3 λN b=>?_
   obtain⟨e1,f⟩:=akK (sz:=14) (ty:=m8) (bytes:=96) (lo:=lo) (g:=bo) b (by omega) (λ_=>rfl) (λ_=>rfl) c e;simp only[go_sem,simprocAttr,y3,he,d,e1,f]
section
variable{n M p q:Nat}{m:bg}{qv ev:AV}{aH aT:Nat->AV}{H:List ae}(ha:cb n M p q m qv ev aH aT H)
include ha
theorem azs(f:m.bz.length<1000000)(lo:oN): ∃v,D XC (.fn (.func 15) [] []) [.ptr M 0] ⟨H,lo⟩=some (.ret v ⟨H,lo⟩)/\Rv v 14 (m.bz.map bo):=by
 obtain⟨v,c,d⟩:=azr (ha.rO.rd (lo:=none)) (by unfold room;omega) none;have c:=c0 c;refine⟨v,?_,d⟩;refine aK O5 λN e=>?_
 have b:eI EK.ptr (AV.ptr M 0) AV.fN=some false:=rfl;have a:=dy d (bL (λ_=>rfl) _);simp(disch:=omega) only[F1,go_sem,simprocAttr,O5,b,ha.box,T4,c,a]
end
def uk(l:List Event)(k:Nat):Bool:=decide ((l.getD k default).fr<=(l.getD k default).to)&& (decide (k=0)||decide ((l.getD (k-1) default).to< (l.getD k default).to))
def zY(l:List Event):Bool:=(List.range l.length).all (uk l)
def alx{l:List Event}(a:Rv v 14 (l.map bo))(I:l.length<1000000)(H:List ae)(lo:oN):D X0 (.fn (.func 18) [] []) [v] ⟨H,lo⟩=some (.ret (.bool (zY l)) ⟨H,lo⟩):=by
 refine aK O8 λN K=>?_
 simp only[go_sem,simprocAttr,O8,a.bZ];refine fE l.length (λk e H'=>H'=H/\e 0=v/\e 5= .int .i64 l.length/\e 6= .int .i64 k/\ ∀j,j<k->uk l j=true) 0 (by omega) ?_ ?_
 ·simp only[go_sem,simprocAttr];omega
 rintro k J e H' ⟨rfl,w,z,e6,y⟩ n G;simp(disch:=omega) only[cm,F1,go_sem,simprocAttr,adJ,w,z,e6];refine⟨λF=>?_,λF=>?_⟩
 ·have b:k<l.length:=by omega
  have g: ∀e,Den.part false 1 (bo e) 12=some (.int .i64 e.fr):=λ_=>rfl
  have f: ∀e,Den.part false 1 (bo e) 13=some (.int .i64 e.to):=λ_=>rfl
  have d: ∀n off,mD n (dw v k off)= .no:=λn off=>a.Hn b
  have i: ∀n off,mD n (dw v (k-1) off)= .no:=λn off=>a.Hn (by omega)
  have x: ∀n off,mw X0 n (dw v k off)=some (dw v k (off+n)):=λn off=>a.Hk b
  have t: ∀n off,mw X0 n (dw v (k-1) off)=some (dw v (k-1) (off+n)):=λn off=>a.Hk (by omega)
  have o:uk l k=false->zY l=false:=λh=>by
   unfold zY;rw[azu];exact⟨k,anc.2 b,by rw[h];decide⟩
  by_cases A: (l.getD k default).fr<=(l.getD k default).to
  ·have c: ¬((l.getD k default).fr:Int)>(l.getD k default).to:=by omega
   by_cases B:k=0
   ·subst B;simp(disch:=omega) only[go_sem,simprocAttr,w,z,e6,a.cn,a.cE,x,d,↓g,↓f,c];exact⟨by omega,by omega,b,nC (p:=λj=>uk l j=true) y (by unfold uk;rw[ady A];rfl)⟩
   ·have u: (k:Int)>0:=by omega
    have s: (k:Int)-1=((k-1:Nat):Int):=by omega
    by_cases C: (l.getD (k-1) default).to< (l.getD k default).to
    ·have r: ¬((l.getD (k-1) default).to:Int)>=(l.getD k default).to:=by omega
     simp(disch:=omega) only[go_sem,simprocAttr,w,z,e6,a.cn,a.cE,x,t,d,i,↓g,↓f,c,u,s,r];exact⟨by omega,by omega,by omega,by omega,b,nC (p:=λj=>uk l j=true) y (by unfold uk;rw[ady A,ady C,Bool.or_true];rfl)⟩
    ·have r: ((l.getD (k-1) default).to:Int)>=(l.getD k default).to:=by omega
     simp(disch:=omega) only[F1,go_sem,simprocAttr,w,a.cn,a.cE,x,t,d,i,↓g,↓f,c,u,s,r];rw[o (by unfold uk;rw[adb C,adb B,aBi,aph])];exact⟨by omega,by omega,by omega,by omega,rfl⟩
  ·have c: ((l.getD k default).fr:Int)>(l.getD k default).to:=by omega
   simp(disch:=omega) only[F1,go_sem,simprocAttr,w,a.cn,a.cE,x,d,↓g,↓f,c];rw[o (by unfold uk;rw[adb A,agq])];exact⟨by omega,by omega,rfl⟩
 ·obtain rfl:k=l.length:=by omega
  have:zY l=true:=aeT.2 λj E=>y j (anc.1 E)
  simp only[go_sem,simprocAttr,this]
def fL(t:Nat)(l:List Event):List Event:=l.filter λe=>decide (e.aa=t)
def UE{l:List Event}(j:Rv v 14 (l.map bo))(K:l.length<10000)(t:Nat)(H:List ae)(lo:oN):
  ∃w,D X0 (.fn (.func 20) [] []) [v,.int .i64 t] ⟨H,lo⟩=some (.ret w ⟨H,lo⟩)/\Rv w 14 ((fL t l).map bo):=by
 suffices J: ∃s,D X0 (.fn (.func 20) [] []) [v,.int .i64 t] ⟨H,lo⟩=some s/\ (λs=> ∃w,s= .ret w ⟨H,lo⟩/\Rv w 14 ((fL t l).map bo)) s by grind
 refine cI O9 λN F=>?_
 have b: ∀e,(bo e).length=14:=λ_=>rfl
 have het: ∀e,List.take 14 (bo e)=bo e:=λ_=>rfl
 have r: ∀e,aL (bo e)=0:=λ_=>rfl
 have G: ∀e,(bo e)[0]?=some (.int .i64 e.aa):=λ_=>rfl
 have f: ∀e,Den.part true 14 (bo e) 0=some (.agg (bo e)):=λ_=>rfl
 have d: ∀e,aN [AV.int .i64 0,.int .u8 0,.int .u32 0,.int .u32 0,.int .u32 0,.int .u32 0,.int .u64 0,.int .i64 0,.int .i64 0,.int .i64 0,.int .u64 0,.int .u32 0,.int .i64 0,.int .i64 0] 0 (bo e)=bo e:=λe=>mN (by rfl)
 simp only[go_sem,simprocAttr,O9,j.bZ];refine gZ l.length (λk e W aj=> ∃w,aj=none/\H<+:W/\aP N W w 14 m8 ((fL t (l.take k)).map bo)/\e 1= .int .i64 t/\e 5=w/\e 8=v/\e 9= .int .i64 l.length/\e 10= .int .i64 k) 0 (by omega) ?_ ?_
 ·refine⟨.au,rfl,List.prefix_refl _,aP.au,?_⟩;simp only[go_sem,simprocAttr]
 rintro k O e W aj ⟨w,rfl,y,i,e1,A,e8,z,h⟩ n C;simp only[cm,F1,go_sem,simprocAttr,adK,A,e8,z,h];refine⟨λI=>?_,λI=>?_⟩
 ·have a:k<l.length:=by omega
  have hle:=ah5 (λe=>decide (e.aa=t)) (l.take k);rw[af9]at hle;have o:l.take (k+1)=l.take k++[l.getD k default]:=by rw[List.take_succ,ac7 a,aeN,ac7 a];rfl
  by_cases c: (l.getD k default).aa=t
  ·have B: ((l.getD k default).aa:Int)=t:=by omega
   have g:fL t (l.take (k+1))=fL t (l.take k)++[l.getD k default]:=by unfold fL;rw[o,ave];simp only[List.filter_cons,List.filter_nil,c,decide_true,ae4]
   simp(disch:=omega) only[go_sem,simprocAttr,e1,A,j.cn,j.cE,f,b,het,r,d,G,B,C];refine⟨by omega,?_⟩;refine N6 (N:=N) (H0:=H) (bytes:=96) (ys:=[bo (l.getD k default)]) i.ext (y.trans (aj8 _ _)) F (by omega) (by intro el b;rw[aeH.1 b];rfl) rfl (by
    rw[aeK];show((fL t (l.take k)).length+1)*96<=room;unfold fL room;omega) λv' P u x _ _=>?_
   simp(disch:=omega) only[go_sem,simprocAttr,e1,e8,z,h];rw[g,aeP];exact⟨a,v',x,u,rfl⟩
  ·have B: ¬((l.getD k default).aa:Int)=t:=by omega
   have g:fL t (l.take (k+1))=fL t (l.take k):=by unfold fL;rw[o,ave];simp only[List.filter_cons,List.filter_nil,c,aAM,ags,aeJ,agc]
   simp(disch:=omega) only[go_sem,simprocAttr,e1,A,e8,z,h,j.cn,j.cE,f,b,r,d,G,B,C];rw[g];exact⟨by omega,a,w,y.trans (aj8 _ _),i.ext,rfl⟩
 ·obtain rfl:k=l.length:=by omega
  rw[aeQ]at i;have E:=i.AJ (lo:=lo) (by rw[bL (λ_=>rfl)];omega);rw[uG]at E;rw[E];obtain⟨L,rfl⟩:=y;exact⟨_,dp rfl (am6 F),i.qM⟩
section
set_option maxHeartbeats 2000000
def mn:aZ->List Event->aZ×Bool
 |s,[]=>(s,true)
 |s,e::l=>match m4 s e with
  |some s'=>mn s' l
  |none=>(s,false)
theorem aly: ∀ (l:List Event) (s s':aZ),l.foldlM m4 s=some s'->mn s l=(s',true)
 | [],s,s',h=>by cases h;rfl
 |e::l,s,s',h=>by
  rw[aBy]at h;unfold mn;cases he:m4 s e with
  |none=>grind
  |some s1=>rw[he]at h;exact aly l s1 s' h
def azt(a b:bE):eI (.agg [.int,.int,.int]) (.agg (bB a)) (.agg (bB b))=some (decide (a=b)):=by
 obtain⟨h,g,f⟩:=a;obtain⟨e,d,c⟩:=b;unfold bB eI;simp only[HD,N9,bE.mk.injEq,Int.ofNat_inj]
 grind
def UF{l:List Event}(hv:Rv v 14 (l.map bo))(hl:l.length<1000000)(he: ∀e∈l,UD e)(H:List ae)(lo:oN):
  D XC (.fn (.func 16) [] []) [v] ⟨H,lo⟩=some (.ret (.aA [.agg (bn (mn fW l).1),.bool (mn fW l).2]) ⟨H,lo⟩):=by
 refine aK O6 λN J=>?_
 have hb:=λH lo=>c0 (akx H lo)
 simp(disch:=omega) only[go_sem,simprocAttr,O6,J,hb,F2,eg,kH,xC,hv.bZ];have y: ∀e,(bo e).length=14:=λ_=>rfl
 have het: ∀e,List.take 14 (bo e)=bo e:=λ_=>rfl
 have Q: ∀e,aL (bo e)=0:=λ_=>rfl
 have g0: ∀e,(bo e)[0]?=some (.int .i64 e.aa):=λ_=>rfl
 have g1: ∀e,(bo e)[1]?=some (.int .u8 e.c.op):=λ_=>rfl
 have g8: ∀e,(bo e)[8]?=some (.int .i64 e.run.2):=λ_=>rfl
 have g9: ∀e,(bo e)[9]?=some (.int .i64 e.r.e):=λ_=>rfl
 have g10: ∀e,(bo e)[10]?=some (.int .u64 e.r.v):=λ_=>rfl
 have p1: ∀e,Den.part true 6 (bo e) 1=some (.agg (bq e.c)):=λ_=>rfl
 have p7: ∀e,Den.part true 2 (bo e) 7=some (.agg (aD e.run)):=λ_=>rfl
 have p9: ∀e,Den.part true 3 (bo e) 9=some (.agg (bB e.r)):=λ_=>rfl
 have p0: ∀e,Den.part true 14 (bo e) 0=some (.agg (bo e)):=λ_=>rfl
 have j: ∀e,aN [AV.int .i64 0,.int .u8 0,.int .u32 0,.int .u32 0,.int .u32 0,.int .u32 0,.int .u64 0,.int .i64 0,.int .i64 0,.int .i64 0,.int .u64 0,.int .u32 0,.int .i64 0,.int .i64 0] 0 (bo e)=bo e:=λe=>mN (by rw[y];rfl)
 have NQ: ∀r,aN [AV.int .i64 0,.int .u64 0,.int .u32 0] 0 (bB r)=bB r:=λ_=>rfl
 have uJ: ∀r,(bB r).length=3:=λ_=>rfl
 have Lq: ∀r (v:Nat),aN (bB r) 1 [.int .u64 v]=bB {r with v:=v}:=λ_ _=>rfl
 have Ub: ∀r,List.take 3 (bB r)=bB r:=λ_=>rfl
 refine gZ l.length (λk e W aj=> ∃s,aj=none/\mn fW l=mn s (l.drop k)/\aV s/\iK N H W/\W[N]?=some (.box (bn ug) none)/\W[N+1]?=some (.box (bn s) none)/\e 2= .ptr N 0/\e 4= .ptr (N+1) 0/\e 3= .bool false/\e 12=v/\e 13= .int .i64 l.length/\e 14= .int .i64 k) 0 (by omega) ?_ ?_
 ·refine⟨fW,rfl,rfl,akE,iK.app J,by rw[dB J];rfl,by rw[bM J];rfl,?_⟩;simp(disch:=omega) only[go_sem,simprocAttr]
 rintro k hk e W aj ⟨s,rfl,c,T,m,w0,w1,e2,e4,e3,G,F,C⟩ n hn;simp(disch:=omega) only[cm,go_sem,simprocAttr,adI,e4,G,F,C];refine⟨λhh=>?_,λhh=>?_⟩
 ·have g:k<l.length:=by omega
  have z:l.drop k=l.getD k default::l.drop (k+1):=by
   rw[anh g,aeN,ac7 g];rfl
  have f:=he _ (fX g);have M: ∀e l',mn s (e::l')=match m4 s e with|some s'=>mn s' l'|none=>(s,false):=λ_ _=>rfl
  rw[z,M]at c;have x:=hv.cE (X:=XC) (E:=⟨W,none⟩) (off:=0) (n:=14) (agg:=true) g;have A:=hv.cn (k:=.i64) (a:=k);rw[ac6 ⟨by omega,by omega⟩]at A;rw[p0]at x;generalize l.getD k default=ev at*;have P:=λH lo=>cB (Ln s T ev.aa f.aa ev.c f.gC (Uh _) H lo)
  obtain⟨bv,d1,d2⟩:=Lm s T ev.aa f.aa ev.c f.gC ev.run ⟨by have:=f.run;omega,by have:=f.run;omega⟩ (Uh _) (W++[.box (bo ev) none]) none;have d1:=cB d1;have f1: ∀L,(W++L)[N+1]?=some (.box (bn s) none):=λL=>bm w1
  have f0: ∀L,(W++L)[N]?=some (.box (bn ug) none):=λL=>bm w0
  have s0: ∀L o,((W++L).set N o)[N]?=some o:=λL o=>cZ (f0 L)
  have t: ∀L,iK N H (W++L):=λL i hi=>by rw[acj (by have:=fy w0;omega)];exact m i hi
  have p: ∀L o,((W++L).set N o).take N=H:=λL o=>((t L).set (adA _)).take J
  have hmd:=LK T f.gC (aa:=ev.aa) f.run;obtain⟨Z,S⟩: ∃b,b=decide ((ev.r.e:Int)=6):=⟨_,rfl⟩;obtain⟨V,h⟩: ∃b,b=decide ((bR s ev.aa ev.c:Int)>0):=⟨_,rfl⟩;have B: (Z=true↔ev.r.e=6):=by rw[S,awL];omega
  have u: (V=true↔0<bR s ev.aa ev.c):=by rw[h,awL];omega
  have S:=S.symm;have h:=h.symm;by_cases K:ev.r.e=6/\0<bR s ev.aa ev.c
  ·obtain rfl:=B.2 K.1;obtain rfl:=u.2 K.2;rw[show m4 s ev=some s from ac6 ⟨K.1,K.2⟩]at c;simp(disch:=omega) only[go_sem,simprocAttr,e2,e3,e4,G,F,C,A,x,y,Q,j,hn,f1,zL,eg,g0,g9,p1,P,S,h];exact⟨g,s,c,T,t _,bm w0,rfl⟩
  ·have hb6: (Z&&V)=false:=by
     cases q1:Z<;>cases q2:V<;>first|rfl|exact absurd ⟨B.1 q1,u.1 q2⟩ K
   generalize hd:bN s ev.aa ev.c ev.run=d at*;obtain⟨U,ho⟩: ∃b,b=decide ((ev.c.op:Int)=3):=⟨_,rfl⟩;obtain⟨Y,hm⟩: ∃b,b=decide ((bR s ev.aa ev.c:Int)=ev.run.2):=⟨_,rfl⟩;have O: (U=true↔ev.c.op=3):=by rw[ho,awL];omega
   have w: (Y=true↔bR s ev.aa ev.c=ev.run.2):=by rw[hm,awL];omega
   obtain⟨br,I⟩: ∃b,b=decide ((if U=true then{d.2.1 with v:=ev.r.v}else d.2.1)=ev.r):=⟨_,rfl⟩;have R:m4 s ev=if(Y&&br)=true then some d.1 else none:=by
    unfold m4;rw[ac0 K,hd];have e1: (if ev.c.op=3 then{d.2.1 with v:=ev.r.v}else d.2.1)=if U=true then{d.2.1 with v:=ev.r.v}else d.2.1:=by simp only[O]
    rw[e1];cases Y
    ·rw[ac6 (.inl λq=>by have:=w.2 q;cases this)];rfl
    ·cases br
     ·rw[ac6 (.inr (of_decide_eq_false I.symm))];rfl
     ·rw[ac0 (by rintro(q|q);exact q (w.1 rfl);exact q (api I.symm))];rfl
   rw[R]at c;have ho:=ho.symm;have hm:=hm.symm;have I:=I.symm;clear B u O w R;cases U<;>simp only[ae4,ags,aeJ]at I<;>cases Y<;>cases br<;>simp only[avV,aph,ae4,ags,aeJ]at c<;>cases Z<;>cases V<;>first| (cases hb6;done)|skip
   all_goals
    simp(disch:=omega) only[F1,go_sem,simprocAttr,e2,e3,e4,G,F,C,A,x,y,Q,j,hn,f1,zL,xC,eg,kH,F2,g0,g1,g8,g9,g10,p1,p7,p9,P,S,h,d1,NQ,uJ,Lq,Ub,ho,hm,azt,I,f0,s0,qg,p]
   all_goals first|exact⟨g,d.1,c,hmd.S,(t _).set (by omega),cZ (f1 _)⟩|rw[show mn fW l=(s,false)from c]
 ·obtain rfl:k=l.length:=by omega
  rw[aBB]at c;have c:mn fW l=(s,true):=c;have s0: ∀o,(W.set N o)[N]?=some o:=λo=>cZ w0
  have p: ∀o,(W.set N o).take N=H:=λo=>(m.set (adA _)).take J
  simp(disch:=omega) only[F1,go_sem,simprocAttr,e2,w0,w1,zL,xC,eg,kH,s0,p,c]
end
def azx(a b:Event){W:List ae}(h:W[p]?=some (.box (bo a) none))(lo:oN):D X0 (.fn (.func 90) [] [.ptr p 0]) [.agg (bo b)] ⟨W,lo⟩=some (.ret (.bool (decide (a.to<b.fr))) ⟨W,lo⟩):=by
 refine fi Pu λN i=>?_
 have d: ∀e,(bo e)[12]?=some (.int .i64 e.fr):=λ_=>rfl
 have c: ∀e,(bo e)[13]?=some (.int .i64 e.to):=λ_=>rfl
 have f1: ∀L,(W++L)[p]?=some (.box (bo a) none):=λL=>bm h
 have f:decide ((a.to:Int)<b.fr)=decide (a.to<b.fr):=ae0.2 (by omega);simp only[F1,go_sem,simprocAttr,Pu,i,f1,d,c,f]
def alz{w:AV}{af:List lA}(h:w≠ .au):bG w af= .sl af false:=by
 unfold bG;grind
section
variable{v:AV}{l:List Event}(hv:Rv v 14 (l.map bo))(hl:l.length<10000)(g:AV)(H:List ae)
include hv hl
theorem azy(f:Event->Bool)(F: ∀b W lo,H<+:W->D X0 g [.agg (bo b)] ⟨W,lo⟩=some (.ret (.bool (f b)) ⟨W,lo⟩))(lo:oN):
  D X0 (.fn (.func 89) [] []) [v,g] ⟨H,lo⟩=some (.ret (.sl (l.map λb=>[.bool (f b)]) false) ⟨H,lo⟩):=by
 refine aK Pt λN p=>?_
 have c: ∀e,(bo e).length=14:=λ_=>rfl
 have het: ∀e,List.take 14 (bo e)=bo e:=λ_=>rfl
 have z: ∀e,aL (bo e)=0:=λ_=>rfl
 have i: ∀e,Den.part true 14 (bo e) 0=some (.agg (bo e)):=λ_=>rfl
 have h: ∀e,aN [AV.int .i64 0,.int .u8 0,.int .u32 0,.int .u32 0,.int .u32 0,.int .u32 0,.int .u64 0,.int .i64 0,.int .i64 0,.int .i64 0,.int .u64 0,.int .u32 0,.int .i64 0,.int .i64 0] 0 (bo e)=bo e:=λe=>mN (by rfl)
 have x:rU ⟨H,none⟩ Dj [.bool false] 1 (.int .i64 0) (.int .i64 l.length)=some (.ref N 0 1 0 0 false,⟨H++[.row 0 1 Dj []],none⟩):=by
  simp only[rU];rw[ac6 (by unfold room;omega),p];rfl
 simp only[go_sem,simprocAttr,Pt,hv.bZ,x];refine gZ l.length (λk e W aj=> ∃w,aj=none/\H<+:W/\w≠ .au/\aP N W w 1 Dj ((l.take k).map λb=>[.bool (f b)])/\e 1=g/\e 5=w/\e 11=v/\e 12= .int .i64 l.length/\e 13= .int .i64 k) 0 (by omega) ?_ ?_
 ·refine⟨.ref N 0 1 0 0 false,rfl,aj8 _ _,(by intro q;cases q),⟨by simp,.inr ⟨N,0,adA _,rfl,dB p⟩⟩,?_⟩;simp only[go_sem,simprocAttr]
 rintro k G e W aj ⟨w,rfl,u,hw,r,e1,B,o,m,j⟩ n C;simp only[cm,F1,go_sem,simprocAttr,adV,B,o,m,j];refine⟨λE=>?_,λE=>?_⟩
 ·have a:k<l.length:=by omega
  have s:l.take (k+1)=l.take k++[l.getD k default]:=by rw[List.take_succ,ac7 a,aeN,ac7 a];rfl
  have y:=F (l.getD k default) (W++[.box (bo (l.getD k default)) none]) none (u.trans (aj8 _ _));simp(disch:=omega) only[go_sem,simprocAttr,e1,B,hv.cn,hv.cE,i,c,z,h,C,y];refine⟨by omega,?_⟩;refine N6 (N:=N) (H0:=H) (bytes:=1) (ys:=[[.bool (f (l.getD k default))]]) r.ext (u.trans (aj8 _ _)) p (by omega) (by intro el c;rw[aeH.1 c];rfl) rfl (by
   rw[aeK,af9];show(min k l.length+1)*1<=room;unfold room;omega) λv' I d t _ _=>?_
  simp(disch:=omega) only[go_sem,simprocAttr,e1,o,m,j];rw[s,aeP];refine⟨a,v',t,?_,d,rfl⟩;rintro rfl;rcases d.2 with⟨_,q⟩| ⟨_,_,_,q,_⟩
  ·simp at q
  ·cases q
 ·obtain rfl:k=l.length:=by omega
  rw[aeQ]at r;have A:=r.AJ (lo:=lo) (by rw[bL (λ_=>rfl)];omega);rw[uG,alz hw]at A;rw[A];obtain⟨L,rfl⟩:=u;exact dp rfl (am6 p)
theorem azz(f:Event->AV)(j: ∀b,(f b).refs=0)(A: ∀b,(f b).cx=false/\ (f b).cells=[f b])(I: ∀b W lo,H<+:W->D X0 g [.agg (bo b)] ⟨W,lo⟩=some (.ret (f b) ⟨W,lo⟩))(lo:oN):
  D X0 (.fn (.func 87) [] []) [v,g] ⟨H,lo⟩=some (.ret (.sl (l.map λb=>[f b]) false) ⟨H,lo⟩):=by
 refine aK Pr λN r=>?_
 have c: ∀e,(bo e).length=14:=λ_=>rfl
 have het: ∀e,List.take 14 (bo e)=bo e:=λ_=>rfl
 have B: ∀e,aL (bo e)=0:=λ_=>rfl
 have i: ∀e,Den.part true 14 (bo e) 0=some (.agg (bo e)):=λ_=>rfl
 have h: ∀e,aN [AV.int .i64 0,.int .u8 0,.int .u32 0,.int .u32 0,.int .u32 0,.int .u32 0,.int .u64 0,.int .i64 0,.int .i64 0,.int .i64 0,.int .u64 0,.int .u32 0,.int .i64 0,.int .i64 0] 0 (bo e)=bo e:=λe=>mN (by rfl)
 have y:rU ⟨H,none⟩ Dl [.au] 24 (.int .i64 0) (.int .i64 l.length)=some (.ref N 0 1 0 0 false,⟨H++[.row 0 1 Dl []],none⟩):=by
  simp only[rU];rw[ac6 (by unfold room;omega),r];rfl
 simp only[go_sem,simprocAttr,Pr,hv.bZ,y];refine gZ l.length (λk e W aj=> ∃w,aj=none/\H<+:W/\w≠ .au/\aP N W w 1 Dl ((l.take k).map λb=>[f b])/\e 1=g/\e 5=w/\e 11=v/\e 12= .int .i64 l.length/\e 13= .int .i64 k) 0 (by omega) ?_ ?_
 ·refine⟨.ref N 0 1 0 0 false,rfl,aj8 _ _,(by intro q;cases q),⟨by simp,.inr ⟨N,0,adA _,rfl,dB r⟩⟩,?_⟩;simp only[go_sem,simprocAttr]
 rintro k J e W aj ⟨w,rfl,x,hw,s,e1,E,p,o,m⟩ n F;simp only[cm,F1,go_sem,simprocAttr,adU,E,p,o,m];refine⟨λG=>?_,λG=>?_⟩
 ·have a:k<l.length:=by omega
  have t:l.take (k+1)=l.take k++[l.getD k default]:=by rw[List.take_succ,ac7 a,aeN,ac7 a];rfl
  have z:=I (l.getD k default) (W++[.box (bo (l.getD k default)) none]) none (x.trans (aj8 _ _));simp(disch:=omega) only[go_sem,simprocAttr,e1,E,hv.cn,hv.cE,i,c,B,h,F,z,A];refine⟨by omega,?_⟩;refine N6 (N:=N) (H0:=H) (bytes:=24) (ys:=[[f (l.getD k default)]]) s.ext (x.trans (aj8 _ _)) r (by omega) (by intro el c;rw[aeH.1 c];rfl) (by simp[b9,aL,j]) (by
   rw[aeK,af9];show(min k l.length+1)*24<=room;unfold room;omega) λv' K d u _ _=>?_
  simp(disch:=omega) only[go_sem,simprocAttr,e1,p,o,m];rw[t,aeP];refine⟨a,v',u,?_,d,rfl⟩;rintro rfl;rcases d.2 with⟨_,q⟩| ⟨_,_,_,q,_⟩
  ·simp at q
  ·cases q
 ·obtain rfl:k=l.length:=by omega
  rw[aeQ]at s;have C:=s.AJ (lo:=lo) (by rw[bL (λb=>by simp[aL,j])];omega);rw[uG,alz hw]at C;rw[C];obtain⟨L,rfl⟩:=x;exact dp rfl (am6 r)
omit g H in
theorem azA(a:Event){W:List ae}(j:W[p]?=some (.box [v] none))(lo:oN):D X0 (.fn (.func 88) [] [.ptr p 0]) [.agg (bo a)] ⟨W,lo⟩=some (.ret (.sl (l.map λb=>[.bool (decide (a.to<b.fr))]) false) ⟨W,lo⟩):=by
 refine fi Ps λN d=>?_
 have c: ∀e,aL (bo e)=0:=λ_=>rfl
 have f1: ∀L,(W++L)[p]?=some (.box [v] none):=λL=>bm j
 have h:=azy hv hl (.fn (.func 90) [] [.ptr N 0]) (W++[.box (bo a) none]) (λb=>decide (a.to<b.fr)) (λb k aj i=>azx a b (by obtain⟨L,rfl⟩:=i;exact bm (dB d)) aj) none;have f:b9 (l.map λb=>[AV.bool (decide (a.to<b.fr))])=0:=bL (λ_=>rfl) _;simp(disch:=omega) only[F1,go_sem,simprocAttr,Ps,d,f1,c,h,f,adC,ae4]
def Ga(l:List Event):AV:=.sl (l.map λa=>[.sl (l.map λb=>[.bool (decide (a.to<b.fr))]) false]) false
theorem azB(lo:oN):D X0 (.fn (.func 49) [] []) [v] ⟨H,lo⟩=some (.ret (Ga l) ⟨H,lo⟩):=by
 refine aK Pd λN j=>?_
 have i:=Sh (H:=H) (lo:=none) (tg:=none) hv;have c: ∀f:Event->Bool,(AV.sl (l.map λb=>[.bool (f b)]) false).refs=0:=λf=>by
  exact bL (λ_=>rfl) _
 have d:=azz hv hl (.fn (.func 88) [] [.ptr N 0]) (H++[.box [v] none]) (λa=>.sl (l.map λb=>[.bool (decide (a.to<b.fr))]) false) (λb=>c _) (λ_=>⟨rfl,rfl⟩) (λb k aj h=>azA hv hl b (by obtain⟨L,rfl⟩:=h;grind) aj) none;have e: (Ga l).refs=0:=by
  show b9 _=0;exact bL (λa=>by simp[aL,c]) _
 have d:D X0 (.fn (.func 87) [] []) [v,.fn (.func 88) [] [.ptr N 0]] ⟨H++[.box [v] none],none⟩=some (.ret (Ga l) ⟨H++[.box [v] none],none⟩):=d;generalize Ga l=w at*;simp only[F1,go_sem,simprocAttr,Pd,j,i,d,e]
end
def um:Event:=⟨0,{gP with op:=1},(0,0),{bu with w:=1},1,3⟩
def nR:Event:=⟨0,{gP with op:=17},(0,0),bu,2,5⟩
def nS:Event:=⟨0,⟨3,1,0,0,1,0⟩,(0,0),{bu with e:=9},4,6⟩
def Gb:lA:=[.int .i64 0,.int .u8 1,.int .u32 0,.int .u32 0,.int .u32 0,.int .u32 0,.int .u64 0,.int .i64 0,.int .i64 0,.int .i64 0,.int .u64 0,.int .u32 1,.int .i64 1,.int .i64 3]
def zZ:lA:=[.int .i64 0,.int .u8 17,.int .u32 0,.int .u32 0,.int .u32 0,.int .u32 0,.int .u64 0,.int .i64 0,.int .i64 0,.int .i64 0,.int .u64 0,.int .u32 0,.int .i64 2,.int .i64 5]
def z0:lA:=[.int .i64 0,.int .u8 3,.int .u32 1,.int .u32 0,.int .u32 0,.int .u32 1,.int .u64 0,.int .i64 0,.int .i64 0,.int .i64 9,.int .u64 0,.int .u32 0,.int .i64 4,.int .i64 6]
def Gc:Rv (.sl [Gb,zZ,z0] true) 14 ([um,nR,nS].map bo):=Rv.sl (af:=[bo um,bo nR,bo nS]) λel h=>by
 simp only[aeZ,aAB,or_false]at h;rcases h with rfl|rfl|rfl<;>rfl
def azC:Rv (.sl [zZ,z0] true) 14 ([nR,nS].map bo):=Rv.sl (af:=[bo nR,bo nS]) λel h=>by
 simp only[aeZ,aAB,or_false]at h;rcases h with rfl|rfl<;>rfl
def alA: ∀e∈[um,nR,nS],UD e:=λe h=>by
 simp only[aeZ,aAB,or_false]at h;rcases h with rfl|rfl|rfl<;>exact⟨⟨by decide,by decide,by decide,by decide,by decide,by decide⟩,by decide,by decide⟩
theorem azD: (mn fW [um,nR,nS]).2=true:=by rfl
theorem azE: (mn fW [nR,nS]).2=false:=by rfl
theorem azF:aq (mn fW [um,nR,nS]).1.T.b 1=true:=by rfl
theorem azG:zY [um,nR,nS]=true:=by rfl
theorem azH:Ga [um,nR,nS]= .sl [[.sl [[.bool false],[.bool false],[.bool true]] false],[.sl [[.bool false],[.bool false],[.bool false]] false],[.sl [[.bool false],[.bool false],[.bool false]] false]] false:=by rfl
def azI(H:List ae)(lo:oN): ∃E,D XC (.fn (.func 12) [] []) [] ⟨H,lo⟩=some (.ret (.bool true) E):=by
 suffices r: ∃f,D XC (.fn (.func 12) [] []) [] ⟨H,lo⟩=some f/\ (λf=> ∃E,f= .ret (.bool true) E) f by
  obtain⟨f,h,E,rfl⟩:=r;exact⟨E,h⟩
 refine cI O2 λN s=>?_
 have n:=λH lo=>c0 (azB Gc (by decide) H lo)
 rw[azH]at n;have j:=λH lo=>UF Gc (by decide) alA H lo
 have i:=λH lo=>UF azC (by decide) (λe h=>alA e (aeR _ h)) H lo
 rw[azD]at j;rw[azE]at i;have m:=λH lo=>c0 (alx Gc (by decide) H lo)
 rw[azG]at m;obtain⟨a,d⟩: ∃a,a=(mn fW [um,nR,nS]).1:=⟨_,rfl⟩;obtain⟨k,c⟩: ∃k,k=(mn fW [nR,nS]).1:=⟨_,rfl⟩;have q:=azF;rw[<-d]at j q;rw[<-c]at i;have g:=λH lo=>c0 (eC a.T.b 1 (by omega) H lo)
 rw[q]at g;have g: ∀H lo,D XC (.fn (.func 50) [] []) [.agg (b0 a.T.b),.int .u32 1] ⟨H,lo⟩=some (.ret (.bool true) ⟨H,lo⟩):=g;clear d c;have b:gE 14 (.sl [Gb,zZ,z0] true) (some (.int .i64 1)) none none=some (.sl [zZ,z0] true):=rfl;obtain⟨u,t1,t2⟩:=UE Gc (by decide) 0 (H++[.box (bn a) none,.box (bn k) none]) none;obtain⟨t,t3,t4⟩:=UE Gc (by decide) 1 (H++[.box (bn a) none,.box (bn k) none]) none;have t1:D XC (.fn (.func 20) [] []) [.sl [Gb,zZ,z0] true,.int .i64 0] _=_:=c0 t1;have t3:D XC (.fn (.func 20) [] []) [.sl [Gb,zZ,z0] true,.int .i64 1] _=_:=c0 t3;have p:=λE=>t2.bZ (E:=E)
 have o:=λE=>t4.bZ (E:=E)
 rw[show(fL 0 [um,nR,nS]).length=3 from rfl]at p;rw[show(fL 1 [um,nR,nS]).length=0 from rfl]at o;have l:List.take 96 (bn a)=b0 a.T.b:=by
  simp only[bn,aM,ac8];exact am6 (ng _)
 simp only[Gb,zZ,z0]at n j i m b t1 t3;simp only[F1,go_sem,simprocAttr,O2,s,n,j,i,m,g,F2,eg,kH,xC,b,t1,t3,p,o,l];exact⟨_,rfl⟩
section
set_option maxHeartbeats 4000000
def L8:List EK->lA->Bool
 | [],[]=>true
 |.int::a,.int _ _::xs=>L8 a xs
 |.bool::a,.bool _::xs=>L8 a xs
 |_,_=>false
theorem UG: ∀ (a:List EK) (xs:lA),L8 a xs=true->xs.length=a.length/\iX a xs xs=some true
 | [],[],_=>⟨rfl,rfl⟩
 |.int::a,.int _ _::xs,h=>by
  obtain⟨c,b⟩:=UG a xs h;exact⟨by grind,by rw[HD,if_pos rfl,b]⟩
 |.bool::a,.bool _::xs,h=>by
  obtain⟨c,b⟩:=UG a xs h;exact⟨by grind,by rw[aco,if_pos rfl,b]⟩
def eq_self{a:List EK}{xs:lA}(h:L8 a xs=true):eI (.agg a) (.agg xs) (.agg xs)=some true:=by
 obtain⟨c,b⟩:=UG a xs h;show(if xs.length=a.length/\xs.length=a.length then iX a xs xs else none)=_
 grind
def alB{s:aZ}:Den.part true 96 (bn s) 0=some (.agg (b0 s.T.b)):=by trivial
def azJ(h:ib m):zY m.bz=true:=by
 unfold zY;rw[aeT];intro k a;have a:=anc.1 a;unfold uk;rw[ady (h.now _ (fX a)).1,amH];by_cases b:k=0
 ·grind
 ·have:=awP.1 h.ord (k-1) k (by omega) a (by omega)
  grind
def azK(h:ib m)(f:1<=i)(a:i< (fL k m.bz).length): ((fL k m.bz).getD i default).c.op=20\/ ((fL k m.bz).getD (i-1) default).to< ((fL k m.bz).getD i default).fr:=by
 have d:=awP.1 (h.own.filter λe=>decide (e.aa=k)) (i-1) i (by unfold fL at a;omega) a (by omega);have b: ∀j (c:j< (fL k m.bz).length),(fL k m.bz)[j].aa=k:=λj c=>api (ae2.1 (ass c)).2
 rw[aeN,aeN,ac7 a,ac7 (by omega:i-1< (fL k m.bz).length)];exact d ((b _ _).trans (b _ _).symm)
section
variable{np:Int}{aF:List lB}{bh:lB}{pv:AV}(h:Ug np aF bh pv)
include h
theorem azL(H:List ae)(lo:oN):
  ∃cr,D XC (.fn (.func 3) [] []) [.agg (fA np pv bh)] ⟨H,lo⟩=some cr/\ ∃E,cr= .ret (.bool true) E:=by
 refine cI Em λN hN=>?_
 have hw:=azI;have hr:=axL h;have hl: (fA np pv bh).length=3:=rfl;have ht:List.take 3 (fA np pv bh)=fA np pv bh:=rfl;have o:=λH lo=>c0 (axN h H lo)
 have r: ∀E:AS,∃E',aU.ret (finish N lo (.bool true) E).1 (finish N lo (.bool true) E).2= .ret (.bool true) E':=λE=>⟨_,by rw[axS (adC _)]⟩
 obtain⟨z,B⟩:=hw (H++[.box (fA np pv bh) none]) none;obtain⟨g,L⟩: ∃g,g=LO aF bh:=⟨_,rfl⟩;rw[<-L]at o;cases g with
 |true=>
  simp(disch:=omega) only[go_sem,simprocAttr,Em,hN,hl,ht,o,B];exact r z
 |false=>
  have u:vW aF bh=false/\bh.length<=1500:=by
   unfold LO at L;have L:=L.symm;simp only[Bool.or_eq_false_iff,decide_eq_false_iff_not]at L;exact⟨L.1,by omega⟩
  have s:=λH lo=>c0 (axP h u.1 H lo)
  obtain⟨sm,d⟩: ∃g,g=oz ⟨np,aF,bh.map UInt8.toNat⟩:=⟨_,rfl⟩;rw[<-d]at s;cases sm with
  |false=>
   simp(disch:=omega) only[go_sem,simprocAttr,Em,hN,hl,ht,o,s,B];exact r z
  |true=>
   clear B z;obtain⟨kv,Z,o2⟩:=axO h u.1 (H++[.box (fA np pv bh) none]) none;have Z:=c0 Z;have R: ∃n:Nat,np=n:=⟨np.toNat,by unfold oz at d;have d:=d.symm;simp at d;omega⟩;obtain⟨n,rfl⟩:=R;obtain⟨cr,r1,M,p,q,qv,ev,aH,aT,ov2,H1,l,rfl,O,r3,r4,r5⟩:=axG Uh o2 d.symm (N+1) (H++[.box (fA n pv bh) none]) (by simp[hN]) none;have hpn:eI EK.ptr (AV.ptr M 0) AV.fN=some false:=rfl;have A:1<=n/\n<=64/\bh.length<=4000:=by unfold oz at d;have d:=d.symm;simp at d;omega
   obtain⟨P,K⟩:=alw ⟨A.1,A.2.1⟩ aF A.2.2 bh.length (adA _);rw[akG]at P K;generalize(Fe ⟨n,aF,bh.map UInt8.toNat⟩).1=m at*;have aCc:=K.now;have hQ:m.av.Q.length<1073741824:=by have:=K.i.q;omega
   have hE:=K.i.e;have hle: ∀k,(fL k m.bz).length<=4000:=λk=>aga (ah5 _ _) (by omega)
   obtain⟨v,v1,v2⟩:=azs O (by omega) l;have C:=UF v2 (by omega) P.ok H1 l;rw[aly _ _ _ P.rep]at C;obtain⟨a,U⟩: ∃a,H1.length=a:=⟨_,rfl⟩;have V:=O.app [.box (bn m.av.S) none];obtain⟨cv,d1,d2⟩:=axI V hQ l;have N3:aL (c7 m.av q cv)<=a+1:=by
    rw[TD];have:=dy d2 (bL (λ_=>rfl) _);have:=O.co.qp;have:=O.co.lt;omega
   have a0:=λH lo=>c0 (alx v2 (by omega) H lo)
   rw[azJ P]at a0;simp(disch:=omega) only[go_sem,simprocAttr,Em,hN,hl,ht,o,s,Z,r1,hpn,v1,C,U,F2,eg,kH,xC,d1,↓TE,a0,↓Kr];have hn: (H1++[ae.box (bn m.av.S) none,.box (bn m.av.S) none]).length=a+2:=by simp[U]
   obtain⟨w1,J1,i1,i2⟩:=KG m.av.S.T.b K.i.ok.av.S.T.b (a+2) _ hn l;have i1:=cX (pX (f:=19) (p:=mi) rfl i1);obtain⟨w2,J2,i3,i4⟩:=KG m.av.S.T.b K.i.ok.av.S.T.b _ (H1++ae.box (bn m.av.S) none:: .box (bn m.av.S) none::J1) rfl l;have g0:=@List.take_left _ (H1++[ae.box (bn m.av.S) none,.box (bn m.av.S) none]) J1;simp only[ac8,ah6,agt]at i2 i4 g0;have j1:=λlo=>(i2.rd (lo:=lo)).len
   have j2:=λlo=>(i4.rd (lo:=lo)).len
   have i3:=cX (pX (f:=19) (p:=mi) rfl i3)
   iterate 5
    rw[eq_self (by rfl)];simp(disch:=omega) only[go_sem,simprocAttr,↓Kq,↓aqA,↓aqB,↓aqD,↓alB]
   have g1:=λlo x y=>aoO (E:=⟨_,lo⟩) (E':=⟨_,lo⟩) (a:=a+1) (b:=x) (c:=y) g0 (by simp;omega)
   simp(disch:=omega) only[go_sem,simprocAttr,i1,i3,j1,j2,g1,↓alB];clear o s Z r1 C a0 i1 i2 i3 i4 j1 j2 g1 d1 d2 V N3 O r3 r4 r5;refine gZ 8 (λk e W aj=>e 6=v/\e 10= .int .i64 k) 0 (by omega) ?_ ?_
   ·simp(disch:=omega) only[go_sem,simprocAttr]
   rintro k hk e W aj ⟨e6,j⟩ nn hn;have hlk:=hle k;obtain⟨w,t1,t2⟩:=UE v2 (by omega) k W aj;have t1:=c0 t1;obtain⟨Oj,VI⟩:=hw W aj;simp(disch:=omega) only[cm,go_sem,simprocAttr,adE,e6,j,t1,VI];refine⟨λhh=>?_,λhh=>?_⟩
   ·refine gZ ((fL k m.bz).length+1) (λi e H' mg=>H'=W/\1<=i/\e 6=v/\e 10= .int .i64 k/\e 11=w/\e 12= .int .i64 i) 1 (by omega) ?_ ?_
    ·simp(disch:=omega) only[go_sem,simprocAttr,e6,j]
    rintro i hi e H' mg ⟨rfl,h1,e6,j,I,G⟩ n1 R;simp(disch:=omega) only[cm,go_sem,simprocAttr,adD,e6,j,I,G,t2.bZ];refine⟨λhh=>?_,λhh=>?_⟩
    ·have F:i< (fL k m.bz).length:=by omega
     have g1: ∀e,Den.part false 1 (bo e) 1=some (.int .u8 e.c.op):=λ_=>rfl
     have Y: ∀e,Den.part false 1 (bo e) 12=some (.int .i64 e.fr):=λ_=>rfl
     have X: ∀e,Den.part false 1 (bo e) 13=some (.int .i64 e.to):=λ_=>rfl
     have Q: ∀n off,mD n (dw w i off)= .no:=λn off=>t2.Hn F
     have t: ∀n off,mD n (dw w (i-1) off)= .no:=λn off=>t2.Hn (by omega)
     have hf: ∀n off,mw XC n (dw w i off)=some (dw w i (off+n)):=λn off=>t2.Hk F
     have T: ∀n off,mw XC n (dw w (i-1) off)=some (dw w (i-1) (off+n)):=λn off=>t2.Hk (by omega)
     have S: (i:Int)-1=((i-1:Nat):Int):=by omega
     have hat:=azK P h1 F;by_cases c2: ((fL k m.bz).getD (i-1) default).to< ((fL k m.bz).getD i default).fr
     ·have J: ¬(((fL k m.bz).getD (i-1) default).to:Int)>=((fL k m.bz).getD i default).fr:=by omega
      simp(disch:=omega) only[go_sem,simprocAttr,e6,j,I,G,t2.cn,t2.cE,hf,T,Q,t,↓Y,↓X,S,J];omega
     ·have J: (((fL k m.bz).getD (i-1) default).to:Int)>=((fL k m.bz).getD i default).fr:=by omega
      have c3: ((fL k m.bz).getD i default).c.op=20:=hat.resolve_right c2;simp(disch:=omega) only[go_sem,simprocAttr,e6,j,I,G,t2.cn,t2.cE,hf,T,Q,t,↓g1,↓Y,↓X,S,J,c3];omega
    ·omega
   ·exact r _
theorem azO: ∃E,D XC (.fn (.func 3) [] []) [.agg (fA np pv bh)] ⟨[],none⟩=some (.ret (.bool true) E):=by
 obtain⟨b,a,E,rfl⟩:=azL h [] none
 grind
end
end
set_option maxHeartbeats 1000000 in
set_option maxRecDepth 100000 in
def azP(n:Nat)(f:0<n)(d:n<=1024)(w:World):
  Calls Tryz.prog 192 #[.slice none 0 0,.int .i64 n] w λe w'=> ∃cs:Array Value,e= .returned (.slice (some ⟨w.heap.size,0,none⟩) 0 (grownCap w n 0 fF))/\w'=w.drew.alloc (.cells cs fF)/\cs.size=grownCap w n 0 fF*2:=by
 go_enter Tryz.func192,Tryz.ntmps192
 have c:Tryz.t100.bytes=16:=by kernel_rfl
 have b:Builtin.nextslicecap n 0=n:=by unfold Builtin.nextslicecap;simp;omega
 go_wp2
 all_goals first
  | (exfalso;simp only[c,b]at*;omega)
  | (go_ret;refine⟨rfl,_,rfl,?_⟩;have a:=aA9 w n 0 fF;unfold grownCap fF at a⊢;simp only[aBv,aBp,aBl,aeV,anu];generalize(Question.appendCap n 0 _).cut _=q at*;omega)
set_option maxHeartbeats 1000000 in
set_option maxRecDepth 100000 in
def azQ(w:World):
  Calls Tryz.prog 192 #[.slice none 0 0,.int .i64 0] w λe w'=>e= .returned (.slice none 0 0)/\w'=w:=by
 go_enter Tryz.func192,Tryz.ntmps192
 go_wp2
 all_goals(go_ret;exact⟨rfl,rfl⟩)
def azR{f:Nat}{fn:Func}(d:Tryz.prog.funcs[f]?=some fn)(g:fn.body.isSome=true)(a: (fn.name== "runtime.NumGoroutine")=false)(args:Array Value)(w:World):
  (callFunc f args).run Tryz.prog w= .ok (.enter f args) w:=by
 have b: ¬fn.name= "runtime.NumGoroutine" :=by grind
 obtain⟨c,e⟩:=atY.1 g;simp[callFunc,arH,d,b,e]
def azS(B:Nat)(b:World):gX Tryz.prog B b 192 Cc:=by
 intro args E s h G w a hw i;rw[azR (f:=192) (fn:=Tryz.f192) Tryz.func192 (by rfl) (by rfl)];show CallsIn (W none) 0 Tryz.prog _ a w _;rw[amZ];refine callsIn_wide.2 ?_;unfold Cc at h;split at h
 ·rename_i n;simp only[aG]at i;obtain⟨v0,q,r,rfl,v1,p,rfl,rfl,rfl⟩:=i;obtain rfl:a= #[.slice none 0 0,.int .i64 n]:=by grind
  split at h
  ·rename_i g;subst g;cases h;refine(azQ w).mono ?_;rintro e w' ⟨rfl,rfl⟩;exact⟨G,G.le_refl,hw,rfl,.refl _⟩
  ·split at h
   ·rename_i g;obtain⟨k,rfl⟩: ∃k:Nat,n=k:=⟨n.toNat,by omega⟩;cases h;refine(azP k (by omega) (by omega) w).mono ?_;rintro e w' ⟨cs,rfl,rfl,d⟩;obtain⟨m,o,v2,e1,g1,g2,l,j⟩:=Gs hw (sz:=2) (af:=[]) (c:=cs) (vs:=[]) (post:=cs.toList) (w':=w.drew) fF rfl (λel h=>by cases h) rfl (λv h=>by cases h) d (adC _) 0 rfl rfl hw.drew;cases e1;exact⟨m,g1,g2,l,j⟩
   ·cases h
 grind
end Go.Proofs.YteplichagkpciaaGreatDoor
