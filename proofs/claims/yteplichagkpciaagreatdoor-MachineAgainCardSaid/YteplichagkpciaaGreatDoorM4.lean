/- What functions do; conditions as stated. -/
import Derived.Test.YteplichagkpciaaGreatDoorM3
import Derived.KernelRfl
import Derived.Test.YteplichagkpciaaGreatDoorProg
import Derived.WalkKit
import Derived.Lib.AppendZerosOnto
set_option linter.all false
set_option maxRecDepth 10000
set_option maxHeartbeats 1000000
namespace Go.Proofs.YteplichagkpciaaGreatDoor
open Go Go.Den Go.RowKit
variable{n t aa i M p q j k sz:Nat}{x y:aB}{a:aB×bB}{c:cz}{m:aV}{qv ev pv kv v:AV}{aD aJ:Nat->AV}{lo:oN}{aC:List lB}
def avT:=@List.any_eq_true
def ayp:=@List.all_eq_false
structure RO(x:aB)(a:aB×bB):Prop where
 s:bm a.1.s
 back:a.1.back=x.back
 w:a.2.w<4294967296
 v:a.2.v<18446744073709551616
def avW{r:df}(h:fR r){l:List aF}(d:n<=2048)(b: ∀x∈l,1<=x.2/\x.1+x.2<=64)(c:aU l<=64):fR {r with runs:=l,len:=n}:=⟨h.up,h.du,d,h.cells,b,c⟩
theorem TS{b:Bool}{e:Nat}{u:Unit}(h:ask b e= .ok u):b=true:=by
 unfold ask at h;grind
theorem avX{l:List aF}{r:aF}(h:oV (l++[r]) n=true):1<=r.2/\r.1+r.2<=64:=by
 unfold oV at h;rw[Ku]at h;simp only[afJ]at h;cases hm:l7 [] l with
 |none=>grind
 |some m=>
  rw[hm]at h;unfold l7 at h;cases b:iw m r with
  |none=>grind
  |some a=>
   unfold iw at b;split at b
   ·rename_i c;unfold kK at c
    grind
   grind
def Lh{h:Nat}(b:bm x.s)(c:h<4294967296)(e:mX x h t= .ok y):bm y.s/\y.back=x.back:=by
 obtain⟨_,_,e⟩:=bo e;cases e;exact⟨b.uT (b.O.iw c),rfl⟩
def TT{h:Nat}{r:df}(b:bm x.s)(c:fR r)(e:nQ x h r= .ok y):bm y.s/\y.back=x.back:=by
 obtain⟨_,_,e⟩:=bo e;cases e;exact⟨b.uS (b.gv.set c),rfl⟩
def TU{h:Nat}(b:bm x.s)(e:wy x h= .ok y):bm y.s/\y.back=x.back:=by
 obtain⟨_,_,e⟩:=bo e;cases e;exact⟨b.uS (b.gv.cut h),rfl⟩
section
variable{x:aB}(hx:mo x){a:aB×bB}
include hx
theorem avY(h:wz x= .ok a):RO x a:=by
 unfold wz at h;have b: (hY x.s.T x.c.r (min x.c.a 65)).2.1<4294967296:=ahu hx.s.T.b;have c:bm (x.t (hY x.s.T x.c.r (min x.c.a 65)).1).s:=hx.s.uS (hx.s.gv.new _ _ hx.c.r);by_cases d:x.c.r=0
 ·simp only[d,ne_eq,not_true,ahz,aeE]at h;obtain⟨_,_,h⟩:=bo h;obtain⟨y,e,h⟩:=bo h;cases h;rw[d]at b c;obtain⟨g,f⟩:=Lh c b e;exact⟨g,f,b,by show 0<18446744073709551616;omega⟩
 ·simp only[d,ne_eq,not_false_eq_true,ahz,aeE]at h;obtain⟨_,_,h⟩:=bo h;obtain⟨_,_,h⟩:=bo h;obtain⟨y,e,h⟩:=bo h;cases e;cases h;exact⟨c,rfl,b,by show 0<18446744073709551616;omega⟩
theorem ajZ{w:Nat}(h:uF x w= .ok a):RO x a/\a.2=bO:=by
 obtain⟨_,_,h⟩:=bo h;obtain⟨_,_,h⟩:=bo h;obtain⟨_,_,h⟩:=bo h;obtain⟨_,_,h⟩:=bo h;cases h;exact⟨⟨hx.s,rfl,by show 0<4294967296;omega,by show 0<18446744073709551616;omega⟩,rfl⟩
theorem avZ(h:Bi x= .ok a):RO x a:=by
 obtain⟨_,_,h⟩:=bo h;obtain⟨_,_,h⟩:=bo h;obtain⟨y,e,h⟩:=bo h;obtain⟨z,g,h⟩:=bo h;cases h;obtain⟨f,d⟩:=TU hx.s e;obtain⟨c,b⟩:=Lh f hx.c.r g;exact⟨c,b.trans d,by show 0<4294967296;omega,by show 0<18446744073709551616;omega⟩
theorem av0(h:Bj x= .ok a):RO x a:=by
 obtain⟨_,_,h⟩:=bo h;obtain⟨_,_,h⟩:=bo h;obtain⟨_,_,h⟩:=bo h;cases h;exact⟨hx.s.uS (hx.s.gv.asC _ _ hx.c.s),rfl,by show 0<4294967296;omega,by show 0<18446744073709551616;omega⟩
theorem av1(h:Bk x= .ok a):RO x a:=by
 obtain⟨_,_,h⟩:=bo h;obtain⟨y,e,h⟩:=bo h;obtain⟨_,_,h⟩:=bo h;cases h;obtain⟨b,c⟩:=TU hx.s e;exact⟨b.uT (b.O.freeze hx.c.r),c,by show 0<4294967296;omega,by show 0<18446744073709551616;omega⟩
theorem av2(h:yT x= .ok a):RO x a:=by
 obtain⟨_,_,h⟩:=bo h;obtain⟨_,_,h⟩:=bo h;obtain⟨_,_,h⟩:=bo h;cases h;exact⟨hx.s.uT (hx.s.O.held hx.c.r),rfl,by show 0<4294967296;omega,by show 0<18446744073709551616;omega⟩
theorem av3(b: ∀t,(kN x.s.K t).2.1<4294967296)(h:uG x= .ok a):RO x a:=by
 unfold uG at h;obtain⟨_,_,h⟩:=bo h;obtain⟨_,_,h⟩:=bo h;obtain⟨_,_,h⟩:=bo h
 try rfl
 have d:=hx.t;have c:sB ⟨x.c.r,x.aa % 256,x.c.a % 256,decide (x.c.b=1),x.c.s⟩:=⟨hx.c.r,amw _ (by omega),amw _ (by omega),hx.c.s⟩;split at h
 ·obtain⟨_,_,h⟩:=bo h;obtain⟨_,_,h⟩:=bo h;cases h;exact⟨hx.s.BL (hx.s.tok.ahp c),rfl,b _,by show 0<18446744073709551616;omega⟩
 ·obtain⟨_,_,h⟩:=bo h;obtain⟨_,_,h⟩:=bo h;obtain⟨_,_,h⟩:=bo h;cases h;exact⟨hx.s.BL (hx.s.tok.ahp c),rfl,b _,by show 0<18446744073709551616;omega⟩
theorem av4(h:Bm x= .ok a):RO x a:=by
 obtain⟨_,_,h⟩:=bo h;obtain⟨_,_,h⟩:=bo h;cases h;exact⟨hx.s.BL (hx.s.tok.ret _),rfl,by show 0<4294967296;omega,by show 0<18446744073709551616;omega⟩
theorem av5(h:Bn x= .ok a):RO x a:=by
 obtain⟨_,_,h⟩:=bo h;cases h;exact⟨hx.s.BM (hx.s.bx _).close,rfl,by show 0<4294967296;omega,by show 0<18446744073709551616;omega⟩
theorem av6(h:uH x= .ok a):RO x a:=by
 obtain⟨_,_,h⟩:=bo h;cases h;exact⟨hx.s.SN,rfl,by show 0<4294967296;omega,by show 0<18446744073709551616;omega⟩
theorem av7(h:sj x= .ok a):RO x a:=by
 unfold sj at h;obtain⟨c,hm⟩:=(hx.s.bx x.aa).take;have b:bm (x.bx x.aa (l9 (x.s.cY x.aa)).1).s:=hx.s.BM c
 try dsimp only at h
 obtain⟨_,_,h⟩:=bo h;split at h
 ·obtain⟨y,e,h⟩:=bo h;cases h;obtain⟨f,d⟩:=Lh b hm.aN e;exact⟨f,d,hm.aN,hm.word⟩
 ·obtain⟨y,e,h⟩:=bo h;cases e;cases h;exact⟨b,rfl,hm.aN,hm.word⟩
theorem av8(e:x.run.1<=64/\x.run.2<=64)(h:mc x= .ok a):RO x a:=by
 unfold mc at h
 try dsimp only at h
 have d:=hx.s.T.get x.c.r;cases m:oX (min x.c.a 129) (min x.c.b 9)with
 |none=>rw[m]at h;cases h
 |some n=>
  rw[m]at h;obtain⟨_,e1,h⟩:=bo h;cases e1;obtain⟨_,_,h⟩:=bo h;obtain⟨_,_,h⟩:=bo h;split at h
  ·rename_i k u;obtain⟨z,l,h⟩:=bo h;cases h;have b:k+min x.c.a 129<=2048:=by
    have:=BN u;have:=d.aU;omega
   obtain⟨j,i⟩:=TT (r:={(aL x.s.T x.c.r).1 with len:=k+min x.c.a 129}) hx.s ⟨d.up,d.du,b,d.cells,d.runs,d.aU⟩ l;exact⟨j,i,by show 0<4294967296;omega,by show k<18446744073709551616;omega⟩
  ·obtain⟨_,g,h⟩:=bo h;have g:=TS g
   try dsimp only at h
   split at h
   ·cases h;exact⟨hx.s,rfl,by show 0<4294967296;omega,by show 0<18446744073709551616;omega⟩
   ·obtain⟨_,hm,h⟩:=bo h;have hm:=TS hm;obtain⟨z,l,h⟩:=bo h;cases h;simp only[aje]at g;simp only[afJ,aje]at hm;have t:=ahv (aL x.s.T x.c.r).1.runs x.run;have o:=d.du;have p:=d.aU;have f:1<=x.run.2/\x.run.1+x.run.2<=64:=avX hm.2;have b: (match gP ((aL x.s.T x.c.r).1.runs++[x.run]) (aU (aL x.s.T x.c.r).1.runs*32) (min x.c.a 129) (min x.c.b 9)with|some a=>a+min x.c.a 129|none=>aU (aL x.s.T x.c.r).1.runs*32)<=2048:=by
     split
     ·rename_i q;exact afI (BN q) (by omega)
     ·exact afI (ajX 32 (show _<=64 by omega)) (by decide)
    obtain⟨j,i⟩:=TT (x:={s:=x.s,aa:=x.aa,c:=x.c,run:=x.run,ma:=n,asks:=x.asks,back:=x.back}) hx.s (avW d b (λr e=>by
     rcases ac8.1 e with e|e
     ·exact d.runs r e
     ·rw[ada.1 e];exact f) (by omega)) l
    refine⟨j,i,by show 0<4294967296;omega,?_⟩;show(gP ((aL x.s.T x.c.r).1.runs++[x.run]) (aU (aL x.s.T x.c.r).1.runs*32) (min x.c.a 129) (min x.c.b 9)).getD 0<_;cases q:gP ((aL x.s.T x.c.r).1.runs++[x.run]) (aU (aL x.s.T x.c.r).1.runs*32) (min x.c.a 129) (min x.c.b 9)with
    |none=>show 0<_;omega
    |some k=>have:=BN q;show k<_;omega
theorem av9(h:sk x= .ok a):RO x a:=by
 unfold sk at h;obtain⟨_,_,h⟩:=bo h;have key:ez (mW x.s.T x.c.r (min x.c.a 8) x.c.s (decide ((b0 x.s.O x.s.T x.c.s).kind=3))).1:=by
  rw[ahg];split
  ·exact hx.s.gv.set ((hx.s.T.get x.c.r).setCells λi=>by
    unfold aq;split
    ·exact hx.c.s
    ·exact(hx.s.T.get x.c.r).cells i)
  ·exact hx.s.gv
 try rfl
 split at h
 ·obtain⟨_,_,h⟩:=bo h
  try rfl
  obtain⟨_,_,h⟩:=bo h;cases h;exact⟨hx.s.uS key,rfl,by show 0<4294967296;omega,by show 0<18446744073709551616;omega⟩
 ·try dsimp only at h
  obtain⟨_,_,h⟩:=bo h;cases h;exact⟨hx.s.uS key,rfl,by show 0<4294967296;omega,by show 0<18446744073709551616;omega⟩
theorem awa(h:Bo x= .ok a):RO x a:=by
 obtain⟨_,_,h⟩:=bo h;obtain⟨_,_,h⟩:=bo h;cases h;refine⟨hx.s,rfl,?_,by show 0<18446744073709551616;omega⟩;unfold si;split
 ·simp
 ·split
  ·simp
  ·dsimp only;split
   ·simp
   ·split
    ·simp
    ·exact(hx.s.T.get x.c.r).cells _
theorem awb(h:qG x= .ok a):RO x a:=by
 unfold qG at h;obtain⟨_,_,h⟩:=bo h;obtain⟨_,_,h⟩:=bo h
 try dsimp only at h
 have j:=hx.t;have hm: ∀b,uP ⟨x.aa % 256,x.c.v,x.c.r,b⟩:=λb=>⟨by grind,hx.c.v,hx.c.r⟩
 have fin: ∀ (y:aB) (b:Bool),bm y.s->y.back=x.back->(cC (nP (y.s.cY x.c.a) ⟨x.aa % 256,x.c.v,x.c.r,b⟩).2>>=λ_=>(Pure.pure (y.bx x.c.a (nP (y.s.cY x.c.a) ⟨x.aa % 256,x.c.v,x.c.r,b⟩).1,bO):R (aB×bB)))= .ok a->RO x a:=by
  intro y b d g h;obtain⟨_,_,h⟩:=bo h;cases h;exact⟨d.BM ((d.bx _).put (hm b)),g,by show 0<4294967296;omega,by show 0<18446744073709551616;omega⟩
 split at h
 ·obtain⟨_,_,h⟩:=bo h
  try dsimp only at h
  obtain⟨y,e,h⟩:=bo h;cases e;refine fin _ _ ?_ ?_ h
  ·split
   ·exact hx.s.uT (hx.s.O.held hx.c.r)
   ·exact hx.s
  ·split<;>rfl
 ·split at h
  ·obtain⟨_,_,h⟩:=bo h;obtain⟨y,e,h⟩:=bo h;obtain⟨f,i⟩:=TU hx.s e
   try dsimp only at h
   obtain⟨_,_,h⟩:=bo h;obtain⟨z,c,h⟩:=bo h;cases c;exact fin (y.o (wo y.s.O y.s.T x.c.r).1) _ (f.uT (f.O.fly hx.c.r)) i h
  ·obtain⟨z,c,h⟩:=bo h;cases c;exact fin _ _ hx.s rfl h
end
structure GI(y:aB):Prop where
 s:bm y.s
 eK:Go.Proofs.YteplichagkpciaaGreatDoor.eK y<=2048
 runs: ∀r∈y.back,r.1<=64/\r.2<=64
def GI.len(h:GI y):y.back.length<=4096:=by have:=h.eK;unfold Go.Proofs.YteplichagkpciaaGreatDoor.eK at this;omega
theorem GI.set{z:aB}(h:GI y)(b:bm z.s)(c:z.back=y.back)(d:z.s.T=y.s.T):GI z:=
 ⟨b,by have:=h.eK;unfold Go.Proofs.YteplichagkpciaaGreatDoor.eK at*;grind,by rw[c];exact h.runs⟩
theorem aj0: ∀ (l:lN) (y:aB),bm y.s->(∀r∈y.back,r.1<=64/\r.2<=64)-> ∀r∈(l.foldl iN y).back,r.1<=64/\r.2<=64
 | [],_,_,h=>h
 |a::l,y,c,h=>aj0 l (iN y a) (SS [a] y c) λr b=>by
  rcases ac8.1 (show r∈y.back++(aL y.s.T a).1.runs from b)with b|b
  ·grind
  ·have:=(c.T.get a).runs r b;omega
def GI.gone(h:GI y)(a:Nat):GI (gy y a):=⟨S1 h.s a,afI (SZ h.s a) h.eK,aj0 _ y h.s h.runs⟩
def GI.kc{z:aB}{a:Nat}(h:GI y)(c:a<4294967296)(b:kQ y a aa= .ok z):GI z:=by
 obtain⟨_,_,b⟩:=bo b;have d:GI (y.o (dv y.s.O y.s.T a aa false).1):=h.set (h.s.uT (h.s.O.held c)) rfl rfl;cases b;split
 ·exact d.gone a
 omega
theorem GI.foldlM{β:Type}{P:β->Prop}{f:aB->β->R aB}(d: ∀y b z,GI y->P b->f y b= .ok z->GI z): ∀ (l:List β) (y z:aB),(∀b∈l,P b)->GI y->l.foldlM f y= .ok z->GI z
 | [],y,z,_,h,e=>by cases e;exact h
 |b::l,y,z,g,h,e=>by
  obtain⟨w,e1,j⟩:=bo (show(f y b>>=λw=>l.foldlM f w)= .ok z from by grind);exact GI.foldlM d l w z (λc i=>g c (aew _ i)) (d y b w h (g b (ahM ..)) e1) j
theorem GI.foldl{β:Type}{f:aB->β->aB}(c: ∀y b,GI y->GI (f y b)): ∀ (l:List β) (y:aB),GI y->GI (l.foldl f y)
 | [],_,h=>h
 |b::l,y,h=>GI.foldl c l (f y b) (c y b h)
def GI.dies(h:GI x)(e:oY x aa= .ok y):GI y:=by
 rw[ahG]at e;obtain⟨w,e1,g⟩:=bo e;have q:GI (uX x aa):=h.set ((h.s.BM iR.gone).SN) rfl rfl;have p:GI w:=GI.foldlM (P:=uP) (λy m z b hm e=>by
  unfold BP at e;split at e
  ·cases e;exact b
  ·split at e
   ·obtain⟨k,j⟩:=Lh b.s hm.aN e;obtain⟨_,_,e⟩:=bo e;cases e;exact b.set k j rfl
   ·cases e;exact b.gone _) _ _ _ (λm hm=>by
    obtain⟨i,_,rfl⟩:=ael.1 hm;exact(h.s.bx aa).ring _) q e1
 unfold S3 at g;have o:=GI.foldl (f:=λy h=>y.k (l8 y.s.K h).1) (λy a b=>b.set (b.s.BL (b.s.tok.ret a)) rfl rfl) (wq w.s.K aa) w p;have d:=λl=>GI.foldl (f:=gy) (λy a b=>b.gone a) l _ o
 refine GI.foldlM (P:=λa=>a<4294967296) (λy a z b c e=>b.kc c e) _ _ _ (λa c=>?_) (d _) g;have n:=(aey.1 c).1;exact gi ((jg (d _).s.T.b).1 n)
theorem GI.start{s:bF}(d:bm s)(aa:Nat)(c:cz)(run:aF)(n:Nat)(b:Bool):GI ⟨s,aa,c,run,n,b,[]⟩:=by
 refine⟨d,?_,λr e=>by grind⟩;have:=mR s.T.b;show([]:List aF).length+64*(bn s.T.b).length<=2048
 grind
structure RD(c:cz)(a:aB×bB):Prop where
 s:bm a.1.s
 len:a.1.back.length<=4096
 runs: ∀r∈a.1.back,r.1<=64/\r.2<=64
 v:c.op=3->a.2.v=0
 w:a.2.w<4294967296
 v2:a.2.v<18446744073709551616
def RO.d(h:RO x a)(b:GI x)(d:c.op=3->a.2.v=0):RD c a:=
 ⟨h.s,by rw[h.back];exact b.len,by rw[h.back];exact b.runs,d,h.w,h.v⟩
def GI.d(h:GI y):RD c (y,bO):=⟨h.s,h.len,h.runs,λ_=>rfl,by show 0<4294967296;omega,by show 0<18446744073709551616;omega⟩
theorem awc(hx:mo x)(d:GI x)(h:yN x= .ok a):RD x.c a:=by
 unfold yN at h;obtain⟨_,_,h⟩:=bo h;obtain⟨_,_,h⟩:=bo h
 try rfl
 obtain⟨y,e,h⟩:=bo h;cases h;have b:=hx.s.T.get x.c.r;have c:fR {dG with du:=(aL x.s.T x.c.r).1.du}:=⟨by simp[dG],b.du,by simp[dG],by simp[dG],by simp[dG],by simp[dG,aU]⟩;obtain⟨g,f⟩:=TT (x:={x with back:=x.back++(aL x.s.T x.c.r).1.runs}) hx.s c e;have i: (aL x.s.T x.c.r).1.runs.length<=64:=afI (Sl λr h=>(b.runs r h).1) b.aU;refine⟨g,?_,?_,λ_=>rfl,by show 0<4294967296;omega,by show 0<18446744073709551616;omega⟩
 ·rw[f];have:=d.eK;unfold eK at this
  grind
 ·rw[f];intro r hm;rcases ac8.1 (show r∈x.back++(aL x.s.T x.c.r).1.runs from hm)with hm|hm
  ·exact d.runs r hm
  ·have:=b.runs r hm;omega
def awd(b:GI x)(h:yO x= .ok a):RD x.c a:=by
 obtain⟨_,_,h⟩:=bo h;cases h;exact(b.gone _).d
def awe(hx:mo x)(b:GI x)(h:Bl x= .ok a):RD x.c a:=by
 obtain⟨_,_,h⟩:=bo h;obtain⟨y,e,h⟩:=bo h;cases h;exact(b.kc hx.c.r e).d
def aj1(b:GI x)(h: (oY x t>>=λy=>.ok (y,bO))= .ok a):RD x.c a:=by
 obtain⟨y,e,h⟩:=bo h;cases h;exact(b.dies e).d
theorem awf{k:bh}(c:gO k.b){x:Tok}: (kN k x).2.1<4294967296:=by
 unfold kN;split
 ·simp
 ·split
  ·rename_i i b;split
   ·exact EJ (sg b).1 (c i).1
   grind
  grind
def awg(hx:mo x)(b:GI x)(c:x.run.1<=64/\x.run.2<=64)(h:lu x= .ok a):RD x.c a:=by
 unfold lu at h;split at h
 all_goals try(rename_i ho;first
  |exact(avY hx h).d b (λq=>absurd (ho ▸ q) (by decide))
  |exact(av8 hx c h).d b (λq=>absurd (ho ▸ q) (by decide))
  |exact(ajZ hx h).1.d b (λq=>afW bB.v (ajZ hx h).2)
  |exact awc hx b h
  |exact awd b h
  |exact awe hx b h
  |exact aj1 b h
  |exact(avZ hx h).d b (λq=>absurd (ho ▸ q) (by decide))
  |exact(av0 hx h).d b (λq=>absurd (ho ▸ q) (by decide))
  |exact(av1 hx h).d b (λq=>absurd (ho ▸ q) (by decide))
  |exact(av2 hx h).d b (λq=>absurd (ho ▸ q) (by decide))
  |exact(av3 hx (λt=>awf hx.s.K.b) h).d b (λq=>absurd (ho ▸ q) (by decide))
  |exact(av4 hx h).d b (λq=>absurd (ho ▸ q) (by decide))
  |exact(awb hx h).d b (λq=>absurd (ho ▸ q) (by decide))
  |exact(av7 hx h).d b (λq=>absurd (ho ▸ q) (by decide))
  |exact(av5 hx h).d b (λq=>absurd (ho ▸ q) (by decide))
  |exact(av9 hx h).d b (λq=>absurd (ho ▸ q) (by decide))
  |exact(awa hx h).d b (λq=>absurd (ho ▸ q) (by decide))
  |exact(av6 hx h).d b (λq=>absurd (ho ▸ q) (by decide)))
 ·unfold Bp at h;obtain⟨_,_,h⟩:=bo h;exact aj1 b h
 ·cases h
theorem aj2{s:bF}(d:bm s)(j:jE c){run:aF}(f:run.1<=64/\run.2<=64):qZ (db s aa c run) c/\ (db s aa c run).2.1.v<18446744073709551616:=by
 rw[atP];cases h:jh ⟨s,aa,c,run,0,false,[]⟩with
 |error e=>
  have:=(ahW h).2;exact⟨⟨d,by simp,λr f=>(by grind),λ_=>by show 0<18446744073709551616;omega,by show 0<4294967296;omega,by grind⟩,by show 0<18446744073709551616;omega⟩
 |ok a=>
  obtain⟨y,r⟩:=a;have he:=S6 h;obtain⟨_,g,h⟩:=bo (show(ask _ _>>=λ_=>lu _)=_ from h);have g:=TS g;have i:aa<8:=by grind
  have b:=awg (x:=⟨s,aa,c,run,0,false,[]⟩) ⟨d,i,j,by grind,by grind⟩ (GI.start d ..) f h;exact⟨⟨b.s,b.len,b.runs,λq=>by rw[show r.v=0 from b.v q];decide,b.w,by grind⟩,b.v2⟩
def TV{s:bF}(b:bm s)(e:jE c){run:aF}(d:run.1<=64/\run.2<=64):qZ (db s aa c run) c:=(aj2 b e d).1
structure SK(s:bM)(c0:cz)(n:Nat):Prop where
 S:bm s.x.S
 P:fN s.x.P
 M: ∀i,gF (s.x.M i)
 Q: ∀k∈s.x.Q,k<2147483648
 len:s.x.Q.length<=n
 c:fI s.c
 run:s.c.run.1<=64/\s.c.run.2<=64
 cc:s.c.c=c0
 w:s.r.w<4294967296
 e:s.r.e<4294967296
 v:s.r.v<18446744073709551616
theorem aj3: ∀ (l:lN) (f g:Nat->Nat) (P:cQ),fN P->(∀i,g i<256)->fN (l.foldl (λP i=>ss P (f i) (g i)) P)
 | [],_,_,_,a,_=>a
 |i::l,f,g,P,a,b=>aj3 l f g _ (a.write _ _ (b i)) b
section
variable{s:bM}{c0:cz}{n:Nat}(h:SK s c0 n)
include h
theorem SK.ie:jE c0:=h.cc ▸ h.c.ie
theorem SK.ends{r:bB}(b:r.w<4294967296)(e:r.e<4294967296)(c:r.v<18446744073709551616):SK (mY s r) c0 (n+64):=by
 refine⟨h.S,h.P,Tb h.M _,λk a=>?_,?_,h.c,h.run,h.cc,b,e,c⟩
 ·rcases ac8.1 (show k∈s.x.Q++iO s.c.run from a)with a|a
  ·exact h.Q k a
  ·obtain⟨i,d,rfl⟩:=ael.1 a;have:=ame.1 d;have:=h.run;omega
 ·show(wC _ _).Q.length<=_;rw[ajI];have:=h.len;have:=h.run;omega
theorem SK.check(b: ∀a∈sq s.x.S c0,a<4294967296):SK (j9 s).1 c0 (n+64):=by
 have c:=h.len;unfold j9;rw[h.cc];split
 ·exact⟨h.S,h.P,h.M,h.Q,by grind,h.c,h.run,h.cc,h.w,h.e,h.v⟩
 split
 ·exact⟨h.S,h.P,h.M,h.Q,by grind,h.c,h.run,h.cc,h.w,h.e,h.v⟩
 split
 ·refine h.ends (by show 0<_;omega) ?_ (by show 0<_;omega);show nR s.x.S s.c.aa c0<_;unfold nR;split
  ·omega
  ·exact(TV h.S h.ie (run:=(0,0)) ⟨by simp,by simp⟩).e
 ·exact⟨h.S,h.P,h.M,h.Q,by grind,⟨h.c.aa,h.c.ie,b,h.c.run,h.c.eW⟩,h.run,h.cc,h.w,h.e,h.v⟩
theorem SK.marks:SK (mf s).1 c0 n:=by
 unfold mf;split
 ·exact h
 ·rename_i a l c;refine⟨h.S,h.P,aua h.M _,h.Q,h.len,?_,?_,?_,h.w,h.e,h.v⟩
  ·show fI (if(ia s.x.M (aO a) s.c.aa).2 then{s.c with aW:=l}else s.c);split
   ·exact⟨h.c.aa,h.c.ie,λb d=>h.c.aW b (by grind),h.c.run,h.c.eW⟩
   ·exact h.c
  ·show(if(ia s.x.M (aO a) s.c.aa).2 then{s.c with aW:=l}else s.c).run.1<=64/\ (if(ia s.x.M (aO a) s.c.aa).2 then{s.c with aW:=l}else s.c).run.2<=64;split
   ·exact h.run
   ·exact h.run
  ·show(if(ia s.x.M (aO a) s.c.aa).2 then{s.c with aW:=l}else s.c).c=c0;split
   ·exact h.cc
   ·exact h.cc
theorem SK.TW:SK (mg s).1 c0 (n+64):=by
 have d:=h.len;have c:=ai3 s.x.S s.c.aa s.c.c;unfold mg;dsimp only;split
 ·exact⟨h.S,h.P,h.M,h.Q,by grind,h.c,h.run,h.cc,h.w,h.e,h.v⟩
 have a:=h.P.ai1 (eU s.x.S s.c.aa s.c.c);split
 ·have b:SK {s with x:={s.x with P:=(ji s.x.P (eU s.x.S s.c.aa s.c.c)).1}} c0 n:=⟨h.S,a,h.M,h.Q,h.len,h.c,h.run,h.cc,h.w,h.e,h.v⟩;refine b.ends (by show 0<_;omega) ?_ (by show 0<_;omega);unfold ji
  grind
 ·rename_i he;have:=auM h.P _ (by omega) (Decidable.not_not.1 he);exact⟨h.S,a,h.M,h.Q,by grind,⟨h.c.aa,h.c.ie,h.c.aW,⟨by grind,by show eU _ _ _<_;omega⟩,h.c.eW⟩,⟨by show(ji _ _).2.1<=_;omega,by show eU _ _ _<=_;omega⟩,h.cc,h.w,h.e,h.v⟩
theorem SK.TX:SK (mh s).1 c0 n:=by
 unfold mh;split
 ·exact h
 ·have:=h.run;exact⟨h.S,h.P.clear _,h.M,h.Q,h.len,⟨h.c.aa,h.c.ie,h.c.aW,h.c.run,by grind⟩,h.run,h.cc,h.w,h.e,h.v⟩
theorem SK.eG:SK (Go.Proofs.YteplichagkpciaaGreatDoor.eG s) c0 (n+64):=by
 have c:=h.len;unfold Go.Proofs.YteplichagkpciaaGreatDoor.eG;split
 ·have b:=h.run;refine⟨h.S,h.P,h.M,λk a=>?_,?_,⟨h.c.aa,h.c.ie,h.c.aW,⟨by simp,by simp⟩,h.c.eW⟩,⟨by simp,by simp⟩,h.cc,h.w,h.e,h.v⟩
  ·rcases ac8.1 (show k∈s.x.Q++iO s.c.run from a)with a|a
   ·exact h.Q k a
   ·obtain⟨i,d,rfl⟩:=ael.1 a
    grind
  ·show(s.x.Q++iO s.c.run).length<=_;rw[ac6];have: (iO s.c.run).length=s.c.run.2:=by simp[iO]
   omega
 ·exact⟨h.S,h.P,h.M,h.Q,by omega,h.c,h.run,h.cc,h.w,h.e,h.v⟩
theorem SK.TY:SK (uI s) c0 (n+262400):=by
 rw[ajh];have a:=h.eG;generalize Go.Proofs.YteplichagkpciaaGreatDoor.eG s=st at a;obtain⟨b,d⟩:=aj2 a.S a.ie (aa:=st.c.aa) (run:=st.c.run) a.run;unfold K6;rw[a.cc];dsimp only;split
 ·have:=a.ends b.w b.e d;exact⟨this.S,this.P,this.M,this.Q,by have:=this.len;omega,this.c,this.run,this.cc,this.w,this.e,this.v⟩
 ·have v:=a.len;have q:=b.len;have w:fN (zr st.x.P c0 (gz st.x.S c0).1):=by
   unfold zr;split
   ·exact aj3 _ _ _ _ a.P λi=>amw _ (by omega)
   ·exact a.P
  generalize t: ({st.x with S:=(db st.x.S st.c.aa c0 st.c.run).1,P:=zr st.x.P c0 (gz st.x.S c0).1}:Core)=X;have e:X.Q=st.x.Q:=by grind
  have j:X.M=st.x.M:=by grind
  have g:fN X.P:=by grind
  have f:bm X.S:=by rw[<-t];exact b.S
  obtain⟨o,m,l⟩:=Tv (db st.x.S st.c.aa c0 st.c.run).2.2 X;have k:=BS (db st.x.S st.c.aa c0 st.c.run).2.2 X λr p=>(b.runs r p).2
  have u:SK {st with x:=(db st.x.S st.c.aa c0 st.c.run).2.2.foldl cO X,c:={st.c with run:=(0,0)}} c0 (n+262336):=
   ⟨o ▸ f,m ▸ g,by rw[show((db st.x.S st.c.aa c0 st.c.run).2.2.foldl cO X).M=X.M from l,j];exact a.M,Tw _ X b.runs (by rw[e];exact a.Q),by
     rw[e]at k;exact afI k (by omega),⟨a.c.aa,a.c.ie,a.c.aW,⟨by show 0<_;omega,by show 0<_;omega⟩,a.c.eW⟩,⟨by show 0<=_;omega,by show 0<=_;omega⟩,a.cc,a.w,a.e,a.v⟩
  refine u.ends b.w b.e ?_;show zs _ _ _ _<_;unfold zs;split
  ·exact Tr a.P _ _ d _ (ai6 a.S c0).1
  omega
theorem SK.mono{m:Nat}(a:n<=m):SK s c0 m:=⟨h.S,h.P,h.M,h.Q,by have:=h.len;omega,h.c,h.run,h.cc,h.w,h.e,h.v⟩
end
theorem awh{t:aw}(c:ez t){h a:Nat}(b:a∈under t h):t.az a=true:=by
 unfold under at b;split at b
 ·rename_i d;exact EN c.ok.b d b
 grind
def awi{s:bF}(g:bm s): ∀a∈sq s c,a<4294967296:=by
 have j: ∀h,∀a∈nS s h,a<4294967296:=λh a d=>by
  unfold nS at d;split at d
  ·rename_i i;rw[ada.1 d];exact gi i
  ·cases d
 have e: ∀h,∀a∈under s.T h,a<4294967296:=λh a d=>gi (awh g.gv d)
 intro a d;unfold sq at d;split at d
 ·exact j _ a d
 split at d
 ·exact e _ a d
 split at d
 ·split at d
  ·cases d
  ·rename_i f;split at d
   ·exact e _ a d
   ·rcases ac8.1 d with d|d
    ·exact e _ a d
    ·rw[ada.1 d];refine gi (b:=s.T.b) ?_;simp only[not_or,Bool.not_eq_false]at f;exact f.2
 (repeat' split at d)<;>first|exact j _ a d|exact e _ a d|cases d
def aj4{x:Core}{c:Call}(a:jG x)(i:fI c)(g:c.run.1<=64/\c.run.2<=64):SK (fT x c) c.c (x.Q.length+262528):=by
 have j:SK ⟨x,c,bO,false⟩ c.c x.Q.length:=⟨a.S,a.P,a.M,a.Q,aeg _,i,g,rfl,by show 0<_;omega,by show 0<_;omega,by show 0<_;omega⟩;have f:=j.check (awi a.S);have e:=f.marks;have d:=e.TW;have b:=d.TX;unfold fT;dsimp only;split
 ·exact f.mono (by omega)
 split
 ·exact e.mono (by omega)
 split
 ·exact d.mono (by omega)
 split
 ·exact b.mono (by omega)
 ·exact b.TY.mono (by omega)
def awj(h:dq m)(t:Nat): (fT m.ar (m.ay t).c).r.v<18446744073709551616:=(aj4 h.ar (h.c t) (h.run t)).v
def aj5(h:dq m)(e:m.ar.Q.length<2147483648)(t:Nat):ajV m t/\ (xb m t).ar.Q.length<=m.ar.Q.length+262528:=by
 have a:=aj4 h.ar (h.c t) (h.run t);have d:SK ⟨m.ar,(m.ay t).c,bO,false⟩ (m.ay t).c.c m.ar.Q.length:=⟨h.ar.S,h.ar.P,h.ar.M,h.ar.Q,aeg _,h.c t,h.run t,rfl,by show 0<_;omega,by show 0<_;omega,by show 0<_;omega⟩;have b:=d.eG;have c:=a.len;refine⟨⟨?_,⟨⟨a.S,a.P,a.M,a.Q,by show(fT _ _).x.Q.length<_;omega⟩,λj=>?_,λj=>?_,λj=>?_,h.now,h.ev,λj=>?_⟩,⟨a.w,a.e⟩,?_⟩,c⟩
 ·rw[b.cc];exact TV b.S (h.c t).ie b.run
 ·show kY (aq m.ay t _ j).t;unfold aq;split
  ·exact h.t t
  ·exact h.t j
 ·show fI (aq m.ay t _ j).c;unfold aq;split
  ·exact a.c
  ·exact h.c j
 ·show(aq m.ay t _ j).fr<_;unfold aq;split
  ·exact h.fr t
  ·exact h.fr j
 ·show(aq m.ay t _ j).c.run.1<=64/\ (aq m.ay t _ j).c.run.2<=64;unfold aq;split
  ·exact a.run
  ·exact h.run j
 ·rw[a.cc];exact(h.c t).ie.op
def awk{t:Task}(h:kY t){v:Nat}(a:v<18446744073709551616): ∀j,aq t.aW i v j<18446744073709551616:=λj=>by
 unfold aq;split
 ·omega
 ·exact h.aW j
def awl{t:Task}(h:kY t):kY (qP t):=by
 unfold qP;split
 ·exact h
 split
 ·exact h
 ·rename_i x c;have e:t.next<t.code.length:=(abQ.1 c).1;have f:=h.len;have b:=Fv h c;have a: ∀v,v<18446744073709551616->kY {t with aW:=aq t.aW (x.a % 8) v,next:=t.next+1}:=λv d=>
   ⟨h.len,h.ins,by show t.next+1<=64;omega,awk h d⟩
  dsimp only;split
  ·exact a _ (by have:=b.n;omega)
  split
  ·exact a _ (amw _ (by decide))
  split
  ·exact a _ (amw _ (by decide))
  split
  ·exact a _ (amw _ (by decide))
  split
  ·rename_i i;refine⟨h.len,h.ins,?_,h.aW⟩;show x.n<=64;exact b.j (.inl i)
  split
  ·rename_i g;refine⟨h.len,h.ins,?_,h.aW⟩;have:=b.j (.inr g);show(if _ then x.n else t.next+1)<=64;split
   ·omega
   ·exact afI e f
  ·exact⟨h.len,h.ins,by show t.next+1<=64;omega,h.aW⟩
theorem awm{t:Task}(h:kY t){r:bB}(c:r.v<18446744073709551616)(b:r.w<4294967296)(f:r.e<4294967296):kY (su t r):=by
 unfold su;split
 ·exact h
 ·rename_i x a;have d:t.next<t.code.length:=(abQ.1 a).1;have e:=h.len;split
  ·refine⟨h.len,h.ins,by grind,λj=>?_⟩;show aq (aq (aq t.aW (x.a % 8) r.v) 4 r.w) 7 r.e j<_;unfold aq;split
   ·omega
   ·split
    ·omega
    ·split
     ·omega
     ·exact h.aW j
  omega
structure ra(m:aV):Prop where
 ok:dq m
 q:m.ar.Q.length<=263200*m.now
 e:m.ca.length<=m.now
def dq.FC(h:dq m)(a:n<2147483648):dq {m with now:=n}:=⟨h.ar,h.t,h.c,h.fr,a,h.ev,h.run⟩
theorem dq.ended(h:dq m){c:Call}{run:aF}{r:bB}(b:r.v<18446744073709551616)(a:r.w<4294967296)(d:r.e<4294967296)(e:m.ca.length<2147483647):dq (Kb m t c run r):=by
 refine⟨h.ar,λj=>?_,λj=>?_,λj=>?_,h.now,?_,λj=>?_⟩
 ·show kY (aq m.ay t _ j).t;unfold aq;split
  ·exact awm (h.t t) b a d
  ·exact h.t j
 ·show fI (aq m.ay t _ j).c;unfold aq;split
  ·exact BX
  ·exact h.c j
 ·show(aq m.ay t _ j).fr<_;unfold aq;split
  ·exact h.fr t
  ·exact h.fr j
 ·show(m.ca++[_]).length<_
  grind
 ·show(aq m.ay t _ j).c.run.1<=64/\ (aq m.ay t _ j).c.run.2<=64;unfold aq;split
  ·exact⟨by show 0<=64;omega,by show 0<=64;omega⟩
  ·exact h.run j
structure FD(a b:aV):Prop where
 q:b.ar.Q.length<=a.ar.Q.length+262600
 e:b.ca.length<=a.ca.length+1
 n:b.now=a.now
theorem aj6(h:dq m)(c:m.ar.Q.length<2147483648)(b:m.ca.length<2147483647)(t:Nat):dq (o6 m t)/\FD m (o6 m t):=by
 obtain⟨a,d⟩:=aj5 h c t;rw[ajM];split
 ·refine⟨a.m'.ended (awj h t) a.r.1 a.r.2 b,by show(xb m t).ar.Q.length<=_;omega,?_,rfl⟩;show(m.ca++[_]).length<=_
  grind
 ·exact⟨a.m',by omega,by show m.ca.length<=_;omega,rfl⟩
def aj7(h:dq m)(c:m.ar.Q.length<2147483648)(b:m.ca.length<2147483647)(d:t<8):dq (qQ m t)/\FD m (qQ m t):=by
 unfold qQ;dsimp only;split
 ·exact aj6 h c b t
 split
 ·obtain⟨e,a⟩:=aj6 (m:=Lg m t) (h.wanted d) c b t;exact⟨e,a.q,a.e,a.n⟩
 ·refine⟨⟨h.ar,λj=>?_,λj=>?_,λj=>?_,h.now,h.ev,λj=>?_⟩,by simp,by simp,rfl⟩
  ·show kY (aq m.ay t _ j).t;unfold aq;split
   ·exact awl (h.t t)
   ·exact h.t j
  ·show fI (aq m.ay t _ j).c;unfold aq;split
   ·exact h.c t
   ·exact h.c j
  ·show(aq m.ay t _ j).fr<_;unfold aq;split
   ·exact h.fr t
   ·exact h.fr j
  ·show(aq m.ay t _ j).c.run.1<=64/\ (aq m.ay t _ j).c.run.2<=64;unfold aq;split
   ·exact h.run t
   ·exact h.run j
def awn:jE fy:=⟨by decide,by decide,by decide,by decide,by decide,by decide⟩
def aj8(h:dq m)(t:Nat):qZ (db m.ar.S t fy (0,0)) fy:=TV h.ar.S awn ⟨by simp,by simp⟩
theorem aj9(h:dq m)(g:m.ar.Q.length<2147483648)(f:m.ca.length<2147483647)(t:Nat):dq (yZ m t)/\FD m (yZ m t):=by
 have b:=aj8 h t;have d:=BS (db m.ar.S t fy (0,0)).2.2 m.ar λr c=>(b.runs r c).2
 have e:=b.len;have a:=jG.ajf (x:=m.ar) h.ar b.runs (by omega);refine⟨⟨⟨b.S,a.P,a.M,a.Q,a.Ql⟩,h.t,h.c,h.fr,h.now,?_,h.run⟩,?_,?_,rfl⟩
 ·show(m.ca++[_]).length<_
  grind
 ·exact afI d (by omega)
 ·show(m.ca++[_]).length<=_
  grind
def awo(h:dq m)(a:m.ar.Q.length<1073741824):dq (jz m)/\ (jz m).ar.Q.length<=m.ar.Q.length+512:=by
 obtain⟨c,b⟩:=TM h a 8 (by omega);exact⟨c,b⟩
theorem aka(m:aV)(i:Nat): (jy m i).ca=m.ca/\ (jy m i).now=m.now:=by unfold jy;grind
theorem Lk(m:aV): ∀k,(fW m k).ca=m.ca/\ (fW m k).now=m.now
 |0=>⟨rfl,rfl⟩
 |k+1=>by rw[zw];exact⟨(aka _ _).1.trans (Lk m k).1,(aka _ _).2.trans (Lk m k).2⟩
theorem akb{x:Core}(h:jG x):jG (iz x).1/\ (iz x).1.Q.length<=x.Q.length:=by
 unfold iz;split
 ·grind
 ·rename_i a l c;exact⟨⟨h.S,h.P.back _,h.M,λk b=>h.Q k (by grind),by have:=h.Ql;grind⟩,by grind⟩
theorem ra.clear{a:aV}(h:ra a)(e:dq m)(b:FD a {m with now:=a.now})(g:m.now=a.now+1)(i:a.now<=4000):ra (jz m):=by
 have o:m.ar.Q.length<=a.ar.Q.length+262600:=b.q;have n:m.ca.length<=a.ca.length+1:=b.e;have l:=h.q;have k:=h.e;obtain⟨f,j⟩:=awo e (by omega);obtain⟨d,c⟩:=Lk m 8;have d: (jz m).ca=m.ca:=d;have c: (jz m).now=m.now:=c;exact⟨f,by omega,by grind⟩
theorem TZ(h:ra m)(e:m.now<=4000)(b:Nat):ra (eX m b).1/\ (eX m b).1.now<=m.now+1:=by
 have g:=h.q;have he:=h.e;have c:=(h.ok.FC (n:=m.now+1) (by omega));have key: ∀m':aV,dq m'->FD m {m' with now:=m.now}->m'.now=m.now+1->ra (jz m')/\ (jz m').now<=m.now+1:=λm' d a f=>
  ⟨h.clear d a f e,by have: (jz m').now=m'.now:=(Lk m' 8).2;omega⟩
 unfold eX;dsimp only;split
 ·grind
 split
 ·split
  ·obtain⟨d,a⟩:=akb h.ok.ar;exact key _ ⟨d,h.ok.t,h.ok.c,h.ok.fr,by show m.now+1<_;omega,h.ok.ev,h.ok.run⟩ ⟨by show(iz m.ar).1.Q.length<=_;omega,by show m.ca.length<=_;omega,rfl⟩ rfl
  grind
 split
 ·exact⟨h,Nat.le_succ m.now⟩
 split
 ·obtain⟨d,a⟩:=aj9 c (by show m.ar.Q.length<_;omega) (by show m.ca.length<_;omega) (b % 8);exact key _ d ⟨a.q,a.e,rfl⟩ a.n
 ·obtain⟨d,a⟩:=aj7 c (by show m.ar.Q.length<_;omega) (by show m.ca.length<_;omega) (amw b (by decide));exact key _ d ⟨a.q,a.e,rfl⟩ a.n
def bt.FC{H:List ae}(h:bt n M p q m qv ev aD aJ H)(k:Nat):
 bt n M p q {m with now:=k} qv ev aD aJ (H.set M (.box (cE {m with now:=k} p aD aJ ev) none)):=h.set rfl rfl h.cv h.rv
def Ll{H:List ae}(hD: ∀op,ke op)(d:bt n M p q m qv ev aD aJ H)(l:ra m)(hn:m.now<=4000)(b:Nat)(hb:b<256)(lo:oN):
  ∃I,D XC (.fn (.func 30) [] []) [.ptr M 0,.int .u8 b] ⟨H,lo⟩=some I/\gH n M p q H lo (eX m b).1 qv ev (.int .i64 (eX m b).2) I:=by
 refine cH rZ λN t=>?_
 have FB:M<N:=by rw[<-t];exact d.lt
 have nY:p<N:=by rw[<-t];exact d.co.lt
 have TQ:=d.co.mp;have hq:=l.q;have he:=l.e;have X:b % 8<8:=amw _ (by decide);have e: (b:Int).tmod 8=((b % 8:Nat):Int):=by rw[Int.tmod_eq_emod_of_nonneg (by omega)];omega
 have i:IntKind.i64.wrap ((b % 8:Nat):Int)=((b % 8:Nat):Int):=wrap_i64 (by omega) (by omega);have A:IntKind.i64.wrap ((m.now:Int)+1)=((m.now+1:Nat):Int):=wrap_i64 (by omega) (by omega);have g:=l.ok.FC (n:=m.now+1) (by omega);have hA:=d.FC (m.now+1);have hF:=d.fM (.box (cE {m with now:=m.now+1} p aD aJ ev) none);have f:dA EK.ptr (AV.ptr M 0) AV.dP=some false:=rfl;have o:aM (cE m p aD aJ ev) 193 [.int .i64 ((m.now:Int)+1)]=cE {m with now:=m.now+1} p aD aJ ev:=ajE (n:=m.now+1);unfold eX;dsimp only;by_cases k1:8<b/\b<16\/24<=b
 ·rw[acE k1];have g1: (8:Int)<b:=by omega
  by_cases k2:b<16
  ·have g2: (b:Int)<16:=by omega
   simp only[go_sem,simprocAttr,rZ,e,i,f,g1,g2];exact gH.fin d t d Fm.refl (fx.no ⟨rfl,rfl⟩) (ac7 _)
  ·have g2: ¬(b:Int)<16:=by omega
   have G: (24:Int)<=b:=by omega
   simp only[go_sem,simprocAttr,rZ,e,i,f,g1,g2,G];exact gH.fin d t d Fm.refl (fx.no ⟨rfl,rfl⟩) (ac7 _)
 rw[acz k1];have G: ¬(24:Int)<=b:=by omega
 have B0: ∀ (m':aV) (y C:AV) (nd s:Nat->AV) (W:List ae) (aj:oN),dq m'->m'.ar.Q.length<1073741824->bt n M p q m' y C nd s W->Fm n [M,p,q] H W->fx (y=qv/\C=ev) p aj->
   ∃v w c,D XC (.fn (.func 63) [] []) [.ptr M 0] ⟨W,aj⟩=some (.ret v ⟨w,c⟩)/\gH n M p q H lo (jz m') qv ev (.int .i64 0) (.ret (finish N lo (.int .i64 0) ⟨w,c⟩).1 (finish N lo (.int .i64 0) ⟨w,c⟩).2):=by
  intro m' y C nd s W aj h1 h2 h3 h4 h5;obtain⟨I,F,x,O,u,r,w,c,rfl,E,c3,c4⟩:=avD h3 h1 h2 aj;exact⟨_,w,c,F,gH.fin d t E (h4.trans c3) (h5.step c4 λa b=>⟨b.1.trans a.1,b.2.trans a.2⟩) (ac7 _)⟩
 by_cases k8:b=8
 ·rw[acE k8];have g1: ¬(8:Int)<b:=by omega
  have B: (b:Int)=8:=by omega
  obtain⟨I,P,x,W,c,rfl,r2,T,r4⟩:=auL d.co l.ok.ar none;have k:=d.ar r2 T;obtain⟨S,ro2⟩:=akb l.ok.ar;cases K: (iz m.ar).2 with
  |false=>
   rw[K]at P;rw[acz (by decide)];have e1: ({m with ar:=(iz m.ar).1}:aV)=m:=by
    have: (iz m.ar).1=m.ar:=by
     unfold iz at K⊢;split
     ·rfl
     ·rename_i h;rw[h]at K;cases K
    rw[this]
   rw[e1]at k;simp only[go_sem,simprocAttr,rZ,f,B,d.box,pD,P];exact gH.fin d t k (bt.fc T) ((fV.n r4).imp (λq=>⟨q.1,q.2,rfl⟩) id) (ac7 _)
  |true=>
   rw[K]at P;rw[acE rfl];have Lf:=k.FC (m.now+1);have hF3:=(bt.fc (M:=M) T).trans (k.fM (.box (cE {{m with ar:=(iz m.ar).1}with now:=m.now+1} p aD aJ ev) none));obtain⟨v,w,J,F,E⟩:=B0 {m with ar:=(iz m.ar).1,now:=m.now+1} _ _ _ _ _ c ⟨S,l.ok.t,l.ok.c,l.ok.fr,by show m.now+1<_;omega,l.ok.ev,l.ok.run⟩ (by show(iz m.ar).1.Q.length<_;omega) Lf hF3 ((fV.n r4).imp (λq=>⟨q.1,q.2,rfl⟩) id);have Z:=k.box;have o:aM (cE {m with ar:=(iz m.ar).1} p aD aJ ev) 193 [.int .i64 ((m.now:Int)+1)]=cE {m with ar:=(iz m.ar).1,now:=m.now+1} p aD aJ ev:=ajE (m:={m with ar:=(iz m.ar).1}) (n:=m.now+1);have Y:=zu (m:={m with ar:=(iz m.ar).1}) (p:=p) (aD:=aD) (aJ:=aJ) (ev:=ev);simp only[go_sem,simprocAttr,rZ,f,B,d.box,pD,P,Z,Y,A,o,og,F];exact E
 rw[acz k8];have B: ¬(b:Int)=8:=by omega
 have j:=λlo=>Ld d (b % 8) lo
 cases L:fL m (b % 8)with
 |false=>
  rw[L]at j;rw[acE rfl];by_cases z:16<=b
  ·have g1: (8:Int)<b:=by omega
   have g2: ¬(b:Int)<16:=by omega
   simp only[go_sem,simprocAttr,rZ,e,i,f,g1,g2,G,B,j];exact gH.fin d t d Fm.refl (fx.no ⟨rfl,rfl⟩) (ac7 _)
  ·have g1: ¬(8:Int)<b:=by omega
   simp only[go_sem,simprocAttr,rZ,e,i,f,g1,G,B,j];exact gH.fin d t d Fm.refl (fx.no ⟨rfl,rfl⟩) (ac7 _)
 |true=>
  rw[L]at j;rw[acz (by decide)];by_cases z:16<=b
  ·rw[acE z];have g1: (8:Int)<b:=by omega
   have g2: ¬(b:Int)<16:=by omega
   have g5: (16:Int)<=b:=by omega
   obtain⟨I,s1,x,O,u,r,W,c,rfl,s2,R,Q⟩:=avN hD hA g (b % 8) X (by show m.ar.Q.length<_;omega) (aj8 g _) none;obtain⟨V,U⟩:=aj9 g (by show m.ar.Q.length<_;omega) (by show m.ca.length<_;omega) (b % 8);have o3:_<=m.ar.Q.length+262600:=U.q;obtain⟨v,w,J,F,E⟩:=B0 _ _ _ _ _ _ c V (by omega) s2 (hF.trans R) (fV.n Q);simp only[go_sem,simprocAttr,rZ,e,i,f,g1,g2,G,B,g5,j,d.box,zu,A,o,og,s1,F];exact E
  ·rw[acz z];have g1: ¬(8:Int)<b:=by omega
   have g5: ¬(16:Int)<=b:=by omega
   obtain⟨I,s1,x,O,u,r,W,c,rfl,s2,R,Q⟩:=avL hD hA g (b % 8) X (by show m.ar.Q.length<_;omega) (λm h1 h2=>(aj5 h1 h2 _).1) none;obtain⟨V,U⟩:=aj7 g (by show m.ar.Q.length<_;omega) (by show m.ca.length<_;omega) X;have o3:_<=m.ar.Q.length+262600:=U.q;obtain⟨v,w,J,F,E⟩:=B0 _ _ _ _ _ _ c V (by omega) s2 (hF.trans R) (fV.n Q);simp only[go_sem,simprocAttr,rZ,e,i,f,g1,G,B,g5,j,d.box,zu,A,o,og,s1,F];exact E
def xc:bF:={nT with alive:=λ_=>false,born:=λ_=>false}
theorem awq:mC=bz xc:=rfl
def awr(H:List ae)(lo:oN):D X0 (.fn (.func 52) [] []) [] ⟨H,lo⟩=some (.ret (.agg (bz nT)) ⟨H,lo⟩):=by
 refine aH OJ λN a=>?_
 have d:=ae8 (s:=xc) (i:=0) (v:=true) (by omega);have c:=ae9 (s:={xc with alive:=aq xc.alive 0 true}) (i:=0) (v:=true) (by omega);have b: ({xc with alive:=aq xc.alive 0 true,born:=aq xc.born 0 true}:bF)=nT:=by rfl
 simp only[F1,go_sem,simprocAttr,OJ,a,awq,d,c,b,dY,nM,KV,S8]
def aws(n:Nat)(h:1<=n/\n<=64)(H:List ae)(lo:oN):D X0 (.fn (.func 137) [] []) [.int .i64 n] ⟨H,lo⟩=some (.ret (.agg [.sl [[.int .i64 0,.int .i64 n]] true]) ⟨H,lo⟩):=by
 refine aH Po λN a=>?_
 have e: ¬(n:Int)<1:=by omega
 have d:min (n:Int) 64=n:=by omega
 have c:bT [[AV.int IntKind.i64 0,AV.int IntKind.i64 n]]<=N+1:=ac7 _;have b:bT [[AV.int IntKind.i64 0,AV.int IntKind.i64 n]]<=N:=ac7 _;simp only[F1,go_sem,simprocAttr,Po,a,e,d,c,b]
def FE:cQ:=⟨0,[],λ_ _=>0,true⟩
def sK(n:Nat):cQ:=⟨n,[(0,n)],λ_ _=>0,true⟩
theorem akc{v:AV}: ∀n,jc n [v]=List.replicate n v
 |0=>rfl
 |n+1=>by show[v]++jc n [v]=_;rw[akc n];rfl
theorem akd{v:AV}{m:Nat}: ∀n,arr n (λ_=>List.replicate m v)=List.replicate (n*m) v
 |0=>by rw[Nat.zero_mul];rfl
 |n+1=>by rw[yy,akd n,axC,aog]
theorem awt:pq (λ_=>0)=List.replicate 32 (AV.int .u8 0):=rfl
def awu:ac3=cb FE:=by
 show[AV.int .i64 0,.an]++jc 2048 [AV.int .u8 0]=[AV.int .i64 0,.an]++arr 64 λ_=>pq λ_=>0
 rw[akc,awt,akd]
theorem azX:cb FE=AV.int .i64 0:: .an::arr 64 λ_=>pq λ_=>0:=rfl
theorem azY:cb (sK n)=AV.int .i64 n:: .sl [[.int .i64 0,.int .i64 n]] true::arr 64 λ_=>pq λ_=>0:=rfl
def ake{N id o:Nat}{k:IntKind}{a:Int}{H:List ae}(h:N<=id):finish N lo (.av [.ptr id o,.int k a]) ⟨H,none⟩=(.av [.ptr id o,.int k a],⟨H,lo⟩):=by
 have b: ¬(AV.av [.ptr id o,.int k a]).refs<=N:=by simp only[AV.refs,aI];omega
 refine abW b ?_;rw[Hc,acz b,ik,NA h]
def awv{N id o:Nat}{k:IntKind}{a:Int}{H:List ae}(h:N<=id):finish N lo (.av [.ptr id o,.int k a]) ⟨H,some j⟩=(.av [.ptr id o,.int k a],⟨H,cK lo j⟩):=by
 have b: ¬(AV.av [.ptr id o,.int k a]).refs<=N:=by simp only[AV.refs,aI];omega
 rw[CR];split
 ·rw[Hc,acz b,ik,NA h];rfl
 ·rfl
def aww(n:Nat)(h:1<=n/\n<=64)(N:Nat)(H:List ae)(d:H.length=N)(lo:oN):D X0 (.fn (.func 104) [] []) [.int .i64 n] ⟨H,lo⟩=some (.ret (.av [.ptr N 0,.int .i64 0]) ⟨H++[.box (cb (sK n)) none],lo⟩):=by
 refine aH O5 λM g=>?_
 have f: ¬(n:Int)<1:=by omega
 have e: ¬(64:Int)<n:=by omega
 have b:=λH lo=>aws n h H lo
 have c:1<=(cb FE).length:=by rw[w4];omega
 have a:1<=(List.drop 1 (cb FE)).length:=by rw[alN,w4];omega
 have he:AV.int .i64 n::AV.sl [[.int .i64 0,.int .i64 n]] true::List.drop 1 (List.drop 1 (cb FE))=cb (sK n):=by rfl
 simp only[go_sem,simprocAttr,O5,d,f,e,b,awu,c,a,he];rw[ake (by omega)]
theorem FF:jn=bz xc++([.dP]++(ck (λ_=>wB)++[.an])):=rfl
def awx(n:Nat)(h:1<=n/\n<=64)(N:Nat)(H:List ae)(e:H.length=N)(lo:oN):D X0 (.fn (.func 67) [] []) [.int .i64 n] ⟨H,lo⟩=some (.ret (.av [.ptr (N+1) 0,.int .i64 0]) ⟨H++[.box (cb (sK n)) none,.box (bA ⟨nT,sK n,λ_=>wB,[]⟩ N .an) none],lo⟩):=by
 refine aH OO λM j=>?_
 obtain rfl:M=N:=by omega
 have f:=λlo=>aww n h M H e lo
 have i:=λH lo=>awr H lo
 have d:List.drop 952 jn=[.dP]++(ck (λ_=>wB)++[.an]):=by rw[FF];exact List.drop_left' (dY _)
 have g:jn.length=1274:=by rw[FF,ac6,dY,ac6,ac6,dI];rfl
 have a:aM (bz nT++List.drop 952 jn) 952 [.ptr M 0]=bA ⟨nT,sK n,λ_=>wB,[]⟩ M .an:=by
  rw[d,gx (by rw[dY];omega),dY];rfl
 have c:953<=952+(List.drop 952 jn).length:=by rw[d];simp[dI]
 have b:952<=jn.length:=by rw[g];omega
 simp only[go_sem,simprocAttr,OO,e,f,i,dY,b,c,a];rw[ake (by omega)]
theorem akf:Hm=[.dP]++(arr 8 (λ_=>w9 Bq .an .an)++[.int .i64 0,.an]):=rfl
def eZ(n:Nat)(aC:List lB)(k:Nat):aV:=⟨⟨nT,sK n,λ_=>wB,[]⟩,λi=>{Bq with t:={o5 with code:=if i<k then((aC[i]?).bind decode).getD []else[]}},0,[]⟩
theorem akg(n:Nat)(aC:List lB)(aE:lN):eZ n aC aC.length=Kd ⟨n,aC,aE⟩:=by
 unfold eZ Kd
 congr 1
 grind
def jJ(m:aV)(n N:Nat)(pv kv:AV)(aD:Nat->AV)(H:List ae):List ae:=
 H++[.box [.int .i64 n,pv,kv] none,.box (cE m (N+3) aD (λ_=>.an) .an) none,.box (cb (sK n)) none,.box (bA ⟨nT,sK n,λ_=>wB,[]⟩ (N+2) .an) none]
theorem akh{N:Nat}{H:List ae}(a:H.length=N): (jJ m n N pv kv aD H)[N+1]?=some (.box (cE m (N+3) aD (λ_=>.an) .an) none):=by
 unfold jJ;grind
def awy{m':aV}{N:Nat}{nd:Nat->AV}{H:List ae}(a:H.length=N): (jJ m n N pv kv aD H).set (N+1) (.box (cE m' (N+3) nd (λ_=>.an) .an) none)=jJ m' n N pv kv nd H:=by
 unfold jJ;simp_all
theorem awz{cv:AV}(c:k<aC.length)(b:k<8):
  aM (cE (eZ n aC k) p aD (λ_=>.an) .an) (1+k*24) (bX {o5 with code:=(decode (aC.getD k default)).getD []} cv)=cE (eZ n aC (k+1)) p (aq aD k cv) (λ_=>.an) .an:=by
 have g:=Fy (m:=eZ n aC k) (p:=p) (aD:=aD) (aJ:=λ_=>.an) (ev:=.an) (o:=0) (vs:=bX {o5 with code:=(decode (aC.getD k default)).getD []} cv) (r:={Bq with t:={o5 with code:=(decode (aC.getD k default)).getD []}}) (cv:=cv) (rv:=.an) b (by rw[q0];omega) rfl;have e:aq (λ_=>AV.an) k AV.an=λ_=>AV.an:=l6 (f:=λ_=>AV.an)
 have d: ({eZ n aC k with ay:=aq (eZ n aC k).ay k {Bq with t:={o5 with code:=(decode (aC.getD k default)).getD []}}}:aV)=eZ n aC (k+1):=by
  have a:aq (eZ n aC k).ay k {Bq with t:={o5 with code:=(decode (aC.getD k default)).getD []}}=(eZ n aC (k+1)).ay:=by
   unfold aq eZ
   grind
  rw[a];rfl
 grind
def aki{aE:lB}(h:La n aC aE pv kv)(w:mZ ⟨n,aC,aE.map UInt8.toNat⟩=true)(N:Nat)(H:List ae)(q:H.length=N)(lo:oN):
  ∃O,D XC (.fn (.func 33) [] []) [.agg [.int .i64 n,pv,kv]] ⟨H,lo⟩=some O/\ ∃aD aj,O= .ret (.av [.ptr (N+1) 0,.int .i64 0]) ⟨jJ (eZ n aC aC.length) n N pv kv aD H,aj⟩/\
   (∀i,Rv (aD i) 5 (((eZ n aC aC.length).ay i).t.code.map cN))/\ (aj=lo\/ ∃j,N<=j/\aj=cK lo j):=by
 obtain⟨v,d,Q⟩:1<=n/\n<=64/\aC.length<=8:=by unfold mZ at w;simp at w;omega
 have a:=λH lo=>c0 (avy h (by omega) H lo)
 rw[w]at a;refine cH Oz λM Y=>?_
 obtain rfl:M=N:=by omega
 have F:=λB lo=>c0 (awx n ⟨v,d⟩ (M+2) (H++[.box [.int .i64 n,pv,kv] none,.box B none]) (by simp[q]) lo)
 have b:=h.pr;have r:aM Hm 0 [.ptr (M+3) 0]=cE (eZ n aC 0) (M+3) (λ_=>.an) (λ_=>.an) .an:=by rw[akf];rfl
 have x:1<=Hm.length:=by rw[akf];simp
 have y: ¬M+2<=M:=by omega
 have G:M+2+1=M+3:=rfl;have z:=λE=>b.bK (E:=E)
 simp only[go_sem,simprocAttr,Oz,q,a,F,r,x,y,z,G];refine iJ aC.length (λk e W aj=> ∃aD,e 4= .ptr (M+1) 0/\e 22=pv/\e 23= .int .i64 aC.length/\e 24= .int .i64 k/\W=jJ (eZ n aC k) n M pv kv aD H/\ (∀i,Rv (aD i) 5 (((eZ n aC k).ay i).t.code.map cN))/\aj=some (M+1)) 0 (by omega) ?_ ?_
 ·refine⟨λ_=>.an,?_⟩;simp only[go_sem,simprocAttr];exact⟨rfl,λi=>.an,rfl⟩
 rintro k X e W aj ⟨aD,L,o,l,g,rfl,f,rfl⟩ U V;simp only[cg,go_sem,simprocAttr,adh,L,o,l,g];refine⟨λR=>?_,λR=>?_⟩
 ·have c:k<aC.length:=by omega
  have T:k<8:=by omega
  obtain⟨cv,t1,t2⟩:=avz (aC.getD k default) (jJ (eZ n aC k) n M pv kv aD H) (some (M+1));have t1:=c0 t1;have C: (0:Int)<=k/\ (k:Int)<8:=by omega
  have S:=akh (m:=eZ n aC k) (n:=n) (pv:=pv) (kv:=kv) (aD:=aD) q;have P:=λm' nd=>awy (m:=eZ n aC k) (m':=m') (n:=n) (pv:=pv) (kv:=kv) (aD:=aD) (nd:=nd) q
  have s:=awz (n:=n) (p:=M+3) (cv:=cv) (aD:=aD) c T;have u:=Fs (t:={o5 with code:=(decode (aC.getD k default)).getD []}) (cq t2 (bp (λ_=>rfl) _));have A:1+k*24+10<=195:=by omega
  simp(disch:=omega) only[go_sem,simprocAttr,L,o,l,g,b.cG,b.cS,sC,t1,C,S,P,s,u,A,og,q0];refine⟨by omega,by omega,aq aD k cv,rfl,λi=>?_⟩;by_cases K:i=k
  ·subst K;have e:aC.getD i default=aC[i]:=by simp[List.getD,c]
   rw[cu];have I: ((eZ n aC (i+1)).ay i).t.code=(decode (aC.getD i default)).getD []:=by
    show(if i<i+1 then((aC[i]?).bind decode).getD []else[])=_;rw[acE (by omega),acJ c,e];rfl
   rw[I];exact t2
  ·rw[cy K];have I: ((eZ n aC (k+1)).ay i).t.code=((eZ n aC k).ay i).t.code:=by
    show(if i<k+1 then((aC[i]?).bind decode).getD []else[])=(if i<k then((aC[i]?).bind decode).getD []else[]);by_cases J:i<k
    ·rw[acE J,acE (by omega)]
    ·rw[acz J,acz (by omega)]
   rw[I];exact f i
 ·obtain rfl:k=aC.length:=by omega
  rw[awv (by omega)];exact⟨aD,_,rfl,f,.inr ⟨M+1,by omega,rfl⟩⟩
theorem akj: ∀ (s:lB),∀x∈qN s,x.n<65536
 |a::b::c::d::e::f::r,x,h=>by
  rcases aeB.1 h with rfl|h
  ·have:=e.toNat_lt;have:=f.toNat_lt
   grind
  ·exact akj r x h
 | [],x,h=>by cases h
 | [_],x,h=>by cases h
 | [_,_],x,h=>by cases h
 | [_,_,_],x,h=>by cases h
 | [_,_,_,_],x,h=>by cases h
 | [_,_,_,_,_],x,h=>by cases h
theorem awA{s:lB}{l:List dH}(h:decode s=some l):l.length<=64/\ ∀x∈l,Fp x:=by
 unfold decode at h;split at h
 ·cases h
 split at h
 ·rename_i hm;cases h;unfold oZ at hm;simp only[afJ,aje,aes]at hm;refine⟨hm.1,λx a=>?_⟩;have b:=hm.2 x a;unfold qM at b;simp at b;have c:=akj s x a;exact⟨by omega,by omega,by omega,by omega,c,λd=>by omega⟩
 grind
theorem akk(h:Nat):az (λ_=>⟨0,false,false⟩) h=false:=by
 unfold az;grind
theorem awB:bm nT:=by
 have a:gO (λ_=>⟨0,false,false⟩):=λi=>⟨ac7 _,λh=>by rfl⟩
 refine⟨⟨⟨a,λi=>By⟩,λh=>?_,λi=>?_⟩,⟨λi=>by show 0<4294967296;omega,λi=>Sr⟩,⟨⟨a,λi h=>(by cases h),λi=>agp⟩,λi=>BJ _,[],.nil,λh q=>(by cases q),λh q=>?_,.nil,λh q=>(by cases q)⟩,λi=>⟨by show 0<4;omega,by show 0<=4;omega,λj=>Sy⟩⟩
 ·have e:aS nT.T h=[]:=by
    unfold aS eu bH;have:nT.T.az h=false:=akk h
    grind
  grind
 ·exact BJ _
 ·rw[show az nT.K.b h=false from akk h]at q;cases q
def awC:gF wB:=⟨by trivial,by trivial,λi=>by show 0<8;omega,λi j h=>by cases h⟩
def awD(h:1<=n/\n<=64):fN (sK n):=⟨h.2,⟨List.pairwise_singleton _ _,λx a=>by rw[ada.1 a];omega⟩,λi j=>by show 0<256;omega⟩
theorem awE(h:1<=n/\n<=64)(aC:List lB)(k:Nat):ra (eZ n aC k):=by
 refine⟨⟨⟨awB,awD h,λi=>awC,λk d=>(by cases d),by show 0<_;omega⟩,λi=>?_,λi=>BX,λi=>by show 0<_;omega,by show 0<_;omega,by show 0<_;omega,λi=>⟨by show 0<=64;omega,by show 0<=64;omega⟩⟩,by show 0<=_;omega,by show 0<=_;omega⟩;have a: (if i<k then((aC[i]?).bind decode).getD []else[]).length<=64/\ ∀x∈(if i<k then((aC[i]?).bind decode).getD []else[]),Fp x:=by
  split
  ·cases c: (aC[i]?).bind decode with
   |none=>simp
   |some l=>
    obtain⟨s,_,b⟩:=al3.1 c;exact awA b
  grind
 exact⟨a.1,a.2,by show 0<=64;omega,λj=>by show 0<_;omega⟩
theorem akl{N:Nat}{H:List ae}(b:H.length=N)
  (a: ∀i,Rv (aD i) 5 (((eZ n aC aC.length).ay i).t.code.map cN)):
  bt N (N+1) (N+3) (N+2) (eZ n aC aC.length) .an .an aD (λ_=>.an) (jJ (eZ n aC aC.length) n N pv kv aD H):=
 ⟨by omega,⟨by unfold jJ;grind,by omega,by unfold jJ;rw[bE b];rfl,by unfold jJ;rw[bE b];rfl,cD.an⟩,akh b,cD.an,a,λi=>.an⟩
theorem awF{N id o:Nat}{vs:lA}{aj:oN}{H:List ae}(h:N<=id):finish N lo (.av (.ptr id o::vs)) ⟨H,aj⟩=(.av (.ptr id o::vs),⟨H,fX lo aj⟩):=by
 have a: ¬(AV.av (.ptr id o::vs)).refs<=N:=by simp only[AV.refs,aI];omega
 have b: ∀E,Den.freeze E N 12 (.av (.ptr id o::vs))=none:=λE=>by rw[Hc,acz a,ik,NA h]
 cases aj with
 |none=>rw[Aa,acz a,b]
 |some j=>
  rw[CR,b,acz a]
  grind
theorem bt.mono{a:Nat}{H:List ae}(h:bt n M p q m qv ev aD aJ H)(b:a<=n):bt a M p q m qv ev aD aJ H:=
 ⟨h.Mq,⟨by have:=h.co.mp;omega,h.co.qp,h.co.box,h.co.eB,h.co.ic.mono (by omega)⟩,h.box,h.pE.mono (by omega),h.cv,h.rv⟩
def FG(e:Nat):lA:=[.int .i64 e]
theorem bt.awG{H W:List ae}{ty:TypeId}(h:bt n M p q m qv ev aD aJ H)(k:ty≠kr\/sz≠1)(j:ty≠mB\/sz≠14)
  (b: ∀ (i:Nat) (o:ae),(∀a d,o≠ae.row a sz ty d)->H[i]?=some o->W[i]?=some o) (g:H.length<=W.length):bt n M p q m qv ev aD aJ W:=by
 have c: ∀cs tg,∀a d,ae.box cs tg≠ .row a sz ty d:=λ_ _ _ _ e=>by cases e
 refine⟨h.Mq,⟨by have:=h.co.mp;omega,h.co.qp,b _ _ (c _ _) h.co.box,b _ _ (c _ _) h.co.eB,h.co.ic.lg λid ai all f=>b _ _ (λa d e=>?_) f⟩,b _ _ (c _ _) h.box,h.pE.lg λid ai all f=>b _ _ (λa d e=>?_) f,h.cv,h.rv⟩
 ·grind
 grind
def runK(n:Nat)(aC:List lB)(aE:lB)(k:Nat):aV×lN:=
 ((aE.take k).map UInt8.toNat).foldl (λp b=>((eX p.1 b).1,p.2++[(eX p.1 b).2])) (eZ n aC aC.length,[])
theorem B1{aE:lB}(h:k<aE.length):
  runK n aC aE (k+1)=((eX (runK n aC aE k).1 (aE.getD k default).toNat).1,(runK n aC aE k).2++[(eX (runK n aC aE k).1 (aE.getD k default).toNat).2]):=by
 have e:aE.getD k default=aE[k]:=by grind
 unfold runK;rw[aex,acJ h,aeq,akp,e];rfl
def T0(n:Nat)(aC:List lB)(aE:lB):runK n aC aE aE.length=wD ⟨n,aC,aE.map UInt8.toNat⟩:=by
 unfold runK wD;rw[aeo,akg n aC (aE.map UInt8.toNat)]
theorem B2{n:Nat}(h:1<=n/\n<=64)(aC:List lB){aE:lB}(a:aE.length<=4000): ∀k,k<=aE.length->ra (runK n aC aE k).1/\ (runK n aC aE k).1.now<=k
 |0,_=>⟨awE h aC _,aeg 0⟩
 |k+1,c=>by
  obtain⟨b,f⟩:=B2 h aC a k (by omega);obtain⟨e,d⟩:=TZ b (by omega) (aE.getD k default).toNat;rw[B1 (by omega)]
  grind
theorem akm{n:Nat}{aC:List lB}{aE:lB}: ∀k,k<=aE.length->(runK n aC aE k).2.length=k
 |0,_=>rfl
 |k+1,a=>by rw[B1 (by omega)];rw[ac6,akm k (by omega)];rfl
def akn{aE:lB}(hD: ∀op,ke op)(h:La n aC aE pv kv)(j:mZ ⟨n,aC,aE.map UInt8.toNat⟩=true)(N:Nat)(H:List ae)(r:H.length=N)(lo:oN):
  ∃x,D XC (.fn (.func 13) [] []) [.agg [.int .i64 n,pv,kv]] ⟨H,lo⟩=some x/\ ∃M p q qv ev aD aJ b H' aj,x= .ret (.av [.ptr M 0,b,.int .i64 0]) ⟨H',aj⟩/\
   bt N M p q (wD ⟨n,aC,aE.map UInt8.toNat⟩).1 qv ev aD aJ H'/\cD N H' b 1 qg ((wD ⟨n,aC,aE.map UInt8.toNat⟩).2.map FG)/\H.length<=H'.length/\ (∀i,i<N->H'[i]?=H[i]?)/\N<=M/\N<=p/\N<=q:=by
 obtain⟨C,m,F⟩:1<=n/\n<=64/\aE.length<=4000:=by unfold mZ at j;simp at j;omega
 refine cH Ou λM hM=>?_
 obtain rfl:M=N:=by omega
 have BZ:=cq h.pr (bp (λ_=>rfl) _);have CY:=cq h.pk (bp (λ_=>rfl) _);obtain⟨x,R,aD,lo1,rfl,Q,n3⟩:=aki h j (M+1) (H++[.box [.int .i64 n,pv,kv] none]) (by simp[r]) none;have L:M+1+1=M+2:=rfl;have G:=λE=>h.pk.bK (E:=E)
 have f:=akl (N:=M+1) (n:=n) (aC:=aC) (pv:=pv) (kv:=kv) (H:=H++[.box [.int .i64 n,pv,kv] none]) (by simp[r]) Q;have S: (jJ (eZ n aC aC.length) n (M+1) pv kv aD (H++[.box [.int .i64 n,pv,kv] none]))[M]?=some (.box [.int .i64 n,pv,kv] none):=by
  unfold jJ;rw[abP (by simp[r]),di r];rfl
 simp only[go_sem,simprocAttr,Ou,r,L,R,S,G];refine iJ aE.length (λk e W aj=> ∃qv ev aD aJ b,e 5= .ptr (M+2) 0/\e 7=b/\e 19=kv/\e 20= .int .i64 aE.length/\e 21= .int .i64 k/\bt (M+1) (M+2) (M+4) (M+3) (runK n aC aE k).1 qv ev aD aJ W/\cD M W b 1 qg ((runK n aC aE k).2.map FG)/\H.length<=W.length/\ ∀i,i<M->W[i]?=H[i]?) 0 (by omega) ?_ ?_
 ·refine⟨.an,.an,aD,λ_=>.an,.an,?_⟩;simp only[go_sem,simprocAttr];refine⟨f,cD.an,by unfold jJ;simp,λi I=>?_⟩;unfold jJ;rw[abP (by simp;omega),abP (by omega)]
 clear f S R Q n3 aD;rintro k hk e W aj ⟨qv,ev,aD,aJ,b,U,e7,u,t,s,f,T,hl,c⟩ nn hn;simp only[cg,go_sem,simprocAttr,adg,U,e7,u,t,s];refine⟨λhh=>?_,λhh=>?_⟩
 ·have o:k<aE.length:=by omega
  obtain⟨Z,o2⟩:=B2 ⟨C,m⟩ aC F k (by omega);have hb:=(aE.getD k default).toNat_lt;obtain⟨x,Y,z,P,v,l,V,B,rfl,X,w,p4⟩:=Ll hD f Z (by omega) (aE.getD k default).toNat hb aj;have J:M<=V.length:=by have:=w.len;omega
  have K:cD M V b 1 qg ((runK n aC aE k).2.map FG):=T.lg λid ai all g=>w.box id _ (by
   have h1:=f.box;have h2:=f.co.box;have h3:=f.co.eB;intro j;simp at j;rcases j with rfl|rfl|rfl
   ·rw[h1]at g;cases g
   ·rw[h2]at g;cases g
   ·rw[h3]at g;cases g) (λq=>by
   rcases q with⟨a,d,q⟩| ⟨a,d,q⟩
   ·injection q with _ _ q;cases q
   ·injection q with _ q;cases q) g
  obtain⟨A,W3,g1,g2,g3,g4,g5,g6,g7,g8⟩:=cD.append (bytes:=8) (lo:=B) (y:=FG (eX (runK n aC aE k).1 (aE.getD k default).toNat).2) K J (by omega) rfl rfl (by rw[aej,akm k (by omega)];unfold room;omega);have O:=X.awG (sz:=1) (ty:=qg) (.inl (by decide)) (.inl (by decide)) g5 g3;unfold FG at g1;simp(disch:=omega) only[go_sem,simprocAttr,U,e7,u,t,s,h.pk.cG,h.pk.cS,bC,Y,g1];rw[B1 o];refine⟨by omega,o,z,P,v,l,A,rfl,O,?_,by have:=w.len;omega,λi I=>(g4 i I).trans ((w.low i (by omega) (by simp;omega)).trans (c i I))⟩;rw[aeq];exact g2
 ·obtain rfl:k=aE.length:=by omega
  rw[awF (by omega),<-T0];exact⟨M+2,M+4,M+3,qv,ev,aD,aJ,b,W,_,rfl,f.mono (by omega),T,by omega,c,by omega,by omega,by omega⟩
theorem Lm{E:AS}{af:List lA}(h:Rd E v sz af): (v= .an/\af=[])\/dA .sl v .an=some false:=by
 have a:=h.kind;cases v<;>first|exact .inr rfl|grind|skip
 ·exact .inl ⟨rfl,by have:=h.eq;simp[Den.elems]at this;omega⟩
theorem Ln{α:Type}{l:List α}{g:α->lA}{ty:TypeId}{bytes N:Nat}{H:List ae}(a:H.length=N)(b:0<sz)(i: ∀x,(g x).length=sz)(c: ∀x,aI (g x)=0)(e:l≠[])(d:l.length*bytes<=room):
  dm ⟨H,none⟩ ty sz bytes (.sl [] true) (l.map g)=some (.ref N 0 sz 0 l.length false,⟨H++[.row 0 sz ty (l.map g)],none⟩)/\finish N lo (.ref N 0 sz 0 l.length false) ⟨H++[.row 0 sz ty (l.map g)],none⟩=(.sl (l.map g) false,⟨H,lo⟩):=by
 have f:0<l.length:=au1.2 e;have ha: (l.map g).all (λel=>el.length==sz)=true:=by grind
 have ho:aR N (H++[.row 0 sz ty (l.map g)]) (.ref N 0 sz 0 l.length false) sz ty (l.map g):=
  ⟨λel h=>by grind,.inr ⟨N,0,aeg _,by simp,di a⟩⟩
 refine⟨?_,?_⟩
 ·simp only[dm,ha];rw[acE ⟨b,trivial⟩,acz (by rw[aej];omega),acE ⟨by simpa using d,rfl⟩];simp[AS.push,a]
 ·rw[EY (.inl rfl) ho (by rw[bp c];omega),lh a];rfl
def awH{l:lN}{H:List ae}(h:Rd ⟨H,none⟩ v 1 (l.map gE))(e:l.length*8<=room)(lo:oN):
  ∃v',D X0 (.fn (.func 55) [] []) [v] ⟨H,lo⟩=some (.ret v' ⟨H,lo⟩)/\Rv v' 1 (l.map gE):=by
 have d:=h.eq;have a:dA EK.sl AV.an AV.an=some true:=rfl;have e3:bT ([]:List lA)=0:=rfl;rcases Lm h with⟨rfl,he⟩|he
 ·refine⟨.an,?_,by rw[he];exact .an⟩;refine aH yn λN b=>?_
  simp(disch:=omega) only[F1,go_sem,simprocAttr,yn,a]
 ·by_cases c:l=[]
  ·subst c;refine⟨.sl [] true,?_,.sl (λel h=>by cases h)⟩;refine aH yn λN b=>?_
   have e1:dm ⟨H,none⟩ kr 1 8 (.sl [] true) []=some (.sl [] true,⟨H,none⟩):=rfl;simp(disch:=omega) only[F1,go_sem,simprocAttr,yn,he,d,e1,e3]
  ·refine⟨.sl (l.map gE) false,?_,.sl (λel h=>by obtain⟨x,_,rfl⟩:=ael.1 h;rfl)⟩;refine aH yn λN b=>?_
   obtain⟨e1,f⟩:=Ln (sz:=1) (ty:=kr) (bytes:=8) (lo:=lo) (g:=gE) b (by omega) (λ_=>rfl) (λ_=>rfl) c e;simp only[go_sem,simprocAttr,yn,he,d,e1,f]
def awI{l:lN}{H:List ae}(h:Rd ⟨H,none⟩ v 1 (l.map hC))(e:l.length*4<=room)(lo:oN):
  ∃v',D X0 (.fn (.func 85) [] []) [v] ⟨H,lo⟩=some (.ret v' ⟨H,lo⟩)/\Rv v' 1 (l.map hC):=by
 have d:=h.eq;have a:dA EK.sl AV.an AV.an=some true:=rfl;have e3:bT ([]:List lA)=0:=rfl;rcases Lm h with⟨rfl,he⟩|he
 ·refine⟨.an,?_,by rw[he];exact .an⟩;refine aH yo λN b=>?_
  simp(disch:=omega) only[F1,go_sem,simprocAttr,yo,a]
 ·by_cases c:l=[]
  ·subst c;refine⟨.sl [] true,?_,.sl (λel h=>by cases h)⟩;refine aH yo λN b=>?_
   have e1:dm ⟨H,none⟩ bZ 1 4 (.sl [] true) []=some (.sl [] true,⟨H,none⟩):=rfl;simp(disch:=omega) only[F1,go_sem,simprocAttr,yo,he,d,e1,e3]
  ·refine⟨.sl (l.map hC) false,?_,.sl (λel h=>by obtain⟨x,_,rfl⟩:=ael.1 h;rfl)⟩;refine aH yo λN b=>?_
   obtain⟨e1,f⟩:=Ln (sz:=1) (ty:=bZ) (bytes:=4) (lo:=lo) (g:=hC) b (by omega) (λ_=>rfl) (λ_=>rfl) c e;simp only[go_sem,simprocAttr,yo,he,d,e1,f]
def cD.refs{N:Nat}{H:List ae}{ty:TypeId}{af:List lA}(h:cD N H v sz ty af):v.refs<=H.length:=by
 rcases h.2 with⟨rfl,_⟩| ⟨id,ai,off,all,_,rfl,a,_⟩
 ·exact ac7 _
 ·have:=dM a;simp only[AV.refs];omega
section
variable{n M p q:Nat}{m:aV}{qv ev:AV}{aD aJ:Nat->AV}{H:List ae}(ha:bt n M p q m qv ev aD aJ H)
include ha
theorem FH(A:m.ar.Q.length<1073741824)(lo:oN):
  ∃v,D XC (.fn (.func 17) [] []) [.ptr M 0] ⟨H,lo⟩=some (.ret (.agg (bA m.ar q v)) ⟨H,lo⟩)/\Rv v 1 (m.ar.Q.map gE):=by
 obtain⟨N,z⟩: ∃N,H.length=N:=⟨_,rfl⟩;have u:=ha.co.ic.app [.box jn none,.box (bA m.ar q qv) none];obtain⟨v,r,c⟩:=awH (u.rd (lo:=none)) (by unfold room;omega) none;have r:=c0 r;refine⟨v,?_,c⟩;refine aH Oy λK B=>?_
 obtain rfl:K=N:=by omega
 have s:jn.length=1274:=by rw[FF,ac6,dY,ac6,ac6,dI];rfl
 have w: ∀l:lA,l.length=1274->aM jn 0 l=l:=λl h=>nJ (by rw[s,h])
 have y:aI (bA m.ar q qv)<=K:=by
  rw[Fj];have:=ha.co.ic.refs;have:=ha.co.qp;have:=ha.co.lt;omega
 have b:aI (bA m.ar q v)<=K:=by
  rw[Fj];have:=cq c (bp (λ_=>rfl) _);have:=ha.co.qp;have:=ha.co.lt;omega
 have a:=na (c ⟨H,none⟩);have o:aI (bA m.ar q qv)<=K+1+1:=by omega
 have k:v.refs<=K+1+1:=by have:=cq c (bp (λ_=>rfl) _);omega
 have j:aI (bA m.ar q v)<=K+1:=by omega
 have d:dA EK.ptr (AV.ptr M 0) AV.dP=some false:=rfl;have f:=bf (L:=[.box jn none]) ha.box;have e:=bf (L:=[.box jn none]) ha.co.box;have i:=w8 (x:=m.ar) (q:=q) (qv:=qv);have g:=w8 (x:=m.ar) (q:=q) (qv:=v);have t: ∀l:lA,l.length=1274->List.take 1274 l=l:=λl h=>by rw[<-h,aeo]
 simp only[F1,go_sem,simprocAttr,Oy,z,d,f,e,pD,r,w,t,i,g,KL,KS,s,o,k,j,b,a.1,a.2]
end
section
variable{n M p q:Nat}{m:aV}{qv ev:AV}{aD aJ:Nat->AV}{H:List ae}
def zx(M t:Nat)(H:List ae)(lo:oN):D XC (.fn (.func 64) [] []) [.ptr M 0,.int .i64 t] ⟨H,lo⟩=some (.ret (.bool (decide (t<8))) ⟨H,lo⟩):=by
 refine aH I2 λN d=>?_
 have a:dA EK.ptr (AV.ptr M 0) AV.dP=some false:=rfl;have c: (t:Int)>=0:=by omega
 by_cases h:t<8
 ·have b: (t:Int)<8:=by omega
  rw[ac5 h];simp(disch:=omega) only[F1,go_sem,simprocAttr,I2,a,c,b]
 ·have b: ¬(t:Int)<8:=by omega
  rw[acK h];simp(disch:=omega) only[F1,go_sem,simprocAttr,I2,a,c,b]
theorem ako(c:Call)(v:AV): (br c v).length=12:=rfl
theorem cl7(c:Call)(v:AV): (br c v)[7]?=some (.bool c.checked):=rfl
theorem cl1(c:Call)(v:AV):Den.part true 6 (br c v) 1=some (.agg (bg c.c)):=rfl
def clR(c:Call)(v:AV):aI (br c v)=v.refs:=by simp[br,aI,AV.refs,bg,aA]
theorem clT(c:Call)(v:AV):List.take 12 (br c v)=br c v:=rfl
def CC:=gG @ako<|gG @cl7<|gG @cl1<|gG @clR<|gG @clT<|gG @anc.{0} @aks.{0}
def gI(m:aV)(t:Nat)(rv:AV):AV:=match lC m t with
 |some c=>.av [.agg (br c rv),.bool true]
 |none=>.av [.agg (br fu .an),.bool false]
def FI(u:bt n M p q m qv ev aD aJ H)(C: ∀i,(m.ay i).c.aW.length<1073741824)(t:Nat)(lo:oN):
  ∃rv,D XC (.fn (.func 46) [] []) [.ptr M 0,.int .i64 t] ⟨H,lo⟩=some (.ret (gI m t rv) ⟨H,lo⟩)/\ (∀c,lC m t=some c->Rv rv 1 (c.aW.map hC)):=by
 by_cases a:t<8
 ·have A: (t:Int)<8:=by omega
  have B: (0:Int)<=t:=by omega
  obtain⟨v,g,x⟩:=awI (lo:=none) (H:=H++[.box (br fu .an) none,.box (br (m.ay t).c (aJ t)) none]) ((u.rv t) _) (by have:=C t;unfold room;omega);have g:=c0 g;have e:=na (x ⟨H,none⟩);have j:=cq x (bp (λ_=>rfl) _);have h:=cq (u.rv t) (bp (λ_=>rfl) _);have o: ∀v:AV,aI (br (m.ay t).c v)=v.refs:=λv=>by simp[br,aI,AV.refs,bg,aA]
  have z: ∀L,(H++L)[M]?=some (.box (cE m p aD aJ ev) none):=λL=>bf u.box
  have y: ∀v,br fu v=[(.int .i64 0),(.int .u8 0),(.int .u32 0),(.int .u32 0),(.int .u32 0),(.int .u32 0),(.int .u64 0),(.bool false),v,(.int .i64 0),(.int .i64 0),(.int .i64 0)]:=λv=>rfl
  have r: ∀v,(br (m.ay t).c v).length=12:=λv=>rfl
  have s: ∀v,(br (m.ay t).c v)[8]?=some v:=λv=>rfl
  have l: ∀v w,aM (br (m.ay t).c v) 8 [w]=br (m.ay t).c w:=λv w=>rfl
  have k: ∀v,List.take 12 (br (m.ay t).c v)=br (m.ay t).c v:=λv=>rfl
  cases d: (m.ay t).busy
  ·refine⟨.an,?_,λc b=>by unfold lC at b;simp[d]at b⟩;have hu:gI m t .an= .av [.agg (br fu .an),.bool false]:=by unfold gI lC;simp[d]
   rw[hu];refine aH yl λN f=>?_
   simp only[F1,go_sem,simprocAttr,yl,f,zx,ac5 a,z,xa a,d,B,A,y]
  ·rw[y]at g;refine⟨v,?_,λc b=>by unfold lC at b;simp[d,a]at b;subst b;exact x⟩;have hu:gI m t v= .av [.agg (br (m.ay t).c v),.bool true]:=by unfold gI lC;simp[d,a]
   rw[hu];refine aH yl λN f=>?_
   simp only[F1,go_sem,simprocAttr,yl,f,zx,ac5 a,z,xa a,BW a,d,B,A,g,o,j,h,r,s,l,k,e.1,e.2,anc,aks]
 ·have hu:gI m t .an= .av [.agg (br fu .an),.bool false]:=by unfold gI lC;simp[a]
  refine⟨.an,?_,λc b=>by unfold lC at b;simp[a]at b⟩;rw[hu];refine aH yl λN f=>?_
  simp only[F1,go_sem,simprocAttr,yl,f,zx,acK a];rfl
def akt(z: ∀op,ke op)(f:bt n M p q m qv ev aD aJ H)(r:dq m)(o: ∀i,(m.ay i).c.aW.length<1073741824)(t:Nat)(lo:oN):
  D XC (.fn (.func 65) [] []) [.ptr M 0,.int .i64 t] ⟨H,lo⟩=some (.ret (.bool (iP m t)) ⟨H,lo⟩):=by
 refine aH AX λN g=>?_
 obtain⟨rv,d,l⟩:=FI f o t none;have a:=λL lo=>Ld (f.app L) t lo
 have x: ∀L,(H++L)[M]?=some (.box (cE m p aD aJ ev) none):=λL=>bf f.box
 have j: ∀L,(H++L)[p]?=some (.box (bA m.ar q qv) none):=λL=>bf f.co.box
 cases hu:lC m t with
 |none=>
  have e1:iP m t=false:=by unfold iP;rw[hu]
  have k:gI m t rv= .av [.agg (br fu .an),.bool false]:=by unfold gI;rw[hu]
  rw[e1];rw[k]at d;have v:AV.refs .an=0:=rfl;simp only[F1,go_sem,simprocAttr,AX,g,d,CC,↓CC,v]
 |some c=>
  have y:t<8/\c=(m.ay t).c:=by
   unfold lC at hu;split at hu
   ·rename_i h;injection hu with hu;exact⟨h.1,hu.symm⟩
   ·cases hu
  have e1:iP m t=(fL m t&& !c.checked&&wA m.ar.S t c.c):=by unfold iP;rw[hu]
  have k:gI m t rv= .av [.agg (br c rv),.bool true]:=by unfold gI;rw[hu]
  have hw:=λH lo=>Th m.ar.S r.ar.S t (by omega) c.c (by rw[y.2];exact(r.c t).ie) (z _) H lo
  have e:=l c hu;have w:=na (e ⟨H,none⟩);have b:=cq e (bp (λ_=>rfl) _);rw[e1];rw[k]at d;clear o l;cases u:fL m t
  ·rw[u]at a;simp only[F1,go_sem,simprocAttr,AX,g,d,a,CC,↓CC,b];rfl
  ·rw[u]at a;cases s:c.checked
   ·simp only[F1,go_sem,simprocAttr,AX,g,d,a,x,j,hw,s,CC,↓CC,b,pD,KL,↓KL]
   ·simp only[F1,go_sem,simprocAttr,AX,g,d,a,s,CC,↓CC,b];rfl
def Lo(g: ∀op,ke op)(c:bt n M p q m qv ev aD aJ H)(f:dq m)(e: ∀i,(m.ay i).c.aW.length<1073741824)(t:Nat)(lo:oN):
  D XC (.fn (.func 31) [] []) [.ptr M 0,.int .i64 t] ⟨H,lo⟩=some (.ret (.bool (jA m t)) ⟨H,lo⟩):=by
 refine aH D1 λN j=>?_
 have h:=akt g c f e t;have a:=Ld c t;unfold jA;cases b:decide (t<8)
 ·simp(disch:=omega) only[F1,go_sem,simprocAttr,D1,zx,b];rfl
 ·cases d:fL m t
  ·rw[d]at a;simp(disch:=omega) only[F1,go_sem,simprocAttr,D1,zx,b,a];rfl
  ·rw[d]at a;simp(disch:=omega) only[F1,go_sem,simprocAttr,D1,zx,b,a,h]
end
theorem awJ{s:bF}(a:bm s)(c:cz): (sq s c).length<=39135394:=by
 have d:=EX a.tr c.r;have b: ∀h,(nS s h).length<=1:=λh=>by unfold nS;grind
 unfold sq
 grind
def iF(c:Call):Prop:=c.aW.length<=39135394
def awK{x:Core}{c:Call}(i:bm x.S)(h:iF c):iF (fT x c).c:=by
 have b:iF (j9 ⟨x,c,bO,false⟩).1.c:=by
  unfold j9;repeat' split
  all_goals first|exact h|exact awJ i _
 have d: ∀s:bM,iF s.c->iF (mf s).1.c:=λs a=>by
  unfold mf;split
  ·exact a
  ·rename_i e;dsimp only;split
   ·have:s.c.aW.length<=39135394:=a;rw[e,aep]at this;exact afI (Nat.le_succ _) this
   ·exact a
 have f: ∀s:bM,iF s.c->iF (mg s).1.c:=λs a=>by
  unfold mg;dsimp only;repeat' split
  all_goals exact a
 have g: ∀s:bM,iF s.c->iF (mh s).1.c:=λs a=>by
  unfold mh;split<;>exact a
 have j: ∀s:bM,iF s.c->iF (uI s).c:=λs a=>by
  unfold uI;dsimp only;repeat' split
  all_goals exact a
 unfold fT;dsimp only
 repeat' split
 ·exact b
 ·exact d _ b
 ·exact f _ (d _ b)
 ·exact g _ (f _ (d _ b))
 ·exact j _ (g _ (f _ (d _ b)))
def oh(m:aV):Prop:= ∀i,iF (m.ay i).c
def T1:iF fu:=ac7 _
def oh.set(h:oh m){r:Runner}(a:iF r.c)(i:Nat):iF (aq m.ay t r i).c:=by
 unfold aq;split
 ·omega
 ·exact h i
def awL(h:oh m)(i:Nat):oh (jy m i):=by
 unfold jy;split
 ·exact h.set T1
 omega
def T2(h:oh m):oh (jz m):=by
 unfold jz;generalize List.range 8=l
 induction l generalizing m with
 |nil=>exact h
 |cons a l b=>exact b (awL h a)
def aku(a:bm m.ar.S)(h:oh m)(t:Nat):oh (o6 m t):=by
 have b:=awK (x:=m.ar) a (h t);unfold o6;dsimp only;split
 ·intro i;by_cases q:i=t
  ·subst q;show iF (Runner.c (aq _ _ _ _));rw[cu];exact T1
  ·show iF (Runner.c (aq _ _ _ i));rw[cy q];show iF (Runner.c (aq m.ay t _ i));rw[cy q];exact h i
 ·exact h.set b
def T3(a:bm m.ar.S)(h:oh m)(b:Nat):oh (eX m b).1:=by
 unfold eX;dsimp only
 repeat' split
 ·exact h
 ·exact T2 (m:={m with ar:=_,now:=_}) h
 ·exact h
 ·exact h
 ·exact T2 (m:=yZ _ _) h
 ·refine T2 ?_;unfold qQ;dsimp only
  repeat' split
  ·refine aku ?_ ?_ _;exact a;exact h
  ·refine aku ?_ ?_ _;exact a;exactλi=>h.set T1 i
  ·exactλi=>h.set (t:=b % 8) (r:={m.ay (b % 8)with t:=qP (m.ay (b % 8)).t}) (h (b % 8)) i
def awM(n:Nat)(aC:List lB)(k:Nat):oh (eZ n aC k):=λi=>ac7 _
theorem Lp{n:Nat}(h:1<=n/\n<=64)(aC:List lB){aE:lB}(a:aE.length<=4000): ∀k,k<=aE.length->oh (runK n aC aE k).1
 |0,_=>awM _ _ _
 |k+1,b=>by
  rw[B1 (by omega)];exact T3 (B2 h aC a k (by omega)).1.ok.ar.S (Lp h aC a k (by omega)) _
def oi(x:dH):lA:=[.int .i64 x.op,.int .i64 x.a,.int .i64 x.b,.int .i64 x.c,.int .i64 x.n]
def awN(v:AV)(l:List dH)(E:l.length<2147483648)(H:List ae)(h:Rd ⟨H,none⟩ v 5 (l.map oi))(lo:oN):
  D X0 (.fn (.func 86) [] []) [v] ⟨H,lo⟩=some (.ret (.bool (oZ l)) ⟨H,lo⟩):=by
 refine aH I5 λN s=>?_
 unfold oZ;by_cases c:l.length<=64
 ·have p: ¬((l.length:Nat):Int)>64:=by omega
  rw[ac5 c,aha];simp only[go_sem,simprocAttr,I5,h.bK,p];refine ek l.length (λk e W=>H<+:W/\e 0=v/\e 3= .int .i64 k/\ ∀j,j<k->qM (l.getD j default) l.length=true) 0 (by omega) ?_ ?_
  ·simp only[go_sem,simprocAttr];exact⟨aoN,λj o=>absurd o (amz j)⟩
  rintro k F e W ⟨d,q,e3,g⟩ n B;have hw:=h.mono (aj:=none) d;simp only[cg,F1,go_sem,simprocAttr,adv,q,e3,hw.bK];refine⟨λC=>?_,λC=>?_⟩
  ·have b:k<l.length:=by omega
   have a: ∀x,Den.part true 5 (oi x) 0=some (.agg (oi x)):=λ_=>rfl
   have r: ∀x:dH,(oi x)[0]?=some (.int .i64 x.op):=λ_=>rfl
   have z: ∀x:dH,(oi x)[1]?=some (.int .i64 x.a):=λ_=>rfl
   have y: ∀x:dH,(oi x)[2]?=some (.int .i64 x.b):=λ_=>rfl
   have w: ∀x:dH,(oi x)[3]?=some (.int .i64 x.c):=λ_=>rfl
   have u: ∀x:dH,(oi x)[4]?=some (.int .i64 x.n):=λ_=>rfl
   have t: ∀x:dH,(oi x).length=5:=λ_=>rfl
   have rr: ∀x:dH,aI (oi x)=0:=λ_=>rfl
   have A:=hw.ext (L:=[.box (oi (l.getD k default)) none]) (aj:=none);have m: ∀L,fb ⟨W++L,none⟩ .sl v=some (.int .i64 l.length):=λL=>(hw.ext (L:=L) (aj:=none)).bK
   simp(disch:=omega) only[go_sem,simprocAttr,hw.cG,hw.cS,↓a,B,t,rr,r];refine⟨by omega,?_⟩;generalize f:l.getD k default=x at*;refine vz 62 (.bool (!qM x l.length)) [0,3] rfl rfl ?_ λG=>?_
   ·unfold qM;simp(disch:=omega) only[R4,go_sem,simprocAttr,r,z,y,w,u,m,q]
    (repeat' (first|apply And.intro|intro _))
    all_goals(refine afW AV.bool (amm.2 ?_);simp[];try(intros;omega))
   cases hm:qM x l.length
   ·simp only[F1,go_sem,simprocAttr];have a: (l.all λx=>qM x l.length)=false:=by
     rw[ayp];exact⟨x,by rw[<-f];exact fE b,by rw[hm];decide⟩
    rw[a];exact de rfl (kS s λi g=>by obtain⟨L,rfl⟩:=d;rw[acF,abP (by omega)])
   ·simp(disch:=omega) only[go_sem,simprocAttr,q,e3];refine⟨b,d.trans (anY _ _),nU g (by rw[f,hm])⟩
  ·have a: (l.all λx=>qM x l.length)=true:=by
     rw[aes];intro x f;obtain⟨j,o,rfl⟩:=aor f;have:=g j (by omega);rwa[show l.getD j default=l[j] by simp[List.getD,o]]at this
   rw[a];exact de rfl (kS s λi g=>by obtain⟨L,rfl⟩:=d;rw[abP (by omega)])
 ·have p: ((l.length:Nat):Int)>64:=by omega
  rw[acK c,afH];simp(disch:=omega) only[F1,go_sem,simprocAttr,I5,h.bK,p]
def awO(s:lB)(F:s.length<=1000)(H:List ae)(lo:oN):
  ∃v,D X0 (.fn (.func 48) [] []) [S s] ⟨H,lo⟩=some (.ret (.av [v,.bool (decode s).isSome]) ⟨H,lo⟩):=by
 suffices A: ∃h,D X0 (.fn (.func 48) [] []) [S s] ⟨H,lo⟩=some h/\ (λh=> ∃v,h=aT.ret (.av [v,.bool (decode s).isSome]) ⟨H,lo⟩) h by
  obtain⟨h,x,v,rfl⟩:=A;exact⟨v,x⟩
 refine cH OH λN m=>?_
 simp only[go_sem,simprocAttr,OH];refine ek (s.length/6) (λk e W=>e 0=S (s.drop (6*k))/\H<+:W/\aR N W (e 4) 5 ac2 ((gn s k).map oi)) 0 (by omega) ?_ ?_
 ·simp only[go_sem,simprocAttr];exact⟨aoN,aR.an⟩
 rintro k G e W ⟨z,a,p⟩ n B;have C: (s.drop (6*k)).length=s.length-6*k:=alN ..;have f: (gn s k).length=k:=by simp[gn]
 simp only[cg,go_sem,simprocAttr,ado,z,B];refine⟨λE=>?_,λE=>?_⟩
 ·have c:k<s.length/6:=by omega
  have I:6<=(s.drop (6*k)).length:=by omega
  have q:sO (S (s.drop (6*k))) (some (.int .i64 6)) none=some (S (s.drop (6*(k+1)))):=by
   rw[GQ,acE ⟨by omega,by omega⟩,an4];rfl
  have d: ∀j,((s.drop (6*k)).getD j 0).toNat<256:=λj=>UInt8.toNat_lt _
  have Q:=d 0;have P:=d 1;have O:=d 2;have M:=d 3;have K:=d 4;have J:=d 5;simp(disch:=omega) only[go_sem,simprocAttr];refine⟨by omega,by omega,by omega,by omega,by omega,by omega,?_⟩;refine oA (N:=N) (H0:=H) (bytes:=40) (ys:=[oi (pC (s.drop (6*k)))]) p a m (by omega) (by intro el t;rw[ada.1 t];rfl) rfl (by rw[aej,f];show(k+1)*40<=room;unfold room;omega) λv' R o r=>?_
  simp only[go_sem,simprocAttr,z,q];refine⟨c,r,?_⟩;rw[TH,aeq];exact o
 ·have c:k=s.length/6:=by omega
  by_cases y:s.length % 6=0
  ·have l: ¬(0:Int)< ((s.drop (6*k)).length:Nat):=by omega
   have b:=λlo=>awN (e 4) (gn s k) (by omega) W (lE p none) lo
   have g:qN s=gn s k:=by rw[c];exact ajC y
   have u:decode s=if oZ (gn s k)then some (gn s k)else none:=by
    unfold decode;by_cases x:s.length<=384
    ·rw[acz (by omega),g]
    ·rw[acE (by omega)];have:oZ (gn s k)=false:=by unfold oZ;rw[acK (by rw[f];omega)];rfl
     rw[this];rfl
   rw[u];cases hm:oZ (gn s k)with
   |true=>
    rw[hm]at b;simp only[go_sem,simprocAttr,l,b];rw[p.abT (by rw[bp (λ_=>rfl)];omega) (ac7 _)];exact⟨_,de rfl (kS m λi w=>by obtain⟨L,rfl⟩:=a;rw[abP (by omega)])⟩
   |false=>
    rw[hm]at b;simp only[go_sem,simprocAttr,l,b];rw[wO rfl];exact⟨.an,de rfl (kS m λi w=>by obtain⟨L,rfl⟩:=a;rw[abP (by omega)])⟩
  ·have l: (0:Int)< ((s.drop (6*k)).length:Nat):=by omega
   have u:decode s=none:=by unfold decode;rw[acE (.inl y)]
   rw[u];simp only[go_sem,simprocAttr,l];rw[wO rfl];exact⟨.an,de rfl (kS m λi w=>by obtain⟨L,rfl⟩:=a;rw[abP (by omega)])⟩
def dL(aU:Int)(pv:AV)(aE:lB):lA:=[.int .i64 aU,pv,S aE]
structure Lq(aU:Int)(aC:List lB)(aE:lB)(pv:AV):Prop where
 pg: -9223372036854775808<=aU/\aU<9223372036854775808
 pr:Rv pv 1 (aC.map sC)
def vc(aC:List lB)(aE:lB):Bool:=decide (20<aC.length)|| (decide (6000<aE.length)||aC.any λp=>decide (1000<p.length))
def Lr(aC:List lB)(aE:lB):Bool:=vc aC aE||decide (1500<aE.length)
section
variable{aU:Int}{aC:List lB}{aE:lB}{pv:AV}(h:Lq aU aC aE pv)
include h
theorem awP:aI (dL aU pv aE)=0:=by
 have:=cq h.pr (bp (λ_=>rfl) _);simp[dL,aI,AV.refs,S,this]
theorem awQ(H:List ae)(lo:oN):D X0 (.fn (.func 47) [] []) [.agg (dL aU pv aE)] ⟨H,lo⟩=some (.ret (.bool (vc aC aE)) ⟨H,lo⟩):=by
 refine aH D2 λN f=>?_
 have g1: (dL aU pv aE)[1]?=some pv:=rfl;have g2: (dL aU pv aE)[2]?=some (S aE):=rfl;unfold vc;by_cases g:20<aC.length
 ·have a: (aC.length:Int)>20:=by omega
  rw[ac5 g,aq9];simp only[F1,go_sem,simprocAttr,D2,f,g1,h.pr.bK,a]
 by_cases l:6000<aE.length
 ·have a: ¬(aC.length:Int)>20:=by omega
  have b: (aE.length:Int)>6000:=by omega
  rw[acK g,ac5 l,aq9,ars];simp only[F1,go_sem,simprocAttr,D2,f,g1,g2,h.pr.bK,a,b]
 have a: ¬(aC.length:Int)>20:=by omega
 have b: ¬(aE.length:Int)>6000:=by omega
 rw[acK g,acK l,ars,ars];simp only[go_sem,simprocAttr,D2,f,g1,g2,h.pr.bK,a,b];refine ek aC.length (λk e W=>W=H++[.box (dL aU pv aE) none]/\e 1= .ptr N 0/\e 3= .int .i64 k/\ ∀j,j<k->(λp:lB=>decide (1000<p.length)) (aC.getD j default)=false) 0 (by omega) ?_ ?_
 ·simp only[go_sem,simprocAttr];exactλj d=>absurd d (amz j)
 rintro k t e W ⟨rfl,e1,e3,i⟩ n s;simp(disch:=omega) only[cg,F1,go_sem,simprocAttr,adn,e1,e3,g1,h.pr.bK];refine⟨λr=>?_,λr=>?_⟩
 ·have c:k<aC.length:=by omega
  simp(disch:=omega) only[cg,F1,go_sem,simprocAttr,e1,e3,h.pr.cG,h.pr.cS,↓pS];refine⟨by omega,λo=>?_,λo=>?_⟩
  ·rw[(avT).2 ⟨_,fE c,ac5 (by omega)⟩]
  ·exact⟨c,nU (p:=λj=>decide (1000< (aC.getD j default).length)=false) i (acK (by omega))⟩
 ·have: (aC.any λp=>decide (1000<p.length))=false:=by
    rw[List.any_eq_false];intro x m;obtain⟨j,d,rfl⟩:=aor m;have:=i j (by omega);rw[show aC.getD j default=aC[j] by simp[List.getD,d]]at this;exactλq=>by rw[show decide (1000<aC[j].length)=false from this]at q;cases q
  rw[this]
theorem awR(H:List ae)(lo:oN):D X0 (.fn (.func 10) [] []) [.agg (dL aU pv aE)] ⟨H,lo⟩=some (.ret (.bool (Lr aC aE)) ⟨H,lo⟩):=by
 refine aH IV λN e=>?_
 have g2: (dL aU pv aE)[2]?=some (S aE):=rfl;have c: (dL aU pv aE).length=3:=rfl;have b:List.take 3 (dL aU pv aE)=dL aU pv aE:=rfl;have e1:decide ((aE.length:Int)>1500)=decide (1500<aE.length):=aev.2 (by omega);have a:=awQ h;unfold Lr;cases d:vc aC aE
 ·rw[d]at a;simp only[F1,go_sem,simprocAttr,IV,e,g2,a,c,b,e1]
 ·rw[d]at a;simp only[F1,go_sem,simprocAttr,IV,e,a,c,b]
theorem T4(i:vc aC aE=false)(H:List ae)(lo:oN): ∃kv,D X0 (.fn (.func 14) [] []) [.agg (dL aU pv aE)] ⟨H,lo⟩=some (.ret (.agg [.int .i64 aU,pv,kv]) ⟨H,lo⟩)/\La aU aC aE pv kv:=by
 have g:aC.length<=20/\aE.length<=6000:=by
  unfold vc at i
  grind
 refine⟨.sl (aE.map bC) false,?_,⟨h.pr,.sl λel d=>by obtain⟨x,_,rfl⟩:=ael.1 d;rfl,by omega,by omega⟩⟩;refine aH Ov λN j=>?_
 have k: (dL aU pv aE)[0]?=some (.int .i64 aU):=rfl;have g1: (dL aU pv aE)[1]?=some pv:=rfl;have g2: (dL aU pv aE)[2]?=some (S aE):=rfl;have b:=cq h.pr (bp (λ_=>rfl) _);have c:GO (S aE)=some (.sl (aE.map bC) false):=by
  have e:GO (S aE)=if aE.length<=room then some (.sl (aE.map bC) false)else none:=rfl
  rw[e,acE (by unfold room;omega)]
 have f:bT (aE.map bC)=0:=bp (λ_=>rfl) _;have a:=na (h.pr ⟨[],none⟩);simp only[F1,go_sem,simprocAttr,Ov,j,k,g1,g2,c,a.1,a.2,b,f,anc,aks]
theorem awS(t:vc aC aE=false)(H:List ae)(lo:oN):D X0 (.fn (.func 11) [] []) [.agg (dL aU pv aE)] ⟨H,lo⟩=some (.ret (.bool (mZ ⟨aU,aC,aE.map UInt8.toNat⟩)) ⟨H,lo⟩):=by
 refine aH Ot λN F=>?_
 have A: (dL aU pv aE)[0]?=some (.int .i64 aU):=rfl;have g1: (dL aU pv aE)[1]?=some pv:=rfl;have g2: (dL aU pv aE)[2]?=some (S aE):=rfl;obtain⟨w,f⟩: ∃b,b=decide (1<=aU/\aU<=64/\1<=aC.length/\aC.length<=8/\aE.length<=4000):=⟨_,rfl⟩;have r:mZ ⟨aU,aC,aE.map UInt8.toNat⟩=(w&&aC.all (λp=>(decode p).isSome)&& (aE.map UInt8.toNat).all kR):=by unfold mZ;rw[aej,f]
 rw[r];simp only[go_sem,simprocAttr,Ot,F,A];refine vz 33 (.bool (!w)) [1] rfl rfl ?_ λG=>?_
 ·rw[f];simp(disch:=omega) only[R4,go_sem,simprocAttr,A,g1,g2,h.pr.bK];generalize aC.length=np
  (repeat' (first|apply And.intro|intro _))
  all_goals(refine afW AV.bool (amm.2 ?_);simp[];try(intros;omega))
 cases w
 ·simp(disch:=omega) only[F1,go_sem,simprocAttr];rfl
 have f:=(aoR f.symm);simp only[go_sem,simprocAttr];refine ek aC.length (λk e W=>W=H++[.box (dL aU pv aE) none]/\e 1= .ptr N 0/\e 3= .int .i64 k/\ ∀j,j<k->(λp:lB=>(decode p).isSome) (aC.getD j default)=true) 0 (by omega) ?_ ?_
 ·simp only[go_sem,simprocAttr];exactλj g=>absurd g (amz j)
 rintro k I e W ⟨rfl,e1,e3,l⟩ n C;simp(disch:=omega) only[cg,go_sem,simprocAttr,adf,e1,e3,g1,h.pr.bK];refine⟨λq=>?_,λq=>?_⟩
 ·have a:k<aC.length:=by omega
  have s: (aC.getD k default).length<=1000:=by
   unfold vc at t;simp only[Bool.or_eq_false_iff,List.any_eq_false,aje]at t;have:=t.2.2 _ (fE a);omega
  obtain⟨v,u⟩:=awO (aC.getD k default) s (H++[.box (dL aU pv aE) none]) none;simp(disch:=omega) only[go_sem,simprocAttr,h.pr.cG,h.pr.cS,↓pS,u];refine⟨by omega,?_⟩;cases m: (decode (aC.getD k default)).isSome
  ·simp(disch:=omega) only[F1,go_sem,simprocAttr];have: (aC.all λp=>(decode p).isSome)=false:=by
    rw[ayp];exact⟨_,fE a,by rw[m];decide⟩
   rw[this];rfl
  ·simp(disch:=omega) only[go_sem,simprocAttr,e1,e3];exact⟨a,nU (p:=λj=>(decode (aC.getD j default)).isSome=true) l m⟩
 have d: (aC.all λp=>(decode p).isSome)=true:=by
  rw[aes];intro x o;obtain⟨j,g,rfl⟩:=aor o;have:=l j (by omega);rwa[show aC.getD j default=aC[j] by simp[List.getD,g]]at this
 rw[d,aha];clear l d;refine ek aE.length (λk e W=>W=H++[.box (dL aU pv aE) none]/\e 1= .ptr N 0/\e 6= .int .i64 k/\ ∀j,j<k->kR (aE.getD j 0).toNat=true) 0 (by omega) ?_ ?_
 ·simp only[go_sem,simprocAttr,e1];exactλj g=>absurd g (amz j)
 clear e1 e3 q;rintro i E e W ⟨rfl,e1,e6,l⟩ n C;simp(disch:=omega) only[cg,F1,go_sem,simprocAttr,ade,e1,e6,g2];refine⟨λq=>?_,λq=>?_⟩
 ·have a:i<aE.length:=by omega
  have o:=(aE.getD i 0).toNat_lt;refine⟨by omega,?_⟩;generalize z: (aE.getD i 0).toNat=c at*;refine vz 72 (.bool (!kR c)) [1,6] rfl rfl ?_ λG=>?_
  ·unfold kR;simp only[R4,go_sem,simprocAttr]
   (repeat' (first|apply And.intro|intro _))
   all_goals(refine afW AV.bool (amm.2 ?_);simp[];try(intros;omega))
  cases m:kR c
  ·simp(disch:=omega) only[F1,go_sem,simprocAttr];have: (aE.map UInt8.toNat).all kR=false:=by
    rw[ayp];exact⟨c,ael.2 ⟨aE.getD i 0,by rw[show aE.getD i 0=aE[i] by simp[List.getD,a]];exact as1 a,z⟩,by rw[m];decide⟩
   rw[this]
  ·simp(disch:=omega) only[go_sem,simprocAttr,e1,e6];exact⟨a,nU (p:=λj=>kR (aE.getD j 0).toNat=true) l (by rw[z,m])⟩
 ·have d: (aE.map UInt8.toNat).all kR=true:=by
    rw[aes];intro x o;obtain⟨y,B,rfl⟩:=ael.1 o;obtain⟨j,g,rfl⟩:=aor B;have:=l j (by omega);rwa[show aE.getD j 0=aE[j] by simp[List.getD,g]]at this
  rw[d]
end
theorem akv(k:Nat): ∀t:List (Nat×lB×Nat),dU (.int .u8 k) (rI t)=some ((t.find? λx=>decide (k=x.1)).map λx=>.fn (.func x.2.2) [] [])
 | []=>rfl
 |a::t=>by
  have b:=akv k t;show dU (.int .u8 k) ((.int .u8 a.1,.fn (.func a.2.2) [] [])::rI t)=_;rw[KB,List.find?_cons]
  grind
def awT{X:Ctx}{t:List (Nat×lB×Nat)}{g:Nat}(h:X.fG g=some (rI t))(k:Nat)(E:AS)(a:Bool):
  iV X.fG E .int .dg (.kZ g) (.int .u8 k) a=some (match(t.find? λx=>decide (k=x.1)).map λx=>x.2.2 with|some f=>if a then .av [.fn (.func f) [] [],.bool true]else .fn (.func f) [] []|none=>if a then .av [.dg,.bool false]else .dg):=by
 have e:iV X.fG E .int .dg (.kZ g) (.int .u8 k) a=match X.fG g with
  |some es=>(match dU (.int .u8 k) es with|some (some v)=>some (if a then .av [v,.bool true]else v)|some none=>some (if a then .av [.dg,.bool false]else .dg)|none=>none)
  |none=>none:=rfl
 rw[e,h];dsimp only;rw[akv];cases t.find? λx=>decide (k=x.1)<;>rfl
theorem azZ{t:List (Nat×lB×Nat)}(h:t.all (λx=>decide (x.1<n))=true)(a:n<=k): (t.find? λx=>decide (k=x.1))=none:=by grind
def awU(a:Nat): ((we.find? λx=>decide (a=x.1)).map λx=>x.2.2)=qU a:=by
 by_cases h:a<23
 ·have: ∀i:Fin 23,((we.find? λx=>decide (i.1=x.1)).map λx=>x.2.2)=qU i.1:=by decide
  exact this ⟨a,h⟩
 ·match a,h with
  |n+23,_=>rfl
theorem vd(a:Nat):ke a:=λE=>by
 rw[awT (X:=XA) (t:=we) rfl,awU]
 grind
theorem akw{E:AS}(h:v.refs<=n): (finish n lo v E).1=v:=by
 obtain⟨W,l⟩:=E;cases l with
 |none=>rw[Aa,acE h]
 |some j=>
  rw[CR,acE h]
  grind
section
variable{p:cQ}{q:Nat}{H:List ae}(h:H[q]?=some (.box (cb p) none))
include h
theorem Ls(lo:oN):D X0 (.fn (.func 39) [] []) [.ptr q 0] ⟨H,lo⟩=some (.ret (.agg [lF p]) ⟨H,lo⟩):=by
 refine aH OC λN d=>?_
 have b:dA EK.ptr (AV.ptr q 0) AV.dP=some false:=rfl;have a:=cq (uY p) (bp (λ_=>rfl) _);have c:=bf (L:=[.box [.an] none]) h;simp only[F1,go_sem,simprocAttr,OC,d,b,c,↓w5,a]
end
section
variable{n M p q:Nat}{m:aV}{qv ev:AV}{aD aJ:Nat->AV}{H:List ae}(ha:bt n M p q m qv ev aD aJ H)
include ha
end
theorem Lt(m:aV): ∀k,(fW m k).ar.S=m.ar.S
 |0=>rfl
 |k+1=>by
  rw[zw];unfold jy;split
  ·exact Lt m k
  ·exact Lt m k
theorem T5(m:aV): ∀k,k<=8-> ∀i,i<k->((fW m k).ay i).busy=true->m.ar.S.alive i=true
 |0,_,i,b,_=>by omega
 |k+1,d,i,b,a=>by
  rw[zw]at a;unfold jy at a;split at a
  ·have a: (aq (fW m k).ay k _ i).busy=true:=a;by_cases e:i=k
   ·rw[e,cu]at a;cases a
   ·rw[cy e]at a;exact T5 m k (by omega) i (by omega) a
  ·rename_i c;by_cases e:i=k
   ·subst e;cases q:m.ar.S.alive i with
    |true=>rfl
    |false=>exact absurd ⟨a,by unfold fL;rw[Lt,q,aoI]⟩ c
   ·exact T5 m k (by omega) i (by omega) a
instance:Inhabited Event:=⟨⟨0,mi,(0,0),bO,0,0⟩⟩
def awX{l:List Event}{H:List ae}(h:Rd ⟨H,none⟩ v 14 (l.map gp))(e:l.length*96<=room)(lo:oN):
  ∃v',D X0 (.fn (.func 51) [] []) [v] ⟨H,lo⟩=some (.ret v' ⟨H,lo⟩)/\Rv v' 14 (l.map gp):=by
 have d:=h.eq;have a:dA EK.sl AV.an AV.an=some true:=rfl;have e3:bT ([]:List lA)=0:=rfl;rcases Lm h with⟨rfl,he⟩|he
 ·refine⟨.an,?_,by rw[he];exact .an⟩;refine aH ym λN b=>?_
  simp(disch:=omega) only[F1,go_sem,simprocAttr,ym,a]
 ·by_cases c:l=[]
  ·subst c;refine⟨.sl [] true,?_,.sl (λel h=>by cases h)⟩;refine aH ym λN b=>?_
   have e1:dm ⟨H,none⟩ mB 14 96 (.sl [] true) []=some (.sl [] true,⟨H,none⟩):=rfl;simp(disch:=omega) only[F1,go_sem,simprocAttr,ym,he,d,e1,e3]
  ·refine⟨.sl (l.map gp) false,?_,.sl (λel h=>by obtain⟨x,_,rfl⟩:=ael.1 h;rfl)⟩;refine aH ym λN b=>?_
   obtain⟨e1,f⟩:=Ln (sz:=14) (ty:=mB) (bytes:=96) (lo:=lo) (g:=gp) b (by omega) (λ_=>rfl) (λ_=>rfl) c e;simp only[go_sem,simprocAttr,ym,he,d,e1,f]
section
variable{n M p q:Nat}{m:aV}{qv ev:AV}{aD aJ:Nat->AV}{H:List ae}(ha:bt n M p q m qv ev aD aJ H)
include ha
theorem FJ(f:m.ca.length<1000000)(lo:oN): ∃v,D XC (.fn (.func 15) [] []) [.ptr M 0] ⟨H,lo⟩=some (.ret v ⟨H,lo⟩)/\Rv v 14 (m.ca.map gp):=by
 obtain⟨v,c,d⟩:=awX (ha.pE.rd (lo:=none)) (by unfold room;omega) none;have c:=c0 c;refine⟨v,?_,d⟩;refine aH Ox λN e=>?_
 have b:dA EK.ptr (AV.ptr M 0) AV.dP=some false:=rfl;have a:=cq d (bp (λ_=>rfl) _);simp(disch:=omega) only[F1,go_sem,simprocAttr,Ox,b,ha.box,TI,c,a]
end
def awY(l:eV)(t:Nat): (sr l t).has=l.has:=by unfold sr;split<;>rfl
theorem akx{M:Marks}(a:t<8)(b:j<32)(h: (me M t j).has=i+1): (M j).has=i+1/\i≠t:=by
 unfold me at h;have hm:gA j t=true:=by unfold gA;grind
 rw[acE hm,awY]at h;unfold yY at h
 grind
theorem awZ{M:Marks}{a:Nat}(h: ((ia M a t).1 j).has=i+1):i=t\/ (M j).has=i+1:=by
 unfold ia at h;split at h
 ·grind
 split at h
 ·grind
 split at h
 ·unfold aq at h;grind
 split at h
 ·unfold aq at h;grind
 grind
theorem T6: ∀ (l:List aF) (x:Core),(l.foldl cO x).M=x.M
 | [],_=>rfl
 |r::l,x=>T6 l (cO x r)
structure SM(s:bM)(M:Marks)(t:Nat):Prop where
 aa:s.c.aa=t
 m: ∀j,j<32-> ∀i,(s.x.M j).has=i+1->(i=t/\s.ended=false)\/ (i≠t/\ (M j).has=i+1)
section
variable{s s':bM}{M:Marks}{t:Nat}(h:SM s M t)
include h
theorem SM.of(e:s'.x.M=s.x.M)(d:s'.c.aa=s.c.aa)(c:s'.ended=s.ended):SM s' M t:=⟨d.trans h.aa,λj b i a=>by rw[c];rw[e]at a;exact h.m j b i a⟩
theorem SM.ends(d:t<8)(r:bB):SM (mY s r) M t:=⟨h.aa,λj b i a=>by
 have a: (me s.x.M s.c.aa j).has=i+1:=a;rw[h.aa]at a;obtain⟨e,c⟩:=akx d b a;exact .inr ⟨c,((h.m j b i e).resolve_left λq=>c q.1).2⟩⟩
theorem SM.check(a:t<8):SM (j9 s).1 M t:=by
 unfold j9;split
 ·exact h
 split
 ·exact h
 split
 ·exact h.ends a _
 ·exact h.of rfl rfl rfl
theorem SM.marks(c:s.ended=false):SM (mf s).1 M t:=by
 unfold mf;split
 ·exact h
 ·dsimp only;refine⟨by split<;>exact h.aa,λj b i a=>?_⟩;rw[h.aa]at a;rcases awZ a with e|e
  ·grind
  ·exact h.m j b i e
theorem SM.TW(a:t<8):SM (mg s).1 M t:=by
 unfold mg;dsimp only;split
 ·exact h
 split
 ·refine SM.ends ?_ a _;exact h.of rfl rfl rfl
 ·exact h.of rfl rfl rfl
theorem SM.TX:SM (mh s).1 M t:=by
 unfold mh;split
 ·exact h
 ·exact h.of rfl rfl rfl
theorem SM.TY(a:t<8):SM (uI s) M t:=by
 unfold uI;have key: ∀s':bM,SM s' M t->SM (if(db s'.x.S s'.c.aa s'.c.c s'.c.run).2.1.e≠0 then mY s' (db s'.x.S s'.c.aa s'.c.c s'.c.run).2.1 else
   mY {s' with x:=List.foldl cO {s'.x with S:=(db s'.x.S s'.c.aa s'.c.c s'.c.run).1,P:=if s'.c.c.op=4 then(List.range (gz s'.x.S s'.c.c).1.length).foldl (λP i=>ss P ((gz s'.x.S s'.c.c).1.getD i 0) (byteOf s'.c.c.v i)) s'.x.P else s'.x.P} (db s'.x.S s'.c.aa s'.c.c s'.c.run).2.2,c:={s'.c with run:=(0,0)}}
    {(db s'.x.S s'.c.aa s'.c.c s'.c.run).2.1 with v:=if s'.c.c.op=3 then(List.range (gz s'.x.S s'.c.c).1.length).foldl (λv i=>v|||qL s'.x.P ((gz s'.x.S s'.c.c).1.getD i 0)*2^(8*i)) (db s'.x.S s'.c.aa s'.c.c s'.c.run).2.1.v else(db s'.x.S s'.c.aa s'.c.c s'.c.run).2.1.v}) M t:=λs' b=>by
  split
  ·exact b.ends a _
  ·refine SM.ends ?_ a _;exact b.of (T6 _ _) rfl rfl
 split
 ·exact key {s with x:=cO s.x s.c.run,c:={s.c with run:=(0,0)}} (h.of rfl rfl rfl)
 grind
end
theorem aw0{s:bM}(h: (j9 s).2=false): (j9 s).1=s:=by
 unfold j9 at h⊢
 grind
theorem aw1{x:Core}{c:Call}(a:t<8)(b:c.aa=t):SM (fT x c) x.M t:=by
 have l:SM ⟨x,c,bO,false⟩ x.M t:=⟨b,λj n i o=>by grind⟩;unfold fT;dsimp only;have k:=l.check a;split
 ·omega
 have e:=aw0 (s:=⟨x,c,bO,false⟩) (by grind);have g:=SM.marks k (by rw[e]);split
 ·omega
 have f:=SM.TW g a;split
 ·omega
 have d:=SM.TX f;split
 ·omega
 ·exact SM.TY d a
structure ig(m:aV):Prop where
 t: ∀i,i<8->(m.ay i).busy=true->(m.ay i).c.aa=i
 m: ∀j,j<32-> ∀i,i<8->(m.ar.M j).has=i+1->(m.ay i).busy=true
section
variable{m:aV}(h:ig m)
include h
theorem ig.of{m':aV}(a:m'.ay=m.ay)(b:m'.ar.M=m.ar.M):ig m':=⟨by rw[a];exact h.t,by rw[a,b];exact h.m⟩
theorem ig.TL(c:k<8):ig (jy m k):=by
 unfold jy;split
 ·rename_i f;refine⟨λi b a=>?_,λj d i b hm=>?_⟩
  ·have a: (aq m.ay k _ i).busy=true:=a;show(aq m.ay k _ i).c.aa=i;by_cases e:i=k
   ·rw[e,cu]at a;cases a
   ·rw[cy e]at a⊢;exact h.t i b a
  ·have hm: (me m.ar.M (m.ay k).c.aa j).has=i+1:=hm;rw[h.t k c f.1]at hm;obtain⟨l,g⟩:=akx c d hm;show(aq m.ay k _ i).busy=true;rw[cy g];exact h.m j d i b l
 omega
theorem ig.B0: ∀k,k<=8->ig (fW m k)
 |0,_=>h
 |k+1,a=>by rw[zw];exact(ig.B0 k (by omega)).TL (by omega)
theorem ig.clear:ig (jz m):=h.B0 8 (aeg 8)
theorem ig.calls(g:t<8)(a: (m.ay t).busy=true):ig (o6 m t):=by
 have k:=aw1 (x:=m.ar) (c:=(m.ay t).c) g (h.t t g a);unfold o6;dsimp only;split
 ·refine⟨λi b a=>?_,λj d i b hm=>?_⟩
  ·have a: (aq (aq m.ay t _) t _ i).busy=true:=a;show(aq (aq m.ay t _) t _ i).c.aa=i;by_cases e:i=t
   ·rw[e,cu]at a;cases a
   ·rw[cy e,cy e]at a⊢;exact h.t i b a
  ·rcases k.m j d i hm with⟨_,q⟩| ⟨f,l⟩
   ·grind
   ·show(aq (aq m.ay t _) t _ i).busy=true;rw[cy f,cy f];exact h.m j d i b l
 ·refine⟨λi b a=>?_,λj d i b hm=>?_⟩
  ·have a: (aq m.ay t _ i).busy=true:=a;show(aq m.ay t _ i).c.aa=i;by_cases e:i=t
   ·rw[e,cu];exact k.aa
   ·rw[cy e]at a⊢;exact h.t i b a
  ·show(aq m.ay t _ i).busy=true;by_cases e:i=t
   ·rw[e,cu];exact a
   ·rw[cy e];exact h.m j d i b ((k.m j d i hm).resolve_left λq=>e q.1).2
theorem ig.steps(d:t<8):ig (qQ m t):=by
 unfold qQ;dsimp only;split
 ·rename_i a;exact h.calls d a
 split
 ·refine ig.calls ⟨λi b a=>?_,λj c i b hm=>?_⟩ d (by show(aq m.ay t _ t).busy=true;rw[cu])
  ·have a: (aq m.ay t _ i).busy=true:=a;show(aq m.ay t _ i).c.aa=i;by_cases e:i=t
   ·rw[e,cu]
   ·rw[cy e]at a⊢;exact h.t i b a
  ·show(aq m.ay t _ i).busy=true;by_cases e:i=t
   ·rw[e,cu]
   ·rw[cy e];exact h.m j c i b hm
 ·refine⟨λi b a=>?_,λj c i b hm=>?_⟩
  ·have a: (aq m.ay t _ i).busy=true:=a;show(aq m.ay t _ i).c.aa=i;by_cases e:i=t
   ·rw[e,cu]at a⊢;grind
   ·rw[cy e]at a⊢;exact h.t i b a
  ·show(aq m.ay t _ i).busy=true;have:=h.m j c i b hm;by_cases e:i=t
   ·grind
   ·rw[cy e];omega
theorem ig.pick(b:Nat):ig (eX m b).1:=by
 unfold eX;dsimp only;have a:b % 8<8:=by omega
 split
 ·exact h
 split
 ·split
  ·exact(h.of (m':={m with ar:=(iz m.ar).1,now:=m.now+1}) rfl (by unfold iz;grind)).clear
  omega
 split
 ·exact h
 split
 ·exact(h.of (m':=yZ {m with now:=m.now+1} (b % 8)) rfl (by
   exact T6 _ _)).clear
 ·exact((h.of (m':={m with now:=m.now+1}) rfl rfl).steps a).clear
end
def ig.new{s:Kc}:ig (Kd s):=⟨λi _ a=>(by cases a),λj _ i _ hm=>(by cases hm)⟩
def B3(m:aV):Prop:= ∀i,i<8->(m.ay i).busy=true->m.ar.S.alive i=true
def aky(m:aV):B3 (jz m):=λi b a=>by
 have e:jz m=fW m 8:=rfl;rw[e]at a⊢;rw[Lt];exact T5 m 8 (aeg 8) i b a
def B3.pick(h:B3 m)(b:Nat):B3 (eX m b).1:=by
 unfold eX;dsimp only;split
 ·exact h
 split
 ·split
  ·exact aky _
  omega
 split
 ·exact h
 split<;>exact aky _
theorem akz(m:aV): ∀k,(fW m k).now=m.now
 |0=>rfl
 |k+1=>by rw[zw];unfold jy;split<;>exact akz m k
def akA(m:aV)(t:Nat): (o6 m t).now=m.now:=by unfold o6;dsimp only;split<;>rfl
def aw2(m:aV)(t:Nat): (qQ m t).now=m.now:=by
 unfold qQ;dsimp only;split
 ·exact akA _ _
 split
 ·exact akA _ _
 ·rfl
theorem aw3(m:aV)(b:Nat): ((eX m b).2≠0/\ (eX m b).1=m)\/ ((eX m b).2=0/\ (eX m b).1.now=m.now+1):=by
 have a: ∀m:aV,(jz m).now=m.now:=λm=>akz m 8
 unfold eX;dsimp only;split
 ·simp
 split
 ·grind
 split
 ·simp
 split
 ·exact .inr ⟨rfl,a _⟩
 ·exact .inr ⟨rfl,(a _).trans (aw2 _ _)⟩
section
variable{n M p q:Nat}{m:aV}{qv ev:AV}{aD aJ:Nat->AV}{H:List ae}(ha:bt n M p q m qv ev aD aJ H)
include ha
theorem FK(lo:oN):D XC (.fn (.func 38) [] []) [.ptr M 0] ⟨H,lo⟩=some (.ret (.int .i64 m.now) ⟨H,lo⟩):=by
 refine aH OB λN b=>?_
 have a:dA EK.ptr (AV.ptr M 0) AV.dP=some false:=rfl;simp(disch:=omega) only[F1,go_sem,simprocAttr,OB,a,ha.box,zu]
end
def aw4{l:List dH}{H:List ae}(h:Rd ⟨H,none⟩ v 5 (l.map cN))(e:l.length*6<=room)(lo:oN):
  ∃v',D X0 (.fn (.func 111) [] []) [v] ⟨H,lo⟩=some (.ret v' ⟨H,lo⟩)/\Rv v' 5 (l.map cN):=by
 have d:=h.eq;have a:dA EK.sl AV.an AV.an=some true:=rfl;have e3:bT ([]:List lA)=0:=rfl;rcases Lm h with⟨rfl,he⟩|he
 ·refine⟨.an,?_,by rw[he];exact .an⟩;refine aH yp λN b=>?_
  simp(disch:=omega) only[F1,go_sem,simprocAttr,yp,a]
 ·by_cases c:l=[]
  ·subst c;refine⟨.sl [] true,?_,.sl (λel h=>by cases h)⟩;refine aH yp λN b=>?_
   have e1:dm ⟨H,none⟩ C2 5 6 (.sl [] true) []=some (.sl [] true,⟨H,none⟩):=rfl;simp(disch:=omega) only[F1,go_sem,simprocAttr,yp,he,d,e1,e3]
  ·refine⟨.sl (l.map cN) false,?_,.sl (λel h=>by obtain⟨x,_,rfl⟩:=ael.1 h;rfl)⟩;refine aH yp λN b=>?_
   obtain⟨e1,f⟩:=Ln (sz:=5) (ty:=C2) (bytes:=6) (lo:=lo) (g:=cN) b (by omega) (λ_=>rfl) (λ_=>rfl) c e;simp only[go_sem,simprocAttr,yp,he,d,e1,f]
def aw5(r:aF):Int:=IntKind.wrap .u64 (((18446744073709551615:Int).fdiv (2^(min (64- (r.2:Int)).toNat 64)))*2^(min r.1 64))
def T7(a:Int)(r:aF):Int:=((BitVec.ofInt 64 a|||BitVec.ofInt 64 (aw5 r)).toNat:Nat)
def B4(l:List aF):Int:=l.foldl T7 0
def aw6{l:List aF}(a:j<l.length):B4 (l.take (j+1))=T7 (B4 (l.take j)) (l.getD j default):=by
 unfold B4;rw[aex,acJ a,akp,aer,acJ a];rfl
theorem akB(v:AV)(l:List aF)(w:Rv v 2 (l.map aA))(y:za l)(H:List ae)(lo:oN):
  D X0 (.fn (.func 40) [] []) [.agg [v]] ⟨H,lo⟩=some (.ret (.int .u64 (B4 l)) ⟨H,lo⟩):=by
 refine aH OD λN u=>?_
 have he:=RJ v l w (N+2) (H++[.box [v] none,.box [.int .u64 0] none]) (by grind) none;simp only[go_sem,simprocAttr,OD,u,he];refine s9 (S:=Int) (λe=>e 3= .ptr (N+1) 0) (by rfl) (uK l) u [.box [v] none,.box [v] none] (λs=>[.box [v] none,.box [.int .u64 s] none]) (nB:=2) (λ_=>rfl) 0
  (λj s=>s=B4 (l.take j)) (λ_ _=>False) rfl ?_ (by simp) rfl (λ_ _ h=>h.elim) ?_ ?_ ?_
 ·exact RK v l w y (N+2) _
 ·rintro e he j x s d rfl;have f:j<l.length:=by
   have:=(abQ.1 d).1;rwa[wF]at this
  rw[Ki f]at d;cases d;have z:=y.2 _ (fE f);rw[aw6 f];generalize l.getD j default=r at*;generalize B4 (l.take j)=a at*;refine⟨rfl,λW G C A g=>?_⟩;simp only[go_sem,simprocAttr,gT,C];refine⟨[.box (aA r) none],rfl,λF t c=>?_⟩;simp only[eP,eO,akq,aem]at c;obtain⟨w0,w1⟩:=c;have f1: ∀L,(F++L)[N+1]?=some (.box [.int .u64 a] none):=λL=>bf w1
  simp(disch:=omega) only[go_sem,simprocAttr,adi,he,f1,t,nz];refine⟨by omega,T7 a r,?_,by omega,λi J B=>?_,rfl⟩
  ·simp only[eP,eO,akq,aem];refine⟨by rw[abN (by omega)];exact bf w0,?_⟩;rw[ac9 (by simp;omega)];rfl
  ·rw[abN (by omega),abP (by omega)]
 ·rintro e he s W p I rfl b g E;simp only[eP,eO,akq,aem]at g;obtain⟨w0,w1⟩:=g;have k: ∀o,(W.set p o).take N=H:=λo=>(b.set (by omega)).take u
  simp only[F1,go_sem,simprocAttr,he,w1,E,mj,k];rw[wF,aeo]
 grind
theorem aw7(k:Marks)(h: ∀i,gF (k i))(e:i<32)(H:List ae)(lo:oN):
  D X0 (.fn (.func 109) [] []) [.agg (ck k),.int .i64 i] ⟨H,lo⟩=some (.ret (.av (if(k i).has=0 then[.int .i64 0,.bool false]else[.int .i64 ((k i).has-1:Nat),.bool true])) ⟨H,lo⟩):=by
 refine aH I9 λN g=>?_
 have a: ∀H lo,D X0 (.fn (.func 139) [] []) [.int .i64 i,.int .i64 0] ⟨H,lo⟩=_:=λH lo=>KX i 0 H lo
 rw[show gA i 0=true by unfold gA;grind]at a;have b: (0:Int)<=i/\ (i:Int)<32:=by omega
 have f:=(h i).has;by_cases c: (k i).has=0
 ·rw[acE c];have d: (((k i).has:Nat):Int)=0:=by omega
  simp only[F1,go_sem,simprocAttr,I9,g,a,b,↓qW e,d]
 ·rw[acz c];have d: ¬(((k i).has:Nat):Int)=0:=by omega
  have j: (((k i).has:Nat):Int)-1=(((k i).has-1:Nat):Int):=by omega
  simp(disch:=omega) only[F1,go_sem,simprocAttr,I9,g,a,b,↓qW e,d,j]
theorem aw8(k:Marks)(u: ∀i,gF (k i))(t:Nat)(h: ∀j,j<32->(k j).has≠t+1)(H:List ae)(lo:oN):
  D X0 (.fn (.func 75) [] []) [.agg (ck k),.int .i64 t] ⟨H,lo⟩=some (.ret .an ⟨H,lo⟩):=by
 refine aH OS λN o=>?_
 have a:List.take 320 (ck k)=ck k:=ac4 (by rw[dI];omega);simp only[go_sem,simprocAttr,OS,o];refine ek 32 (λi e H'=>H'=H++[.box (ck k) none]/\e 1= .int .i64 t/\e 2= .ptr N 0/\e 5= .an/\e 9= .int .i64 i) 0 (by omega) ?_ ?_
 ·trivial
 rintro i y e H' ⟨rfl,e1,l,g,f⟩ x r;have z: (H++[ae.box (ck k) none])[N]?=some (.box (ck k) none):=di o;simp(disch:=omega) only[cg,F1,go_sem,simprocAttr,adu,l,g,f];refine⟨λv=>?_,λv=>?_⟩
 ·have b:i<32:=by omega
  have d:=λH lo=>aw7 k u b H lo
  have s:=h i b;by_cases c: (k i).has=0
  ·rw[acE c]at d;simp(disch:=omega) only[go_sem,simprocAttr,e1,l,g,f,dI,a,d];omega
  ·rw[acz c]at d;have w: ¬(((k i).has-1:Nat):Int)=t:=by omega
   simp(disch:=omega) only[go_sem,simprocAttr,e1,l,g,f,dI,a,d,w];omega
 grind
section
variable{n M p q:Nat}{m:aV}{qv ev:AV}{aD aJ:Nat->AV}{H:List ae}(ha:bt n M p q m qv ev aD aJ H)
include ha
theorem akC(h:t<8)(r: (m.ay t).t.code.length<=64)(lo:oN):
  ∃v,D XC (.fn (.func 77) [] []) [.ptr M 0,.int .i64 t] ⟨H,lo⟩=some (.ret (.agg (bX (m.ay t).t v)) ⟨H,lo⟩)/\Rv v 5 ((m.ay t).t.code.map cN):=by
 have o: (0:Int)<=t/\ (t:Int)<8:=by omega
 have j: ∀v,bX o5 v=[v,(.int .i64 0),(.int .u64 0),(.int .u64 0),(.int .u64 0),(.int .u64 0),(.int .u64 0),(.int .u64 0),(.int .u64 0),(.int .u64 0)]:=λv=>rfl
 obtain⟨v,b,g⟩:=aw4 (lo:=none) (H:=H++[.box (bX o5 .an) none,.box (bX (m.ay t).t (aD t)) none]) ((ha.cv t) _) (by unfold room;omega);refine⟨v,?_,g⟩;have b:=c0 b;have d:=cq g (bp (λ_=>rfl) _);have c:=cq (ha.cv t) (bp (λ_=>rfl) _);have a:=na (g ⟨H,none⟩);have f: ∀v:AV,aI (bX (m.ay t).t v)=v.refs:=λv=>by show aI ([v,AV.int .i64 (m.ay t).t.next]++arr 8 λi=>[AV.int .u64 ((m.ay t).t.aW i)])=_;rw[pR,Bc (λ_=>rfl)];simp[aI,AV.refs]
 have k: ∀L,(H++L)[M]?=some (.box (cE m p aD aJ ev) none):=λL=>bf ha.box
 have e: ∀v w,aM (bX (m.ay t).t v) 0 [w]=bX (m.ay t).t w:=λv w=>rfl
 refine aH OT λN l=>?_
 rw[j]at b;simp only[F1,go_sem,simprocAttr,OT,l,zx,ac5 h,k,Fx h,o,b,f,d,c,e,q0,TB,TC,a.1,a.2,anc,aks]
def xd(m:aV):lN:=if(List.range 8).any (jA m)then[]else(List.range 8).filter (iP m)
theorem T8(z: ∀op,ke op)(x:dq m)(w: ∀i,(m.ay i).c.aW.length<1073741824)(lo:oN):
  ∃v,D XC (.fn (.func 73) [] []) [.ptr M 0] ⟨H,lo⟩=some (.ret v ⟨H,lo⟩)/\Rv v 1 ((xd m).map gE):=by
 suffices I: ∃j,D XC (.fn (.func 73) [] []) [.ptr M 0] ⟨H,lo⟩=some j/\ (λj=> ∃v,j=aT.ret v ⟨H,lo⟩/\Rv v 1 ((xd m).map gE)) j by grind
 refine cH OQ λN y=>?_
 simp only[go_sem,simprocAttr,OQ];refine ek 8 (λk e W=> ∃v',e 0= .ptr M 0/\e 3=v'/\e 4= .fn (.func 65) [.ptr M 0] []/\e 8= .int .i64 k/\aR N W v' 1 kr (((List.range k).filter (iP m)).map gE)/\H<+:W/\ ∀i,i<k->jA m i=false) 0 (by omega) ?_ ?_
 ·refine⟨.an,?_⟩;simp only[go_sem,simprocAttr];exact⟨aR.an,List.prefix_refl _,λ_ h=>absurd h (amz _)⟩
 rintro k J e W ⟨v',u,e3,t,e8,f,B,d⟩ G C;obtain⟨L,rfl⟩:=B;have a:=Lo z (ha.app L) x w k;have b:=λlo=>ajn (fs:=[.ptr M 0]) (args:=[.int .i64 k]) (akt z (ha.app L) x w k lo)
 simp only[cg,go_sem,simprocAttr,adt,u,e3,e8];refine⟨λF=>?_,λF=>?_⟩
 ·have r:k<8:=by omega
  cases g:jA m k with
  |true=>
   rw[g]at a;simp(disch:=omega) only[F1,go_sem,simprocAttr,a];refine⟨_,rfl,?_⟩;have:xd m=[]:=acE (avT.2 ⟨k,ame.2 r,g⟩);rw[this];exact .an
  |false=>
   rw[g]at a;have c:=nU (p:=λi=>jA m i=false) d g;cases hw:iP m k with
   |true=>
    rw[hw]at b;simp only[go_sem,simprocAttr,e3,t,a,b];refine oA (H0:=H) (ys:=[[.int .i64 k]]) f (anY _ _) y (by omega) (by intro el s;rw[ada.1 s];rfl) rfl (by unfold room;have:=af0 (iP m) (List.range k);simp at this⊢;omega) λv2 W l o=>?_
    simp(disch:=omega) only[go_sem,simprocAttr,u,t,e8];refine⟨by omega,v2,rfl,?_,o,c⟩;rw[aoJ,aeq];simpa[hw,gE]using l
   |false=>
    rw[hw]at b;simp(disch:=omega) only[go_sem,simprocAttr,u,e3,t,e8,a,b];refine⟨by omega,v',rfl,?_,anY _ _,c⟩;rw[aoJ,aeq];simpa[hw]using f
 ·obtain rfl:k=8:=by omega
  rw[f.Hd (by rw[bp (λ_=>rfl)];omega),lh y];refine⟨_,rfl,?_⟩;have:xd m=(List.range 8).filter (iP m):=acz λh=>by
   obtain⟨i,E,A⟩:=avT.1 h;rw[d i (ame.1 E)]at A;cases A
  rw[this];exact aR.qd f
end
section
set_option maxHeartbeats 2000000
def jK(f:Nat->Bool)(k:Nat):Nat:=((List.range k).filter f).length
theorem akD(f:Nat->Bool)(k:Nat):jK f (k+1)=jK f k+(f k).toNat:=by
 unfold jK;rw[an7,aoJ,ac6]
 grind
def akE(f:Nat->Bool)(k:Nat):jK f k<=k:=by
 have:=af0 f (List.range k);simpa[jK]using this
theorem aw9(h:iP m t=true):fL m t=true:=by
 unfold iP at h
 grind
theorem axa(m:aV): (xd m).length=if 0<jK (jA m) 8\/jK (fL m) 8=0 then 0 else jK (fL m) 8:=by
 unfold xd;by_cases h: (List.range 8).any (jA m)=true
 ·rw[acE h];obtain⟨i,a,d⟩:=avT.1 h;rw[acE (.inl (au1.2 (List.ne_nil_of_mem (aey.2 ⟨a,d⟩))))];rfl
 ·rw[acz h];have b: ∀i∈List.range 8,jA m i=false:=λi a=>by grind
  have e: (List.range 8).filter (iP m)=(List.range 8).filter (fL m):=List.filter_congr λi a=>by
   have f:=b i a;unfold jA at f;cases ha:fL m i with
   |true=>grind
   |false=>
    cases hw:iP m i with
    |false=>rfl
    |true=>rw[aw9 hw]at ha;cases ha
  have g:jK (jA m) 8=0:=by
   unfold jK;simp_all
  rw[e,g];show jK (fL m) 8=_
  grind
section
variable{n M p q:Nat}{m:aV}{qv ev:AV}{aD aJ:Nat->AV}{H:List ae}(hD: ∀op,ke op)(ha:bt n M p q m qv ev aD aJ H)(hm:dq m)(hr: ∀i,(m.ay i).c.aW.length<1073741824)(hQ:m.ar.Q.length<1073741824)
include hD ha hm hr hQ
theorem axb(hk:ig m)(hb:B3 m)(lo:oN):D XC (.fn (.func 41) [] []) [.ptr M 0] ⟨H,lo⟩=some (.ret (.bool true) ⟨H,lo⟩):=by
 obtain⟨cv,d1,d2⟩:=FH ha hQ none;refine aH OE λN hN=>?_
 have O:jn.length=1274:=by rw[FF,ac6,dY,ac6,ac6,dI];rfl
 have S: ∀l:lA,l.length=1274->aM jn 0 l=l:=λl h=>nJ (by rw[O,h])
 have T:=S _ (w8 (x:=m.ar) (q:=q) (qv:=cv));have Y:=w8 (x:=m.ar) (q:=q) (qv:=cv);have X:aI (bA m.ar q cv)<=N+1:=by
  rw[Fj];have:=cq d2 (bp (λ_=>rfl) _);have:=ha.co.qp;have:=ha.co.lt;omega
 simp only[go_sem,simprocAttr,OE,hN,d1,O,T,Y,X];have g: ∀t,t<8->(bA m.ar q cv)[936+t]?=some (.bool (m.ar.S.alive t)):=λt ht=>by
  have:Den.part false 1 (bA m.ar q cv) (936+t)=some (.bool (m.ar.S.alive t)):=by
   unfold bA;rw[nI (by rw[dY];omega) (by omega)];exact Rp ht
  exact this
 refine ek 8 (λk e W=> ∃J,e 0= .ptr M 0/\e 3= .ptr N 0/\e 4= .int .i64 (jK (fL m) k)/\e 5= .int .i64 (jK (jA m) k)/\e 6= .int .i64 k/\W=H++ .box (bA m.ar q cv) none::J) 0 (by omega) ?_ ?_
 ·refine⟨[],?_⟩;simp only[go_sem,simprocAttr];exact⟨rfl,rfl⟩
 rintro k hkk e W ⟨J,K,e3,G,A,e6,rfl⟩ nn hnn;have c1:=akE (fL m) k;have c2:=akE (jA m) k;simp only[cg,go_sem,simprocAttr,adj,K,e6];refine⟨λhh=>?_,λhh=>?_⟩
 ·have f:k<8:=by omega
  have v: (0:Int)<=k/\ (k:Int)<8:=by omega
  have hA:=λL=>ha.app (.box (bA m.ar q cv) none:: (J++L))
  have u: ∀L,(H++ .box (bA m.ar q cv) none:: (J++L))[N]?=some (.box (bA m.ar q cv) none):=λL=>di hN
  obtain⟨rv,z,u2⟩:=FI (ha.app (.box (bA m.ar q cv) none::J)) hr k none;have d:=λL lo=>Lo hD (hA L) hm hr k lo
  have r:=akD (fL m) k;have a:=akD (jA m) k;have b:jA m k=(fL m k&& !iP m k):=by unfold jA;rw[ac5 f,aha]
  have s:fL m k=m.ar.S.alive k:=by unfold fL;rw[ac5 f,aha]
  have g:=g k f;have I: (true==false)=false:=rfl;have Z: (false==true)=false:=rfl;cases w:m.ar.S.alive k with
  |false=>
   have C: (m.ay k).busy=false:=by
    cases q: (m.ay k).busy with
    |false=>rfl
    |true=>rw[hb k f q]at w;cases w
   have hu:lC m k=none:=by unfold lC;rw[acz (by rw[C];simp)]
   have Q:gI m k rv= .av [.agg (br fu .an),.bool false]:=by unfold gI;rw[hu]
   have V:=λH lo=>c0 (aw8 m.ar.M hm.ar.M k (λj hj e=>by rw[hk.m j hj k f e]at C;cases C) H lo)
   rw[s,w,afH]at b;rw[s,w]at r;rw[b]at d a;rw[Q]at z;rw[w]at g;simp(disch:=omega) only[go_sem,simprocAttr,K,e3,G,A,e6,z,v,u,g,↓KL,V,d,CC,↓CC];exact⟨f,_,by rw[r];rfl,by rw[a];rfl,rfl⟩
  |true=>
   rw[s,w,aha]at b;rw[s,w]at r;rw[w]at g;cases hu:lC m k with
   |none=>
    have e1:iP m k=false:=by unfold iP;rw[hu]
    have Q:gI m k rv= .av [.agg (br fu .an),.bool false]:=by unfold gI;rw[hu]
    rw[e1,aoH]at b;rw[b]at d a;rw[Q]at z;simp(disch:=omega) only[go_sem,simprocAttr,K,e3,G,A,e6,z,v,u,g,d,CC,↓CC,I];exact⟨f,_,by rw[r];rfl,by rw[a];rfl,rfl⟩
   |some c=>
    have hc:c=(m.ay k).c:=by
     unfold lC at hu;split at hu
     ·injection hu with hu;exact hu.symm
     ·cases hu
    have e1:iP m k=(fL m k&& !c.checked&&wA m.ar.S k c.c):=by unfold iP;rw[hu]
    rw[s,w,aha]at e1;have Q:gI m k rv= .av [.agg (br c rv),.bool true]:=by unfold gI;rw[hu]
    have hw:=λH lo=>Th m.ar.S hm.ar.S k (by omega) c.c (by rw[hc];exact(hm.c k).ie) (hD _) H lo
    have U:=u2 c hu;have B:=cq U (bp (λ_=>rfl) _);rw[Q]at z;cases P:c.checked with
    |true=>
     rw[P]at e1;rw[show iP m k=false from e1,aoH]at b;rw[b]at d a;simp(disch:=omega) only[go_sem,simprocAttr,K,e3,G,A,e6,z,v,u,g,d,CC,↓CC,B,P,I];exact⟨f,_,by rw[r];rfl,by rw[a];rfl,rfl⟩
    |false=>
     rw[P,aoH,aha]at e1;rw[e1]at b;cases R:wA m.ar.S k c.c with
     |true=>
      rw[R,arq]at b;rw[b]at d a;rw[R]at hw;simp(disch:=omega) only[go_sem,simprocAttr,K,e3,G,A,e6,z,v,u,g,↓KL,d,CC,↓CC,B,P,hw,Z];exact⟨f,_,by rw[r];rfl,by rw[a];rfl,rfl⟩
     |false=>
      rw[R,aoH]at b;rw[b]at d a;rw[R]at hw;simp(disch:=omega) only[go_sem,simprocAttr,K,e3,G,A,e6,z,v,u,g,↓KL,d,CC,↓CC,B,P,hw,I];exact⟨f,_,by rw[r];rfl,by rw[a];rfl,rfl⟩
 ·obtain rfl:k=8:=by omega
  obtain⟨wv,w1,w2⟩:=T8 (ha.app (.box (bA m.ar q cv) none::J)) hD hm hr none;have o:=λE=>w2.bK (E:=E)
  simp only[axa]at o;by_cases g1:0<jK (jA m) 8
  ·have y: (0:Int)< (jK (jA m) 8:Nat):=by omega
   simp only[acE (Or.inl g1)]at o;simp(disch:=omega) only[F1,go_sem,simprocAttr,A,w1,o,y]
  ·have y: ¬(0:Int)< (jK (jA m) 8:Nat):=by omega
   by_cases g2:jK (fL m) 8=0
   ·have F: (jK (fL m) 8:Int)=0:=by omega
    simp only[acE (Or.inr g2)]at o;simp(disch:=omega) only[F1,go_sem,simprocAttr,G,A,w1,o,y,F]
   ·have F: ¬(jK (fL m) 8:Int)=0:=by omega
    simp only[acz (λq:_\/_=>q.elim g1 g2)]at o;simp(disch:=omega) only[F1,go_sem,simprocAttr,G,A,w1,o,y,F]
end
end
section
set_option maxHeartbeats 4000000
def nr:List EK->lA->Bool
 | [],[]=>true
 |.int::a,.int _ _::xs=>nr a xs
 |.bool::a,.bool _::xs=>nr a xs
 |_,_=>false
theorem T9: ∀ (a:List EK) (xs:lA),nr a xs=true->xs.length=a.length/\ij a xs xs=some true
 | [],[],_=>⟨rfl,rfl⟩
 |.int::a,.int _ _::xs,h=>by
  obtain⟨d,b⟩:=T9 a xs h;exact⟨by grind,by rw[Nz,if_pos rfl,b]⟩
 |.bool::a,.bool _::xs,h=>by
  obtain⟨d,b⟩:=T9 a xs h;exact⟨by grind,by rw[abU,if_pos rfl,b]⟩
theorem B5{a:List EK}{xs:lA}(h:nr a xs=true):dA (.agg a) (.agg xs) (.agg xs)=some true:=by
 obtain⟨d,b⟩:=T9 a xs h;show(if xs.length=a.length/\xs.length=a.length then ij a xs xs else none)=_
 grind
def Ua{x:Core}{ag:Bool}{o:Nat}(h:o+n<=952)(a:0<n):Den.part ag n (bA x q qv) o=Den.part ag n (bz x.S) o:=by
 exact nI (by rw[dY];omega) a
section
variable{n M p q n2 M2 p2 q2:Nat}{m:aV}{qv ev Le FL:AV}{aD aJ axd axe:Nat->AV}{H:List ae}(hD: ∀op,ke op)(ha:bt n M p q m qv ev aD aJ H)(hb:bt n2 M2 p2 q2 m Le FL axd axe H)
 (hm:dq m) (hr: ∀i,(m.ay i).c.aW.length<1073741824) (hQ:m.ar.Q.length<1073741824) (hE:m.ca.length<1000000)
include hD ha hb hm hr hQ hE
theorem axf(lo:oN):D XC (.fn (.func 42) [] []) [.ptr M 0,.ptr M2 0] ⟨H,lo⟩=some (.ret (.bool true) ⟨H,lo⟩):=by
 obtain⟨cv,d1,d2⟩:=FH ha hQ none;obtain⟨R,d3,d4⟩:=FH hb hQ none;refine aH OF λN hN=>?_
 have A:jn.length=1274:=by rw[FF,ac6,dY,ac6,ac6,dI];rfl
 have hzd: ∀l:lA,l.length=1274->aM jn 0 l=l:=λl h=>nJ (by rw[A,h])
 have I:=λqv q=>hzd _ (w8 (x:=m.ar) (q:=q) (qv:=qv))
 have Q:=λqv q=>w8 (x:=m.ar) (q:=q) (qv:=qv)
 have b:aI (bA m.ar q cv)<=N+1:=by
  rw[Fj];have:=cq d2 (bp (λ_=>rfl) _);have:=ha.co.qp;have:=ha.co.lt;omega
 have j:aI (bA m.ar q2 R)<=N+1+1:=by
  rw[Fj];have:=cq d4 (bp (λ_=>rfl) _);have:=hb.co.qp;have:=hb.co.lt;omega
 have X:=ha.app [.box (bA m.ar q cv) none,.box (bA m.ar q2 R) none];have hB:=hb.app [.box (bA m.ar q cv) none,.box (bA m.ar q2 R) none];obtain⟨v,v1,v2⟩:=FJ X hE none;obtain⟨w,w1,S⟩:=FJ hB hE none;have t1:=λlo=>FK X lo
 have t2:=λlo=>FK hB lo
 have s:=λE=>v2.bK (E:=E)
 have F:=λE=>S.bK (E:=E)
 have f1:=λlo=>c0 (Ls X.co.eB lo)
 have f2:=λlo=>c0 (Ls hB.co.eB lo)
 have P:=λH lo=>c0 (akB (lF m.ar.P) m.ar.P.free (uY _) hm.ar.P.free.ok H lo)
 have p1: ∀qv q,Den.part true 176 (bA m.ar q qv) 608=some (.agg (bS m.ar.S.K)):=λqv q=>(Ua (by omega) (by omega)).trans J6
 have p2: ∀qv q,Den.part true 128 (bA m.ar q qv) 480=some (.agg (cJ m.ar.S.O)):=λqv q=>(Ua (by omega) (by omega)).trans J5
 have p3: ∀qv q,Den.part true 152 (bA m.ar q qv) 784=some (.agg (wi m.ar.S.cY)):=λqv q=>(Ua (by omega) (by omega)).trans apG
 have z:=λE=>(d2 E).len
 have y:=λE=>(d4 E).len
 simp only[aej]at z y;simp(disch:=omega) only[go_sem,simprocAttr,OF,hN,d1,d3,A,I,Q,b,j,t1,t2,v1,w1,s,F,↓p1]
 iterate 4
  rw[B5 (by rfl)];simp(disch:=omega) only[go_sem,simprocAttr,f1,f2,P,↓p2,↓p3,↓KL,z,y,v1,w1]
 refine ek m.ca.length (λk e W=>W=H++[ae.box (bA m.ar q cv) none,.box (bA m.ar q2 R) none]/\e 0= .ptr M 0/\e 1= .ptr M2 0/\e 7=v/\e 8=w/\e 9= .int .i64 k) 0 (by omega) ?_ ?_
 ·simp(disch:=omega) only[go_sem,simprocAttr]
 ·rintro k hk e W ⟨rfl,f,e1,e7,e8,Y⟩ nn hnn;simp(disch:=omega) only[cg,go_sem,simprocAttr,adl,e7,Y,s];refine⟨λhh=>?_,λhh=>?_⟩
  ·have a:k<m.ca.length:=by omega
   have g1: ∀e,Den.part true 14 (gp e) 0=some (.agg (gp e)):=λ_=>rfl
   have hno: ∀n off,nu n (eh v k off)= .no:=λn off=>v2.aad a
   have O: ∀n off,nu n (eh w k off)= .no:=λn off=>S.aad a
   simp(disch:=omega) only[go_sem,simprocAttr,e8,Y,v2.cG,v2.cS,S.cG,S.cS,hno,O,↓g1];rw[B5 (by rfl)];simp(disch:=omega) only[go_sem,simprocAttr,f,e1,e7,e8,Y];refine⟨by omega,by omega,?_⟩;omega
  ·refine ek 8 (λk e W=> ∃J,e 0= .ptr M 0/\e 1= .ptr M2 0/\e 10= .int .i64 k/\W=H++J) 0 (by omega) ?_ ?_
   ·refine⟨[ae.box (bA m.ar q cv) none,.box (bA m.ar q2 R) none],?_⟩;simp(disch:=omega) only[go_sem,simprocAttr,f,e1]
   clear X hB d1 d3 v1 w1 t1 t2 f1 f2 P p1 p2 p3 z y s F I Q b j f e1 e7 e8 Y;rintro k hkk e W ⟨J,f,e1,d,rfl⟩ nn hnn;simp(disch:=omega) only[cg,F1,go_sem,simprocAttr,adk,f,d];refine⟨λhh=>?_,λhh=>?_⟩
   ·have a:k<8:=by omega
    have h08: (0:Int)<=k/\ (k:Int)<8:=by omega
    have G:=(hm.t k).len;have btt: (true==true)=true:=rfl;have bff: (false==false)=true:=rfl;obtain⟨a1,x1,x2⟩:=akC (ha.app J) a G none;obtain⟨a2,Z,y2⟩:=akC (hb.app J) a G none;obtain⟨tk,ml⟩: ∃tk,tk=(m.ay k).t:=⟨_,rfl⟩;rw[<-ml]at x1 Z;have C:=cq x2 (bp (λ_=>rfl) _);have B:=cq y2 (bp (λ_=>rfl) _);have b: ∀v:AV,aI (bX tk v)=v.refs:=λv=>by show aI ([v,AV.int .i64 tk.next]++arr 8 λi=>[AV.int .u64 (tk.aW i)])=_;rw[pR,Bc (λ_=>rfl)];simp[aI,AV.refs]
    have u: ∀v,Den.part true 8 (bX tk v) 2=some (.agg (arr 8 λi=>[AV.int .u64 (tk.aW i)])):=λv=>rfl
    have o: ∀ (c:Call) v,Den.part true 2 (br c v) 9=some (.agg (aA c.run)):=λc v=>rfl
    have r: ∀ (c:Call) v,(br c v)[8]?=some v:=λc v=>rfl
    have K:=λL lo=>Lo hD (ha.app (J++L)) hm hr k lo
    have g:=λL lo=>Lo hD (hb.app (J++L)) hm hr k lo
    obtain⟨V,T,u2⟩:=FI (ha.app (J++[.box (bX tk a1) none,.box (bX tk a2) none])) hr k none;cases hu:lC m k with
    |none=>
     obtain⟨U,t,u4⟩:=FI (hb.app (J++[.box (bX tk a1) none,.box (bX tk a2) none,.box (br fu .an) none])) hr k none;have q1:gI m k V= .av [.agg (br fu .an),.bool false]:=by unfold gI;rw[hu]
     have q2:gI m k U= .av [.agg (br fu .an),.bool false]:=by unfold gI;rw[hu]
     rw[q1]at T;rw[q2]at t;simp(disch:=omega) only[go_sem,simprocAttr,f,e1,d,x1,Z,C,B,b,T,t,q0,K8,↓u,CC,↓CC];rw[B5 (by rfl)];simp(disch:=omega) only[go_sem,simprocAttr,CC,↓CC,↓o,bff,aqg];rw[B5 (by rfl)];simp(disch:=omega) only[go_sem,simprocAttr,f,e1,d,r,K,g,aqg];exact⟨a,_,rfl⟩
    |some c=>
     obtain⟨U,t,u4⟩:=FI (hb.app (J++[.box (bX tk a1) none,.box (bX tk a2) none,.box (br c V) none])) hr k none;have q1:gI m k V= .av [.agg (br c V),.bool true]:=by unfold gI;rw[hu]
     have q2:gI m k U= .av [.agg (br c U),.bool true]:=by unfold gI;rw[hu]
     rw[q1]at T;rw[q2]at t;have CY:=cq (u2 c hu) (bp (λ_=>rfl) _);have NL:=cq (u4 c hu) (bp (λ_=>rfl) _);have z:=λE=>(u2 c hu).bK (E:=E)
     have y:=λE=>(u4 c hu).bK (E:=E)
     simp(disch:=omega) only[go_sem,simprocAttr,f,e1,d,x1,Z,C,B,b,T,t,q0,K8,↓u,CC,↓CC,CY,NL];rw[B5 (by rfl)];simp(disch:=omega) only[go_sem,simprocAttr,CC,↓CC,↓o,btt,aqg];rw[B5 (by rfl)];simp(disch:=omega) only[go_sem,simprocAttr,f,e1,d,r,K,g,aqg,z,y];exact⟨a,_,rfl⟩
   ·trivial
end
end
section
set_option maxHeartbeats 2000000
def mw:lB:=[31,0,0,0,0,0,0,0,0,0,0,0]
def xe:aV:=(wD ⟨2,[mw],[0,0]⟩).1
def Lu:aV:=(eX xe 16).1
def Lx:aV:=(eX Lu 0).1
theorem axk: (wD ⟨2,[mw],[0,0]⟩).2=[0,0]:=by rfl
theorem axl:xd xe=[0]:=by rfl
theorem axm: (eX xe 16).2=0:=by rfl
theorem axn: (eX Lu 0).2=12:=by rfl
theorem axo:Lx.ca.length=1:=by rfl
theorem axp:Lx.now=3:=by rfl
theorem axq:xd Lx=[]:=by rfl
theorem axr:mZ ⟨2,[mw],List.map UInt8.toNat [0,0]⟩=true:=by rfl
theorem Fm.akG{H W:List ae}(h:Fm n [M,p,q] H W)(c:bt n M p q m qv ev aD aJ H){ty:TypeId}(g:ty≠kr)(f:ty≠mB){id ai:Nat}{b:List lA}(e:H[id]?=some (.row ai sz ty b)):W[id]?=some (.row ai sz ty b):=h.box id _ (by
 have g1:=c.box;have g2:=c.co.box;have i:=c.co.eB
 grind) (λq=>by
 rcases q with⟨a,d,q⟩| ⟨a,d,q⟩
 ·grind
 grind) e
def axs(H:List ae)(lo:oN):D X0 (.fn (.func 72) [] []) [] ⟨H,lo⟩=some (.ret (.agg [.int .i64 2,.sl [[S mw]] true,S [0,0]]) ⟨H,lo⟩):=by
 refine aH OP λN b=>?_
 have a: ∀l,bT [[S l]]=0:=λl=>by rfl
 simp only[F1,go_sem,simprocAttr,OP,b,a];rfl
def axt(H:List ae)(lo:oN): ∃E,D XC (.fn (.func 37) [] []) [] ⟨H,lo⟩=some (.ret (.bool true) E):=by
 suffices hs: ∃d,D XC (.fn (.func 37) [] []) [] ⟨H,lo⟩=some d/\ (λd=> ∃E,d= .ret (.bool true) E) d by
  obtain⟨d,h,E,rfl⟩:=hs;exact⟨E,h⟩
 refine cH OA λN hN=>?_
 have h:Lq 2 [mw] [0,0] (.sl [[S mw]] true):=⟨by omega,.sl (af:=[[S mw]]) (λel h=>by rw[ada.1 h];rfl)⟩;have a0:=λH lo=>c0 (axs H lo)
 obtain⟨kv,z,o2⟩:=T4 h (by rfl) H none;have z:D XC (.fn (.func 14) [] []) [.agg [.int .i64 2,.sl [[S mw]] true,S [0,0]]] ⟨H,none⟩=_:=c0 z;obtain⟨d,x,M,p,q,qv,ev,aD,aJ,b,H1,f,rfl,j,R,r4,r5⟩:=akn (n:=2) vd o2 axr N H hN none;obtain⟨g,A⟩:=B2 (n:=2) (by decide) [mw] (aE:=[0,0]) (by decide) 2 (aeg _);have k:=Lp (n:=2) (by decide) [mw] (aE:=[0,0]) (by decide) 2 (aeg _);have em:runK 2 [mw] [0,0] 2=wD ⟨2,[mw],[0,0]⟩:=T0 2 [mw] [0,0];rw[em]at g A k;have e1: (wD ⟨((2:Nat):Int),[mw],List.map UInt8.toNat [0,0]⟩).2=[0,0]:=axk;rw[e1]at R;have B:=axl;have j:bt N M p q xe qv ev aD aJ H1:=j;have g:ra xe:=g;have A:xe.now<=2:=A;have k:oh xe:=k;have g1:=axm;have g2:=axn;have g5:=axo;have g6:=axp;have g7:=axq;have m:Lu=(eX xe 16).1:=rfl;have l:Lx=(eX Lu 0).1:=rfl;obtain⟨t,l2⟩:=TZ g (by omega) 16;have V:=T3 g.ok.ar.S k 16;rw[<-m]at t l2 V;obtain⟨U,l5⟩:=TZ t (by omega) 0;have T:=T3 t.ok.ar.S V 0;rw[<-l]at U l5 T;obtain⟨w,w1,r⟩:=T8 j vd g.ok (λi=>by have:=k i;unfold iF at this;omega) f;rw[B]at r;obtain⟨d,s,Le,FL,X,Q,Y,e,rfl,y,p3,p4⟩:=Ll vd j g (by omega) 16 (by omega) f;rw[g1]at s;rw[<-m]at y;have J:=R.lg λid ai all C=>p3.akG j (ty:=qg) (sz:=1) (by decide) (by decide) C
 obtain⟨d,s1,qv3,ev3,W,P,c,a,rfl,s2,s3,s4⟩:=Ll vd y t (by omega) 0 (by omega) e;rw[g2]at s1;rw[<-l]at s2;have I:=J.lg λid ai all C=>s3.akG y (ty:=qg) (sz:=1) (by decide) (by decide) C
 obtain⟨v,v1,v2⟩:=FJ s2 (by omega) a;have G:=FK s2 a;obtain⟨u,Z,O⟩:=T8 s2 vd U.ok (λi=>by have:=T i;unfold iF at this;omega) a;rw[g7]at O;have x:D XC (.fn (.func 13) [] []) [.agg [.int .i64 2,.sl [[S mw]] true,kv]] ⟨H,none⟩=_:=x;have s:D XC (.fn (.func 30) [] []) [.ptr M 0,.int .u8 16] ⟨H1,f⟩=some (.ret (.int .i64 0) ⟨Y,e⟩):=s;have s1:D XC (.fn (.func 30) [] []) [.ptr M 0,.int .u8 0] ⟨Y,e⟩=some (.ret (.int .i64 12) ⟨c,a⟩):=s1;have G:D XC (.fn (.func 38) [] []) [.ptr M 0] ⟨c,a⟩=some (.ret (.int .i64 3) ⟨c,a⟩):=by rw[G,g6];rfl
 have F:dA EK.ptr (AV.ptr M 0) AV.dP=some false:=rfl;have o:=I.rd (lo:=a);have b2:fb ⟨c,a⟩ .sl b=some (.int .i64 2):=o.bK;have b3:iG 1 b (.int .i64 0)=some (eh b 0 0):=by rw[o.cG];rfl
 have b4:iG 1 b (.int .i64 1)=some (eh b 1 0):=by rw[o.cG];rfl
 have b5:bW XC ⟨c,a⟩ false 1 (eh b 0 0)=some (.int .i64 0):=by rw[o.cS (by decide)];rfl
 have b6:bW XC ⟨c,a⟩ false 1 (eh b 1 0)=some (.int .i64 0):=by rw[o.cS (by decide)];rfl
 have b7:fb ⟨c,a⟩ .sl w=some (.int .i64 1):=r.bK;have b8:iG 1 w (.int .i64 0)=some (eh w 0 0):=by rw[r.cG];rfl
 have b9:bW XC ⟨c,a⟩ false 1 (eh w 0 0)=some (.int .i64 0):=by rw[r.cS (by decide)];rfl
 have L:fb ⟨c,a⟩ .sl v=some (.int .i64 1):=by rw[v2.bK,g5];rfl
 have K:fb ⟨c,a⟩ .sl u=some (.int .i64 0):=O.bK;simp only[go_sem,simprocAttr,OA,a0,z,x,F,w1,s,s1,b2,b3,b4,b5,b6,b7,b8,b9,v1,L,G,Z,K];exact⟨_,by rw[akw (ac7 _)]⟩
end
section
set_option maxHeartbeats 4000000
theorem run_mk(n:Nat)(aC:List lB)(aE:lB): ∀k,k<=aE.length->ig (runK n aC aE k).1/\B3 (runK n aC aE k).1
 |0,_=>⟨by show ig (eZ n aC aC.length);rw[akg n aC []];exact ig.new,λ_ _ h=>(by cases h)⟩
 |k+1,a=>by
  obtain⟨c,b⟩:=run_mk n aC aE k (by omega);rw[B1 a];exact⟨c.pick _,b.pick _⟩
theorem cD.Ly{N K:Nat}{S:lN}{H W:List ae}{ty:TypeId}{af:List lA}(h:cD N H v sz ty af)(d:H.length<=K)(b: ∀i,i<K->i∉S->W[i]?=H[i]?)(c: ∀i∈S,∃cs tg,H[i]?=some (.box cs tg)):cD N W v sz ty af:=
 h.lg λid ai all a=>by grind
theorem bt.Ly{K:Nat}{S:lN}{H W:List ae}(h:bt n M p q m qv ev aD aJ H)(g:H.length=K)(f:K<=W.length)(a: ∀i,i<K->i∉S->W[i]?=H[i]?)(b: ∀i∈S,∃cs tg,H[i]?=some (.box cs tg))(e:M∉S)(d:p∉S)(c:q∉S):bt n M p q m qv ev aD aJ W:=by
 have l:=h.lt;have k:=h.co.lt;have j:=dM h.co.eB;exact⟨h.Mq,⟨by have:=h.co.mp;omega,h.co.qp,by rw[a _ (by omega) d];exact h.co.box,by rw[a _ (by omega) c];exact h.co.eB,h.co.ic.Ly (by omega) a b⟩,by rw[a _ (by omega) e];exact h.box,h.pE.Ly (by omega) a b,h.cv,h.rv⟩
def bt.base{H W:List ae}(h:bt n M p q m .an .an aD aJ H)(b:m.ar.Q=[])(c:m.ca=[])(a: ∀i,i<H.length->W[i]?=H[i]?):bt W.length M p q m .an .an aD aJ W:=by
 have f:=h.lt;have e:=h.co.lt;have d:=dM h.co.eB;exact⟨h.Mq,⟨aeg _,h.co.qp,by rw[a _ e];exact h.co.box,by rw[a _ d];exact h.co.eB,by rw[b];exact cD.an⟩,by rw[a _ f];exact h.box,by rw[c];exact cD.an,h.cv,h.rv⟩
section
variable{np:Int}{aC:List lB}{aE:lB}{pv:AV}(h:Lq np aC aE pv)
include h
theorem axu(H:List ae)(lo:oN):
  ∃cr,D XC (.fn (.func 8) [] []) [.agg (dL np pv aE)] ⟨H,lo⟩=some cr/\ ∃E,cr= .ret (.bool true) E:=by
 refine cH D0 λN I=>?_
 have hw:=axt;have hr:=awP h;have hl: (dL np pv aE).length=3:=rfl;have ht:List.take 3 (dL np pv aE)=dL np pv aE:=rfl;have o:=λH lo=>c0 (awR h H lo)
 have s: ∀E:AS,∃E',aT.ret (finish N lo (.bool true) E).1 (finish N lo (.bool true) E).2= .ret (.bool true) E':=λE=>⟨_,by rw[akw (ac7 _)]⟩
 obtain⟨B,G⟩:=hw (H++[.box (dL np pv aE) none]) none;obtain⟨g,L⟩: ∃g,g=Lr aC aE:=⟨_,rfl⟩;rw[<-L]at o;cases g with
 |true=>
  simp only[go_sem,simprocAttr,D0,I,hl,ht,o,G];exact s B
 |false=>
  have r:vc aC aE=false/\aE.length<=1500:=by
   unfold Lr at L;have L:=L.symm;simp only[Bool.or_eq_false_iff,decide_eq_false_iff_not]at L;exact⟨L.1,by omega⟩
  have u:=λH lo=>c0 (awS h r.1 H lo)
  obtain⟨sm,a⟩: ∃g,g=mZ ⟨np,aC,aE.map UInt8.toNat⟩:=⟨_,rfl⟩;rw[<-a]at u;cases sm with
  |false=>
   simp only[go_sem,simprocAttr,D0,I,hl,ht,o,u,G];exact s B
  |true=>
   clear G B;obtain⟨kv,o1,o2⟩:=T4 h r.1 (H++[.box (dL np pv aE) none]) none;have o1:=c0 o1;have Ty: ∃n:Nat,np=n:=⟨np.toNat,by unfold mZ at a;have a:=a.symm;simp at a;omega⟩;obtain⟨n,rfl⟩:=Ty;have b:1<=n/\n<=64/\aE.length<=4000:=by unfold mZ at a;have a:=a.symm;simp at a;omega
   obtain⟨cr,n1,t,Q,rfl,n2,n3⟩:=aki o2 a.symm (N+1) (H++[.box (dL n pv aE) none]) (by simp[I]) none;have c:=akl (N:=N+1) (n:=n) (aC:=aC) (pv:=pv) (kv:=kv) (H:=H++[.box (dL n pv aE) none]) (by simp[I]) n2;have w: (jJ (eZ n aC aC.length) n (N+1) pv kv t (H++[.box (dL n pv aE) none]))[N]?=some (.box (dL n pv aE) none):=by
    unfold jJ;rw[abP (by simp[I]),di I];rfl
   generalize jJ (eZ n aC aC.length) n (N+1) pv kv t (H++[.box (dL n pv aE) none])=Wa at*;obtain⟨kw,o3,o4⟩:=T4 h r.1 Wa Q;have o3:=c0 o3;obtain⟨cr,r1,M,p,q,qv,ev,aD,aJ,ov2,H1,mm,rfl,r2,r3,r4,r5,r6,r7,r8⟩:=akn vd o4 a.symm Wa.length Wa rfl Q;rw[<-T0]at r2;have j:=c.base rfl rfl r5;have Z:H1[N]?=some (.box (dL n pv aE) none):=by rw[r5 N (dM w)];exact w
   have hpn:dA EK.ptr (AV.ptr M 0) AV.dP=some false:=rfl;have V:dA EK.ptr (AV.ptr (N+2) 0) AV.dP=some false:=rfl;have U:N+1+1=N+2:=rfl;rw[U]at n1;simp only[go_sem,simprocAttr,D0,I,hl,ht,o,u,o1,n1,w,o3,r1,hpn,V];obtain⟨K,hK⟩: ∃K,H1.length=K:=⟨_,rfl⟩;rw[hK]at j;have hS: ∀i∈[N+2,N+4,N+3],∃cs tg,H1[i]?=some (.box cs tg):=λi Y=>by
    simp only[aeB,List.not_mem_nil,or_false]at Y;rcases Y with rfl|rfl|rfl
    ·exact⟨_,_,j.box⟩
    ·exact⟨_,_,j.co.box⟩
    ·exact⟨_,_,j.co.eB⟩
   have hWa:=c.co.lt;have hNK:N<K:=by have:=dM Z;omega
   have hMS:M∉[N+2,N+4,N+3]:=by have:=c.lt;have:=dM c.co.eB;simp;omega
   have hpS:p∉[N+2,N+4,N+3]:=by have:=c.lt;have:=dM c.co.eB;simp;omega
   have hqS:q∉[N+2,N+4,N+3]:=by have:=c.lt;have:=dM c.co.eB;simp;omega
   clear o1 o2 o3 o4 n1 n2 n3 r1 r3 r4 r5 r6 r7 r8 w c o u;refine iJ aE.length (λk e W aj=> ∃qv ev aD aJ,e 1= .ptr N 0/\e 3= .ptr (N+2) 0/\e 5= .ptr M 0/\e 8= .int .i64 k/\bt K (N+2) (N+4) (N+3) (runK n aC aE k).1 qv ev aD aJ W/\ ∀i,i<K->i∉[N+2,N+4,N+3]->W[i]?=H1[i]?) 0 (by omega) ?_ ?_
   ·refine⟨.an,.an,t,λ_=>.an,?_⟩;simp only[go_sem,simprocAttr];exact⟨j,λ_ _ _=>trivial⟩
   clear j;rintro k hk e W aj ⟨qa,ea,cva,rva,e1,e3,e5,e8,J,m⟩ nn hn;have hb:W[N]?=some (.box (dL n pv aE) none):=by rw[m N hNK (by simp)];exact Z
   have F: (dL (n:Int) pv aE)[2]?=some (S aE):=rfl;obtain⟨C,k2⟩:=B2 ⟨b.1,b.2.1⟩ aC b.2.2 k hk;have k3:=Lp ⟨b.1,b.2.1⟩ aC b.2.2 k hk;simp only[cg,go_sem,simprocAttr,adb,e1,e3,e5,e8,hb,F];refine⟨λhh=>?_,λhh=>?_⟩
   ·have f:k<aE.length:=by omega
    have hQ: (runK n aC aE k).1.ar.Q.length<1073741824:=by have:=C.q;omega
    have hE: (runK n aC aE k).1.ca.length<1000000:=by have:=C.e;omega
    have t1:=FK J aj;obtain⟨v,v1,v2⟩:=FJ J hE aj;obtain⟨cv,d1,d2⟩:=FH J hQ aj;have f1:=c0 (Ls J.co.eB aj);have X:=λW lo=>c0 (akB (lF (runK n aC aE k).1.ar.P) _ (uY _) C.ok.ar.P.free.ok W lo)
    obtain⟨cr,P,O,FL,A,y,W2,d,rfl,z,p3,p4⟩:=Ll vd J C (by omega) (aE.getD k 0).toNat (aE.getD k 0).toNat_lt aj;have hks: (eX (runK n aC aE k).1 (aE.getD k 0).toNat).1=(runK n aC aE (k+1)).1:=by rw[B1 f];rfl
    have l: ∀i,i<K->i∉[N+2,N+4,N+3]->W2[i]?=H1[i]?:=λi Y hs=>(p3.low i Y hs).trans (m i Y hs)
    have R:=aw3 (runK n aC aE k).1 (aE.getD k 0).toNat;obtain⟨j1,j2⟩:=B2 ⟨b.1,b.2.1⟩ aC b.2.2 (k+1) f;have j3:=Lp ⟨b.1,b.2.1⟩ aC b.2.2 (k+1) f;obtain⟨j4,j5⟩:=run_mk n aC aE (k+1) f;rw[hks]at z R;have T:=axb vd z j1.ok (λi=>by have:=j3 i;unfold iF at this;omega) (by have:=j1.q;omega) j4 j5 d;have y1:=FK z d;obtain⟨x,x1,x2⟩:=FJ z (by have:=j1.e;omega) d;obtain⟨cw,y2,y3⟩:=FH z (by have:=j1.q;omega) d;have y4:=c0 (Ls z.co.eB d);rcases R with⟨q1,q2⟩| ⟨q1,q2⟩
    ·have q1': ¬((eX (runK n aC aE k).1 (aE.getD k 0).toNat).2:Int)=0:=by omega
     rw[q2]at y1 y2 y4;have x3:=λE=>x2.bK (E:=E)
     rw[q2]at x3;simp(disch:=omega) only[go_sem,simprocAttr,e1,e3,e5,e8,hb,F,t1,v1,v2.bK,d1,f1,X,KL,↓KL,P,q1',y1,x1,x3,y2,y4,T];exact⟨by omega,f,O,FL,A,y,z,l⟩
    ·have q2': ((runK n aC aE (k+1)).1.now:Int)=(runK n aC aE k).1.now+1:=by omega
     rw[q1]at P;have P:D XC (.fn (.func 30) [] []) [.ptr (N+2) 0,.int .u8 (aE.getD k 0).toNat] ⟨W,aj⟩=some (.ret (.int .i64 0) ⟨W2,d⟩):=P;simp(disch:=omega) only[go_sem,simprocAttr,e1,e3,e5,e8,hb,F,t1,v1,v2.bK,d1,f1,X,KL,↓KL,P,y1,q2',T];exact⟨by omega,f,O,FL,A,y,z,l⟩
   ·obtain rfl:k=aE.length:=by omega
    have hQ: (runK n aC aE aE.length).1.ar.Q.length<1073741824:=by have:=C.q;omega
    have hE: (runK n aC aE aE.length).1.ca.length<1000000:=by have:=C.e;omega
    have hs:=axf vd J (r2.Ly hK J.co.mp m hS hMS hpS hqS) C.ok (λi=>by have:=k3 i;unfold iF at this;omega) hQ hE aj;obtain⟨Hg,Vc⟩:=hw W aj;simp only[go_sem,simprocAttr,hs,Vc];exact s Hg
theorem akH: ∃E,D XC (.fn (.func 8) [] []) [.agg (dL np pv aE)] ⟨[],none⟩=some (.ret (.bool true) E):=by
 obtain⟨b,a,E,rfl⟩:=axu h [] none
 grind
end
end
set_option maxHeartbeats 1000000 in
set_option maxRecDepth 100000 in
def axD(n:Nat)(f:0<n)(d:n<=1024)(w:World):
  Calls Tryz.prog 192 #[.slice none 0 0,.int .i64 n] w λe w'=> ∃cs:Array Value,e= .returned (.slice (some ⟨w.heap.size,0,none⟩) 0 (grownCap w n 0 fg))/\w'=w.drew.alloc (.cells cs fg)/\cs.size=grownCap w n 0 fg*2:=by
 go_enter Tryz.func192,Tryz.ntmps192
 have c:Tryz.t100.bytes=16:=by kernel_rfl
 have b:Builtin.nextslicecap n 0=n:=by unfold Builtin.nextslicecap;simp;omega
 go_wp2
 all_goals first
  | (exfalso;simp only[c,b]at*;omega)
  | (go_ret;refine⟨rfl,_,rfl,?_⟩;have a:=axv w n 0 fg;unfold grownCap fg at a⊢;simp only[ayB,ayw,axB,aep,alQ];generalize(Question.appendCap n 0 _).cut _=q at*;omega)
set_option maxHeartbeats 1000000 in
set_option maxRecDepth 100000 in
def axE(w:World):
  Calls Tryz.prog 192 #[.slice none 0 0,.int .i64 0] w λe w'=>e= .returned (.slice none 0 0)/\w'=w:=by
 go_enter Tryz.func192,Tryz.ntmps192
 go_wp2
 all_goals(go_ret;exact⟨rfl,rfl⟩)
theorem axF{f:Nat}{fn:Func}(d:Tryz.prog.funcs[f]?=some fn)(g:fn.body.isSome=true)(a: (fn.name== "runtime.NumGoroutine")=false)(args:Array Value)(w:World):
  (callFunc f args).run Tryz.prog w= .ok (.enter f args) w:=by
 have b: ¬fn.name= "runtime.NumGoroutine" :=by grind
 obtain⟨c,e⟩:=aqH.1 g;simp[callFunc,aoG,d,b,e]
theorem axG(B:Nat)(b:World):gg Tryz.prog B b 192 BR:=by
 intro args E s h G w a hw i;rw[axF (f:=192) (fn:=Tryz.f192) Tryz.func192 (by rfl) (by rfl)];show CallsIn (W none) 0 Tryz.prog _ a w _;rw[al7];refine callsIn_wide.2 ?_;unfold BR at h;split at h
 ·rename_i n;simp only[aG]at i;obtain⟨v0,q,r,rfl,v1,p,rfl,rfl,rfl⟩:=i;obtain rfl:a= #[.slice none 0 0,.int .i64 n]:=by grind
  split at h
  ·rename_i g;subst g;cases h;refine(axE w).mono ?_;rintro e w' ⟨rfl,rfl⟩;exact⟨G,G.le_refl,hw,rfl,.refl _⟩
  ·split at h
   ·rename_i g;obtain⟨k,rfl⟩: ∃k:Nat,n=k:=⟨n.toNat,by omega⟩;cases h;refine(axD k (by omega) (by omega) w).mono ?_;rintro e w' ⟨cs,rfl,rfl,d⟩;obtain⟨m,o,v2,e1,g1,g2,l,j⟩:=F2 hw (sz:=2) (af:=[]) (c:=cs) (vs:=[]) (post:=cs.toList) (w':=w.drew) fg rfl (λel h=>by cases h) rfl (λv h=>by cases h) d (ac7 _) 0 rfl rfl hw.drew;cases e1;exact⟨m,g1,g2,l,j⟩
   ·cases h
 grind
end Go.Proofs.YteplichagkpciaaGreatDoor
