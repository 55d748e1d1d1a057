/- A part. -/
import Derived.Test.YtcdeobefbpnfeaaGreatDoorM3
import Derived.KernelRfl
import Derived.Test.YtcdeobefbpnfeaaGreatDoorProg
import Derived.WalkKit
import Derived.Lib.AppendZerosOnto
set_option linter.all false
set_option maxRecDepth 10000
set_option maxHeartbeats 1000000
namespace Go.Proofs.YtcdeobefbpnfeaaGreatDoor
open Go Go.Den Go.RowKit
variable{l:List aD}{n a aa i M p q k sz r:Nat}{x y:aB}{t:aw}{c:cx}{m:aS}{qv ev pv kv v:AV}{aF aQ:Nat->AV}{lo:oN}{aE:List lB}{af:List lA}{α:Type}{W0:List ae}
def aof:=@List.countP_le_length
def axL:=@List.any_eq_true
def azd:=@Bool.or_eq_false_iff
def az7:=@decide_eq_true_iff
def aAp:=@List.any_eq_false
def aAL:=@List.all_eq_false
structure RO(x:aB)(a:aB×bF):Prop where
 s:bf a.1.s
 back:a.1.back=x.back
 w:a.2.w<4294967296
 v:a.2.v<18446744073709551616
theorem vL{e:Nat}{u:Unit}(h:cp e= .ok u):e=0:=by
 unfold cp at h;grind
def axQ{r:dm}(h:gg r)(d:n<=2048)(b: ∀x∈l,1<=x.2/\x.1+x.2<=64)(c:aM l<=64):gg {r with runs:=l,len:=n}:=⟨h.up,h.dn,d,h.cells,b,c⟩
theorem Aq{b:Bool}{e:Nat}{u:Unit}(h:ask b e= .ok u):b=true:=by
 unfold ask at h;grind
theorem axR{r:aD}(h:pU (l++[r]) n=true):1<=r.2/\r.1+r.2<=64:=by
 unfold pU at h;rw[Lv]at h;simp only[af0]at h;cases hm:mH [] l with
 |none=>grind
 |some m=>
  rw[hm]at h;unfold mH at h;cases b:iT m r with
  |none=>grind
  |some a=>
   unfold iT at b;split at b
   ·rename_i c;unfold ld at c
    grind
   grind
def Gx{h t:Nat}(b:bf x.s)(c:h<4294967296)(e:mM x h t= .ok y):bf y.s/\y.back=x.back:=by
 obtain⟨_,_,e⟩:=aL e;cases e;exact⟨b.uh (b.O.iT c),rfl⟩
def UY{h:Nat}{r:dm}(b:bf x.s)(c:gg r)(e:nq x h r= .ok y):bf y.s/\y.back=x.back:=by
 obtain⟨_,_,e⟩:=aL e;cases e;exact⟨b.ug (b.dw.set c),rfl⟩
def CM{h:Nat}(b:bf x.s)(e:vq x h= .ok y):bf y.s/\y.back=x.back:=by
 obtain⟨_,_,e⟩:=aL e;cases e;exact⟨b.ug (b.dw.cut h),rfl⟩
section
variable{x:aB}(hx:mR x){a:aB×bF}
include hx
theorem axS(h:sT x= .ok a):RO x a:=by
 unfold sT at h;have b: (fu x.s.T x.c.r (min x.c.a 65)).2.1<4294967296:=aiQ hx.s.T.b;have c:bf (x.t (fu x.s.T x.c.r (min x.c.a 65)).1).s:=hx.s.ug (hx.s.dw.new _ _ hx.c.r);by_cases d:x.c.r=0
 ·simp only[d,ne_eq,not_true,aiz,af1]at h;obtain⟨_,_,h⟩:=aL h;obtain⟨y,e,h⟩:=aL h;cases h;rw[d]at b c;obtain⟨g,f⟩:=Gx c b e;exact⟨g,f,b,by show 0<18446744073709551616;omega⟩
 ·simp only[d,ne_eq,aAf,aiz,af1]at h;obtain⟨_,_,h⟩:=aL h;obtain⟨_,_,h⟩:=aL h;obtain⟨y,e,h⟩:=aL h;cases e;cases h;exact⟨c,rfl,b,by show 0<18446744073709551616;omega⟩
theorem alj{w:Nat}(h:rh x w= .ok a):RO x a/\a.2=bO:=by
 obtain⟨_,_,h⟩:=aL h;obtain⟨_,_,h⟩:=aL h;obtain⟨_,_,h⟩:=aL h;obtain⟨_,_,h⟩:=aL h;cases h;exact⟨⟨hx.s,rfl,by show 0<4294967296;omega,by show 0<18446744073709551616;omega⟩,rfl⟩
theorem axT(h:w9 x= .ok a):RO x a:=by
 obtain⟨_,_,h⟩:=aL h;obtain⟨_,_,h⟩:=aL h;obtain⟨y,e,h⟩:=aL h;obtain⟨z,g,h⟩:=aL h;cases h;obtain⟨f,d⟩:=CM hx.s e;obtain⟨c,b⟩:=Gx f hx.c.r g;exact⟨c,b.trans d,by show 0<4294967296;omega,by show 0<18446744073709551616;omega⟩
theorem axU(h:xa x= .ok a):RO x a:=by
 obtain⟨_,_,h⟩:=aL h;obtain⟨_,_,h⟩:=aL h;obtain⟨_,_,h⟩:=aL h;cases h;exact⟨hx.s.ug (hx.s.dw.auI _ _ hx.c.s),rfl,by show 0<4294967296;omega,by show 0<18446744073709551616;omega⟩
theorem axV(h:xb x= .ok a):RO x a:=by
 obtain⟨_,_,h⟩:=aL h;obtain⟨y,e,h⟩:=aL h;obtain⟨_,_,h⟩:=aL h;cases h;obtain⟨b,c⟩:=CM hx.s e;exact⟨b.uh (b.O.freeze hx.c.r),c,by show 0<4294967296;omega,by show 0<18446744073709551616;omega⟩
theorem axW(h:xc x= .ok a):RO x a:=by
 obtain⟨_,_,h⟩:=aL h;obtain⟨_,_,h⟩:=aL h;obtain⟨_,_,h⟩:=aL h;cases h;exact⟨hx.s.uh (hx.s.O.held hx.c.r),rfl,by show 0<4294967296;omega,by show 0<18446744073709551616;omega⟩
theorem axX(b: ∀t,(lh x.s.K t).2.1<4294967296)(h:ri x= .ok a):RO x a:=by
 unfold ri at h;obtain⟨_,_,h⟩:=aL h;obtain⟨_,_,h⟩:=aL h;obtain⟨_,_,h⟩:=aL h
 try rfl
 have d:=hx.t;have c:uc ⟨x.c.r,x.aa % 256,x.c.a % 256,decide (x.c.b=1),x.c.s⟩:=⟨hx.c.r,aoe _ (by omega),aoe _ (by omega),hx.c.s⟩;split at h
 ·obtain⟨_,_,h⟩:=aL h;obtain⟨_,_,h⟩:=aL h;cases h;exact⟨hx.s.Aa (hx.s.tok.aiL c),rfl,b _,by show 0<18446744073709551616;omega⟩
 ·obtain⟨_,_,h⟩:=aL h;obtain⟨_,_,h⟩:=aL h;obtain⟨_,_,h⟩:=aL h;cases h;exact⟨hx.s.Aa (hx.s.tok.aiL c),rfl,b _,by show 0<18446744073709551616;omega⟩
theorem axY(h:xd x= .ok a):RO x a:=by
 obtain⟨_,_,h⟩:=aL h;obtain⟨_,_,h⟩:=aL h;cases h;exact⟨hx.s.Aa (hx.s.tok.ret _),rfl,by show 0<4294967296;omega,by show 0<18446744073709551616;omega⟩
theorem axZ(h:xe x= .ok a):RO x a:=by
 obtain⟨_,_,h⟩:=aL h;cases h;exact⟨hx.s.xy (hx.s.bx _).close,rfl,by show 0<4294967296;omega,by show 0<18446744073709551616;omega⟩
theorem ax0(h:rj x= .ok a):RO x a:=by
 obtain⟨_,_,h⟩:=aL h;cases h;exact⟨hx.s.LX,rfl,by show 0<4294967296;omega,by show 0<18446744073709551616;omega⟩
theorem ax1(h:pW x= .ok a):RO x a:=by
 unfold pW at h;obtain⟨c,hm⟩:=(hx.s.bx x.aa).take;have b:bf (x.bx x.aa (lk (x.s.cw x.aa)).1).s:=hx.s.xy c
 try dsimp only at h
 obtain⟨_,_,h⟩:=aL h;split at h
 ·obtain⟨y,e,h⟩:=aL h;cases h;obtain⟨f,d⟩:=Gx b hm.aR e;exact⟨f,d,hm.aR,hm.word⟩
 ·obtain⟨y,e,h⟩:=aL h;cases e;cases h;exact⟨b,rfl,hm.aR,hm.word⟩
theorem ax2(e:x.run.1<=64/\x.run.2<=64)(h:ll x= .ok a):RO x a:=by
 unfold ll at h
 try dsimp only at h
 have d:=hx.s.T.get x.c.r;cases m:oz (min x.c.a 129) (min x.c.b 9)with
 |none=>rw[m]at h;cases h
 |some n=>
  rw[m]at h;obtain⟨_,e1,h⟩:=aL h;cases e1;obtain⟨_,_,h⟩:=aL h;obtain⟨_,_,h⟩:=aL h;split at h
  ·rename_i k u;obtain⟨z,l,h⟩:=aL h;cases h;have b:k+min x.c.a 129<=2048:=by
    have:=Cw u;have:=d.aM;omega
   obtain⟨j,i⟩:=UY (r:={(aN x.s.T x.c.r).1 with len:=k+min x.c.a 129}) hx.s ⟨d.up,d.dn,b,d.cells,d.runs,d.aM⟩ l;exact⟨j,i,by show 0<4294967296;omega,by show k<18446744073709551616;omega⟩
  ·obtain⟨_,g,h⟩:=aL h;have g:=Aq g
   try dsimp only at h
   split at h
   ·cases h;exact⟨hx.s,rfl,by show 0<4294967296;omega,by show 0<18446744073709551616;omega⟩
   ·obtain⟨_,hm,h⟩:=aL h;have hm:=Aq hm;obtain⟨z,l,h⟩:=aL h;cases h;simp only[ai5]at g;simp only[af0,ai5]at hm;have t:=aiR (aN x.s.T x.c.r).1.runs x.run;have o:=d.dn;have p:=d.aM;have f:1<=x.run.2/\x.run.1+x.run.2<=64:=axR hm.2;have b: (match hY ((aN x.s.T x.c.r).1.runs++[x.run]) (aM (aN x.s.T x.c.r).1.runs*32) (min x.c.a 129) (min x.c.b 9)with|some a=>a+min x.c.a 129|none=>aM (aN x.s.T x.c.r).1.runs*32)<=2048:=by
     split
     ·rename_i q;exact afY (Cw q) (by omega)
     ·exact afY (alZ 32 (show _<=64 by omega)) (by decide)
    obtain⟨j,i⟩:=UY (x:={s:=x.s,aa:=x.aa,c:=x.c,run:=x.run,mb:=n,asks:=x.asks,back:=x.back}) hx.s (axQ d b (λr e=>by
     rcases aeq.1 e with e|e
     ·exact d.runs r e
     ·rw[afD.1 e];exact f) (by omega)) l
    refine⟨j,i,by show 0<4294967296;omega,?_⟩;show(hY ((aN x.s.T x.c.r).1.runs++[x.run]) (aM (aN x.s.T x.c.r).1.runs*32) (min x.c.a 129) (min x.c.b 9)).getD 0<_;cases q:hY ((aN x.s.T x.c.r).1.runs++[x.run]) (aM (aN x.s.T x.c.r).1.runs*32) (min x.c.a 129) (min x.c.b 9)with
    |none=>show 0<_;omega
    |some k=>have:=Cw q;show k<_;omega
theorem ax3(h:pX x= .ok a):RO x a:=by
 unfold pX at h;obtain⟨_,_,h⟩:=aL h;have key:dC (mK x.s.T x.c.r (min x.c.a 8) x.c.s (decide ((bt x.s.O x.s.T x.c.s).kind=3))).1:=by
  rw[TR];split
  ·exact hx.s.dw.set ((hx.s.T.get x.c.r).setCells λi=>by
    unfold av;split
    ·exact hx.c.s
    ·exact(hx.s.T.get x.c.r).cells i)
  ·exact hx.s.dw
 try rfl
 split at h
 ·obtain⟨_,_,h⟩:=aL h
  try rfl
  obtain⟨_,_,h⟩:=aL h;cases h;exact⟨hx.s.ug key,rfl,by show 0<4294967296;omega,by show 0<18446744073709551616;omega⟩
 ·try dsimp only at h
  obtain⟨_,_,h⟩:=aL h;cases h;exact⟨hx.s.ug key,rfl,by show 0<4294967296;omega,by show 0<18446744073709551616;omega⟩
theorem ax4(h:xf x= .ok a):RO x a:=by
 obtain⟨_,_,h⟩:=aL h;obtain⟨_,_,h⟩:=aL h;cases h;refine⟨hx.s,rfl,?_,by show 0<18446744073709551616;omega⟩;unfold sS;split
 ·simp
 ·split
  ·simp
  ·dsimp only;split
   ·simp
   ·split
    ·simp
    ·exact(hx.s.T.get x.c.r).cells _
theorem ax5(h:oA x= .ok a):RO x a:=by
 unfold oA at h;obtain⟨_,_,h⟩:=aL h;obtain⟨_,_,h⟩:=aL h
 try dsimp only at h
 have j:=hx.t;have hm: ∀b,ue ⟨x.aa % 256,x.c.v,x.c.r,b⟩:=λb=>⟨by grind,hx.c.v,hx.c.r⟩
 have fin: ∀ (y:aB) (b:Bool),bf y.s->y.back=x.back->(cp (mJ (y.s.cw x.c.a) ⟨x.aa % 256,x.c.v,x.c.r,b⟩).2>>=λ_=>(Pure.pure (y.bx x.c.a (mJ (y.s.cw x.c.a) ⟨x.aa % 256,x.c.v,x.c.r,b⟩).1,bO):R (aB×bF)))= .ok a->RO x a:=by
  intro y b d g h;obtain⟨_,_,h⟩:=aL h;cases h;exact⟨d.xy ((d.bx _).put (hm b)),g,by show 0<4294967296;omega,by show 0<18446744073709551616;omega⟩
 split at h
 ·obtain⟨_,_,h⟩:=aL h
  try dsimp only at h
  obtain⟨y,e,h⟩:=aL h;cases e;refine fin _ _ ?_ ?_ h
  ·split
   ·exact hx.s.uh (hx.s.O.held hx.c.r)
   ·exact hx.s
  ·split<;>rfl
 ·split at h
  ·obtain⟨_,_,h⟩:=aL h;obtain⟨y,e,h⟩:=aL h;obtain⟨f,i⟩:=CM hx.s e
   try dsimp only at h
   obtain⟨_,_,h⟩:=aL h;obtain⟨z,c,h⟩:=aL h;cases c;exact fin (y.o (wZ y.s.O y.s.T x.c.r).1) _ (f.uh (f.O.fly hx.c.r)) i h
  ·obtain⟨z,c,h⟩:=aL h;cases c;exact fin _ _ hx.s rfl h
end
structure GI(y:aB):Prop where
 s:bf y.s
 eV:Go.Proofs.YtcdeobefbpnfeaaGreatDoor.eV y<=2048
 runs: ∀r∈y.back,r.1<=64/\r.2<=64
def GI.len(h:GI y):y.back.length<=4096:=by have:=h.eV;unfold Go.Proofs.YtcdeobefbpnfeaaGreatDoor.eV at this;omega
theorem GI.set{z:aB}(h:GI y)(b:bf z.s)(c:z.back=y.back)(d:z.s.T=y.s.T):GI z:=
 ⟨b,by have:=h.eV;unfold Go.Proofs.YtcdeobefbpnfeaaGreatDoor.eV at*;grind,by rw[c];exact h.runs⟩
theorem alk: ∀ (l:lN) (y:aB),bf y.s->(∀r∈y.back,r.1<=64/\r.2<=64)-> ∀r∈(l.foldl gi y).back,r.1<=64/\r.2<=64
 | [],_,_,h=>h
 |a::l,y,c,h=>alk l (gi y a) (T0 [a] y c) λr b=>by
  rcases aeq.1 (show r∈y.back++(aN y.s.T a).1.runs from b)with b|b
  ·grind
  ·have:=(c.T.get a).runs r b;omega
def GI.gone(h:GI y)(a:Nat):GI (fP y a):=⟨T6 h.s a,afY (T4 h.s a) h.eV,alk _ y h.s h.runs⟩
def GI.gk{z:aB}(h:GI y)(c:a<4294967296)(b:kx y a aa= .ok z):GI z:=by
 obtain⟨_,_,b⟩:=aL b;have d:GI (y.o (c9 y.s.O y.s.T a aa false).1):=h.set (h.s.uh (h.s.O.held c)) rfl rfl;cases b;split
 ·exact d.gone a
 omega
theorem GI.foldlM{β:Type}{P:β->Prop}{f:aB->β->R aB}(d: ∀y b z,GI y->P b->f y b= .ok z->GI z): ∀ (l:List β) (y z:aB),(∀b∈l,P b)->GI y->l.foldlM f y= .ok z->GI z
 | [],y,z,_,h,e=>by cases e;exact h
 |b::l,y,z,g,h,e=>by
  obtain⟨w,e1,j⟩:=aL (show(f y b>>=λw=>l.foldlM f w)= .ok z from by grind);exact GI.foldlM d l w z (λc i=>g c (afU _ i)) (d y b w h (g b (ai4 ..)) e1) j
theorem GI.foldl{β:Type}{f:aB->β->aB}(c: ∀y b,GI y->GI (f y b)): ∀ (l:List β) (y:aB),GI y->GI (l.foldl f y)
 | [],_,h=>h
 |b::l,y,h=>GI.foldl c l (f y b) (c y b h)
def GI.dies(h:GI x)(e:nr x aa= .ok y):GI y:=by
 rw[T8]at e;obtain⟨w,e1,g⟩:=aL e;have q:GI (rH x aa):=h.set ((h.s.xy iZ.gone).LX) rfl rfl;have p:GI w:=GI.foldlM (P:=ue) (λy m z b hm e=>by
  unfold Ae at e;split at e
  ·cases e;exact b
  ·split at e
   ·obtain⟨k,j⟩:=Gx b.s hm.aR e;obtain⟨_,_,e⟩:=aL e;cases e;exact b.set k j rfl
   ·cases e;exact b.gone _) _ _ _ (λm hm=>by
    obtain⟨i,_,rfl⟩:=afJ.1 hm;exact(h.s.bx aa).ring _) q e1
 unfold L7 at g;have o:=GI.foldl (f:=λy h=>y.k (l9 y.s.K h).1) (λy a b=>b.set (b.s.Aa (b.s.tok.ret a)) rfl rfl) (sR w.s.K aa) w p;have d:=λl=>GI.foldl (f:=fP) (λy a b=>b.gone a) l _ o
 refine GI.foldlM (P:=λa=>a<4294967296) (λy a z b c e=>b.gk c e) _ _ _ (λa c=>?_) (d _) g;have n:=(afR.1 c).1;exact fC ((fO (d _).s.T.b).1 n)
theorem GI.start{s:bu}(d:bf s)(aa:Nat)(c:cx)(run:aD)(n:Nat)(b:Bool):GI ⟨s,aa,c,run,n,b,[]⟩:=by
 refine⟨d,?_,λr e=>by grind⟩;have:=kr s.T.b;show([]:List aD).length+64*(a0 s.T.b).length<=2048
 grind
structure RD(c:cx)(a:aB×bF):Prop where
 s:bf a.1.s
 len:a.1.back.length<=4096
 runs: ∀r∈a.1.back,r.1<=64/\r.2<=64
 v:c.op=3->a.2.v=0
 w:a.2.w<4294967296
 v2:a.2.v<18446744073709551616
def RO.d{a:aB×bF}(h:RO x a)(b:GI x)(d:c.op=3->a.2.v=0):RD c a:=
 ⟨h.s,by rw[h.back];exact b.len,by rw[h.back];exact b.runs,d,h.w,h.v⟩
def GI.d(h:GI y):RD c (y,bO):=⟨h.s,h.len,h.runs,λ_=>rfl,by show 0<4294967296;omega,by show 0<18446744073709551616;omega⟩
theorem ax6(hx:mR x)(d:GI x){a:aB×bF}(h:vt x= .ok a):RD x.c a:=by
 unfold vt at h;obtain⟨_,_,h⟩:=aL h;obtain⟨_,_,h⟩:=aL h
 try rfl
 obtain⟨y,e,h⟩:=aL h;cases h;have b:=hx.s.T.get x.c.r;have c:gg {dq with dn:=(aN x.s.T x.c.r).1.dn}:=⟨by simp[dq],b.dn,by simp[dq],by simp[dq],by simp[dq],by simp[dq,aM]⟩;obtain⟨g,f⟩:=UY (x:={x with back:=x.back++(aN x.s.T x.c.r).1.runs}) hx.s c e;have i: (aN x.s.T x.c.r).1.runs.length<=64:=afY (Ty λr h=>(b.runs r h).1) b.aM;refine⟨g,?_,?_,λ_=>rfl,by show 0<4294967296;omega,by show 0<18446744073709551616;omega⟩
 ·rw[f];have:=d.eV;unfold eV at this
  grind
 ·rw[f];intro r hm;rcases aeq.1 (show r∈x.back++(aN x.s.T x.c.r).1.runs from hm)with hm|hm
  ·exact d.runs r hm
  ·have:=b.runs r hm;omega
def ax7(b:GI x){a:aB×bF}(h:w8 x= .ok a):RD x.c a:=by
 obtain⟨_,_,h⟩:=aL h;cases h;exact(b.gone _).d
def ax8(hx:mR x)(b:GI x){a:aB×bF}(h:zK x= .ok a):RD x.c a:=by
 obtain⟨_,_,h⟩:=aL h;obtain⟨y,e,h⟩:=aL h;cases h;exact(b.gk hx.c.r e).d
def alm(b:GI x){a:aB×bF}{t:Nat}(h: (nr x t>>=λy=>.ok (y,bO))= .ok a):RD x.c a:=by
 obtain⟨y,e,h⟩:=aL h;cases h;exact(b.dies e).d
theorem ax9{k:br}(c:hU k.b){x:Tok}: (lh k x).2.1<4294967296:=by
 unfold lh;split
 ·simp
 ·split
  ·rename_i i b;split
   ·exact FI (re b).1 (c i).1
   grind
  grind
def aya(hx:mR x)(b:GI x)(c:x.run.1<=64/\x.run.2<=64){a:aB×bF}(h:jV x= .ok a):RD x.c a:=by
 unfold jV at h;split at h
 all_goals try(rename_i ho;first
  |exact(axS hx h).d b (λq=>absurd (ho ▸ q) (by decide))
  |exact(ax2 hx c h).d b (λq=>absurd (ho ▸ q) (by decide))
  |exact(alj hx h).1.d b (λq=>ag9 bF.v (alj hx h).2)
  |exact ax6 hx b h
  |exact ax7 b h
  |exact ax8 hx b h
  |exact alm b h
  |exact(axT hx h).d b (λq=>absurd (ho ▸ q) (by decide))
  |exact(axU hx h).d b (λq=>absurd (ho ▸ q) (by decide))
  |exact(axV hx h).d b (λq=>absurd (ho ▸ q) (by decide))
  |exact(axW hx h).d b (λq=>absurd (ho ▸ q) (by decide))
  |exact(axX hx (λt=>ax9 hx.s.K.b) h).d b (λq=>absurd (ho ▸ q) (by decide))
  |exact(axY hx h).d b (λq=>absurd (ho ▸ q) (by decide))
  |exact(ax5 hx h).d b (λq=>absurd (ho ▸ q) (by decide))
  |exact(ax1 hx h).d b (λq=>absurd (ho ▸ q) (by decide))
  |exact(axZ hx h).d b (λq=>absurd (ho ▸ q) (by decide))
  |exact(ax3 hx h).d b (λq=>absurd (ho ▸ q) (by decide))
  |exact(ax4 hx h).d b (λq=>absurd (ho ▸ q) (by decide))
  |exact(ax0 hx h).d b (λq=>absurd (ho ▸ q) (by decide)))
 ·unfold zL at h;obtain⟨_,_,h⟩:=aL h;exact alm b h
 ·cases h
theorem aln{s:bu}(d:bf s)(j:iH c){run:aD}(f:run.1<=64/\run.2<=64):rM (dx s aa c run) c/\ (dx s aa c run).2.1.v<18446744073709551616:=by
 rw[ajh];cases h:ji ⟨s,aa,c,run,0,false,[]⟩with
 |error e=>
  have:=(ajf h).2;exact⟨⟨d,by simp,λr f=>(by grind),λ_=>by show 0<18446744073709551616;omega,by show 0<4294967296;omega,by grind⟩,by show 0<18446744073709551616;omega⟩
 |ok a=>
  obtain⟨y,r⟩:=a;have he:=Ub h;obtain⟨_,g,h⟩:=aL (show(ask _ _>>=λ_=>jV _)=_ from h);have g:=Aq g;have i:aa<8:=by grind
  have b:=aya (x:=⟨s,aa,c,run,0,false,[]⟩) ⟨d,i,j,by grind,by grind⟩ (GI.start d ..) f h;exact⟨⟨b.s,b.len,b.runs,λq=>by rw[show r.v=0 from b.v q];decide,b.w,by grind⟩,b.v2⟩
def UZ{s:bu}(b:bf s)(e:iH c){run:aD}(d:run.1<=64/\run.2<=64):rM (dx s aa c run) c:=(aln b e d).1
structure SK(s:bL)(c0:cx)(n:Nat):Prop where
 S:bf s.x.S
 P:fZ s.x.P
 M: ∀i,iI (s.x.M i)
 Q: ∀k∈s.x.Q,k<2147483648
 len:s.x.Q.length<=n
 c:fK s.c
 run:s.c.run.1<=64/\s.c.run.2<=64
 cc:s.c.c=c0
 w:s.r.w<4294967296
 e:s.r.e<4294967296
 v:s.r.v<18446744073709551616
theorem alo: ∀ (l:lN) (f g:Nat->Nat) (P:cT),fZ P->(∀i,g i<256)->fZ (l.foldl (λP i=>vx P (f i) (g i)) P)
 | [],_,_,_,a,_=>a
 |i::l,f,g,P,a,b=>alo l f g _ (a.write _ _ (b i)) b
section
variable{s:bL}{c0:cx}{n:Nat}(h:SK s c0 n)
include h
theorem SK.iJ:iH c0:=h.cc ▸ h.c.iJ
theorem SK.ends{r:bF}(b:r.w<4294967296)(e:r.e<4294967296)(c:r.v<18446744073709551616):SK (oD s r) c0 (n+64):=by
 refine⟨h.S,h.P,Ug h.M _,λk a=>?_,?_,h.c,h.run,h.cc,b,e,c⟩
 ·rcases aeq.1 (show k∈s.x.Q++gj s.c.run from a)with a|a
  ·exact h.Q k a
  ·obtain⟨i,d,rfl⟩:=afJ.1 a;have:=alJ.1 d;have:=h.run;omega
 ·show(xi _ _).Q.length<=_;rw[ak1];have:=h.len;have:=h.run;omega
theorem SK.check(b: ∀a∈sU s.x.S c0,a<4294967296):SK (ky s).1 c0 (n+64):=by
 have c:=h.len;unfold ky;rw[h.cc];split
 ·exact⟨h.S,h.P,h.M,h.Q,by grind,h.c,h.run,h.cc,h.w,h.e,h.v⟩
 split
 ·exact⟨h.S,h.P,h.M,h.Q,by grind,h.c,h.run,h.cc,h.w,h.e,h.v⟩
 split
 ·refine h.ends (by show 0<_;omega) ?_ (by show 0<_;omega);show oB s.x.S s.c.aa c0<_;unfold oB;split
  ·omega
  ·exact(UZ h.S h.iJ (run:=(0,0)) ⟨by simp,by simp⟩).e
 ·exact⟨h.S,h.P,h.M,h.Q,by grind,⟨h.c.aa,h.c.iJ,b,h.c.run,h.c.fb⟩,h.run,h.cc,h.w,h.e,h.v⟩
theorem SK.marks:SK (kz s).1 c0 n:=by
 unfold kz;split
 ·exact h
 ·rename_i a l c;refine⟨h.S,h.P,av9 h.M _,h.Q,h.len,?_,?_,?_,h.w,h.e,h.v⟩
  ·show fK (if(jm s.x.M (aP a) s.c.aa).2 then{s.c with aY:=l}else s.c);split
   ·exact⟨h.c.aa,h.c.iJ,λb d=>h.c.aY b (by grind),h.c.run,h.c.fb⟩
   ·exact h.c
  ·show(if(jm s.x.M (aP a) s.c.aa).2 then{s.c with aY:=l}else s.c).run.1<=64/\ (if(jm s.x.M (aP a) s.c.aa).2 then{s.c with aY:=l}else s.c).run.2<=64;split
   ·exact h.run
   ·exact h.run
  ·show(if(jm s.x.M (aP a) s.c.aa).2 then{s.c with aY:=l}else s.c).c=c0;split
   ·exact h.cc
   ·exact h.cc
theorem SK.ayb:SK (kA s).1 c0 (n+64):=by
 have d:=h.len;have c:=akj s.x.S s.c.aa s.c.c;unfold kA;dsimp only;split
 ·exact⟨h.S,h.P,h.M,h.Q,by grind,h.c,h.run,h.cc,h.w,h.e,h.v⟩
 have a:=h.P.akh (fa s.x.S s.c.aa s.c.c);split
 ·have b:SK {s with x:={s.x with P:=(jH s.x.P (fa s.x.S s.c.aa s.c.c)).1}} c0 n:=⟨h.S,a,h.M,h.Q,h.len,h.c,h.run,h.cc,h.w,h.e,h.v⟩;refine b.ends (by show 0<_;omega) ?_ (by show 0<_;omega);unfold jH
  grind
 ·rename_i he;have:=awJ h.P _ (by omega) (Decidable.not_not.1 he);exact⟨h.S,a,h.M,h.Q,by grind,⟨h.c.aa,h.c.iJ,h.c.aY,⟨by grind,by show fa _ _ _<_;omega⟩,h.c.fb⟩,⟨by show(jH _ _).2.1<=_;omega,by show fa _ _ _<=_;omega⟩,h.cc,h.w,h.e,h.v⟩
theorem SK.ayc:SK (ln s).1 c0 n:=by
 unfold ln;split
 ·exact h
 ·have:=h.run;exact⟨h.S,h.P.clear _,h.M,h.Q,h.len,⟨h.c.aa,h.c.iJ,h.c.aY,h.c.run,by grind⟩,h.run,h.cc,h.w,h.e,h.v⟩
theorem SK.eO:SK (Go.Proofs.YtcdeobefbpnfeaaGreatDoor.eO s) c0 (n+64):=by
 have c:=h.len;unfold Go.Proofs.YtcdeobefbpnfeaaGreatDoor.eO;split
 ·have b:=h.run;refine⟨h.S,h.P,h.M,λk a=>?_,?_,⟨h.c.aa,h.c.iJ,h.c.aY,⟨by simp,by simp⟩,h.c.fb⟩,⟨by simp,by simp⟩,h.cc,h.w,h.e,h.v⟩
  ·rcases aeq.1 (show k∈s.x.Q++gj s.c.run from a)with a|a
   ·exact h.Q k a
   ·obtain⟨i,d,rfl⟩:=afJ.1 a
    grind
  ·show(s.x.Q++gj s.c.run).length<=_;rw[aem];have: (gj s.c.run).length=s.c.run.2:=by simp[gj]
   omega
 ·exact⟨h.S,h.P,h.M,h.Q,by omega,h.c,h.run,h.cc,h.w,h.e,h.v⟩
theorem SK.ayd:SK (rq s) c0 (n+262400):=by
 rw[akx];have a:=h.eO;generalize Go.Proofs.YtcdeobefbpnfeaaGreatDoor.eO s=st at a;obtain⟨b,d⟩:=aln a.S a.iJ (aa:=st.c.aa) (run:=st.c.run) a.run;unfold Mr;rw[a.cc];dsimp only;split
 ·have:=a.ends b.w b.e d;exact⟨this.S,this.P,this.M,this.Q,by have:=this.len;omega,this.c,this.run,this.cc,this.w,this.e,this.v⟩
 ·have v:=a.len;have q:=b.len;have w:fZ (Al st.x.P c0 (jk st.x.S c0).1):=by
   unfold Al;split
   ·exact alo _ _ _ _ a.P λi=>aoe _ (by omega)
   ·exact a.P
  generalize t: ({st.x with S:=(dx st.x.S st.c.aa c0 st.c.run).1,P:=Al st.x.P c0 (jk st.x.S c0).1}:Core)=X;have e:X.Q=st.x.Q:=by grind
  have j:X.M=st.x.M:=by grind
  have g:fZ X.P:=by grind
  have f:bf X.S:=by rw[<-t];exact b.S
  obtain⟨o,m,l⟩:=UD (dx st.x.S st.c.aa c0 st.c.run).2.2 X;have k:=CB (dx st.x.S st.c.aa c0 st.c.run).2.2 X λr p=>(b.runs r p).2
  have u:SK {st with x:=(dx st.x.S st.c.aa c0 st.c.run).2.2.foldl cQ X,c:={st.c with run:=(0,0)}} c0 (n+262336):=
   ⟨o ▸ f,m ▸ g,by rw[show((dx st.x.S st.c.aa c0 st.c.run).2.2.foldl cQ X).M=X.M from l,j];exact a.M,UE _ X b.runs (by rw[e];exact a.Q),by
     rw[e]at k;exact afY k (by omega),⟨a.c.aa,a.c.iJ,a.c.aY,⟨by show 0<_;omega,by show 0<_;omega⟩,a.c.fb⟩,⟨by show 0<=_;omega,by show 0<=_;omega⟩,a.cc,a.w,a.e,a.v⟩
  refine u.ends b.w b.e ?_;show Am _ _ _ _<_;unfold Am;split
  ·exact Uz a.P _ _ d _ (akm a.S c0).1
  omega
theorem SK.mono{m:Nat}(a:n<=m):SK s c0 m:=⟨h.S,h.P,h.M,h.Q,by have:=h.len;omega,h.c,h.run,h.cc,h.w,h.e,h.v⟩
end
theorem aye(c:dC t){h:Nat}(b:a∈under t h):t.au a=true:=by
 unfold under at b;split at b
 ·rename_i d;exact zF c.ok.b d b
 grind
def ayf{s:bu}(i:bf s): ∀a∈sU s c,a<4294967296:=by
 have g: ∀h,∀a∈oC s h,a<4294967296:=λh a d=>by
  unfold oC at d;split at d
  ·rename_i j;rw[afD.1 d];exact fC j
  ·cases d
 have e: ∀h,∀a∈under s.T h,a<4294967296:=λh a d=>fC (aye i.dw d)
 intro a d;unfold sU at d;split at d
 ·exact g _ a d
 split at d
 ·exact e _ a d
 split at d
 ·split at d
  ·cases d
  ·rename_i f;split at d
   ·exact e _ a d
   ·rcases aeq.1 d with d|d
    ·exact e _ a d
    ·rw[afD.1 d];refine fC (b:=s.T.b) ?_;simp only[not_or,Bool.not_eq_false]at f;exact f.2
 (repeat' split at d)<;>first|exact g _ a d|exact e _ a d|cases d
def alp{x:Core}{c:Call}(a:jM x)(i:fK c)(g:c.run.1<=64/\c.run.2<=64):SK (fQ x c) c.c (x.Q.length+262528):=by
 have j:SK ⟨x,c,bO,false⟩ c.c x.Q.length:=⟨a.S,a.P,a.M,a.Q,aen _,i,g,rfl,by show 0<_;omega,by show 0<_;omega,by show 0<_;omega⟩;have f:=j.check (ayf a.S);have e:=f.marks;have d:=e.ayb;have b:=d.ayc;unfold fQ;dsimp only;split
 ·exact f.mono (by omega)
 split
 ·exact e.mono (by omega)
 split
 ·exact d.mono (by omega)
 split
 ·exact b.mono (by omega)
 ·exact b.ayd.mono (by omega)
def ayg(h:de m)(t:Nat): (fQ m.ai (m.aC t).c).r.v<18446744073709551616:=(alp h.ai (h.c t) (h.run t)).v
def alq(h:de m)(e:m.ai.Q.length<2147483648)(t:Nat):ald m t/\ (xJ m t).ai.Q.length<=m.ai.Q.length+262528:=by
 have a:=alp h.ai (h.c t) (h.run t);have d:SK ⟨m.ai,(m.aC t).c,bO,false⟩ (m.aC t).c.c m.ai.Q.length:=⟨h.ai.S,h.ai.P,h.ai.M,h.ai.Q,aen _,h.c t,h.run t,rfl,by show 0<_;omega,by show 0<_;omega,by show 0<_;omega⟩;have b:=d.eO;have c:=a.len;refine⟨⟨?_,⟨⟨a.S,a.P,a.M,a.Q,by show(fQ _ _).x.Q.length<_;omega⟩,λj=>?_,λj=>?_,λj=>?_,h.now,h.ev,λj=>?_⟩,⟨a.w,a.e⟩,?_⟩,c⟩
 ·rw[b.cc];exact UZ b.S (h.c t).iJ b.run
 ·show lF (av m.aC t _ j).t;unfold av;split
  ·exact h.t t
  ·exact h.t j
 ·show fK (av m.aC t _ j).c;unfold av;split
  ·exact a.c
  ·exact h.c j
 ·show(av m.aC t _ j).fr<_;unfold av;split
  ·exact h.fr t
  ·exact h.fr j
 ·show(av m.aC t _ j).c.run.1<=64/\ (av m.aC t _ j).c.run.2<=64;unfold av;split
  ·exact a.run
  ·exact h.run j
 ·rw[a.cc];exact(h.c t).iJ.op
def ayh{t:Task}(h:lF t){v:Nat}(a:v<18446744073709551616): ∀j,av t.aY i v j<18446744073709551616:=λj=>by
 unfold av;split
 ·omega
 ·exact h.aY j
def ayi{t:Task}(h:lF t):lF (rB t):=by
 unfold rB;split
 ·exact h
 split
 ·exact h
 ·rename_i x c;have e:t.next<t.code.length:=(ac9.1 c).1;have f:=h.len;have b:=Gq h c;have a: ∀v,v<18446744073709551616->lF {t with aY:=av t.aY (x.a % 8) v,next:=t.next+1}:=λv d=>
   ⟨h.len,h.ins,by show t.next+1<=64;omega,ayh h d⟩
  dsimp only;split
  ·exact a _ (by have:=b.n;omega)
  split
  ·exact a _ (aoe _ (by decide))
  split
  ·exact a _ (aoe _ (by decide))
  split
  ·exact a _ (aoe _ (by decide))
  split
  ·rename_i i;refine⟨h.len,h.ins,?_,h.aY⟩;show x.n<=64;exact b.j (.inl i)
  split
  ·rename_i g;refine⟨h.len,h.ins,?_,h.aY⟩;have:=b.j (.inr g);show(if _ then x.n else t.next+1)<=64;split
   ·omega
   ·exact afY e f
  ·exact⟨h.len,h.ins,by show t.next+1<=64;omega,h.aY⟩
theorem ayj{t:Task}(h:lF t){r:bF}(c:r.v<18446744073709551616)(b:r.w<4294967296)(f:r.e<4294967296):lF (sW t r):=by
 unfold sW;split
 ·exact h
 ·rename_i x a;have d:t.next<t.code.length:=(ac9.1 a).1;have e:=h.len;split
  ·refine⟨h.len,h.ins,by grind,λj=>?_⟩;show av (av (av t.aY (x.a % 8) r.v) 4 r.w) 7 r.e j<_;unfold av;split
   ·omega
   ·split
    ·omega
    ·split
     ·omega
     ·exact h.aY j
  omega
structure ql(m:aS):Prop where
 ok:de m
 q:m.ai.Q.length<=263200*m.now
 e:m.bq.length<=m.now
def de.Ar(h:de m)(a:n<2147483648):de {m with now:=n}:=⟨h.ai,h.t,h.c,h.fr,a,h.ev,h.run⟩
theorem de.ended(h:de m){t:Nat}{c:Call}{run:aD}{r:bF}(b:r.v<18446744073709551616)(a:r.w<4294967296)(d:r.e<4294967296)(e:m.bq.length<2147483647):de (K9 m t c run r):=by
 refine⟨h.ai,λj=>?_,λj=>?_,λj=>?_,h.now,?_,λj=>?_⟩
 ·show lF (av m.aC t _ j).t;unfold av;split
  ·exact ayj (h.t t) b a d
  ·exact h.t j
 ·show fK (av m.aC t _ j).c;unfold av;split
  ·exact CH
  ·exact h.c j
 ·show(av m.aC t _ j).fr<_;unfold av;split
  ·exact h.fr t
  ·exact h.fr j
 ·show(m.bq++[_]).length<_
  grind
 ·show(av m.aC t _ j).c.run.1<=64/\ (av m.aC t _ j).c.run.2<=64;unfold av;split
  ·exact⟨by show 0<=64;omega,by show 0<=64;omega⟩
  ·exact h.run j
structure Gy(a b:aS):Prop where
 q:b.ai.Q.length<=a.ai.Q.length+262600
 e:b.bq.length<=a.bq.length+1
 n:b.now=a.now
theorem alr(h:de m)(c:m.ai.Q.length<2147483648)(b:m.bq.length<2147483647)(t:Nat):de (pZ m t)/\Gy m (pZ m t):=by
 obtain⟨a,d⟩:=alq h c t;rw[ak5];split
 ·refine⟨a.m'.ended (ayg h t) a.r.1 a.r.2 b,by show(xJ m t).ai.Q.length<=_;omega,?_,rfl⟩;show(m.bq++[_]).length<=_
  grind
 ·exact⟨a.m',by omega,by show m.bq.length<=_;omega,rfl⟩
def als(h:de m)(c:m.ai.Q.length<2147483648)(b:m.bq.length<2147483647){t:Nat}(d:t<8):de (rC m t)/\Gy m (rC m t):=by
 unfold rC;dsimp only;split
 ·exact alr h c b t
 split
 ·obtain⟨e,a⟩:=alr (m:=MC m t) (h.wanted d) c b t;exact⟨e,a.q,a.e,a.n⟩
 ·refine⟨⟨h.ai,λj=>?_,λj=>?_,λj=>?_,h.now,h.ev,λj=>?_⟩,by simp,by simp,rfl⟩
  ·show lF (av m.aC t _ j).t;unfold av;split
   ·exact ayi (h.t t)
   ·exact h.t j
  ·show fK (av m.aC t _ j).c;unfold av;split
   ·exact h.c t
   ·exact h.c j
  ·show(av m.aC t _ j).fr<_;unfold av;split
   ·exact h.fr t
   ·exact h.fr j
  ·show(av m.aC t _ j).c.run.1<=64/\ (av m.aC t _ j).c.run.2<=64;unfold av;split
   ·exact h.run t
   ·exact h.run j
def alu:iH fF:=⟨by decide,by decide,by decide,by decide,by decide,by decide⟩
def alv(h:de m)(t:Nat):rM (dx m.ai.S t fF (0,0)) fF:=UZ h.ai.S alu ⟨by simp,by simp⟩
theorem alw(h:de m)(g:m.ai.Q.length<2147483648)(f:m.bq.length<2147483647)(t:Nat):de (zM m t)/\Gy m (zM m t):=by
 have b:=alv h t;have d:=CB (dx m.ai.S t fF (0,0)).2.2 m.ai λr c=>(b.runs r c).2
 have e:=b.len;have a:=jM.akv (x:=m.ai) h.ai b.runs (by omega);refine⟨⟨⟨b.S,a.P,a.M,a.Q,a.Ql⟩,h.t,h.c,h.fr,h.now,?_,h.run⟩,?_,?_,rfl⟩
 ·show(m.bq++[_]).length<_
  grind
 ·exact afY d (by omega)
 ·show(m.bq++[_]).length<=_
  grind
def ayk(h:de m)(a:m.ai.Q.length<1073741824):de (jW m)/\ (jW m).ai.Q.length<=m.ai.Q.length+512:=by
 obtain⟨c,b⟩:=UR h a 8 (by omega);exact⟨c,b⟩
theorem alx(m:aS)(i:Nat): (lq m i).bq=m.bq/\ (lq m i).now=m.now:=by unfold lq;grind
theorem MD(m:aS): ∀k,(gU m k).bq=m.bq/\ (gU m k).now=m.now
 |0=>⟨rfl,rfl⟩
 |k+1=>by rw[Gv];exact⟨(alx _ _).1.trans (MD m k).1,(alx _ _).2.trans (MD m k).2⟩
theorem aly{x:Core}(h:jM x):jM (iW x).1/\ (iW x).1.Q.length<=x.Q.length:=by
 unfold iW;split
 ·grind
 ·rename_i a l c;exact⟨⟨h.S,h.P.back _,h.M,λk b=>h.Q k (by grind),by have:=h.Ql;grind⟩,by grind⟩
theorem ql.clear{a:aS}(h:ql a)(e:de m)(b:Gy a {m with now:=a.now})(g:m.now=a.now+1)(i:a.now<=4000):ql (jW m):=by
 have o:m.ai.Q.length<=a.ai.Q.length+262600:=b.q;have n:m.bq.length<=a.bq.length+1:=b.e;have l:=h.q;have k:=h.e;obtain⟨f,j⟩:=ayk e (by omega);obtain⟨d,c⟩:=MD m 8;have d: (jW m).bq=m.bq:=d;have c: (jW m).now=m.now:=c;exact⟨f,by omega,by grind⟩
theorem ayl(h:ql m)(e:m.now<=4000)(b:Nat):ql (jX m b).1/\ (jX m b).1.now<=m.now+1:=by
 have g:=h.q;have he:=h.e;have c:=(h.ok.Ar (n:=m.now+1) (by omega));have key: ∀m':aS,de m'->Gy m {m' with now:=m.now}->m'.now=m.now+1->ql (jW m')/\ (jW m').now<=m.now+1:=λm' d a f=>
  ⟨h.clear d a f e,by have: (jW m').now=m'.now:=(MD m' 8).2;omega⟩
 unfold jX;dsimp only;split
 ·grind
 split
 ·split
  ·obtain⟨d,a⟩:=aly h.ok.ai;exact key _ ⟨d,h.ok.t,h.ok.c,h.ok.fr,by show m.now+1<_;omega,h.ok.ev,h.ok.run⟩ ⟨by show(iW m.ai).1.Q.length<=_;omega,by show m.bq.length<=_;omega,rfl⟩ rfl
  grind
 split
 ·exact⟨h,Nat.le_succ m.now⟩
 split
 ·obtain⟨d,a⟩:=alw c (by show m.ai.Q.length<_;omega) (by show m.bq.length<_;omega) (b % 8);exact key _ d ⟨a.q,a.e,rfl⟩ a.n
 ·obtain⟨d,a⟩:=als c (by show m.ai.Q.length<_;omega) (by show m.bq.length<_;omega) (aoe b (by decide));exact key _ d ⟨a.q,a.e,rfl⟩ a.n
def bH.Ar{H:List ae}(h:bH n M p q m qv ev aF aQ H)(k:Nat):
 bH n M p q {m with now:=k} qv ev aF aQ (H.set M (.box (cG {m with now:=k} p aF aQ ev) none)):=h.set rfl rfl h.cv h.rv
def aym{H:List ae}(hD: ∀op,kE op)(d:bH n M p q m qv ev aF aQ H)(l:ql m)(hn:m.now<=4000)(b:Nat)(hb:b<256)(lo:oN):
  ∃J,D XC (.fn (.func 35) [] []) [.ptr M 0,.int .u8 b] ⟨H,lo⟩=some J/\gT n M p q H lo (jX m b).1 qv ev (.int .i64 (jX m b).2) J:=by
 refine cz sG λN t=>?_
 have Gw:M<N:=by rw[<-t];exact d.lt
 have oI:p<N:=by rw[<-t];exact d.co.lt
 have UW:=d.co.mp;have hq:=l.q;have he:=l.e;have Y:b % 8<8:=aoe _ (by decide);have e: (b:Int).tmod 8=((b % 8:Nat):Int):=by rw[Int.tmod_eq_emod_of_nonneg (by omega)];omega
 have i:IntKind.i64.wrap ((b % 8:Nat):Int)=((b % 8:Nat):Int):=wrap_i64 (by omega) (by omega);have A:IntKind.i64.wrap ((m.now:Int)+1)=((m.now+1:Nat):Int):=wrap_i64 (by omega) (by omega);have g:=l.ok.Ar (n:=m.now+1) (by omega);have hA:=d.Ar (m.now+1);have hF:=d.fM (.box (cG {m with now:=m.now+1} p aF aQ ev) none);have f:dE EK.ptr (AV.ptr M 0) AV.dD=some false:=rfl;have o:aK (cG m p aF aQ ev) 193 [.int .i64 ((m.now:Int)+1)]=cG {m with now:=m.now+1} p aF aQ ev:=akX (n:=m.now+1);unfold jX;dsimp only;by_cases k1:8<b/\b<16\/24<=b
 ·rw[adV k1];have g1: (8:Int)<b:=by omega
  by_cases k2:b<16
  ·have g2: (b:Int)<16:=by omega
   simp only[go_sem,simprocAttr,sG,e,i,f,g1,g2];exact gT.fin d t d Fm.refl (fE.no ⟨rfl,rfl⟩) (aep _)
  ·have g2: ¬(b:Int)<16:=by omega
   have I: (24:Int)<=b:=by omega
   simp only[go_sem,simprocAttr,sG,e,i,f,g1,g2,I];exact gT.fin d t d Fm.refl (fE.no ⟨rfl,rfl⟩) (aep _)
 rw[ada k1];have I: ¬(24:Int)<=b:=by omega
 have E: ∀ (m':aS) (y C:AV) (nJ s:Nat->AV) (W:List ae) (ak:oN),de m'->m'.ai.Q.length<1073741824->bH n M p q m' y C nJ s W->Fm n [M,p,q] H W->fE (y=qv/\C=ev) p ak->
   ∃v w c,D XC (.fn (.func 68) [] []) [.ptr M 0] ⟨W,ak⟩=some (.ret v ⟨w,c⟩)/\gT n M p q H lo (jW m') qv ev (.int .i64 0) (.ret (finish N lo (.int .i64 0) ⟨w,c⟩).1 (finish N lo (.int .i64 0) ⟨w,c⟩).2):=by
  intro m' y C nJ s W ak h1 h2 h3 h4 h5;obtain⟨J,G,x,P,u,r,w,c,rfl,F,c3,c4⟩:=axz h3 h1 h2 ak;exact⟨_,w,c,G,gT.fin d t F (h4.trans c3) (h5.step c4 λa b=>⟨b.1.trans a.1,b.2.trans a.2⟩) (aep _)⟩
 by_cases k8:b=8
 ·rw[adV k8];have g1: ¬(8:Int)<b:=by omega
  have B: (b:Int)=8:=by omega
  obtain⟨J,Q,x,W,c,rfl,r2,U,r4⟩:=awI d.co l.ok.ai none;have k:=d.ai r2 U;obtain⟨T,ro2⟩:=aly l.ok.ai;cases L: (iW m.ai).2 with
  |false=>
   rw[L]at Q;rw[ada (by decide)];have e1: ({m with ai:=(iW m.ai).1}:aS)=m:=by
    have: (iW m.ai).1=m.ai:=by
     unfold iW at L⊢;split
     ·rfl
     ·rename_i h;rw[h]at L;cases L
    rw[this]
   rw[e1]at k;simp only[go_sem,simprocAttr,sG,f,B,d.box,qk,Q];exact gT.fin d t k (bH.fc U) ((gp.n r4).imp (λq=>⟨q.1,q.2,rfl⟩) id) (aep _)
  |true=>
   rw[L]at Q;rw[adV rfl];have MA:=k.Ar (m.now+1);have hF3:=(bH.fc (M:=M) U).trans (k.fM (.box (cG {{m with ai:=(iW m.ai).1}with now:=m.now+1} p aF aQ ev) none));obtain⟨v,w,K,G,F⟩:=E {m with ai:=(iW m.ai).1,now:=m.now+1} _ _ _ _ _ c ⟨T,l.ok.t,l.ok.c,l.ok.fr,by show m.now+1<_;omega,l.ok.ev,l.ok.run⟩ (by show(iW m.ai).1.Q.length<_;omega) MA hF3 ((gp.n r4).imp (λq=>⟨q.1,q.2,rfl⟩) id);have hb2:=k.box;have o:aK (cG {m with ai:=(iW m.ai).1} p aF aQ ev) 193 [.int .i64 ((m.now:Int)+1)]=cG {m with ai:=(iW m.ai).1,now:=m.now+1} p aF aQ ev:=akX (m:={m with ai:=(iW m.ai).1}) (n:=m.now+1);have Z:=Ao (m:={m with ai:=(iW m.ai).1}) (p:=p) (aF:=aF) (aQ:=aQ) (ev:=ev);simp only[go_sem,simprocAttr,sG,f,B,d.box,qk,Q,hb2,Z,A,o,oM,G];exact F
 rw[ada k8];have B: ¬(b:Int)=8:=by omega
 have j:=λlo=>My d (b % 8) lo
 cases O:lp m (b % 8)with
 |false=>
  rw[O]at j;rw[adV rfl];by_cases z:16<=b
  ·have g1: (8:Int)<b:=by omega
   have g2: ¬(b:Int)<16:=by omega
   simp only[go_sem,simprocAttr,sG,e,i,f,g1,g2,I,B,j];exact gT.fin d t d Fm.refl (fE.no ⟨rfl,rfl⟩) (aep _)
  ·have g1: ¬(8:Int)<b:=by omega
   simp only[go_sem,simprocAttr,sG,e,i,f,g1,I,B,j];exact gT.fin d t d Fm.refl (fE.no ⟨rfl,rfl⟩) (aep _)
 |true=>
  rw[O]at j;rw[ada (by decide)];by_cases z:16<=b
  ·rw[adV z];have g1: (8:Int)<b:=by omega
   have g2: ¬(b:Int)<16:=by omega
   have g5: (16:Int)<=b:=by omega
   obtain⟨J,s1,x,P,u,r,W,c,rfl,s2,S,R⟩:=axJ hD hA g (b % 8) Y (by show m.ai.Q.length<_;omega) (alv g _) none;obtain⟨X,V⟩:=alw g (by show m.ai.Q.length<_;omega) (by show m.bq.length<_;omega) (b % 8);have o3:_<=m.ai.Q.length+262600:=V.q;obtain⟨v,w,K,G,F⟩:=E _ _ _ _ _ _ c X (by omega) s2 (hF.trans S) (gp.n R);simp only[go_sem,simprocAttr,sG,e,i,f,g1,g2,I,B,g5,j,d.box,Ao,A,o,oM,s1,G];exact F
  ·rw[ada z];have g1: ¬(8:Int)<b:=by omega
   have g5: ¬(16:Int)<=b:=by omega
   obtain⟨J,s1,x,P,u,r,W,c,rfl,s2,S,R⟩:=axH hD hA g (b % 8) Y (by show m.ai.Q.length<_;omega) (λm h1 h2=>(alq h1 h2 _).1) none;obtain⟨X,V⟩:=als g (by show m.ai.Q.length<_;omega) (by show m.bq.length<_;omega) Y;have o3:_<=m.ai.Q.length+262600:=V.q;obtain⟨v,w,K,G,F⟩:=E _ _ _ _ _ _ c X (by omega) s2 (hF.trans S) (gp.n R);simp only[go_sem,simprocAttr,sG,e,i,f,g1,I,B,g5,j,d.box,Ao,A,o,oM,s1,G];exact F
def xL:bu:={mO with alive:=λ_=>false,born:=λ_=>false}
theorem U0:m2=bo xL:=rfl
def ayp(H:List ae)(lo:oN):D X0 (.fn (.func 87) [] []) [] ⟨H,lo⟩=some (.ret (.agg (bo mO)) ⟨H,lo⟩):=by
 refine aH Qm λN a=>?_
 have d:=agv (s:=xL) (i:=0) (v:=true) (by omega);have c:=agw (s:={xL with alive:=av xL.alive 0 true}) (i:=0) (v:=true) (by omega);have b: ({xL with alive:=av xL.alive 0 true,born:=av xL.born 0 true}:bu)=mO:=by rfl
 simp only[F1,go_sem,simprocAttr,Qm,a,U0,d,c,b,ee,mF,Mc,F8]
def ayq(n:Nat)(h:1<=n/\n<=64)(H:List ae)(lo:oN):D X0 (.fn (.func 139) [] []) [.int .i64 n] ⟨H,lo⟩=some (.ret (.agg [.sl [[.int .i64 0,.int .i64 n]] true]) ⟨H,lo⟩):=by
 refine aH Qz λN a=>?_
 have e: ¬(n:Int)<1:=by omega
 have d:min (n:Int) 64=n:=by omega
 have c:bZ [[AV.int IntKind.i64 0,AV.int IntKind.i64 n]]<=N+1:=aep _;have b:bZ [[AV.int IntKind.i64 0,AV.int IntKind.i64 n]]<=N:=aep _;simp only[F1,go_sem,simprocAttr,Qz,a,e,d,c,b]
def Gz:cT:=⟨0,[],λ_ _=>0,true⟩
def ur(n:Nat):cT:=⟨n,[(0,n)],λ_ _=>0,true⟩
theorem alz{v:AV}: ∀n,hH n [v]=List.replicate n v
 |0=>rfl
 |n+1=>by show[v]++hH n [v]=_;rw[alz n];rfl
theorem alA{v:AV}{m:Nat}: ∀n,arr n (λ_=>List.replicate m v)=List.replicate (n*m) v
 |0=>by rw[Nat.zero_mul];rfl
 |n+1=>by rw[zq,alA n,aAn,aou]
theorem ayr:qf (λ_=>0)=List.replicate 32 (AV.int .u8 0):=rfl
def ays:aej=cg Gz:=by
 show[AV.int .i64 0,.aq]++hH 2048 [AV.int .u8 0]=[AV.int .i64 0,.aq]++arr 64 λ_=>qf λ_=>0
 rw[alz,ayr,alA]
theorem aDc:cg Gz=AV.int .i64 0:: .aq::arr 64 λ_=>qf λ_=>0:=rfl
theorem aDd:cg (ur n)=AV.int .i64 n:: .sl [[.int .i64 0,.int .i64 n]] true::arr 64 λ_=>qf λ_=>0:=rfl
def alB{N id o:Nat}{k:IntKind}{a:Int}{H:List ae}(h:N<=id):finish N lo (.ay [.ptr id o,.int k a]) ⟨H,none⟩=(.ay [.ptr id o,.int k a],⟨H,lo⟩):=by
 have b: ¬(AV.ay [.ptr id o,.int k a]).refs<=N:=by simp only[AV.refs,aI];omega
 refine adh b ?_;rw[H9,ada b,iL,OV h]
def ayt{N id o j:Nat}{k:IntKind}{a:Int}{H:List ae}(h:N<=id):finish N lo (.ay [.ptr id o,.int k a]) ⟨H,some j⟩=(.ay [.ptr id o,.int k a],⟨H,cL lo j⟩):=by
 have b: ¬(AV.ay [.ptr id o,.int k a]).refs<=N:=by simp only[AV.refs,aI];omega
 rw[DF];split
 ·rw[H9,ada b,iL,OV h];rfl
 ·rfl
def ayu(n:Nat)(h:1<=n/\n<=64)(N:Nat)(H:List ae)(d:H.length=N)(lo:oN):D X0 (.fn (.func 98) [] []) [.int .i64 n] ⟨H,lo⟩=some (.ret (.ay [.ptr N 0,.int .i64 0]) ⟨H++[.box (cg (ur n)) none],lo⟩):=by
 refine aH Qr λM g=>?_
 have f: ¬(n:Int)<1:=by omega
 have e: ¬(64:Int)<n:=by omega
 have b:=λH lo=>ayq n h H lo
 have c:1<=(cg Gz).length:=by rw[xE];omega
 have a:1<=(List.drop 1 (cg Gz)).length:=by rw[ams,xE];omega
 have he:AV.int .i64 n::AV.sl [[.int .i64 0,.int .i64 n]] true::List.drop 1 (List.drop 1 (cg Gz))=cg (ur n):=by rfl
 simp only[go_sem,simprocAttr,Qr,d,f,e,b,ays,c,a,he];rw[alB (by omega)]
theorem ME:kg=bo xL++([.dD]++(cR (λ_=>xg)++[.aq])):=rfl
def ayv(n:Nat)(h:1<=n/\n<=64)(N:Nat)(H:List ae)(e:H.length=N)(lo:oN):D X0 (.fn (.func 63) [] []) [.int .i64 n] ⟨H,lo⟩=some (.ret (.ay [.ptr (N+1) 0,.int .i64 0]) ⟨H++[.box (cg (ur n)) none,.box (bP ⟨mO,ur n,λ_=>xg,[]⟩ N .aq) none],lo⟩):=by
 refine aH Qb λM j=>?_
 obtain rfl:M=N:=by omega
 have f:=λlo=>ayu n h M H e lo
 have i:=λH lo=>ayp H lo
 have d:List.drop 952 kg=[.dD]++(cR (λ_=>xg)++[.aq]):=by rw[ME];exact List.drop_left' (ee _)
 have g:kg.length=1274:=by rw[ME,aem,ee,aem,aem,ep];rfl
 have a:aK (bo mO++List.drop 952 kg) 952 [.ptr M 0]=bP ⟨mO,ur n,λ_=>xg,[]⟩ M .aq:=by
  rw[d,fo (by rw[ee];omega),ee];rfl
 have c:953<=952+(List.drop 952 kg).length:=by rw[d];simp[ep]
 have b:952<=kg.length:=by rw[g];omega
 simp only[go_sem,simprocAttr,Qb,e,f,i,ee,b,c,a];rw[alB (by omega)]
theorem alC:Ip=[.dD]++(arr 8 (λ_=>xH Cb .aq .aq)++[.int .i64 0,.aq]):=rfl
def fT(n:Nat)(aE:List lB)(k:Nat):aS:=⟨⟨mO,ur n,λ_=>xg,[]⟩,λi=>{Cb with t:={sX with code:=if i<k then((aE[i]?).bind decode).getD []else[]}},0,[]⟩
theorem ayw(n:Nat)(aE:List lB)(aJ:lN):fT n aE aE.length=S4 ⟨n,aE,aJ⟩:=by
 unfold fT S4
 congr 1
 grind
def mj(m:aS)(n N:Nat)(pv kv:AV)(aF:Nat->AV)(H:List ae):List ae:=
 H++[.box [.int .i64 n,pv,kv] none,.box (cG m (N+3) aF (λ_=>.aq) .aq) none,.box (cg (ur n)) none,.box (bP ⟨mO,ur n,λ_=>xg,[]⟩ (N+2) .aq) none]
theorem alD{N:Nat}{H:List ae}(a:H.length=N): (mj m n N pv kv aF H)[N+1]?=some (.box (cG m (N+3) aF (λ_=>.aq) .aq) none):=by
 unfold mj;grind
def ayx{m':aS}{N:Nat}{nJ:Nat->AV}{H:List ae}(a:H.length=N): (mj m n N pv kv aF H).set (N+1) (.box (cG m' (N+3) nJ (λ_=>.aq) .aq) none)=mj m' n N pv kv nJ H:=by
 unfold mj;simp_all
theorem ayy{cv:AV}(c:k<aE.length)(b:k<8):
  aK (cG (fT n aE k) p aF (λ_=>.aq) .aq) (1+k*24) (dc {sX with code:=(decode (aE.getD k default)).getD []} cv)=cG (fT n aE (k+1)) p (av aF k cv) (λ_=>.aq) .aq:=by
 have g:=Gt (m:=fT n aE k) (p:=p) (aF:=aF) (aQ:=λ_=>.aq) (ev:=.aq) (o:=0) (vs:=dc {sX with code:=(decode (aE.getD k default)).getD []} cv) (r:={Cb with t:={sX with code:=(decode (aE.getD k default)).getD []}}) (cv:=cv) (rv:=.aq) b (by rw[xG];omega) rfl;have e:av (λ_=>AV.aq) k AV.aq=λ_=>AV.aq:=mE (f:=λ_=>AV.aq)
 have d: ({fT n aE k with aC:=av (fT n aE k).aC k {Cb with t:={sX with code:=(decode (aE.getD k default)).getD []}}}:aS)=fT n aE (k+1):=by
  have a:av (fT n aE k).aC k {Cb with t:={sX with code:=(decode (aE.getD k default)).getD []}}=(fT n aE (k+1)).aC:=by
   unfold av fT
   grind
  rw[a];rfl
 grind
def ayz{aJ:lB}(h:Gr n aE aJ pv kv)(w:nu ⟨n,aE,aJ.map UInt8.toNat⟩=true)(N:Nat)(H:List ae)(q:H.length=N)(lo:oN):
  ∃O,D XC (.fn (.func 34) [] []) [.agg [.int .i64 n,pv,kv]] ⟨H,lo⟩=some O/\ ∃aF ak,O= .ret (.ay [.ptr (N+1) 0,.int .i64 0]) ⟨mj (fT n aE aE.length) n N pv kv aF H,ak⟩/\
   (∀i,Rv (aF i) 5 (((fT n aE aE.length).aC i).t.code.map db))/\ (ak=lo\/ ∃j,N<=j/\ak=cL lo j):=by
 obtain⟨v,d,Q⟩:1<=n/\n<=64/\aE.length<=8:=by unfold nu at w;simp at w;omega
 have a:=λH lo=>c0 (axu h (by omega) H lo)
 rw[w]at a;refine cz PZ λM Y=>?_
 obtain rfl:M=N:=by omega
 have F:=λB lo=>c0 (ayv n ⟨v,d⟩ (M+2) (H++[.box [.int .i64 n,pv,kv] none,.box B none]) (by simp[q]) lo)
 have b:=h.pr;have r:aK Ip 0 [.ptr (M+3) 0]=cG (fT n aE 0) (M+3) (λ_=>.aq) (λ_=>.aq) .aq:=by rw[alC];rfl
 have x:1<=Ip.length:=by rw[alC];simp
 have y: ¬M+2<=M:=by omega
 have G:M+2+1=M+3:=rfl;have z:=λE=>b.bN (E:=E)
 simp only[go_sem,simprocAttr,PZ,q,a,F,r,x,y,z,G];refine gN aE.length (λk e W ak=> ∃aF,e 4= .ptr (M+1) 0/\e 22=pv/\e 23= .int .i64 aE.length/\e 24= .int .i64 k/\W=mj (fT n aE k) n M pv kv aF H/\ (∀i,Rv (aF i) 5 (((fT n aE k).aC i).t.code.map db))/\ak=some (M+1)) 0 (by omega) ?_ ?_
 ·refine⟨λ_=>.aq,?_⟩;simp only[go_sem,simprocAttr];exact⟨rfl,λi=>.aq,rfl⟩
 rintro k X e W ak ⟨aF,L,o,l,g,rfl,f,rfl⟩ U V;simp only[bQ,go_sem,simprocAttr,aeE,L,o,l,g];refine⟨λR=>?_,λR=>?_⟩
 ·have c:k<aE.length:=by omega
  have T:k<8:=by omega
  obtain⟨cv,t1,t2⟩:=axv (aE.getD k default) (mj (fT n aE k) n M pv kv aF H) (some (M+1));have t1:=c0 t1;have C: (0:Int)<=k/\ (k:Int)<8:=by omega
  have S:=alD (m:=fT n aE k) (n:=n) (pv:=pv) (kv:=kv) (aF:=aF) q;have P:=λm' nJ=>ayx (m:=fT n aE k) (m':=m') (n:=n) (pv:=pv) (kv:=kv) (aF:=aF) (nJ:=nJ) q
  have s:=ayy (n:=n) (p:=M+3) (cv:=cv) (aF:=aF) c T;have u:=Gm (t:={sX with code:=(decode (aE.getD k default)).getD []}) (cK t2 (bB (λ_=>rfl) _));have A:1+k*24+10<=195:=by omega
  simp(disch:=omega) only[go_sem,simprocAttr,L,o,l,g,b.ca,b.cD,sC,t1,C,S,P,s,u,A,oM,xG];refine⟨by omega,by omega,av aF k cv,rfl,λi=>?_⟩;by_cases K:i=k
  ·subst K;have e:aE.getD i default=aE[i]:=by simp[List.getD,c]
   rw[ch];have I: ((fT n aE (i+1)).aC i).t.code=(decode (aE.getD i default)).getD []:=by
    show(if i<i+1 then((aE[i]?).bind decode).getD []else[])=_;rw[adV (by omega),adR c,e];rfl
   rw[I];exact t2
  ·rw[cF K];have I: ((fT n aE (k+1)).aC i).t.code=((fT n aE k).aC i).t.code:=by
    show(if i<k+1 then((aE[i]?).bind decode).getD []else[])=(if i<k then((aE[i]?).bind decode).getD []else[]);by_cases J:i<k
    ·rw[adV J,adV (by omega)]
    ·rw[ada J,ada (by omega)]
   rw[I];exact f i
 ·obtain rfl:k=aE.length:=by omega
  rw[ayt (by omega)];exact⟨aF,_,rfl,f,.inr ⟨M+1,by omega,rfl⟩⟩
theorem alE: ∀ (s:lB),∀x∈ry s,x.n<65536
 |a::b::c::d::e::f::r,x,h=>by
  rcases ag6.1 h with rfl|h
  ·have:=e.toNat_lt;have:=f.toNat_lt
   grind
  ·exact alE r x h
 | [],x,h=>by cases h
 | [_],x,h=>by cases h
 | [_,_],x,h=>by cases h
 | [_,_,_],x,h=>by cases h
 | [_,_,_,_],x,h=>by cases h
 | [_,_,_,_,_],x,h=>by cases h
theorem ayA{s:lB}{l:List dR}(h:decode s=some l):l.length<=64/\ ∀x∈l,Gl x:=by
 unfold decode at h;split at h
 ·cases h
 split at h
 ·rename_i hm;cases h;unfold pY at hm;simp only[af0,ai5,afQ]at hm;refine⟨hm.1,λx a=>?_⟩;have b:=hm.2 x a;unfold ru at b;simp at b;have c:=alE s x a;exact⟨by omega,by omega,by omega,by omega,c,λd=>by omega⟩
 grind
theorem alF(h:Nat):au (λ_=>⟨0,false,false⟩) h=false:=by
 unfold au;grind
theorem ayB:bf mO:=by
 have a:hU (λ_=>⟨0,false,false⟩):=λi=>⟨aep _,λh=>by rfl⟩
 refine⟨⟨⟨a,λi=>Cj⟩,λh=>?_,λi=>?_⟩,⟨λi=>by show 0<4294967296;omega,λi=>TC⟩,⟨⟨a,λi h=>(by cases h),λi=>ahK⟩,λi=>Ct _,[],.nil,λh q=>(by cases q),λh q=>?_,.nil,λh q=>(by cases q)⟩,λi=>⟨by show 0<4;omega,by show 0<=4;omega,λj=>TJ⟩⟩
 ·have e:aU mO.T h=[]:=by
    unfold aU eG bn;have:mO.T.au h=false:=alF h
    grind
  grind
 ·exact Ct _
 ·rw[show au mO.K.b h=false from alF h]at q;cases q
def ayC:iI xg:=⟨by trivial,by trivial,λi=>by show 0<8;omega,λi j h=>by cases h⟩
def ayD(h:1<=n/\n<=64):fZ (ur n):=⟨h.2,⟨List.pairwise_singleton _ _,λx a=>by rw[afD.1 a];omega⟩,λi j=>by show 0<256;omega⟩
theorem ayE(h:1<=n/\n<=64)(aE:List lB)(k:Nat):ql (fT n aE k):=by
 refine⟨⟨⟨ayB,ayD h,λi=>ayC,λk d=>(by cases d),by show 0<_;omega⟩,λi=>?_,λi=>CH,λi=>by show 0<_;omega,by show 0<_;omega,by show 0<_;omega,λi=>⟨by show 0<=64;omega,by show 0<=64;omega⟩⟩,by show 0<=_;omega,by show 0<=_;omega⟩;have a: (if i<k then((aE[i]?).bind decode).getD []else[]).length<=64/\ ∀x∈(if i<k then((aE[i]?).bind decode).getD []else[]),Gl x:=by
  split
  ·cases c: (aE[i]?).bind decode with
   |none=>simp
   |some l=>
    obtain⟨s,_,b⟩:=anc.1 c;exact ayA b
  grind
 exact⟨a.1,a.2,by show 0<=64;omega,λj=>by show 0<_;omega⟩
theorem ayF{N:Nat}{H:List ae}(b:H.length=N)
  (a: ∀i,Rv (aF i) 5 (((fT n aE aE.length).aC i).t.code.map db)):
  bH N (N+1) (N+3) (N+2) (fT n aE aE.length) .aq .aq aF (λ_=>.aq) (mj (fT n aE aE.length) n N pv kv aF H):=
 ⟨by omega,⟨by unfold mj;grind,by omega,by unfold mj;rw[bA b];rfl,by unfold mj;rw[bA b];rfl,cV.aq⟩,alD b,cV.aq,a,λi=>.aq⟩
theorem ayG{N id o:Nat}{vs:lA}{ak:oN}{H:List ae}(h:N<=id):finish N lo (.ay (.ptr id o::vs)) ⟨H,ak⟩=(.ay (.ptr id o::vs),⟨H,gq lo ak⟩):=by
 have a: ¬(AV.ay (.ptr id o::vs)).refs<=N:=by simp only[AV.refs,aI];omega
 have b: ∀E,Den.freeze E N 12 (.ay (.ptr id o::vs))=none:=λE=>by rw[H9,ada a,iL,OV h]
 cases ak with
 |none=>rw[yB,ada a,b]
 |some j=>
  rw[DF,b,ada a]
  grind
theorem bH.mono{H:List ae}(h:bH n M p q m qv ev aF aQ H)(b:a<=n):bH a M p q m qv ev aF aQ H:=
 ⟨h.Mq,⟨by have:=h.co.mp;omega,h.co.qp,h.co.box,h.co.ia,h.co.ja.mono (by omega)⟩,h.box,h.rN.mono (by omega),h.cv,h.rv⟩
def GA(e:Nat):lA:=[.int .i64 e]
theorem bH.ayH{H W:List ae}{ty:TypeId}(h:bH n M p q m qv ev aF aQ H)(k:ty≠od\/sz≠1)(j:ty≠m0\/sz≠14)
  (b: ∀ (i:Nat) (o:ae),(∀a d,o≠ae.row a sz ty d)->H[i]?=some o->W[i]?=some o) (g:H.length<=W.length):bH n M p q m qv ev aF aQ W:=by
 have c: ∀cs tg,∀a d,ae.box cs tg≠ .row a sz ty d:=λ_ _ _ _ e=>by cases e
 refine⟨h.Mq,⟨by have:=h.co.mp;omega,h.co.qp,b _ _ (c _ _) h.co.box,b _ _ (c _ _) h.co.ia,h.co.ja.nS λid aj all f=>b _ _ (λa d e=>?_) f⟩,b _ _ (c _ _) h.box,h.rN.nS λid aj all f=>b _ _ (λa d e=>?_) f,h.cv,h.rv⟩
 ·grind
 grind
def runK(n:Nat)(aE:List lB)(aJ:lB)(k:Nat):aS×lN:=
 ((aJ.take k).map UInt8.toNat).foldl (λp b=>((jX p.1 b).1,p.2++[(jX p.1 b).2])) (fT n aE aE.length,[])
theorem CN{aJ:lB}(h:k<aJ.length):
  runK n aE aJ (k+1)=((jX (runK n aE aJ k).1 (aJ.getD k default).toNat).1,(runK n aE aJ k).2++[(jX (runK n aE aJ k).1 (aJ.getD k default).toNat).2]):=by
 have e:aJ.getD k default=aJ[k]:=by grind
 unfold runK;rw[afP,adR h,afI,al2,e];rfl
def U1(n:Nat)(aE:List lB)(aJ:lB):runK n aE aJ aJ.length=zN ⟨n,aE,aJ.map UInt8.toNat⟩:=by
 unfold runK zN;rw[afH,ayw n aE (aJ.map UInt8.toNat)]
theorem As{n:Nat}(h:1<=n/\n<=64)(aE:List lB){aJ:lB}(a:aJ.length<=4000): ∀k,k<=aJ.length->ql (runK n aE aJ k).1/\ (runK n aE aJ k).1.now<=k
 |0,_=>⟨ayE h aE _,aen 0⟩
 |k+1,c=>by
  obtain⟨b,f⟩:=As h aE a k (by omega);obtain⟨e,d⟩:=ayl b (by omega) (aJ.getD k default).toNat;rw[CN (by omega)]
  grind
theorem alG{n:Nat}{aE:List lB}{aJ:lB}: ∀k,k<=aJ.length->(runK n aE aJ k).2.length=k
 |0,_=>rfl
 |k+1,a=>by rw[CN (by omega)];rw[aem,alG k (by omega)];rfl
def alH{aJ:lB}(hD: ∀op,kE op)(h:Gr n aE aJ pv kv)(j:nu ⟨n,aE,aJ.map UInt8.toNat⟩=true)(N:Nat)(H:List ae)(r:H.length=N)(lo:oN):
  ∃x,D XC (.fn (.func 10) [] []) [.agg [.int .i64 n,pv,kv]] ⟨H,lo⟩=some x/\ ∃M p q qv ev aF aQ b H' ak,x= .ret (.ay [.ptr M 0,b,.int .i64 0]) ⟨H',ak⟩/\
   bH N M p q (zN ⟨n,aE,aJ.map UInt8.toNat⟩).1 qv ev aF aQ H'/\cV N H' b 1 uQ ((zN ⟨n,aE,aJ.map UInt8.toNat⟩).2.map GA)/\H.length<=H'.length/\ (∀i,i<N->H'[i]?=H[i]?)/\N<=M/\N<=p/\N<=q:=by
 obtain⟨C,m,F⟩:1<=n/\n<=64/\aJ.length<=4000:=by unfold nu at j;simp at j;omega
 refine cz PO λM hM=>?_
 obtain rfl:M=N:=by omega
 have CJ:=cK h.pr (bB (λ_=>rfl) _);have O4:=cK h.pk (bB (λ_=>rfl) _);obtain⟨x,R,aF,L3,rfl,Q,n3⟩:=ayz h j (M+1) (H++[.box [.int .i64 n,pv,kv] none]) (by simp[r]) none;have L:M+1+1=M+2:=rfl;have G:=λE=>h.pk.bN (E:=E)
 have f:=ayF (N:=M+1) (n:=n) (aE:=aE) (pv:=pv) (kv:=kv) (H:=H++[.box [.int .i64 n,pv,kv] none]) (by simp[r]) Q;have S: (mj (fT n aE aE.length) n (M+1) pv kv aF (H++[.box [.int .i64 n,pv,kv] none]))[M]?=some (.box [.int .i64 n,pv,kv] none):=by
  unfold mj;rw[ac7 (by simp[r]),dv r];rfl
 simp only[go_sem,simprocAttr,PO,r,L,R,S,G];refine gN aJ.length (λk e W ak=> ∃qv ev aF aQ b,e 5= .ptr (M+2) 0/\e 7=b/\e 19=kv/\e 20= .int .i64 aJ.length/\e 21= .int .i64 k/\bH (M+1) (M+2) (M+4) (M+3) (runK n aE aJ k).1 qv ev aF aQ W/\cV M W b 1 uQ ((runK n aE aJ k).2.map GA)/\H.length<=W.length/\ ∀i,i<M->W[i]?=H[i]?) 0 (by omega) ?_ ?_
 ·refine⟨.aq,.aq,aF,λ_=>.aq,.aq,?_⟩;simp only[go_sem,simprocAttr];refine⟨f,cV.aq,by unfold mj;simp,λi I=>?_⟩;unfold mj;rw[ac7 (by simp;omega),ac7 (by omega)]
 clear f S R Q n3 aF;rintro k hk e W ak ⟨qv,ev,aF,aQ,b,U,e7,u,t,s,f,T,hl,c⟩ nn hn;simp only[bQ,go_sem,simprocAttr,aex,U,e7,u,t,s];refine⟨λhh=>?_,λhh=>?_⟩
 ·have o:k<aJ.length:=by omega
  obtain⟨Z,o2⟩:=As ⟨C,m⟩ aE F k (by omega);have hb:=(aJ.getD k default).toNat_lt;obtain⟨x,Y,z,P,v,l,V,B,rfl,X,w,p4⟩:=aym hD f Z (by omega) (aJ.getD k default).toNat hb ak;have J:M<=V.length:=by have:=w.len;omega
  have K:cV M V b 1 uQ ((runK n aE aJ k).2.map GA):=T.nS λid aj all g=>w.box id _ (by
   have h1:=f.box;have h2:=f.co.box;have h3:=f.co.ia;intro j;simp at j;rcases j with rfl|rfl|rfl
   ·rw[h1]at g;cases g
   ·rw[h2]at g;cases g
   ·rw[h3]at g;cases g) (λq=>by
   rcases q with⟨a,d,q⟩| ⟨a,d,q⟩
   ·injection q with _ _ q;cases q
   ·injection q with _ q;cases q) g
  obtain⟨A,W3,g1,g2,g3,g4,g5,g6,g7,g8⟩:=cV.append (bytes:=8) (lo:=B) (y:=GA (jX (runK n aE aJ k).1 (aJ.getD k default).toNat).2) K J (by omega) rfl rfl (by rw[aer,alG k (by omega)];unfold room;omega);have O:=X.ayH (sz:=1) (ty:=uQ) (.inl (by decide)) (.inl (by decide)) g5 g3;unfold GA at g1;simp(disch:=omega) only[go_sem,simprocAttr,U,e7,u,t,s,h.pk.ca,h.pk.cD,bC,Y,g1];rw[CN o];refine⟨by omega,o,z,P,v,l,A,rfl,O,?_,by have:=w.len;omega,λi I=>(g4 i I).trans ((w.low i (by omega) (by simp;omega)).trans (c i I))⟩;rw[afI];exact g2
 ·obtain rfl:k=aJ.length:=by omega
  rw[ayG (by omega),<-U1];exact⟨M+2,M+4,M+3,qv,ev,aF,aQ,b,W,_,rfl,f.mono (by omega),T,by omega,c,by omega,by omega,by omega⟩
theorem MF{E:AS}(h:Rd E v sz af): (v= .aq/\af=[])\/dE .sl v .aq=some false:=by
 have a:=h.kind;cases v<;>first|exact .inr rfl|grind|skip
 ·exact .inl ⟨rfl,by have:=h.eq;simp[Den.elems]at this;omega⟩
theorem MG{l:List α}{g:α->lA}{ty:TypeId}{bytes N:Nat}{H:List ae}(a:H.length=N)(b:0<sz)(i: ∀x,(g x).length=sz)(c: ∀x,aI (g x)=0)(e:l≠[])(d:l.length*bytes<=room):
  du ⟨H,none⟩ ty sz bytes (.sl [] true) (l.map g)=some (.ref N 0 sz 0 l.length false,⟨H++[.row 0 sz ty (l.map g)],none⟩)/\finish N lo (.ref N 0 sz 0 l.length false) ⟨H++[.row 0 sz ty (l.map g)],none⟩=(.sl (l.map g) false,⟨H,lo⟩):=by
 have f:0<l.length:=az4.2 e;have ha: (l.map g).all (λel=>el.length==sz)=true:=by grind
 have ho:aT N (H++[.row 0 sz ty (l.map g)]) (.ref N 0 sz 0 l.length false) sz ty (l.map g):=
  ⟨λel h=>by grind,.inr ⟨N,0,aen _,by simp,dv a⟩⟩
 refine⟨?_,?_⟩
 ·simp only[du,ha];rw[adV ⟨b,trivial⟩,ada (by rw[aer];omega),adV ⟨by simpa using d,rfl⟩];simp[AS.push,a]
 ·rw[FW (.inl rfl) ho (by rw[bB c];omega),kb a];rfl
def ayI{l:lN}{H:List ae}(h:Rd ⟨H,none⟩ v 1 (l.map fS))(e:l.length*8<=room)(lo:oN):
  ∃v',D X0 (.fn (.func 40) [] []) [v] ⟨H,lo⟩=some (.ret v' ⟨H,lo⟩)/\Rv v' 1 (l.map fS):=by
 have d:=h.eq;have a:dE EK.sl AV.aq AV.aq=some true:=rfl;have e3:bZ ([]:List lA)=0:=rfl;rcases MF h with⟨rfl,he⟩|he
 ·refine⟨.aq,?_,by rw[he];exact .aq⟩;refine aH ze λN b=>?_
  simp(disch:=omega) only[F1,go_sem,simprocAttr,ze,a]
 ·by_cases c:l=[]
  ·subst c;refine⟨.sl [] true,?_,.sl (λel h=>by cases h)⟩;refine aH ze λN b=>?_
   have e1:du ⟨H,none⟩ od 1 8 (.sl [] true) []=some (.sl [] true,⟨H,none⟩):=rfl;simp(disch:=omega) only[F1,go_sem,simprocAttr,ze,he,d,e1,e3]
  ·refine⟨.sl (l.map fS) false,?_,.sl (λel h=>by obtain⟨x,_,rfl⟩:=afJ.1 h;rfl)⟩;refine aH ze λN b=>?_
   obtain⟨e1,f⟩:=MG (sz:=1) (ty:=od) (bytes:=8) (lo:=lo) (g:=fS) b (by omega) (λ_=>rfl) (λ_=>rfl) c e;simp only[go_sem,simprocAttr,ze,he,d,e1,f]
def ayJ{l:lN}{H:List ae}(h:Rd ⟨H,none⟩ v 1 (l.map hC))(e:l.length*4<=room)(lo:oN):
  ∃v',D X0 (.fn (.func 110) [] []) [v] ⟨H,lo⟩=some (.ret v' ⟨H,lo⟩)/\Rv v' 1 (l.map hC):=by
 have d:=h.eq;have a:dE EK.sl AV.aq AV.aq=some true:=rfl;have e3:bZ ([]:List lA)=0:=rfl;rcases MF h with⟨rfl,he⟩|he
 ·refine⟨.aq,?_,by rw[he];exact .aq⟩;refine aH zh λN b=>?_
  simp(disch:=omega) only[F1,go_sem,simprocAttr,zh,a]
 ·by_cases c:l=[]
  ·subst c;refine⟨.sl [] true,?_,.sl (λel h=>by cases h)⟩;refine aH zh λN b=>?_
   have e1:du ⟨H,none⟩ cb 1 4 (.sl [] true) []=some (.sl [] true,⟨H,none⟩):=rfl;simp(disch:=omega) only[F1,go_sem,simprocAttr,zh,he,d,e1,e3]
  ·refine⟨.sl (l.map hC) false,?_,.sl (λel h=>by obtain⟨x,_,rfl⟩:=afJ.1 h;rfl)⟩;refine aH zh λN b=>?_
   obtain⟨e1,f⟩:=MG (sz:=1) (ty:=cb) (bytes:=4) (lo:=lo) (g:=hC) b (by omega) (λ_=>rfl) (λ_=>rfl) c e;simp only[go_sem,simprocAttr,zh,he,d,e1,f]
def cV.refs{N:Nat}{H:List ae}{ty:TypeId}(h:cV N H v sz ty af):v.refs<=H.length:=by
 rcases h.2 with⟨rfl,_⟩| ⟨id,aj,off,all,_,rfl,a,_⟩
 ·exact aep _
 ·have:=dU a;simp only[AV.refs];omega
section
variable{n M p q:Nat}{m:aS}{qv ev:AV}{aF aQ:Nat->AV}{H:List ae}(ha:bH n M p q m qv ev aF aQ H)
include ha
theorem MH(A:m.ai.Q.length<1073741824)(lo:oN):
  ∃v,D XC (.fn (.func 15) [] []) [.ptr M 0] ⟨H,lo⟩=some (.ret (.agg (bP m.ai q v)) ⟨H,lo⟩)/\Rv v 1 (m.ai.Q.map fS):=by
 obtain⟨N,z⟩: ∃N,H.length=N:=⟨_,rfl⟩;have u:=ha.co.ja.app [.box kg none,.box (bP m.ai q qv) none];obtain⟨v,r,c⟩:=ayI (u.rd (lo:=none)) (by unfold room;omega) none;have r:=c0 r;refine⟨v,?_,c⟩;refine aH PU λK B=>?_
 obtain rfl:K=N:=by omega
 have s:kg.length=1274:=by rw[ME,aem,ee,aem,aem,ep];rfl
 have w: ∀l:lA,l.length=1274->aK kg 0 l=l:=λl h=>ko (by rw[s,h])
 have y:aI (bP m.ai q qv)<=K:=by
  rw[Un];have:=ha.co.ja.refs;have:=ha.co.qp;have:=ha.co.lt;omega
 have b:aI (bP m.ai q v)<=K:=by
  rw[Un];have:=cK c (bB (λ_=>rfl) _);have:=ha.co.qp;have:=ha.co.lt;omega
 have a:=nF (c ⟨H,none⟩);have o:aI (bP m.ai q qv)<=K+1+1:=by omega
 have k:v.refs<=K+1+1:=by have:=cK c (bB (λ_=>rfl) _);omega
 have j:aI (bP m.ai q v)<=K+1:=by omega
 have d:dE EK.ptr (AV.ptr M 0) AV.dD=some false:=rfl;have f:=bc (L:=[.box kg none]) ha.box;have e:=bc (L:=[.box kg none]) ha.co.box;have i:=Ak (x:=m.ai) (q:=q) (qv:=qv);have g:=Ak (x:=m.ai) (q:=q) (qv:=v);have t: ∀l:lA,l.length=1274->List.take 1274 l=l:=λl h=>by rw[<-h,afH]
 simp only[F1,go_sem,simprocAttr,PU,z,d,f,e,qk,r,w,t,i,g,KL,KS,s,o,k,j,b,a.1,a.2]
end
section
variable{n M p q:Nat}{m:aS}{qv ev:AV}{aF aQ:Nat->AV}{H:List ae}
def CO(M t:Nat)(H:List ae)(lo:oN):D XC (.fn (.func 44) [] []) [.ptr M 0,.int .i64 t] ⟨H,lo⟩=some (.ret (.bool (decide (t<8))) ⟨H,lo⟩):=by
 refine aH JO λN d=>?_
 have a:dE EK.ptr (AV.ptr M 0) AV.dD=some false:=rfl;have c: (t:Int)>=0:=by omega
 by_cases h:t<8
 ·have b: (t:Int)<8:=by omega
  rw[ad0 h];simp(disch:=omega) only[F1,go_sem,simprocAttr,JO,a,c,b]
 ·have b: ¬(t:Int)<8:=by omega
  rw[adZ h];simp(disch:=omega) only[F1,go_sem,simprocAttr,JO,a,c,b]
theorem alI(c:Call)(v:AV): (bM c v).length=12:=rfl
theorem cl7(c:Call)(v:AV): (bM c v)[7]?=some (.bool c.checked):=rfl
theorem cl1(c:Call)(v:AV):Den.part true 6 (bM c v) 1=some (.agg (bp c.c)):=rfl
def U2(c:Call)(v:AV):aI (bM c v)=v.refs:=by simp[bM,aI,AV.refs,bp,aA]
theorem clT(c:Call)(v:AV):List.take 12 (bM c v)=bM c v:=rfl
def CC:=gG @alI<|gG @cl7<|gG @cl1<|gG @U2<|gG @clT<|gG @ap7.{0} @amu.{0}
def oO(m:aS)(t:Nat)(rv:AV):AV:=match ns m t with
 |some c=>.ay [.agg (bM c rv),.bool true]
 |none=>.ay [.agg (bM gQ .aq),.bool false]
def alM(u:bH n M p q m qv ev aF aQ H)(C: ∀i,(m.aC i).c.aY.length<1073741824)(t:Nat)(lo:oN):
  ∃rv,D XC (.fn (.func 74) [] []) [.ptr M 0,.int .i64 t] ⟨H,lo⟩=some (.ret (oO m t rv) ⟨H,lo⟩)/\ (∀c,ns m t=some c->Rv rv 1 (c.aY.map hC)):=by
 by_cases a:t<8
 ·have A: (t:Int)<8:=by omega
  have B: (0:Int)<=t:=by omega
  obtain⟨v,g,x⟩:=ayJ (lo:=none) (H:=H++[.box (bM gQ .aq) none,.box (bM (m.aC t).c (aQ t)) none]) ((u.rv t) _) (by have:=C t;unfold room;omega);have g:=c0 g;have e:=nF (x ⟨H,none⟩);have j:=cK x (bB (λ_=>rfl) _);have h:=cK (u.rv t) (bB (λ_=>rfl) _);have o: ∀v:AV,aI (bM (m.aC t).c v)=v.refs:=λv=>by simp[bM,aI,AV.refs,bp,aA]
  have z: ∀L,(H++L)[M]?=some (.box (cG m p aF aQ ev) none):=λL=>bc u.box
  have y: ∀v,bM gQ v=[(.int .i64 0),(.int .u8 0),(.int .u32 0),(.int .u32 0),(.int .u32 0),(.int .u32 0),(.int .u64 0),(.bool false),v,(.int .i64 0),(.int .i64 0),(.int .i64 0)]:=λv=>rfl
  have r: ∀v,(bM (m.aC t).c v).length=12:=λv=>rfl
  have s: ∀v,(bM (m.aC t).c v)[8]?=some v:=λv=>rfl
  have l: ∀v w,aK (bM (m.aC t).c v) 8 [w]=bM (m.aC t).c w:=λv w=>rfl
  have k: ∀v,List.take 12 (bM (m.aC t).c v)=bM (m.aC t).c v:=λv=>rfl
  cases d: (m.aC t).busy
  ·refine⟨.aq,?_,λc b=>by unfold ns at b;simp[d]at b⟩;have hu:oO m t .aq= .ay [.agg (bM gQ .aq),.bool false]:=by unfold oO ns;simp[d]
   rw[hu];refine aH zg λN f=>?_
   simp only[F1,go_sem,simprocAttr,zg,f,CO,ad0 a,z,xI a,d,B,A,y]
  ·rw[y]at g;refine⟨v,?_,λc b=>by unfold ns at b;simp[d,a]at b;subst b;exact x⟩;have hu:oO m t v= .ay [.agg (bM (m.aC t).c v),.bool true]:=by unfold oO ns;simp[d,a]
   rw[hu];refine aH zg λN f=>?_
   simp only[F1,go_sem,simprocAttr,zg,f,CO,ad0 a,z,xI a,CG a,d,B,A,g,o,j,h,r,s,l,k,e.1,e.2,ap7,amu]
 ·have hu:oO m t .aq= .ay [.agg (bM gQ .aq),.bool false]:=by unfold oO ns;simp[a]
  refine⟨.aq,?_,λc b=>by unfold ns at b;simp[a]at b⟩;rw[hu];refine aH zg λN f=>?_
  simp only[F1,go_sem,simprocAttr,zg,f,CO,adZ a];rfl
def alN(z: ∀op,kE op)(f:bH n M p q m qv ev aF aQ H)(r:de m)(o: ∀i,(m.aC i).c.aY.length<1073741824)(t:Nat)(lo:oN):
  D XC (.fn (.func 39) [] []) [.ptr M 0,.int .i64 t] ⟨H,lo⟩=some (.ret (.bool (rD m t)) ⟨H,lo⟩):=by
 refine aH BO λN g=>?_
 obtain⟨rv,d,l⟩:=alM f o t none;have a:=λL lo=>My (f.app L) t lo
 have x: ∀L,(H++L)[M]?=some (.box (cG m p aF aQ ev) none):=λL=>bc f.box
 have j: ∀L,(H++L)[p]?=some (.box (bP m.ai q qv) none):=λL=>bc f.co.box
 cases hu:ns m t with
 |none=>
  have e1:rD m t=false:=by unfold rD;rw[hu]
  have k:oO m t rv= .ay [.agg (bM gQ .aq),.bool false]:=by unfold oO;rw[hu]
  rw[e1];rw[k]at d;have v:AV.refs .aq=0:=rfl;simp only[F1,go_sem,simprocAttr,BO,g,d,CC,↓CC,v]
 |some c=>
  have y:t<8/\c=(m.aC t).c:=by
   unfold ns at hu;split at hu
   ·rename_i h;injection hu with hu;exact⟨h.1,hu.symm⟩
   ·cases hu
  have e1:rD m t=(lp m t&& !c.checked&&B9 m.ai.S t c.c):=by unfold rD;rw[hu]
  have k:oO m t rv= .ay [.agg (bM c rv),.bool true]:=by unfold oO;rw[hu]
  have hw:=λH lo=>ajN m.ai.S r.ai.S t (by omega) c.c (by rw[y.2];exact(r.c t).iJ) (z _) H lo
  have e:=l c hu;have w:=nF (e ⟨H,none⟩);have b:=cK e (bB (λ_=>rfl) _);rw[e1];rw[k]at d;clear o l;cases u:lp m t
  ·rw[u]at a;simp only[F1,go_sem,simprocAttr,BO,g,d,a,CC,↓CC,b];rfl
  ·rw[u]at a;cases s:c.checked
   ·simp only[F1,go_sem,simprocAttr,BO,g,d,a,x,j,hw,s,CC,↓CC,b,qk,KL,↓KL]
   ·simp only[F1,go_sem,simprocAttr,BO,g,d,a,s,CC,↓CC,b];rfl
def alO(g: ∀op,kE op)(c:bH n M p q m qv ev aF aQ H)(f:de m)(e: ∀i,(m.aC i).c.aY.length<1073741824)(t:Nat)(lo:oN):
  D XC (.fn (.func 18) [] []) [.ptr M 0,.int .i64 t] ⟨H,lo⟩=some (.ret (.bool (sY m t)) ⟨H,lo⟩):=by
 refine aH EX λN j=>?_
 have h:=alN g c f e t;have a:=My c t;unfold sY;cases b:decide (t<8)
 ·simp(disch:=omega) only[F1,go_sem,simprocAttr,EX,CO,b];rfl
 ·cases d:lp m t
  ·rw[d]at a;simp(disch:=omega) only[F1,go_sem,simprocAttr,EX,CO,b,a];rfl
  ·rw[d]at a;simp(disch:=omega) only[F1,go_sem,simprocAttr,EX,CO,b,a,h]
end
theorem ayK{s:bu}(a:bf s)(c:cx): (sU s c).length<=39135394:=by
 have d:=zY a.tr c.r;have b: ∀h,(oC s h).length<=1:=λh=>by unfold oC;grind
 unfold sU
 grind
def jN(c:Call):Prop:=c.aY.length<=39135394
def ayL{x:Core}{c:Call}(i:bf x.S)(h:jN c):jN (fQ x c).c:=by
 have b:jN (ky ⟨x,c,bO,false⟩).1.c:=by
  unfold ky;repeat' split
  all_goals first|exact h|exact ayK i _
 have d: ∀s:bL,jN s.c->jN (kz s).1.c:=λs a=>by
  unfold kz;split
  ·exact a
  ·rename_i e;dsimp only;split
   ·have:s.c.aY.length<=39135394:=a;rw[e,afO]at this;exact afY (Nat.le_succ _) this
   ·exact a
 have f: ∀s:bL,jN s.c->jN (kA s).1.c:=λs a=>by
  unfold kA;dsimp only;repeat' split
  all_goals exact a
 have g: ∀s:bL,jN s.c->jN (ln s).1.c:=λs a=>by
  unfold ln;split<;>exact a
 have j: ∀s:bL,jN s.c->jN (rq s).c:=λs a=>by
  unfold rq;dsimp only;repeat' split
  all_goals exact a
 unfold fQ;dsimp only
 repeat' split
 ·exact b
 ·exact d _ b
 ·exact f _ (d _ b)
 ·exact g _ (f _ (d _ b))
 ·exact j _ (g _ (f _ (d _ b)))
def oP(m:aS):Prop:= ∀i,jN (m.aC i).c
def U3:jN gQ:=aep _
def oP.set(h:oP m){t:Nat}{r:Runner}(a:jN r.c)(i:Nat):jN (av m.aC t r i).c:=by
 unfold av;split
 ·omega
 ·exact h i
def ayM(h:oP m)(i:Nat):oP (lq m i):=by
 unfold lq;split
 ·exact h.set U3
 omega
def U4(h:oP m):oP (jW m):=by
 unfold jW;generalize List.range 8=l
 induction l generalizing m with
 |nil=>exact h
 |cons a l b=>exact b (ayM h a)
def alP(a:bf m.ai.S)(h:oP m)(t:Nat):oP (pZ m t):=by
 have b:=ayL (x:=m.ai) a (h t);unfold pZ;dsimp only;split
 ·intro i;by_cases q:i=t
  ·subst q;show jN (Runner.c (av _ _ _ _));rw[ch];exact U3
  ·show jN (Runner.c (av _ _ _ i));rw[cF q];show jN (Runner.c (av m.aC t _ i));rw[cF q];exact h i
 ·exact h.set b
def ayN(a:bf m.ai.S)(h:oP m)(b:Nat):oP (jX m b).1:=by
 unfold jX;dsimp only
 repeat' split
 ·exact h
 ·exact U4 (m:={m with ai:=_,now:=_}) h
 ·exact h
 ·exact h
 ·exact U4 (m:=zM _ _) h
 ·refine U4 ?_;unfold rC;dsimp only
  repeat' split
  ·refine alP ?_ ?_ _;exact a;exact h
  ·refine alP ?_ ?_ _;exact a;exactλi=>h.set U3 i
  ·exactλi=>h.set (t:=b % 8) (r:={m.aC (b % 8)with t:=rB (m.aC (b % 8)).t}) (h (b % 8)) i
def ayO(n:Nat)(aE:List lB)(k:Nat):oP (fT n aE k):=λi=>aep _
theorem U5{n:Nat}(h:1<=n/\n<=64)(aE:List lB){aJ:lB}(a:aJ.length<=4000): ∀k,k<=aJ.length->oP (runK n aE aJ k).1
 |0,_=>ayO _ _ _
 |k+1,b=>by
  rw[CN (by omega)];exact ayN (As h aE a k (by omega)).1.ok.ai.S (U5 h aE a k (by omega)) _
def oQ(x:dR):lA:=[.int .i64 x.op,.int .i64 x.a,.int .i64 x.b,.int .i64 x.c,.int .i64 x.n]
def ayP(v:AV)(l:List dR)(E:l.length<2147483648)(H:List ae)(h:Rd ⟨H,none⟩ v 5 (l.map oQ))(lo:oN):
  D X0 (.fn (.func 61) [] []) [v] ⟨H,lo⟩=some (.ret (.bool (pY l)) ⟨H,lo⟩):=by
 refine aH JR λN s=>?_
 unfold pY;by_cases c:l.length<=64
 ·have p: ¬((l.length:Nat):Int)>64:=by omega
  rw[ad0 c,al1];simp only[go_sem,simprocAttr,JR,h.bN,p];refine dP l.length (λk e W=>H<+:W/\e 0=v/\e 3= .int .i64 k/\ ∀j,j<k->ru (l.getD j default) l.length=true) 0 (by omega) ?_ ?_
  ·simp only[go_sem,simprocAttr];exact⟨aqO,λj o=>absurd o (an0 j)⟩
  rintro k F e W ⟨d,q,e3,g⟩ n B;have hw:=h.mono (ak:=none) d;simp only[bQ,F1,go_sem,simprocAttr,aeK,q,e3,hw.bN];refine⟨λC=>?_,λC=>?_⟩
  ·have b:k<l.length:=by omega
   have a: ∀x,Den.part true 5 (oQ x) 0=some (.agg (oQ x)):=λ_=>rfl
   have r: ∀x:dR,(oQ x)[0]?=some (.int .i64 x.op):=λ_=>rfl
   have z: ∀x:dR,(oQ x)[1]?=some (.int .i64 x.a):=λ_=>rfl
   have y: ∀x:dR,(oQ x)[2]?=some (.int .i64 x.b):=λ_=>rfl
   have w: ∀x:dR,(oQ x)[3]?=some (.int .i64 x.c):=λ_=>rfl
   have u: ∀x:dR,(oQ x)[4]?=some (.int .i64 x.n):=λ_=>rfl
   have t: ∀x:dR,(oQ x).length=5:=λ_=>rfl
   have rr: ∀x:dR,aI (oQ x)=0:=λ_=>rfl
   have A:=hw.ext (L:=[.box (oQ (l.getD k default)) none]) (ak:=none);have m: ∀L,fW ⟨W++L,none⟩ .sl v=some (.int .i64 l.length):=λL=>(hw.ext (L:=L) (ak:=none)).bN
   simp(disch:=omega) only[go_sem,simprocAttr,hw.ca,hw.cD,↓a,B,t,rr,r];refine⟨by omega,?_⟩;generalize f:l.getD k default=x at*;refine we 62 (.bool (!ru x l.length)) [0,3] rfl rfl ?_ λG=>?_
   ·unfold ru;simp(disch:=omega) only[R4,go_sem,simprocAttr,r,z,y,w,u,m,q]
    (repeat' (first|apply And.intro|intro _))
    all_goals(refine ag9 AV.bool (amt.2 ?_);simp[];try(intros;omega))
   cases hm:ru x l.length
   ·simp only[F1,go_sem,simprocAttr];have a: (l.all λx=>ru x l.length)=false:=by
     rw[aAL];exact⟨x,by rw[<-f];exact eo b,by rw[hm];decide⟩
    rw[a];exact dj rfl (lv s λi g=>by obtain⟨L,rfl⟩:=d;rw[adW,ac7 (by omega)])
   ·simp(disch:=omega) only[go_sem,simprocAttr,q,e3];refine⟨b,d.trans (anZ _ _),nv g (by rw[f,hm])⟩
  ·have a: (l.all λx=>ru x l.length)=true:=by
     rw[afQ];intro x f;obtain⟨j,o,rfl⟩:=aqs f;have:=g j (by omega);rwa[show l.getD j default=l[j] by simp[List.getD,o]]at this
   rw[a];exact dj rfl (lv s λi g=>by obtain⟨L,rfl⟩:=d;rw[ac7 (by omega)])
 ·have p: ((l.length:Nat):Int)>64:=by omega
  rw[adZ c,ahj];simp(disch:=omega) only[F1,go_sem,simprocAttr,JR,h.bN,p]
def ayQ(s:lB)(F:s.length<=1000)(H:List ae)(lo:oN):
  ∃v,D X0 (.fn (.func 33) [] []) [S s] ⟨H,lo⟩=some (.ret (.ay [v,.bool (decode s).isSome]) ⟨H,lo⟩):=by
 suffices A: ∃h,D X0 (.fn (.func 33) [] []) [S s] ⟨H,lo⟩=some h/\ (λh=> ∃v,h=aX.ret (.ay [v,.bool (decode s).isSome]) ⟨H,lo⟩) h by
  obtain⟨h,x,v,rfl⟩:=A;exact⟨v,x⟩
 refine cz PY λN m=>?_
 simp only[go_sem,simprocAttr,PY];refine dP (s.length/6) (λk e W=>e 0=S (s.drop (6*k))/\H<+:W/\aT N W (e 4) 5 aeh ((gI s k).map oQ)) 0 (by omega) ?_ ?_
 ·simp only[go_sem,simprocAttr];exact⟨aqO,aT.aq⟩
 rintro k G e W ⟨z,a,p⟩ n B;have C: (s.drop (6*k)).length=s.length-6*k:=ams ..;have f: (gI s k).length=k:=by simp[gI]
 simp only[bQ,go_sem,simprocAttr,aeD,z,B];refine⟨λE=>?_,λE=>?_⟩
 ·have c:k<s.length/6:=by omega
  have I:6<=(s.drop (6*k)).length:=by omega
  have q:uB (S (s.drop (6*k))) (some (.int .i64 6)) none=some (S (s.drop (6*(k+1)))):=by
   rw[HN,adV ⟨by omega,by omega⟩,apf];rfl
  have d: ∀j,((s.drop (6*k)).getD j 0).toNat<256:=λj=>UInt8.toNat_lt _
  have Q:=d 0;have P:=d 1;have O:=d 2;have M:=d 3;have K:=d 4;have J:=d 5;simp(disch:=omega) only[go_sem,simprocAttr];refine⟨by omega,by omega,by omega,by omega,by omega,by omega,?_⟩;refine o7 (N:=N) (H0:=H) (bytes:=40) (ys:=[oQ (qj (s.drop (6*k)))]) p a m (by omega) (by intro el t;rw[afD.1 t];rfl) rfl (by rw[aer,f];show(k+1)*40<=room;unfold room;omega) λv' R o r=>?_
  simp only[go_sem,simprocAttr,z,q];refine⟨c,r,?_⟩;rw[UN,afI];exact o
 ·have c:k=s.length/6:=by omega
  by_cases y:s.length % 6=0
  ·have l: ¬(0:Int)< ((s.drop (6*k)).length:Nat):=by omega
   have b:=λlo=>ayP (e 4) (gI s k) (by omega) W (jJ p none) lo
   have g:ry s=gI s k:=by rw[c];exact akV y
   have u:decode s=if pY (gI s k)then some (gI s k)else none:=by
    unfold decode;by_cases x:s.length<=384
    ·rw[ada (by omega),g]
    ·rw[adV (by omega)];have:pY (gI s k)=false:=by unfold pY;rw[adZ (by rw[f];omega)];rfl
     rw[this];rfl
   rw[u];cases hm:pY (gI s k)with
   |true=>
    rw[hm]at b;simp only[go_sem,simprocAttr,l,b];rw[p.ade (by rw[bB (λ_=>rfl)];omega) (aep _)];exact⟨_,dj rfl (lv m λi w=>by obtain⟨L,rfl⟩:=a;rw[ac7 (by omega)])⟩
   |false=>
    rw[hm]at b;simp only[go_sem,simprocAttr,l,b];rw[oF rfl];exact⟨.aq,dj rfl (lv m λi w=>by obtain⟨L,rfl⟩:=a;rw[ac7 (by omega)])⟩
  ·have l: (0:Int)< ((s.drop (6*k)).length:Nat):=by omega
   have u:decode s=none:=by unfold decode;rw[adV (.inl y)]
   rw[u];simp only[go_sem,simprocAttr,l];rw[oF rfl];exact⟨.aq,dj rfl (lv m λi w=>by obtain⟨L,rfl⟩:=a;rw[ac7 (by omega)])⟩
def fg(aM:Int)(pv:AV)(aJ:lB):lA:=[.int .i64 aM,pv,S aJ]
structure U6(aM:Int)(aE:List lB)(aJ:lB)(pv:AV):Prop where
 pg: -9223372036854775808<=aM/\aM<9223372036854775808
 pr:Rv pv 1 (aE.map sC)
def vN(aE:List lB)(aJ:lB):Bool:=decide (20<aE.length)|| (decide (6000<aJ.length)||aE.any λp=>decide (1000<p.length))
def MI(aE:List lB)(aJ:lB):Bool:=vN aE aJ||decide (1500<aJ.length)
section
variable{aM:Int}{aE:List lB}{aJ:lB}{pv:AV}(h:U6 aM aE aJ pv)
include h
theorem ayR:aI (fg aM pv aJ)=0:=by
 have:=cK h.pr (bB (λ_=>rfl) _);simp[fg,aI,AV.refs,S,this]
theorem ayS(H:List ae)(lo:oN):D X0 (.fn (.func 32) [] []) [.agg (fg aM pv aJ)] ⟨H,lo⟩=some (.ret (.bool (vN aE aJ)) ⟨H,lo⟩):=by
 refine aH E0 λN f=>?_
 have g1: (fg aM pv aJ)[1]?=some pv:=rfl;have g2: (fg aM pv aJ)[2]?=some (S aJ):=rfl;unfold vN;by_cases g:20<aE.length
 ·have a: (aE.length:Int)>20:=by omega
  rw[ad0 g,aqf];simp only[F1,go_sem,simprocAttr,E0,f,g1,h.pr.bN,a]
 by_cases l:6000<aJ.length
 ·have a: ¬(aE.length:Int)>20:=by omega
  have b: (aJ.length:Int)>6000:=by omega
  rw[adZ g,ad0 l,aqf,aqw];simp only[F1,go_sem,simprocAttr,E0,f,g1,g2,h.pr.bN,a,b]
 have a: ¬(aE.length:Int)>20:=by omega
 have b: ¬(aJ.length:Int)>6000:=by omega
 rw[adZ g,adZ l,aqw,aqw];simp only[go_sem,simprocAttr,E0,f,g1,g2,h.pr.bN,a,b];refine dP aE.length (λk e W=>W=H++[.box (fg aM pv aJ) none]/\e 1= .ptr N 0/\e 3= .int .i64 k/\ ∀j,j<k->(λp:lB=>decide (1000<p.length)) (aE.getD j default)=false) 0 (by omega) ?_ ?_
 ·simp only[go_sem,simprocAttr];exactλj d=>absurd d (an0 j)
 rintro k t e W ⟨rfl,e1,e3,i⟩ n s;simp(disch:=omega) only[bQ,F1,go_sem,simprocAttr,aeC,e1,e3,g1,h.pr.bN];refine⟨λr=>?_,λr=>?_⟩
 ·have c:k<aE.length:=by omega
  simp(disch:=omega) only[bQ,F1,go_sem,simprocAttr,e1,e3,h.pr.ca,h.pr.cD,↓pS];refine⟨by omega,λo=>?_,λo=>?_⟩
  ·rw[(axL).2 ⟨_,eo c,ad0 (by omega)⟩]
  ·exact⟨c,nv (p:=λj=>decide (1000< (aE.getD j default).length)=false) i (adZ (by omega))⟩
 ·have: (aE.any λp=>decide (1000<p.length))=false:=by
    rw[aAp];intro x m;obtain⟨j,d,rfl⟩:=aqs m;have:=i j (by omega);rw[show aE.getD j default=aE[j] by simp[List.getD,d]]at this;exactλq=>by rw[show decide (1000<aE[j].length)=false from this]at q;cases q
  rw[this]
theorem ayT(H:List ae)(lo:oN):D X0 (.fn (.func 7) [] []) [.agg (fg aM pv aJ)] ⟨H,lo⟩=some (.ret (.bool (MI aE aJ)) ⟨H,lo⟩):=by
 refine aH JJ λN e=>?_
 have g2: (fg aM pv aJ)[2]?=some (S aJ):=rfl;have c: (fg aM pv aJ).length=3:=rfl;have b:List.take 3 (fg aM pv aJ)=fg aM pv aJ:=rfl;have e1:decide ((aJ.length:Int)>1500)=decide (1500<aJ.length):=afS.2 (by omega);have a:=ayS h;unfold MI;cases d:vN aE aJ
 ·rw[d]at a;simp only[F1,go_sem,simprocAttr,JJ,e,g2,a,c,b,e1]
 ·rw[d]at a;simp only[F1,go_sem,simprocAttr,JJ,e,a,c,b]
theorem ayU(i:vN aE aJ=false)(H:List ae)(lo:oN): ∃kv,D X0 (.fn (.func 11) [] []) [.agg (fg aM pv aJ)] ⟨H,lo⟩=some (.ret (.agg [.int .i64 aM,pv,kv]) ⟨H,lo⟩)/\Gr aM aE aJ pv kv:=by
 have g:aE.length<=20/\aJ.length<=6000:=by
  unfold vN at i
  grind
 refine⟨.sl (aJ.map bC) false,?_,⟨h.pr,.sl λel d=>by obtain⟨x,_,rfl⟩:=afJ.1 d;rfl,by omega,by omega⟩⟩;refine aH PQ λN j=>?_
 have k: (fg aM pv aJ)[0]?=some (.int .i64 aM):=rfl;have g1: (fg aM pv aJ)[1]?=some pv:=rfl;have g2: (fg aM pv aJ)[2]?=some (S aJ):=rfl;have b:=cK h.pr (bB (λ_=>rfl) _);have c:HL (S aJ)=some (.sl (aJ.map bC) false):=by
  have e:HL (S aJ)=if aJ.length<=room then some (.sl (aJ.map bC) false)else none:=rfl
  rw[e,adV (by unfold room;omega)]
 have f:bZ (aJ.map bC)=0:=bB (λ_=>rfl) _;have a:=nF (h.pr ⟨[],none⟩);simp only[F1,go_sem,simprocAttr,PQ,j,k,g1,g2,c,a.1,a.2,b,f,ap7,amu]
theorem ayV(t:vN aE aJ=false)(H:List ae)(lo:oN):D X0 (.fn (.func 8) [] []) [.agg (fg aM pv aJ)] ⟨H,lo⟩=some (.ret (.bool (nu ⟨aM,aE,aJ.map UInt8.toNat⟩)) ⟨H,lo⟩):=by
 refine aH PM λN F=>?_
 have A: (fg aM pv aJ)[0]?=some (.int .i64 aM):=rfl;have g1: (fg aM pv aJ)[1]?=some pv:=rfl;have g2: (fg aM pv aJ)[2]?=some (S aJ):=rfl;obtain⟨w,f⟩: ∃b,b=decide (1<=aM/\aM<=64/\1<=aE.length/\aE.length<=8/\aJ.length<=4000):=⟨_,rfl⟩;have r:nu ⟨aM,aE,aJ.map UInt8.toNat⟩=(w&&aE.all (λp=>(decode p).isSome)&& (aJ.map UInt8.toNat).all lr):=by unfold nu;rw[aer,f]
 rw[r];simp only[go_sem,simprocAttr,PM,F,A];refine we 33 (.bool (!w)) [1] rfl rfl ?_ λG=>?_
 ·rw[f];simp(disch:=omega) only[R4,go_sem,simprocAttr,A,g1,g2,h.pr.bN];generalize aE.length=np
  (repeat' (first|apply And.intro|intro _))
  all_goals(refine ag9 AV.bool (amt.2 ?_);simp[];try(intros;omega))
 cases w
 ·simp(disch:=omega) only[F1,go_sem,simprocAttr];rfl
 have f:=(aqQ f.symm);simp only[go_sem,simprocAttr];refine dP aE.length (λk e W=>W=H++[.box (fg aM pv aJ) none]/\e 1= .ptr N 0/\e 3= .int .i64 k/\ ∀j,j<k->(λp:lB=>(decode p).isSome) (aE.getD j default)=true) 0 (by omega) ?_ ?_
 ·simp only[go_sem,simprocAttr];exactλj g=>absurd g (an0 j)
 rintro k I e W ⟨rfl,e1,e3,l⟩ n C;simp(disch:=omega) only[bQ,go_sem,simprocAttr,aew,e1,e3,g1,h.pr.bN];refine⟨λq=>?_,λq=>?_⟩
 ·have a:k<aE.length:=by omega
  have s: (aE.getD k default).length<=1000:=by
   unfold vN at t;simp only[azd,aAp,ai5]at t;have:=t.2.2 _ (eo a);omega
  obtain⟨v,u⟩:=ayQ (aE.getD k default) s (H++[.box (fg aM pv aJ) none]) none;simp(disch:=omega) only[go_sem,simprocAttr,h.pr.ca,h.pr.cD,↓pS,u];refine⟨by omega,?_⟩;cases m: (decode (aE.getD k default)).isSome
  ·simp(disch:=omega) only[F1,go_sem,simprocAttr];have: (aE.all λp=>(decode p).isSome)=false:=by
    rw[aAL];exact⟨_,eo a,by rw[m];decide⟩
   rw[this];rfl
  ·simp(disch:=omega) only[go_sem,simprocAttr,e1,e3];exact⟨a,nv (p:=λj=>(decode (aE.getD j default)).isSome=true) l m⟩
 have d: (aE.all λp=>(decode p).isSome)=true:=by
  rw[afQ];intro x o;obtain⟨j,g,rfl⟩:=aqs o;have:=l j (by omega);rwa[show aE.getD j default=aE[j] by simp[List.getD,g]]at this
 rw[d,al1];clear l d;refine dP aJ.length (λk e W=>W=H++[.box (fg aM pv aJ) none]/\e 1= .ptr N 0/\e 6= .int .i64 k/\ ∀j,j<k->lr (aJ.getD j 0).toNat=true) 0 (by omega) ?_ ?_
 ·simp only[go_sem,simprocAttr,e1];exactλj g=>absurd g (an0 j)
 clear e1 e3 q;rintro i E e W ⟨rfl,e1,e6,l⟩ n C;simp(disch:=omega) only[bQ,F1,go_sem,simprocAttr,aev,e1,e6,g2];refine⟨λq=>?_,λq=>?_⟩
 ·have a:i<aJ.length:=by omega
  have o:=(aJ.getD i 0).toNat_lt;refine⟨by omega,?_⟩;generalize z: (aJ.getD i 0).toNat=c at*;refine we 72 (.bool (!lr c)) [1,6] rfl rfl ?_ λG=>?_
  ·unfold lr;simp only[R4,go_sem,simprocAttr]
   (repeat' (first|apply And.intro|intro _))
   all_goals(refine ag9 AV.bool (amt.2 ?_);simp[];try(intros;omega))
  cases m:lr c
  ·simp(disch:=omega) only[F1,go_sem,simprocAttr];have: (aJ.map UInt8.toNat).all lr=false:=by
    rw[aAL];exact⟨c,afJ.2 ⟨aJ.getD i 0,by rw[show aJ.getD i 0=aJ[i] by simp[List.getD,a]];exact aq0 a,z⟩,by rw[m];decide⟩
   rw[this]
  ·simp(disch:=omega) only[go_sem,simprocAttr,e1,e6];exact⟨a,nv (p:=λj=>lr (aJ.getD j 0).toNat=true) l (by rw[z,m])⟩
 ·have d: (aJ.map UInt8.toNat).all lr=true:=by
    rw[afQ];intro x o;obtain⟨y,B,rfl⟩:=afJ.1 o;obtain⟨j,g,rfl⟩:=aqs B;have:=l j (by omega);rwa[show aJ.getD j 0=aJ[j] by simp[List.getD,g]]at this
  rw[d]
end
theorem alQ(k:Nat): ∀t:List (Nat×lB×Nat),eg (.int .u8 k) (sg t)=some ((t.find? λx=>decide (k=x.1)).map λx=>.fn (.func x.2.2) [] [])
 | []=>rfl
 |a::t=>by
  have b:=alQ k t;show eg (.int .u8 k) ((.int .u8 a.1,.fn (.func a.2.2) [] [])::sg t)=_;rw[LJ,List.find?_cons]
  grind
def ayW{X:Ctx}{t:List (Nat×lB×Nat)}{g:Nat}(h:X.fU g=some (sg t))(k:Nat)(E:AS)(a:Bool):
  jv X.fU E .int .ds (.lG g) (.int .u8 k) a=some (match(t.find? λx=>decide (k=x.1)).map λx=>x.2.2 with|some f=>if a then .ay [.fn (.func f) [] [],.bool true]else .fn (.func f) [] []|none=>if a then .ay [.ds,.bool false]else .ds):=by
 have e:jv X.fU E .int .ds (.lG g) (.int .u8 k) a=match X.fU g with
  |some es=>(match eg (.int .u8 k) es with|some (some v)=>some (if a then .ay [v,.bool true]else v)|some none=>some (if a then .ay [.ds,.bool false]else .ds)|none=>none)
  |none=>none:=rfl
 rw[e,h];dsimp only;rw[alQ];cases t.find? λx=>decide (k=x.1)<;>rfl
theorem aDe{t:List (Nat×lB×Nat)}(h:t.all (λx=>decide (x.1<n))=true)(a:n<=k): (t.find? λx=>decide (k=x.1))=none:=by grind
def ayX(a:Nat): ((wU.find? λx=>decide (a=x.1)).map λx=>x.2.2)=rI a:=by
 by_cases h:a<23
 ·have: ∀i:Fin 23,((wU.find? λx=>decide (i.1=x.1)).map λx=>x.2.2)=rI i.1:=by decide
  exact this ⟨a,h⟩
 ·match a,h with
  |n+23,_=>rfl
theorem MJ(a:Nat):kE a:=λE=>by
 rw[ayW (X:=XA) (t:=wU) rfl,ayX]
 grind
theorem alR{E:AS}(h:v.refs<=n): (finish n lo v E).1=v:=by
 obtain⟨W,l⟩:=E;cases l with
 |none=>rw[yB,adV h]
 |some j=>
  rw[DF,adV h]
  grind
def ayY{H:List ae}(h:Rd ⟨H,none⟩ v 2 (l.map aA))(e:l.length*16<=room)(lo:oN):
  ∃v',D X0 (.fn (.func 112) [] []) [v] ⟨H,lo⟩=some (.ret v' ⟨H,lo⟩)/\Rv v' 2 (l.map aA):=by
 have d:=h.eq;have a:dE EK.sl AV.aq AV.aq=some true:=rfl;have e3:bZ ([]:List lA)=0:=rfl;rcases MF h with⟨rfl,he⟩|he
 ·refine⟨.aq,?_,by rw[he];exact .aq⟩;refine aH zi λN b=>?_
  simp(disch:=omega) only[F1,go_sem,simprocAttr,zi,a]
 ·by_cases c:l=[]
  ·subst c;refine⟨.sl [] true,?_,.sl (λel h=>by cases h)⟩;refine aH zi λN b=>?_
   have e1:du ⟨H,none⟩ eL 2 16 (.sl [] true) []=some (.sl [] true,⟨H,none⟩):=rfl;simp(disch:=omega) only[F1,go_sem,simprocAttr,zi,he,d,e1,e3]
  ·refine⟨.sl (l.map aA) false,?_,.sl (λel h=>by obtain⟨x,_,rfl⟩:=afJ.1 h;rfl)⟩;refine aH zi λN b=>?_
   obtain⟨e1,f⟩:=MG (sz:=2) (ty:=eL) (bytes:=16) (lo:=lo) (g:=aA) b (by omega) (λ_=>rfl) (λ_=>rfl) c e;simp only[go_sem,simprocAttr,zi,he,d,e1,f]
def ayZ(h:Rv v 2 (l.map aA))(e:l.length<=64)(H:List ae)(lo:oN):
  ∃v',D X0 (.fn (.func 79) [] []) [.agg [v]] ⟨H,lo⟩=some (.ret v' ⟨H,lo⟩)/\Rv v' 2 (l.map aA):=by
 obtain⟨v',d,b⟩:=ayY (H:=H++[.box [v] none]) (h _) (by unfold room;omega) none;refine⟨v',?_,b⟩;refine aH Qj λN c=>?_
 have a:=cK b (bB (λ_=>rfl) _);simp only[F1,go_sem,simprocAttr,Qj,c,d,a]
section
variable{p:cT}{q:Nat}{H:List ae}(h:H[q]?=some (.box (cg p) none))
include h
theorem ay0(lo:oN):D X0 (.fn (.func 78) [] []) [.ptr q 0] ⟨H,lo⟩=some (.ret (.agg [nG p]) ⟨H,lo⟩):=by
 refine aH Qi λN d=>?_
 have b:dE EK.ptr (AV.ptr q 0) AV.dD=some false:=rfl;have a:=cK (xD p) (bB (λ_=>rfl) _);have c:=bc (L:=[.box [.aq] none]) h;simp only[F1,go_sem,simprocAttr,Qi,d,b,c,↓xF,a]
theorem ay1(lo:oN):D X0 (.fn (.func 43) [] []) [.ptr q 0] ⟨H,lo⟩=some (.ret (.int .i64 p.n) ⟨H,lo⟩):=by
 refine aH P4 λN c=>?_
 have a:dE EK.ptr (AV.ptr q 0) AV.dD=some false:=rfl;have b: (cg p)[0]?=some (.int .i64 p.n):=rfl;simp(disch:=omega) only[F1,go_sem,simprocAttr,P4,a,h,b]
end
section
variable{S:Type}{V:YV S}{b:Nat}
def MK(X:Ctx)(V:YV S)(b:Nat)(y:AV)(x:lA)(s:S)(Q:Bool->S->Prop):Prop:=
 ∀W,V.P s W->b<=W.length-> ∀lo,∃c s' a,D X y x ⟨W,lo⟩=some (.ret (.bool c) ⟨a,lo⟩)/\V.P s' a/\W.length<=a.length/\ (∀i,i<W.length-> ¬V.cE i->a[i]?=W[i]?)/\Q c s'
theorem ay2{X:Ctx}(hr: ∀s,V.row s=none)(q:b<=V.c){y:AV}{x:lA}{s:S}{Q:Bool->S->Prop}(h:Ig X V b y x s Q):MK X V b y x s Q:=by
 intro W f e lo;obtain⟨c,s',n,ak,m,l,a,_,k,g⟩:=h W f e lo;rcases k with⟨rfl,_⟩| ⟨j,p,o,_⟩
 ·exact⟨c,s',n,m,l,a.1,λi d hp=>a.2 i d hp (by grind),g⟩
 ·omega
structure fG(V:YV S)(W0:List ae)(s:S)(W:List ae):Prop where
 P:V.P s W
 len:W0.length<=W.length
 fr: ∀i,i<W0.length-> ¬V.cE i->W[i]?=W0[i]?
variable(hV:V.Ok)(hr: ∀s,V.row s=none)(hp: ∀i,V.cE i->i<b)
include hV hr hp
theorem fG.cut{W c:List ae}{s:S}(g:b<=W0.length)(h:fG V W0 s W)(f:W0.length<=c.length)(d: ∀i,i<W0.length->c[i]?=W[i]?):fG V W0 s c:=
 ⟨hV.st _ _ _ h.P λi a=>(by grind),f,λi a e=>(d i a).trans (h.fr i a e)⟩
omit hV hr hp in
theorem fG.step{W a:List ae}{s s':S}(h:fG V W0 s W)(g:V.P s' a)(f:W.length<=a.length)(e: ∀i,i<W.length-> ¬V.cE i->a[i]?=W[i]?):fG V W0 s' a:=
 ⟨g,afY h.len f,λi d c=>by rw[e i (by have:=h.len;omega) c];exact h.fr i d c⟩
theorem ay3(hb:b<=W0.length){y:AV}{yb:Nat}(Y:W0[yb]?=some (.box [y] none))(K: ¬V.cE yb){t:AV}(L:Rv v 2 (l.map aA))(P:RB l){I:Nat->S->Prop}{J:S->Prop}{o:Nat}{s:S}
  (p: ∀j,j<l.length-> ∀i,i< (l.getD j default).2-> ∀s,I (o+aM (l.take j)+i) s->MK XC V b y [.int .i64 ((l.getD j default).1+i:Nat),t] s (λc s'=>if c=true then I (o+aM (l.take j)+i+1) s' else J s'))
  (hP:V.P s W0) (h0:I o s) (lo:oN):
  ∃c s' m,D XC (.fn (.func 77) [] [.ptr yb 0]) [v,t] ⟨W0,lo⟩=some (.ret (.bool c) ⟨m,lo⟩)/\fG V W0 s' m/\m.length=W0.length/\ (if c=true then I (o+aM l) s' else J s'):=by
 suffices h: ∃E,D XC (.fn (.func 77) [] [.ptr yb 0]) [v,t] ⟨W0,lo⟩=some E/\
   (λE=> ∃c s' m,E=aX.ret (.bool c) ⟨m,lo⟩/\fG V W0 s' m/\m.length=W0.length/\ (if c=true then I (o+aM l) s' else J s')) E by
  obtain⟨E,h1,c,s',m,rfl,q⟩:=h;exact⟨c,s',m,h1,q⟩
 refine s8 Qh rfl rfl rfl λN hN=>?_
 have Dy:=dU Y;have fin: ∀ {W:List ae} {s:S} {c:Bool},fG V W0 s W->finish N lo (.bool c) ⟨W,none⟩=(.bool c,⟨W.take N,lo⟩)/\fG V W0 s (W.take N)/\ (W.take N).length=W0.length:=λ {W s c} Q=>by
  have P:=Q.len;refine⟨oF rfl,Q.cut hV hr hp hb (by rw[afT];omega) (λi Z=>afV (by omega)),by rw[afT];omega⟩
 simp only[go_sem,simprocAttr,Qh,L.bN];refine dP l.length (λk e W=> ∃s',I (o+aM (l.take k)) s'/\fG V W0 s' W/\e 1=t/\e 2= .ptr yb 0/\e 9=v/\e 10= .int .i64 l.length/\e 11= .int .i64 k) 0 (by omega) ?_ ?_
 ·simp only[go_sem,simprocAttr];exact⟨s,by simpa[aM]using h0,⟨hP,aen _,λ_ _ _=>rfl⟩⟩
 rintro k Q e W1 ⟨s1,R,x,e1,G,A,f,d⟩ n hn;simp only[bQ,F1,go_sem,simprocAttr,aeT,A,f,d];refine⟨λh=>?_,λh=>?_⟩
 rotate_left
 ·obtain rfl:k=l.length:=by omega
  rw[afH]at R;obtain⟨f1,f2,f3⟩:=fin (c:=true) x;exact⟨_,_,_,rfl,f2,f3,R⟩
 have g:k<l.length:=by omega
 have uO:=P.2 _ (eo g);have O:=Ls g;have p:=p k g;generalize M:l.getD k default=r at*;have Ll:N<=n:=by have:=x.len;omega
 simp(disch:=omega) only[go_sem,simprocAttr,L.ca,L.cD,h,hn,M];refine dP r.2 (λi e W=> ∃s',I (o+aM (l.take k)+i) s'/\fG V W0 s' W/\W[n]?=some (.box (aA r) none)/\e 1=t/\e 2= .ptr yb 0/\e 7= .ptr n 0/\e 9=v/\e 10= .int .i64 l.length/\e 11= .int .i64 k/\e 16= .int .i64 r.2/\e 17= .int .i64 i) 0 (by omega) ?_ ?_
 ·simp(disch:=omega) only[go_sem,simprocAttr,e1,G,A,f,d];exact⟨s1,R,x.cut hV hr hp hb (by have:=x.len;rw[aem];omega) λi Z=>ac7 (by have:=x.len;omega)⟩
 rintro i Z e W2 ⟨s2,z,a,F,e1,G,e7,A,f,d,C,B⟩ n2 hn2;simp only[bQ,go_sem,simprocAttr,aeS,e1,G,A,f,d,C,B];refine⟨λh2=>?_,λh2=>?_⟩
 rotate_left
 ·obtain rfl:i=r.2:=by omega
  have:=P.1;exact⟨g,s2,by rw[O,<-aku];exact z,a,ag9 _ (wrap_i64 (by omega) (by omega))⟩
 have u:i<r.2:=by omega
 obtain⟨c,s3,W3,H,p2,p3,X,U⟩:=p i u s2 z W2 a.P (by have:=a.len;omega) none;have w:=a.step p2 p3 X;have T:W2[yb]?=some (.box [y] none):=by rw[a.fr yb (by omega) K];exact Y
 have w3:W3[n]?=some (.box (aA r) none):=by rw[X n (dU F) (λq=>by have:=hp _ q;omega)];exact F
 have r0: (aA r)[0]?=some (.int .i64 r.1):=rfl;rw[amS]at H;cases c
 ·obtain⟨f1,f2,f3⟩:=fin (c:=false) w;simp(disch:=omega) only[go_sem,simprocAttr,e1,e7,T,F,H];exact⟨_,_,_,by rw[f1],f2,f3,U⟩
 ·simp(disch:=omega) only[go_sem,simprocAttr,e1,G,e7,A,f,d,C,B,T,F,H];exact⟨u,s3,U,w,w3⟩
end
def iK(l:List aD):lN:=l.flatMap gj
def alS(r:aD): (gj r).length=r.2:=by simp[gj]
theorem vO: ∀l:List aD,(iK l).length=aM l
 | []=>rfl
 |r::l=>by
  show(gj r++iK l).length=r.2+aM l;rw[aem,alS,vO l]
def GB(a b:List aD):iK (a++b)=iK a++iK b:=al7
theorem U7[Inhabited α]{l:List α}(h:k<l.length):l.getD k default=l[k]:=by grind
def alT[Inhabited α]{l:List α}(h:k<l.length):l=l.take k++(l.getD k default::l.drop (k+1)):=by simp_all
def alU{j:Nat}(c:j<l.length)(a:i< (l.getD j default).2): (iK l)[aM (l.take j)+i]?=some ((l.getD j default).1+i):=by
 have d:=ag9 iK (alT c);rw[d,GB];generalize l.getD j default=r at*;rw[afN (by rw[vO];omega),vO,ahy];show(gj r++iK (l.drop (j+1)))[i]?=_;rw[ac7 (by rw[alS];exact a)];simp[gj,a]
def alV{β:Type}[Inhabited α]{l:List α}(f:α->List β)(h:k<l.length): (l.take (k+1)).flatMap f=(l.take k).flatMap f++f (l.getD k default):=by
 rw[afP,adR h,U7 h,al7];simp
theorem alW{β:Type}[Inhabited α]{l:List α}(f:α->List β)(h:k<l.length):l.flatMap f=(l.take k).flatMap f++(f (l.getD k default)++(l.drop (k+1)).flatMap f):=by
 have a:=ag9 (List.flatMap f) (alT h)
 grind
def jO(m:aS)(t:Nat):aD:=match ns m t with|some c=>c.run|none=>(0,0)
def nK(m:aS)(h:Nat):List aD:=(aN m.ai.S.T h).1.runs
def pF(P i:Nat)(k:Nat):lA:=[.int .i64 k,.ptr P i]
def cY(m:aS):List (Nat×Nat):=
 (iK m.ai.P.free).map (·,0)++((iK ((a0 m.ai.S.T.b).flatMap (nK m))).map (·,1)++((iK ((List.range 8).flatMap λt=>[jO m t])).map (·,2)++m.ai.Q.map (·,3)))
def rO(P:Nat)(m:aS):List lA:=(cY m).map λx=>pF P x.2 x.1
def ay4(P:Nat)(m:aS):rO P m=(iK m.ai.P.free).map (pF P 0)++((iK ((a0 m.ai.S.T.b).flatMap (nK m))).map (pF P 1)++((iK ((List.range 8).flatMap λt=>[jO m t])).map (pF P 2)++m.ai.Q.map (pF P 3))):=by
 unfold rO cY;simp only[afI,ayn];rfl
section
variable{S:Type}{V:YV S}{b:Nat}(hV:V.Ok)(hr: ∀s,V.row s=none)(hp: ∀i,V.cE i->i<b)
include hV hr hp
theorem U8(r:b<=W0.length){y:AV}{yb:Nat}(m:W0[yb]?=some (.box [y] none))(a: ¬V.cE yb){P c:Nat}(o:Rv v 2 (l.map aA))(p:RB l){I:Nat->S->Prop}{J:S->Prop}{s:S}
  {xs A B:List lA} (n:xs=A++((iK l).map (pF P c)++B))  (q:k=A.length)
  (d: ∀j x s,xs[j]?=some x->I j s->MK XC V b y x s (λc s'=>if c=true then I (j+1) s' else J s'))
  (t:V.P s W0) (w:I k s) (lo:oN):
  ∃g s' e,D XC (.fn (.func 77) [] [.ptr yb 0]) [v,.ptr P c] ⟨W0,lo⟩=some (.ret (.bool g) ⟨e,lo⟩)/\fG V W0 s' e/\e.length=W0.length/\ (if g=true then I (k+aM l) s' else J s'):=by
 refine ay3 hV hr hp r m a o p (λj f i h s u=>?_) t w lo;refine d _ _ s ?_ u;rw[n,q,aku,afN (by omega),ahy,ac7,afW,alU f h]
 ·rfl
 ·have:=ac9.1 (alU f h)
  grind
end
section
set_option maxHeartbeats 2000000
theorem ay5{N:Nat}{H W:List ae}{ty:TypeId}(h:aT N H v sz ty af)(e: ∀i,N<=i->i<H.length->W[i]?=H[i]?):aT N W v sz ty af:=by
 refine⟨h.1,?_⟩;rcases h.2 with q| ⟨id,aj,d,b,a⟩
 ·grind
 grind
def alX(a b:List aD):aM (a++b)=aM a+aM b:=by unfold aM;simp
def ay6{x:Core}:Den.part true 96 (bP x q qv) 0=some (.agg (bX x.S.T.b)):=by
 unfold bP;rw[l7 (by rw[ee];omega) (by omega)];unfold bo;rw[l7 (by rw[iv];omega) (by omega)];exact SG
def ay7{x:Core}:Den.part true 480 (bP x q qv) 0=some (.agg (aO x.S.T)):=by
 unfold bP;rw[l7 (by rw[ee];omega) (by omega)];exact wY
section
variable{n M p q:Nat}{m:aS}{qv ev cv:AV}{aF aQ:Nat->AV}{H:List ae}(ha:bH n M p q m qv ev aF aQ H)(hm:de m)(GC: ∀i,(m.aC i).c.aY.length<1073741824)(GD:Rv cv 1 (m.ai.Q.map fS))(hQl:m.ai.Q.length<1073741824)
include ha hm GC GD hQl
theorem ay9{S:Type}{V:YV S}{b:Nat}(hV:V.Ok)(hr: ∀s,V.row s=none)(hc:b<=V.c)(alY: ∀s W,V.P s W-> ∃R,W=H++R)(a P:Nat):
  O0 XC V b (.fn (.func 76) [] [.ptr (a+2) 0,.ptr (a+1) 0,.ptr a 0]) a [.box [.ptr M 0] none,.box [.ptr P 0] none,.box (bP m.ai q cv) none] (rO P m):=by
 intro yi I J FU F W s hP h0 wu aDf hG lo;obtain⟨y,hy⟩: ∃y,y=AV.fn (.yield yi) [] []:=⟨_,rfl⟩;rw[<-hy]at F⊢;have hp: ∀i,V.cE i->i<b:=λi r=>(FU i r).1
 have F: ∀j x s,(rO P m)[j]?=some x->I j s->MK XC V b y x s (λc s'=>if c=true then I (j+1) s' else J s'):=λj x s h1 h2=>ay2 hr hc (F j x s h1 h2)
 suffices h: ∃cr,D XC (.fn (.func 76) [] [.ptr (a+2) 0,.ptr (a+1) 0,.ptr a 0]) [y] ⟨W,lo⟩=some cr/\
   (λcr=> ∃s' d,cr=aX.ret (.ay []) ⟨d,lo⟩/\fG V W s' d/\ (I (rO P m).length s'\/J s')) cr by
  obtain⟨cr,h1,s',d,rfl,q1,q2⟩:=h;exact⟨s',d,lo,h1,q1.P,q2,by have:=q1.len;omega,λi r hq _=>q1.fr i (by omega) hq,.inl ⟨rfl,hr s'⟩⟩
 have Mp: ∀E,nV E y none=some (.ptr E.heap.length 0,E.push (.box [y] none)):=λE=>by rw[hy];rfl
 refine s8 JV rfl rfl rfl λN hN=>?_
 obtain rfl:N=b:=by omega
 have g0:W[a]?=some (.box [.ptr M 0] none):=hG 0 (by simp);have g1:W[a+1]?=some (.box [.ptr P 0] none):=hG 1 (by simp);have g2:W[a+2]?=some (.box (bP m.ai q cv) none):=hG 2 (by simp);have np: ∀j,j<3-> ¬V.cE (a+j):=λj hj h=>(FU _ h).2 ⟨by omega,by simp;omega⟩
 have Y:=ay4 P m;have w0: ∀L,(W++L)[a]?=some (.box [.ptr M 0] none):=λL=>bc g0
 have w1: ∀L,(W++L)[a+1]?=some (.box [.ptr P 0] none):=λL=>bc g1
 have w2: ∀L,(W++L)[a+2]?=some (.box (bP m.ai q cv) none):=λL=>bc g2
 obtain⟨R,hR⟩:=alY s W hP;have Dc:=c0 (ay0 (H:=W++[.box [y] none]) (by rw[hR,adW];exact(ha.app _).co.ia) none);obtain⟨fv,f1,f2⟩:=ayZ (xD m.ai.P) hm.ai.P.free.ok.1 (W++[.box [y] none]) none;have f1:=c0 f1;have GF: ¬V.cE N:=λh=>by have:=hp _ h;omega
 have down: ∀ {w:List ae} {s':S} {d:List ae},N<=w.length->(∀i,i<N-> ¬V.cE i->w[i]?=W[i]?)->fG V w s' d->fG V W s' d:=λ {w s' d} h1 h2 h=>⟨h.P,by have:=h.len;omega,λi r hq=>(h.fr i (by omega) hq).trans (h2 i (by omega) hq)⟩
 have fin: ∀ {s':S} {d:List ae},fG V W s' d->finish N lo (.ay []) ⟨d,none⟩=(.ay [],⟨d.take N,lo⟩)/\fG V W s' (d.take N):=λ {s' d} hk=>by
  have hl:=hk.len;exact⟨oF rfl,hk.cut hV hr hp (by omega) (by rw[afT];omega) (λi r=>afV (by omega))⟩
 have Wi: ∀ {L:List ae},∀i,i<N-> ¬V.cE i->(W++L)[i]?=W[i]?:=λi r _=>ac7 (by omega)
 have DN:V.P s (W++[.box [y] none]):=hV.st _ _ _ hP λi r=>by
  rcases r with r|r
  ·exact ac7 (by have:=hp i r;omega)
  ·rw[hr]at r;cases r
 have v5:RB m.ai.P.free:=⟨by have:=hm.ai.P.free.ok.1;omega,λx Y=>by have:=(hm.ai.P.free.bd x Y).2;omega⟩;have wa: (W++[.box [y] none])[N]?=some (.box [y] none):=by rw[dv hN];rfl
 obtain⟨c,s1,W1,a1,a2,a3,a4⟩:=U8 (J:=J) hV hr hp (W0:=W++[.box [y] none]) (by simp;omega) (y:=y) (yb:=N) wa GF (P:=P) (c:=0) f2 v5 (A:=[]) Y rfl F DN h0 none;have k1:fG V W s1 W1:=down (by simp;omega) Wi a2;cases c
 ·obtain⟨e1,Z⟩:=fin k1;simp(disch:=omega) only[go_sem,simprocAttr,JV,hN,Mp,w1,w2,Gg,Dc,f1,a1];rw[e1];exact⟨_,_,rfl,Z,.inr a4⟩
 have v2:W1[a+2]?=some (.box (bP m.ai q cv) none):=by rw[k1.fr _ (by have:=dU g2;omega) (np 2 (by omega))];exact g2
 have Ba:W1.length=N+1:=by rw[a3];simp;omega
 obtain⟨v,L,i1,i2⟩:=Ln m.ai.S.T.b hm.ai.S.T.b (N+1) W1 Ba none;have i1':D X (.fn (.func 19) [] []) [.agg (bX m.ai.S.T.b)] ⟨W1,none⟩=some _:=qa (p:=mg) rfl i1;have i1:=cX i1';have O:=(jJ i2 none).bN;have hlb:96<=(bP m.ai q cv).length:=by rw[Ak];omega
 have hb:=ay6 (x:=m.ai) (q:=q) (qv:=cv);simp(disch:=omega) only[go_sem,simprocAttr,JV,hN,Mp,w1,w2,Gg,Dc,f1,a1,v2,↓hb,i1,O];obtain⟨w,T⟩: ∃w,w=W1++L:=⟨_,rfl⟩;have hBl:N+1<=w.length:=by rw[T,aem];omega
 have MM: ∀i,i<N-> ¬V.cE i->w[i]?=W[i]?:=λi r hq=>by rw[T,ac7 (by omega)];exact k1.fr i (by omega) hq
 have hBy:w[N]?=some (.box [y] none):=by rw[T,ac7 (by omega),a2.fr N (by simp;omega) GF];exact wa
 have kB:fG V w s1 w:=by
  refine⟨hV.st _ _ _ a2.P λi r=>?_,aen _,λ_ _ _=>rfl⟩;rcases r with r|r
  ·rw[T];exact ac7 (by have:=hp i r;omega)
  ·rw[hr]at r;cases r
 rw[<-T];rw[<-T]at i2;clear O i1 i1' a1 Dc f1 hb;have facts: ∀ {s':S} {d:List ae},fG V w s' d->d[N]?=some (.box [y] none)/\d[a]?=some (.box [.ptr M 0] none)/\d[a+1]?=some (.box [.ptr P 0] none)/\d[a+2]?=some (.box (bP m.ai q cv) none)/\N+1<=d.length/\ (∃R,d=H++R)/\aT (N+1+1) d v 1 cb ((a0 m.ai.S.T.b).map hC):=λ {s' d} h=>by
  have hl:=h.len;have l2:=dU g2;refine⟨?_,?_,?_,?_,by omega,alY _ _ h.P,ay5 i2 λi h1 h2=>h.fr i h2 λhq=>by have:=hp i hq;omega⟩
  ·rw[h.fr N (by omega) GF];exact hBy
  ·rw[h.fr a (by omega) (np 0 (by omega)),MM a (by omega) (np 0 (by omega))];exact g0
  ·rw[h.fr _ (by omega) (np 1 (by omega)),MM _ (by omega) (np 1 (by omega))];exact g1
  ·rw[h.fr _ (by omega) (np 2 (by omega)),MM _ (by omega) (np 2 (by omega))];exact g2
 have Q: ∀ {s':S} {d:List ae},fG V w s' d->finish N lo (.ay []) ⟨d,none⟩=(.ay [],⟨d.take N,lo⟩)/\fG V W s' (d.take N):=λ {s' d} hk=>fin (down (by omega) MM hk)
 have push: ∀ {s':S} {d:List ae} (o:ae),fG V w s' d->V.P s' (d++[o]):=λ {s' d} o h=>hV.st _ _ _ h.P λi r=>by
  rcases r with r|r
  ·exact ac7 (by have:=hp i r;have:=h.len;omega)
  ·rw[hr]at r;cases r
 have bk: ∀ {s' s2:S} {d C:List ae} {o:ae},fG V w s' d->fG V (d++[o]) s2 C->fG V w s2 C:=λ {s' s2 d C o} h h2=>⟨h2.P,by have:=h.len;have:=h2.len;simp at this;omega,λi r hq=>by
  have:=h.len;rw[h2.fr i (by simp;omega) hq,ac7 (by omega)];exact h.fr i r hq⟩
 obtain⟨l,hl⟩: ∃l,l=a0 m.ai.S.T.b:=⟨_,rfl⟩;rw[<-hl]at Y i2 facts⊢;obtain⟨U,MN⟩: ∃U,U=List.range 8:=⟨_,rfl⟩;rw[<-MN]at Y;have Lg:l.length<=32:=by rw[hl];exact kr _
 refine dP l.length (λk e d=> ∃s',I (aM m.ai.P.free+aM ((l.take k).flatMap (nK m))) s'/\fG V w s' d/\e 1= .ptr (a+2) 0/\e 2= .ptr (a+1) 0/\e 3= .ptr a 0/\e 4= .ptr N 0/\e 5= .fn (.func 77) [] [.ptr N 0]/\e 31=v/\e 32= .int .i64 l.length/\e 33= .int .i64 k) 0 (by omega) ?_ ?_
 ·simp(disch:=omega) only[go_sem,simprocAttr];exact⟨s1,by simpa[aM]using a4,kB⟩
 rintro k hk e C ⟨s2,u,G,e1,Z,e3,e4,e5,e31,e32,e33⟩ n2 z;obtain⟨u0,u1,u2,u3,u4,⟨R2,u5⟩,u6⟩:=facts G;simp(disch:=omega) only[bQ,go_sem,simprocAttr,aeR,e31,e32,e33];refine⟨λh=>?_,λh=>?_⟩
 ·have f:k<l.length:=by omega
  have lR:Rd ⟨C,none⟩ v 1 (l.map hC):=jJ u6 none;have hL:=lR.cD (X:=XC) (off:=0) (n:=1) (agg:=false) f;rw[pH]at hL;have gy:l.getD k default∈a0 m.ai.S.T.b:=by rw[<-hl];exact eo f
  have gy:=(fO hm.ai.S.T.b).1 gy;have MO:=alV (nK m) f;have MQ:=alW (nK m) f;generalize l.getD k default=h at*;have hh:=fC gy;have Ic:=c0 (s6 m.ai.S.T hm.ai.S.T h hh C none);have hro:=hm.ai.S.T.get h;obtain⟨c,s3,W3,b1,b2,b3,b4⟩:=U8 (J:=J) hV hr hp (W0:=C++[.box (bR (aN m.ai.S.T h).1) none]) (by simp;omega) (y:=y) (yb:=N) (bc u0) GF (P:=P) (c:=1) (l:=nK m h) (v:=ed (aN m.ai.S.T h).1.runs) (mG _) hro.rb.1
   (A:=(iK m.ai.P.free).map (pF P 0)++(iK ((l.take k).flatMap (nK m))).map (pF P 1)) (B:=(iK ((l.drop (k+1)).flatMap (nK m))).map (pF P 1)++((iK (U.flatMap λt=>[jO m t])).map (pF P 2)++m.ai.Q.map (pF P 3)))
   (by rw[Y,MQ,GB,GB];simp only[afI,adW]) (by simp only[aem,aer,vO]) F (push _ G) u none
  have k3:=bk G b2;have hT:=ay7 (x:=m.ai) (q:=q) (qv:=cv);have r2: (bR (aN m.ai.S.T h).1)[2]?=some (ed (aN m.ai.S.T h).1.runs):=rfl;have v1: (C++[.box (bR (aN m.ai.S.T h).1) none])[a+1]?=some (.box [.ptr P 0] none):=bc u2;cases c
  ·obtain⟨q1,q2⟩:=Q k3;simp(disch:=omega) only[go_sem,simprocAttr,e1,Z,e5,z,lR.ca,hL,u3,↓hT,Ic,me,jI,v1,b1];exact⟨by omega,by rw[q1];exact⟨_,_,rfl,q2,.inr b4⟩⟩
  simp(disch:=omega) only[go_sem,simprocAttr,e1,Z,e3,e4,e5,e31,e32,e33,z,lR.ca,hL,u3,↓hT,Ic,me,jI,v1,b1];refine⟨by omega,f,s3,?_,k3⟩;rw[MO,alX,<-aku];exact b4
 obtain rfl:k=l.length:=by omega
 rw[afH]at u;clear u0 u1 u2 u3 u4 u5 u6;refine dP 8 (λk e d=> ∃s',I (aM m.ai.P.free+aM (l.flatMap (nK m))+aM ((U.take k).flatMap λt=>[jO m t])) s'/\fG V w s' d/\e 1= .ptr (a+2) 0/\e 2= .ptr (a+1) 0/\e 3= .ptr a 0/\e 4= .ptr N 0/\e 5= .fn (.func 77) [] [.ptr N 0]/\e 56= .int .i64 k) 0 (by omega) ?_ ?_
 ·simp(disch:=omega) only[go_sem,simprocAttr,e1,Z,e3,e4,e5];exact⟨s2,by simpa[aM]using u,G⟩
 rintro k hk e C ⟨s2,u,G,e1,Z,e3,e4,e5,e56⟩ n2 z;obtain⟨u0,u1,u2,u3,u4,⟨R2,u5⟩,u6⟩:=facts G;simp(disch:=omega) only[bQ,go_sem,simprocAttr,aeQ,e1,e3,e56];refine⟨λh=>?_,λh=>?_⟩
 ·have f:k<U.length:=by rw[MN];simp;omega
  have MO:=alV (λt=>[jO m t]) f;have MQ:=alW (λt=>[jO m t]) f;have hgk:U.getD k default=k:=by rw[U7 f];simp[MN]
  rw[hgk]at MO MQ;obtain⟨rv,c1,c2⟩:=alM (H:=C) (by rw[u5];exact ha.app _) GC k none;obtain⟨cl,lQ,K⟩: ∃cl,(∃b,oO m k rv= .ay [.agg cl,.bool b])/\cl.length=12/\Den.part true 2 cl 9=some (.agg (aA (jO m k)))/\aK [(.int .i64 0),(.int .u8 0),(.int .u32 0),(.int .u32 0),(.int .u32 0),(.int .u32 0),(.int .u64 0),(.bool false),.aq,(.int .i64 0),(.int .i64 0),(.int .i64 0)] 0 cl=cl/\aI cl=0:=by
   unfold oO jO;cases hmu:ns m k with
   |none=>exact⟨_,⟨_,rfl⟩,rfl,rfl,rfl,rfl⟩
   |some c=>exact⟨_,⟨_,rfl⟩,rfl,rfl,rfl,by rw[U2];exact cK (c2 c hmu) (bB (λ_=>rfl) _)⟩
  obtain⟨⟨b0,hu⟩,al4,K,LC,H8⟩:=And.intro lQ K;have hur: (jO m k).1<65536/\ (jO m k).2<65536:=by
   unfold jO ns;split
   ·rename_i c hc;split at hc
    ·cases hc;exact(hm.c k).run
    ·cases hc
   ·decide
  have Mg: ∀g,Rv (.sl [aA (jO m k)] g) 2 ([jO m k].map aA):=λg=>.sl (by intro el h;simp at h;subst h;rfl)
  obtain⟨c,s3,W3,b1,b2,b3,b4⟩:=U8 (J:=J) hV hr hp (W0:=C++[.box cl none]) (by simp;omega) (y:=y) (yb:=N) (bc u0) GF (P:=P) (c:=2) (l:=[jO m k]) (Mg true) ⟨by simp,λx Y=>by simp at Y;subst Y;omega⟩
   (A:=(iK m.ai.P.free).map (pF P 0)++((iK (l.flatMap (nK m))).map (pF P 1)++(iK ((U.take k).flatMap λt=>[jO m t])).map (pF P 2))) (B:=(iK ((U.drop (k+1)).flatMap λt=>[jO m t])).map (pF P 2)++m.ai.Q.map (pF P 3))
   (by rw[Y,MQ,GB,GB];simp only[afI,adW]) (by simp only[aem,aer,vO,aku]) F (push _ G) u none
  have k3:=bk G b2;have v1: (C++[.box cl none])[a+1]?=some (.box [.ptr P 0] none):=bc u2;rw[hu]at c1;cases c
  ·obtain⟨q1,q2⟩:=Q k3;simp(disch:=omega) only[go_sem,simprocAttr,Z,e5,z,u1,c1,LC,al4,H8,v1,↓K,b1];rw[q1];exact⟨_,_,rfl,q2,.inr b4⟩
  simp(disch:=omega) only[go_sem,simprocAttr,e1,Z,e3,e4,e5,e56,z,u1,c1,LC,al4,H8,v1,↓K,b1];refine⟨by omega,s3,?_,k3⟩;rw[MO,alX,<-aku];exact b4
 obtain rfl:k=8:=by omega
 rw[show U.take 8=U by rw[MN];rfl]at u;clear u0 u1 u2 u4 u5 u6;simp(disch:=omega) only[go_sem,simprocAttr,u3,Ur,GD.bN];refine dP m.ai.Q.length (λk e d=> ∃s',I (aM m.ai.P.free+aM (l.flatMap (nK m))+aM (U.flatMap λt=>[jO m t])+k) s'/\fG V w s' d/\e 1= .ptr (a+2) 0/\e 2= .ptr (a+1) 0/\e 3= .ptr a 0/\e 4= .ptr N 0/\e 76=cv/\e 77= .int .i64 m.ai.Q.length/\e 78= .int .i64 k) 0 (by omega) ?_ ?_
 ·simp(disch:=omega) only[go_sem,simprocAttr,e1,Z,e3,e4];exact⟨s2,u,G⟩
 rintro k hk e C ⟨s2,u,G,e1,Z,e3,e4,e76,e77,e78⟩ n2 z;obtain⟨u0,u1,u2,u3,u4,⟨R2,u5⟩,u6⟩:=facts G;simp(disch:=omega) only[bQ,F1,go_sem,simprocAttr,aeP,e76,e77,e78];refine⟨λh=>?_,λh=>?_⟩
 ·have f:k<m.ai.Q.length:=by omega
  have hq1: (rO P m)[aM m.ai.P.free+aM (l.flatMap (nK m))+aM (U.flatMap λt=>[jO m t])+k]?=some (pF P 3 (m.ai.Q.getD k default)):=by
   rw[Y,<-adW,<-adW,afN (by simp only[aem,aer,vO];omega)];simp only[aem,aer,vO,ahy,afW];rw[adR f,U7 f];rfl
  have hL:=GD.cD (X:=XC) (E:=⟨C,none⟩) (off:=0) (n:=1) (agg:=false) f;have pq: ∀x:Nat,Den.part false 1 (fS x) 0=some (.int .i64 x):=λ_=>rfl
  rw[pq]at hL;have hQi:m.ai.Q.getD k default<2147483648:=hm.ai.Q _ (eo f);generalize m.ai.Q.getD k default=pg at*;obtain⟨c,s3,W3,b1,b2,b3,b4,b5⟩:=F _ _ s2 hq1 u C G.P (by omega) none;have b1:D XC y [.int .i64 pg,.ptr P 3] ⟨C,none⟩=_:=b1;have k3:=G.step b2 b3 b4;cases c
  ·obtain⟨q1,q2⟩:=Q k3;simp(disch:=omega) only[go_sem,simprocAttr,Z,e4,GD.ca,hL,z,u0,u2,b1];exact⟨by omega,by rw[q1];exact⟨_,_,rfl,q2,.inr b5⟩⟩
  simp(disch:=omega) only[go_sem,simprocAttr,e1,Z,e3,e4,e76,e77,e78,GD.ca,hL,z,u0,u2,b1];exact⟨by omega,f,s3,b5,k3⟩
 obtain rfl:k=m.ai.Q.length:=by omega
 obtain⟨q1,q2⟩:=Q G;refine⟨_,_,rfl,q2,.inl ?_⟩;have: (rO P m).length=aM m.ai.P.free+aM (l.flatMap (nK m))+aM (U.flatMap λt=>[jO m t])+m.ai.Q.length:=by
  rw[Y];simp only[aem,aer,vO];omega
 rw[this];exact u
end
end
def xM(m:aS):Nat:=aM m.ai.P.free
def xN(m:aS):Nat:=aM ((a0 m.ai.S.T.b).flatMap (nK m))
def xO(m:aS):Nat:=aM ((List.range 8).flatMap λt=>[jO m t])
section
set_option maxHeartbeats 2000000
section
variable{n M p q:Nat}{m:aS}{qv ev:AV}{aF aQ:Nat->AV}{H:List ae}(ha:bH n M p q m qv ev aF aQ H)(hQ:m.ai.Q.length<1073741824)
include ha hQ
theorem azf(P:Nat)(i:P<H.length)(K:Nat)(k:H.length=K)(lo:oN): ∃cv,Rv cv 1 (m.ai.Q.map fS)/\D XC (.fn (.func 42) [] []) [.ptr M 0,.ptr P 0] ⟨H,lo⟩=some (.ret (.fn (.func 76) [] [.ptr (K+2) 0,.ptr (K+1) 0,.ptr K 0]) ⟨H++[.box [.ptr M 0] none,.box [.ptr P 0] none,.box (bP m.ai q cv) none],lo⟩):=by
 obtain⟨cv,f,b⟩:=MH (ha.app [.box [.ptr M 0] none,.box [.ptr P 0] none]) hQ none;refine⟨cv,b,?_⟩;refine aH P3 λN e=>?_
 obtain rfl:K=N:=by omega
 have j:=ha.lt;have a:kg.length=1274:=by rw[ME,aem,ee,aem,aem,ep];rfl
 have c:aK kg 0 (bP m.ai q cv)=bP m.ai q cv:=ko (by rw[a,Ak]);have d:aI (bP m.ai q cv)<=K+2:=by
  rw[Un];have:=cK b (bB (λ_=>rfl) _);have:=ha.co.qp;have:=ha.co.lt;omega
 have h: ∀E:AS,nV E (.ptr M 0) none=some (.ptr E.heap.length 0,E.push (.box [.ptr M 0] none)):=λ_=>rfl
 have g: ∀E:AS,nV E (.ptr P 0) none=some (.ptr E.heap.length 0,E.push (.box [.ptr P 0] none)):=λ_=>rfl
 simp only[go_sem,simprocAttr,P3,e,h,g,f,c,a,Ak];rw[adV (by omega),zU (by omega)]
end
def cI(L:List (Nat×Nat))(i:Nat):Nat:=L.countP λx=>x.2==i
theorem azg(L:List (Nat×Nat))(x:Nat×Nat)(i:Nat):cI (L++[x]) i=cI L i+if x.2=i then 1 else 0:=by
 unfold cI
 grind
def sI(L:List (Nat×Nat))(k:Nat):Bool:=decide (k∈L.map (·.1))
theorem azh(L:List (Nat×Nat))(x:Nat×Nat):sI (L++[x])=av (sI L) x.1 true:=by
 unfold sI av
 grind
def fh(L:List (Nat×Nat)):lA:=[.int .i64 (cI L 0),.int .i64 (cI L 1),.int .i64 (cI L 2),.int .i64 (cI L 3)]
def xP(f:Nat->Bool):lA:=arr 64 λk=>[.bool (f k)]
def azi{f:Nat->Bool}(h:k<64):Den.part false 1 (xP f) k=some (.bool (f k)):=by
 have:=jF (ag:=false) (m:=1) (n:=64) (k:=1) (i:=k) (o:=0) (f:=λi=>[AV.bool (f i)]) (λ_=>rfl) h (by omega) (by omega);rw[show k*1+0=k by omega]at this;exact this
def azj{f:Nat->Bool}(h:k<64):aK (xP f) k [.bool true]=xP (av f k true):=by
 have:=l8 (n:=64) (k:=1) (i:=k) (o:=0) (vs:=[AV.bool true]) (f:=λi=>[AV.bool (f i)]) (λ_=>rfl) h (by simp);rw[show k*1+0=k by omega]at this;unfold xP;rw[this];exact ag9 (arr 64) (ou (λv:Bool=>[AV.bool v]) f k true).symm
theorem azk(f:Nat->Bool): (xP f).length=64:=by rfl
def GG{L:List (Nat×Nat)}(h:i<4): (fh L)[i]?=some (.int .i64 (cI L i)):=by
 rcases(show i=0\/i=1\/i=2\/i=3 by omega)with rfl|rfl|rfl|rfl<;>rfl
def azl{L:List (Nat×Nat)}(h:i<4):aK (fh L) i [.int .i64 ((cI L i:Nat)+1:Int)]=fh (L++[(k,i)]):=by
 unfold fh;rcases(show i=0\/i=1\/i=2\/i=3 by omega)with rfl|rfl|rfl|rfl<;>simp[azg,aK]
theorem azm{x:Nat×Nat}(h:x∈cY m):x.2<4:=by
 unfold cY at h
 grind
theorem azn(m:aS):cI (cY m) 0=xM m/\cI (cY m) 1=xN m/\cI (cY m) 2=xO m/\cI (cY m) 3=m.ai.Q.length:=by
 unfold cI cY xM xN xO;simp only[List.countP_append,List.countP_map,<-vO];have key: ∀ (i j:Nat) (l:lN),List.countP ((λx:Nat×Nat=>x.2==j) ∘ λk=>(k,i)) l=if i=j then l.length else 0:=by
  intro i j l
  induction l with
  |nil=>simp
  |cons a l b=>grind
 simp_all
end
def fi(t:aw)(h:Nat):Bool:=t.au h&&decide (bn t h=0)
def GH(o:bI)(h:Nat):Ow:=if(o (aP h)).root=h then(o (aP h)).own else vl
def Kf(s:bu)(h:Nat):Option Ow:=if fi s.T h=true then some (GH s.O h)else none
def U9{h:Nat}:fi t h=true↔t.au h=true/\bn t h=0:=by unfold fi;simp
theorem MR{h:Nat}(a:t.au h=false):fi t h=false:=by unfold fi;grind
theorem azo(t:aw):fi t 0=false:=by rfl
theorem MS(a:bY t){h:Nat}(b:t.au h=true):root t h=h↔bn t h=0:=by
 unfold root;rw[adV b];constructor
 ·intro e;refine ahi λhu=>?_
  have hm:h∈aU t h:=by
   have c:=mh a hu
   grind
  have:=z9 a _ h (aen _) hm;omega
 ·intro hu;rw[oy a,adV hu];rfl
def al8{s:bu}(c:bf s){h:Nat}(a:s.T.au h=true)(b:root s.T h=h):Kf s h=some (bt s.O s.T h):=by
 unfold Kf;rw[adV (U9.2 ⟨a,(MS c.tr a).1 b⟩)];unfold bt GH;rw[b,(vm (show au s.T.b h=true from a)).1]
structure KP(s s':bu)(h:Nat)(o:Option Ow):Prop where
 k: ∀z,Kf s' z=if z=h then o else Kf s z
 al:s'.alive=s.alive
 bx:s'.cw=s.cw
theorem KP.trans{a b c:bu}{h:Nat}{o p:Option Ow}(e:KP a b h o)(d:KP b c h p):KP a c h p:=
 ⟨λz=>by rw[d.k];split;rfl;rename_i q;rw[e.k,ada q],d.al.trans e.al,d.bx.trans e.bx⟩
theorem KP.of{s s':bu}{h:Nat}{b:Bool}(e: ∀z,fi s'.T z=if z=h then b else fi s.T z)(d:s'.O=s.O)(c:s'.alive=s.alive)(a:s'.cw=s.cw):KP s s' h (if b=true then some (GH s.O h)else none):=by
 refine⟨λz=>?_,c,a⟩;unfold Kf
 grind
def KP.same{s s':bu}(f: ∀z,fi s'.T z=fi s.T z)(d:s'.O=s.O)(c:s'.alive=s.alive)(a:s'.cw=s.cw):KP s s' 0 none:=
 KP.of (b:=false) (λz=>by rw[f];split;rename_i e;rw[e,azo];rfl) d c a
def Va{a:aw}(h:iG t a)(z:Nat):fi a z=fi t z:=by unfold fi;rw[h.au,h.bn]
theorem MT{s:bu}{x:Ow}(e: (eZ s.O s.T r aa x).2=0)(g:bY s.T):KP s {s with O:=(eZ s.O s.T r aa x).1} r (some x):=by
 unfold eZ at e⊢;split at e
 ·cases e
 rename_i i;split at e
 ·cases e
 rename_i b;split at e
 ·cases e
 rename_i h;rw[ada i,ada b,ada h];have a:s.T.au r=true:=by grind
 have d:root s.T r=r:=ahi λq=>b q
 have hu:fi s.T r=true:=U9.2 ⟨a,(MS g a).1 d⟩;refine⟨λz=>?_,rfl,rfl⟩;unfold Kf GH;by_cases e:z=r
 ·subst e;rw[adV hu,adV rfl];simp only[ch,af1]
 ·by_cases c:fi s.T z=true
  ·have j:=cF (f:=s.O) (x:=⟨r,x⟩) λq=>e (Cv (U9.1 c).1 a q)
   grind
  grind
theorem al9{h:Nat}(e: (jU t h a).2=0)(z:Nat):fi (jU t h a).1 z=if z=h then decide (a=0)else fi t z:=by
 unfold jU at e⊢;split at e
 ·cases e
 rename_i i;split at e
 ·cases e
 rename_i g;rw[ada i,ada g];have d:t.au h=true:=by grind
 have b: ∀r x,aw.au {t with r:=r} x=t.au x:=λ_ _=>rfl
 unfold fi bn iz;simp only[b];by_cases c:z=h
 ·subst c;rw[adV rfl,ch,d]
  grind
 ·rw[ada c];by_cases f:t.au z=true
  ·rw[cF λq=>c (Cv f d q)]
  grind
def azp{h:Nat}(e: (iU t h).2=0)(z:Nat):fi (iU t h).1 z=if z=h then true else fi t z:=by
 rw[LA]at e⊢;split at e
 ·cases e
 rename_i a;rw[ada a,al9 e,Va (Lz t h _ t)];rfl
theorem azq{h:Nat}(e: (ox t h a).2=0)(z:Nat):fi (ox t h a).1 z=if z=h then false else fi t z:=by
 unfold ox at e⊢;split at e
 ·cases e
 rename_i b;split at e
 ·cases e
 rename_i d;split at e
 ·cases e
 rename_i c;rw[ada b,ada d,ada c,al9 e];have hu:a≠0:=λq=>b (.inr (by rw[q];exact arV t.b))
 grind
theorem ama(u:dC t){up:Nat}(e: (fu t up n).2.2=0):fi t (fu t up n).2.1=false/\ ∀z,fi (fu t up n).1 z=if z=(fu t up n).2.1 then decide (up=0)else fi t z:=by
 unfold fu at e⊢;dsimp only at e⊢;split at e
 ·cases e
 rename_i s;rw[ada s];clear s;unfold lg at e⊢;split at e
 ·cases e
 rename_i v;split at e
 ·cases e
 rename_i y;rw[ada v,ada y];split at e
 ·rename_i i h
  try rfl
  dsimp only;obtain⟨i1,i2,i3,_⟩:=re h;have k:=u.ok.b;have a: ∀z,aw.au {b:=av t.b i {t.b i with ea:=true},r:=av t.r i {dq with up:=up,dn:=n}} z=true↔t.au z=true\/z=c7 i (t.b i).gen:=λz=>LR h k
  have p: ∀z,t.au z=true->aP z≠i:=by
   intro z c q;obtain⟨_,w,_⟩:=vm (show au t.b z=true from c)
   grind
  have o:aP (c7 i (t.b i).gen)=i:=B6 (KX i1 (k i).1);have hold: ∀z,mQ t.b z->aw.au {b:=av t.b i {t.b i with ea:=true},r:=av t.r i {dq with up:=up,dn:=n}} z=t.au z:=λz c=>by
   have: (aw.au {b:=av t.b i {t.b i with ea:=true},r:=av t.r i {dq with up:=up,dn:=n}} z=true)↔t.au z=true:=⟨λq=>by
    rcases(a z).1 q with q|q
    ·exact q
    ·rw[q]at c;exact absurd c (TT h k),λq=>(a z).2 (.inl q)⟩
   grind
  refine⟨MR (Cu h k),λz=>?_⟩;generalize m: ({b:=av t.b i {t.b i with ea:=true},r:=av t.r i {dq with up:=up,dn:=n}}:aw)=l at*;have d: ∀j,(l.r j).up=if j=i then up else(t.r j).up:=by
   intro j;rw[<-m];show(av t.r i _ j).up=_;by_cases e:j=i
   ·rw[e,ch,adV rfl]
   ·rw[cF e,ada e]
  by_cases g:z=c7 i (t.b i).gen
  ·rw[adV g];have f:l.au z=true:=(a z).2 (.inr g);unfold fi bn iz;rw[adV f,f,d,g,o,adV rfl];by_cases hu:up=0
   ·subst hu;simp
   ·have x:t.au up=true:=by
      cases q:t.au up with
      |true=>rfl
      |false=>exact absurd ⟨hu,q⟩ v
    rw[adV ((a up).2 (.inl x))];rfl
  ·rw[ada g];have e1:l.au z=t.au z:=amt.2 ⟨λq=>((a z).1 q).resolve_right g,λq=>(a z).2 (.inl q)⟩;unfold fi bn iz;rw[e1];by_cases f:t.au z=true
   ·rw[d,ada (p z f),hold _ (u.up (aP z))]
   ·have c:t.au z=false:=by simpa using f
    rw[c];rfl
 grind
theorem azr{y:Nat}(a:t.au y=true)(z:Nat): (iA t y).1.au z=(t.au z&&decide (z≠y)):=by
 unfold iA;rw[adV a];show au (dS t.b y).1 z=_;by_cases e:z=y
 ·subst e;obtain⟨b,_⟩:=vm (show au t.b z=true from a);have:au (dS t.b z).1 z=false:=by
   unfold au dS;rw[b,adV (show au t.b z=true from a)];refine adZ ?_;show av _ _ _ _≠_;rw[ch];unfold pT
   grind
  grind
 ·rw[ad0 e,auJ];exact amt.2 ⟨LS,λq=>aiY q a e⟩
theorem amb: ∀ (l:lN) (t:aw),l.Nodup->(∀y∈l,t.au y=true)-> ∀z,(gk t l).au z=(t.au z&&decide (z∉l))/\ (t.au z=true->z∉l->(gk t l).r (aP z)=t.r (aP z))
 | [],t,_,_,z=>⟨by simp[gk],λ_ _=>rfl⟩
 |y::l,t,e,f,z=>by
  obtain⟨h,c⟩:=asq.1 e;have b:=f y (ai4 ..);have i:=azr b;obtain⟨k,g⟩:=amb l (iA t y).1 c (λa j=>by grind) z;refine⟨?_,λd hm=>?_⟩
  ·show(gk (iA t y).1 l).au z=_
   grind
  ·have hm:=not_or.1 λq=>hm (ag6.2 q)
   show(gk (iA t y).1 l).r (aP z)=_;rw[g (by grind) hm.2];unfold iA;rw[adV b];exact cF λq=>hm.1 (Cv d b q)
theorem azs(a:dC t){h z:Nat}(b:bn t z≠0)(c:bn t z∈cP t h):z∈cP t h:=by
 refine TU a.ok.b a.tr _ h (aen _) ?_;rw[mh a.tr b];rcases Cy a.tr 32 h c with q|q
 ·grind
 grind
theorem azt(c:dC t)(h z:Nat):fi (iV t h).1 z=if z=h then false else fi t z:=by
 by_cases d:t.au h=true
 ·have b:under t h=cP t h:=by unfold under;rw[adV d];rfl
  have he: (iV t h).1=gk t (cP t h):=by
   unfold iV;rw[b,ada (arX h)];rfl
  rw[he];have f: ∀y∈cP t h,t.au y=true:=λy j=>zF c.ok.b d j
  have i:=amb (cP t h) t (aiX c.tr 32 h) f;obtain⟨d1,d2⟩:=i z;by_cases hm:z∈cP t h
  ·rw[MR (by grind)];split
   ·rfl
   ·rename_i k
    symm
    unfold fi;rcases Cy c.tr 32 h hm with q|q
    ·omega
    ·have:bn t z≠0:=λl=>by rw[oy c.tr,adV l]at q;cases q
     grind
  ·rw[ada λq=>hm (by rw[q];exact LU c.tr h)];have e1: (gk t (cP t h)).au z=t.au z:=by rw[d1];simp[hm]
   unfold fi bn iz;rw[e1];by_cases a:t.au z=true
   ·rw[d2 a hm,adV a,adV a];have m: (gk t (cP t h)).au (t.r (aP z)).up=t.au (t.r (aP z)).up:=by
     rw[(i _).1];cases g:t.au (t.r (aP z)).up with
     |false=>rfl
     |true=>
      have hu:bn t z=(t.r (aP z)).up:=by unfold bn iz;rw[adV a,adV g]
      have: (t.r (aP z)).up∉cP t h:=λq=>hm (azs c (by rw[hu];exact K4 g) (by rw[hu];exact q))
      simp[this]
    rw[m]
   ·have a:t.au z=false:=by simpa using a
    rw[a];rfl
 ·have b:under t h=[]:=by unfold under;rw[ada d]
  have he: (iV t h).1=t:=by unfold iV;rw[b];rfl
  rw[he];split
  ·rename_i e;rw[e];exact MR (by simpa using d)
  ·rfl
theorem amc: ∀ (l:lN) (x:aB),(l.foldl gi x).s.T=x.s.T/\ (l.foldl gi x).s.O=x.s.O/\ (l.foldl gi x).s.alive=x.s.alive/\ (l.foldl gi x).s.cw=x.s.cw
 | [],_=>⟨rfl,rfl,rfl,rfl⟩
 |a::l,x=>amc l (gi x a)
def Vb(a:bf x.s)(h:Nat):KP x.s (fP x h).s h none:=by
 obtain⟨f,e,d,c⟩:=amc (under x.s.T h) x;refine KP.of (b:=false) (λz=>?_) e d c;show fi (iV ((under x.s.T h).foldl gi x).s.T h).1 z=_;rw[f];exact azt a.dw h z
def MU{h t:Nat}(a:bf x.s)(e:mM x h t= .ok y):KP x.s y.s h (some ⟨1,t % 256,0⟩):=by
 obtain⟨_,he,e⟩:=aL e;cases e;exact MT (vL he) a.tr
def Vc{h:Nat}(e:vq x h= .ok y):KP x.s y.s h (some (GH x.s.O h)):=by
 obtain⟨_,he,e⟩:=aL e;cases e;exact KP.of (b:=true) (λz=>azp (vL he) z) rfl rfl rfl
def Vd{h:Nat}{r:dm}(e:nq x h r= .ok y):KP x.s y.s 0 none:=by
 obtain⟨_,he,e⟩:=aL e;cases e;exact KP.same (Va (.set ..)) rfl rfl rfl
def Ve{s:bu}(f:bf s){b:Bool}(e: (c9 s.O s.T r aa b).2.2=0): ∃y,Kf s r=some y/\y.kind=3/\aa<8/\mI y.hold aa= !b/\ (c9 s.O s.T r aa b).2.1=y.hold^^^gP aa/\KP s {s with O:=(c9 s.O s.T r aa b).1} r (some {y with hold:=y.hold^^^gP aa}):=by
 have j: (eZ s.O s.T r aa (bt s.O s.T r)).2=0->s.T.au r=true/\root s.T r=r/\aa<8:=λh=>by
  unfold eZ at h;split at h
  ·cases h
  split at h
  ·cases h
  split at h
  ·cases h
  rename_i a d c;exact⟨by simpa using a,ahi λq=>d q,by omega⟩
 unfold c9 at e⊢;dsimp only at e⊢;split at e
 ·rename_i a;dsimp only at e;rw[e]at a;obtain⟨g1,g2,_⟩:=j e;rcases a with q|q
  ·cases q
  ·exact absurd g2 q.2
 rename_i a;rw[ada a];split at e
 ·cases e
 rename_i d;rw[ada d];split at e
 ·rename_i c;exact absurd e c
 rename_i c;rw[ada c];split at e
 ·cases e
 rename_i i;rw[ada i];split at e
 ·cases e
 rename_i g;rw[ada g];obtain⟨g1,g2,k⟩:=j (ahi λq=>c q);refine⟨bt s.O s.T r,al8 f g1 g2,ahi λq=>d q,k,?_,rfl,MT e f.tr⟩;revert i g;cases mI (bt s.O s.T r).hold aa<;>cases b<;>simp
def amd(s:bL): (ky s).1.x.S=s.x.S/\ (ky s).1.c.c=s.c.c:=by
 unfold ky;split
 ·simp
 split
 ·simp
 split<;>exact⟨rfl,rfl⟩
theorem ame(s:bL): (kz s).1.x.S=s.x.S/\ (kz s).1.c.c=s.c.c:=by
 unfold kz
 grind
def amf(s:bL): (kA s).1.x.S=s.x.S/\ (kA s).1.c.c=s.c.c:=by
 unfold kA;dsimp only;split
 ·simp
 split<;>exact⟨rfl,rfl⟩
theorem amg(s:bL): (ln s).1.x.S=s.x.S/\ (ln s).1.c.c=s.c.c:=by
 unfold ln
 grind
theorem Vf(m:aS): ∀k,(gU m k).ai.S=m.ai.S
 |0=>rfl
 |k+1=>by
  rw[Gv];unfold lq;split
  ·exact Vf m k
  ·exact Vf m k
instance:Inhabited Event:=⟨⟨0,mN,(0,0),bO,0,0⟩⟩
def azu{l:List Event}{H:List ae}(h:Rd ⟨H,none⟩ v 14 (l.map cW))(e:l.length*96<=room)(lo:oN):
  ∃v',D X0 (.fn (.func 41) [] []) [v] ⟨H,lo⟩=some (.ret v' ⟨H,lo⟩)/\Rv v' 14 (l.map cW):=by
 have d:=h.eq;have a:dE EK.sl AV.aq AV.aq=some true:=rfl;have e3:bZ ([]:List lA)=0:=rfl;rcases MF h with⟨rfl,he⟩|he
 ·refine⟨.aq,?_,by rw[he];exact .aq⟩;refine aH zf λN b=>?_
  simp(disch:=omega) only[F1,go_sem,simprocAttr,zf,a]
 ·by_cases c:l=[]
  ·subst c;refine⟨.sl [] true,?_,.sl (λel h=>by cases h)⟩;refine aH zf λN b=>?_
   have e1:du ⟨H,none⟩ m0 14 96 (.sl [] true) []=some (.sl [] true,⟨H,none⟩):=rfl;simp(disch:=omega) only[F1,go_sem,simprocAttr,zf,he,d,e1,e3]
  ·refine⟨.sl (l.map cW) false,?_,.sl (λel h=>by obtain⟨x,_,rfl⟩:=afJ.1 h;rfl)⟩;refine aH zf λN b=>?_
   obtain⟨e1,f⟩:=MG (sz:=14) (ty:=m0) (bytes:=96) (lo:=lo) (g:=cW) b (by omega) (λ_=>rfl) (λ_=>rfl) c e;simp only[go_sem,simprocAttr,zf,he,d,e1,f]
section
variable{n M p q:Nat}{m:aS}{qv ev:AV}{aF aQ:Nat->AV}{H:List ae}(ha:bH n M p q m qv ev aF aQ H)
include ha
theorem Vg(f:m.bq.length<1000000)(lo:oN): ∃v,D XC (.fn (.func 16) [] []) [.ptr M 0] ⟨H,lo⟩=some (.ret v ⟨H,lo⟩)/\Rv v 14 (m.bq.map cW):=by
 obtain⟨v,c,d⟩:=azu (ha.rN.rd (lo:=none)) (by unfold room;omega) none;have c:=c0 c;refine⟨v,?_,d⟩;refine aH PV λN e=>?_
 have b:dE EK.ptr (AV.ptr M 0) AV.dD=some false:=rfl;have a:=cK d (bB (λ_=>rfl) _);simp(disch:=omega) only[F1,go_sem,simprocAttr,PV,b,ha.box,UO,c,a]
end
def fy(t:Nat)(l:List Event):List Event:=l.filter λe=>decide (e.aa=t)
theorem azv{l:List Event}(j:Rv v 14 (l.map cW))(K:l.length<10000)(t:Nat)(H:List ae)(lo:oN):
  ∃w,D X0 (.fn (.func 69) [] []) [v,.int .i64 t] ⟨H,lo⟩=some (.ret w ⟨H,lo⟩)/\Rv w 14 ((fy t l).map cW):=by
 suffices J: ∃s,D X0 (.fn (.func 69) [] []) [v,.int .i64 t] ⟨H,lo⟩=some s/\ (λs=> ∃w,s= .ret w ⟨H,lo⟩/\Rv w 14 ((fy t l).map cW)) s by grind
 refine cz Qe λN F=>?_
 have b: ∀e,(cW e).length=14:=λ_=>rfl
 have het: ∀e,List.take 14 (cW e)=cW e:=λ_=>rfl
 have r: ∀e,aI (cW e)=0:=λ_=>rfl
 have G: ∀e,(cW e)[0]?=some (.int .i64 e.aa):=λ_=>rfl
 have f: ∀e,Den.part true 14 (cW e) 0=some (.agg (cW e)):=λ_=>rfl
 have d: ∀e,aK [AV.int .i64 0,.int .u8 0,.int .u32 0,.int .u32 0,.int .u32 0,.int .u32 0,.int .u64 0,.int .i64 0,.int .i64 0,.int .i64 0,.int .u64 0,.int .u32 0,.int .i64 0,.int .i64 0] 0 (cW e)=cW e:=λe=>ko (by rfl)
 simp only[go_sem,simprocAttr,Qe,j.bN];refine gN l.length (λk e W ak=> ∃w,ak=none/\H<+:W/\aT N W w 14 m0 ((fy t (l.take k)).map cW)/\e 1= .int .i64 t/\e 5=w/\e 8=v/\e 9= .int .i64 l.length/\e 10= .int .i64 k) 0 (by omega) ?_ ?_
 ·refine⟨.aq,rfl,List.prefix_refl _,aT.aq,?_⟩;simp only[go_sem,simprocAttr]
 rintro k O e W ak ⟨w,rfl,y,i,e1,A,e8,z,h⟩ n C;simp only[bQ,F1,go_sem,simprocAttr,aeO,A,e8,z,h];refine⟨λI=>?_,λI=>?_⟩
 ·have a:k<l.length:=by omega
  have hle:=ag7 (λe=>decide (e.aa=t)) (l.take k);rw[afT]at hle;have o:l.take (k+1)=l.take k++[l.getD k default]:=by rw[List.take_succ,adR a,afK,adR a];rfl
  by_cases c: (l.getD k default).aa=t
  ·have B: ((l.getD k default).aa:Int)=t:=by omega
   have g:fy t (l.take (k+1))=fy t (l.take k)++[l.getD k default]:=by unfold fy;rw[o,aqe];simp only[List.filter_cons,List.filter_nil,c,decide_true,af1]
   simp(disch:=omega) only[go_sem,simprocAttr,e1,A,j.ca,j.cD,f,b,het,r,d,G,B,C];refine⟨by omega,?_⟩;refine aqC (N:=N) (H0:=H) (bytes:=96) (ys:=[cW (l.getD k default)]) i.ext (y.trans (anZ _ _)) F (by omega) (by intro el b;rw[afD.1 b];rfl) rfl (by
    rw[aer];show((fy t (l.take k)).length+1)*96<=room;unfold fy room;omega) λv' P u x _ _=>?_
   simp(disch:=omega) only[go_sem,simprocAttr,e1,e8,z,h];rw[g,afI];exact⟨a,v',x,u,rfl⟩
  ·have B: ¬((l.getD k default).aa:Int)=t:=by omega
   have g:fy t (l.take (k+1))=fy t (l.take k):=by unfold fy;rw[o,aqe];simp only[List.filter_cons,List.filter_nil,c,axN,aiz,afG,afZ]
   simp(disch:=omega) only[go_sem,simprocAttr,e1,A,e8,z,h,j.ca,j.cD,f,b,r,d,G,B,C];rw[g];exact⟨by omega,a,w,y.trans (anZ _ _),i.ext,rfl⟩
 ·obtain rfl:k=l.length:=by omega
  rw[afH]at i;have E:=i.DJ (lo:=lo) (by rw[bB (λ_=>rfl)];omega);rw[yB]at E;rw[E];obtain⟨L,rfl⟩:=y;exact⟨_,dj rfl (aog F),i.o8⟩
theorem amh(a:bY t){x:Nat}(c:t.au x=true)(b:bn t x≠0):root t x=root t (bn t x):=by
 have hm:t.au (bn t x)=true:=K5 a (by rw[mh a b];grind);unfold root;rw[adV c,adV hm,mh a b,List.getLastD_cons]
def CP(c:bY t){x:Nat}(b:t.au x=true)(a:bn t x=0):root t x=x:=(MS c b).2 a
theorem GJ{t:aw}(a:bY t): ∀ (n x:Nat),dep t x<=n->t.au x=true->t.au (root t x)=true/\bn t (root t x)=0/\ (x=root t x\/root t x∈aU t x)
 |n,x,c,b=>by
  by_cases hu:bn t x=0
  ·rw[CP a b hu];grind
  ·have hm:t.au (bn t x)=true:=K5 a (by rw[mh a hu];grind);have d:=z9 a _ x (aen _) (show bn t x∈aU t x by rw[mh a hu];grind);cases n with
   |zero=>omega
   |succ n=>
    obtain⟨g,f,e⟩:=GJ a n (bn t x) (by omega) hm;rw[amh a b hu];rw[mh a hu]
    grind
theorem ami{t:aw}(a:bY t){r:Nat}(c:t.au r=true)(d:bn t r=0): ∀ (n x:Nat),dep t x<=n->t.au x=true->r∈aU t x->root t x=r
 |n,x,g,f,hm=>by
  have hu:bn t x≠0:=λe=>by rw[oy a,adV e]at hm;cases hm
  have b:t.au (bn t x)=true:=K5 a (by rw[mh a hu];grind);have h:=z9 a _ x (aen _) (show bn t x∈aU t x by rw[mh a hu];grind);rw[amh a f hu];rw[mh a hu]at hm;cases n with
  |zero=>omega
  |succ n=>
   rcases ag6.1 hm with e|hm
   ·rw[<-e];exact CP a c d
   ·exact ami a c d n _ (by omega) b hm
def azw(f:dC t){x:Nat}(c:t.au r=true)(g:bn t r=0):x∈under t r↔t.au x=true/\root t x=r:=by
 have a:=f.tr;have e:under t r=cP t r:=adV c;rw[e];constructor
 ·intro h;have d:=zF f.ok.b c h;refine⟨d,?_⟩;rcases Cy a 32 r h with rfl|i
  ·exact CP a c g
  ·exact ami a c g _ x (aen _) d i
 ·rintro⟨d,rfl⟩;obtain⟨_,_,b⟩:=GJ a _ x (aen _) d;rcases b with b|b
  ·rw[<-b];exact LU a x
  ·exact TU f.ok.b a _ _ (aen _) b
theorem MV{α:Type}{f:α->Nat}{I:List α}: ∀ {R:lN},R.Nodup->(R.map λr=>I.countP λx=>decide (f x=r)).sum=I.countP λx=>decide (f x∈R)
 | [],_=>by simp
 |r::R,h=>by
  have b:=asq.1 h;have key: ∀l:List α,(l.countP λx=>decide (f x=r))+(l.countP λx=>decide (f x∈R))=l.countP λx=>decide (f x∈r::R):=λl=>by
   induction l with
   |nil=>rfl
   |cons a l c=>grind
  rw[al0,List.sum_cons,MV b.2,key]
def azx(a:dC t)(b:t.au r=true)(c:bn t r=0): (under t r).length=(a0 t.b).countP λx=>decide (root t x=r):=by
 rw[List.countP_eq_length_filter];refine List.Perm.length_eq ((List.perm_ext_iff_of_nodup (T3 a.tr r) ((L5 t.b).filter _)).2 λx=>?_);rw[azw a b c,afR,fO a.ok.b,az7];rfl
def amj{o:bI}(a:dC t){x:Nat}(b:t.au x=true):bt o t (root t x)=bt o t x:=by
 obtain⟨d,c,_⟩:=GJ a.tr _ x (aen _) b;unfold bt;rw[CP a.tr d c]
theorem amk{o:bI}(a:dC t)(p:Ow->Bool): ((gl o t p).map λr=>(under t r).length).sum=(a0 t.b).countP λx=>p (bt o t x):=by
 have j: ∀r∈gl o t p,t.au r=true/\bn t r=0/\p (bt o t r)=true:=λr d=>by
  obtain⟨g,b⟩:=afR.1 d;have c:=(fO a.ok.b).1 g;unfold ud at b;rw[af0,az7]at b;exact⟨c,(MS a.tr c).1 b.1,b.2⟩
 have e: (gl o t p).map (λr=>(under t r).length)=(gl o t p).map λr=>(a0 t.b).countP λx=>decide (root t x=r):=
  aox λr d=>azx a (j r d).1 (j r d).2.1
 have i: (gl o t p).Nodup:=(L5 t.b).filter _;rw[e,MV (f:=root t) i];refine List.countP_congr λx k=>?_
 have c:t.au x=true:=(fO a.ok.b).1 k;obtain⟨g,b,_⟩:=GJ a.tr _ x (aen _) c;rw[az7,<-amj a c];constructor
 ·grind
 ·intro h;refine afR.2 ⟨(fO a.ok.b).2 g,?_⟩;unfold ud;rw[CP a.tr g b,h,ad0 rfl];rfl
theorem aml{α:Type}{g:α->Nat}: ∀l:List α,(∀x∈l,g x<8)->((List.range 8).map λt=>l.countP λx=>decide (g x=t)).sum=l.length
 |l,h=>by
  rw[MV (f:=g) (aAS)];simp_all
def azy(s:bL): (rq s).c.c=s.c.c:=by
 unfold rq;dsimp only;split<;>split<;>rfl
theorem azz(x:Core)(c:Call): (fQ x c).c.c=c.c:=by
 obtain⟨_,f⟩:=amd ⟨x,c,bO,false⟩;unfold fQ;dsimp only;generalize ky ⟨x,c,bO,false⟩=s1 at*;split
 ·omega
 obtain⟨_,e⟩:=ame s1.1;generalize kz s1.1=s2 at*;split
 ·grind
 obtain⟨_,d⟩:=amf s2.1;generalize kA s2.1=a at*;split
 ·grind
 obtain⟨_,b⟩:=amg a.1;split
 ·grind
 ·rw[azy,b,d,e,f]
def xQ(c:cx):Prop:=1<=c.op/\c.op<=22
structure gV(m:aS):Prop where
 ev: ∀e∈m.bq,e.aa<8/\xQ e.c/\e.fr<2147483648/\e.to<2147483648
 bz: ∀i,(m.aC i).busy=true->xQ (m.aC i).c.c
section
variable{m:aS}(h:gV m)
include h
theorem gV.of{m':aS}(b:m'.aC=m.aC)(a:m'.bq=m.bq):gV m':=⟨by rw[a];exact h.ev,by rw[b];exact h.bz⟩
theorem gV.UQ(k:Nat):gV (lq m k):=by
 unfold lq;split
 ·refine⟨h.ev,λi a=>?_⟩;have a: (av m.aC k _ i).busy=true:=a;show xQ (av m.aC k _ i).c.c;by_cases e:i=k
  ·rw[e,ch]at a;cases a
  ·rw[cF e]at a⊢;exact h.bz i a
 omega
theorem gV.clear:gV (jW m):=by
 have e:jW m=gU m 8:=rfl
 suffices ∀k,gV (gU m k)from this 8
 intro k
 induction k with
 |zero=>exact h
 |succ k a=>rw[Gv];exact gV.UQ a k
theorem gV.calls(c:de m){t:Nat}(d:t<8)(a: (m.aC t).busy=true):gV (pZ m t):=by
 have k:=azz m.ai (m.aC t).c;have b:=h.bz t a;rw[<-k]at b;unfold pZ;dsimp only;split
 ·refine⟨λe he=>?_,λi a=>?_⟩
  ·rcases aeq.1 he with he|he
   ·exact h.ev e he
   ·rw[afD.1 he];exact⟨d,b,by show(av m.aC t _ t).fr<_;rw[ch];exact c.fr t,c.now⟩
  ·have a: (av (av m.aC t _) t _ i).busy=true:=a;show xQ (av (av m.aC t _) t _ i).c.c;by_cases e:i=t
   ·rw[e,ch]at a;cases a
   ·rw[cF e,cF e]at a⊢;exact h.bz i a
 ·refine⟨h.ev,λi a=>?_⟩;have a: (av m.aC t _ i).busy=true:=a;show xQ (av m.aC t _ i).c.c;by_cases e:i=t
  ·rw[e,ch];exact b
  ·rw[cF e]at a⊢;exact h.bz i a
theorem gV.steps(c:de m){t:Nat}(b:t<8):gV (rC m t):=by
 unfold rC;dsimp only;split
 ·rename_i a;exact h.calls c b a
 split
 ·rename_i hw;refine gV.calls ?_ (c.wanted b) b (by show(av m.aC t _ t).busy=true;rw[ch]);refine⟨h.ev,λi a=>?_⟩;have a: (av m.aC t _ i).busy=true:=a;show xQ (av m.aC t _ i).c.c;by_cases e:i=t
  ·rw[e,ch];unfold iD at hw⊢;unfold xQ;split
   ·simp
   ·rename_i x d;have ho:=((c.t t).ins x (ak8 d)).op
    grind
  ·rw[cF e]at a⊢;exact h.bz i a
 ·refine⟨h.ev,λi a=>?_⟩;have a: (av m.aC t _ i).busy=true:=a;show xQ (av m.aC t _ i).c.c;by_cases e:i=t
  ·rw[e,ch]at a⊢;grind
  ·rw[cF e]at a⊢;exact h.bz i a
theorem gV.pick(c:ql m)(d:m.now<=4000)(b:Nat):gV (jX m b).1:=by
 unfold jX;dsimp only;have a:b % 8<8:=by omega
 split
 ·exact h
 split
 ·split
  ·exact(h.of (m':={m with ai:=(iW m.ai).1,now:=m.now+1}) rfl rfl).clear
  omega
 split
 ·exact h
 split
 ·refine gV.clear ⟨λe he=>?_,h.bz⟩;rcases aeq.1 he with he|he
  ·exact h.ev e he
  ·rw[afD.1 he];exact⟨a,⟨show(1:Nat)<=20 by decide,show(20:Nat)<=22 by decide⟩,by grind,by grind⟩
 ·exact(gV.steps (h.of (m':={m with now:=m.now+1}) rfl rfl) (c.ok.Ar (by omega)) a).clear
end
theorem Vh{n:Nat}(a:1<=n/\n<=64)(aE:List lB){aJ:lB}(b:aJ.length<=4000): ∀k,k<=aJ.length->gV (runK n aE aJ k).1
 |0,_=>⟨λe he=>(by cases he),λi d=>(by cases d)⟩
 |k+1,c=>by
  obtain⟨f,g⟩:=As a aE b k (by omega);rw[CN c];exact(Vh a aE b k (by omega)).pick f (by omega) _
def xR(x:Ow):Prop:=(x.kind=1/\x.aa<8)\/x.kind=2\/x.kind=3
def LW(s:bu):Prop:= ∀z x,Kf s z=some x->xR x
theorem xR.MW{t:Nat}(ht:t<8):xR ⟨1,t % 256,0⟩:=.inl ⟨rfl,by grind⟩
section
variable{s s':bu}{h:Nat}{o:Option Ow}
theorem LW.put(L:LW s)(K:KP s s' h o)(ho: ∀x,o=some x->xR x):LW s':=λz x e=>by
 rw[K.k]at e;split at e
 ·grind
 ·exact L z x e
def LW.same(L:LW s)(K:KP s s' 0 none):LW s':=L.put K λx e=>(by cases e)
theorem LW.of(L:LW s)(b:s'.T=s.T)(c:s'.O=s.O):LW s':=λz x e=>L z x (by unfold Kf at*;grind)
end
def amm{z:aB}{h t:Nat}(hs:bf y.s)(L:LW y.s)(f:h<4294967296)(c:kx y h t= .ok z):LW z.s:=by
 obtain⟨_,he,c⟩:=aL c;obtain⟨x,l,e,k,j,i,d⟩:=Ve hs (vL he);have b:bf (y.o (c9 y.s.O y.s.T h t false).1).s:=hs.uh (hs.O.held f);have g:LW (y.o (c9 y.s.O y.s.T h t false).1).s:=L.put d λw q=>by injection q with q;rw[<-q];exact .inr (.inr e)
 cases c;split
 ·exact g.put (Vb b h) λw q=>(by cases q)
 omega
theorem Vi{β:Type}{I:aB->Prop}{P:β->Prop}{f:aB->β->R aB}(d: ∀y b z,I y->P b->f y b= .ok z->I z): ∀ (l:List β) (y z:aB),(∀b∈l,P b)->I y->l.foldlM f y= .ok z->I z
 | [],y,z,_,h,e=>by cases e;exact h
 |b::l,y,z,g,h,e=>by
  obtain⟨w,e1,j⟩:=aL (show(f y b>>=λw=>l.foldlM f w)= .ok z from by grind);exact Vi d l w z (λc i=>g c (afU _ i)) (d y b w h (g b (ai4 ..)) e1) j
theorem Vj{β:Type}{I:aB->Prop}{f:aB->β->aB}(c: ∀y b,I y->I (f y b)): ∀ (l:List β) (y:aB),I y->I (l.foldl f y)
 | [],_,h=>h
 |b::l,y,h=>Vj c l (f y b) (c y b h)
theorem azA(h:GI x/\LW x.s)(e:nr x aa= .ok y):GI y/\LW y.s:=by
 rw[T8]at e;obtain⟨w,e1,g⟩:=aL e;have u:GI (rH x aa)/\LW (rH x aa).s:=⟨h.1.set ((h.1.s.xy iZ.gone).LX) rfl rfl,h.2.of rfl rfl⟩;have n: ∀ (y:aB) (a:Nat),GI y/\LW y.s->GI (fP y a)/\LW (fP y a).s:=λy a b=>⟨b.1.gone a,b.2.put (Vb b.1.s a) λw q=>(by cases q)⟩
 have t:GI w/\LW w.s:=Vi (I:=λy=>GI y/\LW y.s) (P:=ue) (λy m z b hm e=>by
  unfold Ae at e;split at e
  ·cases e;exact b
  ·split at e
   ·obtain⟨k,j⟩:=Gx b.1.s hm.aR e;have K:=MU b.1.s e;refine⟨?_,b.2.put K λw q=>by injection q with q;rw[<-q];exact xR.MW hm.fr⟩;obtain⟨_,_,e⟩:=aL e;cases e;exact b.1.set k j rfl
   ·cases e;grind) _ _ _ (λm hm=>by
    obtain⟨i,_,rfl⟩:=afJ.1 hm;exact(h.1.s.bx aa).ring _) u e1
 unfold L7 at g;have r:=Vj (I:=λy=>GI y/\LW y.s) (f:=λy h=>y.k (l9 y.s.K h).1) (λy a b=>⟨b.1.set (b.1.s.Aa (b.1.s.tok.ret a)) rfl rfl,b.2.of rfl rfl⟩) (sR w.s.K aa) w t;have d:=λl=>Vj (I:=λy=>GI y/\LW y.s) (f:=fP) n l _ r
 refine Vi (I:=λy=>GI y/\LW y.s) (P:=λa=>a<4294967296) (λy a z b c e=>⟨b.1.gk c e,amm b.1.s b.2 c e⟩) _ _ _ (λa c=>?_) (d _) g;have p:=(afR.1 c).1;exact fC ((fO (d _).1.s.T.b).1 p)
section
variable{x:aB}{a:aB×bF}(hs:bf x.s)(hL:LW x.s)(ht:x.aa<8)(ig:x.s.alive x.aa=true)
include hs hL
omit hs in
theorem azB(h:ll x= .ok a):LW a.1.s:=by
 unfold ll at h
 try dsimp only at h
 cases d:oz (min x.c.a 129) (min x.c.b 9)with
 |none=>rw[d]at h;cases h
 |some n=>
  rw[d]at h;obtain⟨_,e1,h⟩:=aL h;cases e1;obtain⟨_,_,h⟩:=aL h;obtain⟨_,_,h⟩:=aL h;split at h
  ·obtain⟨z,b,h⟩:=aL h;cases h;exact hL.same (Vd b)
  ·obtain⟨_,_,h⟩:=aL h
   try dsimp only at h
   split at h
   ·cases h;exact hL
   ·obtain⟨_,_,h⟩:=aL h;obtain⟨z,b,h⟩:=aL h;cases h;exact hL.same (Vd (x:={s:=x.s,aa:=x.aa,c:=x.c,run:=x.run,mb:=n,asks:=x.asks,back:=x.back}) b)
omit hs in
theorem azC{w:Nat}(h:rh x w= .ok a):LW a.1.s:=by
 unfold rh at h;obtain⟨_,_,h⟩:=aL h;obtain⟨_,_,h⟩:=aL h;obtain⟨_,_,h⟩:=aL h;obtain⟨_,_,h⟩:=aL h;cases h;exact hL
omit hs in
theorem azD(h:vt x= .ok a):LW a.1.s:=by
 unfold vt at h;obtain⟨_,_,h⟩:=aL h;obtain⟨_,_,h⟩:=aL h
 try dsimp only at h
 obtain⟨y,e,h⟩:=aL h;cases h;exact hL.same (Vd (x:={x with back:=x.back++(aN x.s.T x.c.r).1.runs}) e)
theorem azE(h:w8 x= .ok a):LW a.1.s:=by
 obtain⟨_,hm,h⟩:=aL h;cases h;exact hL.put (Vb hs _) λx q=>by cases q
omit hs in
theorem azF(h:xa x= .ok a):LW a.1.s:=by
 unfold xa at h;obtain⟨_,hm,h⟩:=aL h;obtain⟨_,_,h⟩:=aL h
 try dsimp only at h
 obtain⟨_,he,h⟩:=aL h;cases h;exact hL.put (KP.of (s':=(x.t (ox x.s.T x.c.r x.c.s).1).s) (b:=false) (λz=>azq (vL he) z) rfl rfl rfl) λx q=>by cases q
omit hs in
theorem azG(h:ri x= .ok a):LW a.1.s:=by
 unfold ri at h;obtain⟨_,_,h⟩:=aL h;obtain⟨_,_,h⟩:=aL h;obtain⟨_,_,h⟩:=aL h
 try dsimp only at h
 split at h
 ·obtain⟨_,_,h⟩:=aL h
  try dsimp only at h
  obtain⟨_,_,h⟩:=aL h;cases h;exact hL.same (KP.same (λ_=>rfl) rfl rfl rfl)
 ·obtain⟨_,_,h⟩:=aL h;obtain⟨_,_,h⟩:=aL h
  try dsimp only at h
  obtain⟨_,_,h⟩:=aL h;cases h;exact hL.same (KP.same (λ_=>rfl) rfl rfl rfl)
omit hs in
theorem azH(h:xd x= .ok a):LW a.1.s:=by
 unfold xd at h;obtain⟨_,_,h⟩:=aL h;obtain⟨_,_,h⟩:=aL h;cases h;exact hL.same (KP.same (λ_=>rfl) rfl rfl rfl)
omit hs in
theorem azI(h:xf x= .ok a):LW a.1.s:=by
 unfold xf at h;obtain⟨_,_,h⟩:=aL h
 try dsimp only at h
 obtain⟨_,_,h⟩:=aL h;cases h;exact hL
omit hs in
theorem azJ(h:pX x= .ok a):LW a.1.s:=by
 unfold pX at h;obtain⟨_,_,h⟩:=aL h;have key:LW (x.t (mK x.s.T x.c.r (min x.c.a 8) x.c.s (decide ((bt x.s.O x.s.T x.c.s).kind=3))).1).s:=by
  rw[TR];split
  ·exact hL.same (KP.same (Va (.set ..)) rfl rfl rfl)
  ·exact hL
 try dsimp only at h
 split at h
 ·obtain⟨_,_,h⟩:=aL h
  try dsimp only at h
  obtain⟨_,_,h⟩:=aL h;cases h;exact key
 ·try dsimp only at h
  obtain⟨_,_,h⟩:=aL h;cases h;exact key
omit hs in
theorem azK(h:rj x= .ok a):LW a.1.s:=by
 unfold rj at h;obtain⟨_,_,h⟩:=aL h;cases h;exact hL.of rfl rfl
theorem azL(b:x.c.r<4294967296)(h:zK x= .ok a):LW a.1.s:=by
 obtain⟨_,_,h⟩:=aL h;obtain⟨y,e,h⟩:=aL h;cases h;exact amm hs hL b e
theorem azM(h:xc x= .ok a):LW a.1.s:=by
 obtain⟨_,b,h⟩:=aL h;have b:=Aq b;obtain⟨_,_,h⟩:=aL h;obtain⟨_,he,h⟩:=aL h;cases h;obtain⟨y,f,c,e,d,_,K⟩:=Ve hs (vL he);exact hL.put K λz q=>by injection q with q;rw[<-q];exact .inr (.inr c)
include ht ig
omit ig in
theorem azN(g:x.c.r<4294967296)(h:sT x= .ok a):LW a.1.s:=by
 unfold sT at h;have c:bf (x.t (fu x.s.T x.c.r (min x.c.a 65)).1).s:=hs.ug (hs.dw.new _ _ g);by_cases d:x.c.r=0
 ·simp only[d,ne_eq,not_true,aiz,af1]at h;obtain⟨_,he,h⟩:=aL h;obtain⟨y,e,h⟩:=aL h;cases h;rw[d]at c;have he:=vL he;exact hL.put ((KP.of (s':=(x.t (fu x.s.T 0 (min x.c.a 65)).1).s) (b:=true) (λz=>(ama hs.dw he).2 z) rfl rfl rfl).trans (MU c e)) λz q=>by injection q with q;rw[<-q];exact xR.MW ht
 ·simp only[d,ne_eq,aAf,aiz,af1]at h;obtain⟨_,_,h⟩:=aL h;obtain⟨_,he,h⟩:=aL h;obtain⟨y,e,h⟩:=aL h;cases e;cases h;have he:=vL he;have f:=(ama hs.dw he).2;rw[adZ d]at f;exact hL.put (KP.of (s':=(x.t (fu x.s.T x.c.r (min x.c.a 65)).1).s) (b:=false) f rfl rfl rfl) λz q=>by cases q
omit ig in
theorem azO(h:w9 x= .ok a):LW a.1.s:=by
 unfold w9 at h;obtain⟨_,hm,h⟩:=aL h;obtain⟨_,_,h⟩:=aL h;obtain⟨y,e,h⟩:=aL h;obtain⟨z,b,h⟩:=aL h;cases h;exact hL.put ((Vc e).trans (MU (CM hs e).1 b)) λz q=>by injection q with q;rw[<-q];exact xR.MW ht
omit ht ig in
theorem azP(h:xb x= .ok a):LW a.1.s:=by
 unfold xb at h;obtain⟨_,hm,h⟩:=aL h;obtain⟨y,e,h⟩:=aL h
 try dsimp only at h
 obtain⟨_,he,h⟩:=aL h;cases h;exact hL.put ((Vc e).trans (MT (vL he) (CM hs e).1.tr)) λz q=>by injection q with q;rw[<-q];exact .inr (.inr rfl)
omit ig in
theorem azQ(h:pW x= .ok a):LW a.1.s:=by
 unfold pW at h
 try dsimp only at h
 obtain⟨_,he,h⟩:=aL h;have b:bf (x.bx x.aa (lk (x.s.cw x.aa)).1).s:=hs.xy (hs.bx x.aa).take.1;have c:LW (x.bx x.aa (lk (x.s.cw x.aa)).1).s:=hL.of rfl rfl;split at h
 ·obtain⟨y,e,h⟩:=aL h;cases h;exact c.put (MU b e) λz q=>by injection q with q;rw[<-q];exact xR.MW ht
 ·obtain⟨y,e,h⟩:=aL h;cases e;cases h;exact c
omit ht ig in
theorem azR(h:oA x= .ok a):LW a.1.s:=by
 unfold oA at h;obtain⟨_,c,h⟩:=aL h;have c:=Aq c;simp only[af0,ai5]at c;obtain⟨_,_,h⟩:=aL h
 try dsimp only at h
 have fin: ∀ (y:aB) (b:Bool),LW y.s->(cp (mJ (y.s.cw x.c.a) ⟨x.aa % 256,x.c.v,x.c.r,b⟩).2>>=λ_=>(Pure.pure (y.bx x.c.a (mJ (y.s.cw x.c.a) ⟨x.aa % 256,x.c.v,x.c.r,b⟩).1,bO):R (aB×bF)))= .ok a->LW a.1.s:=by
  intro y b L h;obtain⟨_,he,h⟩:=aL h;cases h;exact L.of rfl rfl
 split at h
 ·rename_i g;obtain⟨_,_,h⟩:=aL h
  try dsimp only at h
  obtain⟨y,e,h⟩:=aL h;cases e;by_cases he: (vu x x.c.r x.c.a).2=0
  ·simp only[he,af1]at h;obtain⟨y,k,f,j,i,_,K⟩:=Ve hs (show(c9 x.s.O x.s.T x.c.r x.c.a true).2.2=0 from he);exact fin (x.o (vu x x.c.r x.c.a).1) _ (hL.put K λz q=>by injection q with q;rw[<-q];exact .inr (.inr f)) h
  ·simp only[he,aiz]at h;exact fin x _ hL h
 ·split at h
  ·obtain⟨_,hm,h⟩:=aL h;obtain⟨y,e,h⟩:=aL h
   try dsimp only at h
   obtain⟨_,ho,h⟩:=aL h;obtain⟨z,d,h⟩:=aL h;cases d;obtain⟨_,he,h⟩:=aL h;cases h;exact(hL.put ((Vc e).trans (MT (vL ho) (CM hs e).1.tr)) λz q=>by injection q with q;rw[<-q];exact .inr (.inl rfl)).of rfl rfl
  ·obtain⟨z,d,h⟩:=aL h;cases d;exact fin _ _ hL h
omit hs ht ig in
theorem azS(ht:x.aa<8)(h:xe x= .ok a):LW a.1.s:=by
 unfold xe at h
 try dsimp only at h
 obtain⟨_,_,h⟩:=aL h;cases h;exact hL.of rfl rfl
omit ht ig in
omit hs in
theorem amn{t:Nat}(b:GI x)(h: (nr x t>>=λy=>.ok (y,bO))= .ok a):LW a.1.s:=by
 obtain⟨y,e,h⟩:=aL h;cases h;exact(azA ⟨b,hL⟩ e).2
omit ig in
theorem azT(d:GI x)(e:iH x.c)(h:jV x= .ok a):LW a.1.s:=by
 have c:=e.r;unfold jV at h;split at h
 all_goals try(first
  |exact azB hL h|exact azC hL h|exact azD hL h|exact azE hs hL h|exact azF hL h|exact azG hL h|exact azH hL h|exact azI hL h|exact azJ hL h|exact azK hL h
  |exact azL hs hL c h|exact azM hs hL h|exact azN hs hL ht c h|exact azO hs hL ht h|exact azP hs hL h|exact azQ hs hL ht h|exact azR hs hL h|exact azS hL ht h|exact amn hL d h)
 ·unfold zL at h;obtain⟨_,b,h⟩:=aL h;have b:=Aq b;simp only[af0,ai5]at b;exact amn hL d h
 ·cases h
end
def amo{s:bu}(hs:bf s)(hL:LW s)(d:iH c)(run:aD):LW (dx s aa c run).1:=by
 rw[ajh];cases h:ji ⟨s,aa,c,run,0,false,[]⟩with
 |error e=>omega
 |ok a=>
  obtain⟨y,r⟩:=a;obtain⟨_,b,h⟩:=aL (show(ask _ _>>=λ_=>jV _)=_ from h);have b:=Aq b;simp only[af0,ai5]at b;exact azT (x:=⟨s,aa,c,run,0,false,[]⟩) (a:=(y,r)) hs hL b.1 (GI.start hs aa c run 0 false) d h
theorem amp: ∀ (l:List aD) (x:Core),(l.foldl cQ x).S=x.S
 | [],_=>rfl
 |_::l,x=>amp l _
def azU{s:bL}(d:bf s.x.S)(hL:LW s.x.S)(b:iH s.c.c):LW (rq s).x.S:=by
 unfold rq;have key: ∀s:bL,bf s.x.S->LW s.x.S->iH s.c.c-> ∀P v,LW (if(dx s.x.S s.c.aa s.c.c s.c.run).2.1.e≠0 then oD s (dx s.x.S s.c.aa s.c.c s.c.run).2.1 else
   oD {s with x:=(dx s.x.S s.c.aa s.c.c s.c.run).2.2.foldl cQ {s.x with S:=(dx s.x.S s.c.aa s.c.c s.c.run).1,P:=P},c:={s.c with run:=(0,0)}} v).x.S:=λs d hL b P v=>by
  split
  ·exact hL
  ·show LW (List.foldl cQ _ _).S;rw[amp];exact amo d hL b _
 split
 ·exact key {s with x:=cQ s.x s.c.run,c:={s.c with run:=(0,0)}} d hL b _ _
 simp_all
theorem azV{s:bu}(d:bf s)(h:LW s): ((List.range 8).map λt=>(a0 s.T.b).countP λx=>jn t (bt s.O s.T x)).sum+((a0 s.T.b).countP λx=>decide ((bt s.O s.T x).kind=3)||decide ((bt s.O s.T x).kind=2))=(a0 s.T.b).length:=by
 have a:=d.dw;have j: ∀x∈a0 s.T.b,((bt s.O s.T x).kind=1/\ (bt s.O s.T x).aa<8)\/ (bt s.O s.T x).kind=2\/ (bt s.O s.T x).kind=3:=λx c=>by
  have e:s.T.au x=true:=(fO a.ok.b).1 c;obtain⟨b,i,_⟩:=GJ a.tr _ x (aen _) e;have f:=h _ _ (al8 d b (CP a.tr b i));rw[amj a e]at f;exact f
 generalize a0 s.T.b=l at*;have b: ((List.range 8).map λt=>l.countP λx=>jn t (bt s.O s.T x))=(List.range 8).map λt=>(l.filter λx=>decide ((bt s.O s.T x).kind=1)).countP λx=>decide ((bt s.O s.T x).aa=t):=aox λt _=>by
  rw[List.countP_filter];unfold jn
  grind
 rw[b,aml (g:=λx=>(bt s.O s.T x).aa) _ λx c=>by grind];rw[<-List.countP_eq_length_filter,List.length_eq_countP_add_countP (p:=λx=>decide ((bt s.O s.T x).kind=1))]
 congr 1
 refine List.countP_congr λx c=>?_
 grind
def qm(e:Event):Nat:=min e.c.op 23 % 23
def mW(m:aS)(d:Nat):Nat:=m.bq.countP λe=>decide (qm e=d)
theorem azW(h:gV m):mW m 0=0:=by
 unfold mW;rw[List.countP_eq_zero];intro e he;obtain⟨_,⟨b,a⟩,_⟩:=h.ev e he;unfold qm
 grind
theorem azX(h:gV m): ((List.range' 1 22).map (mW m)).sum=m.bq.length:=by
 have e:=MV (f:=qm) (I:=m.bq) (R:=List.range' 1 22) List.nodup_range';have b: (List.range' 1 22).map (mW m)=(List.range' 1 22).map λr=>m.bq.countP λx=>decide (qm x=r):=rfl
 rw[b,e];rw[List.countP_eq_length];intro x a;obtain⟨_,⟨d,c⟩,_⟩:=h.ev x a;unfold qm
 grind
theorem azY(h:gV m): ((List.range 8).map λt=>(fy t m.bq).length).sum=m.bq.length:=by
 have e: ((List.range 8).map λt=>(fy t m.bq).length)=(List.range 8).map λt=>m.bq.countP λx=>decide (x.aa=t):=aox λt _=>by
  unfold fy;grind
 rw[e,aml (g:=λx:Event=>x.aa) _ λx a=>(h.ev x a).1]
theorem azZ{x:Core}{c:Call}(d:jM x)(f:fK c)(k:LW x.S):LW (fQ x c).x.S:=by
 obtain⟨o,j⟩:=amd ⟨x,c,bO,false⟩;unfold fQ;dsimp only;generalize ky ⟨x,c,bO,false⟩=s1 at*;split
 ·grind
 obtain⟨n,i⟩:=ame s1.1;generalize kz s1.1=s2 at*;split
 ·grind
 obtain⟨m,h⟩:=amf s2.1;generalize kA s2.1=a at*;split
 ·grind
 obtain⟨l,g⟩:=amg a.1;generalize ln a.1=b at*;have e:b.1.x.S=x.S:=by grind
 split
 ·grind
 ·exact azU (by rw[e];exact d.S) (by grind) (by rw[g,h,i,j];exact f.iJ)
def amq(a:de m)(b:LW m.ai.S)(t:Nat):LW (pZ m t).ai.S:=by
 have h:=azZ a.ai (a.c t) b;unfold pZ;dsimp only;split<;>exact h
def az0(a:de m)(b:LW m.ai.S){t:Nat}(c:t<8):LW (rC m t).ai.S:=by
 unfold rC;dsimp only;split
 ·exact amq a b t
 split
 ·exact amq (a.wanted c) b t
 omega
theorem az1(h:ql m)(f:m.now<=4000)(c:LW m.ai.S)(b:Nat):LW (jX m b).1.ai.S:=by
 have a: ∀m:aS,LW m.ai.S->LW (jW m).ai.S:=λm h=>by
  have e:jW m=gU m 8:=rfl;rw[e,Vf];exact h
 unfold jX;dsimp only;have d:b % 8<8:=by omega
 split
 ·omega
 split
 ·split
  ·refine a _ ?_;unfold iW;grind
  omega
 split
 ·omega
 split
 ·refine a _ ?_;unfold zM;exact amo h.ok.ai.S c alu _
 ·exact a _ (az0 (m:={m with now:=m.now+1}) (h.ok.Ar (by omega)) c d)
theorem amr{n:Nat}(a:1<=n/\n<=64)(aE:List lB){aJ:lB}(b:aJ.length<=4000): ∀k,k<=aJ.length->LW (runK n aE aJ k).1.ai.S
 |0,_=>λz x e=>by
  have:Kf mO z=none:=by
   unfold Kf;rw[MR];rfl;unfold aw.au au;split
   ·exact adZ λq=>by injection q with _ q;cases q
   ·rfl
  rw[show(runK n aE aJ 0).1.ai.S=mO from rfl,this]at e;cases e
 |k+1,c=>by
  obtain⟨d,f⟩:=As a aE b k (by omega);rw[CN c];exact az1 d (by omega) (amr a aE b k (by omega)) _
section
set_option maxHeartbeats 2000000
def uu(m:aS)(j:Nat):Bool:=match(cY m)[j]? with
 |some y=>decide (64<=y.1)||sI ((cY m).take j) y.1
 |none=>false
theorem Vk{m:aS}: ∀ {j:Nat},j<=(cY m).length->(∀i,i<j->uu m i=false)->(((cY m).take j).map (·.1)).Nodup/\ ∀z∈((cY m).take j).map (·.1),z<64
 |0,_,_=>⟨by simp,by simp⟩
 |j+1,e,h=>by
  obtain⟨k,g⟩:=Vk (m:=m) (j:=j) (by omega) λi f=>h i (by omega)
  have a:=h j (by omega);have b: (cY m)[j]?=some (cY m)[j]:=adR (by omega);unfold uu at a;rw[b]at a;simp only[azd,decide_eq_false_iff_not]at a;have d: (cY m)[j].1∉((cY m).take j).map (·.1):=of_decide_eq_false a.2;rw[afP,b,afI]
  grind
def rP(m:aS):List (Nat×Nat)×Nat:=if((List.range (cY m).length).any (uu m)|| !decide (xM m+xN m+xO m+m.ai.Q.length=m.ai.P.n))=true then([],12)else(cY m,0)
section
variable{n M p q:Nat}{m:aS}{qv ev:AV}{aF aQ:Nat->AV}{H:List ae}(ha:bH n M p q m qv ev aF aQ H)(hm:de m)(GC: ∀i,(m.aC i).c.aY.length<1073741824)(hQ:m.ai.Q.length<1073741824)
include ha hm GC hQ
theorem az2(lo:oN):D XC (.fn (.func 17) [] []) [.ptr M 0] ⟨H,lo⟩=some (.ret (.ay [.agg (fh (rP m).1),.int .i64 (rP m).2]) ⟨H,lo⟩):=by
 refine aH PW λN U=>?_
 have Vl:dE EK.ptr (AV.ptr M 0) AV.dD=some false:=rfl;have z0: [AV.int .i64 0,.int .i64 0,.int .i64 0,.int .i64 0]=fh []:=rfl;have z1:aek=xP (sI []):=rfl;obtain⟨cv,c2,c1⟩:=azf (ha.app [.box (fh []) none,.box [.int .i64 0] none,.box (fh []) none,.box (xP (sI [])) none]) hQ (N+2) (by simp;omega) (N+4) (by simp;omega) none;have aDk:=hm.ai.P.n;simp only[go_sem,simprocAttr,PW,U,Vl,z0,z1,c1];have hx: ∀ {j:Nat} {x:lA},(rO (N+2) m)[j]?=some x-> ∃y,(cY m)[j]?=some y/\x=pF (N+2) y.2 y.1:=λ {j x} h=>by
  unfold rO at h;rw[afW]at h;cases T: (cY m)[j]? with
  |none=>rw[T]at h;cases h
  |some y=>rw[T]at h;cases h;exact⟨y,rfl,rfl⟩
 refine aeg (S:=List (Nat×Nat)×Bool) (λe=>e 0= .ptr M 0/\e 2= .ptr N 0/\e 3= .ptr (N+1) 0/\e 4= .ptr (N+2) 0/\e 5= .ptr (N+3) 0) (by simp only[go_sem,simprocAttr]) (rO (N+2) m) U [.box [.ptr M 0] none,.box [.ptr (N+2) 0] none,.box (bP m.ai q cv) none] (λs=>[.box (fh []) none,.box [.int .i64 (if s.2 then 12 else 0)] none,.box (fh s.1) none,.box (xP (sI s.1)) none]) (nB:=4) (λ_=>rfl) ([],false)
  (λj s=>s=((cY m).take j,false)/\ ∀i,i<j->uu m i=false) (λex s=>ex= .ret/\s.2=true/\ ∃j,j< (cY m).length/\uu m j=true) rfl ?_ (by simp) ⟨rfl,λi hi=>absurd hi (an0 i)⟩ (λex s h=>⟨.ret,by rw[h.1];rfl,by rw[h.1];rfl,by rw[h.1];rfl⟩) ?_ ?_ ?_
 ·refine ay9 (cv:=cv) ha hm GC c2 hQ ?_ (λ_=>rfl) (aen _) ?_ (N+4) (N+2)
  ·refine Ih (O9 ?_);intro s;rfl
  ·intro s W h;refine⟨W.drop N,?_⟩;have:=iP.take (N:=N) h.1.1 U;rw[<-this,al5]
 ·rintro e ⟨e0,P,e3,e4,e5⟩ j x s FN ⟨rfl,d⟩;obtain⟨⟨pg,i⟩,T,rfl⟩:=hx FN;obtain⟨J,hje⟩:=ac9.1 T;have Z: (pg,i)∈cY m:=hje ▸ aq0 J;have hi4:i<4:=azm Z;have F: (cY m).take (j+1)=(cY m).take j++[(pg,i)]:=by rw[afP,T];rfl
  have G:=azh ((cY m).take j) (pg,i);have CK:=azl (L:=(cY m).take j) (k:=pg) hi4;have hc2:=GG (L:=(cY m).take j) hi4;have lQ:cI ((cY m).take j) i<9223372036854775807:=by
   have h1:cI ((cY m).take j) i<=((cY m).take j).length:=aof;obtain⟨g1,g2⟩:=Vk (m:=m) (j:=j) (by omega) d;have h2:=F6 _ (List.range 64) g1 λz hz=>alJ.2 (g2 z hz)
   rw[aer,axy]at h2;omega
  have o:uu m j=(decide (64<=pg)||sI ((cY m).take j) pg):=by unfold uu;rw[T]
  have B:=nv (p:=λi=>uu m i=false) d;generalize(cY m).take j=L at*;refine⟨rfl,λW n' hn hnl K=>?_⟩;simp only[go_sem,simprocAttr,ie,pF];refine⟨[],by simp,λW2 Tc hg2=>?_⟩;simp only[eD,eC,alc,afM,Nat.reduceAdd]at hg2;obtain⟨w0,w1,E,Q⟩:=hg2;have w1:W2[N+1]?=some (.box [.int .i64 0] none):=w1;have p1: ¬(pg:Int)<0:=by omega
  have z4: [AV.int .i64 0,.int .i64 0,.int .i64 0,.int .i64 0]=fh []:=rfl;have t: ∀L,(fh L).length=4:=λ_=>rfl
  have l: ∀L,aI (fh L)=0:=λ_=>rfl
  have u:List.drop 4 (fh [])=[]:=rfl;by_cases g1:64<=pg
  ·have p2: (pg:Int)>=64:=by omega
   rw[ad0 g1,aqf]at o;simp(disch:=omega) only[go_sem,simprocAttr,JK,P,e3,w0,w1,p1,p2,z4,t,l,u,Il];refine⟨(L,true),?_,λk Ie Lq=>?_,rfl,j,J,o⟩
   ·simp only[eD,eC,alc,afM,Nat.reduceAdd];refine⟨?_,?_,?_,?_⟩
    ·rw[acK (by omega)];exact cO w0
    ·rw[aeo (by rw[afL];exact dU w1)];rfl
    ·rw[acK (by omega),acK (by omega)];exact E
    ·rw[acK (by omega),acK (by omega)];exact Q
   ·rw[acK (by omega),acK (by omega)]
  ·have p2: ¬(pg:Int)>=64:=by omega
   rw[adZ g1,aqw]at o;have hs2:=azj (f:=sI L) (show pg<64 by omega);have A:=azi (f:=sI L) (show pg<64 by omega);cases C:sI L pg with
   |true=>
    rw[C]at o A;simp(disch:=omega) only[go_sem,simprocAttr,JK,P,e3,e5,w0,w1,Q,A,p1,p2,z4,t,l,u,Il];refine⟨by omega,?_⟩;refine⟨(L,true),?_,λk Ie Lq=>?_,rfl,j,J,o⟩
    ·simp only[eD,eC,alc,afM,Nat.reduceAdd];refine⟨?_,?_,?_,?_⟩
     ·rw[acK (by omega)];exact cO w0
     ·rw[aeo (by rw[afL];exact dU w1)];rfl
     ·rw[acK (by omega),acK (by omega)];exact E
     ·rw[acK (by omega),acK (by omega)];exact Q
    ·rw[acK (by omega),acK (by omega)]
   |false=>
    rw[C]at o A;simp(disch:=omega) only[go_sem,simprocAttr,JK,e5,E,Q,CK,hc2,hs2,A,p1,p2,oc];refine⟨by omega,by omega,by rw[azk];omega,by show i+1<=4;omega,(L++[(pg,i)],false),?_,λk Ie Lq=>?_,by rw[F],B o⟩
    ·simp only[eD,eC,alc,afM,Nat.reduceAdd];refine⟨?_,?_,?_,?_⟩
     ·rw[acK (by omega),acK (by omega)];exact w0
     ·rw[acK (by omega),acK (by omega)];exact w1
     ·rw[aeo (by simp;omega)]
     ·rw[acK (by omega),aeo (by omega),G]
    ·rw[acK (by omega),acK (by omega)]
 ·rintro e ⟨e0,P,e3,e4,e5⟩ s w p yE ⟨rfl,d⟩ r K hd;have V: (rO (N+2) m).length=(cY m).length:=aer _;rw[V]at d;rw[V,afH]at K;simp only[eD,eC,alc,afM,Nat.reduceAdd]at K;obtain⟨w0,w1,E,Q⟩:=K;have w1:w[N+1]?=some (.box [.int .i64 0] none):=w1;have v: (List.range (cY m).length).any (uu m)=false:=by
   rw[aAp];intro i hi;rw[d i (alJ.1 hi)];exact Bool.false_ne_true
  have F:=iP.take r U;obtain⟨R,hR⟩: ∃R,w=H++R:=⟨w.drop N,by rw[<-F,al5]⟩;have O:=ha.app R;rw[<-hR]at O;obtain⟨cv',d1,d2⟩:=MH O hQ none;have Y:=c0 (ay1 O.co.ia none);have g9: (bP m.ai q cv')[952]?=some (.ptr q 0):=Gg;obtain⟨n0,n1,n2,n3⟩:=azn m;have f0: (fh (cY m))[0]?=some (.int .i64 (xM m)):=by rw[GG (by omega),n0]
  have f1: (fh (cY m))[1]?=some (.int .i64 (xN m)):=by rw[GG (by omega),n1]
  have f2: (fh (cY m))[2]?=some (.int .i64 (xO m)):=by rw[GG (by omega),n2]
  have f3: (fh (cY m))[3]?=some (.int .i64 m.ai.Q.length):=by rw[GG (by omega),n3]
  have I:Den.part true 4 (fh (cY m)) 0=some (.agg (fh (cY m))):=rfl;have t: ∀L,(fh L).length=4:=λ_=>rfl
  have l: ∀L,aI (fh L)=0:=λ_=>rfl
  have u:List.drop 4 (fh [])=[]:=rfl;have s1: ∀a b c,(((w.set N a).set (N+1) b).set p c).take N=H:=λa b c=>(((r.set (by omega)).set (by omega)).set (by omega)).take U
  have s2: ∀a b,((w.set N a).set (N+1) b)[p]?=some .fk:=λa b=>by rw[acK (by omega),acK (by omega)];exact hd
  have s3: ∀a,(w.set N a)[N+1]?=some (.box [.int .i64 0] none):=λa=>by rw[acK (by omega)];exact w1
  have s4: ∀a b c,(((w.set N a).set (N+1) b).set p c)[N]?=some a:=λa b c=>by rw[acK (by omega),acK (by omega)];exact cO w0
  have s5: ∀a b c,(((w.set N a).set (N+1) b).set p c)[N+1]?=some b:=λa b c=>by rw[acK (by omega),aeo (by rw[afL];exact dU w1)]
  have X: ∀L,List.take 4 (fh L)=fh L:=λ_=>rfl
  unfold rP;rw[v,aqw];by_cases hT:xM m+xN m+xO m+m.ai.Q.length=m.ai.P.n
  ·have g: ((xM m:Int)+xN m+xO m+m.ai.Q.length)=m.ai.P.n:=by omega
   rw[ad0 hT,asR,ada Bool.false_ne_true];simp(disch:=omega) only[go_sem,simprocAttr,e0,P,e3,e4,w0,E,d1,Y,g9,f0,f1,f2,f3,g,I,t,l,u,afZ,lu,s2,s3,s4,s5];rw[oF (by simp[AV.refs,aI,l]),s1]
  ·have hb0:xM m<1000/\xN m<1000/\xO m<1000:=by
     obtain⟨g1,g2⟩:=Vk (m:=m) (aen _) d;rw[afH]at g1 g2;have h2:=F6 _ (List.range 64) g1 λz hz=>alJ.2 (g2 z hz)
     rw[aer,axy]at h2;have q0:cI (cY m) 0<=(cY m).length:=aof;have q1:cI (cY m) 1<=(cY m).length:=aof;have q2:cI (cY m) 2<=(cY m).length:=aof;omega
   have g: ¬((xM m:Int)+xN m+xO m+m.ai.Q.length)=m.ai.P.n:=by omega
   rw[adZ hT,aw0,adV rfl];simp(disch:=omega) only[go_sem,simprocAttr,e0,P,e3,e4,w0,E,d1,Y,g9,f0,f1,f2,f3,g,t,l,u,afZ,lu,s2,s3,s4,s5,X];rw[oF (by simp[AV.refs,aI,l]),s1]
 ·rintro e ⟨e0,P,e3,e4,e5⟩ ex s w p yE ⟨rfl,hs,i,hi,hbi⟩ r K hd;simp only[eD,eC,alc,afM,Nat.reduceAdd]at K;obtain⟨w0,w1,E,Q⟩:=K;rw[adV hs]at w1;have v: (List.range (cY m).length).any (uu m)=true:=axL.2 ⟨i,alJ.2 hi,hbi⟩;unfold rP;rw[v,aqf,adV rfl];have G: ∀a,(w.set p a).take N=H:=λa=>(r.set (by omega)).take U
  have I: ∀L,Den.part true 4 (fh L) 0=some (.agg (fh L)):=λ_=>rfl
  simp(disch:=omega) only[go_sem,simprocAttr,P,e3,w0,w1,hd,lu,↓I];rw[oF (by simp[AV.refs,aI,fh]),G]
end
end
section
variable{n M p q:Nat}{m:aS}{qv ev:AV}{aF aQ:Nat->AV}{H:List ae}(ha:bH n M p q m qv ev aF aQ H)
include ha
theorem az8(lo:oN):D XC (.fn (.func 13) [] []) [.ptr M 0] ⟨H,lo⟩=some (.ret (.int .i64 m.now) ⟨H,lo⟩):=by
 refine aH PR λN b=>?_
 have a:dE EK.ptr (AV.ptr M 0) AV.dD=some false:=rfl;simp(disch:=omega) only[F1,go_sem,simprocAttr,PR,a,ha.box,Ao]
def CQ(m:aS):lN:=if(List.range 8).any (sY m)then[]else(List.range 8).filter (rD m)
theorem az9(z: ∀op,kE op)(x:de m)(w: ∀i,(m.aC i).c.aY.length<1073741824)(lo:oN):
  ∃v,D XC (.fn (.func 14) [] []) [.ptr M 0] ⟨H,lo⟩=some (.ret v ⟨H,lo⟩)/\Rv v 1 ((CQ m).map fS):=by
 suffices I: ∃j,D XC (.fn (.func 14) [] []) [.ptr M 0] ⟨H,lo⟩=some j/\ (λj=> ∃v,j=aX.ret v ⟨H,lo⟩/\Rv v 1 ((CQ m).map fS)) j by grind
 refine cz PT λN y=>?_
 simp only[go_sem,simprocAttr,PT];refine dP 8 (λk e W=> ∃v',e 0= .ptr M 0/\e 3=v'/\e 4= .fn (.func 39) [.ptr M 0] []/\e 8= .int .i64 k/\aT N W v' 1 od (((List.range k).filter (rD m)).map fS)/\H<+:W/\ ∀i,i<k->sY m i=false) 0 (by omega) ?_ ?_
 ·refine⟨.aq,?_⟩;simp only[go_sem,simprocAttr];exact⟨aT.aq,List.prefix_refl _,λ_ h=>absurd h (an0 _)⟩
 rintro k J e W ⟨v',u,e3,t,e8,f,B,d⟩ G C;obtain⟨L,rfl⟩:=B;have a:=alO z (ha.app L) x w k;have b:=λlo=>akD (fs:=[.ptr M 0]) (args:=[.int .i64 k]) (alN z (ha.app L) x w k lo)
 simp only[bQ,go_sem,simprocAttr,aeA,u,e3,e8];refine⟨λF=>?_,λF=>?_⟩
 ·have r:k<8:=by omega
  cases g:sY m k with
  |true=>
   rw[g]at a;simp(disch:=omega) only[F1,go_sem,simprocAttr,a];refine⟨_,rfl,?_⟩;have:CQ m=[]:=adV (axL.2 ⟨k,alJ.2 r,g⟩);rw[this];exact .aq
  |false=>
   rw[g]at a;have c:=nv (p:=λi=>sY m i=false) d g;cases hw:rD m k with
   |true=>
    rw[hw]at b;simp only[go_sem,simprocAttr,e3,t,a,b];refine o7 (H0:=H) (ys:=[[.int .i64 k]]) f (anZ _ _) y (by omega) (by intro el s;rw[afD.1 s];rfl) rfl (by unfold room;have:=ag7 (rD m) (List.range k);simp at this⊢;omega) λv2 W l o=>?_
    simp(disch:=omega) only[go_sem,simprocAttr,u,t,e8];refine⟨by omega,v2,rfl,?_,o,c⟩;rw[aqe,afI];simpa[hw,fS]using l
   |false=>
    rw[hw]at b;simp(disch:=omega) only[go_sem,simprocAttr,u,e3,t,e8,a,b];refine⟨by omega,v',rfl,?_,anZ _ _,c⟩;rw[aqe,afI];simpa[hw]using f
 ·obtain rfl:k=8:=by omega
  rw[f.DJ (by rw[bB (λ_=>rfl)];omega),kb y];refine⟨_,rfl,?_⟩;have:CQ m=(List.range 8).filter (rD m):=ada λh=>by
   obtain⟨i,E,A⟩:=axL.1 h;rw[d i (alJ.1 E)]at A;cases A
  rw[this];exact aT.o8 f
end
section
set_option maxHeartbeats 2000000
theorem amv[Inhabited α](p:α->Bool){l:List α}(h:k<l.length): (l.take (k+1)).countP p=(l.take k).countP p+(p (l.getD k default)).toNat:=by
 rw[afP,adR h,List.countP_append,afK,adR h]
 grind
theorem Vm(e:Event): (cW e).length=14:=rfl
theorem Vn(e:Event):aI (cW e)=0:=rfl
theorem Vo(e:Event):Den.part true 14 (cW e) 0=some (.agg (cW e)):=rfl
theorem amw{f:AV}{l:List Event}{p:Event->Bool}(g:Rv v 14 (l.map cW))(s:l.length<100000)(H:List ae)(q: ∀J lo,∀k,k<l.length->D XC f [.agg (cW (l.getD k default))] ⟨H++J,lo⟩=some (.ret (.bool (p (l.getD k default))) ⟨H++J,lo⟩))(lo:oN):
  D XC (.fn (.func 37) [] []) [f,v] ⟨H,lo⟩=some (.ret (.int .i64 (l.countP p)) ⟨H,lo⟩):=by
 refine aH P2 λN w=>?_
 simp only[go_sem,simprocAttr,P2,g.bN];refine dP l.length (λk e W=> ∃J,W=H++J/\e 0=f/\e 5= .int .i64 ((l.take k).countP p)/\e 8=v/\e 9= .int .i64 l.length/\e 10= .int .i64 k) 0 (by omega) ?_ ?_
 ·refine⟨[],?_⟩;simp only[go_sem,simprocAttr];rfl
 rintro k t e W ⟨J,rfl,m,i,e8,h,d⟩ r n;have u: (l.take k).countP p<=l.length:=afY aof (by grind);simp(disch:=omega) only[bQ,F1,go_sem,simprocAttr,aeH,i,e8,h,d];refine⟨λo=>?_,λo=>?_⟩
 ·have b:k<l.length:=by omega
  have a:=λL lo=>q (J++L) lo k b
  have c:=amv p b;cases j:p (l.getD k default)with
  |true=>
   rw[j]at a c;simp(disch:=omega) only[go_sem,simprocAttr,m,i,e8,h,d,g.ca,g.cD,↓Vo,Vm,Vn,a]
   grind
  |false=>
   rw[j]at a c;simp(disch:=omega) only[go_sem,simprocAttr,m,i,e8,h,d,g.ca,g.cD,↓Vo,Vm,Vn,a];exact⟨by omega,b,_,rfl,by rw[c];rfl⟩
 grind
def aAa(e:Event)(H:List ae)(lo:oN):D XC (.fn (.func 70) [] []) [.agg (cW e)] ⟨H,lo⟩=some (.ret (.bool (decide (e.r.e≠0))) ⟨H,lo⟩):=by
 refine aH JT λN b=>?_
 have d: (cW e)[9]?=some (.int .i64 e.r.e):=rfl;by_cases c:e.r.e=0
 ·have a: (e.r.e:Int)=0:=by omega
  rw[adZ (by omega)];simp only[F1,go_sem,simprocAttr,JT,b,d,a]
 ·have a: ¬(e.r.e:Int)=0:=by omega
  rw[ad0 c];simp only[F1,go_sem,simprocAttr,JT,b,d,a]
theorem aAb(e:Event)(i:e.c.op<256){d:Nat}{H:List ae}(h:H[q]?=some (.box [.int .i64 d] none))(lo:oN):D XC (.fn (.func 38) [] [.ptr q 0]) [.agg (cW e)] ⟨H,lo⟩=some (.ret (.bool (decide (qm e=d))) ⟨H,lo⟩):=by
 refine eY JN λN g=>?_
 have g1: (cW e)[1]?=some (.int .u8 e.c.op):=rfl;have f:=bc (L:=[.box (cW e) none]) h;have hm:min (e.c.op:Int) 23=((min e.c.op 23:Nat):Int):=by omega
 have b: ((min e.c.op 23:Nat):Int).tmod 23=(qm e:Nat):=by rfl
 have j:qm e<23:=by grind
 by_cases c:qm e=d
 ·have a: ((qm e:Nat):Int)=d:=by omega
  rw[ad0 c];simp(disch:=omega) only[F1,go_sem,simprocAttr,JN,g,f,g1,hm,b,a]
 ·have a: ¬((qm e:Nat):Int)=d:=by omega
  rw[adZ c];simp(disch:=omega) only[F1,go_sem,simprocAttr,JN,g,f,g1,hm,b,a]
end
section
set_option maxHeartbeats 4000000
def aAc(l:List Event):Nat:=l.countP λe=>decide ¬e.r.e=0
def uv(l:List Event):Int:=l.foldl (λa e=>max a ((e.to:Int)-e.fr+1)) 0
def jP(m:aS)(t:Nat):lN:=gl m.ai.S.O m.ai.S.T (jn t)
def nL(m:aS)(l:lN):Nat:=(l.map λr=>(under m.ai.S.T r).length).sum
def jt(m:aS)(t:Nat)(d:Int)(b:Nat)(a:Bool):lA:=[.int .i64 (fy t m.bq).length,.int .i64 (aAc (fy t m.bq)),.int .i64 d,.int .i64 b,.int .i64 (gl m.ai.S.O m.ai.S.T (nD t)).length,.int .i64 (sR m.ai.S.K t).length,.bool (m.ai.S.alive t),.bool a]
def oR(m:aS)(t:Nat):lA:=jt m t (uv (fy t m.bq)) (nL m (jP m t)) (lp m t&& !sY m t)
def amx{l:List Event}(h:k<l.length):uv (l.take (k+1))=max (uv (l.take k)) (((l.getD k default).to:Int)- (l.getD k default).fr+1):=by
 unfold uv;rw[afP,adR h,al2,afK,adR h];rfl
theorem amy{l:List Event}(a: ∀e∈l,e.fr<2147483648/\e.to<2147483648): ∀ {k:Nat},k<=l.length->0<=uv (l.take k)/\uv (l.take k)<=2147483648
 |0,_=>⟨Int.le_refl 0,by show(0:Int)<=_;omega⟩
 |k+1,h=>by
  obtain⟨f,d⟩:=amy a (k:=k) (by omega);have b:=a _ (eo (show k<l.length by omega));rw[amx (by omega)];omega
def amz{l:lN}(h:k<l.length):nL m (l.take (k+1))=nL m (l.take k)+(under m.ai.S.T (l.getD k default)).length:=by
 unfold nL;rw[afP,adR h,afI,au7,afK,adR h];simp
theorem amA{m:aS}(a:bY m.ai.S.T)(l:lN): ∀ {k:Nat},k<=l.length->nL m (l.take k)<=k*39135393
 |0,_=>aep _
 |k+1,h=>by
  have d:=amA a l (k:=k) (by omega);have b:=zY a (l.getD k default);rw[amz (by omega)];omega
section
variable{n M p q:Nat}{m:aS}{qv ev:AV}{aF aQ:Nat->AV}{H:List ae}(hD: ∀op,kE op)(ha:bH n M p q m qv ev aF aQ H)(hm:de m)(xK:gV m)(hr: ∀i,(m.aC i).c.aY.length<1073741824)(hQ:m.ai.Q.length<1073741824)(hE:m.bq.length<10000)
include hD ha hm xK hr hQ hE
theorem aAd{t:Nat}(ht:t<8)(lo:oN):D XC (.fn (.func 36) [] []) [.ptr M 0,.int .i64 t] ⟨H,lo⟩=some (.ret (.agg (oR m t)) ⟨H,lo⟩):=by
 refine aH P0 λN I=>?_
 obtain⟨g,A⟩: ∃g:ae,g= .box [.int .i64 0,.int .i64 0,.int .i64 0,.int .i64 0,.int .i64 0,.int .i64 0,.bool false,.bool false] none:=⟨_,rfl⟩;obtain⟨cv,d1,d2⟩:=MH (ha.app [g]) hQ none;have hA:=ha.app [g,.box (bo m.ai.S) none];obtain⟨v,v1,v2⟩:=Vg hA (by omega) none;obtain⟨w,t1,t2⟩:=azv v2 (by omega) t (H++[g,.box (bo m.ai.S) none]) none;have t1:=c0 t1;have hol: (fy t m.bq).length<=m.bq.length:=ag7 _ _;have r1:=amw (f:=.fn (.func 70) [] []) (p:=λe=>decide (e.r.e≠0)) t2 (by omega) (H++[g,.box (bo m.ai.S) none,g]) (λJ lo k hk=>aAa _ _ lo) none;obtain⟨hv,h1,h2,h3⟩:=ah1 m.ai.S.O hm.ai.S.O m.ai.S.T hm.ai.S.T hm.ai.S.tr t (by omega) (H++[g,.box (bo m.ai.S) none,g]) none;have h1:=cX h1;obtain⟨kv,k1,k2,k3⟩:=ahM m.ai.S.K hm.ai.S.K t (H++[g,.box (bo m.ai.S) none,g]) none;have k1:=cX k1;rw[A]at d1 v1 t1 r1 h1 k1;have L8:Den.part false 1 (bo m.ai.S) (936+t)=some (.bool (m.ai.S.alive t)):=SN ht;have GK: (0:Int)<=t/\ (t:Int)<8:=by omega
 simp(disch:=omega) only[go_sem,simprocAttr,P0,I,d1,↓Mk,U0,ee,mF,F8,v1,t1,t2.bN,r1,h1,h2.bN,k1,k2.bN,↓B4,↓wY,↓K2,GK,↓L8];have hle: ∀e∈fy t m.bq,e.fr<2147483648/\e.to<2147483648:=λe he=>(xK.ev e (afR.1 he).1).2.2
 have a2: ∀d rg wt,(jt m t d rg wt)[2]?=some (.int .i64 d):=λ_ _ _=>rfl
 have a3: ∀d rg wt,(jt m t d rg wt)[3]?=some (.int .i64 rg):=λ_ _ _=>rfl
 have a6: ∀d rg wt,(jt m t d rg wt)[6]?=some (.bool (m.ai.S.alive t)):=λ_ _ _=>rfl
 have s2: ∀d rg wt (x:Int),aK (jt m t d rg wt) 2 [.int .i64 x]=jt m t x rg wt:=λ_ _ _ _=>rfl
 have s3: ∀d rg wt (a b:Nat),aK (jt m t d rg wt) 3 [.int .i64 ((a:Int)+b)]=jt m t d (a+b) wt:=λ_ _ _ _ _=>rfl
 have s7: ∀d rg wt x,aK (jt m t d rg wt) 7 [.bool x]=jt m t d rg x:=λ_ _ _ _=>rfl
 have al: ∀d rg wt,(jt m t d rg wt).length=8:=λ_ _ _=>rfl
 have ar: ∀d rg wt,aI (jt m t d rg wt)=0:=λ_ _ _=>rfl
 have at8: ∀d rg wt,List.take 8 (jt m t d rg wt)=jt m t d rg wt:=λ_ _ _=>rfl
 refine dP (fy t m.bq).length (λk e W=> ∃J,W=H++g:: .box (bo m.ai.S) none:: .box (jt m t (uv ((fy t m.bq).take k)) 0 false) none::J/\e 0= .ptr M 0/\e 1= .int .i64 t/\e 4= .ptr N 0/\e 5= .ptr (N+1) 0/\e 7= .ptr (N+2) 0/\e 43=w/\e 44= .int .i64 (fy t m.bq).length/\e 45= .int .i64 k) 0 (by omega) ?_ ?_
 ·refine⟨[],?_⟩;simp(disch:=omega) only[go_sem,simprocAttr,A];rfl
 ·rintro k hk e W ⟨J,rfl,O,e1,G,K,e7,F,C,B⟩ nn o;simp(disch:=omega) only[bQ,go_sem,simprocAttr,aeG,e1,K,F,C,B,↓B4,↓wY];refine⟨λhh=>?_,λhh=>?_⟩
  ·have h:k< (fy t m.bq).length:=by omega
   obtain⟨q1,q2⟩:=amy hle (k:=k) (by omega);have q3:=hle _ (eo h);have q4:=amx h;have g12: ∀e,(cW e)[12]?=some (.int .i64 e.fr):=λ_=>rfl
   have g13: ∀e,(cW e)[13]?=some (.int .i64 e.to):=λ_=>rfl
   have l: ∀L,(H++g:: .box (bo m.ai.S) none:: .box (jt m t (uv ((fy t m.bq).take k)) 0 false) none::L)[N+2]?=some (.box (jt m t (uv ((fy t m.bq).take k)) 0 false) none):=λL=>by rw[bA I];rfl
   simp(disch:=omega) only[go_sem,simprocAttr,O,e1,G,K,e7,F,C,B,t2.ca,t2.cD,↓Vo,Vm,Vn,l,a2,g12,g13,s2,al];rw[q4];exact⟨by omega,h,_,rfl⟩
  ·have z:k=(fy t m.bq).length:=by omega
   subst z;rw[afH]at*;obtain⟨LG,T⟩: ∃x,x=uv (fy t m.bq):=⟨_,rfl⟩;rw[<-T];obtain⟨rv,o1,Z,o3⟩:=ah0 m.ai.S.O hm.ai.S.O m.ai.S.T hm.ai.S.T hm.ai.S.tr t (H++g:: .box (bo m.ai.S) none:: .box (jt m t LG 0 false) none::J) none;have o1:=cX o1;have hb5: ∀x L,(H++g:: .box (bo m.ai.S) none:: .box x none::L)[N+1]?=some (.box (bo m.ai.S) none):=λx L=>by rw[bA I];rfl
   have l: ∀x L,(H++g:: .box (bo m.ai.S) none:: .box x none::L)[N+2]?=some (.box x none):=λx L=>by rw[bA I];rfl
   simp(disch:=omega) only[go_sem,simprocAttr,o1,Z.bN];have uO: (jP m t).length<=32:=afY (ag7 _ _) (kr _);have Mz:jP m t=gl m.ai.S.O m.ai.S.T (jn t):=rfl;rw[<-Mz]at Z⊢;refine gN (jP m t).length (λk e W ak=> ∃J,W=H++g:: .box (bo m.ai.S) none:: .box (jt m t LG (nL m ((jP m t).take k)) false) none::J/\e 0= .ptr M 0/\e 1= .int .i64 t/\e 4= .ptr N 0/\e 5= .ptr (N+1) 0/\e 7= .ptr (N+2) 0/\e 67=rv/\e 68= .int .i64 (jP m t).length/\e 69= .int .i64 k/\ (ak=none\/ ∃j,N<=j/\ak=some j)) 0 (by omega) ?_ ?_
   ·refine⟨J,?_⟩;simp(disch:=omega) only[go_sem,simprocAttr,O,e1,G,K,e7];exact⟨rfl,.inl trivial⟩
   clear o1 O e1 G K e7 F C B o;rintro k hk e W ak ⟨J,rfl,O,e1,G,K,e7,X,V,U,s⟩ nn o;simp(disch:=omega) only[bQ,go_sem,simprocAttr,aeF,e7,X,V,U];refine⟨λhh=>?_,λhh=>?_⟩
   ·have h:k< (jP m t).length:=by omega
    have hrg:m.ai.S.T.au ((jP m t).getD k default)=true:=(fO hm.ai.S.T.b).1 (afR.1 (eo h)).1;obtain⟨u,J2,P,Y,u2,u3⟩:=FV m.ai.S.T hm.ai.S.T hm.ai.S.tr ((jP m t).getD k default) (fC hrg) nn _ o ak;have Y:=cX Y;have ul:=(jJ u2 P).bN;have q4:=amz (m:=m) h;have q5:=amA (m:=m) hm.ai.S.tr (jP m t) (k:=k) (by omega);have q6:=zY hm.ai.S.tr ((jP m t).getD k default);have R:= @List.take_left _ (H++g:: .box (bo m.ai.S) none:: .box (jt m t LG (nL m ((jP m t).take k)) false) none::J) J2;simp only[adW,ahn]at Y ul R;have hg1:=λx y=>ap1 (E:=⟨_,ak⟩) (E':=⟨_,P⟩) (a:=N+2) (b:=x) (c:=y) R (by simp;omega)
    have Vp: ∀x,Den.part false 1 (hC x) 0=some (.int .u32 x):=λ_=>rfl
    simp(disch:=omega) only[go_sem,simprocAttr,O,e1,G,K,e7,X,V,U,Z.ca,Z.cD,↓Vp,hb5,l,↓wY,Y,ul,a3,hg1,s3,al];rw[q4];refine⟨by omega,h,_,rfl,?_⟩;have hnN:N<=nn:=by rw[<-o];simp;omega
    rcases s with rfl| ⟨j,hj,rfl⟩
    ·rcases u3 with rfl| ⟨j,hj,rfl⟩
     ·exact .inl rfl
     ·exact .inr ⟨j,by omega,rfl⟩
    ·rcases u3 with rfl| ⟨i,hi,rfl⟩
     ·exact .inr ⟨j,hj,rfl⟩
     ·exact .inr ⟨_,by omega,ajU (lo:=none) (a:=j) (b:=i)⟩
   ·have z:k=(jP m t).length:=by omega
    subst z;rw[afH]at*;subst A;have Q:lp m t=m.ai.S.alive t:=by unfold lp;rw[ad0 ht,al1]
    have lR:=λL lo=>alO hD (ha.app L) hm hr t lo
    have S:oR m t=jt m t LG (nL m (jP m t)) (lp m t&& !sY m t):=by rw[T];rfl
    cases r:m.ai.S.alive t with
    |false=>
     rw[r]at a6;simp(disch:=omega) only[go_sem,simprocAttr,G,e7,l,a6,s7,al,ar,at8];rw[iF s (by show aI _<=N;rw[ar];omega),kb I,S,Q,r];rfl
    |true=>
     rw[r]at a6;simp(disch:=omega) only[go_sem,simprocAttr,O,e1,G,e7,l,a6,s7,al,ar,at8,lR];rw[iF s (by show aI _<=N;rw[ar];omega),kb I,S,Q,r];rfl
end
end
section
set_option maxHeartbeats 4000000
def CR:lA:=[.int .i64 0,.int .i64 0,.int .i64 0,.int .i64 0,.int .i64 0,.int .i64 0,.bool false,.bool false]
def qn:lA:=[.int .i64 0,.int .i64 0,.int .i64 0,.int .i64 0]
def gW(m:aS)(v:AV)(a b:Nat)(pc:lA):lA:=[.int .i64 m.now]++(arr 8 (λi=>if i<a then oR m i else CR)++(arr 23 (λd=>[.int .i64 (if d<b then mW m d else 0:Nat)])++(pc++[v])))
def dX(m:aS)(v:AV):lA:=gW m v 8 23 (fh (rP m).1)
def Vq(m:aS)(i a:Nat): (if i<a then oR m i else CR).length=8:=by split<;>rfl
def aAi(m:aS)(i a:Nat):aI (if i<a then oR m i else CR)=0:=by split<;>rfl
section
variable{m:aS}{v:AV}{a b:Nat}{pc:lA}
def uw: (arr 8 (λi=>if i<a then oR m i else CR)).length=64:=zr (k:=8) (λi=>Vq m i a) 8
theorem GL: (arr 23 (λd=>[AV.int .i64 (if d<b then mW m d else 0:Nat)])).length=23:=by rfl
def MX(h:pc.length=4): (gW m v a b pc).length=93:=by unfold gW;simp only[aem,uw,GL,h];rfl
def Vr(h:aI pc=0):aI (gW m v a b pc)=v.refs:=by
 unfold gW;rw[nR,nR,nR,nR,h,B2 (λi=>aAi m i a),B2 (λ_=>rfl)];simp[aI,AV.refs]
theorem aAj(h:a<8):aK (gW m v a b pc) (1+a*8) (oR m a)=gW m v (a+1) b pc:=by
 unfold gW;have d: (oR m a).length=8:=rfl;rw[fo (by simp),show 1+a*8- [AV.int .i64 m.now].length=a*8+0 by simp,nd (by rw[uw,d];omega),l8 (k:=8) (f:=λi=>if i<a then oR m i else CR) (λi=>Vq m i a) h (by omega)]
 congr 2
 refine zs λj _=>?_
 by_cases e:j=a
 ·subst e;rw[ch,ada (Nat.lt_irrefl j),adV (aqx j)];rfl
 ·rw[cF e]
  grind
theorem aAk(h:b<23):aK (gW m v a b pc) (65+b) [.int .i64 (mW m b)]=gW m v a (b+1) pc:=by
 unfold gW;rw[fo (by grind),fo (by rw[uw];grind),uw,show 65+b- [AV.int .i64 m.now].length-64=b*1+0 by simp,nd (by rw[GL];grind),l8 (k:=1) (f:=λd=>[AV.int .i64 (if d<b then mW m d else 0:Nat)]) (λ_=>rfl) h (by simp)]
 congr 3
 refine zs λj _=>?_
 by_cases e:j=b
 ·subst e;rw[ch,ada (Nat.lt_irrefl j),adV (aqx j)];rfl
 ·rw[cF e]
  grind
def aAl{d:lA}(h:pc.length=4)(e:d.length=4):aK (gW m v a b pc) 88 d=gW m v a b d:=by
 unfold gW;rw[fo (by simp),fo (by rw[uw];simp),fo (by rw[uw,GL];simp),uw,GL,show 88- [AV.int .i64 m.now].length-64-23=0 by simp,nd (by omega),ko (by omega)]
end
section
variable{n M p q:Nat}{m:aS}{qv ev:AV}{aF aQ:Nat->AV}{H:List ae}(hD: ∀op,kE op)(ha:bH n M p q m qv ev aF aQ H)(hm:de m)(xK:gV m)(hr: ∀i,(m.aC i).c.aY.length<1073741824)(hQ:m.ai.Q.length<1073741824)(hE:m.bq.length<10000)
include hD ha hm xK hr hQ hE
theorem amB(lo:oN): ∃v,D XC (.fn (.func 12) [] []) [.ptr M 0] ⟨H,lo⟩=some (.ret (.ay [.agg (dX m v),.int .i64 0]) ⟨H,lo⟩)/\Rv v 1 ((CQ m).map fS):=by
 obtain⟨v,w1,O⟩:=az9 (ha.app [.box dZ none]) hD hm hr none;refine⟨v,?_,O⟩;refine aH EW λN F=>?_
 have Z:dE EK.ptr (AV.ptr M 0) AV.dD=some false:=rfl;have t1:=az8 (ha.app [.box dZ none]) none;have z:=nF (O ⟨H,none⟩);have A:=cK O (bB (λ_=>rfl) _);have g:dZ.length=93:=rfl;have R: (List.drop 1 dZ).length=92:=rfl;have T: (AV.int .i64 m.now::aK (List.drop 1 dZ) 91 [v])=gW m v 0 0 qn:=rfl;have S:aK dZ 0 (gW m v 0 0 qn)=gW m v 0 0 qn:=ko (by rw[g,MX rfl]);have P:=MX (m:=m) (v:=v) (a:=0) (b:=0) (pc:=qn) rfl;have y:=Vr (m:=m) (v:=v) (a:=0) (b:=0) (pc:=qn) rfl;rw[A]at y;simp only[go_sem,simprocAttr,EW,F,Z,t1,w1,z.1,z.2,g,R,T,S,P,y];have Q:=λa b=>MX (m:=m) (v:=v) (a:=a) (b:=b) (pc:=qn) rfl
 refine dP 8 (λk e W=>W=H++[.box dZ none,.box (gW m v k 0 qn) none]/\e 0= .ptr M 0/\e 2= .ptr N 0/\e 3= .int .i64 0/\e 4= .ptr (N+1) 0/\e 15= .int .i64 k) 0 (by omega) ?_ ?_
 ·simp only[go_sem,simprocAttr]
 rintro k hk e W ⟨rfl,r,t,e3,s,o⟩ nn hnn;have hA:=ha.app [.box dZ none,.box (gW m v k 0 qn) none];simp only[bQ,go_sem,simprocAttr,aez,r,o];refine⟨λhh=>?_,λhh=>?_⟩
 ·have j:k<8:=by omega
  have GK: (0:Int)<=k/\ (k:Int)<8:=by omega
  have hac:=λlo=>aAd hD hA hm xK hr hQ hE j lo
  have ig: (oR m k).length=8:=rfl;have har:aI (oR m k)=0:=rfl;have E: ∀L x,(H++ .box dZ none:: .box x none::L)[N+1]?=some (.box x none):=λL x=>by rw[bA F];rfl
  simp(disch:=omega) only[go_sem,simprocAttr,r,t,e3,s,o,GK,hac,ig,har,Q,E,aAj j];exact⟨by omega,j⟩
 ·obtain rfl:k=8:=by omega
  refine dP 23 (λd e W=> ∃J,W=H++ .box dZ none:: .box (gW m v 8 d qn) none::J/\e 0= .ptr M 0/\e 2= .ptr N 0/\e 3= .int .i64 0/\e 4= .ptr (N+1) 0/\e 25= .int .i64 d) 0 (by omega) ?_ ?_
  ·refine⟨[],?_⟩;simp only[go_sem,simprocAttr,r,t,e3,s]
  clear r t e3 s o;rintro d hd e W ⟨J,rfl,r,t,e3,s,K⟩ n2 hn2;simp only[bQ,go_sem,simprocAttr,aey,r,K];refine⟨λhh=>?_,λhh=>?_⟩
  ·have B:d<23:=by omega
   have I: (0:Int)<=d/\ (d:Int)<23:=by omega
   obtain⟨u,l⟩: ∃u,u=H++ .box dZ none:: .box (gW m v 8 d qn) none:: (J++[ae.box [AV.int .i64 d] none]):=⟨_,rfl⟩;have G:=ha.app (.box dZ none:: .box (gW m v 8 d qn) none:: (J++[ae.box [AV.int .i64 d] none]));rw[<-l]at G;obtain⟨w,v1,v2⟩:=Vg G (by omega) none;have hq:u[H.length+(J.length+1+1)]?=some (.box [.int .i64 d] none):=by
    rw[l];simp
   have C:D XC (.fn (.func 37) [] []) [.fn (.func 38) [] [.ptr (H.length+(J.length+1+1)) 0],w] ⟨u,none⟩=some (.ret (.int .i64 (mW m d)) ⟨u,none⟩):=amw (f:=.fn (.func 38) [] [.ptr (H.length+(J.length+1+1)) 0]) (p:=λe=>decide (qm e=d)) v2 (by omega) u (λJ' lo k hk=>aAb _ (by have:=(xK.ev _ (eo hk)).2.1.2;omega) (bc hq) lo) none;rw[l]at v1 C;have E: ∀L x,(H++ .box dZ none:: .box x none::L)[N+1]?=some (.box x none):=λL x=>by rw[bA F];rfl
   simp(disch:=omega) only[go_sem,simprocAttr,r,t,e3,s,K,v1,C,I,Q,E,aAk B];exact⟨by omega,B,_,rfl⟩
  ·obtain rfl:d=23:=by omega
   have hcn:=λL lo=>az2 (ha.app L) hm hr hQ lo
   have E: ∀L x,(H++ .box dZ none:: .box x none::L)[N+1]?=some (.box x none):=λL x=>by rw[bA F];rfl
   have hb0: ∀L x,(H++ .box dZ none:: .box x none::L)[N]?=some (.box dZ none):=λL x=>dv F
   have h4: (fh (rP m).1).length=4:=rfl;have h0:aI (fh (rP m).1)=0:=rfl;have X:aK (gW m v 8 23 qn) 88 (fh (rP m).1)=dX m v:=aAl rfl rfl;have h: (dX m v).length=93:=MX rfl;have V:aI (dX m v)=0:=by unfold dX;rw[Vr h0,A]
   have U:aK dZ 0 (dX m v)=dX m v:=ko (by rw[g,h]);have Y:Den.part true 93 (dX m v) 0=some (.agg (dX m v)):=zt h;have Mz:List.take 93 (dX m v)=dX m v:=ael (by rw[h];omega);simp(disch:=omega) only[F1,go_sem,simprocAttr,t,s,hcn,E,hb0,h4,h0,X,h,V,U,↓Y,Q,g]
end
end
section
set_option maxHeartbeats 2000000
def ux:lB:=[31,0,0,0,0,0]
def nM:aS:=(zN ⟨2,[ux],[0]⟩).1
theorem aAq:nM.now=1:=by rfl
theorem aAr:CQ nM=[0]:=by rfl
theorem aAs:nM.ai.S.alive 0=true:=by rfl
theorem aAt: (lp nM 0&& !sY nM 0)=true:=by rfl
theorem aAu:nM.ai.S.alive 1=false:=by rfl
theorem aAv:cI (rP nM).1 0=2:=by rfl
theorem aAw:nu ⟨2,[ux],List.map UInt8.toNat [0]⟩=true:=by rfl
def aAx(H:List ae)(lo:oN):D XC (.fn (.func 12) [] []) [.dD] ⟨H,lo⟩=some (.ret (.ay [.agg dZ,.int .i64 1]) ⟨H,lo⟩):=by
 refine aH EW λN f=>?_
 have e:dE EK.ptr AV.dD AV.dD=some true:=rfl;have a:dZ.length=93:=rfl;have b:aI dZ=0:=rfl;have c:aK dZ 0 dZ=dZ:=ko rfl;have d:Den.part true 93 dZ 0=some (.agg dZ):=zt a;simp only[F1,go_sem,simprocAttr,EW,f,e,a,b,c,↓d]
section
variable{m:aS}{v:AV}
theorem aAy: (dX m v)[0]?=some (.int .i64 m.now):=rfl
theorem aAz: (dX m v)[92]?=some v:=rfl
theorem aAA: (dX m v)[7]?=some (.bool (m.ai.S.alive 0)):=rfl
theorem aAB: (dX m v)[8]?=some (.bool (lp m 0&& !sY m 0)):=rfl
theorem aAC: (dX m v)[15]?=some (.bool (m.ai.S.alive 1)):=rfl
theorem aAD: (dX m v)[88]?=some (.int .i64 (cI (rP m).1 0)):=rfl
theorem amC: (dX m v).length=93:=by rfl
theorem amD:aI (dX m v)=v.refs:=Vr rfl
theorem amE:aK dZ 0 (dX m v)=dX m v:=by rfl
end
theorem aAE(H:List ae)(lo:oN): ∃E,D XC (.fn (.func 9) [] []) [] ⟨H,lo⟩=some (.ret (.bool true) E):=by
 suffices J: ∃b,D XC (.fn (.func 9) [] []) [] ⟨H,lo⟩=some b/\ (λb=> ∃E,b= .ret (.bool true) E) b by grind
 refine cz PN λN x=>?_
 have s:Gr 2 [ux] [0] (.sl [[S ux]] true) (.sl [[.int .u8 0]] true):=⟨.sl (λel h=>by grind),.sl (af:=[[.int .u8 0]]) (λel h=>by grind),by decide,by decide⟩;obtain⟨b,f,M,p,q,qv,ev,aF,aQ,u,H1,g,rfl,e,I,G,F⟩:=alH (n:=2) MJ s aAw N H x none;have f:D XC (.fn (.func 10) [] []) [.agg [.int .i64 2,.sl [[S [31,0,0,0,0,0]]] true,.sl [[.int .u8 0]] true]] ⟨H,none⟩=_:=f;obtain⟨a,j⟩:=As (n:=2) (by decide) [ux] (aJ:=[0]) (by decide) 1 (aen _);have d:=U5 (n:=2) (by decide) [ux] (aJ:=[0]) (by decide) 1 (aen _);have c:=Vh (n:=2) (by decide) [ux] (aJ:=[0]) (by decide) 1 (aen _);have em:runK 2 [ux] [0] 1=zN ⟨2,[ux],[0]⟩:=U1 2 [ux] [0];rw[em]at a j d c;have e:bH N M p q nM qv ev aF aQ H1:=e;have a:ql nM:=a;have j:nM.now<=1:=j;have d:oP nM:=d;have c:gV nM:=c;obtain⟨v,B,t⟩:=amB MJ e a.ok c (λi=>by have:=d i;unfold jN at this;omega) (by have:=a.q;omega) (by have:=a.e;omega) g;have o:=cK t (bB (λ_=>rfl) _);have g1:=aAq;have g2:=aAr;have A:=aAs;have z:=aAt;have y:=aAu;have K:=aAv;rw[g2]at t;have C: ∀E,fW E .sl v=some (.int .i64 1):=λE=>t.bN
 have w:=λL lo=>aAx L lo
 have l:dZ.length=93:=rfl;have k:aI dZ=0:=rfl;have r:aK dZ 0 dZ=dZ:=ko rfl;have e1: (nM.now:Int)=1:=by omega
 have e6: (cI (rP nM).1 0:Int)=2:=by omega
 simp only[go_sem,simprocAttr,PN,f,B,w,l,k,r,amC,amD,amE,o,aAy,aAz,aAA,aAB,aAC,aAD,C,e1,A,z,y,e6];exact⟨_,by rw[alR (aep _)]⟩
end
section
set_option maxHeartbeats 4000000
section
variable{m:aS}{v:AV}
theorem amF(h:i<23): (dX m v)[65+i]?=some (.int .i64 (mW m i)):=by
 have:Den.part false 1 (dX m v) (65+i)=some (.int .i64 (mW m i)):=by
  unfold dX gW;rw[jg (by grind),jg (by rw[uw];grind),uw,show 65+i- [AV.int .i64 m.now].length-64=i*1+0 by simp,l7 (by rw[GL];omega) (by omega),jF (k:=1) (f:=λd=>[AV.int .i64 (if d<23 then mW m d else 0:Nat)]) (λ_=>rfl) h (by omega) (by omega),adV h];rfl
 exact this
theorem amG{t o:Nat}(h:t<8)(ho:o<8):Den.part false 1 (dX m v) (1+t*8+o)=Den.part false 1 (oR m t) o:=by
 unfold dX gW;rw[jg (by grind),show 1+t*8+o- [AV.int .i64 m.now].length=t*8+o by grind,l7 (by rw[uw];omega) (by omega),jF (k:=8) (f:=λi=>if i<8 then oR m i else CR) (λi=>Vq m i 8) h (by omega) (by omega),adV h]
end
def uy(m:aS)(k:Nat):Nat:=((List.range' 1 (k-1)).map (mW m)).sum
def vP(m:aS)(k:Nat):Nat:=((List.range k).map λt=>(fy t m.bq).length).sum
def vQ(m:aS)(k:Nat):Nat:=((List.range k).map λt=>nL m (jP m t)).sum
theorem amH(h:1<=k):uy m (k+1)=uy m k+mW m k:=by
 unfold uy;rw[show k+1-1=k-1+1 by omega,List.range'_concat,afI,au7];grind
def amI:vP m (k+1)=vP m k+(fy k m.bq).length:=by unfold vP;rw[aoH,afI,au7];simp
def amJ:vQ m (k+1)=vQ m k+nL m (jP m k):=by unfold vQ;rw[aoH,afI,au7];simp
def amK(m:aS)(k:Nat):mW m k<=m.bq.length:=aof
def amL(m:aS)(k:Nat): (fy k m.bq).length<=m.bq.length:=ag7 _ _
def amM(a:bf m.ai.S)(t:Nat):nL m (jP m t)<=32:=by
 have h:=amk (o:=m.ai.S.O) a.dw (jn t);have b: (a0 m.ai.S.T.b).countP (λx=>jn t (bt m.ai.S.O m.ai.S.T x))<=(a0 m.ai.S.T.b).length:=aof;have:=kr m.ai.S.T.b;unfold nL jP;omega
theorem amN(m:aS): ∀k,uy m k<=k*m.bq.length
 |0=>aep _
 |k+1=>by
  by_cases h:1<=k
  ·rw[amH h,aou];have:=amN m k;have:=amK m k;omega
  ·obtain rfl:k=0:=by omega
   exact aep _
theorem amO(m:aS): ∀k,vP m k<=k*m.bq.length
 |0=>aep _
 |k+1=>by rw[amI,aou];have:=amO m k;have:=amL m k;omega
theorem Vs{m:aS}(a:bf m.ai.S): ∀k,vQ m k<=k*32
 |0=>aep _
 |k+1=>by rw[amJ,aou];have:=Vs a k;have:=amM a k;omega
def Au(x:Ow):Bool:=decide (x.kind=3)||decide (x.kind=2)
def aAF(a:bf m.ai.S)(b:LW m.ai.S):vQ m 8+(a0 m.ai.S.T.b).countP (λx=>Au (bt m.ai.S.O m.ai.S.T x))=(a0 m.ai.S.T.b).length:=by
 have h:=azV a b;have e: (List.range 8).map (λt=>nL m (jP m t))=(List.range 8).map λt=>(a0 m.ai.S.T.b).countP λx=>jn t (bt m.ai.S.O m.ai.S.T x):=aox λt _=>amk a.dw (jn t)
 unfold vQ;rw[e];exact h
end
section
set_option maxHeartbeats 4000000
def aAG{t:Nat}(h:t<8): (dX m v)[1+t*8]?=some (.int .i64 (fy t m.bq).length):=amG (o:=0) h (by omega)
def aAH{t:Nat}(h:t<8): (dX m v)[1+t*8+3]?=some (.int .i64 (nL m (jP m t))):=amG (o:=3) h (by omega)
theorem aAI{s:bu}:Den.part true 96 (bo s) 0=some (.agg (bX s.T.b)):=by rfl
theorem aAJ{N b c j o:Nat}{ty:TypeId}{H:List ae}(h:aT N H v sz ty af)(d:j<af.length): (FP.rd a b c).ok (wg k (gA v j o))=true:=by
 rcases h.2 with⟨_,rfl⟩| ⟨id,aj,_,rfl,_⟩
 ·grind
 ·rfl
section
variable{np:Int}{aE:List lB}{aJ:lB}{pv:AV}(h:U6 np aE aJ pv)
include h
theorem aAK(H:List ae)(lo:oN):
  ∃cr,D XC (.fn (.func 4) [] []) [.agg (fg np pv aJ)] ⟨H,lo⟩=some cr/\ ∃E,cr= .ret (.bool true) E:=by
 refine cz EV λN hN=>?_
 have hw:=aAE;have hr:=ayR h;have hl: (fg np pv aJ).length=3:=rfl;have ht:List.take 3 (fg np pv aJ)=fg np pv aJ:=rfl;have A:=λH lo=>c0 (ayT h H lo)
 have u: ∀E:AS,∃E',aX.ret (finish N lo (.bool true) E).1 (finish N lo (.bool true) E).2= .ret (.bool true) E':=λE=>⟨_,by rw[alR (aep _)]⟩
 obtain⟨F,K⟩:=hw (H++[.box (fg np pv aJ) none]) none;obtain⟨g,C⟩: ∃g,g=MI aE aJ:=⟨_,rfl⟩;rw[<-C]at A;cases g with
 |true=>
  simp(disch:=omega) only[go_sem,simprocAttr,EV,hN,hl,ht,A,K];exact u F
 |false=>
  have B:vN aE aJ=false/\aJ.length<=1500:=by
   unfold MI at C;have C:=C.symm;simp only[azd,decide_eq_false_iff_not]at C;exact⟨C.1,by omega⟩
  have I:=λH lo=>c0 (ayV h B.1 H lo)
  obtain⟨sm,j⟩: ∃g,g=nu ⟨np,aE,aJ.map UInt8.toNat⟩:=⟨_,rfl⟩;rw[<-j]at I;cases sm with
  |false=>
   simp(disch:=omega) only[go_sem,simprocAttr,EV,hN,hl,ht,A,I,K];exact u F
  |true=>
   clear K F;obtain⟨kv,o1,o2⟩:=ayU h B.1 (H++[.box (fg np pv aJ) none]) none;have o1:=c0 o1;have UG: ∃n:Nat,np=n:=⟨np.toNat,by unfold nu at j;have j:=j.symm;simp at j;omega⟩;obtain⟨n,rfl⟩:=UG;have l:1<=n/\n<=64/\aJ.length<=4000:=by unfold nu at j;have j:=j.symm;simp at j;omega
   obtain⟨cr,r1,M,p,q,qv,ev,aF,aQ,ov2,H1,L3,rfl,r2,r3,r4,r5⟩:=alH MJ o2 j.symm (N+1) (H++[.box (fg n pv aJ) none]) (by simp[hN]) none;have Vl:dE EK.ptr (AV.ptr M 0) AV.dD=some false:=rfl;obtain⟨t,k2⟩:=As ⟨l.1,l.2.1⟩ aE l.2.2 aJ.length (aen _);have k3:=U5 ⟨l.1,l.2.1⟩ aE l.2.2 aJ.length (aen _);have V:=Vh ⟨l.1,l.2.1⟩ aE l.2.2 aJ.length (aen _);have k5:=amr ⟨l.1,l.2.1⟩ aE l.2.2 aJ.length (aen _);rw[U1]at t k2 k3 V k5;generalize(zN ⟨n,aE,aJ.map UInt8.toNat⟩).1=m at*;have hQ:m.ai.Q.length<1073741824:=by have:=t.q;omega
   have hE:m.bq.length<10000:=by have:=t.e;omega
   have hRr: ∀i,(m.aC i).c.aY.length<1073741824:=λi=>by have:=k3 i;unfold jN at this;omega
   obtain⟨v,c1,c2⟩:=amB MJ r2 t.ok V hRr hQ hE L3;have hv0:=cK c2 (bB (λ_=>rfl) _);have hzl:dZ.length=93:=rfl;have hzr:aI dZ=0:=rfl;obtain⟨a,y⟩: ∃a,H1.length=a:=⟨_,rfl⟩;simp(disch:=omega) only[go_sem,simprocAttr,EV,hN,hl,ht,A,I,o1,r1,Vl,c1,hzl,amC,amD,amE,hv0,y];have hA:=r2.app [.box (dX m v) none];have hb: ∀L,(H1++ .box (dX m v) none::L)[a]?=some (.box (dX m v) none):=λL=>dv y
   refine gN 23 (λk e W ak=>W=H1++[.box (dX m v) none]/\1<=k/\e 3= .ptr M 0/\e 6= .ptr a 0/\e 8= .int .i64 (uy m k)/\e 9= .int .i64 0/\e 10= .int .i64 0/\e 11= .int .i64 k) 1 (by omega) ?_ ?_
   ·simp(disch:=omega) only[go_sem,simprocAttr];rfl
   rintro k hk e W ak ⟨rfl,h1,e3,e6,e8,z,s,R⟩ nn hnn;simp(disch:=omega) only[bQ,go_sem,simprocAttr,aeu,e6,e8,R];refine⟨λS=>?_,λS=>?_⟩
   ·have r:k<23:=by omega
    have aAO: (0:Int)<=k/\ (k:Int)<23:=by omega
    have q1:=amN m k;have q2:=amK m k;have q3:=amH (m:=m) h1;have q4:uy m k<=23*10000:=afY q1 (Nat.mul_le_mul (by omega) (by omega));simp(disch:=omega) only[go_sem,simprocAttr,e3,e6,z,s,R,aAO,amF r];exact⟨r,by rw[q3];rfl⟩
   ·obtain rfl:k=23:=by omega
    refine gN 8 (λk e W ak=>W=H1++[.box (dX m v) none]/\e 3= .ptr M 0/\e 6= .ptr a 0/\e 8= .int .i64 (uy m 23)/\e 9= .int .i64 (vP m k)/\e 10= .int .i64 (vQ m k)/\e 12= .int .i64 k) 0 (by omega) ?_ ?_
    ·simp(disch:=omega) only[go_sem,simprocAttr,e3,e6,e8,z,s];exact⟨rfl,rfl⟩
    clear e3 e6 e8 z s R;rintro k hk e W U ⟨rfl,e3,e6,e8,z,s,Q⟩ n2 Z;simp(disch:=omega) only[bQ,go_sem,simprocAttr,aet,e3,e6,z,Q];refine⟨λS=>?_,λS=>?_⟩
    ·have r:k<8:=by omega
     have GK: (0:Int)<=k/\ (k:Int)<8:=by omega
     have q1:=amO m k;have q2:=amL m k;have q3:vP m k<=8*10000:=afY q1 (Nat.mul_le_mul (by omega) (by omega));have q4:=Vs t.ok.ai.S k;have q5:=amM t.ok.ai.S k;have q6:=amI (m:=m) (k:=k);have q7:=amJ (m:=m) (k:=k);simp(disch:=omega) only[go_sem,simprocAttr,e3,e6,e8,s,Q,GK,hb,aAG r,aAH r];exact⟨r,by rw[q6];rfl,by rw[q7];rfl⟩
    ·obtain rfl:k=8:=by omega
     obtain⟨cv,d1,d2⟩:=MH hA hQ U;have Z: (H1++[ae.box (dX m v) none,.box (bo m.ai.S) none]).length=a+2:=by simp[y]
     obtain⟨w,J,i1,i2⟩:=Ln m.ai.S.T.b t.ok.ai.S.T.b (a+2) _ Z U;have i1:=cX (qa (f:=19) (p:=mg) rfl i1);simp only[adW,ahn,ahk]at i1 i2;have ha2:=r2.app (.box (dX m v) none:: .box (bo m.ai.S) none::J);simp(disch:=omega) only[go_sem,simprocAttr,d1,↓Mk,U0,ee,mF,F8,↓aAI,i1,y];have hle:=kr m.ai.S.T.b;have hR8:=Vs t.ok.ai.S 8;refine gN (a0 m.ai.S.T.b).length (λk e W ak=>W=H1++ .box (dX m v) none:: .box (bo m.ai.S) none::J/\e 3= .ptr M 0/\e 6= .ptr a 0/\e 8= .int .i64 (uy m 23)/\e 9= .int .i64 (vP m 8)/\e 10= .int .i64 (vQ m 8+((a0 m.ai.S.T.b).take k).countP (λx=>Au (bt m.ai.S.O m.ai.S.T x)):Nat)/\e 13= .ptr (a+1) 0/\e 14=w/\e 15= .int .i64 k) 0 (by omega) ?_ ?_
     ·simp(disch:=omega) only[go_sem,simprocAttr,e3,e6,e8,z,s];rfl
     clear e3 e6 e8 z s Q i1 d1;have hb1: ∀L x,(H1++ .box (dX m v) none:: .box x none::L)[a+1]?=some (.box x none):=λL x=>by rw[bA y];rfl
     rintro k hk e W G ⟨rfl,e3,e6,e8,z,s,e13,P,e15⟩ n3 hn3;have O:=jJ i2 G;have hlm:=O.bN;simp(disch:=omega) only[bQ,go_sem,simprocAttr,aes,e8,z,e13,P,e15,hlm,hb1,↓B4,↓wY];refine⟨λS=>?_,λS=>?_⟩
     ·have r:k< (a0 m.ai.S.T.b).length:=by omega
      have C:m.ai.S.T.au ((a0 m.ai.S.T.b).getD k default)=true:=(fO t.ok.ai.S.T.b).1 (eo r);have how:=λL lo=>c0 (z6 m.ai.S.O t.ok.ai.S.O m.ai.S.T t.ok.ai.S.T t.ok.ai.S.tr ((a0 m.ai.S.T.b).getD k default) (fC C) L lo)
      have hct:=amv (λx=>Au (bt m.ai.S.O m.ai.S.T x)) r;have lQ: ((a0 m.ai.S.T.b).take k).countP (λx=>Au (bt m.ai.S.O m.ai.S.T x))<=32:=by
       refine afY aof ?_;rw[afT];omega
      have Vp: ∀x,Den.part false 1 (hC x) 0=some (.int .u32 x):=λ_=>rfl
      have hfp:=λb c=>aAJ (a:=a+1) (b:=b) (c:=c) (k:=1) (o:=0) i2 (show k< ((a0 m.ai.S.T.b).map hC).length by rw[aer];exact r)
      have hk0: ∀x:Ow,(jG x)[0]?=some (.int .u8 x.kind):=λ_=>rfl
      generalize bt m.ai.S.O m.ai.S.T ((a0 m.ai.S.T.b).getD k default)=T at*;obtain⟨d3,g3⟩: ∃d,decide (T.kind=3)=d:=⟨_,rfl⟩;obtain⟨d2,g2⟩: ∃d,decide (T.kind=2)=d:=⟨_,rfl⟩;have i3:decide ((T.kind:Int)=3)=d3:=by rw[<-g3];exact afS.2 (by omega)
      have i2':decide ((T.kind:Int)=2)=d2:=by rw[<-g2];exact afS.2 (by omega)
      rw[show Au T=(d3||d2)from by unfold Au;rw[g3,g2]]at hct;cases d3<;>cases d2<;>(simp(disch:=omega) only[go_sem,simprocAttr,e3,e6,e8,z,s,e13,P,e15,O.ca,O.cD,↓Vp,hfp,how,hk0,i3,i2'];refine⟨S,r,?_⟩;rw[hct];first|rfl|exact ag9 _ (by simp only[Bool.or_self,Bool.or_true,aqf,Bool.toNat_true];omega))
     ·have Lp:k=(a0 m.ai.S.T.b).length:=by omega
      subst Lp;have hd:=azX V;have hd:uy m 23=m.bq.length:=hd;have hc:vP m 8=m.bq.length:=azY V;have X:=aAF t.ok.ai.S k5;rw[afH]at s;have DI: ((uy m 23:Nat):Int)=(m.bq.length:Nat):=by rw[hd]
      have CK: ((vP m 8:Nat):Int)=(m.bq.length:Nat):=by rw[hc]
      have Y: ((vQ m 8:Nat):Int)+(((a0 m.ai.S.T.b).countP (λx=>Au (bt m.ai.S.O m.ai.S.T x)):Nat):Int)=((a0 m.ai.S.T.b).length:Nat):=by rw[<-X];rfl
      obtain⟨x,x1,x2⟩:=Vg ha2 (by omega) G;have h0:=amF (m:=m) (v:=v) (i:=0) (by omega);rw[azW V]at h0;obtain⟨Ii,Wz⟩:=hw (H1++ .box (dX m v) none:: .box (bo m.ai.S) none::J) G;simp(disch:=omega) only[go_sem,simprocAttr,e3,e6,z,s,P,x1,x2.bN,hlm,h0,Wz,hb,DI,CK,Y];exact u Ii
theorem aAV: ∃E,D XC (.fn (.func 4) [] []) [.agg (fg np pv aJ)] ⟨[],none⟩=some (.ret (.bool true) E):=by
 obtain⟨b,a,E,rfl⟩:=aAK h [] none
 grind
end
end
set_option maxHeartbeats 1000000 in
set_option maxRecDepth 100000 in
def aAW(n:Nat)(f:0<n)(d:n<=1024)(w:World):
  Calls Tryz.prog 226 #[.slice none 0 0,.int .i64 n] w λe w'=> ∃cs:Array Value,e= .returned (.slice (some ⟨w.heap.size,0,none⟩) 0 (grownCap w n 0 eL))/\w'=w.drew.alloc (.cells cs eL)/\cs.size=grownCap w n 0 eL*2:=by
 go_enter Tryz.func226,Tryz.ntmps226
 have c:Tryz.t106.bytes=16:=by kernel_rfl
 have b:Builtin.nextslicecap n 0=n:=by unfold Builtin.nextslicecap;simp;omega
 go_wp2
 all_goals first
  | (exfalso;simp only[c,b]at*;omega)
  | (go_ret;refine⟨rfl,_,rfl,?_⟩;have a:=az3 w n 0 eL;unfold grownCap eL at a⊢;simp only[aAQ,aAN,aAm,afO,amQ];generalize(Question.appendCap n 0 _).cut _=q at*;omega)
set_option maxHeartbeats 1000000 in
set_option maxRecDepth 100000 in
def aAX(w:World):
  Calls Tryz.prog 226 #[.slice none 0 0,.int .i64 0] w λe w'=>e= .returned (.slice none 0 0)/\w'=w:=by
 go_enter Tryz.func226,Tryz.ntmps226
 go_wp2
 all_goals(go_ret;exact⟨rfl,rfl⟩)
theorem aAY{f:Nat}{fn:Func}(d:Tryz.prog.funcs[f]?=some fn)(g:fn.body.isSome=true)(a: (fn.name== "runtime.NumGoroutine")=false)(args:Array Value)(w:World):
  (callFunc f args).run Tryz.prog w= .ok (.enter f args) w:=by
 have b: ¬fn.name= "runtime.NumGoroutine" :=by grind
 obtain⟨c,e⟩:=asm.1 g;simp[callFunc,aqA,d,b,e]
theorem aAZ(B:Nat)(b:World):gz Tryz.prog B b 226 CA:=by
 intro args E s h G w a hw i;rw[aAY (f:=226) (fn:=Tryz.f226) Tryz.func226 (by rfl) (by rfl)];show CallsIn (W none) 0 Tryz.prog _ a w _;rw[aoj];refine callsIn_wide.2 ?_;unfold CA at h;split at h
 ·rename_i n;simp only[aG]at i;obtain⟨v0,q,r,rfl,v1,p,rfl,rfl,rfl⟩:=i;obtain rfl:a= #[.slice none 0 0,.int .i64 n]:=by grind
  split at h
  ·rename_i g;subst g;cases h;refine(aAX w).mono ?_;rintro e w' ⟨rfl,rfl⟩;exact⟨G,G.le_refl,hw,rfl,.refl _⟩
  ·split at h
   ·rename_i g;obtain⟨k,rfl⟩: ∃k:Nat,n=k:=⟨n.toNat,by omega⟩;cases h;refine(aAW k (by omega) (by omega) w).mono ?_;rintro e w' ⟨cs,rfl,rfl,d⟩;obtain⟨m,o,v2,e1,g1,g2,l,j⟩:=G4 hw (sz:=2) (af:=[]) (c:=cs) (vs:=[]) (post:=cs.toList) (w':=w.drew) eL rfl (λel h=>by cases h) rfl (λv h=>by cases h) d (aep _) 0 rfl rfl hw.drew;cases e1;exact⟨m,g1,g2,l,j⟩
   ·cases h
 grind
end Go.Proofs.YtcdeobefbpnfeaaGreatDoor
