/- What functions do; conditions as stated. -/
import Derived.Test.YteplichagkpciaaGreatDoorM3
import Derived.KernelRfl
import Derived.Test.YteplichagkpciaaGreatDoorProg
import Derived.WalkKit
import Derived.Lib.AppendZerosOnto
set_option linter.all false
set_option maxRecDepth 10000
set_option maxHeartbeats 1000000
namespace Go.Proofs.YteplichagkpciaaGreatDoor
open Go Go.Den Go.RowKit
variable{r:cP}{l:List aD}{n w a aa i q j k sz:Nat}{x y z:ay}{t t':au}{c:cn}{m:aQ}{qv pv kv v:AV}{aE:Nat->AV}{lo:oN}{α:Type}{W0:List ae}
def asH:=@List.count_append
def ate:=@List.eq_nil_of_length_eq_zero
def aBR:=@List.all_eq_false
structure RO(x:ay)(a:ay×bt):Prop where
 s:aW a.1.s
 back:a.1.back=x.back
 w:a.2.w<4294967296
 v:a.2.v<18446744073709551616
def nJ{e:Nat}{u:Unit}(h:ch e= .ok u):e=0:=by
 unfold ch at h;grind
def axA(h:gA r)(d:n<=2048)(b: ∀x∈l,1<=x.2/\x.1+x.2<=64)(c:aM l<=64):gA {r with runs:=l,len:=n}:=⟨h.up,h.cZ,d,h.cells,b,c⟩
def xW{b:Bool}{e:Nat}{u:Unit}(h:ask b e= .ok u):b=true:=by
 unfold ask at h;grind
def axB{r:aD}(h:pM (l++[r]) n=true):1<=r.2/\r.1+r.2<=64:=by
 unfold pM at h;rw[Lh]at h;simp only[afz]at h;cases hm:mE [] l with
 |none=>grind
 |some m=>
  rw[hm]at h;unfold mE at h;cases b:gR m r with
  |none=>grind
  |some a=>
   unfold gR at b;split at b
   ·rename_i c;unfold j9 at c
    grind
   grind
def CF{h t:Nat}(b:aW x.s)(c:h<4294967296)(e:kQ x h t= .ok y):aW y.s/\y.back=x.back:=by
 obtain⟨_,_,e⟩:=aC e;cases e;exact⟨b.qh (b.O.gR c),rfl⟩
def UC{h:Nat}(b:aW x.s)(c:gA r)(e:mI x h r= .ok y):aW y.s/\y.back=x.back:=by
 obtain⟨_,_,e⟩:=aC e;cases e;exact⟨b.uh (b.dV.set c),rfl⟩
def CG{h:Nat}(b:aW x.s)(e:sY x h= .ok y):aW y.s/\y.back=x.back:=by
 obtain⟨_,_,e⟩:=aC e;cases e;exact⟨b.uh (b.dV.cut h),rfl⟩
section
variable{x:ay}(hx:mP x){a:ay×bt}
include hx
theorem axC(h:pR x= .ok a):RO x a:=by
 unfold pR at h;have b: (fh x.s.T x.c.r (min x.c.a 65)).2.1<4294967296:=aiA hx.s.T.b;have c:aW (x.t (fh x.s.T x.c.r (min x.c.a 65)).1).s:=hx.s.uh (hx.s.dV.new _ _ hx.c.r);by_cases d:x.c.r=0
 ·simp only[d,ne_eq,not_true,aha,afK]at h;obtain⟨_,_,h⟩:=aC h;obtain⟨y,e,h⟩:=aC h;cases h;rw[d]at b c;obtain⟨g,f⟩:=CF c b e;exact⟨g,f,b,by show 0<18446744073709551616;omega⟩
 ·simp only[d,ne_eq,axk,aha,afK]at h;obtain⟨_,_,h⟩:=aC h;obtain⟨_,_,h⟩:=aC h;obtain⟨y,e,h⟩:=aC h;cases e;cases h;exact⟨c,rfl,b,by show 0<18446744073709551616;omega⟩
theorem akZ(h:pT x w= .ok a):RO x a/\a.2=bD:=by
 obtain⟨_,_,h⟩:=aC h;obtain⟨_,_,h⟩:=aC h;obtain⟨_,_,h⟩:=aC h;obtain⟨_,_,h⟩:=aC h;cases h;exact⟨⟨hx.s,rfl,by show 0<4294967296;omega,by show 0<18446744073709551616;omega⟩,rfl⟩
theorem axD(h:xo x= .ok a):RO x a:=by
 obtain⟨_,_,h⟩:=aC h;obtain⟨_,_,h⟩:=aC h;obtain⟨y,e,h⟩:=aC h;obtain⟨z,g,h⟩:=aC h;cases h;obtain⟨f,d⟩:=CG hx.s e;obtain⟨c,b⟩:=CF f hx.c.r g;exact⟨c,b.trans d,by show 0<4294967296;omega,by show 0<18446744073709551616;omega⟩
theorem axE(h:xp x= .ok a):RO x a:=by
 obtain⟨_,_,h⟩:=aC h;obtain⟨_,_,h⟩:=aC h;obtain⟨_,_,h⟩:=aC h;cases h;exact⟨hx.s.uh (hx.s.dV.aun _ _ hx.c.s),rfl,by show 0<4294967296;omega,by show 0<18446744073709551616;omega⟩
theorem axF(h:xq x= .ok a):RO x a:=by
 obtain⟨_,_,h⟩:=aC h;obtain⟨y,e,h⟩:=aC h;obtain⟨_,_,h⟩:=aC h;cases h;obtain⟨b,c⟩:=CG hx.s e;exact⟨b.qh (b.O.freeze hx.c.r),c,by show 0<4294967296;omega,by show 0<18446744073709551616;omega⟩
theorem axG(h:vD x= .ok a):RO x a:=by
 obtain⟨_,_,h⟩:=aC h;obtain⟨_,_,h⟩:=aC h;obtain⟨_,_,h⟩:=aC h;cases h;exact⟨hx.s.qh (hx.s.O.held hx.c.r),rfl,by show 0<4294967296;omega,by show 0<18446744073709551616;omega⟩
theorem axH(b: ∀t,(lD x.s.K t).2.1<4294967296)(h:pU x= .ok a):RO x a:=by
 unfold pU at h;obtain⟨_,_,h⟩:=aC h;obtain⟨_,_,h⟩:=aC h;obtain⟨_,_,h⟩:=aC h
 try rfl
 have d:=hx.t;have c:uf ⟨x.c.r,x.aa % 256,x.c.a % 256,decide (x.c.b=1),x.c.s⟩:=⟨hx.c.r,anS _ (by omega),anS _ (by omega),hx.c.s⟩;split at h
 ·obtain⟨_,_,h⟩:=aC h;obtain⟨_,_,h⟩:=aC h;cases h;exact⟨hx.s.xL (hx.s.tok.aiv c),rfl,b _,by show 0<18446744073709551616;omega⟩
 ·obtain⟨_,_,h⟩:=aC h;obtain⟨_,_,h⟩:=aC h;obtain⟨_,_,h⟩:=aC h;cases h;exact⟨hx.s.xL (hx.s.tok.aiv c),rfl,b _,by show 0<18446744073709551616;omega⟩
theorem axI(h:vE x= .ok a):RO x a:=by
 obtain⟨_,_,h⟩:=aC h;obtain⟨_,_,h⟩:=aC h;cases h;exact⟨hx.s.xL (hx.s.tok.ret _),rfl,by show 0<4294967296;omega,by show 0<18446744073709551616;omega⟩
theorem axJ(h:vF x= .ok a):RO x a:=by
 obtain⟨_,_,h⟩:=aC h;cases h;exact⟨hx.s.vR (hx.s.bx _).close,rfl,by show 0<4294967296;omega,by show 0<18446744073709551616;omega⟩
theorem axK(h:pV x= .ok a):RO x a:=by
 obtain⟨_,_,h⟩:=aC h;cases h;exact⟨hx.s.FV,rfl,by show 0<4294967296;omega,by show 0<18446744073709551616;omega⟩
theorem axL(h:nu x= .ok a):RO x a:=by
 unfold nu at h;obtain⟨c,hm⟩:=(hx.s.bx x.aa).take;have b:aW (x.bx x.aa (iz (x.s.bp x.aa)).1).s:=hx.s.vR c
 try dsimp only at h
 obtain⟨_,_,h⟩:=aC h;split at h
 ·obtain⟨y,e,h⟩:=aC h;cases h;obtain⟨f,d⟩:=CF b hm.aJ e;exact⟨f,d,hm.aJ,hm.word⟩
 ·obtain⟨y,e,h⟩:=aC h;cases e;cases h;exact⟨b,rfl,hm.aJ,hm.word⟩
theorem axM(e:x.run.1<=64/\x.run.2<=64)(h:jh x= .ok a):RO x a:=by
 unfold jh at h
 try dsimp only at h
 have d:=hx.s.T.get x.c.r;cases m:l9 (min x.c.a 129) (min x.c.b 9)with
 |none=>rw[m]at h;cases h
 |some n=>
  rw[m]at h;obtain⟨_,e1,h⟩:=aC h;cases e1;obtain⟨_,_,h⟩:=aC h;obtain⟨_,_,h⟩:=aC h;split at h
  ·rename_i k u;obtain⟨z,l,h⟩:=aC h;cases h;have b:k+min x.c.a 129<=2048:=by
    have:=Cp u;have:=d.aM;omega
   obtain⟨j,i⟩:=UC (r:={(aG x.s.T x.c.r).1 with len:=k+min x.c.a 129}) hx.s ⟨d.up,d.cZ,b,d.cells,d.runs,d.aM⟩ l;exact⟨j,i,by show 0<4294967296;omega,by show k<18446744073709551616;omega⟩
  ·obtain⟨_,g,h⟩:=aC h;have g:=xW g
   try dsimp only at h
   split at h
   ·cases h;exact⟨hx.s,rfl,by show 0<4294967296;omega,by show 0<18446744073709551616;omega⟩
   ·obtain⟨_,hm,h⟩:=aC h;have hm:=xW hm;obtain⟨z,l,h⟩:=aC h;cases h;simp only[agQ]at g;simp only[afz,agQ]at hm;have t:=aiB (aG x.s.T x.c.r).1.runs x.run;have o:=d.cZ;have p:=d.aM;have f:1<=x.run.2/\x.run.1+x.run.2<=64:=axB hm.2;have b: (match gB ((aG x.s.T x.c.r).1.runs++[x.run]) (aM (aG x.s.T x.c.r).1.runs*32) (min x.c.a 129) (min x.c.b 9)with|some a=>a+min x.c.a 129|none=>aM (aG x.s.T x.c.r).1.runs*32)<=2048:=by
     split
     ·rename_i q;exact ag2 (Cp q) (by omega)
     ·exact ag2 (alo 32 (show _<=64 by omega)) (by decide)
    obtain⟨j,i⟩:=UC (x:={s:=x.s,aa:=x.aa,c:=x.c,run:=x.run,kO:=n,asks:=x.asks,back:=x.back}) hx.s (axA d b (λr e=>by
     rcases aeg.1 e with e|e
     ·exact d.runs r e
     ·rw[aeh.1 e];exact f) (by omega)) l
    refine⟨j,i,by show 0<4294967296;omega,?_⟩;show(gB ((aG x.s.T x.c.r).1.runs++[x.run]) (aM (aG x.s.T x.c.r).1.runs*32) (min x.c.a 129) (min x.c.b 9)).getD 0<_;cases q:gB ((aG x.s.T x.c.r).1.runs++[x.run]) (aM (aG x.s.T x.c.r).1.runs*32) (min x.c.a 129) (min x.c.b 9)with
    |none=>show 0<_;omega
    |some k=>have:=Cp q;show k<_;omega
theorem axN(h:ox x= .ok a):RO x a:=by
 unfold ox at h;obtain⟨_,_,h⟩:=aC h;have key:eh (lF x.s.T x.c.r (min x.c.a 8) x.c.s (decide ((bu x.s.O x.s.T x.c.s).kind=3))).1:=by
  rw[Tt];split
  ·exact hx.s.dV.set ((hx.s.T.get x.c.r).setCells λi=>by
    unfold ao;split
    ·exact hx.c.s
    ·exact(hx.s.T.get x.c.r).cells i)
  ·exact hx.s.dV
 try rfl
 split at h
 ·obtain⟨_,_,h⟩:=aC h
  try rfl
  obtain⟨_,_,h⟩:=aC h;cases h;exact⟨hx.s.uh key,rfl,by show 0<4294967296;omega,by show 0<18446744073709551616;omega⟩
 ·try dsimp only at h
  obtain⟨_,_,h⟩:=aC h;cases h;exact⟨hx.s.uh key,rfl,by show 0<4294967296;omega,by show 0<18446744073709551616;omega⟩
theorem axO(h:vG x= .ok a):RO x a:=by
 obtain⟨_,_,h⟩:=aC h;obtain⟨_,_,h⟩:=aC h;cases h;refine⟨hx.s,rfl,?_,by show 0<18446744073709551616;omega⟩;unfold sX;split
 ·simp
 ·split
  ·simp
  ·dsimp only;split
   ·simp
   ·split
    ·simp
    ·exact(hx.s.T.get x.c.r).cells _
theorem axP(h:mJ x= .ok a):RO x a:=by
 unfold mJ at h;obtain⟨_,_,h⟩:=aC h;obtain⟨_,_,h⟩:=aC h
 try dsimp only at h
 have j:=hx.t;have hm: ∀b,qg ⟨x.aa % 256,x.c.v,x.c.r,b⟩:=λb=>⟨by grind,hx.c.v,hx.c.r⟩
 have fin: ∀ (y:ay) (b:Bool),aW y.s->y.back=x.back->(ch (iw (y.s.bp x.c.a) ⟨x.aa % 256,x.c.v,x.c.r,b⟩).2>>=λ_=>(Pure.pure (y.bx x.c.a (iw (y.s.bp x.c.a) ⟨x.aa % 256,x.c.v,x.c.r,b⟩).1,bD):R (ay×bt)))= .ok a->RO x a:=by
  intro y b d g h;obtain⟨_,_,h⟩:=aC h;cases h;exact⟨d.vR ((d.bx _).put (hm b)),g,by show 0<4294967296;omega,by show 0<18446744073709551616;omega⟩
 split at h
 ·obtain⟨_,_,h⟩:=aC h
  try dsimp only at h
  obtain⟨y,e,h⟩:=aC h;cases e;refine fin _ _ ?_ ?_ h
  ·split
   ·exact hx.s.qh (hx.s.O.held hx.c.r)
   ·exact hx.s
  ·split<;>rfl
 ·split at h
  ·obtain⟨_,_,h⟩:=aC h;obtain⟨y,e,h⟩:=aC h;obtain⟨f,i⟩:=CG hx.s e
   try dsimp only at h
   obtain⟨_,_,h⟩:=aC h;obtain⟨z,c,h⟩:=aC h;cases c;exact fin (y.o (vy y.s.O y.s.T x.c.r).1) _ (f.qh (f.O.qi hx.c.r)) i h
  ·obtain⟨z,c,h⟩:=aC h;cases c;exact fin _ _ hx.s rfl h
end
structure GI(y:ay):Prop where
 s:aW y.s
 fx:Go.Proofs.YteplichagkpciaaGreatDoor.fx y<=2048
 runs: ∀r∈y.back,r.1<=64/\r.2<=64
def GI.len(h:GI y):y.back.length<=4096:=by have:=h.fx;unfold Go.Proofs.YteplichagkpciaaGreatDoor.fx at this;omega
def GI.set(h:GI y)(b:aW z.s)(c:z.back=y.back)(d:z.s.T=y.s.T):GI z:=
 ⟨b,by have:=h.fx;unfold Go.Proofs.YteplichagkpciaaGreatDoor.fx at*;grind,by rw[c];exact h.runs⟩
theorem ak0: ∀ (l:lN) (y:ay),aW y.s->(∀r∈y.back,r.1<=64/\r.2<=64)-> ∀r∈(l.foldl fE y).back,r.1<=64/\r.2<=64
 | [],_,_,h=>h
 |a::l,y,c,h=>ak0 l (fE y a) (TC [a] y c) λr b=>by
  rcases aeg.1 (show r∈y.back++(aG y.s.T a).1.runs from b)with b|b
  ·grind
  ·have:=(c.T.get a).runs r b;omega
def GI.gone(h:GI y)(a:Nat):GI (ef y a):=⟨FY h.s a,ag2 (TJ h.s a) h.fx,ak0 _ y h.s h.runs⟩
def GI.fW(h:GI y)(c:a<4294967296)(b:ji y a aa= .ok z):GI z:=by
 obtain⟨_,_,b⟩:=aC b;have d:GI (y.o (c7 y.s.O y.s.T a aa false).1):=h.set (h.s.qh (h.s.O.held c)) rfl rfl;cases b;split
 ·exact d.gone a
 omega
theorem GI.foldlM{β:Type}{P:β->Prop}{f:ay->β->R ay}(d: ∀y b z,GI y->P b->f y b= .ok z->GI z): ∀ (l:List β) (y z:ay),(∀b∈l,P b)->GI y->l.foldlM f y= .ok z->GI z
 | [],y,z,_,h,e=>by cases e;exact h
 |b::l,y,z,g,h,e=>by
  obtain⟨w,e1,j⟩:=aC (show(f y b>>=λw=>l.foldlM f w)= .ok z from by grind);exact GI.foldlM d l w z (λc i=>g c (afv _ i)) (d y b w h (g b (afG ..)) e1) j
theorem GI.foldl{β:Type}{f:ay->β->ay}(c: ∀y b,GI y->GI (f y b)): ∀ (l:List β) (y:ay),GI y->GI (l.foldl f y)
 | [],_,h=>h
 |b::l,y,h=>GI.foldl c l (f y b) (c y b h)
def GI.dies(h:GI x)(e:lG x aa= .ok y):GI y:=by
 rw[LO]at e;obtain⟨w,e1,g⟩:=aC e;have q:GI (nE x aa):=h.set ((h.s.vR gW.gone).FV) rfl rfl;have p:GI w:=GI.foldlM (P:=qg) (λy m z b hm e=>by
  unfold uj at e;split at e
  ·cases e;exact b
  ·split at e
   ·obtain⟨k,j⟩:=CF b.s hm.aJ e;obtain⟨_,_,e⟩:=aC e;cases e;exact b.set k j rfl
   ·cases e;exact b.gone _) _ _ _ (λm hm=>by
    obtain⟨i,_,rfl⟩:=afq.1 hm;exact(h.s.bx aa).ring _) q e1
 unfold Cr at g;have o:=GI.foldl (f:=λy h=>y.k (jB y.s.K h).1) (λy a b=>b.set (b.s.xL (b.s.tok.ret a)) rfl rfl) (rA w.s.K aa) w p;have d:=λl=>GI.foldl (f:=ef) (λy a b=>b.gone a) l _ o
 refine GI.foldlM (P:=λa=>a<4294967296) (λy a z b c e=>b.fW c e) _ _ _ (λa c=>?_) (d _) g;have n:=(afI.1 c).1;exact fV ((ia (d _).s.T.b).1 n)
def GI.start{s:bm}(d:aW s)(aa:Nat)(c:cn)(run:aD)(n:Nat)(b:Bool):GI ⟨s,aa,c,run,n,b,[]⟩:=by
 refine⟨d,?_,λr e=>by grind⟩;have:=mG s.T.b;show([]:List aD).length+64*(bc s.T.b).length<=2048
 grind
structure RD(c:cn)(a:ay×bt):Prop where
 s:aW a.1.s
 len:a.1.back.length<=4096
 runs: ∀r∈a.1.back,r.1<=64/\r.2<=64
 v:c.op=3->a.2.v=0
 w:a.2.w<4294967296
 v2:a.2.v<18446744073709551616
def RO.d{a:ay×bt}(h:RO x a)(b:GI x)(d:c.op=3->a.2.v=0):RD c a:=
 ⟨h.s,by rw[h.back];exact b.len,by rw[h.back];exact b.runs,d,h.w,h.v⟩
def GI.d(h:GI y):RD c (y,bD):=⟨h.s,h.len,h.runs,λ_=>rfl,by show 0<4294967296;omega,by show 0<18446744073709551616;omega⟩
def axQ(hx:mP x)(d:GI x){a:ay×bt}(h:sZ x= .ok a):RD x.c a:=by
 unfold sZ at h;obtain⟨_,_,h⟩:=aC h;obtain⟨_,_,h⟩:=aC h
 try rfl
 obtain⟨y,e,h⟩:=aC h;cases h;have b:=hx.s.T.get x.c.r;have c:gA {cU with cZ:=(aG x.s.T x.c.r).1.cZ}:=⟨by simp[cU],b.cZ,by simp[cU],by simp[cU],by simp[cU],by simp[cU,aM]⟩;obtain⟨g,f⟩:=UC (x:={x with back:=x.back++(aG x.s.T x.c.r).1.runs}) hx.s c e;have i: (aG x.s.T x.c.r).1.runs.length<=64:=ag2 (Tb λr h=>(b.runs r h).1) b.aM;refine⟨g,?_,?_,λ_=>rfl,by show 0<4294967296;omega,by show 0<18446744073709551616;omega⟩
 ·rw[f];have:=d.fx;unfold fx at this
  grind
 ·rw[f];intro r hm;rcases aeg.1 (show r∈x.back++(aG x.s.T x.c.r).1.runs from hm)with hm|hm
  ·exact d.runs r hm
  ·have:=b.runs r hm;omega
def axR(b:GI x){a:ay×bt}(h:vB x= .ok a):RD x.c a:=by
 obtain⟨_,_,h⟩:=aC h;cases h;exact(b.gone _).d
def axS(hx:mP x)(b:GI x){a:ay×bt}(h:xr x= .ok a):RD x.c a:=by
 obtain⟨_,_,h⟩:=aC h;obtain⟨y,e,h⟩:=aC h;cases h;exact(b.fW hx.c.r e).d
def ak1(b:GI x){a:ay×bt}{t:Nat}(h: (lG x t>>=λy=>.ok (y,bD))= .ok a):RD x.c a:=by
 obtain⟨y,e,h⟩:=aC h;cases h;exact(b.dies e).d
def axT{k:bo}(c:fL k.b){x:Tok}: (lD k x).2.1<4294967296:=by
 unfold lD;split
 ·simp
 ·split
  ·rename_i i b;split
   ·exact Fx (pO b).1 (c i).1
   grind
  grind
def axU(hx:mP x)(b:GI x)(c:x.run.1<=64/\x.run.2<=64){a:ay×bt}(h:ib x= .ok a):RD x.c a:=by
 unfold ib at h;split at h
 all_goals try(rename_i ho;first
  |exact(axC hx h).d b (λq=>absurd (ho ▸ q) (by decide))
  |exact(axM hx c h).d b (λq=>absurd (ho ▸ q) (by decide))
  |exact(akZ hx h).1.d b (λq=>ag3 bt.v (akZ hx h).2)
  |exact axQ hx b h
  |exact axR b h
  |exact axS hx b h
  |exact ak1 b h
  |exact(axD hx h).d b (λq=>absurd (ho ▸ q) (by decide))
  |exact(axE hx h).d b (λq=>absurd (ho ▸ q) (by decide))
  |exact(axF hx h).d b (λq=>absurd (ho ▸ q) (by decide))
  |exact(axG hx h).d b (λq=>absurd (ho ▸ q) (by decide))
  |exact(axH hx (λt=>axT hx.s.K.b) h).d b (λq=>absurd (ho ▸ q) (by decide))
  |exact(axI hx h).d b (λq=>absurd (ho ▸ q) (by decide))
  |exact(axP hx h).d b (λq=>absurd (ho ▸ q) (by decide))
  |exact(axL hx h).d b (λq=>absurd (ho ▸ q) (by decide))
  |exact(axJ hx h).d b (λq=>absurd (ho ▸ q) (by decide))
  |exact(axN hx h).d b (λq=>absurd (ho ▸ q) (by decide))
  |exact(axO hx h).d b (λq=>absurd (ho ▸ q) (by decide))
  |exact(axK hx h).d b (λq=>absurd (ho ▸ q) (by decide)))
 ·unfold xu at h;obtain⟨_,_,h⟩:=aC h;exact ak1 b h
 ·cases h
def ak2{s:bm}(f:aW s)(k:gE c){run:aD}(g:run.1<=64/\run.2<=64):rT (dg s aa c run) c/\ (dg s aa c run).2.1.v<18446744073709551616:=by
 rw[F2];cases h:gS ⟨s,aa,c,run,0,false,[]⟩with
 |error e=>
  have:=(avu h).2;exact⟨⟨f,by simp,λr g=>(by grind),λ_=>by show 0<18446744073709551616;omega,by show 0<4294967296;omega,by grind⟩,by show 0<18446744073709551616;omega⟩
 |ok a=>
  obtain⟨y,r⟩:=a;have he:=LS h;obtain⟨_,i,h⟩:=aC (show(ask _ _>>=λ_=>ib _)=_ from h);have i:=xW i;have j:aa<8:=by grind
  have b:=axU (x:=⟨s,aa,c,run,0,false,[]⟩) ⟨f,j,k,by grind,by grind⟩ (GI.start f ..) g h;exact⟨⟨b.s,b.len,b.runs,λq=>by rw[show r.v=0 from b.v q];decide,b.w,by grind⟩,b.v2⟩
def UD{s:bm}(b:aW s)(e:gE c){run:aD}(d:run.1<=64/\run.2<=64):rT (dg s aa c run) c:=(ak2 b e d).1
structure SK(s:bB)(c0:cn)(n:Nat):Prop where
 S:aW s.x.S
 P:fy s.x.P
 M: ∀i,iU (s.x.M i)
 Q: ∀k∈s.x.Q,k<2147483648
 len:s.x.Q.length<=n
 c:fS s.c
 run:s.c.run.1<=64/\s.c.run.2<=64
 cc:s.c.c=c0
 w:s.r.w<4294967296
 e:s.r.e<4294967296
 v:s.r.v<18446744073709551616
theorem ak3: ∀ (l:lN) (f g:Nat->Nat) (P:cz),fy P->(∀i,g i<256)->fy (l.foldl (λP i=>ma P (f i) (g i)) P)
 | [],_,_,_,a,_=>a
 |i::l,f,g,P,a,b=>ak3 l f g _ (a.write _ _ (b i)) b
section
variable{s:bB}{c0:cn}{n:Nat}(h:SK s c0 n)
include h
theorem SK.iV:gE c0:=h.cc ▸ h.c.iV
theorem SK.ends{r:bt}(b:r.w<4294967296)(e:r.e<4294967296)(c:r.v<18446744073709551616):SK (oB s r) c0 (n+64):=by
 refine⟨h.S,h.P,TV h.M _,λk a=>?_,?_,h.c,h.run,h.cc,b,e,c⟩
 ·rcases aeg.1 (show k∈s.x.Q++fi s.c.run from a)with a|a
  ·exact h.Q k a
  ·obtain⟨i,d,rfl⟩:=afq.1 a;have:=aiF.1 d;have:=h.run;omega
 ·show(oA _ _).Q.length<=_;rw[akI];have:=h.len;have:=h.run;omega
theorem SK.check(b: ∀a∈s6 s.x.S c0,a<4294967296):SK (ic s).1 c0 (n+64):=by
 have c:=h.len;unfold ic;rw[h.cc];split
 ·exact⟨h.S,h.P,h.M,h.Q,by grind,h.c,h.run,h.cc,h.w,h.e,h.v⟩
 split
 ·exact⟨h.S,h.P,h.M,h.Q,by grind,h.c,h.run,h.cc,h.w,h.e,h.v⟩
 split
 ·refine h.ends (by show 0<_;omega) ?_ (by show 0<_;omega);show oy s.x.S s.c.aa c0<_;unfold oy;split
  ·omega
  ·exact(UD h.S h.iV (run:=(0,0)) ⟨by simp,by simp⟩).e
 ·exact⟨h.S,h.P,h.M,h.Q,by grind,⟨h.c.aa,h.c.iV,b,h.c.run,h.c.fF⟩,h.run,h.cc,h.w,h.e,h.v⟩
theorem SK.marks:SK (ie s).1 c0 n:=by
 unfold ie;split
 ·exact h
 ·rename_i a l c;refine⟨h.S,h.P,avN h.M _,h.Q,h.len,?_,?_,?_,h.w,h.e,h.v⟩
  ·show fS (if(jk s.x.M (aI a) s.c.aa).2 then{s.c with aY:=l}else s.c);split
   ·exact⟨h.c.aa,h.c.iV,λb d=>h.c.aY b (by grind),h.c.run,h.c.fF⟩
   ·exact h.c
  ·show(if(jk s.x.M (aI a) s.c.aa).2 then{s.c with aY:=l}else s.c).run.1<=64/\ (if(jk s.x.M (aI a) s.c.aa).2 then{s.c with aY:=l}else s.c).run.2<=64;split
   ·exact h.run
   ·exact h.run
  ·show(if(jk s.x.M (aI a) s.c.aa).2 then{s.c with aY:=l}else s.c).c=c0;split
   ·exact h.cc
   ·exact h.cc
theorem SK.axV:SK (iA s).1 c0 (n+64):=by
 have d:=h.len;have c:=ajZ s.x.S s.c.aa s.c.c;unfold iA;dsimp only;split
 ·exact⟨h.S,h.P,h.M,h.Q,by grind,h.c,h.run,h.cc,h.w,h.e,h.v⟩
 have a:=h.P.ajY (dO s.x.S s.c.aa s.c.c);split
 ·have b:SK {s with x:={s.x with P:=(gj s.x.P (dO s.x.S s.c.aa s.c.c)).1}} c0 n:=⟨h.S,a,h.M,h.Q,h.len,h.c,h.run,h.cc,h.w,h.e,h.v⟩;refine b.ends (by show 0<_;omega) ?_ (by show 0<_;omega);unfold gj
  grind
 ·rename_i he;have:=awp h.P _ (by omega) (Decidable.not_not.1 he);exact⟨h.S,a,h.M,h.Q,by grind,⟨h.c.aa,h.c.iV,h.c.aY,⟨by grind,by show dO _ _ _<_;omega⟩,h.c.fF⟩,⟨by show(gj _ _).2.1<=_;omega,by show dO _ _ _<=_;omega⟩,h.cc,h.w,h.e,h.v⟩
theorem SK.axW:SK (jl s).1 c0 n:=by
 unfold jl;split
 ·exact h
 ·have:=h.run;exact⟨h.S,h.P.clear _,h.M,h.Q,h.len,⟨h.c.aa,h.c.iV,h.c.aY,h.c.run,by grind⟩,h.run,h.cc,h.w,h.e,h.v⟩
theorem SK.fj:SK (Go.Proofs.YteplichagkpciaaGreatDoor.fj s) c0 (n+64):=by
 have c:=h.len;unfold Go.Proofs.YteplichagkpciaaGreatDoor.fj;split
 ·have b:=h.run;refine⟨h.S,h.P,h.M,λk a=>?_,?_,⟨h.c.aa,h.c.iV,h.c.aY,⟨by simp,by simp⟩,h.c.fF⟩,⟨by simp,by simp⟩,h.cc,h.w,h.e,h.v⟩
  ·rcases aeg.1 (show k∈s.x.Q++fi s.c.run from a)with a|a
   ·exact h.Q k a
   ·obtain⟨i,d,rfl⟩:=afq.1 a
    grind
  ·show(s.x.Q++fi s.c.run).length<=_;rw[aeb];have: (fi s.c.run).length=s.c.run.2:=by simp[fi]
   omega
 ·exact⟨h.S,h.P,h.M,h.Q,by omega,h.c,h.run,h.cc,h.w,h.e,h.v⟩
theorem SK.axX:SK (oC s) c0 (n+262400):=by
 rw[akd];have a:=h.fj;generalize Go.Proofs.YteplichagkpciaaGreatDoor.fj s=st at a;obtain⟨b,d⟩:=ak2 a.S a.iV (aa:=st.c.aa) (run:=st.c.run) a.run;unfold L8;rw[a.cc];dsimp only;split
 ·have:=a.ends b.w b.e d;exact⟨this.S,this.P,this.M,this.Q,by have:=this.len;omega,this.c,this.run,this.cc,this.w,this.e,this.v⟩
 ·have v:=a.len;have q:=b.len;have w:fy (Ad st.x.P c0 (iR st.x.S c0).1):=by
   unfold Ad;split
   ·exact ak3 _ _ _ _ a.P λi=>anS _ (by omega)
   ·exact a.P
  generalize t: ({st.x with S:=(dg st.x.S st.c.aa c0 st.c.run).1,P:=Ad st.x.P c0 (iR st.x.S c0).1}:Core)=X;have e:X.Q=st.x.Q:=by grind
  have j:X.M=st.x.M:=by grind
  have g:fy X.P:=by grind
  have f:aW X.S:=by rw[<-t];exact b.S
  obtain⟨o,m,l⟩:=Ui (dg st.x.S st.c.aa c0 st.c.run).2.2 X;have k:=Cv (dg st.x.S st.c.aa c0 st.c.run).2.2 X λr p=>(b.runs r p).2
  have u:SK {st with x:=(dg st.x.S st.c.aa c0 st.c.run).2.2.foldl b8 X,c:={st.c with run:=(0,0)}} c0 (n+262336):=
   ⟨o ▸ f,m ▸ g,by rw[show((dg st.x.S st.c.aa c0 st.c.run).2.2.foldl b8 X).M=X.M from l,j];exact a.M,Uj _ X b.runs (by rw[e];exact a.Q),by
     rw[e]at k;exact ag2 k (by omega),⟨a.c.aa,a.c.iV,a.c.aY,⟨by show 0<_;omega,by show 0<_;omega⟩,a.c.fF⟩,⟨by show 0<=_;omega,by show 0<=_;omega⟩,a.cc,a.w,a.e,a.v⟩
  refine u.ends b.w b.e ?_;show Ae _ _ _ _<_;unfold Ae;split
  ·exact Ue a.P _ _ d _ (aj2 a.S c0).1
  omega
theorem SK.mono{m:Nat}(a:n<=m):SK s c0 m:=⟨h.S,h.P,h.M,h.Q,by have:=h.len;omega,h.c,h.run,h.cc,h.w,h.e,h.v⟩
end
def axY(c:eh t){h:Nat}(b:a∈under t h):t.ar a=true:=by
 unfold under at b;split at b
 ·rename_i d;exact zF c.ok.b d b
 grind
def axZ{s:bm}(g:aW s): ∀a∈s6 s c,a<4294967296:=by
 have j: ∀h,∀a∈oz s h,a<4294967296:=λh a d=>by
  unfold oz at d;split at d
  ·rename_i i;rw[aeh.1 d];exact fV i
  ·cases d
 have e: ∀h,∀a∈under s.T h,a<4294967296:=λh a d=>fV (axY g.dV d)
 intro a d;unfold s6 at d;split at d
 ·exact j _ a d
 split at d
 ·exact e _ a d
 split at d
 ·split at d
  ·cases d
  ·rename_i f;split at d
   ·exact e _ a d
   ·rcases aeg.1 d with d|d
    ·exact e _ a d
    ·rw[aeh.1 d];refine fV (b:=s.T.b) ?_;simp only[not_or,Bool.not_eq_false]at f;exact f.2
 grind
def ak4{x:Core}{c:Call}(a:jH x)(i:fS c)(g:c.run.1<=64/\c.run.2<=64):SK (fw x c) c.c (x.Q.length+262528):=by
 have j:SK ⟨x,c,bD,false⟩ c.c x.Q.length:=⟨a.S,a.P,a.M,a.Q,aef _,i,g,rfl,by show 0<_;omega,by show 0<_;omega,by show 0<_;omega⟩;have f:=j.check (axZ a.S);have e:=f.marks;have d:=e.axV;have b:=d.axW;unfold fw;dsimp only;split
 ·exact f.mono (by omega)
 split
 ·exact e.mono (by omega)
 split
 ·exact d.mono (by omega)
 split
 ·exact b.mono (by omega)
 ·exact b.axX.mono (by omega)
def ax0(h:dv m)(t:Nat): (fw m.ai (m.aB t).c).r.v<18446744073709551616:=(ak4 h.ai (h.c t) (h.run t)).v
def ak5(h:dv m)(e:m.ai.Q.length<2147483648)(t:Nat):akU m t/\ (xV m t).ai.Q.length<=m.ai.Q.length+262528:=by
 have a:=ak4 h.ai (h.c t) (h.run t);have d:SK ⟨m.ai,(m.aB t).c,bD,false⟩ (m.aB t).c.c m.ai.Q.length:=⟨h.ai.S,h.ai.P,h.ai.M,h.ai.Q,aef _,h.c t,h.run t,rfl,by show 0<_;omega,by show 0<_;omega,by show 0<_;omega⟩;have b:=d.fj;have c:=a.len;refine⟨⟨?_,⟨⟨a.S,a.P,a.M,a.Q,by show(fw _ _).x.Q.length<_;omega⟩,λj=>?_,λj=>?_,λj=>?_,h.now,h.ev,λj=>?_⟩,⟨a.w,a.e⟩,?_⟩,c⟩
 ·rw[b.cc];exact UD b.S (h.c t).iV b.run
 ·show lO (ao m.aB t _ j).t;unfold ao;split
  ·exact h.t t
  ·exact h.t j
 ·show fS (ao m.aB t _ j).c;unfold ao;split
  ·exact a.c
  ·exact h.c j
 ·show(ao m.aB t _ j).fr<_;unfold ao;split
  ·exact h.fr t
  ·exact h.fr j
 ·show(ao m.aB t _ j).c.run.1<=64/\ (ao m.aB t _ j).c.run.2<=64;unfold ao;split
  ·exact a.run
  ·exact h.run j
 ·rw[a.cc];exact(h.c t).iV.op
def ax1{t:Task}(h:lO t){v:Nat}(a:v<18446744073709551616): ∀j,ao t.aY i v j<18446744073709551616:=λj=>by
 unfold ao;split
 ·omega
 ·exact h.aY j
def ax2{t:Task}(h:lO t):lO (pX t):=by
 unfold pX;split
 ·exact h
 split
 ·exact h
 ·rename_i x c;have e:t.next<t.code.length:=(acW.1 c).1;have f:=h.len;have b:=Gi h c;have a: ∀v,v<18446744073709551616->lO {t with aY:=ao t.aY (x.a % 8) v,next:=t.next+1}:=λv d=>
   ⟨h.len,h.ins,by show t.next+1<=64;omega,ax1 h d⟩
  dsimp only;split
  ·exact a _ (by have:=b.n;omega)
  split
  ·exact a _ (anS _ (by decide))
  split
  ·exact a _ (anS _ (by decide))
  split
  ·exact a _ (anS _ (by decide))
  split
  ·rename_i i;refine⟨h.len,h.ins,?_,h.aY⟩;show x.n<=64;exact b.j (.inl i)
  split
  ·rename_i g;refine⟨h.len,h.ins,?_,h.aY⟩;have:=b.j (.inr g);show(if _ then x.n else t.next+1)<=64;split
   ·omega
   ·exact ag2 e f
  ·exact⟨h.len,h.ins,by show t.next+1<=64;omega,h.aY⟩
def ax3{t:Task}(h:lO t){r:bt}(c:r.v<18446744073709551616)(b:r.w<4294967296)(f:r.e<4294967296):lO (s8 t r):=by
 unfold s8;split
 ·exact h
 ·rename_i x a;have d:t.next<t.code.length:=(acW.1 a).1;have e:=h.len;split
  ·refine⟨h.len,h.ins,by grind,λj=>?_⟩;show ao (ao (ao t.aY (x.a % 8) r.v) 4 r.w) 7 r.e j<_;unfold ao;split
   ·omega
   ·split
    ·omega
    ·split
     ·omega
     ·exact h.aY j
  omega
structure qt(m:aQ):Prop where
 ok:dv m
 q:m.ai.Q.length<=263200*m.now
 e:m.c8.length<=m.now
def dv.Ai(h:dv m)(a:n<2147483648):dv {m with now:=n}:=⟨h.ai,h.t,h.c,h.fr,a,h.ev,h.run⟩
def dv.ended(h:dv m){t:Nat}{c:Call}{run:aD}{r:bt}(b:r.v<18446744073709551616)(a:r.w<4294967296)(d:r.e<4294967296)(e:m.c8.length<2147483647):dv (KZ m t c run r):=by
 refine⟨h.ai,λj=>?_,λj=>?_,λj=>?_,h.now,?_,λj=>?_⟩
 ·show lO (ao m.aB t _ j).t;unfold ao;split
  ·exact ax3 (h.t t) b a d
  ·exact h.t j
 ·show fS (ao m.aB t _ j).c;unfold ao;split
  ·exact CB
  ·exact h.c j
 ·show(ao m.aB t _ j).fr<_;unfold ao;split
  ·exact h.fr t
  ·exact h.fr j
 ·show(m.c8++[_]).length<_
  grind
 ·show(ao m.aB t _ j).c.run.1<=64/\ (ao m.aB t _ j).c.run.2<=64;unfold ao;split
  ·exact⟨by show 0<=64;omega,by show 0<=64;omega⟩
  ·exact h.run j
structure Gp(a b:aQ):Prop where
 q:b.ai.Q.length<=a.ai.Q.length+262600
 e:b.c8.length<=a.c8.length+1
 n:b.now=a.now
def ak6(h:dv m)(c:m.ai.Q.length<2147483648)(b:m.c8.length<2147483647)(t:Nat):dv (pY m t)/\Gp m (pY m t):=by
 obtain⟨a,d⟩:=ak5 h c t;rw[akM];split
 ·refine⟨a.m'.ended (ax0 h t) a.r.1 a.r.2 b,by show(xV m t).ai.Q.length<=_;omega,?_,rfl⟩;show(m.c8++[_]).length<=_
  grind
 ·exact⟨a.m',by omega,by show m.c8.length<=_;omega,rfl⟩
def ak7(h:dv m)(c:m.ai.Q.length<2147483648)(b:m.c8.length<2147483647){t:Nat}(d:t<8):dv (rJ m t)/\Gp m (rJ m t):=by
 unfold rJ;dsimp only;split
 ·exact ak6 h c b t
 split
 ·obtain⟨e,a⟩:=ak6 (m:=CE m t) (h.wanted d) c b t;exact⟨e,a.q,a.e,a.n⟩
 ·refine⟨⟨h.ai,λj=>?_,λj=>?_,λj=>?_,h.now,h.ev,λj=>?_⟩,by simp,by simp,rfl⟩
  ·show lO (ao m.aB t _ j).t;unfold ao;split
   ·exact ax2 (h.t t)
   ·exact h.t j
  ·show fS (ao m.aB t _ j).c;unfold ao;split
   ·exact h.c t
   ·exact h.c j
  ·show(ao m.aB t _ j).fr<_;unfold ao;split
   ·exact h.fr t
   ·exact h.fr j
  ·show(ao m.aB t _ j).c.run.1<=64/\ (ao m.aB t _ j).c.run.2<=64;unfold ao;split
   ·exact h.run t
   ·exact h.run j
def ax4:gE ga:=⟨by decide,by decide,by decide,by decide,by decide,by decide⟩
def ak8(h:dv m)(t:Nat):rT (dg m.ai.S t ga (0,0)) ga:=UD h.ai.S ax4 ⟨by simp,by simp⟩
def ak9(h:dv m)(g:m.ai.Q.length<2147483648)(f:m.c8.length<2147483647)(t:Nat):dv (vI m t)/\Gp m (vI m t):=by
 have b:=ak8 h t;have d:=Cv (dg m.ai.S t ga (0,0)).2.2 m.ai λr c=>(b.runs r c).2
 have e:=b.len;have a:=jH.akb (x:=m.ai) h.ai b.runs (by omega);refine⟨⟨⟨b.S,a.P,a.M,a.Q,a.Ql⟩,h.t,h.c,h.fr,h.now,?_,h.run⟩,?_,?_,rfl⟩
 ·show(m.c8++[_]).length<_
  grind
 ·exact ag2 d (by omega)
 ·show(m.c8++[_]).length<=_
  grind
def ax5(h:dv m)(a:m.ai.Q.length<1073741824):dv (jT m)/\ (jT m).ai.Q.length<=m.ai.Q.length+512:=by
 obtain⟨c,b⟩:=Uw h a 8 (by omega);exact⟨c,b⟩
def ala(m:aQ)(i:Nat): (kb m i).c8=m.c8/\ (kb m i).now=m.now:=by unfold kb;grind
theorem Mh(m:aQ): ∀k,(fZ m k).c8=m.c8/\ (fZ m k).now=m.now
 |0=>⟨rfl,rfl⟩
 |k+1=>by rw[Ah];exact⟨(ala _ _).1.trans (Mh m k).1,(ala _ _).2.trans (Mh m k).2⟩
def alb{x:Core}(h:jH x):jH (gC x).1/\ (gC x).1.Q.length<=x.Q.length:=by
 unfold gC;split
 ·grind
 ·rename_i a l c;exact⟨⟨h.S,h.P.back _,h.M,λk b=>h.Q k (by grind),by have:=h.Ql;grind⟩,by grind⟩
def qt.clear{a:aQ}(h:qt a)(e:dv m)(b:Gp a {m with now:=a.now})(g:m.now=a.now+1)(i:a.now<=4000):qt (jT m):=by
 have o:m.ai.Q.length<=a.ai.Q.length+262600:=b.q;have n:m.c8.length<=a.c8.length+1:=b.e;have l:=h.q;have k:=h.e;obtain⟨f,j⟩:=ax5 e (by omega);obtain⟨d,c⟩:=Mh m 8;have d: (jT m).c8=m.c8:=d;have c: (jT m).now=m.now:=c;exact⟨f,by omega,by grind⟩
def ax6(h:qt m)(e:m.now<=4000)(b:Nat):qt (gT m b).1/\ (gT m b).1.now<=m.now+1:=by
 have g:=h.q;have he:=h.e;have c:=(h.ok.Ai (n:=m.now+1) (by omega));have key: ∀m':aQ,dv m'->Gp m {m' with now:=m.now}->m'.now=m.now+1->qt (jT m')/\ (jT m').now<=m.now+1:=λm' d a f=>
  ⟨h.clear d a f e,by have: (jT m').now=m'.now:=(Mh m' 8).2;omega⟩
 unfold gT;dsimp only;split
 ·grind
 split
 ·split
  ·obtain⟨d,a⟩:=alb h.ok.ai;exact key _ ⟨d,h.ok.t,h.ok.c,h.ok.fr,by show m.now+1<_;omega,h.ok.ev,h.ok.run⟩ ⟨by show(gC m.ai).1.Q.length<=_;omega,by show m.c8.length<=_;omega,rfl⟩ rfl
  grind
 split
 ·exact⟨h,Nat.le_succ m.now⟩
 split
 ·obtain⟨d,a⟩:=ak9 c (by show m.ai.Q.length<_;omega) (by show m.c8.length<_;omega) (b % 8);exact key _ d ⟨a.q,a.e,rfl⟩ a.n
 ·obtain⟨d,a⟩:=ak7 c (by show m.ai.Q.length<_;omega) (by show m.c8.length<_;omega) (anS b (by decide));exact key _ d ⟨a.q,a.e,rfl⟩ a.n
def bQ.Ai{M p:Nat}{ev:AV}{aP:Nat->AV}{H:List ae}(h:bQ n M p q m qv ev aE aP H)(k:Nat):
 bQ n M p q {m with now:=k} qv ev aE aP (H.set M (.box (cH {m with now:=k} p aE aP ev) none)):=h.set rfl rfl h.cv h.rv
def Gq{M p:Nat}{ev:AV}{aP:Nat->AV}{H:List ae}(hD: ∀op,qm op)(d:bQ n M p q m qv ev aE aP H)(l:qt m)(hn:m.now<=4000)(b:Nat)(hb:b<256)(lo:oN):
  ∃J,D XC (.fn (.func 30) [] []) [.ptr M 0,.int .u8 b] ⟨H,lo⟩=some J/\il n M p q H lo (gT m b).1 qv ev (.int .i64 (gT m b).2) J:=by
 refine cN sP λN t=>?_
 have Gm:M<N:=by rw[<-t];exact d.lt
 have oI:p<N:=by rw[<-t];exact d.co.lt
 have UA:=d.nM;have hq:=l.q;have he:=l.e;have Y:b % 8<8:=anS _ (by decide);have e: (b:Int).tmod 8=((b % 8:Nat):Int):=by rw[Int.tmod_eq_emod_of_nonneg (by omega)];omega
 have i:IntKind.i64.wrap ((b % 8:Nat):Int)=((b % 8:Nat):Int):=wrap_i64 (by omega) (by omega);have A:IntKind.i64.wrap ((m.now:Int)+1)=((m.now+1:Nat):Int):=wrap_i64 (by omega) (by omega);have g:=l.ok.Ai (n:=m.now+1) (by omega);have hA:=d.Ai (m.now+1);have hF:=d.fM (.box (cH {m with now:=m.now+1} p aE aP ev) none);have f:dJ EK.ptr (AV.ptr M 0) AV.eI=some false:=rfl;have o:aO (cH m p aE aP ev) 193 [.int .i64 ((m.now:Int)+1)]=cH {m with now:=m.now+1} p aE aP ev:=akD (n:=m.now+1);unfold gT;dsimp only;by_cases k1:8<b/\b<16\/24<=b
 ·rw[adG k1];have g1: (8:Int)<b:=by omega
  by_cases k2:b<16
  ·have g2: (b:Int)<16:=by omega
   simp only[go_sem,simprocAttr,sP,e,i,f,g1,g2];exact il.fin d t d Fm.refl (fY.no ⟨rfl,rfl⟩) (aee _)
  ·have g2: ¬(b:Int)<16:=by omega
   have I: (24:Int)<=b:=by omega
   simp only[go_sem,simprocAttr,sP,e,i,f,g1,g2,I];exact il.fin d t d Fm.refl (fY.no ⟨rfl,rfl⟩) (aee _)
 rw[adE k1];have I: ¬(24:Int)<=b:=by omega
 have E: ∀ (m':aQ) (y C:AV) (nI s:Nat->AV) (W:List ae) (ak:oN),dv m'->m'.ai.Q.length<1073741824->bQ n M p q m' y C nI s W->Fm n [M,p,q] H W->fY (y=qv/\C=ev) p ak->
   ∃v w c,D XC (.fn (.func 63) [] []) [.ptr M 0] ⟨W,ak⟩=some (.ret v ⟨w,c⟩)/\il n M p q H lo (jT m') qv ev (.int .i64 0) (.ret (finish N lo (.int .i64 0) ⟨w,c⟩).1 (finish N lo (.int .i64 0) ⟨w,c⟩).2):=by
  intro m' y C nI s W ak h1 h2 h3 h4 h5;obtain⟨J,G,x,P,u,r,w,c,rfl,F,c3,c4⟩:=axg h3 h1 h2 ak;exact⟨_,w,c,G,il.fin d t F (h4.trans c3) (h5.step c4 λa b=>⟨b.1.trans a.1,b.2.trans a.2⟩) (aee _)⟩
 by_cases k8:b=8
 ·rw[adG k8];have g1: ¬(8:Int)<b:=by omega
  have B: (b:Int)=8:=by omega
  obtain⟨J,Q,x,W,c,rfl,r2,U,r4⟩:=awo d.co l.ok.ai none;have k:=d.ai r2 U;obtain⟨T,ro2⟩:=alb l.ok.ai;cases L: (gC m.ai).2 with
  |false=>
   rw[L]at Q;rw[adE (by decide)];have e1: ({m with ai:=(gC m.ai).1}:aQ)=m:=by
    have: (gC m.ai).1=m.ai:=by
     unfold gC at L⊢;split
     ·rfl
     ·rename_i h;rw[h]at L;cases L
    rw[this]
   rw[e1]at k;simp only[go_sem,simprocAttr,sP,f,B,d.box,rU,Q];exact il.fin d t k (bQ.fc U) ((gH.n r4).imp (λq=>⟨q.1,q.2,rfl⟩) id) (aee _)
  |true=>
   rw[L]at Q;rw[adG rfl];have Mf:=k.Ai (m.now+1);have hF3:=(bQ.fc (M:=M) U).trans (k.fM (.box (cH {{m with ai:=(gC m.ai).1}with now:=m.now+1} p aE aP ev) none));obtain⟨v,w,K,G,F⟩:=E {m with ai:=(gC m.ai).1,now:=m.now+1} _ _ _ _ _ c ⟨T,l.ok.t,l.ok.c,l.ok.fr,by show m.now+1<_;omega,l.ok.ev,l.ok.run⟩ (by show(gC m.ai).1.Q.length<_;omega) Mf hF3 ((gH.n r4).imp (λq=>⟨q.1,q.2,rfl⟩) id);have hb2:=k.box;have o:aO (cH {m with ai:=(gC m.ai).1} p aE aP ev) 193 [.int .i64 ((m.now:Int)+1)]=cH {m with ai:=(gC m.ai).1,now:=m.now+1} p aE aP ev:=akD (m:={m with ai:=(gC m.ai).1}) (n:=m.now+1);have Z:=Cz (m:={m with ai:=(gC m.ai).1}) (p:=p) (aE:=aE) (aP:=aP) (ev:=ev);simp only[go_sem,simprocAttr,sP,f,B,d.box,rU,Q,hb2,Z,A,o,oM,G];exact F
 rw[adE k8];have B: ¬(b:Int)=8:=by omega
 have j:=λlo=>akG d (b % 8) lo
 cases O:rI m (b % 8)with
 |false=>
  rw[O]at j;rw[adG rfl];by_cases z:16<=b
  ·have g1: (8:Int)<b:=by omega
   have g2: ¬(b:Int)<16:=by omega
   simp only[go_sem,simprocAttr,sP,e,i,f,g1,g2,I,B,j];exact il.fin d t d Fm.refl (fY.no ⟨rfl,rfl⟩) (aee _)
  ·have g1: ¬(8:Int)<b:=by omega
   simp only[go_sem,simprocAttr,sP,e,i,f,g1,I,B,j];exact il.fin d t d Fm.refl (fY.no ⟨rfl,rfl⟩) (aee _)
 |true=>
  rw[O]at j;rw[adE (by decide)];by_cases z:16<=b
  ·rw[adG z];have g1: (8:Int)<b:=by omega
   have g2: ¬(b:Int)<16:=by omega
   have g5: (16:Int)<=b:=by omega
   obtain⟨J,s1,x,P,u,r,W,c,rfl,s2,S,R⟩:=axr hD hA g (b % 8) Y (by show m.ai.Q.length<_;omega) (ak8 g _) none;obtain⟨X,V⟩:=ak9 g (by show m.ai.Q.length<_;omega) (by show m.c8.length<_;omega) (b % 8);have o3:_<=m.ai.Q.length+262600:=V.q;obtain⟨v,w,K,G,F⟩:=E _ _ _ _ _ _ c X (by omega) s2 (hF.trans S) (gH.n R);simp only[go_sem,simprocAttr,sP,e,i,f,g1,g2,I,B,g5,j,d.box,Cz,A,o,oM,s1,G];exact F
  ·rw[adE z];have g1: ¬(8:Int)<b:=by omega
   have g5: ¬(16:Int)<=b:=by omega
   obtain⟨J,s1,x,P,u,r,W,c,rfl,s2,S,R⟩:=axp hD hA g (b % 8) Y (by show m.ai.Q.length<_;omega) (λm h1 h2=>(ak5 h1 h2 _).1) none;obtain⟨X,V⟩:=ak7 g (by show m.ai.Q.length<_;omega) (by show m.c8.length<_;omega) Y;have o3:_<=m.ai.Q.length+262600:=V.q;obtain⟨v,w,K,G,F⟩:=E _ _ _ _ _ _ c X (by omega) s2 (hF.trans S) (gH.n R);simp only[go_sem,simprocAttr,sP,e,i,f,g1,I,B,g5,j,d.box,Cz,A,o,oM,s1,G];exact F
def xX:bm:={lI with alive:=λ_=>false,born:=λ_=>false}
theorem ax9:m2=bz xX:=rfl
def aya(H:List ae)(lo:oN):D X0 (.fn (.func 52) [] []) [] ⟨H,lo⟩=some (.ret (.agg (bz lI)) ⟨H,lo⟩):=by
 refine aH PH λN a=>?_
 have d:=agf (s:=xX) (i:=0) (v:=true) (by omega);have c:=agh (s:={xX with alive:=ao xX.alive 0 true}) (i:=0) (v:=true) (by omega);have b: ({xX with alive:=ao xX.alive 0 true,born:=ao xX.born 0 true}:bm)=lI:=by rfl
 simp only[F1,go_sem,simprocAttr,PH,a,ax9,d,c,b,eP,ou,LU,TR]
def ayb(n:Nat)(h:1<=n/\n<=64)(H:List ae)(lo:oN):D X0 (.fn (.func 137) [] []) [.int .i64 n] ⟨H,lo⟩=some (.ret (.agg [.sl [[.int .i64 0,.int .i64 n]] true]) ⟨H,lo⟩):=by
 refine aH Qo λN a=>?_
 have e: ¬(n:Int)<1:=by omega
 have d:min (n:Int) 64=n:=by omega
 have c:ca [[AV.int IntKind.i64 0,AV.int IntKind.i64 n]]<=N+1:=aee _;have b:ca [[AV.int IntKind.i64 0,AV.int IntKind.i64 n]]<=N:=aee _;simp only[F1,go_sem,simprocAttr,Qo,a,e,d,c,b]
def Gr:cz:=⟨0,[],λ_ _=>0,true⟩
def uw(n:Nat):cz:=⟨n,[(0,n)],λ_ _=>0,true⟩
theorem alc{v:AV}: ∀n,jw n [v]=List.replicate n v
 |0=>rfl
 |n+1=>by show[v]++jw n [v]=_;rw[alc n];rfl
theorem ald{v:AV}{m:Nat}: ∀n,arr n (λ_=>List.replicate m v)=List.replicate (n*m) v
 |0=>by rw[Nat.zero_mul];rfl
 |n+1=>by rw[zu,ald n,aA2,apM]
theorem ayc:ql (λ_=>0)=List.replicate 32 (AV.int .u8 0):=rfl
def ayd:ad9=b9 Gr:=by
 show[AV.int .i64 0,.av]++jw 2048 [AV.int .u8 0]=[AV.int .i64 0,.av]++arr 64 λ_=>ql λ_=>0
 rw[alc,ayc,ald]
theorem aDl:b9 Gr=AV.int .i64 0:: .av::arr 64 λ_=>ql λ_=>0:=rfl
theorem aDm:b9 (uw n)=AV.int .i64 n:: .sl [[.int .i64 0,.int .i64 n]] true::arr 64 λ_=>ql λ_=>0:=rfl
def ale{N id o:Nat}{k:IntKind}{a:Int}{H:List ae}(h:N<=id):finish N lo (.az [.ptr id o,.int k a]) ⟨H,none⟩=(.az [.ptr id o,.int k a],⟨H,lo⟩):=by
 have b: ¬(AV.az [.ptr id o,.int k a]).refs<=N:=by simp only[AV.refs,aL];omega
 refine ac2 b ?_;rw[OF,adE b,jt,ac3 h]
def aye{N id o:Nat}{k:IntKind}{a:Int}{H:List ae}(h:N<=id):finish N lo (.az [.ptr id o,.int k a]) ⟨H,some j⟩=(.az [.ptr id o,.int k a],⟨H,cJ lo j⟩):=by
 have b: ¬(AV.az [.ptr id o,.int k a]).refs<=N:=by simp only[AV.refs,aL];omega
 rw[HG];split
 ·rw[OF,adE b,jt,ac3 h];rfl
 ·rfl
def ayf(n:Nat)(h:1<=n/\n<=64)(N:Nat)(H:List ae)(d:H.length=N)(lo:oN):D X0 (.fn (.func 104) [] []) [.int .i64 n] ⟨H,lo⟩=some (.ret (.az [.ptr N 0,.int .i64 0]) ⟨H++[.box (b9 (uw n)) none],lo⟩):=by
 refine aH P4 λM g=>?_
 have f: ¬(n:Int)<1:=by omega
 have e: ¬(64:Int)<n:=by omega
 have b:=λH lo=>ayb n h H lo
 have c:1<=(b9 Gr).length:=by rw[xP];omega
 have a:1<=(List.drop 1 (b9 Gr)).length:=by rw[al3,xP];omega
 have he:AV.int .i64 n::AV.sl [[.int .i64 0,.int .i64 n]] true::List.drop 1 (List.drop 1 (b9 Gr))=b9 (uw n):=by rfl
 simp only[go_sem,simprocAttr,P4,d,f,e,b,ayd,c,a,he];rw[ale (by omega)]
theorem Mi:kC=bz xX++([.eI]++(c9 (λ_=>zJ)++[.av])):=rfl
def ayg(n:Nat)(h:1<=n/\n<=64)(N:Nat)(H:List ae)(e:H.length=N)(lo:oN):D X0 (.fn (.func 67) [] []) [.int .i64 n] ⟨H,lo⟩=some (.ret (.az [.ptr (N+1) 0,.int .i64 0]) ⟨H++[.box (b9 (uw n)) none,.box (bK ⟨lI,uw n,λ_=>zJ,[]⟩ N .av) none],lo⟩):=by
 refine aH PM λM j=>?_
 obtain rfl:M=N:=by omega
 have f:=λlo=>ayf n h M H e lo
 have i:=λH lo=>aya H lo
 have d:List.drop 952 kC=[.eI]++(c9 (λ_=>zJ)++[.av]):=by rw[Mi];exact List.drop_left' (eP _)
 have g:kC.length=1274:=by rw[Mi,aeb,eP,aeb,aeb,eA];rfl
 have a:aO (bz lI++List.drop 952 kC) 952 [.ptr M 0]=bK ⟨lI,uw n,λ_=>zJ,[]⟩ M .av:=by
  rw[d,hY (by rw[eP];omega),eP];rfl
 have c:953<=952+(List.drop 952 kC).length:=by rw[d];simp[eA]
 have b:952<=kC.length:=by rw[g];omega
 simp only[go_sem,simprocAttr,PM,e,f,i,eP,b,c,a];rw[ale (by omega)]
theorem alf:Ie=[.eI]++(arr 8 (λ_=>xS FD .av .av)++[.int .i64 0,.av]):=rfl
def eY(n:Nat)(aK:List lB)(k:Nat):aQ:=⟨⟨lI,uw n,λ_=>zJ,[]⟩,λi=>{FD with t:={vH with code:=if i<k then((aK[i]?).bind decode).getD []else[]}},0,[]⟩
def mT(m:aQ)(n N:Nat)(pv kv:AV)(aE:Nat->AV)(H:List ae):List ae:=
 H++[.box [.int .i64 n,pv,kv] none,.box (cH m (N+3) aE (λ_=>.av) .av) none,.box (b9 (uw n)) none,.box (bK ⟨lI,uw n,λ_=>zJ,[]⟩ (N+2) .av) none]
def alg{N:Nat}{H:List ae}(a:H.length=N): (mT m n N pv kv aE H)[N+1]?=some (.box (cH m (N+3) aE (λ_=>.av) .av) none):=by
 unfold mT;grind
def ayh{m':aQ}{N:Nat}{nI:Nat->AV}{H:List ae}(a:H.length=N): (mT m n N pv kv aE H).set (N+1) (.box (cH m' (N+3) nI (λ_=>.av) .av) none)=mT m' n N pv kv nI H:=by
 unfold mT;simp_all
def ayi{aK:List lB}{p:Nat}{cv:AV}(c:k<aK.length)(b:k<8):
  aO (cH (eY n aK k) p aE (λ_=>.av) .av) (1+k*24) (dn {vH with code:=(decode (aK.getD k default)).getD []} cv)=cH (eY n aK (k+1)) p (ao aE k cv) (λ_=>.av) .av:=by
 have g:=Gk (m:=eY n aK k) (p:=p) (aE:=aE) (aP:=λ_=>.av) (ev:=.av) (o:=0) (vs:=dn {vH with code:=(decode (aK.getD k default)).getD []} cv) (r:={FD with t:={vH with code:=(decode (aK.getD k default)).getD []}}) (cv:=cv) (rv:=.av) b (by rw[xR];omega) rfl;have e:ao (λ_=>AV.av) k AV.av=λ_=>AV.av:=mC (f:=λ_=>AV.av)
 have d: ({eY n aK k with aB:=ao (eY n aK k).aB k {FD with t:={vH with code:=(decode (aK.getD k default)).getD []}}}:aQ)=eY n aK (k+1):=by
  have a:ao (eY n aK k).aB k {FD with t:={vH with code:=(decode (aK.getD k default)).getD []}}=(eY n aK (k+1)).aB:=by
   unfold ao eY
   grind
  rw[a];rfl
 grind
def alh{aK:List lB}{a:lB}(h:Mb n aK a pv kv)(x:pZ ⟨n,aK,a.map UInt8.toNat⟩=true)(N:Nat)(H:List ae)(r:H.length=N)(lo:oN):
  ∃P,D XC (.fn (.func 33) [] []) [.agg [.int .i64 n,pv,kv]] ⟨H,lo⟩=some P/\ ∃aE ak,P= .ret (.az [.ptr (N+1) 0,.int .i64 0]) ⟨mT (eY n aK aK.length) n N pv kv aE H,ak⟩/\
   (∀i,Rv (aE i) 5 (((eY n aK aK.length).aB i).t.code.map dm))/\ (ak=lo\/ ∃j,N<=j/\ak=cJ lo j):=by
 obtain⟨w,f,R⟩:1<=n/\n<=64/\aK.length<=8:=by unfold pZ at x;simp at x;omega
 have b:=λH lo=>c0 (axb h (by omega) H lo)
 rw[x]at b;refine cN Pz λM Z=>?_
 obtain rfl:M=N:=by omega
 have G:=λB lo=>c0 (ayg n ⟨w,f⟩ (M+2) (H++[.box [.int .i64 n,pv,kv] none,.box B none]) (by simp[r]) lo)
 have c:=h.pr;have s:aO Ie 0 [.ptr (M+3) 0]=cH (eY n aK 0) (M+3) (λ_=>.av) (λ_=>.av) .av:=by rw[alf];rfl
 have y:1<=Ie.length:=by rw[alf];simp
 have z: ¬M+2<=M:=by omega
 have I:M+2+1=M+3:=rfl;have A:=λE=>c.bY (E:=E)
 simp only[go_sem,simprocAttr,Pz,r,b,G,s,y,z,A,I];refine ja aK.length (λk e W ak=> ∃aE,e 4= .ptr (M+1) 0/\e 22=pv/\e 23= .int .i64 aK.length/\e 24= .int .i64 k/\W=mT (eY n aK k) n M pv kv aE H/\ (∀i,Rv (aE i) 5 (((eY n aK k).aB i).t.code.map dm))/\ak=some (M+1)) 0 (by omega) ?_ ?_
 ·refine⟨λ_=>.av,?_⟩;simp only[go_sem,simprocAttr];exact⟨rfl,λi=>.av,rfl⟩
 rintro k Y e W ak ⟨aE,O,q,o,l,rfl,g,rfl⟩ V X;simp only[cb,go_sem,simprocAttr,aen,O,q,o,l];refine⟨λS=>?_,λS=>?_⟩
 ·have d:k<aK.length:=by omega
  have U:k<8:=by omega
  obtain⟨cv,t1,t2⟩:=axc (aK.getD k default) (mT (eY n aK k) n M pv kv aE H) (some (M+1));have t1:=c0 t1;have F: (0:Int)<=k/\ (k:Int)<8:=by omega
  have T:=alg (m:=eY n aK k) (n:=n) (pv:=pv) (kv:=kv) (aE:=aE) r;have Q:=λm' nI=>ayh (m:=eY n aK k) (m':=m') (n:=n) (pv:=pv) (kv:=kv) (aE:=aE) (nI:=nI) r
  have u:=ayi (n:=n) (p:=M+3) (cv:=cv) (aE:=aE) d U;have v:=Ge (t:={vH with code:=(decode (aK.getD k default)).getD []}) (dj t2 (bH (λ_=>rfl) _));have C:1+k*24+10<=195:=by omega
  simp(disch:=omega) only[go_sem,simprocAttr,O,q,o,l,c.cD,c.di,sC,t1,F,T,Q,u,v,C,oM,xR];refine⟨by omega,by omega,ao aE k cv,rfl,λi=>?_⟩;by_cases L:i=k
  ·subst L;have e:aK.getD i default=aK[i]:=by simp[List.getD,d]
   rw[bS];have J: ((eY n aK (i+1)).aB i).t.code=(decode (aK.getD i default)).getD []:=by
    show(if i<i+1 then((aK[i]?).bind decode).getD []else[])=_;rw[adG (by omega),adM d,e];rfl
   rw[J];exact t2
  ·rw[bT L];have J: ((eY n aK (k+1)).aB i).t.code=((eY n aK k).aB i).t.code:=by
    show(if i<k+1 then((aK[i]?).bind decode).getD []else[])=(if i<k then((aK[i]?).bind decode).getD []else[]);by_cases K:i<k
    ·rw[adG K,adG (by omega)]
    ·rw[adE K,adE (by omega)]
   rw[J];exact g i
 ·obtain rfl:k=aK.length:=by omega
  rw[aye (by omega)];exact⟨aE,_,rfl,g,.inr ⟨M+1,by omega,rfl⟩⟩
theorem ali: ∀ (s:lB),∀x∈rG s,x.n<65536
 |a::b::c::d::e::f::r,x,h=>by
  rcases afJ.1 h with rfl|h
  ·have:=e.toNat_lt;have:=f.toNat_lt
   grind
  ·exact ali r x h
 | [],x,h=>by cases h
 | [_],x,h=>by cases h
 | [_,_],x,h=>by cases h
 | [_,_,_],x,h=>by cases h
 | [_,_,_,_],x,h=>by cases h
 | [_,_,_,_,_],x,h=>by cases h
def ayj{s:lB}{l:List ed}(h:decode s=some l):l.length<=64/\ ∀x∈l,Gd x:=by
 unfold decode at h;split at h
 ·cases h
 split at h
 ·rename_i hm;cases h;unfold pW at hm;simp only[afz,agQ,afy]at hm;refine⟨hm.1,λx a=>?_⟩;have b:=hm.2 x a;unfold rF at b;simp at b;have c:=ali s x a;exact⟨by omega,by omega,by omega,by omega,c,λd=>by omega⟩
 grind
def UE(h:Nat):ar (λ_=>⟨0,false,false⟩) h=false:=by
 unfold ar;grind
def ayk:aW lI:=by
 have a:fL (λ_=>⟨0,false,false⟩):=λi=>⟨aee _,λh=>by rfl⟩
 refine⟨⟨⟨a,λi=>Cc⟩,λh=>?_,λi=>?_⟩,⟨λi=>by show 0<4294967296;omega,λi=>Tf⟩,⟨⟨a,λi h=>(by cases h),λi=>ahw⟩,λi=>Cn _,[],.nil,λh q=>(by cases q),λh q=>?_,.nil,λh q=>(by cases q)⟩,λi=>⟨by show 0<4;omega,by show 0<=4;omega,λj=>Tm⟩⟩
 ·have e:aU lI.T h=[]:=by
    unfold aU eU bq;have:lI.T.ar h=false:=UE h
    grind
  grind
 ·exact Cn _
 ·rw[show ar lI.K.b h=false from UE h]at q;cases q
def ayl:iU zJ:=⟨by trivial,by trivial,λi=>by show 0<8;omega,λi j h=>by cases h⟩
def aym(h:1<=n/\n<=64):fy (uw n):=⟨h.2,⟨List.pairwise_singleton _ _,λx a=>by rw[aeh.1 a];omega⟩,λi j=>by show 0<256;omega⟩
def alj(h:1<=n/\n<=64)(aK:List lB)(k:Nat):qt (eY n aK k):=by
 refine⟨⟨⟨ayk,aym h,λi=>ayl,λk d=>(by cases d),by show 0<_;omega⟩,λi=>?_,λi=>CB,λi=>by show 0<_;omega,by show 0<_;omega,by show 0<_;omega,λi=>⟨by show 0<=64;omega,by show 0<=64;omega⟩⟩,by show 0<=_;omega,by show 0<=_;omega⟩;have a: (if i<k then((aK[i]?).bind decode).getD []else[]).length<=64/\ ∀x∈(if i<k then((aK[i]?).bind decode).getD []else[]),Gd x:=by
  split
  ·cases c: (aK[i]?).bind decode with
   |none=>simp
   |some l=>
    obtain⟨s,_,b⟩:=anG.1 c;exact ayj b
  grind
 exact⟨a.1,a.2,by show 0<=64;omega,λj=>by show 0<_;omega⟩
def alk{N:Nat}{aK:List lB}{H:List ae}(b:H.length=N)
  (a: ∀i,Rv (aE i) 5 (((eY n aK aK.length).aB i).t.code.map dm)):
  bQ N (N+1) (N+3) (N+2) (eY n aK aK.length) .av .av aE (λ_=>.av) (mT (eY n aK aK.length) n N pv kv aE H):=
 ⟨by omega,by omega,⟨by omega,by omega,by omega,by unfold mT;rw[bF b];rfl,by unfold mT;rw[bF b];rfl,dE.av⟩,alg b,dE.av,a,λi=>.av⟩
def UF{E:AS}{af:List lA}(h:Rd E v sz af): (v= .av/\af=[])\/dJ .sl v .av=some false:=by
 have a:=h.kind;cases v<;>first|exact .inr rfl|grind|skip
 ·exact .inl ⟨rfl,by have:=h.eq;simp[Den.elems]at this;omega⟩
def UG{l:List α}{g:α->lA}{ty:TypeId}{bytes N:Nat}{H:List ae}(a:H.length=N)(b:0<sz)(i: ∀x,(g x).length=sz)(c: ∀x,aL (g x)=0)(e:l≠[])(d:l.length*bytes<=room):
  dL ⟨H,none⟩ ty sz bytes (.sl [] true) (l.map g)=some (.ref N 0 sz 0 l.length false,⟨H++[.row 0 sz ty (l.map g)],none⟩)/\finish N lo (.ref N 0 sz 0 l.length false) ⟨H++[.row 0 sz ty (l.map g)],none⟩=(.sl (l.map g) false,⟨H,lo⟩):=by
 have f:0<l.length:=azK.2 e;have ha: (l.map g).all (λel=>el.length==sz)=true:=by grind
 have ho:aT N (H++[.row 0 sz ty (l.map g)]) (.ref N 0 sz 0 l.length false) sz ty (l.map g):=
  ⟨λel h=>by grind,.inr ⟨N,0,aef _,by simp,dI a⟩⟩
 refine⟨?_,?_⟩
 ·simp only[dL,ha];rw[adG ⟨b,trivial⟩,adE (by rw[afm];omega),adG ⟨by simpa using d,rfl⟩];simp[AS.push,a]
 ·rw[FK (.inl rfl) ho (by rw[bH c];omega),mw a];rfl
def ayn{l:lN}{H:List ae}(h:Rd ⟨H,none⟩ v 1 (l.map iD))(e:l.length*8<=room)(lo:oN):
  ∃v',D X0 (.fn (.func 55) [] []) [v] ⟨H,lo⟩=some (.ret v' ⟨H,lo⟩)/\Rv v' 1 (l.map iD):=by
 have d:=h.eq;have a:dJ EK.sl AV.av AV.av=some true:=rfl;have e3:ca ([]:List lA)=0:=rfl;rcases UF h with⟨rfl,he⟩|he
 ·refine⟨.av,?_,by rw[he];exact .av⟩;refine aH zk λN b=>?_
  simp(disch:=omega) only[F1,go_sem,simprocAttr,zk,a]
 ·by_cases c:l=[]
  ·subst c;refine⟨.sl [] true,?_,.sl (λel h=>by cases h)⟩;refine aH zk λN b=>?_
   have e1:dL ⟨H,none⟩ qT 1 8 (.sl [] true) []=some (.sl [] true,⟨H,none⟩):=rfl;simp(disch:=omega) only[F1,go_sem,simprocAttr,zk,he,d,e1,e3]
  ·refine⟨.sl (l.map iD) false,?_,.sl (λel h=>by obtain⟨x,_,rfl⟩:=afq.1 h;rfl)⟩;refine aH zk λN b=>?_
   obtain⟨e1,f⟩:=UG (sz:=1) (ty:=qT) (bytes:=8) (lo:=lo) (g:=iD) b (by omega) (λ_=>rfl) (λ_=>rfl) c e;simp only[go_sem,simprocAttr,zk,he,d,e1,f]
def ayo{l:lN}{H:List ae}(h:Rd ⟨H,none⟩ v 1 (l.map hC))(e:l.length*4<=room)(lo:oN):
  ∃v',D X0 (.fn (.func 85) [] []) [v] ⟨H,lo⟩=some (.ret v' ⟨H,lo⟩)/\Rv v' 1 (l.map hC):=by
 have d:=h.eq;have a:dJ EK.sl AV.av AV.av=some true:=rfl;have e3:ca ([]:List lA)=0:=rfl;rcases UF h with⟨rfl,he⟩|he
 ·refine⟨.av,?_,by rw[he];exact .av⟩;refine aH zl λN b=>?_
  simp(disch:=omega) only[F1,go_sem,simprocAttr,zl,a]
 ·by_cases c:l=[]
  ·subst c;refine⟨.sl [] true,?_,.sl (λel h=>by cases h)⟩;refine aH zl λN b=>?_
   have e1:dL ⟨H,none⟩ bZ 1 4 (.sl [] true) []=some (.sl [] true,⟨H,none⟩):=rfl;simp(disch:=omega) only[F1,go_sem,simprocAttr,zl,he,d,e1,e3]
  ·refine⟨.sl (l.map hC) false,?_,.sl (λel h=>by obtain⟨x,_,rfl⟩:=afq.1 h;rfl)⟩;refine aH zl λN b=>?_
   obtain⟨e1,f⟩:=UG (sz:=1) (ty:=bZ) (bytes:=4) (lo:=lo) (g:=hC) b (by omega) (λ_=>rfl) (λ_=>rfl) c e;simp only[go_sem,simprocAttr,zl,he,d,e1,f]
def dE.refs{N:Nat}{H:List ae}{ty:TypeId}{af:List lA}(h:dE N H v sz ty af):v.refs<=H.length:=by
 rcases h.2 with⟨rfl,_⟩| ⟨id,aj,off,all,_,rfl,a,_⟩
 ·exact aee _
 ·have:=eg a;simp only[AV.refs];omega
section
variable{n M p q:Nat}{m:aQ}{qv ev:AV}{aE aP:Nat->AV}{H:List ae}(ha:bQ n M p q m qv ev aE aP H)
include ha
theorem Mj(A:m.ai.Q.length<1073741824)(lo:oN):
  ∃v,D XC (.fn (.func 17) [] []) [.ptr M 0] ⟨H,lo⟩=some (.ret (.agg (bK m.ai q v)) ⟨H,lo⟩)/\Rv v 1 (m.ai.Q.map iD):=by
 obtain⟨N,z⟩: ∃N,H.length=N:=⟨_,rfl⟩;have u:=ha.co.jX.app [.box kC none,.box (bK m.ai q qv) none];obtain⟨v,r,c⟩:=ayn (u.rd (lo:=none)) (by unfold room;omega) none;have r:=c0 r;refine⟨v,?_,c⟩;refine aH Px λK B=>?_
 obtain rfl:K=N:=by omega
 have s:kC.length=1274:=by rw[Mi,aeb,eP,aeb,aeb,eA];rfl
 have w: ∀l:lA,l.length=1274->aO kC 0 l=l:=λl h=>pG (by rw[s,h])
 have y:aL (bK m.ai q qv)<=K:=by
  rw[T2];have:=ha.co.jX.refs;have:=ha.co.qp;have:=ha.co.lt;omega
 have b:aL (bK m.ai q v)<=K:=by
  rw[T2];have:=dj c (bH (λ_=>rfl) _);have:=ha.co.qp;have:=ha.co.lt;omega
 have a:=qk (c ⟨H,none⟩);have o:aL (bK m.ai q qv)<=K+1+1:=by omega
 have k:v.refs<=K+1+1:=by have:=dj c (bH (λ_=>rfl) _);omega
 have j:aL (bK m.ai q v)<=K+1:=by omega
 have d:dJ EK.ptr (AV.ptr M 0) AV.eI=some false:=rfl;have f:=bf (L:=[.box kC none]) ha.box;have e:=bf (L:=[.box kC none]) ha.co.box;have i:=Ac (x:=m.ai) (q:=q) (qv:=qv);have g:=Ac (x:=m.ai) (q:=q) (qv:=v);have t: ∀l:lA,l.length=1274->List.take 1274 l=l:=λl h=>by rw[<-h,aft]
 simp only[F1,go_sem,simprocAttr,Px,z,d,f,e,rU,r,w,t,i,g,KL,KS,s,o,k,j,b,a.1,a.2]
end
section
variable{n M p q:Nat}{m:aQ}{qv ev:AV}{aE aP:Nat->AV}{H:List ae}
def UH(M t:Nat)(H:List ae)(lo:oN):D XC (.fn (.func 64) [] []) [.ptr M 0,.int .i64 t] ⟨H,lo⟩=some (.ret (.bool (decide (t<8))) ⟨H,lo⟩):=by
 refine aH JJ λN d=>?_
 have a:dJ EK.ptr (AV.ptr M 0) AV.eI=some false:=rfl;have c: (t:Int)>=0:=by omega
 by_cases h:t<8
 ·have b: (t:Int)<8:=by omega
  rw[aec h];simp(disch:=omega) only[F1,go_sem,simprocAttr,JJ,a,c,b]
 ·have b: ¬(t:Int)<8:=by omega
  rw[adO h];simp(disch:=omega) only[F1,go_sem,simprocAttr,JJ,a,c,b]
theorem alm(c:Call)(v:AV): (bL c v).length=12:=rfl
theorem cl7(c:Call)(v:AV): (bL c v)[7]?=some (.bool c.checked):=rfl
theorem cl1(c:Call)(v:AV):Den.part true 6 (bL c v) 1=some (.agg (bn c.c)):=rfl
def UI(c:Call)(v:AV):aL (bL c v)=v.refs:=by simp[bL,aL,AV.refs,bn,aA]
theorem clT(c:Call)(v:AV):List.take 12 (bL c v)=bL c v:=rfl
def CC:=gG @alm<|gG @cl7<|gG @cl1<|gG @UI<|gG @clT<|gG @apJ.{0} @amv.{0}
def vY(m:aQ)(t:Nat)(rv:AV):AV:=match oD m t with
 |some c=>.az [.agg (bL c rv),.bool true]
 |none=>.az [.agg (bL gu .av),.bool false]
def ayp(u:bQ n M p q m qv ev aE aP H)(C: ∀i,(m.aB i).c.aY.length<1073741824)(t:Nat)(lo:oN):
  ∃rv,D XC (.fn (.func 46) [] []) [.ptr M 0,.int .i64 t] ⟨H,lo⟩=some (.ret (vY m t rv) ⟨H,lo⟩)/\ (∀c,oD m t=some c->Rv rv 1 (c.aY.map hC)):=by
 by_cases a:t<8
 ·have A: (t:Int)<8:=by omega
  have B: (0:Int)<=t:=by omega
  obtain⟨v,g,x⟩:=ayo (lo:=none) (H:=H++[.box (bL gu .av) none,.box (bL (m.aB t).c (aP t)) none]) ((u.rv t) _) (by have:=C t;unfold room;omega);have g:=c0 g;have e:=qk (x ⟨H,none⟩);have j:=dj x (bH (λ_=>rfl) _);have h:=dj (u.rv t) (bH (λ_=>rfl) _);have o: ∀v:AV,aL (bL (m.aB t).c v)=v.refs:=λv=>by simp[bL,aL,AV.refs,bn,aA]
  have z: ∀L,(H++L)[M]?=some (.box (cH m p aE aP ev) none):=λL=>bf u.box
  have y: ∀v,bL gu v=[(.int .i64 0),(.int .u8 0),(.int .u32 0),(.int .u32 0),(.int .u32 0),(.int .u32 0),(.int .u64 0),(.bool false),v,(.int .i64 0),(.int .i64 0),(.int .i64 0)]:=λv=>rfl
  have r: ∀v,(bL (m.aB t).c v).length=12:=λv=>rfl
  have s: ∀v,(bL (m.aB t).c v)[8]?=some v:=λv=>rfl
  have l: ∀v w,aO (bL (m.aB t).c v) 8 [w]=bL (m.aB t).c w:=λv w=>rfl
  have k: ∀v,List.take 12 (bL (m.aB t).c v)=bL (m.aB t).c v:=λv=>rfl
  cases d: (m.aB t).busy
  ·refine⟨.av,?_,λc b=>by unfold oD at b;simp[d]at b⟩;have hu:vY m t .av= .az [.agg (bL gu .av),.bool false]:=by unfold vY oD;simp[d]
   rw[hu];refine aH zj λN f=>?_
   simp only[F1,go_sem,simprocAttr,zj,f,UH,aec a,z,xT a,d,B,A,y]
  ·rw[y]at g;refine⟨v,?_,λc b=>by unfold oD at b;simp[d,a]at b;subst b;exact x⟩;have hu:vY m t v= .az [.agg (bL (m.aB t).c v),.bool true]:=by unfold vY oD;simp[d,a]
   rw[hu];refine aH zj λN f=>?_
   simp only[F1,go_sem,simprocAttr,zj,f,UH,aec a,z,xT a,CA a,d,B,A,g,o,j,h,r,s,l,k,e.1,e.2,apJ,amv]
 ·have hu:vY m t .av= .az [.agg (bL gu .av),.bool false]:=by unfold vY oD;simp[a]
  refine⟨.av,?_,λc b=>by unfold oD at b;simp[a]at b⟩;rw[hu];refine aH zj λN f=>?_
  simp only[F1,go_sem,simprocAttr,zj,f,UH,adO a];rfl
end
def ayq{s:bm}(a:aW s)(c:cn): (s6 s c).length<=39135394:=by
 have d:=FJ a.tr c.r;have b: ∀h,(oz s h).length<=1:=λh=>by unfold oz;grind
 unfold s6
 grind
def kn(c:Call):Prop:=c.aY.length<=39135394
def ayr{x:Core}{c:Call}(i:aW x.S)(h:kn c):kn (fw x c).c:=by
 have b:kn (ic ⟨x,c,bD,false⟩).1.c:=by
  unfold ic;repeat' split
  all_goals first|exact h|exact ayq i _
 have d: ∀s:bB,kn s.c->kn (ie s).1.c:=λs a=>by
  unfold ie;split
  ·exact a
  ·rename_i e;dsimp only;split
   ·have:s.c.aY.length<=39135394:=a;rw[e,afx]at this;exact ag2 (Nat.le_succ _) this
   ·exact a
 have f: ∀s:bB,kn s.c->kn (iA s).1.c:=λs a=>by
  unfold iA;dsimp only;repeat' split
  all_goals exact a
 have g: ∀s:bB,kn s.c->kn (jl s).1.c:=λs a=>by
  unfold jl;split<;>exact a
 have j: ∀s:bB,kn s.c->kn (oC s).c:=λs a=>by
  unfold oC;dsimp only;repeat' split
  all_goals exact a
 unfold fw;dsimp only
 repeat' split
 ·exact b
 ·exact d _ b
 ·exact f _ (d _ b)
 ·exact g _ (f _ (d _ b))
 ·exact j _ (g _ (f _ (d _ b)))
def mg(m:aQ):Prop:= ∀i,kn (m.aB i).c
def UJ:kn gu:=aee _
def mg.set(h:mg m){t:Nat}{r:Runner}(a:kn r.c)(i:Nat):kn (ao m.aB t r i).c:=by
 unfold ao;split
 ·omega
 ·exact h i
def ays(h:mg m)(i:Nat):mg (kb m i):=by
 unfold kb;split
 ·exact h.set UJ
 omega
def UK(h:mg m):mg (jT m):=by
 unfold jT;generalize List.range 8=l
 induction l generalizing m with
 |nil=>exact h
 |cons a l b=>exact b (ays h a)
def alq(a:aW m.ai.S)(h:mg m)(t:Nat):mg (pY m t):=by
 have b:=ayr (x:=m.ai) a (h t);unfold pY;dsimp only;split
 ·intro i;by_cases q:i=t
  ·subst q;show kn (Runner.c (ao _ _ _ _));rw[bS];exact UJ
  ·show kn (Runner.c (ao _ _ _ i));rw[bT q];show kn (Runner.c (ao m.aB t _ i));rw[bT q];exact h i
 ·exact h.set b
def UL(a:aW m.ai.S)(h:mg m)(b:Nat):mg (gT m b).1:=by
 unfold gT;dsimp only
 repeat' split
 ·exact h
 ·exact UK (m:={m with ai:=_,now:=_}) h
 ·exact h
 ·exact h
 ·exact UK (m:=vI _ _) h
 ·refine UK ?_;unfold rJ;dsimp only
  repeat' split
  ·refine alq ?_ ?_ _;exact a;exact h
  ·refine alq ?_ ?_ _;exact a;exactλi=>h.set UJ i
  ·exactλi=>h.set (t:=b % 8) (r:={m.aB (b % 8)with t:=pX (m.aB (b % 8)).t}) (h (b % 8)) i
def alr(n:Nat)(aK:List lB)(k:Nat):mg (eY n aK k):=λi=>aee _
def uC(b:Nat):lA:=[.int .u8 b]
structure vZ where
 kind:Nat
 order:lN
 CH:Nat
 every:Int
 last:Nat
 v5:Int
def ayt(x:vZ)(ov:AV):lA:=[.int .u8 x.kind,ov,.int .u64 x.CH,.int .i64 x.every,.int .u8 x.last,.int .i64 x.v5]
structure UM(x:vZ):Prop where
 kind:x.kind<256
 order: ∀t∈x.order,t<256
 CH:x.CH<18446744073709551616
 every: -9223372036854775808<=x.every/\x.every<9223372036854775808
 last:x.last<256
 v5: -9223372036854775808<=x.v5/\x.v5<9223372036854775808
def ayu(x:vZ):Bool:=decide (x.kind<3)&&decide (x.order.length<=16)&&decide (0<=x.every)&&decide (x.every<=100)
def ayv(a:Nat)(l:lN):Nat:=l.getD (ke (λt=>decide (a<=t)) l).toNat default
def ayw(a l:lN):Nat:=(a.find? λt=>l.any λy=>decide (t=y)).getD (l.getD 0 default)
def ayx(a:Nat)(l:lN):Nat:=l.getD (a/8589934592 % l.length) default
def ayy(a:Nat):Nat:=(6364136223846793005*a+1) % 18446744073709551616
def als(x:vZ)(l:lN):vZ×Nat:=
 if x.kind=0 then(x,ayv x.last l)else if x.kind=1 then(x,ayw x.order l)else({x with CH:=ayy x.CH},ayx x.CH l)
section
variable(x:vZ)(hx:UM x)(ov v:AV)(l:lN)(hl:l.length<=8)(h0:l≠[])(M:Nat)(H:List ae)(hM:H[M]?=some (.box (ayt x ov) none))(hv:Rd ⟨H,none⟩ v 1 (l.map uC))(hl8: ∀t∈l,t<256)
include hx hM
include hl h0 hv hl8
end
def aDn(x:vZ)(l:lN): (als x l).1.v5=x.v5:=by
 unfold als
 grind
section
variable{n M p q:Nat}{m:aQ}{qv ev:AV}{aE aP:Nat->AV}{H:List ae}
end
def oO(x:ed):lA:=[.int .i64 x.op,.int .i64 x.a,.int .i64 x.b,.int .i64 x.c,.int .i64 x.n]
def ayA(v:AV)(l:List ed)(E:l.length<2147483648)(H:List ae)(h:Rd ⟨H,none⟩ v 5 (l.map oO))(lo:oN):
  D X0 (.fn (.func 86) [] []) [v] ⟨H,lo⟩=some (.ret (.bool (pW l)) ⟨H,lo⟩):=by
 refine aH JM λN s=>?_
 unfold pW;by_cases c:l.length<=64
 ·have p: ¬((l.length:Nat):Int)>64:=by omega
  rw[aec c,al0];simp only[go_sem,simprocAttr,JM,h.bY,p];refine eN l.length (λk e W=>H<+:W/\e 0=v/\e 3= .int .i64 k/\ ∀j,j<k->rF (l.getD j default) l.length=true) 0 (by omega) ?_ ?_
  ·simp only[go_sem,simprocAttr];exact⟨aqe,λj o=>absurd o (aoc j)⟩
  rintro k F e W ⟨d,q,e3,g⟩ n B;have hw:=h.mono (ak:=none) d;simp only[cb,F1,go_sem,simprocAttr,aew,q,e3,hw.bY];refine⟨λC=>?_,λC=>?_⟩
  ·have b:k<l.length:=by omega
   have a: ∀x,Den.part true 5 (oO x) 0=some (.agg (oO x)):=λ_=>rfl
   have r: ∀x:ed,(oO x)[0]?=some (.int .i64 x.op):=λ_=>rfl
   have z: ∀x:ed,(oO x)[1]?=some (.int .i64 x.a):=λ_=>rfl
   have y: ∀x:ed,(oO x)[2]?=some (.int .i64 x.b):=λ_=>rfl
   have w: ∀x:ed,(oO x)[3]?=some (.int .i64 x.c):=λ_=>rfl
   have u: ∀x:ed,(oO x)[4]?=some (.int .i64 x.n):=λ_=>rfl
   have t: ∀x:ed,(oO x).length=5:=λ_=>rfl
   have rr: ∀x:ed,aL (oO x)=0:=λ_=>rfl
   have A:=hw.ext (L:=[.box (oO (l.getD k default)) none]) (ak:=none);have m: ∀L,gv ⟨W++L,none⟩ .sl v=some (.int .i64 l.length):=λL=>(hw.ext (L:=L) (ak:=none)).bY
   simp(disch:=omega) only[go_sem,simprocAttr,hw.cD,hw.di,↓a,B,t,rr,r];refine⟨by omega,?_⟩;generalize f:l.getD k default=x at*;refine wz 62 (.bool (!rF x l.length)) [0,3] rfl rfl ?_ λG=>?_
   ·unfold rF;simp(disch:=omega) only[R4,go_sem,simprocAttr,r,z,y,w,u,m,q]
    (repeat' (first|apply And.intro|intro _))
    all_goals(refine ag3 AV.bool (al4.2 ?_);simp[];try(intros;omega))
   cases hm:rF x l.length
   ·simp only[F1,go_sem,simprocAttr];have a: (l.all λx=>rF x l.length)=false:=by
     rw[aBR];exact⟨x,by rw[<-f];exact fO b,by rw[hm];decide⟩
    rw[a];exact dx rfl (lJ s λi g=>by obtain⟨L,rfl⟩:=d;rw[adK,acV (by omega)])
   ·simp(disch:=omega) only[go_sem,simprocAttr,q,e3];refine⟨b,d.trans (aqc _ _),p7 g (by rw[f,hm])⟩
  ·have a: (l.all λx=>rF x l.length)=true:=by
     rw[afy];intro x f;obtain⟨j,o,rfl⟩:=ap4 f;have:=g j (by omega);rwa[show l.getD j default=l[j] by simp[List.getD,o]]at this
   rw[a];exact dx rfl (lJ s λi g=>by obtain⟨L,rfl⟩:=d;rw[acV (by omega)])
 ·have p: ((l.length:Nat):Int)>64:=by omega
  rw[adO c,ag4];simp(disch:=omega) only[F1,go_sem,simprocAttr,JM,h.bY,p]
def ayB(s:lB)(F:s.length<=1000)(H:List ae)(lo:oN):
  ∃v,D X0 (.fn (.func 48) [] []) [S s] ⟨H,lo⟩=some (.ret (.az [v,.bool (decode s).isSome]) ⟨H,lo⟩):=by
 suffices A: ∃h,D X0 (.fn (.func 48) [] []) [S s] ⟨H,lo⟩=some h/\ (λh=> ∃v,h=aV.ret (.az [v,.bool (decode s).isSome]) ⟨H,lo⟩) h by
  obtain⟨h,x,v,rfl⟩:=A;exact⟨v,x⟩
 refine cN PE λN m=>?_
 simp only[go_sem,simprocAttr,PE];refine eN (s.length/6) (λk e W=>e 0=S (s.drop (6*k))/\H<+:W/\aT N W (e 4) 5 ad7 ((gX s k).map oO)) 0 (by omega) ?_ ?_
 ·simp only[go_sem,simprocAttr];exact⟨aqe,aT.av⟩
 rintro k G e W ⟨z,a,p⟩ n B;have C: (s.drop (6*k)).length=s.length-6*k:=al3 ..;have f: (gX s k).length=k:=by simp[gX]
 simp only[cb,go_sem,simprocAttr,aer,z,B];refine⟨λE=>?_,λE=>?_⟩
 ·have c:k<s.length/6:=by omega
  have I:6<=(s.drop (6*k)).length:=by omega
  have q:uB (S (s.drop (6*k))) (some (.int .i64 6)) none=some (S (s.drop (6*(k+1)))):=by
   rw[HF,adG ⟨by omega,by omega⟩,aor];rfl
  have d: ∀j,((s.drop (6*k)).getD j 0).toNat<256:=λj=>UInt8.toNat_lt _
  have Q:=d 0;have P:=d 1;have O:=d 2;have M:=d 3;have K:=d 4;have J:=d 5;simp(disch:=omega) only[go_sem,simprocAttr];refine⟨by omega,by omega,by omega,by omega,by omega,by omega,?_⟩;refine qQ (N:=N) (H0:=H) (bytes:=40) (ys:=[oO (qs (s.drop (6*k)))]) p a m (by omega) (by intro el t;rw[aeh.1 t];rfl) rfl (by rw[afm,f];show(k+1)*40<=room;unfold room;omega) λv' R o r=>?_
  simp only[go_sem,simprocAttr,z,q];refine⟨c,r,?_⟩;rw[Ut,afr];exact o
 ·have c:k=s.length/6:=by omega
  by_cases y:s.length % 6=0
  ·have l: ¬(0:Int)< ((s.drop (6*k)).length:Nat):=by omega
   have b:=λlo=>ayA (e 4) (gX s k) (by omega) W (kT p none) lo
   have g:rG s=gX s k:=by rw[c];exact akA y
   have u:decode s=if pW (gX s k)then some (gX s k)else none:=by
    unfold decode;by_cases x:s.length<=384
    ·rw[adE (by omega),g]
    ·rw[adG (by omega)];have:pW (gX s k)=false:=by unfold pW;rw[adO (by rw[f];omega)];rfl
     rw[this];rfl
   rw[u];cases hm:pW (gX s k)with
   |true=>
    rw[hm]at b;simp only[go_sem,simprocAttr,l,b];rw[p.acZ (by rw[bH (λ_=>rfl)];omega) (aee _)];exact⟨_,dx rfl (lJ m λi w=>by obtain⟨L,rfl⟩:=a;rw[acV (by omega)])⟩
   |false=>
    rw[hm]at b;simp only[go_sem,simprocAttr,l,b];rw[rO rfl];exact⟨.av,dx rfl (lJ m λi w=>by obtain⟨L,rfl⟩:=a;rw[acV (by omega)])⟩
  ·have l: (0:Int)< ((s.drop (6*k)).length:Nat):=by omega
   have u:decode s=none:=by unfold decode;rw[adG (.inl y)]
   rw[u];simp only[go_sem,simprocAttr,l];rw[rO rfl];exact⟨.av,dx rfl (lJ m λi w=>by obtain⟨L,rfl⟩:=a;rw[acV (by omega)])⟩
def dX(aM:Int)(pv:AV)(aX:lB):lA:=[.int .i64 aM,pv,S aX]
structure Gs(aM:Int)(aK:List lB)(aX:lB)(pv:AV):Prop where
 pg: -9223372036854775808<=aM/\aM<9223372036854775808
 pr:Rv pv 1 (aK.map sC)
def v7(aK:List lB)(aX:lB):Bool:=decide (20<aK.length)|| (decide (6000<aX.length)||aK.any λp=>decide (1000<p.length))
def Mk(aK:List lB)(aX:lB):Bool:=v7 aK aX||decide (1500<aX.length)
section
variable{aM:Int}{aK:List lB}{aX:lB}{pv:AV}(h:Gs aM aK aX pv)
include h
theorem ayC:aL (dX aM pv aX)=0:=by
 have:=dj h.pr (bH (λ_=>rfl) _);simp[dX,aL,AV.refs,S,this]
theorem ayD(H:List ae)(lo:oN):D X0 (.fn (.func 47) [] []) [.agg (dX aM pv aX)] ⟨H,lo⟩=some (.ret (.bool (v7 aK aX)) ⟨H,lo⟩):=by
 refine aH EI λN f=>?_
 have g1: (dX aM pv aX)[1]?=some pv:=rfl;have g2: (dX aM pv aX)[2]?=some (S aX):=rfl;unfold v7;by_cases g:20<aK.length
 ·have a: (aK.length:Int)>20:=by omega
  rw[aec g,ar2];simp only[F1,go_sem,simprocAttr,EI,f,g1,h.pr.bY,a]
 by_cases l:6000<aX.length
 ·have a: ¬(aK.length:Int)>20:=by omega
  have b: (aX.length:Int)>6000:=by omega
  rw[adO g,aec l,ar2,ar5];simp only[F1,go_sem,simprocAttr,EI,f,g1,g2,h.pr.bY,a,b]
 have a: ¬(aK.length:Int)>20:=by omega
 have b: ¬(aX.length:Int)>6000:=by omega
 rw[adO g,adO l,ar5,ar5];simp only[go_sem,simprocAttr,EI,f,g1,g2,h.pr.bY,a,b];refine eN aK.length (λk e W=>W=H++[.box (dX aM pv aX) none]/\e 1= .ptr N 0/\e 3= .int .i64 k/\ ∀j,j<k->(λp:lB=>decide (1000<p.length)) (aK.getD j default)=false) 0 (by omega) ?_ ?_
 ·simp only[go_sem,simprocAttr];exactλj d=>absurd d (aoc j)
 rintro k t e W ⟨rfl,e1,e3,i⟩ n s;simp(disch:=omega) only[cb,F1,go_sem,simprocAttr,aeq,e1,e3,g1,h.pr.bY];refine⟨λr=>?_,λr=>?_⟩
 ·have c:k<aK.length:=by omega
  simp(disch:=omega) only[cb,F1,go_sem,simprocAttr,e1,e3,h.pr.cD,h.pr.di,↓pS];refine⟨by omega,λo=>?_,λo=>?_⟩
  ·rw[(List.any_eq_true).2 ⟨_,fO c,aec (by omega)⟩]
  ·exact⟨c,p7 (p:=λj=>decide (1000< (aK.getD j default).length)=false) i (adO (by omega))⟩
 ·have: (aK.any λp=>decide (1000<p.length))=false:=by
    rw[List.any_eq_false];intro x m;obtain⟨j,d,rfl⟩:=ap4 m;have:=i j (by omega);rw[show aK.getD j default=aK[j] by simp[List.getD,d]]at this;exactλq=>by rw[show decide (1000<aK[j].length)=false from this]at q;cases q
  rw[this]
theorem ayE(H:List ae)(lo:oN):D X0 (.fn (.func 10) [] []) [.agg (dX aM pv aX)] ⟨H,lo⟩=some (.ret (.bool (Mk aK aX)) ⟨H,lo⟩):=by
 refine aH JA λN e=>?_
 have g2: (dX aM pv aX)[2]?=some (S aX):=rfl;have c: (dX aM pv aX).length=3:=rfl;have b:List.take 3 (dX aM pv aX)=dX aM pv aX:=rfl;have e1:decide ((aX.length:Int)>1500)=decide (1500<aX.length):=afB.2 (by omega);have a:=ayD h;unfold Mk;cases d:v7 aK aX
 ·rw[d]at a;simp only[F1,go_sem,simprocAttr,JA,e,g2,a,c,b,e1]
 ·rw[d]at a;simp only[F1,go_sem,simprocAttr,JA,e,a,c,b]
theorem ayF(i:v7 aK aX=false)(H:List ae)(lo:oN): ∃kv,D X0 (.fn (.func 14) [] []) [.agg (dX aM pv aX)] ⟨H,lo⟩=some (.ret (.agg [.int .i64 aM,pv,kv]) ⟨H,lo⟩)/\Mb aM aK aX pv kv:=by
 have g:aK.length<=20/\aX.length<=6000:=by
  unfold v7 at i
  grind
 refine⟨.sl (aX.map bC) false,?_,⟨h.pr,.sl λel d=>by obtain⟨x,_,rfl⟩:=afq.1 d;rfl,by omega,by omega⟩⟩;refine aH Pw λN j=>?_
 have k: (dX aM pv aX)[0]?=some (.int .i64 aM):=rfl;have g1: (dX aM pv aX)[1]?=some pv:=rfl;have g2: (dX aM pv aX)[2]?=some (S aX):=rfl;have b:=dj h.pr (bH (λ_=>rfl) _);have c:HD (S aX)=some (.sl (aX.map bC) false):=by
  have e:HD (S aX)=if aX.length<=room then some (.sl (aX.map bC) false)else none:=rfl
  rw[e,adG (by unfold room;omega)]
 have f:ca (aX.map bC)=0:=bH (λ_=>rfl) _;have a:=qk (h.pr ⟨[],none⟩);simp only[F1,go_sem,simprocAttr,Pw,j,k,g1,g2,c,a.1,a.2,b,f,apJ,amv]
theorem ayG(t:v7 aK aX=false)(H:List ae)(lo:oN):D X0 (.fn (.func 11) [] []) [.agg (dX aM pv aX)] ⟨H,lo⟩=some (.ret (.bool (pZ ⟨aM,aK,aX.map UInt8.toNat⟩)) ⟨H,lo⟩):=by
 refine aH Pv λN F=>?_
 have A: (dX aM pv aX)[0]?=some (.int .i64 aM):=rfl;have g1: (dX aM pv aX)[1]?=some pv:=rfl;have g2: (dX aM pv aX)[2]?=some (S aX):=rfl;obtain⟨w,f⟩: ∃b,b=decide (1<=aM/\aM<=64/\1<=aK.length/\aK.length<=8/\aX.length<=4000):=⟨_,rfl⟩;have r:pZ ⟨aM,aK,aX.map UInt8.toNat⟩=(w&&aK.all (λp=>(decode p).isSome)&& (aX.map UInt8.toNat).all lH):=by unfold pZ;rw[afm,f]
 rw[r];simp only[go_sem,simprocAttr,Pv,F,A];refine wz 33 (.bool (!w)) [1] rfl rfl ?_ λG=>?_
 ·rw[f];simp(disch:=omega) only[R4,go_sem,simprocAttr,A,g1,g2,h.pr.bY];generalize aK.length=np
  (repeat' (first|apply And.intro|intro _))
  all_goals(refine ag3 AV.bool (al4.2 ?_);simp[];try(intros;omega))
 cases w
 ·simp(disch:=omega) only[F1,go_sem,simprocAttr];rfl
 have f:=(axj f.symm);simp only[go_sem,simprocAttr];refine eN aK.length (λk e W=>W=H++[.box (dX aM pv aX) none]/\e 1= .ptr N 0/\e 3= .int .i64 k/\ ∀j,j<k->(λp:lB=>(decode p).isSome) (aK.getD j default)=true) 0 (by omega) ?_ ?_
 ·simp only[go_sem,simprocAttr];exactλj g=>absurd g (aoc j)
 rintro k I e W ⟨rfl,e1,e3,l⟩ n C;simp(disch:=omega) only[cb,go_sem,simprocAttr,aem,e1,e3,g1,h.pr.bY];refine⟨λq=>?_,λq=>?_⟩
 ·have a:k<aK.length:=by omega
  have s: (aK.getD k default).length<=1000:=by
   unfold v7 at t;simp only[Bool.or_eq_false_iff,List.any_eq_false,agQ]at t;have:=t.2.2 _ (fO a);omega
  obtain⟨v,u⟩:=ayB (aK.getD k default) s (H++[.box (dX aM pv aX) none]) none;simp(disch:=omega) only[go_sem,simprocAttr,h.pr.cD,h.pr.di,↓pS,u];refine⟨by omega,?_⟩;cases m: (decode (aK.getD k default)).isSome
  ·simp(disch:=omega) only[F1,go_sem,simprocAttr];have: (aK.all λp=>(decode p).isSome)=false:=by
    rw[aBR];exact⟨_,fO a,by rw[m];decide⟩
   rw[this];rfl
  ·simp(disch:=omega) only[go_sem,simprocAttr,e1,e3];exact⟨a,p7 (p:=λj=>(decode (aK.getD j default)).isSome=true) l m⟩
 have d: (aK.all λp=>(decode p).isSome)=true:=by
  rw[afy];intro x o;obtain⟨j,g,rfl⟩:=ap4 o;have:=l j (by omega);rwa[show aK.getD j default=aK[j] by simp[List.getD,g]]at this
 rw[d,al0];clear l d;refine eN aX.length (λk e W=>W=H++[.box (dX aM pv aX) none]/\e 1= .ptr N 0/\e 6= .int .i64 k/\ ∀j,j<k->lH (aX.getD j 0).toNat=true) 0 (by omega) ?_ ?_
 ·simp only[go_sem,simprocAttr,e1];exactλj g=>absurd g (aoc j)
 clear e1 e3 q;rintro i E e W ⟨rfl,e1,e6,l⟩ n C;simp(disch:=omega) only[cb,F1,go_sem,simprocAttr,ael,e1,e6,g2];refine⟨λq=>?_,λq=>?_⟩
 ·have a:i<aX.length:=by omega
  have o:=(aX.getD i 0).toNat_lt;refine⟨by omega,?_⟩;generalize z: (aX.getD i 0).toNat=c at*;refine wz 72 (.bool (!lH c)) [1,6] rfl rfl ?_ λG=>?_
  ·unfold lH;simp only[R4,go_sem,simprocAttr]
   (repeat' (first|apply And.intro|intro _))
   all_goals(refine ag3 AV.bool (al4.2 ?_);simp[];try(intros;omega))
  cases m:lH c
  ·simp(disch:=omega) only[F1,go_sem,simprocAttr];have: (aX.map UInt8.toNat).all lH=false:=by
    rw[aBR];exact⟨c,afq.2 ⟨aX.getD i 0,by rw[show aX.getD i 0=aX[i] by simp[List.getD,a]];exact aqz a,z⟩,by rw[m];decide⟩
   rw[this]
  ·simp(disch:=omega) only[go_sem,simprocAttr,e1,e6];exact⟨a,p7 (p:=λj=>lH (aX.getD j 0).toNat=true) l (by rw[z,m])⟩
 ·have d: (aX.map UInt8.toNat).all lH=true:=by
    rw[afy];intro x o;obtain⟨y,B,rfl⟩:=afq.1 o;obtain⟨j,g,rfl⟩:=ap4 B;have:=l j (by omega);rwa[show aX.getD j 0=aX[j] by simp[List.getD,g]]at this
  rw[d]
end
theorem alu(k:Nat): ∀t:List (Nat×lB×Nat),eB (.int .u8 k) (sv t)=some ((t.find? λx=>decide (k=x.1)).map λx=>.fn (.func x.2.2) [] [])
 | []=>rfl
 |a::t=>by
  have b:=alu k t;show eB (.int .u8 k) ((.int .u8 a.1,.fn (.func a.2.2) [] [])::sv t)=_;rw[Lt,List.find?_cons]
  grind
def ayH{X:Ctx}{t:List (Nat×lB×Nat)}{g:Nat}(h:X.gl g=some (sv t))(k:Nat)(E:AS)(a:Bool):
  jJ X.gl E .int .dA (.lP g) (.int .u8 k) a=some (match(t.find? λx=>decide (k=x.1)).map λx=>x.2.2 with|some f=>if a then .az [.fn (.func f) [] [],.bool true]else .fn (.func f) [] []|none=>if a then .az [.dA,.bool false]else .dA):=by
 have e:jJ X.gl E .int .dA (.lP g) (.int .u8 k) a=match X.gl g with
  |some es=>(match eB (.int .u8 k) es with|some (some v)=>some (if a then .az [v,.bool true]else v)|some none=>some (if a then .az [.dA,.bool false]else .dA)|none=>none)
  |none=>none:=rfl
 rw[e,h];dsimp only;rw[alu];cases t.find? λx=>decide (k=x.1)<;>rfl
def aDo{t:List (Nat×lB×Nat)}(h:t.all (λx=>decide (x.1<n))=true)(a:n<=k): (t.find? λx=>decide (k=x.1))=none:=by grind
def ayI(a:Nat): ((xj.find? λx=>decide (a=x.1)).map λx=>x.2.2)=rP a:=by
 by_cases h:a<23
 ·have: ∀i:Fin 23,((xj.find? λx=>decide (i.1=x.1)).map λx=>x.2.2)=rP i.1:=by decide
  exact this ⟨a,h⟩
 ·match a,h with
  |n+23,_=>rfl
def Gt(a:Nat):qm a:=λE=>by
 rw[ayH (X:=XA) (t:=xj) rfl,ayI]
 grind
structure aDp(x y:vZ):Prop where
 ok:UM y
 may:ayu y=true
 v5:0<=y.v5/\y.v5<=100
 order:y.order=x.order
def alv{E:AS}(h:v.refs<=n): (finish n lo v E).1=v:=by
 obtain⟨W,l⟩:=E;cases l with
 |none=>rw[DA,adG h]
 |some j=>
  rw[HG,adG h]
  grind
section
variable{aM:Int}{aK:List lB}{aX:lB}{pv:AV}(h:Gs aM aK aX pv)(x:vZ)(hx:UM x)(ov:AV)(hov:Rv ov 1 (x.order.map uC))
include h hx hov
omit h in
end
def cm(k:Nat)(r:aD):Nat:=if r.1<=k/\k<r.1+r.2 then 1 else 0
def cR(k:Nat)(l:List aD):Nat:=(l.map (cm k)).sum
theorem ux(k:Nat):cR k []=0:=rfl
theorem kW(k:Nat)(r:aD)(l:List aD):cR k (r::l)=cm k r+cR k l:=by rfl
def nK(k:Nat)(a b:List aD):cR k (a++b)=cR k a+cR k b:=by simp[cR]
def rV(k a:Nat):cm k (a,0)=0:=adE (by simp)
def ayK{r:aD}(h:r∈l):cm k r<=cR k l:=by
 obtain⟨a,b,rfl⟩:=ar3 h;rw[nK,kW];omega
def ayL{e:List aD}{x:aD}(c:mK l x=some e)(k:Nat):cR k e+cm k x=cR k l:=by
 unfold mK at c;split at c
 ·grind
 split at c
 ·grind
 rename_i i h;cases c;obtain⟨g,b,_⟩:=apR.1 h;have d:l.getD i (0,0)=l[i]:=by grind
 rw[d];have a:cR k l=cR k (l.take i++(l[i]::l.drop (i+1))):=by simp
 rw[a];generalize n:l[i]=y at*;generalize l.take i=A at*;generalize l.drop (i+1)=B at*;have j:x=y\/ (y.1<=x.1/\x.1+x.2<=y.1+y.2):=by simpa using b
 have f:y.1<=x.1/\x.1+x.2<=y.1+y.2:=by
  rcases j with rfl|q
  ·exact⟨aef _,aef _⟩
  ·exact q
 rw[nK,nK,nK,nK,kW]
 suffices o:cR k (if y.1<x.1 then[(y.1,x.1-y.1)]else[])+cR k (if x.1+x.2<y.1+y.2 then[(x.1+x.2,y.1+y.2- (x.1+x.2))]else[])+cm k x=cm k y by omega
 have e1:cR k (if y.1<x.1 then[(y.1,x.1-y.1)]else[])=if y.1<=k/\k<x.1 then 1 else 0:=by
  split
  ·rw[kW,ux];unfold cm;dsimp only;rw[show y.1+(x.1-y.1)=x.1 by omega];rfl
  ·rw[adE (by omega)];rfl
 have m:cR k (if x.1+x.2<y.1+y.2 then[(x.1+x.2,y.1+y.2- (x.1+x.2))]else[])=if x.1+x.2<=k/\k<y.1+y.2 then 1 else 0:=by
  split
  ·rw[kW,ux];unfold cm;dsimp only;rw[show x.1+x.2+(y.1+y.2- (x.1+x.2))=y.1+y.2 by omega];rfl
  ·rw[adE (by omega)];rfl
 rw[e1,m];unfold cm
 grind
def Ml{a b:aD}(h:a.1+a.2=b.1):cm k (a.1,a.2+b.2)=cm k a+cm k b:=by
 unfold cm;grind
def ayM: ∀ (l:List aD) (x:aD) (put:Bool) (out e:List aD),dP l->(put=true-> ∀b∈l,uo x b)->gz x put out l=some e->cR k e=cR k out+cR k l+(if put then 0 else cm k x):=by
 intro l
 induction l with
 |nil=>
  intro x put out e _ _ h;cases h;cases put<;>simp[nK,kW,ux]
 |cons y ys g=>
  intro x put out e i s h;have d:dP ys:=⟨(akT.1 i.pw).2,λz p=>i.bd z (afv _ p)⟩;have n:=(akT.1 i.pw).1;have r:=i.bd y (afG ..);have a: ∀c,(c-> ¬uo x y)->c->put=false:=λc u t=>by
   cases put with
   |false=>rfl
   |true=>exact absurd (s rfl y (afG ..)) (u t)
  unfold gz at h;split at h
  ·rename_i m;have:=a _ (λ_ f=>by have:x.1+x.2<y.1:=f;omega) m;subst this;rw[g x false (out++[y]) e d (λq=>by cases q) h,nK,kW,kW,ux];omega
  split at h
  ·rename_i m j;rw[g x true _ e d (λ_ b f=>by have w:y.1+y.2<b.1:=n b f;show x.1+x.2<b.1;omega) h,nK,nK,kW,kW,ux];cases put<;>simp[kW,ux]<;>omega
  split at h
  ·rename_i m j o;have:=a _ (λ_ f=>by have:x.1+x.2<y.1:=f;omega) j;subst this;rw[g _ false out e d (λq=>by cases q) h,Ml o,kW];simp;omega
  split at h
  ·rename_i m j o v;have:=a _ (λ_ f=>by have:x.1+x.2<y.1:=f;omega) j;subst this;rw[g _ false out e d (λq=>by cases q) h,Ml v.symm,kW];simp;omega
  ·cases h
def ayN{a:List aD}{x:aD}(h:dP l)(b:gR l x=some a):cR k a=cR k l+cm k x:=by
 unfold Go.Proofs.YteplichagkpciaaGreatDoor.gR at b;split at b
 ·rw[ayM l x false [] a h (λq=>by cases q) b,ux];simp
 grind
def ayO: ∀ (l:List aD) (x:aD) (put:Bool) (out:List aD),dP l->(∀k,cR k l+cm k x<=1)->1<=x.2-> ∃g,gz x put out l=some g:=by
 intro l
 induction l with
 |nil=>intro x put out _ _ _;exact⟨_,rfl⟩
 |cons y ys d=>
  intro x put out e j f;have a:dP ys:=⟨(akT.1 e.pw).2,λz h=>e.bd z (afv _ h)⟩;have i:=e.bd y (afG ..);have b: ∀k,cm k y+cR k ys+cm k x<=1:=λk=>by have:=j k;rwa[kW]at this
  have c: ∀k,cR k ys+cm k x<=1:=λk=>by grind
  unfold gz;split
  ·exact d _ _ _ a c f
  split
  ·exact d _ _ _ a c f
  split
  ·rename_i n;exact d _ _ _ a (λk=>by rw[Ml n];have:=b k;omega) (by show 1<=y.2+x.2;omega)
  split
  ·rename_i m;exact d _ _ _ a (λk=>by rw[Ml m.symm];have:=b k;omega) (by show 1<=x.2+y.2;omega)
  ·exfalso;have o:=b (max x.1 y.1);have i1:cm (max x.1 y.1) x=1:=adG (by omega);have i2:cm (max x.1 y.1) y=1:=adG (by omega);omega
def ayP{x:aD}(h:dP l)(b: ∀k,cR k l+cm k x<=1)(c:1<=x.2)(d:x.1+x.2<=64): ∃a,gR l x=some a:=by
 unfold Go.Proofs.YteplichagkpciaaGreatDoor.gR;rw[adG (by simp[j9];omega)];exact ayO l x false [] h b c
def ayQ(h:cR k l=0):FC l k=false:=by
 unfold FC;cases a: (decide (k<64)&&l.any λy=>decide ((k,1)=y)|| (decide (y.1<=k)&&decide (k+1<=y.1+y.2)))
 ·rfl
 ·simp only[afz,List.any_eq_true,anV,agQ]at a;obtain⟨_,y,b,c⟩:=a;have e:=ayK (k:=k) b;have d:cm k y=1:=adG (by grind);omega
def ayR{x y:aD}(b:y∈l)(f:1<=x.2)(e:x.1+x.2<=64)(d:y.1<=x.1/\x.1+x.2<=y.1+y.2): ∃a,mK l x=some a:=by
 unfold mK;rw[adE (by simp[j9];omega)];cases c:l.findIdx? λy=>decide (x=y)|| (decide (y.1<=x.1)&&decide (x.1+x.2<=y.1+y.2))with
 |none=>grind
 |some i=>simp
def ayS{p:cz}(h:fy p)(n:Nat): ((gj p n).2.2=0/\ (gj p n).1.n=p.n/\1<=n/\ (gj p n).2.1+n<=64/\ ∀k,cR k (gj p n).1.free+cm k ((gj p n).2.1,n)=cR k p.free)\/ ((gj p n).1=p/\ ((gj p n).2.2=6\/n<1/\ (gj p n).2.2=2)):=by
 unfold gj;by_cases c:n<1
 ·grind
 rw[adE c];cases b:p.free.find? λx=>decide (1<=n)&&decide (n<=x.2)with
 |none=>simp
 |some x=>
  have hm:=apT b;have e:n<=x.2:=by grind
  have f:=h.free.bd x hm;obtain⟨d,a⟩:=ayR (x:=(x.1,n)) hm (by omega) (by omega) (by omega);dsimp only;rw[a];exact .inl ⟨rfl,rfl,by omega,by omega,λk=>ayL a k⟩
def ayT{p:cz}(h:fy p)(e:q<p.n)(c:cR q p.free=0)(g: ∀k,cR k p.free<=1)(k:Nat):cR k (kS p q).free=cR k p.free+(if q=k then 1 else 0):=by
 have f:=h.n;have e1:gr p q=0:=by unfold gr;rw[adE (by omega),ayQ c];rfl
 have b: ∀k,cm k (q,1)=if q=k then 1 else 0:=λk=>by
  unfold cm;grind
 obtain⟨d,a⟩:=ayP (l:=p.free) (x:=(q,1)) h.free (λk=>by grind) (aef 1) (by omega);unfold kS B4;rw[adG e1,a];rw[ayN h.free a,b]
def UN{f g:Nat->Nat}(h: ∀j,j≠i->f j=g j): ∀n,i<n->((List.range n).map f).sum+g i=((List.range n).map g).sum+f i:=by
 have e: ∀n,n<=i->((List.range n).map f).sum=((List.range n).map g).sum:=λn a=>by
  congr 1
  exact akJ λj c=>h j (by grind)
 intro n a
 induction n with
 |zero=>omega
 |succ n b=>
  rw[anC,afr,afr,List.sum_append,List.sum_append];simp only[aiQ,aqr,List.sum_cons,List.sum_nil];by_cases d:i=n
  ·grind
  grind
def cS(k:Nat)(t:au)(i:Nat):Nat:=bif (t.b i).cO then cR k (t.r i).runs else 0
def Mm(h: (t.b i).cO=true):cS k t i=cR k (t.r i).runs:=by unfold cS;grind
def UO(h: (t.b i).cO=false):cS k t i=0:=by unfold cS;grind
def Mo(h: (t'.b i).cO=(t.b i).cO)(a: (t'.r i).runs=(t.r i).runs):cS k t' i=cS k t i:=by unfold cS;grind
@[irreducible]def cT (k:Nat) (t:au):Nat:=((List.range 32).map (cS k t)).sum
def UP(a:i<32)(h: ∀j,j≠i->cS k t' j=cS k t j):cT k t'+cS k t i=cT k t+cS k t' i:=by
 unfold cT;exact UN h 32 a
def ayU(h: ∀i,(t'.b i).cO=(t.b i).cO/\ (t'.r i).runs=(t.r i).runs):cT k t'=cT k t:=by
 unfold cT;congr 1;exact akJ λi _=>Mo (h i).1 (h i).2
def alw{h:Nat}(a:t.ar h=true): (t.b (aI h)).cO=true:=by
 rw[(sW (show Go.Proofs.YteplichagkpciaaGreatDoor.ar t.b h=true from a)).2.1]
def Gu{h:Nat}(a:t.ar h=true): (aG t h).1.runs=(t.r (aI h)).runs:=by unfold aG;grind
def alx{h:Nat}(b: (ew t h r).2=0):cT k (ew t h r).1+cR k (aG t h).1.runs=cT k t+cR k r.runs:=by
 unfold ew at b⊢;by_cases a:t.ar h=false
 ·grind
 rw[adE a]at b⊢;have a:t.ar h=true:=by grind
 split at b
 ·omega
 rename_i e;rw[adE e,Gu a];have c:=alw a;have key:=UP (k:=k) (t:=t) (t':={t with r:=ao t.r (aI h) {r with up:=(t.r (aI h)).up}}) (vz h) λj d=>Mo rfl (by show cP.runs (ao _ _ _ j)=_;rw[bT d])
 rw[Mm c,Mm (t:={t with r:=ao t.r (aI h) {r with up:=(t.r (aI h)).up}}) c]at key;rw[show({t with r:=ao t.r (aI h) {r with up:=(t.r (aI h)).up}}:au).r (aI h)={r with up:=(t.r (aI h)).up}from bS]at key;exact key
def aly{h:Nat}(a:r.runs=(aG t h).1.runs):cT k (ew t h r).1=cT k t:=by
 by_cases he: (ew t h r).2=0
 ·have:=alx (k:=k) he
  grind
 ·have: (ew t h r).1=t:=by
    unfold ew at he⊢
    grind
  rw[this]
def ayV{h:Nat}(a:t.ar h=true):cT k (fu t h).1+cR k (aG t h).1.runs=cT k t:=by
 unfold fu;rw[adG a,Gu a];have e:=alw a;have c: (dy t.b h).1=ao t.b (aI h) (nj (t.b (aI h))):=by unfold dy;rw[adG (show Go.Proofs.YteplichagkpciaaGreatDoor.ar t.b h=true from a)]
 have key:=UP (k:=k) (t:=t) (t':={b:=(dy t.b h).1,r:=ao t.r (aI h) cU}) (vz h) λj d=>Mo (by show((dy t.b h).1 j).cO=_;rw[c,bT d]) (by show cP.runs (ao _ _ _ j)=_;rw[bT d])
 rw[Mm e,UO (t:={b:=(dy t.b h).1,r:=ao t.r (aI h) cU}) (by
  show((dy t.b h).1 (aI h)).cO=false;rw[c,bS];unfold nj;grind)]at key
 omega
def alz{h:Nat}:cT k (jA t h a).1=cT k t:=by
 unfold jA;split
 ·rfl
 split
 ·rfl
 ·exact ayU λi=>⟨rfl,by
   unfold ao;grind⟩
theorem ayW{t0:au}{h x:Nat}:cT k (vu t0 h t x)=cT k t:=aly rfl
def ayX{h:Nat}:cT k (iv t h).1=cT k t:=by
 unfold iv;split
 ·rfl
 ·rw[alz];have: ∀ (l:lN) (u:au),cT k (l.foldl (vu t h) u)=cT k u:=by
   intro l
   induction l with
   |nil=>simp
   |cons a l b=>intro u;rw[aqt,b,ayW]
  grind
def ayY{h:Nat}:cT k (mF t h a).1=cT k t:=by
 unfold mF;split
 ·rfl
 split
 ·rfl
 split
 ·rfl
 ·exact alz
def ayZ{up:Nat}:cT k (fh t up n).1=cT k t:=by
 have d:cT k (ka t up n).1=cT k t:=by
  unfold ka;split
  ·rfl
  split
  ·rfl
  split
  ·rename_i i c;obtain⟨i1,i2,_,_⟩:=pO c;have key:=UP (k:=k) (t:=t) (t':={b:=ao t.b i {t.b i with cO:=true},r:=ao t.r i {cU with up:=up,cZ:=n}}) i1 λj a=>Mo (by show Slot.cO (ao _ _ _ j)=_;rw[bT a]) (by show cP.runs (ao _ _ _ j)=_;rw[bT a])
   rw[UO i2,Mm (t:={b:=ao t.b i {t.b i with cO:=true},r:=ao t.r i {cU with up:=up,cZ:=n}}) (by show Slot.cO (ao _ _ _ i)=_;rw[bS])]at key;rw[show({b:=ao t.b i {t.b i with cO:=true},r:=ao t.r i {cU with up:=up,cZ:=n}}:au).r i={cU with up:=up,cZ:=n}from bS]at key;have e:cR k ({cU with up:=up,cZ:=n}:cP).runs=0:=rfl
   grind
  ·rfl
 unfold fh
 grind
def alA{r b to:Nat}{a:Bool}:cT k (lF t r b to a).1=cT k t:=by
 unfold lF;split
 ·rfl
 split
 ·rfl
 split
 ·rfl
 ·dsimp only;split
  ·exact aly rfl
  ·rfl
def alB{y z:Nat}(b:t.ar y=true)(c:t.ar z=true)(a:z≠y): (aG (fu t y).1 z).1.runs=(aG t z).1.runs/\ (fu t y).1.ar z=true:=by
 have d: (fu t y).1.ar z=true:=by
  unfold fu;rw[adG b];exact TI c b a
 refine⟨?_,d⟩;rw[Gu d,Gu c];unfold fu;rw[adG b];show(ao t.r (aI y) cU (aI z)).runs=_;rw[bT λe=>a (zY c b e)]
theorem alC{k:Nat}: ∀ (l:lN) (t:au),l.Nodup->(∀z∈l,t.ar z=true)->cT k (fW t l)+cR k (l.flatMap λy=>(aG t y).1.runs)=cT k t
 | [],_,_,_=>rfl
 |y::l,t,f,c=>by
  obtain⟨i,g⟩:=aqf.1 f;have b:=c y (afG ..);have a: ∀z∈l,t.ar z=true/\z≠y:=λz a=>⟨c z (afv _ a),λe=>i (e ▸ a)⟩
  have d:=alC (k:=k) l (fu t y).1 g λz h=>(alB b (a z h).1 (a z h).2).2
  have e: (l.flatMap λz=>(aG (fu t y).1 z).1.runs)=l.flatMap λz=>(aG t z).1.runs:=KW λz h=>(alB b (a z h).1 (a z h).2).1
  rw[e]at d;have j:=ayV (k:=k) b;rw[aob,nK];show cT k (fW (fu t y).1 l)+_=_;omega
def cC(k:Nat)(x:ay):Nat:=cT k x.s.T+cR k x.back
theorem alD: ∀ (l:lN) (x:ay),(l.foldl fE x).s.T=x.s.T/\ (l.foldl fE x).back=x.back++l.flatMap λy=>(aG x.s.T y).1.runs
 | [],x=>⟨rfl,by simp⟩
 |a::l,x=>by
  obtain⟨c,b⟩:=alD l (fE x a);refine⟨c,?_⟩;rw[aqt,b];show(x.back++(aG x.s.T a).1.runs)++_=_;rw[adK,aob];rfl
def Mp(b:aW x.s)(h k:Nat):cC k (ef x h)=cC k x:=by
 unfold ef;obtain⟨f,d⟩:=alD (under x.s.T h) x;show cT k (hZ ((under x.s.T h).foldl fE x).s.T h).1+cR k ((under x.s.T h).foldl fE x).back=_;rw[f,d,nK];have g:=alC (k:=k) (under x.s.T h) x.s.T (TG b.tr h) λz a=>by
  unfold under at a;split at a
  ·rename_i c;exact zF b.T.b c a
  grind
 have: (hZ x.s.T h).1=fW x.s.T (under x.s.T h):=by
  unfold hZ;split
  ·rename_i e;rw[e];rfl
  ·rfl
 rw[this];show _=cT k x.s.T+cR k x.back;omega
def dG(x y:ay):Prop:= ∀k,cC k y=cC k x
def dG.of(c: ∀k,cT k y.s.T=cT k x.s.T)(b:y.back=x.back):dG x y:=λk=>by unfold cC;grind
def dG.same(c:y.s.T=x.s.T)(b:y.back=x.back):dG x y:=.of (λk=>by rw[c]) b
theorem dG.trans(h:dG x y)(b:dG y z):dG x z:=λk=>(b k).trans (h k)
def Mr{h t:Nat}(e:kQ x h t= .ok y):dG x y:=by
 obtain⟨_,_,e⟩:=aC e;cases e;exact .same rfl rfl
def UQ{h:Nat}(e:mI x h r= .ok y)(k:Nat):cC k y+cR k (aG x.s.T h).1.runs=cC k x+cR k r.runs:=by
 obtain⟨_,he,e⟩:=aC e;cases e;have:=alx (k:=k) (nJ he);show cT k (ew x.s.T h r).1+cR k x.back+_=cT k x.s.T+cR k x.back+_;omega
def UR{h:Nat}(e:sY x h= .ok y):dG x y:=by
 obtain⟨_,_,e⟩:=aC e;cases e;exact .of (λk=>ayX) rfl
theorem US{β:Type}{I:ay->Prop}{P:β->Prop}{f:ay->β->R ay}(d: ∀y b z,I y->P b->f y b= .ok z->I z): ∀ (l:List β) (y z:ay),(∀b∈l,P b)->I y->l.foldlM f y= .ok z->I z
 | [],y,z,_,h,e=>by cases e;exact h
 |b::l,y,z,g,h,e=>by
  obtain⟨w,e1,j⟩:=aC (show(f y b>>=λw=>l.foldlM f w)= .ok z from by grind);exact US d l w z (λc i=>g c (afv _ i)) (d y b w h (g b (afG ..)) e1) j
theorem UT{β:Type}{I:ay->Prop}{f:ay->β->ay}(c: ∀y b,I y->I (f y b)): ∀ (l:List β) (y:ay),I y->I (l.foldl f y)
 | [],_,h=>h
 |b::l,y,h=>UT c l (f y b) (c y b h)
section
variable{x:ay}{a:ay×bt}
def ay0(h:pR x= .ok a):dG x a.1:=by
 unfold pR at h;have b:dG x (x.t (fh x.s.T x.c.r (min x.c.a 65)).1):=.of (λk=>ayZ) rfl;by_cases c:x.c.r=0
 ·simp only[c,ne_eq,not_true,aha,afK]at h;obtain⟨_,_,h⟩:=aC h;obtain⟨y,e,h⟩:=aC h;cases h;rw[c]at b;exact b.trans (Mr e)
 ·simp only[c,ne_eq,axk,aha,afK]at h;obtain⟨_,_,h⟩:=aC h;obtain⟨_,_,h⟩:=aC h;obtain⟨y,e,h⟩:=aC h;cases e;cases h;exact b
def ay1(h:pT x w= .ok a):dG x a.1:=by
 obtain⟨_,_,h⟩:=aC h;obtain⟨_,_,h⟩:=aC h;obtain⟨_,_,h⟩:=aC h;obtain⟨_,_,h⟩:=aC h;cases h;exact .same rfl rfl
def ay2(h:xo x= .ok a):dG x a.1:=by
 obtain⟨_,_,h⟩:=aC h;obtain⟨_,_,h⟩:=aC h;obtain⟨y,e,h⟩:=aC h;obtain⟨z,b,h⟩:=aC h;cases h;exact(UR e).trans (Mr b)
def ay3(h:xp x= .ok a):dG x a.1:=by
 obtain⟨_,_,h⟩:=aC h;obtain⟨_,_,h⟩:=aC h;obtain⟨_,_,h⟩:=aC h;cases h;exact .of (λk=>ayY) rfl
def ay4(h:xq x= .ok a):dG x a.1:=by
 obtain⟨_,_,h⟩:=aC h;obtain⟨y,e,h⟩:=aC h;obtain⟨_,_,h⟩:=aC h;cases h;exact(UR e).trans (.same rfl rfl)
def ay5(h:vD x= .ok a):dG x a.1:=by
 obtain⟨_,_,h⟩:=aC h;obtain⟨_,_,h⟩:=aC h;obtain⟨_,_,h⟩:=aC h;cases h;exact .same rfl rfl
def ay6(h:pU x= .ok a):dG x a.1:=by
 obtain⟨_,_,h⟩:=aC h;obtain⟨_,_,h⟩:=aC h;obtain⟨_,_,h⟩:=aC h;split at h
 ·obtain⟨_,_,h⟩:=aC h;obtain⟨_,_,h⟩:=aC h;cases h;exact .same rfl rfl
 ·obtain⟨_,_,h⟩:=aC h;obtain⟨_,_,h⟩:=aC h;obtain⟨_,_,h⟩:=aC h;cases h;exact .same rfl rfl
def ay7(h:vE x= .ok a):dG x a.1:=by
 obtain⟨_,_,h⟩:=aC h;obtain⟨_,_,h⟩:=aC h;cases h;exact .same rfl rfl
def ay8(h:vF x= .ok a):dG x a.1:=by
 obtain⟨_,_,h⟩:=aC h;cases h;exact .same rfl rfl
def ay9(h:pV x= .ok a):dG x a.1:=by
 obtain⟨_,_,h⟩:=aC h;cases h;exact .same rfl rfl
def aza(h:nu x= .ok a):dG x a.1:=by
 unfold nu at h;have b:dG x (x.bx x.aa (iz (x.s.bp x.aa)).1):=.same rfl rfl
 try dsimp only at h
 obtain⟨_,_,h⟩:=aC h;split at h
 ·obtain⟨y,e,h⟩:=aC h;cases h;exact b.trans (Mr e)
 ·obtain⟨y,e,h⟩:=aC h;cases e;cases h;exact b
def azb(h:ox x= .ok a):dG x a.1:=by
 obtain⟨_,_,h⟩:=aC h;split at h
 ·obtain⟨_,_,h⟩:=aC h;obtain⟨_,_,h⟩:=aC h;cases h;exact .of (λk=>alA) rfl
 ·obtain⟨_,_,h⟩:=aC h;cases h;exact .of (λk=>alA) rfl
def azc(h:vG x= .ok a):dG x a.1:=by
 obtain⟨_,_,h⟩:=aC h;obtain⟨_,_,h⟩:=aC h;cases h;exact .same rfl rfl
def azd(h:mJ x= .ok a):dG x a.1:=by
 unfold mJ at h;obtain⟨_,_,h⟩:=aC h;obtain⟨_,_,h⟩:=aC h
 try dsimp only at h
 have fin: ∀ (y:ay) (b:Bool),dG x y->(ch (iw (y.s.bp x.c.a) ⟨x.aa % 256,x.c.v,x.c.r,b⟩).2>>=λ_=>(Pure.pure (y.bx x.c.a (iw (y.s.bp x.c.a) ⟨x.aa % 256,x.c.v,x.c.r,b⟩).1,bD):R (ay×bt)))= .ok a->dG x a.1:=by
  intro y b d h;obtain⟨_,_,h⟩:=aC h;cases h;exact d.trans (.same rfl rfl)
 split at h
 ·obtain⟨_,_,h⟩:=aC h
  try dsimp only at h
  obtain⟨y,e,h⟩:=aC h;cases e;refine fin _ _ ?_ h;split
  ·exact .same rfl rfl
  ·exact .same rfl rfl
 ·split at h
  ·obtain⟨_,_,h⟩:=aC h;obtain⟨y,e,h⟩:=aC h
   try dsimp only at h
   obtain⟨_,_,h⟩:=aC h;obtain⟨z,c,h⟩:=aC h;cases c;exact fin (y.o (vy y.s.O y.s.T x.c.r).1) _ ((UR e).trans (.same rfl rfl)) h
  ·obtain⟨z,c,h⟩:=aC h;cases c;exact fin _ _ (.same rfl rfl) h
def aze(h:sZ x= .ok a):dG x a.1:=by
 obtain⟨_,_,h⟩:=aC h;obtain⟨_,_,h⟩:=aC h;obtain⟨y,e,h⟩:=aC h;cases h;intro k;have:=UQ e k;have b:cC k {x with back:=x.back++(aG x.s.T x.c.r).1.runs}=cC k x+cR k (aG x.s.T x.c.r).1.runs:=by unfold cC;dsimp only;rw[nK];omega
 have e3:cR k ({cU with cZ:=(aG x.s.T x.c.r).1.cZ}:cP).runs=0:=rfl
 grind
def azf(b:aW x.s)(h:vB x= .ok a):dG x a.1:=by
 obtain⟨_,_,h⟩:=aC h;cases h;exactλk=>Mp b _ k
def alE{b:Nat}(e:aW y.s)(f:b<4294967296)(d:ji y b aa= .ok z):dG y z:=by
 obtain⟨_,_,d⟩:=aC d;cases d;have g:dG y (y.o (c7 y.s.O y.s.T b aa false).1):=.same rfl rfl;have c:aW (y.o (c7 y.s.O y.s.T b aa false).1).s:=e.qh (e.O.held f);split
 ·exact g.trans λk=>Mp c b k
 omega
def azg(b:aW x.s)(c:x.c.r<4294967296)(h:xr x= .ok a):dG x a.1:=by
 obtain⟨_,_,h⟩:=aC h;obtain⟨y,e,h⟩:=aC h;cases h;exact alE b c e
def azh(h:GI x)(e:lG x aa= .ok y):dG x y:=by
 rw[LO]at e;obtain⟨w,e1,g⟩:=aC e;have s:GI (nE x aa)/\dG x (nE x aa):=⟨h.set ((h.s.vR gW.gone).FV) rfl rfl,.same rfl rfl⟩;have r:GI w/\dG x w:=US (I:=λy=>GI y/\dG x y) (P:=qg) (λy m z b hm e=>by
  unfold uj at e;split at e
  ·cases e;exact b
  ·split at e
   ·have o:=Mr e;obtain⟨n,j⟩:=CF b.1.s hm.aJ e;obtain⟨_,_,e⟩:=aC e;cases e;exact⟨b.1.set n j rfl,b.2.trans o⟩
   ·cases e;exact⟨b.1.gone _,b.2.trans λk=>Mp b.1.s _ k⟩) _ _ _ (λm hm=>by
    obtain⟨i,_,rfl⟩:=afq.1 hm;exact(h.s.bx aa).ring _) s e1
 unfold Cr at g;have q:=UT (I:=λy=>GI y/\dG x y) (f:=λy h=>y.k (jB y.s.K h).1) (λy a b=>⟨b.1.set (b.1.s.xL (b.1.s.tok.ret a)) rfl rfl,b.2.trans (.same rfl rfl)⟩) (rA w.s.K aa) w r;have d:=λl=>UT (I:=λy=>GI y/\dG x y) (f:=ef) (λy a b=>⟨b.1.gone a,b.2.trans λk=>Mp b.1.s _ k⟩) l _ q
 refine(US (I:=λy=>GI y/\dG x y) (P:=λa=>a<4294967296) (λy a z b c e=>⟨b.1.fW c e,b.2.trans (alE b.1.s c e)⟩) _ _ _ (λa c=>?_) (d _) g).2;have p:=(afI.1 c).1;exact fV ((ia (d _).1.s.T.b).1 p)
def alF{t:Nat}(b:GI x)(h: (lG x t>>=λy=>.ok (y,bD))= .ok a):dG x a.1:=by
 obtain⟨y,e,h⟩:=aC h;cases h;exact azh b e
def azi(e:x.c.r<4294967296)(c:GI x)(ho:x.c.op≠2)(h:ib x= .ok a):dG x a.1:=by
 have d:=c.s;unfold ib at h;split at h
 all_goals try(rename_i b;first
  |exact absurd b ho
  |exact ay0 h|exact ay1 h|exact aze h|exact azf d h|exact azg d e h|exact alF c h|exact ay2 h|exact ay3 h
  |exact ay4 h|exact ay5 h|exact ay6 h|exact ay7 h|exact azd h|exact aza h|exact ay8 h|exact azb h|exact azc h|exact ay9 h)
 ·unfold xu at h;obtain⟨_,_,h⟩:=aC h;exact alF c h
 ·cases h
def azj(h:jh x= .ok a)(e:x.asks=false): (∃j,gB (aG x.s.T x.c.r).1.runs (aG x.s.T x.c.r).1.len (min x.c.a 129) (min x.c.b 9)=some j)/\dG x a.1\/l9 (min x.c.a 129) (min x.c.b 9)=some x.run.2/\gB (aG x.s.T x.c.r).1.runs (aG x.s.T x.c.r).1.len (min x.c.a 129) (min x.c.b 9)=none/\ ∀k,cC k a.1=cC k x+cm k x.run:=by
 unfold jh at h
 try dsimp only at h
 cases d:l9 (min x.c.a 129) (min x.c.b 9)with
 |none=>rw[d]at h;cases h
 |some n=>
  rw[d]at h;obtain⟨_,e1,h⟩:=aC h;cases e1;obtain⟨_,_,h⟩:=aC h;obtain⟨_,_,h⟩:=aC h;split at h
  ·rename_i j b;obtain⟨z,c,h⟩:=aC h;cases h;refine .inl ⟨⟨j,b⟩,λk=>?_⟩;have:=UQ c k
   grind
  ·rename_i b;obtain⟨_,_,h⟩:=aC h
   try dsimp only at h
   rw[adE (by show¬x.asks=true;rw[e];decide)]at h;obtain⟨_,hm,h⟩:=aC h;have hm:=xW hm;simp only[afz,agQ]at hm;obtain⟨z,c,h⟩:=aC h;cases h;refine .inr ⟨by rw[hm.1],b,λk=>?_⟩;have:=UQ c k;dsimp only at this;rw[nK,kW,ux]at this;show cC k z=cC k x+cm k x.run;have e3:cC k z+cR k (aG x.s.T x.c.r).1.runs=cC k x+(cR k (aG x.s.T x.c.r).1.runs+(cm k x.run+0)):=this;omega
def azk(c:gB (aG x.s.T x.c.r).1.runs (aG x.s.T x.c.r).1.len (min x.c.a 129) (min x.c.b 9)=some j)(h:jh x= .ok a):a.1.kO=x.kO:=by
 unfold jh at h
 try dsimp only at h
 cases b:l9 (min x.c.a 129) (min x.c.b 9)with
 |none=>rw[b]at h;cases h
 |some n=>
  rw[b]at h;obtain⟨_,e1,h⟩:=aC h;obtain⟨_,_,h⟩:=aC h;obtain⟨_,_,h⟩:=aC h;rw[c]at h;obtain⟨z,d,h⟩:=aC h;cases h;exact Uc d
end
def alG{s:bm}(n:aW s)(t:gE c){run:aD}(m:run.2=0\/dO s aa c=run.2)(i: (dg s aa c run).2.1.e=0)(k:Nat):
  cT k (dg s aa c run).1.T+cR k (dg s aa c run).2.2=cT k s.T+cm k run:=by
 rw[F2]at i⊢;cases h:gS ⟨s,aa,c,run,0,false,[]⟩with
 |error e=>
  rw[h]at i;exact absurd i (TP h)
 |ok a=>
  obtain⟨y,r⟩:=a;show cT k y.s.T+cR k y.back=_;obtain⟨_,u,h⟩:=aC (show(ask _ _>>=λ_=>ib _)=_ from h);have l:cC k ⟨s,aa,c,run,0,false,[]⟩=cT k s.T:=rfl;have d:run.2=0->cm k run=0:=λh=>by obtain⟨p,q⟩:=run;cases h;exact rV k p
  by_cases ho:c.op=2
  ·have h:jh ⟨s,aa,c,run,0,false,[]⟩= .ok (y,r):=by
     unfold ib at h;grind
   rcases azj h rfl with⟨⟨j,o⟩,f⟩| ⟨_,_,f⟩
   ·have g:dO s aa c=0:=by
      unfold dO;rw[adE (by rw[ho];decide)];cases b:gS ⟨s,aa,c,(0,0),0,true,[]⟩with
      |error e=>rfl
      |ok a=>
       obtain⟨_,_,b⟩:=aC (show(ask _ _>>=λ_=>ib _)=_ from b);unfold ib at b;rw[show(ay.c ⟨s,aa,c,(0,0),0,true,[]⟩).op=2 from ho]at b;exact azk (x:=⟨s,aa,c,(0,0),0,true,[]⟩) o b
    rw[g]at m;rw[d (by omega)];exact(f k).trans (l.trans (afs _).symm)
   ·exact(f k).trans (by rw[l])
  ·have g:dO s aa c=0:=by unfold dO;rw[adG ho]
   rw[g]at m;rw[d (by omega)];have f:=azi (x:=⟨s,aa,c,run,0,false,[]⟩) t.r (GI.start n ..) ho h;exact(f k).trans (l.trans (afs _).symm)
def cW(k:Nat)(x:Core):Nat:=cR k x.P.free+cT k x.S.T+x.Q.count k
def azl(k a n:Nat):cm k (a,n+1)=cm k (a,n)+(if a+n=k then 1 else 0):=by
 unfold cm;grind
def azm(k:Nat)(r:aD): (fi r).count k=cm k r:=by
 obtain⟨a,n⟩:=r;unfold fi
 induction n with
 |zero=>rw[rV];rfl
 |succ n b=>
  rw[anC,afr,asH,b,azl]
  grind
def UU(k:Nat)(x:Core)(r:aD):cW k (b8 x r)=cW k x+cm k r:=by
 unfold cW b8;dsimp only;rw[asH,azm];omega
def Ms(k:Nat)(x:Core)(c:Call):cW k (oA x c)=cW k x+cm k c.run:=UU k x c.run
theorem UW(k:Nat): ∀ (l:List aD) (x:Core),cW k (l.foldl b8 x)=cW k x+cR k l/\ (l.foldl b8 x).P=x.P
 | [],x=>⟨rfl,rfl⟩
 |r::l,x=>by
  obtain⟨b,a⟩:=UW k l (b8 x r);exact⟨by rw[aqt,b,UU,kW];omega,a⟩
def alH(p:cz)(a b:Nat): (ma p a b).free=p.free/\ (ma p a b).n=p.n:=by
 unfold ma;grind
theorem alI{α:Type}(f g:α->Nat): ∀ (l:List α) (p:cz),(l.foldl (λP i=>ma P (f i) (g i)) p).free=p.free/\ (l.foldl (λP i=>ma P (f i) (g i)) p).n=p.n
 | [],p=>⟨rfl,rfl⟩
 |a::l,p=>by
  obtain⟨c,b⟩:=alI f g l (ma p (f a) (g a));exact⟨c.trans (alH ..).1,b.trans (alH ..).2⟩
def UX{r:aD}(h:r.2=0):cm k r=0:=by obtain⟨p,q⟩:=r;cases h;exact rV k p
def azn{s:bB}(m:aW s.x.S)(l:gE s.c.c)(k:Nat):cW k (oC s).x=cW k s.x+cm k s.c.run/\ (oC s).x.P.n=s.x.P.n/\ (oC s).ended=true:=by
 unfold oC;obtain⟨s',a⟩: ∃s',s'=(if 0<s.c.run.2/\dO s.x.S s.c.aa s.c.c≠s.c.run.2 then{s with x:=b8 s.x s.c.run,c:={s.c with run:=(0,0)}}else s):=⟨_,rfl⟩;have e1:cW k s'.x+cm k s'.c.run=cW k s.x+cm k s.c.run/\s'.x.P=s.x.P/\s'.x.S=s.x.S/\s'.c.c=s.c.c/\s'.c.aa=s.c.aa/\ (s'.c.run.2=0\/dO s.x.S s.c.aa s.c.c=s'.c.run.2):=by
  rw[a];split
  ·refine⟨?_,rfl,rfl,rfl,rfl,.inl rfl⟩;rw[UU,rV];rfl
  grind
 dsimp only;rw[<-a];clear a;obtain⟨e1,o,e3,n,p,e6⟩:=e1;have f:aW s'.x.S:=e3 ▸ m;have e:gE s'.c.c:=n ▸ l;have hm:=λhe=>alG f (aa:=s'.c.aa) e (run:=s'.c.run) (by grind) he k
 rw[<-e1,<-o];split
 ·refine⟨?_,rfl,rfl⟩;show cW k (oA s'.x s'.c)=_;rw[Ms]
 ·rename_i he;have hm:=hm (by simpa using he);generalize dg s'.x.S s'.c.aa s'.c.c s'.c.run=d at*;obtain⟨P,g⟩: ∃P,P=(if s'.c.c.op=4 then(List.range (iR s'.x.S s'.c.c).1.length).foldl (λP i=>ma P ((iR s'.x.S s'.c.c).1.getD i 0) (byteOf s'.c.c.v i)) s'.x.P else s'.x.P):=⟨_,rfl⟩;have b:P.free=s'.x.P.free/\P.n=s'.x.P.n:=by
   rw[g];split
   ·exact alI _ _ _ _
   ·exact⟨rfl,rfl⟩
  rw[<-g];obtain⟨j,h⟩:=UW k d.2.2 {s'.x with S:=d.1,P:=P};have e7:cW k {s'.x with S:=d.1,P:=P}=cR k s'.x.P.free+cT k d.1.T+s'.x.Q.count k:=by unfold cW;dsimp only;rw[b.1]
  refine⟨?_,?_,rfl⟩
  ·show cW k (oA (d.2.2.foldl b8 {s'.x with S:=d.1,P:=P}) {s'.c with run:=(0,0)})=_;rw[Ms,j,e7];show _+cm k (0,0)=_;rw[rV];unfold cW;omega
  ·show(d.2.2.foldl b8 {s'.x with S:=d.1,P:=P}).P.n=_;rw[h];exact b.2
def cV(k:Nat)(s:bB):Nat:=cW k s.x+(if s.ended then 0 else cm k s.c.run)
structure Kp(s s':bB):Prop where
 c: ∀k,cV k s'=cV k s
 n:s'.x.P.n=s.x.P.n
theorem Kp.refl(s:bB):Kp s s:=⟨λ_=>rfl,rfl⟩
def alJ{s:bB}(h:s.ended=false)(r:bt):Kp s (oB s r):=⟨λk=>by
 unfold cV oB;rw[h,Ms];simp,rfl⟩
def azo{s:bB}(h:s.ended=false):Kp s (ic s).1/\ (ic s).1.x.S=s.x.S/\ (ic s).1.c.c=s.c.c/\ ((ic s).2=false->(ic s).1.ended=false/\ (ic s).1.x.P=s.x.P):=by
 unfold ic;split
 ·exact⟨Kp.refl s,rfl,rfl,λ_=>⟨h,rfl⟩⟩
 split
 ·exact⟨Kp.refl s,rfl,rfl,λ_=>⟨h,rfl⟩⟩
 split
 ·exact⟨alJ h _,rfl,rfl,λq=>by cases q⟩
 ·exact⟨⟨λk=>rfl,rfl⟩,rfl,rfl,λq=>by cases q⟩
def azp{s:bB}(h:s.ended=false):Kp s (ie s).1/\ (ie s).1.x.S=s.x.S/\ (ie s).1.c.c=s.c.c/\ (ie s).1.x.P=s.x.P/\ ((ie s).2=false->(ie s).1.ended=false):=by
 unfold ie;split
 ·exact⟨Kp.refl s,rfl,rfl,rfl,λ_=>h⟩
 ·dsimp only;refine⟨⟨λk=>?_,rfl⟩,rfl,?_,rfl,λq=>by cases q⟩
  ·unfold cV;generalize(jk s.x.M _ s.c.aa).2=b;cases b<;>rfl
  grind
def azq{s:bB}(h:s.ended=false)(d:fy s.x.P):Kp s (iA s).1/\ (iA s).1.x.S=s.x.S/\ (iA s).1.c.c=s.c.c/\ ((iA s).2=false->(iA s).1=s):=by
 unfold iA;dsimp only;split
 ·exact⟨Kp.refl s,rfl,rfl,λ_=>rfl⟩
 ·have a:s.c.run.2=0:=by omega
  rcases ayS d (dO s.x.S s.c.aa s.c.c)with⟨c,b,g,f,e⟩| ⟨c,b⟩
  ·rw[adE (by omega)];refine⟨⟨λk=>?_,b⟩,rfl,rfl,λq=>by cases q⟩;unfold cV cW;rw[h,UX a]
   grind
  ·rw[adG (by omega),c];exact⟨alJ h _,rfl,rfl,λq=>by cases q⟩
def alK(p:cz)(i:Nat): (nv p i).free=p.free/\ (nv p i).n=p.n:=by unfold nv;grind
def azr{s:bB}(h:s.ended=false):Kp s (jl s).1/\ ((jl s).2=false->(jl s).1=s):=by
 unfold jl;split
 ·exact⟨Kp.refl s,λ_=>rfl⟩
 ·refine⟨⟨λk=>?_,(alK _ _).2⟩,λq=>by cases q⟩;unfold cV cW;rw[(alK _ _).1]
def azs{x:Core}{c:Call}(h:jH x)(n:fS c)(k:Nat):cW k (fw x c).x+(if(fw x c).ended then 0 else cm k (fw x c).c.run)=cW k x+cm k c.run/\ (fw x c).x.P.n=x.P.n:=by
 suffices i:Kp ⟨x,c,bD,false⟩ (fw x c)from⟨i.c k,i.n⟩
 obtain⟨m,A,z,g⟩:=azo (s:=⟨x,c,bD,false⟩) rfl;unfold fw;dsimp only;generalize ic ⟨x,c,bD,false⟩=s1 at*;split
 ·omega
 rename_i D;obtain⟨g,y⟩:=g (by grind);obtain⟨l,w,v,u,d⟩:=azp (s:=s1.1) g;generalize ie s1.1=s2 at*;have t2:Kp ⟨x,c,bD,false⟩ s2.1:=⟨λk=>(l.c k).trans (m.c k),l.n.trans m.n⟩;split
 ·omega
 rename_i C;have d:=d (by grind);have e:s2.1.x.P=x.P:=u.trans y;obtain⟨j,t,r,f⟩:=azq (s:=s2.1) d (e ▸ h.P);generalize iA s2.1=b at*;have t3:Kp ⟨x,c,bD,false⟩ b.1:=⟨λk=>(j.c k).trans (t2.c k),j.n.trans t2.n⟩;split
 ·exact t3
 rename_i q;have f:=f (by simpa using q);have e3:b.1.ended=false:=by rw[f];exact d
 obtain⟨d1,d2⟩:=azr (s:=b.1) e3;generalize jl b.1=a at*;have t4:Kp ⟨x,c,bD,false⟩ a.1:=⟨λk=>(d1.c k).trans (t3.c k),d1.n.trans t3.n⟩;split
 ·exact t4
 rename_i p;have d2:=d2 (by simpa using p);have o:a.1.x.S=x.S:=by rw[d2,t,w,A]
 have hC:a.1.c.c=c.c:=by rw[d2,r,v,z]
 have E:a.1.ended=false:=by rw[d2];exact e3
 have hm:=λk=>azn (s:=a.1) (o ▸ h.S) (hC ▸ n.iV) k
 refine⟨λk=>?_,(hm 0).2.1.trans t4.n⟩;obtain⟨B,_,m3⟩:=hm k;rw[<-t4.c k];unfold cV;grind
@[irreducible]def cL (k:Nat) (f:Nat->Runner):Nat:=((List.range 8).map λt=>cm k (f t).c.run).sum
def cM(k:Nat)(m:aQ):Nat:=cW k m.ai+cL k m.aB
def azt{f:Nat->Runner}{t:Nat}{r:Runner}(a:t<8):cL k (ao f t r)+cm k (f t).c.run=cL k f+cm k r.c.run:=by
 have key:=UN (f:=λj=>cm k (ao f t r j).c.run) (g:=λj=>cm k (f j).c.run) (i:=t) (λj b=>by rw[bT b]) 8 a;rw[bS]at key;unfold cL;exact key
structure eo(n:Nat)(m:aQ):Prop where
 np:m.ai.P.n=n
 pc: ∀k,cM k m=if k<n then 1 else 0
 idle: ∀t,(m.aB t).busy=false->(m.aB t).c.run.2=0
def azu{s:bm}(b:aW s)(d:gE c)(k:Nat):cT k (dg s aa c (0,0)).1.T+cR k (dg s aa c (0,0)).2.2=cT k s.T:=by
 by_cases he: (dg s aa c (0,0)).2.1.e=0
 ·have:=alG b (aa:=aa) d (run:=(0,0)) (.inl rfl) he k;rw[rV]at this;omega
 ·rw[F2]at he⊢;cases h:gS ⟨s,aa,c,(0,0),0,false,[]⟩with
  |error e=>rfl
  |ok a=>
   rw[h]at he;exact absurd (LS h) he
section
variable{n:Nat}{m:aQ}(h:eo n m)
include h
theorem eo.mk'{m':aQ}(a:m'.ai.P.n=m.ai.P.n)(c: ∀k,cM k m'=cM k m)(b: ∀t,(m'.aB t).busy=false->(m'.aB t).c.run.2=0):eo n m':=⟨a.trans h.np,λk=>(c k).trans (h.pc k),b⟩
theorem eo.azv{t:Nat}{r:Runner}(a:r.busy=false->r.c.run.2=0)(i:Nat): (ao m.aB t r i).busy=false->(ao m.aB t r i).c.run.2=0:=by
 unfold ao;split
 ·omega
 ·exact h.idle i
theorem eo.now(k:Nat):eo n {m with now:=k}:=⟨h.np,h.pc,h.idle⟩
theorem eo.put{x:Core}{r:Runner}{t:Nat}(b:t<8)(d:x.P.n=m.ai.P.n)(g: ∀k,cW k x+cm k r.c.run=cW k m.ai+cm k (m.aB t).c.run)(c:r.busy=false->r.c.run.2=0){f:Nat->Runner}(e:f=ao m.aB t r){ev:List Event}:eo n ⟨x,f,a,ev⟩:=by
 subst e;refine h.mk' d (λk=>?_) λi=>h.azv c i
 have:=azt (k:=k) (f:=m.aB) (r:=r) b;have:=g k;show cW k x+cL k (ao m.aB t r)=cW k m.ai+cL k m.aB;omega
theorem eo.calls(c:dv m){t:Nat}(b:t<8)(d: (m.aB t).busy=true):eo n (pY m t):=by
 have a:=λk=>azs c.ai (c.c t) k
 unfold pY;dsimp only;split
 ·rename_i he;refine h.put b (a 0).2 (λk=>?_) (λ_=>(rfl:gu.run.2=0)) rp;obtain⟨e,_⟩:=a k;rw[show cm k gu.run=0 from rV k 0]
  grind
 ·refine h.put b (a 0).2 (λk=>?_) (λq=>by grind) rfl
  grind
theorem eo.Uv(i:Nat)(a:i<8):eo n (kb m i):=by
 unfold kb;split
 ·refine h.put (x:=oA m.ai (m.aB i).c) (r:={m.aB i with busy:=false,c:=gu}) a rfl (λk=>?_) (λ_=>rfl) rfl;rw[Ms,show cm k gu.run=0 from rV k 0];omega
 omega
omit h in
theorem eo.fZ(h:eo n m): ∀k,k<=8->eo n (Go.Proofs.YteplichagkpciaaGreatDoor.fZ m k)
 |0,_=>h
 |k+1,a=>by rw[Ah];exact(eo.fZ h k (by omega)).Uv k (by omega)
theorem eo.clear:eo n (jT m):=h.fZ 8 (aef 8)
theorem eo.azw(g:dv m)(t:Nat):eo n (vI m t):=by
 unfold vI;dsimp only;have j:=λk=>azu g.ai.S (aa:=t) (c:={jm with op:=20}) ⟨by decide,by decide,by decide,by decide,by decide,by decide⟩ k
 generalize dg m.ai.S t {jm with op:=20} (0,0)=d at*;have b:=λk=>UW k d.2.2 m.ai
 refine h.mk' (by rw[(b 0).2]) (λk=>?_) h.idle;obtain⟨e,i⟩:=b k;have o: (d.2.2.foldl b8 m.ai).S=m.ai.S:=by
  have: ∀ (l:List aD) (x:Core),(l.foldl b8 x).S=x.S:=by
   intro l
   induction l with
   |nil=>simp
   |cons a l f=>intro x;exact f _
  grind
 show cW k {d.2.2.foldl b8 m.ai with S:=d.1}+cL k m.aB=cW k m.ai+cL k m.aB;unfold cW at e⊢
 grind
theorem eo.UY(e:dv m):eo n {m with ai:=(gC m.ai).1}:=by
 unfold gC;split
 ·exact h
 ·rename_i q c j;have f: ∀k,cR k m.ai.P.free+(if q=k then 1 else 0)<=if k<n then 1 else 0:=λk=>by
   have g:=h.pc k;unfold cM cW at g
   grind
  have b:=f q;rw[adG rfl]at b;have a:q<n:=by grind
  rw[adG a]at b;have i:=λk=>ayT e.ai.P (q:=q) (by rw[h.np];exact a) (by omega) (λk=>by grind) k
  have d: (kS m.ai.P q).n=m.ai.P.n:=by unfold kS B4;grind
  refine h.mk' d (λk=>?_) h.idle;show cW k {m.ai with P:=kS m.ai.P q,Q:=c}+cL k m.aB=cW k m.ai+cL k m.aB;unfold cW
  grind
theorem eo.steps(c:dv m){t:Nat}(a:t<8):eo n (rJ m t):=by
 unfold rJ;dsimp only;split
 ·rename_i b;exact h.calls c a b
 ·have b: (m.aB t).busy=false:=by grind
  split
  ·have hw:eo n (CE m t):=h.put a rfl (λk=>by
     rw[UX (h.idle t b)];show cW k m.ai+cm k (0,0)=_;rw[rV]) (λq=>by rfl) rfl
   exact hw.calls (c.wanted a) a (by show(ao m.aB t _ t).busy=true;rw[bS])
  ·exact h.put (r:={m.aB t with t:=pX (m.aB t).t}) a rfl (λk=>rfl) (λ_=>h.idle t b) rfl
theorem eo.pick(c:qt m)(e:m.now<=4000)(b:Nat):eo n (gT m b).1:=by
 have a:=c.ok.Ai (n:=m.now+1) (by omega);have d:=h.now (m.now+1);unfold gT;dsimp only;split
 ·exact h
 split
 ·split
  ·exact((h.UY c.ok).now (m.now+1)).clear
  omega
 split
 ·exact h
 split
 ·exact(d.azw a _).clear
 ·exact(d.steps a (anS b (by decide))).clear
end
def alL(aK:List lB)(k:Nat):eo n (eY n aK k):=by
 refine⟨rfl,λk=>?_,λt _=>rfl⟩;have e1:cT k lI.T=0:=by
  unfold cT;have: (List.range 32).map (cS k lI.T)=(List.range 32).map λ_=>0:=akJ λi _=>UO rfl
  rw[this];rfl
 have b: ∀f:Nat->Runner,(∀t,(f t).c.run.2=0)->cL k f=0:=λf a=>by
  unfold cL;have: ((List.range 8).map λt=>cm k (f t).c.run)=(List.range 8).map λ_=>0:=akJ λi _=>UX (a i)
  rw[this];rfl
 show cR k [(0,n)]+cT k lI.T+0+cL k _=_;rw[e1,b _ λt=>rfl,kW,ux];unfold cm;grind
def azx{H:List ae}(h:Rd ⟨H,none⟩ v 2 (l.map aA))(e:l.length*16<=room)(lo:oN):
  ∃v',D X0 (.fn (.func 107) [] []) [v] ⟨H,lo⟩=some (.ret v' ⟨H,lo⟩)/\Rv v' 2 (l.map aA):=by
 have d:=h.eq;have a:dJ EK.sl AV.av AV.av=some true:=rfl;have e3:ca ([]:List lA)=0:=rfl;rcases UF h with⟨rfl,he⟩|he
 ·refine⟨.av,?_,by rw[he];exact .av⟩;refine aH zm λN b=>?_
  simp(disch:=omega) only[F1,go_sem,simprocAttr,zm,a]
 ·by_cases c:l=[]
  ·subst c;refine⟨.sl [] true,?_,.sl (λel h=>by cases h)⟩;refine aH zm λN b=>?_
   have e1:dL ⟨H,none⟩ fb 2 16 (.sl [] true) []=some (.sl [] true,⟨H,none⟩):=rfl;simp(disch:=omega) only[F1,go_sem,simprocAttr,zm,he,d,e1,e3]
  ·refine⟨.sl (l.map aA) false,?_,.sl (λel h=>by obtain⟨x,_,rfl⟩:=afq.1 h;rfl)⟩;refine aH zm λN b=>?_
   obtain⟨e1,f⟩:=UG (sz:=2) (ty:=fb) (bytes:=16) (lo:=lo) (g:=aA) b (by omega) (λ_=>rfl) (λ_=>rfl) c e;simp only[go_sem,simprocAttr,zm,he,d,e1,f]
def alM(h:Rv v 2 (l.map aA))(e:l.length<=64)(H:List ae)(lo:oN):
  ∃v',D X0 (.fn (.func 71) [] []) [.agg [v]] ⟨H,lo⟩=some (.ret v' ⟨H,lo⟩)/\Rv v' 2 (l.map aA):=by
 obtain⟨v',d,b⟩:=azx (H:=H++[.box [v] none]) (h _) (by unfold room;omega) none;refine⟨v',?_,b⟩;refine aH PQ λN c=>?_
 have a:=dj b (bH (λ_=>rfl) _);simp only[F1,go_sem,simprocAttr,PQ,c,d,a]
section
variable{p:cz}{q:Nat}{H:List ae}(h:H[q]?=some (.box (b9 p) none))
include h
theorem alN(lo:oN):D X0 (.fn (.func 39) [] []) [.ptr q 0] ⟨H,lo⟩=some (.ret (.agg [nF p]) ⟨H,lo⟩):=by
 refine aH PB λN d=>?_
 have b:dJ EK.ptr (AV.ptr q 0) AV.eI=some false:=rfl;have a:=dj (uq p) (bH (λ_=>rfl) _);have c:=bf (L:=[.box [.av] none]) h;simp only[F1,go_sem,simprocAttr,PB,d,b,c,↓xQ,a]
theorem alO(lo:oN):D X0 (.fn (.func 70) [] []) [.ptr q 0] ⟨H,lo⟩=some (.ret (.int .i64 p.n) ⟨H,lo⟩):=by
 refine aH PO λN c=>?_
 have a:dJ EK.ptr (AV.ptr q 0) AV.eI=some false:=rfl;have b: (b9 p)[0]?=some (.int .i64 p.n):=rfl;simp(disch:=omega) only[F1,go_sem,simprocAttr,PO,a,h,b]
end
def azy(f:Nat->Bool):dJ (.agg [.bool,.bool,.bool,.bool,.bool,.bool,.bool,.bool]) (.agg (oq f)) (.agg [.bool false,.bool false,.bool false,.bool false,.bool false,.bool false,.bool false,.bool false])=some ((List.range 8).all λt=>!f t):=by
 have e:oq f=[.bool (f 0),.bool (f 1),.bool (f 2),.bool (f 3),.bool (f 4),.bool (f 5),.bool (f 6),.bool (f 7)]:=rfl;have a: ((List.range 8).all λt=>!f t)=(!f 0&& (!f 1&& (!f 2&& (!f 3&& (!f 4&& (!f 5&& (!f 6&& (!f 7&&true)))))))):=rfl;rw[e,a];generalize f 0=l;generalize f 1=k;generalize f 2=j;generalize f 3=i;generalize f 4=g;generalize f 5=d;generalize f 6=c;generalize f 7=b;rcases l with _|_
 rotate_left
 ·rfl
 rcases k with _|_
 rotate_left
 ·rfl
 rcases j with _|_
 rotate_left
 ·rfl
 rcases i with _|_
 rotate_left
 ·rfl
 rcases g with _|_
 rotate_left
 ·rfl
 rcases d with _|_
 rotate_left
 ·rfl
 rcases c with _|_
 rotate_left
 ·rfl
 cases b<;>rfl
section
variable{n M p q:Nat}{m:aQ}{qv ev:AV}{aE aP:Nat->AV}{H:List ae}(ha:bQ n M p q m qv ev aE aP H)
include ha
def uy(m:aQ):Bool:=(List.range 8).all (λt=>!m.ai.S.alive t)&&m.ai.Q.isEmpty
theorem Mt(e:m.ai.Q.length<1073741824)(lo:oN):D XC (.fn (.func 35) [] []) [.ptr M 0] ⟨H,lo⟩=some (.ret (.bool (uy m)) ⟨H,lo⟩):=by
 refine aH JC λN j=>?_
 obtain⟨cv,d,g⟩:=Mj ha e none;have b:dJ EK.ptr (AV.ptr M 0) AV.eI=some false:=rfl;have f: (bK m.ai q cv)[1273]?=some cv:=L4;have c:=azy m.ai.S.alive;have i:decide ((m.ai.Q.length:Int)=0)=m.ai.Q.isEmpty:=by
  cases m.ai.Q with
  |nil=>rfl
  |cons a l=>rfl
 unfold uy;generalize(List.range 8).all (λt=>!m.ai.S.alive t)=al at*;cases al
 ·simp(disch:=omega) only[F1,go_sem,simprocAttr,JC,b,d,↓L3,↓agd,c];rfl
 ·simp(disch:=omega) only[F1,go_sem,simprocAttr,JC,b,d,↓L3,↓agd,c,f,g.bY]
  grind
def Aj(m:aQ):Bool:=decide (m.ai.P.free=[(0,m.ai.P.n)])
theorem UZ(w:fy m.ai.P)(v:m.ai.Q.length<1073741824)(lo:oN):D XC (.fn (.func 36) [] []) [.ptr M 0] ⟨H,lo⟩=some (.ret (.bool (Aj m)) ⟨H,lo⟩):=by
 refine aH JD λN i=>?_
 obtain⟨cv,o,x⟩:=Mj ha v none;have b:dJ EK.ptr (AV.ptr M 0) AV.eI=some false:=rfl;have l: (bK m.ai q cv)[952]?=some (.ptr q 0):=Cu;have g:=λlo=>c0 (alN ha.co.ik lo)
 have d:=λlo=>c0 (alO ha.co.ik lo)
 obtain⟨fv,f1,f2⟩:=alM (uq m.ai.P) w.free.ok.1 H none;have f1:=c0 f1;have s:=dj (uq m.ai.P) (bH (λ_=>rfl) _);unfold Aj;by_cases j:m.ai.P.free.length=1
 ·have a: (m.ai.P.free.length:Int)=1:=by omega
  obtain⟨r,t⟩:=List.length_eq_one_iff.1 j;have k:0<m.ai.P.free.length:=by omega
  have f:m.ai.P.free.getD 0 default=r:=by grind
  have c: [AV.int .i64 0,.int .i64 m.ai.P.n]=aA (0,m.ai.P.n):=rfl;have u:Den.part true 2 (aA r) 0=some (.agg (aA r)):=rfl;have e1:decide (m.ai.P.free=[(0,m.ai.P.n)])=decide (r=(0,m.ai.P.n)):=by rw[t];exact afB.2 (by simp)
  rw[e1];simp only[F1,go_sem,simprocAttr,JD,i,b,o,l,g,d,f1,f2.bY,f2.cD,f2.di k,a,f2.apF k,f,c,run_eq]
 ·have a: ¬(m.ai.P.free.length:Int)=1:=by omega
  have:decide (m.ai.P.free=[(0,m.ai.P.n)])=false:=adO λe=>j (by rw[e];rfl)
  rw[this];simp only[F1,go_sem,simprocAttr,JD,i,b,o,l,g,f1,f2.bY,a]
end
section
variable{S:Type}{V:YV S}{b:Nat}
def Mv(X:Ctx)(V:YV S)(b:Nat)(y:AV)(x:lA)(s:S)(Q:Bool->S->Prop):Prop:=
 ∀W,V.P s W->b<=W.length-> ∀lo,∃c s' a,D X y x ⟨W,lo⟩=some (.ret (.bool c) ⟨a,lo⟩)/\V.P s' a/\W.length<=a.length/\ (∀i,i<W.length-> ¬V.cE i->a[i]?=W[i]?)/\Q c s'
def azz{X:Ctx}(hr: ∀s,V.row s=none)(q:b<=V.c){y:AV}{x:lA}{s:S}{Q:Bool->S->Prop}(h:H5 X V b y x s Q):Mv X V b y x s Q:=by
 intro W f e lo;obtain⟨c,s',n,ak,m,l,a,_,k,g⟩:=h W f e lo;rcases k with⟨rfl,_⟩| ⟨j,p,o,_⟩
 ·exact⟨c,s',n,m,l,a.1,λi d hp=>a.2 i d hp (by grind),g⟩
 ·omega
structure gb(V:YV S)(W0:List ae)(s:S)(W:List ae):Prop where
 P:V.P s W
 len:W0.length<=W.length
 fr: ∀i,i<W0.length-> ¬V.cE i->W[i]?=W0[i]?
variable(hV:V.Ok)(hr: ∀s,V.row s=none)(hp: ∀i,V.cE i->i<b)
include hV hr hp
theorem gb.cut{W c:List ae}{s:S}(g:b<=W0.length)(h:gb V W0 s W)(f:W0.length<=c.length)(d: ∀i,i<W0.length->c[i]?=W[i]?):gb V W0 s c:=
 ⟨hV.st _ _ _ h.P λi a=>(by grind),f,λi a e=>(d i a).trans (h.fr i a e)⟩
omit hV hr hp in
theorem gb.step{W a:List ae}{s s':S}(h:gb V W0 s W)(g:V.P s' a)(f:W.length<=a.length)(e: ∀i,i<W.length-> ¬V.cE i->a[i]?=W[i]?):gb V W0 s' a:=
 ⟨g,ag2 h.len f,λi d c=>by rw[e i (by have:=h.len;omega) c];exact h.fr i d c⟩
theorem azA(hb:b<=W0.length){y:AV}{yb:Nat}(Y:W0[yb]?=some (.box [y] none))(K: ¬V.cE yb){t:AV}(L:Rv v 2 (l.map aA))(P:RB l){I:Nat->S->Prop}{J:S->Prop}{o:Nat}{s:S}
  (p: ∀j,j<l.length-> ∀i,i< (l.getD j default).2-> ∀s,I (o+aM (l.take j)+i) s->Mv XC V b y [.int .i64 ((l.getD j default).1+i:Nat),t] s (λc s'=>if c=true then I (o+aM (l.take j)+i+1) s' else J s'))
  (hP:V.P s W0) (h0:I o s) (lo:oN):
  ∃c s' m,D XC (.fn (.func 106) [] [.ptr yb 0]) [v,t] ⟨W0,lo⟩=some (.ret (.bool c) ⟨m,lo⟩)/\gb V W0 s' m/\m.length=W0.length/\ (if c=true then I (o+aM l) s' else J s'):=by
 suffices h: ∃E,D XC (.fn (.func 106) [] [.ptr yb 0]) [v,t] ⟨W0,lo⟩=some E/\
   (λE=> ∃c s' m,E=aV.ret (.bool c) ⟨m,lo⟩/\gb V W0 s' m/\m.length=W0.length/\ (if c=true then I (o+aM l) s' else J s')) E by
  obtain⟨E,h1,c,s',m,rfl,q⟩:=h;exact⟨c,s',m,h1,q⟩
 refine ub P5 rfl rfl rfl λN hN=>?_
 have Dt:=eg Y;have fin: ∀ {W:List ae} {s:S} {c:Bool},gb V W0 s W->finish N lo (.bool c) ⟨W,none⟩=(.bool c,⟨W.take N,lo⟩)/\gb V W0 s (W.take N)/\ (W.take N).length=W0.length:=λ {W s c} Q=>by
  have P:=Q.len;refine⟨rO rfl,Q.cut hV hr hp hb (by rw[afC];omega) (λi Z=>afD (by omega)),by rw[afC];omega⟩
 simp only[go_sem,simprocAttr,P5,L.bY];refine eN l.length (λk e W=> ∃s',I (o+aM (l.take k)) s'/\gb V W0 s' W/\e 1=t/\e 2= .ptr yb 0/\e 9=v/\e 10= .int .i64 l.length/\e 11= .int .i64 k) 0 (by omega) ?_ ?_
 ·simp only[go_sem,simprocAttr];exact⟨s,by simpa[aM]using h0,⟨hP,aef _,λ_ _ _=>rfl⟩⟩
 rintro k Q e W1 ⟨s1,R,x,e1,G,A,f,d⟩ n hn;simp only[cb,F1,go_sem,simprocAttr,aeC,A,f,d];refine⟨λh=>?_,λh=>?_⟩
 rotate_left
 ·obtain rfl:k=l.length:=by omega
  rw[aft]at R;obtain⟨f1,f2,f3⟩:=fin (c:=true) x;exact⟨_,_,_,rfl,f2,f3,R⟩
 have g:k<l.length:=by omega
 have wF:=P.2 _ (fO g);have O:=Le g;have p:=p k g;generalize M:l.getD k default=r at*;have K9:N<=n:=by have:=x.len;omega
 simp(disch:=omega) only[go_sem,simprocAttr,L.cD,L.di,h,hn,M];refine eN r.2 (λi e W=> ∃s',I (o+aM (l.take k)+i) s'/\gb V W0 s' W/\W[n]?=some (.box (aA r) none)/\e 1=t/\e 2= .ptr yb 0/\e 7= .ptr n 0/\e 9=v/\e 10= .int .i64 l.length/\e 11= .int .i64 k/\e 16= .int .i64 r.2/\e 17= .int .i64 i) 0 (by omega) ?_ ?_
 ·simp(disch:=omega) only[go_sem,simprocAttr,e1,G,A,f,d];exact⟨s1,R,x.cut hV hr hp hb (by have:=x.len;rw[aeb];omega) λi Z=>acV (by have:=x.len;omega)⟩
 rintro i Z e W2 ⟨s2,z,a,F,e1,G,e7,A,f,d,C,B⟩ n2 hn2;simp only[cb,go_sem,simprocAttr,aeB,e1,G,A,f,d,C,B];refine⟨λh2=>?_,λh2=>?_⟩
 rotate_left
 ·obtain rfl:i=r.2:=by omega
  have:=P.1;exact⟨g,s2,by rw[O,<-aiO];exact z,a,ag3 _ (wrap_i64 (by omega) (by omega))⟩
 have u:i<r.2:=by omega
 obtain⟨c,s3,W3,H,p2,p3,X,U⟩:=p i u s2 z W2 a.P (by have:=a.len;omega) none;have w:=a.step p2 p3 X;have T:W2[yb]?=some (.box [y] none):=by rw[a.fr yb (by omega) K];exact Y
 have w3:W3[n]?=some (.box (aA r) none):=by rw[X n (eg F) (λq=>by have:=hp _ q;omega)];exact F
 have r0: (aA r)[0]?=some (.int .i64 r.1):=rfl;rw[anF]at H;cases c
 ·obtain⟨f1,f2,f3⟩:=fin (c:=false) w;simp(disch:=omega) only[go_sem,simprocAttr,e1,e7,T,F,H];exact⟨_,_,_,by rw[f1],f2,f3,U⟩
 ·simp(disch:=omega) only[go_sem,simprocAttr,e1,G,e7,A,f,d,C,B,T,F,H];exact⟨u,s3,U,w,w3⟩
end
def fz(l:List aD):lN:=l.flatMap fi
def alP(r:aD): (fi r).length=r.2:=by simp[fi]
theorem qu: ∀l:List aD,(fz l).length=aM l
 | []=>rfl
 |r::l=>by
  show(fi r++fz l).length=r.2+aM l;rw[aeb,alP,qu l]
def Gv(a b:List aD):fz (a++b)=fz a++fz b:=alZ
def U0[Inhabited α]{l:List α}(h:k<l.length):l.getD k default=l[k]:=by grind
def alQ[Inhabited α]{l:List α}(h:k<l.length):l=l.take k++(l.getD k default::l.drop (k+1)):=by simp_all
def alR(c:j<l.length)(a:i< (l.getD j default).2): (fz l)[aM (l.take j)+i]?=some ((l.getD j default).1+i):=by
 have d:=ag3 fz (alQ c);rw[d,Gv];generalize l.getD j default=r at*;rw[afu (by rw[qu];omega),qu,ag6];show(fi r++fz (l.drop (j+1)))[i]?=_;rw[acV (by rw[alP];exact a)];simp[fi,a]
def alS{β:Type}[Inhabited α]{l:List α}(f:α->List β)(h:k<l.length): (l.take (k+1)).flatMap f=(l.take k).flatMap f++f (l.getD k default):=by
 rw[agR,adM h,U0 h,alZ];simp
def alT{β:Type}[Inhabited α]{l:List α}(f:α->List β)(h:k<l.length):l.flatMap f=(l.take k).flatMap f++(f (l.getD k default)++(l.drop (k+1)).flatMap f):=by
 have a:=ag3 (List.flatMap f) (alQ h)
 grind
def gY(m:aQ)(t:Nat):aD:=match oD m t with|some c=>c.run|none=>(0,0)
def ko(m:aQ)(h:Nat):List aD:=(aG m.ai.S.T h).1.runs
def pF(P i:Nat)(k:Nat):lA:=[.int .i64 k,.ptr P i]
def dY(m:aQ):List (Nat×Nat):=
 (fz m.ai.P.free).map (·,0)++((fz ((bc m.ai.S.T.b).flatMap (ko m))).map (·,1)++((fz ((List.range 8).flatMap λt=>[gY m t])).map (·,2)++m.ai.Q.map (·,3)))
def rW(P:Nat)(m:aQ):List lA:=(dY m).map λx=>pF P x.2 x.1
def azB(P:Nat)(m:aQ):rW P m=(fz m.ai.P.free).map (pF P 0)++((fz ((bc m.ai.S.T.b).flatMap (ko m))).map (pF P 1)++((fz ((List.range 8).flatMap λt=>[gY m t])).map (pF P 2)++m.ai.Q.map (pF P 3))):=by
 unfold rW dY;simp only[afr,aqE];rfl
section
variable{S:Type}{V:YV S}{b:Nat}(hV:V.Ok)(hr: ∀s,V.row s=none)(hp: ∀i,V.cE i->i<b)
include hV hr hp
theorem U1(r:b<=W0.length){y:AV}{yb:Nat}(m:W0[yb]?=some (.box [y] none))(a: ¬V.cE yb){P c:Nat}(o:Rv v 2 (l.map aA))(p:RB l){I:Nat->S->Prop}{J:S->Prop}{s:S}
  {xs A B:List lA} (n:xs=A++((fz l).map (pF P c)++B))  (q:k=A.length)
  (d: ∀j x s,xs[j]?=some x->I j s->Mv XC V b y x s (λc s'=>if c=true then I (j+1) s' else J s'))
  (t:V.P s W0) (w:I k s) (lo:oN):
  ∃g s' e,D XC (.fn (.func 106) [] [.ptr yb 0]) [v,.ptr P c] ⟨W0,lo⟩=some (.ret (.bool g) ⟨e,lo⟩)/\gb V W0 s' e/\e.length=W0.length/\ (if g=true then I (k+aM l) s' else J s'):=by
 refine azA hV hr hp r m a o p (λj f i h s u=>?_) t w lo;refine d _ _ s ?_ u;rw[n,q,aiO,afu (by omega),ag6,acV,afE,alR f h]
 ·rfl
 ·have:=acW.1 (alR f h)
  grind
end
section
set_option maxHeartbeats 2000000
def azC{N:Nat}{H W:List ae}{ty:TypeId}{af:List lA}(h:aT N H v sz ty af)(e: ∀i,N<=i->i<H.length->W[i]?=H[i]?):aT N W v sz ty af:=by
 refine⟨h.1,?_⟩;rcases h.2 with q| ⟨id,aj,d,b,a⟩
 ·grind
 grind
def alU(a b:List aD):aM (a++b)=aM a+aM b:=by unfold aM;simp
def azD{x:Core}:Den.part true 96 (bK x q qv) 0=some (.agg (bU x.S.T.b)):=by
 unfold bK;rw[nd (by rw[eP];omega) (by omega)];unfold bz;rw[nd (by rw[iO];omega) (by omega)];exact Sj
def azE{x:Core}:Den.part true 480 (bK x q qv) 0=some (.agg (aN x.S.T)):=by
 unfold bK;rw[nd (by rw[eP];omega) (by omega)];exact KR
section
variable{n M p q:Nat}{m:aQ}{qv ev cv:AV}{aE aP:Nat->AV}{H:List ae}(ha:bQ n M p q m qv ev aE aP H)(hm:dv m)(Gw: ∀i,(m.aB i).c.aY.length<1073741824)(Gx:Rv cv 1 (m.ai.Q.map iD))(hQl:m.ai.Q.length<1073741824)
include ha hm Gw Gx hQl
theorem azG{S:Type}{V:YV S}{b:Nat}(hV:V.Ok)(hr: ∀s,V.row s=none)(hc:b<=V.c)(alV: ∀s W,V.P s W-> ∃R,W=H++R)(a P:Nat):
  OO XC V b (.fn (.func 105) [] [.ptr (a+2) 0,.ptr (a+1) 0,.ptr a 0]) a [.box [.ptr M 0] none,.box [.ptr P 0] none,.box (bK m.ai q cv) none] (rW P m):=by
 intro yi I J FI F W s hP h0 wI aDq hG lo;obtain⟨y,hy⟩: ∃y,y=AV.fn (.yield yi) [] []:=⟨_,rfl⟩;rw[<-hy]at F⊢;have hp: ∀i,V.cE i->i<b:=λi r=>(FI i r).1
 have F: ∀j x s,(rW P m)[j]?=some x->I j s->Mv XC V b y x s (λc s'=>if c=true then I (j+1) s' else J s'):=λj x s h1 h2=>azz hr hc (F j x s h1 h2)
 suffices h: ∃cr,D XC (.fn (.func 105) [] [.ptr (a+2) 0,.ptr (a+1) 0,.ptr a 0]) [y] ⟨W,lo⟩=some cr/\
   (λcr=> ∃s' d,cr=aV.ret (.az []) ⟨d,lo⟩/\gb V W s' d/\ (I (rW P m).length s'\/J s')) cr by
  obtain⟨cr,h1,s',d,rfl,q1,q2⟩:=h;exact⟨s',d,lo,h1,q1.P,q2,by have:=q1.len;omega,λi r hq _=>q1.fr i (by omega) hq,.inl ⟨rfl,hr s'⟩⟩
 have L7: ∀E,nU E y none=some (.ptr E.heap.length 0,E.push (.box [y] none)):=λE=>by rw[hy];rfl
 refine ub JQ rfl rfl rfl λN hN=>?_
 obtain rfl:N=b:=by omega
 have g0:W[a]?=some (.box [.ptr M 0] none):=hG 0 (by simp);have g1:W[a+1]?=some (.box [.ptr P 0] none):=hG 1 (by simp);have g2:W[a+2]?=some (.box (bK m.ai q cv) none):=hG 2 (by simp);have np: ∀j,j<3-> ¬V.cE (a+j):=λj hj h=>(FI _ h).2 ⟨by omega,by simp;omega⟩
 have Y:=azB P m;have w0: ∀L,(W++L)[a]?=some (.box [.ptr M 0] none):=λL=>bf g0
 have w1: ∀L,(W++L)[a+1]?=some (.box [.ptr P 0] none):=λL=>bf g1
 have w2: ∀L,(W++L)[a+2]?=some (.box (bK m.ai q cv) none):=λL=>bf g2
 obtain⟨R,hR⟩:=alV s W hP;have C7:=c0 (alN (H:=W++[.box [y] none]) (by rw[hR,adK];exact(ha.app _).co.ik) none);obtain⟨fv,f1,f2⟩:=alM (uq m.ai.P) hm.ai.P.free.ok.1 (W++[.box [y] none]) none;have f1:=c0 f1;have Gy: ¬V.cE N:=λh=>by have:=hp _ h;omega
 have down: ∀ {w:List ae} {s':S} {d:List ae},N<=w.length->(∀i,i<N-> ¬V.cE i->w[i]?=W[i]?)->gb V w s' d->gb V W s' d:=λ {w s' d} h1 h2 h=>⟨h.P,by have:=h.len;omega,λi r hq=>(h.fr i (by omega) hq).trans (h2 i (by omega) hq)⟩
 have fin: ∀ {s':S} {d:List ae},gb V W s' d->finish N lo (.az []) ⟨d,none⟩=(.az [],⟨d.take N,lo⟩)/\gb V W s' (d.take N):=λ {s' d} hk=>by
  have hl:=hk.len;exact⟨rO rfl,hk.cut hV hr hp (by omega) (by rw[afC];omega) (λi r=>afD (by omega))⟩
 have V7: ∀ {L:List ae},∀i,i<N-> ¬V.cE i->(W++L)[i]?=W[i]?:=λi r _=>acV (by omega)
 have DG:V.P s (W++[.box [y] none]):=hV.st _ _ _ hP λi r=>by
  rcases r with r|r
  ·exact acV (by have:=hp i r;omega)
  ·rw[hr]at r;cases r
 have wo:RB m.ai.P.free:=⟨by have:=hm.ai.P.free.ok.1;omega,λx Y=>by have:=(hm.ai.P.free.bd x Y).2;omega⟩;have wv: (W++[.box [y] none])[N]?=some (.box [y] none):=by rw[dI hN];rfl
 obtain⟨c,s1,W1,a1,a2,a3,a4⟩:=U1 (J:=J) hV hr hp (W0:=W++[.box [y] none]) (by simp;omega) (y:=y) (yb:=N) wv Gy (P:=P) (c:=0) f2 wo (A:=[]) Y rfl F DG h0 none;have k1:gb V W s1 W1:=down (by simp;omega) V7 a2;cases c
 ·obtain⟨e1,Z⟩:=fin k1;simp(disch:=omega) only[go_sem,simprocAttr,JQ,hN,L7,w1,w2,Cu,C7,f1,a1];rw[e1];exact⟨_,_,rfl,Z,.inr a4⟩
 have v2:W1[a+2]?=some (.box (bK m.ai q cv) none):=by rw[k1.fr _ (by have:=eg g2;omega) (np 2 (by omega))];exact g2
 have A3:W1.length=N+1:=by rw[a3];simp;omega
 obtain⟨v,L,i1,i2⟩:=S0 m.ai.S.T.b hm.ai.S.T.b (N+1) W1 A3 none;have i1':D X (.fn (.func 19) [] []) [.agg (bU m.ai.S.T.b)] ⟨W1,none⟩=some _:=rM (p:=mM) rfl i1;have i1:=cX i1';have O:=(kT i2 none).bY;have hlb:96<=(bK m.ai q cv).length:=by rw[Ac];omega
 have hb:=azD (x:=m.ai) (q:=q) (qv:=cv);simp(disch:=omega) only[go_sem,simprocAttr,JQ,hN,L7,w1,w2,Cu,C7,f1,a1,v2,↓hb,i1,O];obtain⟨w,T⟩: ∃w,w=W1++L:=⟨_,rfl⟩;have hBl:N+1<=w.length:=by rw[T,aeb];omega
 have Mw: ∀i,i<N-> ¬V.cE i->w[i]?=W[i]?:=λi r hq=>by rw[T,acV (by omega)];exact k1.fr i (by omega) hq
 have hBy:w[N]?=some (.box [y] none):=by rw[T,acV (by omega),a2.fr N (by simp;omega) Gy];exact wv
 have kB:gb V w s1 w:=by
  refine⟨hV.st _ _ _ a2.P λi r=>?_,aef _,λ_ _ _=>rfl⟩;rcases r with r|r
  ·rw[T];exact acV (by have:=hp i r;omega)
  ·rw[hr]at r;cases r
 rw[<-T];rw[<-T]at i2;clear O i1 i1' a1 C7 f1 hb;have facts: ∀ {s':S} {d:List ae},gb V w s' d->d[N]?=some (.box [y] none)/\d[a]?=some (.box [.ptr M 0] none)/\d[a+1]?=some (.box [.ptr P 0] none)/\d[a+2]?=some (.box (bK m.ai q cv) none)/\N+1<=d.length/\ (∃R,d=H++R)/\aT (N+1+1) d v 1 bZ ((bc m.ai.S.T.b).map hC):=λ {s' d} h=>by
  have hl:=h.len;have l2:=eg g2;refine⟨?_,?_,?_,?_,by omega,alV _ _ h.P,azC i2 λi h1 h2=>h.fr i h2 λhq=>by have:=hp i hq;omega⟩
  ·rw[h.fr N (by omega) Gy];exact hBy
  ·rw[h.fr a (by omega) (np 0 (by omega)),Mw a (by omega) (np 0 (by omega))];exact g0
  ·rw[h.fr _ (by omega) (np 1 (by omega)),Mw _ (by omega) (np 1 (by omega))];exact g1
  ·rw[h.fr _ (by omega) (np 2 (by omega)),Mw _ (by omega) (np 2 (by omega))];exact g2
 have Q: ∀ {s':S} {d:List ae},gb V w s' d->finish N lo (.az []) ⟨d,none⟩=(.az [],⟨d.take N,lo⟩)/\gb V W s' (d.take N):=λ {s' d} hk=>fin (down (by omega) Mw hk)
 have push: ∀ {s':S} {d:List ae} (o:ae),gb V w s' d->V.P s' (d++[o]):=λ {s' d} o h=>hV.st _ _ _ h.P λi r=>by
  rcases r with r|r
  ·exact acV (by have:=hp i r;have:=h.len;omega)
  ·rw[hr]at r;cases r
 have bk: ∀ {s' s2:S} {d C:List ae} {o:ae},gb V w s' d->gb V (d++[o]) s2 C->gb V w s2 C:=λ {s' s2 d C o} h h2=>⟨h2.P,by have:=h.len;have:=h2.len;simp at this;omega,λi r hq=>by
  have:=h.len;rw[h2.fr i (by simp;omega) hq,acV (by omega)];exact h.fr i r hq⟩
 obtain⟨l,hl⟩: ∃l,l=bc m.ai.S.T.b:=⟨_,rfl⟩;rw[<-hl]at Y i2 facts⊢;obtain⟨U,Mx⟩: ∃U,U=List.range 8:=⟨_,rfl⟩;rw[<-Mx]at Y;have K6:l.length<=32:=by rw[hl];exact mG _
 refine eN l.length (λk e d=> ∃s',I (aM m.ai.P.free+aM ((l.take k).flatMap (ko m))) s'/\gb V w s' d/\e 1= .ptr (a+2) 0/\e 2= .ptr (a+1) 0/\e 3= .ptr a 0/\e 4= .ptr N 0/\e 5= .fn (.func 106) [] [.ptr N 0]/\e 31=v/\e 32= .int .i64 l.length/\e 33= .int .i64 k) 0 (by omega) ?_ ?_
 ·simp(disch:=omega) only[go_sem,simprocAttr];exact⟨s1,by simpa[aM]using a4,kB⟩
 rintro k hk e C ⟨s2,u,G,e1,Z,e3,e4,e5,e31,e32,e33⟩ n2 z;obtain⟨u0,u1,u2,u3,u4,⟨R2,u5⟩,u6⟩:=facts G;simp(disch:=omega) only[cb,go_sem,simprocAttr,aeA,e31,e32,e33];refine⟨λh=>?_,λh=>?_⟩
 ·have f:k<l.length:=by omega
  have mY:Rd ⟨C,none⟩ v 1 (l.map hC):=kT u6 none;have hL:=mY.di (X:=XC) (off:=0) (n:=1) (agg:=false) f;rw[pH]at hL;have gO:l.getD k default∈bc m.ai.S.T.b:=by rw[<-hl];exact fO f
  have gO:=(ia hm.ai.S.T.b).1 gO;have My:=alS (ko m) f;have Mz:=alT (ko m) f;generalize l.getD k default=h at*;have hh:=fV gO;have H4:=c0 (ua m.ai.S.T hm.ai.S.T h hh C none);have hro:=hm.ai.S.T.get h;obtain⟨c,s3,W3,b1,b2,b3,b4⟩:=U1 (J:=J) hV hr hp (W0:=C++[.box (bM (aG m.ai.S.T h).1) none]) (by simp;omega) (y:=y) (yb:=N) (bf u0) Gy (P:=P) (c:=1) (l:=ko m h) (v:=eu (aG m.ai.S.T h).1.runs) (mD _) hro.rb.1
   (A:=(fz m.ai.P.free).map (pF P 0)++(fz ((l.take k).flatMap (ko m))).map (pF P 1)) (B:=(fz ((l.drop (k+1)).flatMap (ko m))).map (pF P 1)++((fz (U.flatMap λt=>[gY m t])).map (pF P 2)++m.ai.Q.map (pF P 3)))
   (by rw[Y,Mz,Gv,Gv];simp only[afr,adK]) (by simp only[aeb,afm,qu]) F (push _ G) u none
  have k3:=bk G b2;have hT:=azE (x:=m.ai) (q:=q) (qv:=cv);have r2: (bM (aG m.ai.S.T h).1)[2]?=some (eu (aG m.ai.S.T h).1.runs):=rfl;have v1: (C++[.box (bM (aG m.ai.S.T h).1) none])[a+1]?=some (.box [.ptr P 0] none):=bf u2;cases c
  ·obtain⟨q1,q2⟩:=Q k3;simp(disch:=omega) only[go_sem,simprocAttr,e1,Z,e5,z,mY.cD,hL,u3,↓hT,H4,mc,jU,v1,b1];exact⟨by omega,by rw[q1];exact⟨_,_,rfl,q2,.inr b4⟩⟩
  simp(disch:=omega) only[go_sem,simprocAttr,e1,Z,e3,e4,e5,e31,e32,e33,z,mY.cD,hL,u3,↓hT,H4,mc,jU,v1,b1];refine⟨by omega,f,s3,?_,k3⟩;rw[My,alU,<-aiO];exact b4
 obtain rfl:k=l.length:=by omega
 rw[aft]at u;clear u0 u1 u2 u3 u4 u5 u6;refine eN 8 (λk e d=> ∃s',I (aM m.ai.P.free+aM (l.flatMap (ko m))+aM ((U.take k).flatMap λt=>[gY m t])) s'/\gb V w s' d/\e 1= .ptr (a+2) 0/\e 2= .ptr (a+1) 0/\e 3= .ptr a 0/\e 4= .ptr N 0/\e 5= .fn (.func 106) [] [.ptr N 0]/\e 56= .int .i64 k) 0 (by omega) ?_ ?_
 ·simp(disch:=omega) only[go_sem,simprocAttr,e1,Z,e3,e4,e5];exact⟨s2,by simpa[aM]using u,G⟩
 rintro k hk e C ⟨s2,u,G,e1,Z,e3,e4,e5,e56⟩ n2 z;obtain⟨u0,u1,u2,u3,u4,⟨R2,u5⟩,u6⟩:=facts G;simp(disch:=omega) only[cb,go_sem,simprocAttr,aez,e1,e3,e56];refine⟨λh=>?_,λh=>?_⟩
 ·have f:k<U.length:=by rw[Mx];simp;omega
  have My:=alS (λt=>[gY m t]) f;have Mz:=alT (λt=>[gY m t]) f;have hgk:U.getD k default=k:=by rw[U0 f];simp[Mx]
  rw[hgk]at My Mz;obtain⟨rv,c1,c2⟩:=ayp (H:=C) (by rw[u5];exact ha.app _) Gw k none;obtain⟨cl,mr,K⟩: ∃cl,(∃b,vY m k rv= .az [.agg cl,.bool b])/\cl.length=12/\Den.part true 2 cl 9=some (.agg (aA (gY m k)))/\aO [(.int .i64 0),(.int .u8 0),(.int .u32 0),(.int .u32 0),(.int .u32 0),(.int .u32 0),(.int .u64 0),(.bool false),.av,(.int .i64 0),(.int .i64 0),(.int .i64 0)] 0 cl=cl/\aL cl=0:=by
   unfold vY gY;cases hmu:oD m k with
   |none=>exact⟨_,⟨_,rfl⟩,rfl,rfl,rfl,rfl⟩
   |some c=>exact⟨_,⟨_,rfl⟩,rfl,rfl,rfl,by rw[UI];exact dj (c2 c hmu) (bH (λ_=>rfl) _)⟩
  obtain⟨⟨b0,hu⟩,al1,K,Lp,HX⟩:=And.intro mr K;have hur: (gY m k).1<65536/\ (gY m k).2<65536:=by
   unfold gY oD;split
   ·rename_i c hc;split at hc
    ·cases hc;exact(hm.c k).run
    ·cases hc
   ·decide
  have LY: ∀g,Rv (.sl [aA (gY m k)] g) 2 ([gY m k].map aA):=λg=>.sl (by intro el h;simp at h;subst h;rfl)
  obtain⟨c,s3,W3,b1,b2,b3,b4⟩:=U1 (J:=J) hV hr hp (W0:=C++[.box cl none]) (by simp;omega) (y:=y) (yb:=N) (bf u0) Gy (P:=P) (c:=2) (l:=[gY m k]) (LY true) ⟨by simp,λx Y=>by simp at Y;subst Y;omega⟩
   (A:=(fz m.ai.P.free).map (pF P 0)++((fz (l.flatMap (ko m))).map (pF P 1)++(fz ((U.take k).flatMap λt=>[gY m t])).map (pF P 2))) (B:=(fz ((U.drop (k+1)).flatMap λt=>[gY m t])).map (pF P 2)++m.ai.Q.map (pF P 3))
   (by rw[Y,Mz,Gv,Gv];simp only[afr,adK]) (by simp only[aeb,afm,qu,aiO]) F (push _ G) u none
  have k3:=bk G b2;have v1: (C++[.box cl none])[a+1]?=some (.box [.ptr P 0] none):=bf u2;rw[hu]at c1;cases c
  ·obtain⟨q1,q2⟩:=Q k3;simp(disch:=omega) only[go_sem,simprocAttr,Z,e5,z,u1,c1,Lp,al1,HX,v1,↓K,b1];rw[q1];exact⟨_,_,rfl,q2,.inr b4⟩
  simp(disch:=omega) only[go_sem,simprocAttr,e1,Z,e3,e4,e5,e56,z,u1,c1,Lp,al1,HX,v1,↓K,b1];refine⟨by omega,s3,?_,k3⟩;rw[My,alU,<-aiO];exact b4
 obtain rfl:k=8:=by omega
 rw[show U.take 8=U by rw[Mx];rfl]at u;clear u0 u1 u2 u4 u5 u6;simp(disch:=omega) only[go_sem,simprocAttr,u3,L4,Gx.bY];refine eN m.ai.Q.length (λk e d=> ∃s',I (aM m.ai.P.free+aM (l.flatMap (ko m))+aM (U.flatMap λt=>[gY m t])+k) s'/\gb V w s' d/\e 1= .ptr (a+2) 0/\e 2= .ptr (a+1) 0/\e 3= .ptr a 0/\e 4= .ptr N 0/\e 76=cv/\e 77= .int .i64 m.ai.Q.length/\e 78= .int .i64 k) 0 (by omega) ?_ ?_
 ·simp(disch:=omega) only[go_sem,simprocAttr,e1,Z,e3,e4];exact⟨s2,u,G⟩
 rintro k hk e C ⟨s2,u,G,e1,Z,e3,e4,e76,e77,e78⟩ n2 z;obtain⟨u0,u1,u2,u3,u4,⟨R2,u5⟩,u6⟩:=facts G;simp(disch:=omega) only[cb,F1,go_sem,simprocAttr,aey,e76,e77,e78];refine⟨λh=>?_,λh=>?_⟩
 ·have f:k<m.ai.Q.length:=by omega
  have hq1: (rW P m)[aM m.ai.P.free+aM (l.flatMap (ko m))+aM (U.flatMap λt=>[gY m t])+k]?=some (pF P 3 (m.ai.Q.getD k default)):=by
   rw[Y,<-adK,<-adK,afu (by simp only[aeb,afm,qu];omega)];simp only[aeb,afm,qu,ag6,afE];rw[adM f,U0 f];rfl
  have hL:=Gx.di (X:=XC) (E:=⟨C,none⟩) (off:=0) (n:=1) (agg:=false) f;have pq: ∀x:Nat,Den.part false 1 (iD x) 0=some (.int .i64 x):=λ_=>rfl
  rw[pq]at hL;have hQi:m.ai.Q.getD k default<2147483648:=hm.ai.Q _ (fO f);generalize m.ai.Q.getD k default=pg at*;obtain⟨c,s3,W3,b1,b2,b3,b4,b5⟩:=F _ _ s2 hq1 u C G.P (by omega) none;have b1:D XC y [.int .i64 pg,.ptr P 3] ⟨C,none⟩=_:=b1;have k3:=G.step b2 b3 b4;cases c
  ·obtain⟨q1,q2⟩:=Q k3;simp(disch:=omega) only[go_sem,simprocAttr,Z,e4,Gx.cD,hL,z,u0,u2,b1];exact⟨by omega,by rw[q1];exact⟨_,_,rfl,q2,.inr b5⟩⟩
  simp(disch:=omega) only[go_sem,simprocAttr,e1,Z,e3,e4,e76,e77,e78,Gx.cD,hL,z,u0,u2,b1];exact⟨by omega,f,s3,b5,k3⟩
 obtain rfl:k=m.ai.Q.length:=by omega
 obtain⟨q1,q2⟩:=Q G;refine⟨_,_,rfl,q2,.inl ?_⟩;have: (rW P m).length=aM m.ai.P.free+aM (l.flatMap (ko m))+aM (U.flatMap λt=>[gY m t])+m.ai.Q.length:=by
  rw[Y];simp only[aeb,afm,qu];omega
 rw[this];exact u
end
end
def azM(k:Nat)(r:aD): (fi r).count k=cm k r:=by
 unfold fi cm;obtain⟨a,n⟩:=r
 induction n with
 |zero=>simp
 |succ n b=>
  rw[anC,afr,asH,b];simp only[aiQ,aqr,List.count_cons,List.count_nil,asw]
  grind
theorem al5(k:Nat): ∀l:List aD,(fz l).count k=cR k l
 | []=>rfl
 |r::l=>by
  show(fi r++fz l).count k=_;rw[asH,azM,al5 k l,kW]
theorem U2{α:Type}(k:Nat)(f:α->List aD): ∀l:List α,cR k (l.flatMap f)=(l.map λx=>cR k (f x)).sum
 | []=>rfl
 |x::l=>by rw[aob,nK,U2 k f l];rfl
theorem U3{p:Nat->Bool}{f:Nat->Nat}: ∀l:lN,((l.filter p).map f).sum=(l.map λi=>bif p i then f i else 0).sum
 | []=>rfl
 |x::l=>by
  cases h:p x
  ·simp[h,U3 l]
  ·simp[h,U3 l]
def azN(b:fL m.ai.S.T.b)(k:Nat):cR k ((bc m.ai.S.T.b).flatMap (ko m))=cT k m.ai.S.T:=by
 rw[U2];unfold bc cT;rw[aqE,U3]
 congr 1
 refine akJ λi a=>?_
 have a:=aiF.1 a;unfold cS;cases h: (m.ai.S.T.b i).cO with
 |false=>rfl
 |true=>
  have d:ar m.ai.S.T.b (da i (m.ai.S.T.b i).gen)=true:=by rw[KU b a];exact h
  have c:aI (da i (m.ai.S.T.b i).gen)=i:=zE (Ft a (b i).1);show cR k (ko m _)=cR k _;unfold ko;rw[Gu d,c]
def azO(h:eo n m)(k:Nat):cR k ((List.range 8).flatMap λt=>[gY m t])=cL k m.aB:=by
 rw[U2];unfold cL
 congr 1
 refine akJ λt d=>?_
 rw[kW,ux];unfold gY oD;cases b: (m.aB t).busy
 ·rw[adE (by simp)];have:=h.idle t b;rw[rV];generalize(m.aB t).c.run=r at*;obtain⟨a,c⟩:=r;subst this;rw[rV]
 grind
def xY(m:aQ):lN:=(dY m).map (·.1)
def U4(m:aQ):xY m=fz m.ai.P.free++(fz ((bc m.ai.S.T.b).flatMap (ko m))++(fz ((List.range 8).flatMap λt=>[gY m t])++m.ai.Q)):=by
 unfold xY dY;simp only[afr,aqE]
 congr 1
 ·exact List.map_id _
 congr 1
 ·exact List.map_id _
 congr 1
 ·exact List.map_id _
 ·exact List.map_id _
def azP(h:eo n m)(a:fL m.ai.S.T.b)(k:Nat): (xY m).count k=if k<n then 1 else 0:=by
 rw[<-h.pc k,U4];simp only[asH,al5,azN a,azO h];unfold cM cW;omega
def Gz(h:eo n m)(a:fL m.ai.S.T.b): (xY m).Perm (List.range n):=by
 rw[List.perm_iff_count];intro k;rw[azP h a,List.count_range]
def mh(m:aQ):Nat:=aM m.ai.P.free
def nL(m:aQ):Nat:=aM ((bc m.ai.S.T.b).flatMap (ko m))
def nN(m:aQ):Nat:=aM ((List.range 8).flatMap λt=>[gY m t])
def GA(h:eo n m)(a:fL m.ai.S.T.b):mh m+nL m+nN m+m.ai.Q.length=n:=by
 have:=(Gz h a).length_eq;rw[U4,axl]at this;simp only[aeb,qu]at this;unfold mh nL nN;omega
def azQ(h:eo n m)(b:fL m.ai.S.T.b)(a:k∈xY m):k<n:=aiF.1 ((Gz h b).mem_iff.1 a)
def azR(h:eo n m)(a:fL m.ai.S.T.b): (xY m).Nodup:=(Gz h a).nodup_iff.2 aB7
section
set_option maxHeartbeats 2000000
section
variable{n M p q:Nat}{m:aQ}{qv ev:AV}{aE aP:Nat->AV}{H:List ae}(ha:bQ n M p q m qv ev aE aP H)(hQ:m.ai.Q.length<1073741824)
include ha hQ
theorem azS(P:Nat)(k:P<H.length)(K:Nat)(o:H.length=K)(lo:oN): ∃cv,Rv cv 1 (m.ai.Q.map iD)/\D XC (.fn (.func 69) [] []) [.ptr M 0,.ptr P 0] ⟨H,lo⟩=some (.ret (.fn (.func 105) [] [.ptr (K+2) 0,.ptr (K+1) 0,.ptr K 0]) ⟨H++[.box [.ptr M 0] none,.box [.ptr P 0] none,.box (bK m.ai q cv) none],lo⟩):=by
 obtain⟨cv,g,b⟩:=Mj (ha.app [.box [.ptr M 0] none,.box [.ptr P 0] none]) hQ none;refine⟨cv,b,?_⟩;refine aH PN λN f=>?_
 obtain rfl:K=N:=by omega
 have l:=ha.lt;have a:kC.length=1274:=by rw[Mi,aeb,eP,aeb,aeb,eA];rfl
 have d:aO kC 0 (bK m.ai q cv)=bK m.ai q cv:=pG (by rw[a,Ac]);have e:aL (bK m.ai q cv)<=K+2:=by
  rw[T2];have:=dj b (bH (λ_=>rfl) _);have:=ha.co.qp;have:=ha.co.lt;omega
 have j: ∀E:AS,nU E (.ptr M 0) none=some (.ptr E.heap.length 0,E.push (.box [.ptr M 0] none)):=λ_=>rfl
 have h: ∀E:AS,nU E (.ptr P 0) none=some (.ptr E.heap.length 0,E.push (.box [.ptr P 0] none)):=λ_=>rfl
 simp only[go_sem,simprocAttr,PN,f,j,h,g,d,a,Ac];rw[adG (by omega),zQ (by omega)]
end
def cI(L:List (Nat×Nat))(i:Nat):Nat:=L.countP λx=>x.2==i
def azT(L:List (Nat×Nat))(x:Nat×Nat)(i:Nat):cI (L++[x]) i=cI L i+if x.2=i then 1 else 0:=by
 unfold cI
 grind
def sI(L:List (Nat×Nat))(k:Nat):Bool:=decide (k∈L.map (·.1))
def azU(L:List (Nat×Nat))(x:Nat×Nat):sI (L++[x])=ao (sI L) x.1 true:=by
 unfold sI ao
 grind
def jr(L:List (Nat×Nat)):lA:=[.int .i64 (cI L 0),.int .i64 (cI L 1),.int .i64 (cI L 2),.int .i64 (cI L 3)]
def xZ(f:Nat->Bool):lA:=arr 64 λk=>[.bool (f k)]
def azV{f:Nat->Bool}(h:k<64):Den.part false 1 (xZ f) k=some (.bool (f k)):=by
 have:=kM (ag:=false) (m:=1) (n:=64) (k:=1) (i:=k) (o:=0) (f:=λi=>[AV.bool (f i)]) (λ_=>rfl) h (by omega) (by omega);rw[show k*1+0=k by omega]at this;exact this
def azW{f:Nat->Bool}(h:k<64):aO (xZ f) k [.bool true]=xZ (ao f k true):=by
 have:=nf (n:=64) (k:=1) (i:=k) (o:=0) (vs:=[AV.bool true]) (f:=λi=>[AV.bool (f i)]) (λ_=>rfl) h (by simp);rw[show k*1+0=k by omega]at this;unfold xZ;rw[this];exact ag3 (arr 64) (om (λv:Bool=>[AV.bool v]) f k true).symm
theorem azX(f:Nat->Bool): (xZ f).length=64:=by rfl
def GB{L:List (Nat×Nat)}(h:i<4): (jr L)[i]?=some (.int .i64 (cI L i)):=by
 rcases(show i=0\/i=1\/i=2\/i=3 by omega)with rfl|rfl|rfl|rfl<;>rfl
def azY{L:List (Nat×Nat)}(h:i<4):aO (jr L) i [.int .i64 ((cI L i:Nat)+1:Int)]=jr (L++[(k,i)]):=by
 unfold jr;rcases(show i=0\/i=1\/i=2\/i=3 by omega)with rfl|rfl|rfl|rfl<;>simp[azT,aO]
def azZ{x:Nat×Nat}(h:x∈dY m):x.2<4:=by
 unfold dY at h
 grind
def al6(m:aQ):cI (dY m) 0=mh m/\cI (dY m) 1=nL m/\cI (dY m) 2=nN m/\cI (dY m) 3=m.ai.Q.length:=by
 unfold cI dY mh nL nN;simp only[List.countP_append,List.countP_map,<-qu];have key: ∀ (i j:Nat) (l:lN),List.countP ((λx:Nat×Nat=>x.2==j) ∘ λk=>(k,i)) l=if i=j then l.length else 0:=by
  intro i j l
  induction l with
  |nil=>simp
  |cons a l b=>grind
 simp_all
section
variable{n M p q np:Nat}{m:aQ}{qv ev:AV}{aE aP:Nat->AV}{H:List ae}(ha:bQ n M p q m qv ev aE aP H)(hm:dv m)(Gw: ∀i,(m.aB i).c.aY.length<1073741824)(hQ:m.ai.Q.length<1073741824)(hp:eo np m)
include ha hm Gw hQ hp
theorem al7(lo:oN):D XC (.fn (.func 34) [] []) [.ptr M 0] ⟨H,lo⟩=some (.ret (.az [.agg (jr (dY m)),.int .i64 0]) ⟨H,lo⟩):=by
 refine aH PA λN I=>?_
 have V:dJ EK.ptr (AV.ptr M 0) AV.eI=some false:=rfl;have z0: [AV.int .i64 0,.int .i64 0,.int .i64 0,.int .i64 0]=jr []:=rfl;have z1:aea=xZ (sI []):=rfl;obtain⟨cv,c2,c1⟩:=azS (ha.app [.box (jr []) none,.box [.int .i64 0] none,.box (jr []) none,.box (xZ (sI [])) none]) hQ (N+2) (by simp;omega) (N+4) (by simp;omega) none;have OR:=hp.np;have aDv:=hm.ai.P.n;simp only[go_sem,simprocAttr,PA,I,V,z0,z1,c1];have hx: ∀ {j:Nat} {x:lA},(rW (N+2) m)[j]?=some x-> ∃y,(dY m)[j]?=some y/\x=pF (N+2) y.2 y.1:=λ {j x} h=>by
  unfold rW at h;rw[afE]at h;cases v: (dY m)[j]? with
  |none=>rw[v]at h;cases h
  |some y=>rw[v]at h;cases h;exact⟨y,rfl,rfl⟩
 refine ad6 (S:=List (Nat×Nat)) (λe=>e 0= .ptr M 0/\e 2= .ptr N 0/\e 3= .ptr (N+1) 0/\e 4= .ptr (N+2) 0/\e 5= .ptr (N+3) 0) (by simp only[go_sem,simprocAttr]) (rW (N+2) m) I [.box [.ptr M 0] none,.box [.ptr (N+2) 0] none,.box (bK m.ai q cv) none] (λs=>[.box (jr []) none,.box [.int .i64 0] none,.box (jr s) none,.box (xZ (sI s)) none]) (nB:=4) (λ_=>rfl) []
  (λj s=>s=(dY m).take j) (λ_ _=>False) rfl ?_ (by simp) rfl (λex s h=>h.elim) ?_ ?_ (λe _ ex s l p _ h=>h.elim)
 ·refine azG (cv:=cv) ha hm Gw c2 hQ ?_ (λ_=>rfl) (aef _) ?_ (N+4) (N+2)
  ·refine H6 (OW ?_);intro s;rfl
  ·intro s W h;refine⟨W.drop N,?_⟩;have:=jb.take (N:=N) h.1.1 I;rw[<-this,akP]
 ·rintro e ⟨e0,e2,e3,e4,e5⟩ j x s P rfl;obtain⟨⟨pg,i⟩,v,rfl⟩:=hx P;obtain⟨C,E⟩:=acW.1 v;have g: (pg,i)∈dY m:=E ▸ aqz C;have F:i<4:=azZ g;have A:pg<np:=azQ hp hm.ai.S.T.b (afq.2 ⟨_,g,rfl⟩);have o: (dY m).take (j+1)=(dY m).take j++[(pg,i)]:=by rw[agR,v];rfl
  have B:sI ((dY m).take j) pg=false:=by
   refine adO λh=>?_
   have t:=azR hp hm.ai.S.T.b;unfold xY at t;rw[<-akP j ((dY m).map (·.1))]at t;refine(aBu.1 t).2.2 pg (by rw[<-List.map_take];exact h) pg ?_ rfl;rw[<-List.map_drop,amw C,E];simp
  rw[o];have U:=azU ((dY m).take j) (pg,i);have Mg:=azY (L:=(dY m).take j) (k:=pg) F;have hc2:=GB (L:=(dY m).take j) F;have T:=azW (f:=sI ((dY m).take j)) (show pg<64 by omega);have Q:=azV (f:=sI ((dY m).take j)) (show pg<64 by omega);have mr:cI ((dY m).take j) i<9223372036854775807:=by
   have h1:cI ((dY m).take j) i<=((dY m).take j).length:=List.countP_le_length;have h2: ((dY m).take j).length<=(dY m).length:=by rw[afC];omega
   have h3:=(Gz hp hm.ai.S.T.b).length_eq;unfold xY at h3;rw[afm,axl]at h3;omega
  generalize(dY m).take j=L at*;refine⟨rfl,λW n' hn hnl J=>?_⟩;simp only[go_sem,simprocAttr,iG,pF];refine⟨[],by simp,λW2 SJ G=>?_⟩;simp only[fD,fC,alX,afs,Nat.reduceAdd]at G;obtain⟨w0,w1,K,w3⟩:=G;have p1: ¬(pg:Int)<0:=by omega
  have p2: ¬(pg:Int)>=64:=by omega
  simp(disch:=omega) only[go_sem,simprocAttr,aeo,e5,K,w3,Mg,hc2,T,Q,B,p1,p2,nZ];refine⟨by omega,by omega,by rw[azX];omega,by show i+1<=4;omega,L++[(pg,i)],?_,λk hk1 hk2=>?_,rfl⟩
  ·simp only[fD,fC,alX,afs,Nat.reduceAdd];refine⟨?_,?_,?_,?_⟩
   ·rw[acT (by omega),acT (by omega)];exact w0
   ·rw[acT (by omega),acT (by omega)];exact w1
   ·rw[aed (by simp;omega)]
   ·rw[acT (by omega),aed (by omega),U]
  ·rw[acT (by omega),acT (by omega)]
 ·rintro e ⟨e0,e2,e3,e4,e5⟩ s l p A4 rfl d J hd;have O: (rW (N+2) m).length=(dY m).length:=afm _;rw[O,aft]at J;simp only[fD,fC,alX,afs,Nat.reduceAdd]at J;obtain⟨w0,w1,K,w3⟩:=J;have o:=jb.take d I;obtain⟨R,hR⟩: ∃R,l=H++R:=⟨l.drop N,by rw[<-o,akP]⟩;have u:=ha.app R;rw[<-hR]at u;obtain⟨cv',d1,d2⟩:=Mj u hQ none;have A:=c0 (alO u.co.ik none);have g9: (bK m.ai q cv')[952]?=some (.ptr q 0):=Cu;obtain⟨n0,n1,n2,n3⟩:=al6 m;have f0: (jr (dY m))[0]?=some (.int .i64 (mh m)):=by rw[GB (by omega),n0]
  have f1: (jr (dY m))[1]?=some (.int .i64 (nL m)):=by rw[GB (by omega),n1]
  have f2: (jr (dY m))[2]?=some (.int .i64 (nN m)):=by rw[GB (by omega),n2]
  have f3: (jr (dY m))[3]?=some (.int .i64 m.ai.Q.length):=by rw[GB (by omega),n3]
  have w:=GA hp hm.ai.S.T.b;rw[<-hp.np]at w;have r: ((mh m:Int)+nL m+nN m+m.ai.Q.length)=m.ai.P.n:=by omega
  have X:Den.part true 4 (jr (dY m)) 0=some (.agg (jr (dY m))):=rfl;have Y: ∀L,(jr L).length=4:=λ_=>rfl
  have z: ∀L,aL (jr L)=0:=λ_=>rfl
  have Z:List.drop 4 (jr [])=[]:=rfl;have s1: ∀a b c,(((l.set N a).set (N+1) b).set p c).take N=H:=λa b c=>(((d.set (by omega)).set (by omega)).set (by omega)).take I
  have s2: ∀a b,((l.set N a).set (N+1) b)[p]?=some .fI:=λa b=>by rw[acT (by omega),acT (by omega)];exact hd
  have s3: ∀a,(l.set N a)[N+1]?=some (.box [.int .i64 0] none):=λa=>by rw[acT (by omega)];exact w1
  have s4: ∀a b c,(((l.set N a).set (N+1) b).set p c)[N]?=some a:=λa b c=>by rw[acT (by omega),acT (by omega)];exact de w0
  have s5: ∀a b c,(((l.set N a).set (N+1) b).set p c)[N+1]?=some b:=λa b c=>by rw[acT (by omega),aed (by rw[afw];exact eg w1)]
  simp(disch:=omega) only[go_sem,simprocAttr,e0,e2,e3,e4,w0,K,d1,A,g9,f0,f1,f2,f3,r,X,Y,z,Z,agT,mL,s2,s3,s4,s5];rw[rO (by simp[AV.refs,aL,z]),s1]
end
end
def v8:aQ:=eY 4 [[]] 1
def wq1:aQ:=(gT v8 16).1
theorem az3:Aj v8=true:=by rfl
theorem az4:uy v8=false:=by rfl
theorem az5:uy wq1=true:=by rfl
theorem az6:jr (dY v8)=[.int .i64 4,.int .i64 0,.int .i64 0,.int .i64 0]:=by rfl
theorem az7:pZ ⟨4,[[]],List.map UInt8.toNat []⟩=true:=by rfl
def az8(H:List ae)(lo:oN): ∃E,D XC (.fn (.func 32) [] []) [] ⟨H,lo⟩=some (.ret (.bool true) E):=by
 suffices Q: ∃c,D XC (.fn (.func 32) [] []) [] ⟨H,lo⟩=some c/\ (λc=> ∃E,c= .ret (.bool true) E) c by grind
 refine cN Py λN p=>?_
 have k:Mb 4 [[]] [] (.sl [[S []]] true) .av:=⟨.sl (λel h=>by grind),.av,by decide,by decide⟩;obtain⟨c,g,aE,d,rfl,y,M⟩:=alh (n:=4) k az7 N H p none;have b:=alk (n:=4) (aK:=[[]]) (pv:=.sl [[S []]] true) (kv:=.av) (H:=H) p y;have g:D XC (.fn (.func 33) [] []) [.agg [.int .i64 4,.sl [[S []]] true,.av]] ⟨H,none⟩=_:=g;have B:dJ EK.ptr (AV.ptr (N+1) 0) AV.eI=some false:=rfl;have j:qt v8:=alj (by decide) _ _;have O:=alr 4 [[]] 1;have e: ∀i,(v8.aB i).c.aY.length<1073741824:=λi=>by show 0<1073741824;decide
 have C:eo 4 v8:=alL _ _;generalize mT (eY 4 [[]] [[]].length) 4 N (.sl [[S []]] true) .av aE H=W at*;have b:bQ N (N+1) (N+3) (N+2) v8 .av .av aE (λ_=>.av) W:=b;have t:=λlo=>al7 b j.ok e (by decide) C lo
 rw[az6]at t;have P: [ae.box [AV.int .i64 4,.int .i64 0,.int .i64 0,.int .i64 0] none]=[ae.box [AV.int .i64 4,.int .i64 0,.int .i64 0,.int .i64 0] none]:=rfl;have a:=b.app [ae.box [AV.int .i64 4,.int .i64 0,.int .i64 0,.int .i64 0] none];have s:=λlo=>UZ a j.ok.ai.P (by decide) lo
 have r:=λlo=>Mt a (by decide) lo
 rw[az3]at s;rw[az4]at r;obtain⟨c,f,v,J,q,o,m,z,rfl,x,w,L⟩:=Gq Gt a j (by decide) 16 (by omega) d;have K:=λlo=>Mt x (by decide) lo
 have l: ∀lo,D XC (.fn (.func 35) [] []) [.ptr (N+1) 0] ⟨m,lo⟩=some (.ret (.bool true) ⟨m,lo⟩):=λlo=>by rw[K,show uy (gT v8 16).1=true from az5]
 have f:D XC (.fn (.func 30) [] []) [.ptr (N+1) 0,.int .u8 16] ⟨W++[ae.box [AV.int .i64 4,.int .i64 0,.int .i64 0,.int .i64 0] none],d⟩=_:=f;have I:=b.lt;have G:=b.co.lt;have F:=eg b.co.ik;have u:m[W.length]?=some (.box [.int .i64 4,.int .i64 0,.int .i64 0,.int .i64 0] none):=w.own (by simp;omega) (by rw[dI rfl];rfl);have A:dJ (.agg [.int,.int,.int,.int]) (.agg [.int .i64 4,.int .i64 0,.int .i64 0,.int .i64 0]) (.agg [.int .i64 4,.int .i64 0,.int .i64 0,.int .i64 0])=some true:=rfl;simp only[go_sem,simprocAttr,Py,g,t,s,r,f,l,u,A];exact⟨_,by rw[alv (aee _)]⟩
def az9{r:aD}:k∈fi r↔r.1<=k/\k<r.1+r.2:=by
 unfold fi;simp only[afq,aiF];constructor
 ·omega
 ·intro h;exact⟨k-r.1,by omega,by omega⟩
def al8:k∈fz l↔ ∃r∈l,r.1<=k/\k<r.1+r.2:=by
 unfold fz;simp only[aop,az9]
section
variable{n:Nat}{m:aQ}(h:eo n m)(hb:fL m.ai.S.T.b)
include h hb
theorem aAa(q:fy m.ai.P)(D:1<=n):Aj m=decide (mh m=n):=by
 unfold Aj;refine afB.2 ?_;rw[h.np];constructor
 ·intro e;unfold mh;rw[e];simp[aM]
 ·intro e;have d: (fz m.ai.P.free).Perm (List.range n):=by
   have g:=Gz h hb;have C:=GA h hb;rw[U4]at g;have E:fz ((bc m.ai.S.T.b).flatMap (ko m))=[]:=ate (by rw[qu];unfold mh nL at*;omega);have e3:fz ((List.range 8).flatMap λt=>[gY m t])=[]:=ate (by rw[qu];unfold mh nN at*;omega)
   grind
  have b: ∀k,k<n-> ∃r∈m.ai.P.free,r.1<=k/\k<r.1+r.2:=λk u=>al8.1 (d.mem_iff.2 (aiF.2 u))
  have f: ∀r∈m.ai.P.free,r.1+r.2<=n:=λr i=>by
   have g:=(q.free.bd r i).1;have:=aiF.1 (d.mem_iff.1 (al8.2 ⟨r,i,show r.1<=r.1+r.2-1 by omega,by omega⟩));omega
  have o:=q.free.pw;generalize m.ai.P.free=l at*
  match l with
  | []=>obtain⟨r,i,_⟩:=b 0 (by omega);cases i
  | [r]=>
    obtain⟨B,w,g,_⟩:=b 0 (by omega);obtain rfl:=aeh.1 w;obtain⟨p,s,_,v⟩:=b (n-1) (by omega);obtain rfl:=aeh.1 s;have:=f p (aeh.2 rfl);obtain⟨a,c⟩:=p;dsimp only at*;rw[show a=0 by omega,show c=n by omega]
  |r::y::t=>
   have g:=(akT.1 o).1;have s:=f y (by simp);have v:r.1+r.2<y.1:=g y (by simp);obtain⟨z,j,A,x⟩:=b (r.1+r.2) (by omega);rcases afJ.1 j with rfl|j
   ·omega
   ·have:r.1+r.2<z.1:=g z j;omega
end
section
set_option maxHeartbeats 2000000
def wC(a b c d:Nat):lA:=[.int .i64 a,.int .i64 b,.int .i64 c,.int .i64 d]
section
variable{np:Int}{aK:List lB}{aX:lB}{pv:AV}(h:Gs np aK aX pv)
include h
end
end
def fk(t:au)(h:Nat):Bool:=t.ar h&&decide (bq t h=0)
def Ak(o:bI)(h:Nat):Ow:=if(o (aI h)).root=h then(o (aI h)).own else vx
def Kf(s:bm)(h:Nat):Option Ow:=if fk s.T h=true then some (Ak s.O h)else none
def Al{h:Nat}:fk t h=true↔t.ar h=true/\bq t h=0:=by unfold fk;simp
def MA{h:Nat}(a:t.ar h=false):fk t h=false:=by unfold fk;grind
theorem aAb(t:au):fk t 0=false:=by rfl
def U5(a:cg t){h:Nat}(b:t.ar h=true):root t h=h↔bq t h=0:=by
 unfold root;rw[adG b];constructor
 ·intro e;refine afH λhu=>?_
  have hm:h∈aU t h:=by
   have c:=xK a hu
   grind
  have:=FU a _ h (aef _) hm;omega
 ·intro hu;rw[pP a,adG hu];rfl
def MC{s:bm}(c:aW s){h:Nat}(a:s.T.ar h=true)(b:root s.T h=h):Kf s h=some (bu s.O s.T h):=by
 unfold Kf;rw[adG (Al.2 ⟨a,(U5 c.tr a).1 b⟩)];unfold bu Ak;rw[b,(sW (show ar s.T.b h=true from a)).1]
def CI{s:bm}(a:aW s){h:Nat}{x:Ow}(e:Kf s h=some x):s.T.ar h=true/\root s.T h=h/\bu s.O s.T h=x:=by
 have hu:fk s.T h=true:=by unfold Kf at e;grind
 obtain⟨b,d⟩:=Al.1 hu;have c:=(U5 a.tr b).2 d;rw[MC a b c]at e
 grind
theorem aDw(s:bm):Kf s 0=none:=by rfl
structure KP(s s':bm)(h:Nat)(o:Option Ow):Prop where
 k: ∀z,Kf s' z=if z=h then o else Kf s z
 al:s'.alive=s.alive
 bx:s'.bp=s.bp
theorem KP.trans{a b c:bm}{h:Nat}{o p:Option Ow}(e:KP a b h o)(d:KP b c h p):KP a c h p:=
 ⟨λz=>by rw[d.k];split;rfl;rename_i q;rw[e.k,adE q],d.al.trans e.al,d.bx.trans e.bx⟩
def KP.of{s s':bm}{h:Nat}{b:Bool}(e: ∀z,fk s'.T z=if z=h then b else fk s.T z)(d:s'.O=s.O)(c:s'.alive=s.alive)(a:s'.bp=s.bp):KP s s' h (if b=true then some (Ak s.O h)else none):=by
 refine⟨λz=>?_,c,a⟩;unfold Kf
 grind
def KP.same{s s':bm}(f: ∀z,fk s'.T z=fk s.T z)(d:s'.O=s.O)(c:s'.alive=s.alive)(a:s'.bp=s.bp):KP s s' 0 none:=
 KP.of (b:=false) (λz=>by rw[f];split;rename_i e;rw[e,aAb];rfl) d c a
def U6(h:iT t t')(z:Nat):fk t' z=fk t z:=by unfold fk;rw[h.ar,h.bq]
def GC{s:bm}{r:Nat}{x:Ow}(e: (eV s.O s.T r aa x).2=0)(g:cg s.T):KP s {s with O:=(eV s.O s.T r aa x).1} r (some x):=by
 unfold eV at e⊢;split at e
 ·cases e
 rename_i i;split at e
 ·cases e
 rename_i b;split at e
 ·cases e
 rename_i h;rw[adE i,adE b,adE h];have a:s.T.ar r=true:=by grind
 have d:root s.T r=r:=afH λq=>b q
 have hu:fk s.T r=true:=Al.2 ⟨a,(U5 g a).1 d⟩;refine⟨λz=>?_,rfl,rfl⟩;unfold Kf Ak;by_cases e:z=r
 ·subst e;rw[adG hu,adG rfl];simp only[bS,afK]
 ·by_cases c:fk s.T z=true
  ·have j:=bT (f:=s.O) (x:=⟨r,x⟩) λq=>e (zY (Al.1 c).1 a q)
   grind
  grind
def al9{o:bI}{r:Nat}{x:Ow}(c:t.ar r=true)(b:root t r=r)(a:aa<8): (eV o t r aa x).2=0:=by
 unfold eV
 grind
def ama{h:Nat}(e: (jA t h a).2=0)(z:Nat):fk (jA t h a).1 z=if z=h then decide (a=0)else fk t z:=by
 unfold jA at e⊢;split at e
 ·cases e
 rename_i i;split at e
 ·cases e
 rename_i g;rw[adE i,adE g];have d:t.ar h=true:=by grind
 have b: ∀r x,au.ar {t with r:=r} x=t.ar x:=λ_ _=>rfl
 unfold fk bq iP;simp only[b];by_cases c:z=h
 ·subst c;rw[adG rfl,bS,d]
  grind
 ·rw[adE c];by_cases f:t.ar z=true
  ·rw[bT λq=>c (zY f d q)]
  grind
def aAc{h:Nat}(e: (iv t h).2=0)(z:Nat):fk (iv t h).1 z=if z=h then true else fk t z:=by
 rw[Ln]at e⊢;split at e
 ·cases e
 rename_i a;rw[adE a,ama e,U6 (Lm t h _ t)];rfl
def aAd{h:Nat}(e: (mF t h a).2=0)(z:Nat):fk (mF t h a).1 z=if z=h then false else fk t z:=by
 unfold mF at e⊢;split at e
 ·cases e
 rename_i b;split at e
 ·cases e
 rename_i d;split at e
 ·cases e
 rename_i c;rw[adE b,adE d,adE c,ama e];have hu:a≠0:=λq=>b (.inr (by rw[q];exact ary t.b))
 grind
def MD(s:eh t){up:Nat}(e: (fh t up n).2.2=0):fk t (fh t up n).2.1=false/\ ∀z,fk (fh t up n).1 z=if z=(fh t up n).2.1 then decide (up=0)else fk t z:=by
 unfold fh at e⊢;dsimp only at e⊢;split at e
 ·cases e
 rename_i p;rw[adE p];clear p;unfold ka at e⊢;split at e
 ·cases e
 rename_i u;split at e
 ·cases e
 rename_i x;rw[adE u,adE x];split at e
 ·rename_i i h
  try rfl
  dsimp only;obtain⟨i1,i2,i3,_⟩:=pO h;have k:=s.ok.b;have a: ∀z,au.ar {b:=ao t.b i {t.b i with cO:=true},r:=ao t.r i {cU with up:=up,cZ:=n}} z=true↔t.ar z=true\/z=da i (t.b i).gen:=λz=>LC h k
  have o: ∀z,t.ar z=true->aI z≠i:=by
   intro z c q;obtain⟨_,v,_⟩:=sW (show ar t.b z=true from c)
   grind
  have m:aI (da i (t.b i).gen)=i:=zE (Ft i1 (k i).1);have hold: ∀z,mO t.b z->au.ar {b:=ao t.b i {t.b i with cO:=true},r:=ao t.r i {cU with up:=up,cZ:=n}} z=t.ar z:=λz c=>by
   have: (au.ar {b:=ao t.b i {t.b i with cO:=true},r:=ao t.r i {cU with up:=up,cZ:=n}} z=true)↔t.ar z=true:=⟨λq=>by
    rcases(a z).1 q with q|q
    ·exact q
    ·rw[q]at c;exact absurd c (Tv h k),λq=>(a z).2 (.inl q)⟩
   grind
  refine⟨MA (Co h k),λz=>?_⟩;generalize l: ({b:=ao t.b i {t.b i with cO:=true},r:=ao t.r i {cU with up:=up,cZ:=n}}:au)=t' at*;have d: ∀j,(t'.r j).up=if j=i then up else(t.r j).up:=by
   intro j;rw[<-l];show(ao t.r i _ j).up=_;by_cases e:j=i
   ·rw[e,bS,adG rfl]
   ·rw[bT e,adE e]
  by_cases g:z=da i (t.b i).gen
  ·rw[adG g];have f:t'.ar z=true:=(a z).2 (.inr g);unfold fk bq iP;rw[adG f,f,d,g,m,adG rfl];by_cases hu:up=0
   ·subst hu;simp
   ·have w:t.ar up=true:=by
      cases q:t.ar up with
      |true=>rfl
      |false=>exact absurd ⟨hu,q⟩ u
    rw[adG ((a up).2 (.inl w))];rfl
  ·rw[adE g];have e1:t'.ar z=t.ar z:=al4.2 ⟨λq=>((a z).1 q).resolve_right g,λq=>(a z).2 (.inl q)⟩;unfold fk bq iP;rw[e1];by_cases f:t.ar z=true
   ·rw[d,adE (o z f),hold _ (s.up (aI z))]
   ·have c:t.ar z=false:=by simpa using f
    rw[c];rfl
 grind
def aAe{y:Nat}(a:t.ar y=true)(z:Nat): (fu t y).1.ar z=(t.ar z&&decide (z≠y)):=by
 unfold fu;rw[adG a];show ar (dy t.b y).1 z=_;by_cases e:z=y
 ·subst e;obtain⟨b,_⟩:=sW (show ar t.b z=true from a);have:ar (dy t.b z).1 z=false:=by
   unfold ar dy;rw[b,adG (show ar t.b z=true from a)];refine adO ?_;show ao _ _ _ _≠_;rw[bS];unfold nj
   grind
  grind
 ·rw[aec e,awD];exact al4.2 ⟨LD,λq=>TI q a e⟩
theorem amb: ∀ (l:lN) (t:au),l.Nodup->(∀y∈l,t.ar y=true)-> ∀z,(fW t l).ar z=(t.ar z&&decide (z∉l))/\ (t.ar z=true->z∉l->(fW t l).r (aI z)=t.r (aI z))
 | [],t,_,_,z=>⟨by simp[fW],λ_ _=>rfl⟩
 |y::l,t,e,f,z=>by
  obtain⟨h,c⟩:=aqf.1 e;have b:=f y (afG ..);have i:=aAe b;obtain⟨k,g⟩:=amb l (fu t y).1 c (λa j=>by grind) z;refine⟨?_,λd hm=>?_⟩
  ·show(fW (fu t y).1 l).ar z=_
   grind
  ·have hm:=not_or.1 λq=>hm (afJ.2 q)
   show(fW (fu t y).1 l).r (aI z)=_;rw[g (by grind) hm.2];unfold fu;rw[adG b];exact bT λq=>hm.1 (zY d b q)
def aAf(a:eh t){h z:Nat}(b:bq t z≠0)(c:bq t z∈db t h):z∈db t h:=by
 refine air a.ok.b a.tr _ h (aef _) ?_;rw[xK a.tr b];rcases FX a.tr 32 h c with q|q
 ·grind
 grind
def aAg(c:eh t)(h z:Nat):fk (hZ t h).1 z=if z=h then false else fk t z:=by
 by_cases d:t.ar h=true
 ·have b:under t h=db t h:=by unfold under;rw[adG d];rfl
  have he: (hZ t h).1=fW t (db t h):=by
   unfold hZ;rw[b,adE (arB h)];rfl
  rw[he];have f: ∀y∈db t h,t.ar y=true:=λy j=>zF c.ok.b d j
  have i:=amb (db t h) t (aiI c.tr 32 h) f;obtain⟨d1,d2⟩:=i z;by_cases hm:z∈db t h
  ·rw[MA (by grind)];split
   ·rfl
   ·rename_i k
    symm
    unfold fk;rcases FX c.tr 32 h hm with q|q
    ·omega
    ·have:bq t z≠0:=λl=>by rw[pP c.tr,adG l]at q;cases q
     grind
  ·rw[adE λq=>hm (by rw[q];exact Tw c.tr h)];have e1: (fW t (db t h)).ar z=t.ar z:=by rw[d1];simp[hm]
   unfold fk bq iP;rw[e1];by_cases a:t.ar z=true
   ·rw[d2 a hm,adG a,adG a];have m: (fW t (db t h)).ar (t.r (aI z)).up=t.ar (t.r (aI z)).up:=by
     rw[(i _).1];cases g:t.ar (t.r (aI z)).up with
     |false=>rfl
     |true=>
      have hu:bq t z=(t.r (aI z)).up:=by unfold bq iP;rw[adG a,adG g]
      have: (t.r (aI z)).up∉db t h:=λq=>hm (aAf c (by rw[hu];exact Fw g) (by rw[hu];exact q))
      simp[this]
    rw[m]
   ·have a:t.ar z=false:=by simpa using a
    rw[a];rfl
 ·have b:under t h=[]:=by unfold under;rw[adE d]
  have he: (hZ t h).1=t:=by unfold hZ;rw[b];rfl
  rw[he];split
  ·rename_i e;rw[e];exact MA (by simpa using d)
  ·rfl
theorem amc: ∀ (l:lN) (x:ay),(l.foldl fE x).s.T=x.s.T/\ (l.foldl fE x).s.O=x.s.O/\ (l.foldl fE x).s.alive=x.s.alive/\ (l.foldl fE x).s.bp=x.s.bp
 | [],_=>⟨rfl,rfl,rfl,rfl⟩
 |a::l,x=>amc l (fE x a)
def ME(a:aW x.s)(h:Nat):KP x.s (ef x h).s h none:=by
 obtain⟨f,e,d,c⟩:=amc (under x.s.T h) x;refine KP.of (b:=false) (λz=>?_) e d c;show fk (hZ ((under x.s.T h).foldl fE x).s.T h).1 z=_;rw[f];exact aAg a.dV h z
def U7{h t:Nat}(a:aW x.s)(e:kQ x h t= .ok y):KP x.s y.s h (some ⟨1,t % 256,0⟩):=by
 obtain⟨_,he,e⟩:=aC e;cases e;exact GC (nJ he) a.tr
def U8{h:Nat}(e:sY x h= .ok y):KP x.s y.s h (some (Ak x.s.O h)):=by
 obtain⟨_,he,e⟩:=aC e;cases e;exact KP.of (b:=true) (λz=>aAc (nJ he) z) rfl rfl rfl
def U9{h:Nat}(e:mI x h r= .ok y):KP x.s y.s 0 none:=by
 obtain⟨_,he,e⟩:=aC e;cases e;exact KP.same (U6 (.set ..)) rfl rfl rfl
def Va{s:bm}(f:aW s){r:Nat}{b:Bool}(e: (c7 s.O s.T r aa b).2.2=0): ∃y,Kf s r=some y/\y.kind=3/\aa<8/\fU y.hold aa= !b/\ (c7 s.O s.T r aa b).2.1=y.hold^^^eW aa/\KP s {s with O:=(c7 s.O s.T r aa b).1} r (some {y with hold:=y.hold^^^eW aa}):=by
 have j: (eV s.O s.T r aa (bu s.O s.T r)).2=0->s.T.ar r=true/\root s.T r=r/\aa<8:=λh=>by
  unfold eV at h;split at h
  ·cases h
  split at h
  ·cases h
  split at h
  ·cases h
  rename_i a d c;exact⟨by simpa using a,afH λq=>d q,by omega⟩
 unfold c7 at e⊢;dsimp only at e⊢;split at e
 ·rename_i a;dsimp only at e;rw[e]at a;obtain⟨g1,g2,_⟩:=j e;rcases a with q|q
  ·cases q
  ·exact absurd g2 q.2
 rename_i a;rw[adE a];split at e
 ·cases e
 rename_i d;rw[adE d];split at e
 ·rename_i c;exact absurd e c
 rename_i c;rw[adE c];split at e
 ·cases e
 rename_i i;rw[adE i];split at e
 ·cases e
 rename_i g;rw[adE g];obtain⟨g1,g2,k⟩:=j (afH λq=>c q);refine⟨bu s.O s.T r,MC f g1 g2,afH λq=>d q,k,?_,rfl,GC e f.tr⟩;revert i g;cases fU (bu s.O s.T r).hold aa<;>cases b<;>simp
def kX(a:Nat->Bool)(d:Nat)(x:Ow):Prop:=(x.kind=1/\x.aa<8/\ (a x.aa=true\/x.aa=d))\/x.kind=2\/ (x.kind=3/\x.hold≠0/\ ∀i,x.hold.testBit i=true->i<8/\ (a i=true\/i=d))
def mU:Option Ow->Bool
 |some x=>decide (x.kind=2)
 |none=>false
def iW(h:Nat)(l:List fg):Nat:=l.countP λm=>decide (m.aJ=h)&& !m.share
def x0(b:Nat->cw)(h:Nat):Nat:=((List.range 8).map λi=>iW h (du (b i))).sum
structure Lv(s:bm)(d:Nat)(l:List fg):Prop where
 own: ∀h x,Kf s h=some x->kX s.alive d x
 qi: ∀h,h≠0->x0 s.bp h+iW h l=(mU (Kf s h)).toNat
 dead: ∀i,i<8->s.alive i=false->(s.bp i).n=0
def Am(h:Nat)(m:fg)(l:List fg):iW h (m::l)=iW h l+if m.aJ=h/\m.share=false then 1 else 0:=by
 unfold iW;grind
def amd(h:Nat)(a b:List fg):iW h (a++b)=iW h a+iW h b:=List.countP_append
def Vb{f:Nat->cw}(c:i<8)(b:cw)(h:Nat):x0 (ao f i b) h+iW h (du (f i))=x0 f h+iW h (du b):=by
 have key:=UN (f:=λj=>iW h (du (ao f i b j))) (g:=λj=>iW h (du (f j))) (i:=i) (λj a=>by rw[bT a]) 8 c;rw[bS]at key;exact key
def kX.mono{j b:Nat->Bool}{d:Nat}{x:Ow}(h:kX j d x)(g: ∀i,i<8->j i=true->b i=true):kX b d x:=by
 rcases h with⟨f,c,a⟩|h| ⟨f,c,a⟩
 ·exact .inl ⟨f,c,a.imp_left (g _ c)⟩
 ·exact .inr (.inl h)
 ·exact .inr (.inr ⟨f,c,λi e=>⟨(a i e).1,(a i e).2.imp_left (g _ (a i e).1)⟩⟩)
def kX.MF{a:Nat->Bool}{d:Nat}(b:i<8)(h:a i=true\/i=d):kX a d ⟨1,i % 256,0⟩:=by
 exact .inl ⟨rfl,by grind,by grind⟩
section
variable{s s':bm}{d:Nat}{l:List fg}{h:Nat}{o:Option Ow}
def Lv.put(L:Lv s d l)(K:KP s s' h o)(f:mU o=mU (Kf s h))(ho: ∀x,o=some x->kX s.alive d x):Lv s' d l:=by
 refine⟨λz x e=>?_,λz a=>?_,λi b c=>?_⟩
 ·rw[K.al];rw[K.k]at e;split at e
  ·grind
  ·exact L.own z x e
 ·rw[K.bx,L.qi z a,K.k]
  grind
 ·rw[K.bx];exact L.dead i b (by rw[<-K.al];exact c)
theorem Lv.same(L:Lv s d l)(K:KP s s' 0 none):Lv s' d l:=L.put K (by rfl) λx e=>by cases e
def Lv.skip{m:fg}(L:Lv s d (m::l))(b:m.aJ=0\/m.share=true):Lv s d l:=by
 refine⟨L.own,λz a=>?_,L.dead⟩;rw[<-L.qi z a,Am,adE];rfl
 grind
def Lv.aAh{m:fg}(L:Lv s d (m::l))(c:m.aJ≠0)(b:m.share=false): ∃x,Kf s m.aJ=some x/\x.kind=2:=by
 have a:=L.qi m.aJ c;rw[Am,adG ⟨rfl,b⟩]at a;cases e:Kf s m.aJ with
 |none=>rw[e]at a;simp[mU]at a
 |some x=>
  rw[e]at a;refine⟨x,rfl,afH λq=>?_⟩;simp[mU,q]at a
def Lv.pop{m:fg}(L:Lv s d (m::l))(j:m.aJ≠0)(g:m.share=false)(K:KP s s' m.aJ o)(k:mU o=false)(ho: ∀x,o=some x->kX s.alive d x):Lv s' d l:=by
 refine⟨λz x e=>?_,λz a=>?_,λi b c=>?_⟩
 ·rw[K.al];rw[K.k]at e;split at e
  ·grind
  ·exact L.own z x e
 ·rw[K.bx,K.k];have f:=L.qi z a;rw[Am]at f;by_cases e:z=m.aJ
  ·have:=Bool.toNat_le (mU (Kf s z))
   grind
  grind
 ·rw[K.bx];exact L.dead i b (by rw[<-K.al];exact c)
end
def ame{b:cw}{m:fg}(c:gW b)(e: (iw b m).2=0):du (iw b m).1=du b++[m]:=by
 unfold iw at e⊢;split at e
 ·cases e
 rename_i g;split at e
 ·cases e
 rename_i f;rw[adE g,adE f];have j:=c.n;show(List.range (b.n+1)).map (λi=>ao b.ring (jg b b.n) m (jg b i))=(List.range b.n).map (λi=>b.ring (jg b i))++[m];rw[anC,afr]
 congr 1
 ·exact akJ λi a=>bT (by have:=aiF.1 a;unfold jg;omega)
 ·simp only[aiQ,aqr,bS]
def aAi{b:cw}(c:gW b)(e: (iz b).2.2=0):du b=(iz b).2.1::du (iz b).1/\ (iz b).1.n<=b.n:=by
 unfold iz at e⊢;split at e
 ·grind
 rename_i h;rw[adE h];refine⟨?_,Nat.sub_le _ _⟩;obtain⟨n,a⟩: ∃n,b.n=n+1:=⟨b.n-1,by omega⟩;show(List.range b.n).map (λi=>b.ring (jg b i))=b.ring b.fr:: (List.range (b.n-1)).map (λi=>b.ring ((jg b 1+i) % 4));have f:=c.fr;rw[a,axx,aiQ,aqE]
 congr 1
 ·show b.ring ((b.fr+0) % 4)=_;grind
 ·refine akJ λi _=>?_
  show b.ring ((b.fr+(i+1)) % 4)=b.ring (((b.fr+1) % 4+i) % 4)
  grind
def aAj(b:cw):du (pQ b).1=du b/\ (pQ b).1.n=b.n:=by unfold pQ;split<;>exact⟨rfl,rfl⟩
section
variable{s s':bm}{d:Nat}{l l':List fg}
def Lv.box(L:Lv s d l)(g:i<8){b:cw}(m: ∀h,h≠0->iW h (du b)+iW h l'=iW h (du (s.bp i))+iW h l)(n:s.alive i=false->b.n=0):Lv {s with bp:=ao s.bp i b} d l':=by
 refine⟨L.own,λz a=>?_,λj c k=>?_⟩
 ·have r:=Vb (f:=s.bp) g b z;have q:=m z a;have p:=L.qi z a;show x0 (ao s.bp i b) z+iW z l'=(mU (Kf s z)).toNat;omega
 ·show(ao s.bp i b j).n=0;by_cases e:j=i
  ·subst e;rw[bS];grind
  ·rw[bT e];exact L.dead j c k
def Lv.send{r:Nat}{x:Ow}{m:fg}(L:Lv s 8 [])(K:KP s s' r (some x))(c:x.kind=2)(w:mU (Kf s r)=false)(n:gW (s.bp i))(k:i<8)(p:s.alive i=true)(u:m.aJ=r)(v:m.share=false)(e: (iw (s'.bp i) m).2=0):Lv {s' with bp:=ao s'.bp i (iw (s'.bp i) m).1} 8 []:=by
 rw[K.bx]at e⊢;refine⟨λz y q=>?_,λz b=>?_,λj g a=>?_⟩
 ·have q:Kf s' z=some y:=q;rw[K.k]at q;split at q
  ·injection q with q;exact .inr (.inl (q ▸ c))
  ·rw[K.al];exact L.own z y q
 ·have t:=Vb (f:=s.bp) k (iw (s.bp i) m).1 z;rw[ame n e,amd,Am]at t;have B:=L.qi z b;have C:iW z []=0:=rfl;show x0 (ao s.bp i (iw (s.bp i) m).1) z+iW z []=(mU (Kf s' z)).toNat;rw[K.k];by_cases e:z=r
  ·subst e;have A: (mU (some x)).toNat=1:=by show(decide (x.kind=2)).toNat=1;grind
   grind
  grind
 ·have a:s'.alive j=false:=a;rw[K.al]at a;show(ao s.bp i _ j).n=0;rw[bT λq=>by rw[q,p]at a;cases a];exact L.dead j g a
end
def GD{h:Nat}{u:Unit}(a:aW x.s)(e:gi x h w= .ok u):mU (Kf x.s h)=false:=by
 cases b:Kf x.s h with
 |none=>rfl
 |some y=>
  obtain⟨d,_,ho⟩:=CI a b;refine adO λq=>?_
  have c:=nJ (show ch _=_ from e);unfold vA at c
  grind
def MG(a t i:Nat): (a^^^eW t).testBit i=(a.testBit i^^decide (t % 8=i)):=by unfold eW;grind
def kX.more{a:Nat->Bool}{d t:Nat}{y:Ow}(h:kX a d y)(c:y.kind=3)(b:t<8)(k:a t=true)(g:fU y.hold t=false):kX a d {y with hold:=y.hold^^^eW t}:=by
 have e:t % 8=t:=al2 b;unfold fU at g;refine .inr (.inr ⟨c,λq=>?_,λi f=>?_⟩)
 ·have j:=MG y.hold t t
  grind
 ·rw[MG,e]at f;by_cases q:t=i
  ·grind
  ·rcases h with⟨j,_⟩|h| ⟨_,_,l⟩
   ·omega
   ·omega
   grind
def kX.less{a:Nat->Bool}{d t:Nat}{y:Ow}(h:kX a d y)(b:y.kind=3)(e:fU y.hold t=true)(f:y.hold^^^eW t≠0):kX a d {y with hold:=y.hold^^^eW t}:=by
 unfold fU at e;refine .inr (.inr ⟨b,f,λi c=>?_⟩);rw[MG]at c;by_cases q:t % 8=i
 ·grind
 ·rcases h with⟨j,_⟩|h| ⟨_,_,g⟩
  ·omega
  ·omega
  grind
def CJ(y:Ow)(t:Nat):Option Ow:=if y.hold^^^eW t=0 then none else some {y with hold:=y.hold^^^eW t}
def amf{h t:Nat}(a:aW y.s)(e:h<4294967296)(b:ji y h t= .ok z): ∃x,Kf y.s h=some x/\x.kind=3/\t<8/\fU x.hold t=true/\KP y.s z.s h (CJ x t)/\aW z.s:=by
 have l:=(aiM a e b).1;obtain⟨_,he,b⟩:=aC b;obtain⟨x,k,j,i,g,f,d⟩:=Va a (nJ he);cases b;refine⟨x,k,j,i,g,?_,l⟩;unfold CJ;rw[f];have c:aW (y.o (c7 y.s.O y.s.T h t false).1).s:=a.qh (a.O.held e);split
 ·exact d.trans (ME c h)
 ·exact d
def amg{s s':bm}{d h t:Nat}{l:List fg}{x:Ow}(L:Lv s d l)(a:Kf s h=some x)(c:x.kind=3)(b:fU x.hold t=true)(K:KP s s' h (CJ x t)):Lv s' d l:=by
 refine L.put K ?_ λy e=>?_
 ·rw[a];unfold CJ;split
  ·show false=decide (x.kind=2);grind
  ·rfl
 ·unfold CJ at e;split at e
  ·cases e
  ·rename_i f;injection e with e;rw[<-e];exact(L.own h x a).less c b f
def aAk{t:Nat}(L:Lv x.s 8 [])(l:t<8):Lv (nE x t).s t (du (x.s.bp t)):=by
 have c: ∀i,i<8->(x.s.alive i=true\/i=8)->ao x.s.alive t false i=true\/i=t:=λi a h=>by
  by_cases e:i=t
  ·omega
  ·rw[bT e];grind
 refine⟨λz y e=>?_,λz k=>?_,λi a g=>?_⟩
 ·rcases L.own z y e with⟨j,d,b⟩|h| ⟨j,d,b⟩
  ·exact .inl ⟨j,d,c _ d b⟩
  ·exact .inr (.inl h)
  ·exact .inr (.inr ⟨j,d,λi a=>⟨(b i a).1,c _ (b i a).1 (b i a).2⟩⟩)
 ·have j:=Vb (f:=x.s.bp) l rC z;have d:=L.qi z k;have b:iW z (du rC)=0:=rfl;have m:iW z []=0:=rfl;show x0 (ao x.s.bp t rC) z+_=(mU (Kf x.s z)).toNat;omega
 ·show(ao x.s.bp t rC i).n=0;by_cases e:i=t
  ·rw[e,bS];rfl
  ·rw[bT e];have g:ao x.s.alive t false i=false:=g;rw[bT e]at g;exact L.dead i a g
def aAl{m:fg}{d:Nat}{l:List fg}(a:aW y.s)(f:qg m)(L:Lv y.s d (m::l)): ∃z,uj y m= .ok z/\aW z.s/\Lv z.s d l/\z.s.alive=y.s.alive:=by
 unfold uj;by_cases b:m.aJ=0\/m.share=true
 ·rw[adG b];exact⟨y,rfl,a,L.skip b,rfl⟩
 rw[adE b];have c:m.aJ≠0:=λq=>b (.inl q)
 have g:m.share=false:=by grind
 obtain⟨x,j,k⟩:=L.aAh c g;obtain⟨g1,g2,_⟩:=CI a j;by_cases h:y.s.alive m.fr=true
 ·rw[adG h];have e:=al9 (o:=y.s.O) (x:=⟨1,m.fr % 256,0⟩) g1 g2 f.fr;have i:kQ y m.aJ m.fr= .ok (y.o (ow y.s.O y.s.T m.aJ m.fr).1):=by
   unfold kQ;rw[show(ow y.s.O y.s.T m.aJ m.fr).2=0 from e];rfl
  exact⟨_,i,(CF a f.aJ i).1,L.pop c g (GC e a.tr) rfl λx q=>by injection q with q;rw[<-q];exact kX.MF f.fr (.inl h),rfl⟩
 ·rw[adE h];have K:=ME a m.aJ;exact⟨_,rfl,FY a m.aJ,L.pop c g K rfl (λx q=>by cases q),K.al⟩
theorem amh{d:Nat}: ∀ (l:List fg) (y:ay),aW y.s->(∀m∈l,qg m)->Lv y.s d l-> ∃z,l.foldlM uj y= .ok z/\aW z.s/\Lv z.s d []/\z.s.alive=y.s.alive
 | [],y,b,_,L=>⟨y,rfl,b,L,rfl⟩
 |m::l,y,b,hm,L=>by
  obtain⟨z,e,g,f,c⟩:=aAl b (hm m (afG ..)) L;obtain⟨w,k,w1,i,h⟩:=amh l z g (λa j=>hm a (afv _ j)) f;exact⟨w,by rw[List.foldlM_cons,e];exact k,w1,i,h.trans c⟩
theorem ami{d:Nat}: ∀ (l:lN) (y:ay),aW y.s->Lv y.s d []->(∀h∈l,mU (Kf y.s h)=false)->aW (l.foldl ef y).s/\Lv (l.foldl ef y).s d []/\ (l.foldl ef y).s.alive=y.s.alive/\ ∀h,Kf (l.foldl ef y).s h=if h∈l then none else Kf y.s h
 | [],y,b,L,_=>⟨b,L,rfl,λh=>by simp⟩
 |a::l,y,b,L,c=>by
  have K:=ME b a;obtain⟨i,g,f,e⟩:=ami l (ef y a) (FY b a) (L.put K (by rw[c a (afG ..)];rfl) λx q=>by cases q) λh j=>by
   rw[K.k];split
   ·rfl
   grind
  refine⟨i,g,f.trans K.al,λh=>?_⟩;show Kf (l.foldl ef (ef y a)).s h=_;rw[e,K.k]
  grind
def aAm{s:bm}{h t:Nat}{x:Ow}(b:aW s)(a:t<8)(c:Kf s h=some x)(e:x.kind=3)(d:fU x.hold t=true): (c7 s.O s.T h t false).2.2=0:=by
 obtain⟨g1,g2,f⟩:=CI b c;have e1: ∀y,(eV s.O s.T h t y).2=0:=λy=>al9 g1 g2 a
 unfold c7
 grind
def aAn{h t:Nat}(a: (c7 y.s.O y.s.T h t false).2.2=0): ∃z,ji y h t= .ok z:=by
 unfold ji;dsimp only;rw[a];exact⟨_,rfl⟩
theorem amj{t:Nat}(j:t<8): ∀ (l:lN) (y:ay),l.Nodup->aW y.s->Lv y.s t []->(∀h∈l,h<4294967296/\ ∃x,Kf y.s h=some x/\x.kind=3/\fU x.hold t=true)-> ∃z,l.foldlM (λy h=>ji y h t) y= .ok z/\Lv z.s t []/\z.s.alive=y.s.alive/\ (∀h,h∉l->Kf z.s h=Kf y.s h)/\ ∀h∈l,∀x,Kf z.s h=some x->x.kind=3/\fU x.hold t=false
 | [],y,_,_,L,_=>⟨y,rfl,L,rfl,λ_ _=>rfl,λh b=>by grind⟩
 |a::l,y,C,k,L,D=>by
  obtain⟨s,p⟩:=aqf.1 C;obtain⟨E,x,A,v,u⟩:=D a (afG ..);obtain⟨z,e⟩:=aAn (aAm k j A v u);obtain⟨m,o,i,_,d,K,B⟩:=amf k E e;have f: ∀h∈l,h≠a:=λh b q=>s (q ▸ b)
  obtain⟨w,F,w1,n,g,G⟩:=amj j l z p B (amg L o i d K) λh b=>by
   rw[K.k,adE (f h b)];grind
  refine⟨w,by rw[List.foldlM_cons,e];exact F,w1,n.trans K.al,λh b=>?_,λh b x c=>?_⟩
  ·have b:=not_or.1 λq=>b (afJ.2 q)
   rw[g h b.2,K.k,adE b.1]
  ·by_cases q:h∈l
   ·grind
   ·rcases afJ.1 b with r|r
    ·subst r;rw[g h q,K.k,adG rfl]at c;unfold CJ at c;split at c
     ·cases c
     ·injection c with c
      rw[<-c];refine⟨i,?_⟩;unfold fU at d⊢;show(m.hold^^^eW t).testBit (t % 8)=false;rw[MG,d];simp
    grind
def amk{t:Nat}(k:aW x.s)(L:Lv x.s 8 [])(A:t<8): ∃y,lG x t= .ok y/\Lv y.s 8 []/\y.s.alive=ao x.s.alive t false:=by
 rw[LO];have E:aW (nE x t).s:=(k.vR gW.gone).FV;obtain⟨w,e,w1,N,P⟩:=amh (du (x.s.bp t)) (nE x t) E (λm hm=>by
  obtain⟨i,_,rfl⟩:=afq.1 hm;exact(k.bx t).ring _) (aAk L A)
 rw[e];show∃y,Cr w t= .ok y/\_;unfold Cr;have j: ∀ (l:lN) (w:ay),aW w.s->Lv w.s t []->aW (l.foldl (λy h=>y.k (jB y.s.K h).1) w).s/\Lv (l.foldl (λy h=>y.k (jB y.s.K h).1) w).s t []/\ (l.foldl (λy h=>y.k (jB y.s.K h).1) w).s.alive=w.s.alive:=by
  intro l
  induction l with
  |nil=>intro w a b;exact⟨a,b,rfl⟩
  |cons a l R=>intro w f j;exact R (w.k (jB w.s.K a).1) (f.xL (f.tok.ret a)) (j.same (KP.same (λ_=>rfl) rfl rfl rfl))
 obtain⟨v1,v2,Q⟩:=j (rA w.s.K t) w w1 N;dsimp only;generalize(rA w.s.K t).foldl (λy h=>y.k (jB y.s.K h).1) w=v at*;clear j w1 N;have g: ∀ (s:bm) (p:Nat->Bool),aW s-> ∀h,h∈(bc s.T.b).filter p->s.T.ar h=true/\p h=true:=λs p k h o=>by
  obtain⟨a,b⟩:=afI.1 o;exact⟨(ia k.T.b).1 a,b⟩
 have d: ∀ (s:bm) (p:Nat->Bool),aW s-> ∀h,s.T.ar h=true->p h=true->h∈(bc s.T.b).filter p:=λs p k h T S=>afI.2 ⟨(ia k.T.b).2 T,S⟩
 obtain⟨g1,g2,V,U⟩:=ami ((bc v.s.T.b).filter λh=>decide (root v.s.T h=h)&&decide ((bu v.s.O v.s.T h).kind=1)&&decide ((bu v.s.O v.s.T h).aa=t)) v v1 v2 λh o=>by
  obtain⟨a,b⟩:=g _ _ v1 h o;simp only[afz,agQ]at b;rw[MC v1 a b.1.1];show decide (_=2)=false;rw[b.1.2];rfl
 have F: ∀h y,Kf (((bc v.s.T.b).filter λh=>decide (root v.s.T h=h)&&decide ((bu v.s.O v.s.T h).kind=1)&&decide ((bu v.s.O v.s.T h).aa=t)).foldl ef v).s h=some y-> ¬(y.kind=1/\y.aa=t):=λh y c q=>by
  rw[U]at c;split at c
  ·cases c
  ·rename_i hm;obtain⟨J,I,H⟩:=CI v1 c;exact hm (d _ _ v1 h J (by rw[H,q.1,q.2,I];simp))
 generalize((bc v.s.T.b).filter λh=>decide (root v.s.T h=h)&&decide ((bu v.s.O v.s.T h).kind=1)&&decide ((bu v.s.O v.s.T h).aa=t)).foldl ef v=u at*;obtain⟨z,W,D,O,M,K⟩:=amj A ((bc u.s.T.b).filter λh=>decide (root u.s.T h=h)&&decide ((bu u.s.O u.s.T h).kind=3)&& (decide (t<8)&&fU (bu u.s.O u.s.T h).hold t)) u ((TF _).filter _) g1 g2 λh o=>by
  obtain⟨a,b⟩:=g _ _ g1 h o;simp only[afz,agQ]at b;exact⟨fV a,_,MC g1 a b.1.1,b.1.2,b.2.2⟩
 have G:z.s.alive=ao x.s.alive t false:=by rw[O,V,Q,P];rfl
 refine⟨z,W,⟨λh y c=>?_,D.qi,D.dead⟩,G⟩;have n: ∀i,(z.s.alive i=true\/i=t)->i≠t->z.s.alive i=true\/i=8:=λi q r=>.inl (q.resolve_right r)
 rcases D.own h y c with⟨f,j,C⟩|q| ⟨f,j,C⟩
 ·refine .inl ⟨f,j,n _ C λq=>?_⟩;by_cases hm:h∈(bc u.s.T.b).filter λh=>decide (root u.s.T h=h)&&decide ((bu u.s.O u.s.T h).kind=3)&& (decide (t<8)&&fU (bu u.s.O u.s.T h).hold t)
  ·have:=(K h hm y c).1;rw[f]at this;cases this
  ·exact F h y ((M h hm) ▸ c) ⟨f,q⟩
 ·exact .inr (.inl q)
 ·refine .inr (.inr ⟨f,j,λi B=>⟨(C i B).1,n _ (C i B).2 λq=>?_⟩⟩);subst q;have e8:i % 8=i:=al2 A;by_cases hm:h∈(bc u.s.T.b).filter λh=>decide (root u.s.T h=h)&&decide ((bu u.s.O u.s.T h).kind=3)&& (decide (i<8)&&fU (bu u.s.O u.s.T h).hold i)
  ·have:=(K h hm y c).2;unfold fU at this;rw[e8,B]at this;cases this
  ·have c:=(M h hm) ▸ c;obtain⟨J,I,H⟩:=CI g1 c;exact hm (d _ _ g1 h J (by unfold fU;rw[H,I,f,e8,B];simp[A]))
section
variable{x:ay}{a:ay×bt}(hs:aW x.s)(hL:Lv x.s 8 [])(ht:x.aa<8)(iH:x.s.alive x.aa=true)
include hs hL
omit hs in
theorem aAo(h:jh x= .ok a):Lv a.1.s 8 []:=by
 unfold jh at h
 try dsimp only at h
 cases d:l9 (min x.c.a 129) (min x.c.b 9)with
 |none=>rw[d]at h;cases h
 |some n=>
  rw[d]at h;obtain⟨_,e1,h⟩:=aC h;cases e1;obtain⟨_,_,h⟩:=aC h;obtain⟨_,_,h⟩:=aC h;split at h
  ·obtain⟨z,b,h⟩:=aC h;cases h;exact hL.same (U9 b)
  ·obtain⟨_,_,h⟩:=aC h
   try dsimp only at h
   split at h
   ·cases h;exact hL
   ·obtain⟨_,_,h⟩:=aC h;obtain⟨z,b,h⟩:=aC h;cases h;exact hL.same (U9 (x:={s:=x.s,aa:=x.aa,c:=x.c,run:=x.run,kO:=n,asks:=x.asks,back:=x.back}) b)
omit hs in
theorem aAp(h:pT x w= .ok a):Lv a.1.s 8 []:=by
 unfold pT at h;obtain⟨_,_,h⟩:=aC h;obtain⟨_,_,h⟩:=aC h;obtain⟨_,_,h⟩:=aC h;obtain⟨_,_,h⟩:=aC h;cases h;exact hL
omit hs in
theorem aAq(h:sZ x= .ok a):Lv a.1.s 8 []:=by
 unfold sZ at h;obtain⟨_,_,h⟩:=aC h;obtain⟨_,_,h⟩:=aC h
 try dsimp only at h
 obtain⟨y,e,h⟩:=aC h;cases h;exact hL.same (U9 (x:={x with back:=x.back++(aG x.s.T x.c.r).1.runs}) e)
theorem aAr(h:vB x= .ok a):Lv a.1.s 8 []:=by
 obtain⟨_,hm,h⟩:=aC h;cases h;exact hL.put (ME hs _) (GD hs hm).symm λx q=>by cases q
theorem aAs(h:xp x= .ok a):Lv a.1.s 8 []:=by
 obtain⟨_,hm,h⟩:=aC h;obtain⟨_,_,h⟩:=aC h;obtain⟨_,he,h⟩:=aC h;cases h;exact hL.put (KP.of (s':=(x.t (mF x.s.T x.c.r x.c.s).1).s) (b:=false) (λz=>aAd (nJ he) z) rfl rfl rfl) (GD hs hm).symm λx q=>by cases q
omit hs in
theorem aAt(h:pU x= .ok a):Lv a.1.s 8 []:=by
 unfold pU at h;obtain⟨_,_,h⟩:=aC h;obtain⟨_,_,h⟩:=aC h;obtain⟨_,_,h⟩:=aC h
 try dsimp only at h
 split at h
 ·obtain⟨_,_,h⟩:=aC h
  try dsimp only at h
  obtain⟨_,_,h⟩:=aC h;cases h;exact hL.same (KP.same (λ_=>rfl) rfl rfl rfl)
 ·obtain⟨_,_,h⟩:=aC h;obtain⟨_,_,h⟩:=aC h
  try dsimp only at h
  obtain⟨_,_,h⟩:=aC h;cases h;exact hL.same (KP.same (λ_=>rfl) rfl rfl rfl)
omit hs in
theorem aAu(h:vE x= .ok a):Lv a.1.s 8 []:=by
 unfold vE at h;obtain⟨_,_,h⟩:=aC h;obtain⟨_,_,h⟩:=aC h;cases h;exact hL.same (KP.same (λ_=>rfl) rfl rfl rfl)
omit hs in
theorem aAv(h:vG x= .ok a):Lv a.1.s 8 []:=by
 unfold vG at h;obtain⟨_,_,h⟩:=aC h
 try dsimp only at h
 obtain⟨_,_,h⟩:=aC h;cases h;exact hL
omit hs in
theorem aAw(h:ox x= .ok a):Lv a.1.s 8 []:=by
 unfold ox at h;obtain⟨_,_,h⟩:=aC h;have key:Lv (x.t (lF x.s.T x.c.r (min x.c.a 8) x.c.s (decide ((bu x.s.O x.s.T x.c.s).kind=3))).1).s 8 []:=by
  rw[Tt];split
  ·exact hL.same (KP.same (U6 (.set ..)) rfl rfl rfl)
  ·exact hL
 try dsimp only at h
 split at h
 ·obtain⟨_,_,h⟩:=aC h
  try dsimp only at h
  obtain⟨_,_,h⟩:=aC h;cases h;exact key
 ·try dsimp only at h
  obtain⟨_,_,h⟩:=aC h;cases h;exact key
omit hs in
theorem aAx(h:pV x= .ok a):Lv a.1.s 8 []:=by
 unfold pV at h;obtain⟨_,_,h⟩:=aC h;cases h;have hm: ∀i,x.s.alive i=true->ao x.s.alive x.c.a true i=true:=λi c=>by
  by_cases e:i=x.c.a
  ·rw[e,bS]
  ·rw[bT e];exact c
 refine⟨λz y e=>(hL.own z y e).mono λi _=>hm i,hL.qi,λi c b=>hL.dead i c ?_⟩;have b:ao x.s.alive x.c.a true i=false:=b;cases q:x.s.alive i with
 |false=>rfl
 |true=>rw[hm i q]at b;cases b
theorem aAy(f:x.c.r<4294967296)(h:xr x= .ok a):Lv a.1.s 8 []:=by
 obtain⟨_,_,h⟩:=aC h;obtain⟨y,e,h⟩:=aC h;cases h;obtain⟨y,d,c,_,b,K,_⟩:=amf hs f e;exact amg hL d c b K
theorem aAz(h:vD x= .ok a):Lv a.1.s 8 []:=by
 obtain⟨_,b,h⟩:=aC h;have b:=xW b;simp only[afz,agQ]at b;obtain⟨_,_,h⟩:=aC h;obtain⟨_,he,h⟩:=aC h;cases h;obtain⟨y,c,e,f,d,_,K⟩:=Va hs (nJ he);refine hL.put K ?_ λz q=>?_
 ·rw[c];rfl
 ·injection q with q;rw[<-q];exact(hL.own _ y c).more e b.1 b.2 d
include ht iH
theorem aAA(g:x.c.r<4294967296)(h:pR x= .ok a):Lv a.1.s 8 []:=by
 unfold pR at h;have c:aW (x.t (fh x.s.T x.c.r (min x.c.a 65)).1).s:=hs.uh (hs.dV.new _ _ g);by_cases d:x.c.r=0
 ·simp only[d,ne_eq,not_true,aha,afK]at h;obtain⟨_,he,h⟩:=aC h;obtain⟨y,e,h⟩:=aC h;cases h;rw[d]at c;have he:=nJ he;refine hL.put ((KP.of (s':=(x.t (fh x.s.T 0 (min x.c.a 65)).1).s) (b:=true) (λz=>(MD hs.dV he).2 z) rfl rfl rfl).trans (U7 c e)) ?_ λz q=>?_
  ·unfold Kf;rw[(MD hs.dV he).1];rfl
  ·injection q with q;rw[<-q];exact kX.MF ht (.inl iH)
 ·simp only[d,ne_eq,axk,aha,afK]at h;obtain⟨_,_,h⟩:=aC h;obtain⟨_,he,h⟩:=aC h;obtain⟨y,e,h⟩:=aC h;cases e;cases h;have he:=nJ he;have f:=(MD hs.dV he).2;rw[adO d]at f;refine hL.put (KP.of (s':=(x.t (fh x.s.T x.c.r (min x.c.a 65)).1).s) (b:=false) f rfl rfl rfl) ?_ λz q=>by cases q
  unfold Kf;rw[(MD hs.dV he).1]
theorem aAB(h:xo x= .ok a):Lv a.1.s 8 []:=by
 obtain⟨_,hm,h⟩:=aC h;obtain⟨_,_,h⟩:=aC h;obtain⟨y,e,h⟩:=aC h;obtain⟨z,b,h⟩:=aC h;cases h;refine hL.put ((U8 e).trans (U7 (CG hs e).1 b)) ?_ λz q=>?_
 ·rw[GD hs hm];rfl
 ·injection q with q;rw[<-q];exact kX.MF ht (.inl iH)
theorem aAC(h:xq x= .ok a):Lv a.1.s 8 []:=by
 obtain⟨_,hm,h⟩:=aC h;obtain⟨y,e,h⟩:=aC h;obtain⟨_,he,h⟩:=aC h;cases h;refine hL.put ((U8 e).trans (GC (nJ he) (CG hs e).1.tr)) ?_ λz q=>?_
 ·rw[GD hs hm];rfl
 ·injection q with q
  rw[<-q];refine .inr (.inr ⟨rfl,?_,λi b=>?_⟩)
  ·unfold eW
   grind
  ·unfold eW at b
   grind
theorem aAD(h:nu x= .ok a):Lv a.1.s 8 []:=by
 unfold nu at h
 try dsimp only at h
 obtain⟨_,he,h⟩:=aC h;obtain⟨t1,t2⟩:=aAi (hs.bx x.aa) (nJ he);have b:aW (x.bx x.aa (iz (x.s.bp x.aa)).1).s:=hs.vR (hs.bx x.aa).take.1;have d:Lv (x.bx x.aa (iz (x.s.bp x.aa)).1).s 8 [(iz (x.s.bp x.aa)).2.1]:=hL.box ht (λh f=>by
  rw[t1,Am,Am];omega) λg=>by grind
 split at h
 ·rename_i c;obtain⟨y,e,h⟩:=aC h;cases h;exact d.pop c.1 c.2 (U7 b e) rfl λz q=>by injection q with q;rw[<-q];exact kX.MF ht (.inl iH)
 ·obtain⟨y,e,h⟩:=aC h;cases e;cases h;refine d.skip ?_
  grind
omit ht iH in
theorem aAE(h:mJ x= .ok a):Lv a.1.s 8 []:=by
 unfold mJ at h;obtain⟨_,c,h⟩:=aC h;have c:=xW c;simp only[afz,agQ]at c;obtain⟨_,_,h⟩:=aC h
 try dsimp only at h
 have fin: ∀ (y:ay) (d:Bool),aW y.s->Lv y.s 8 []->y.s.alive=x.s.alive->(x.c.r=0\/d=true)->(ch (iw (y.s.bp x.c.a) ⟨x.aa % 256,x.c.v,x.c.r,d⟩).2>>=λ_=>(Pure.pure (y.bx x.c.a (iw (y.s.bp x.c.a) ⟨x.aa % 256,x.c.v,x.c.r,d⟩).1,bD):R (ay×bt)))= .ok a->Lv a.1.s 8 []:=by
  intro y d r L v u h;obtain⟨_,he,h⟩:=aC h;cases h;refine L.box c.1 (λh s=>?_) λm=>by rw[v,c.2]at m;cases m
  have i: ¬(x.c.r=h/\d=false):=λ ⟨n,k⟩=>by
   rcases u with q|q
   ·exact s (n.symm.trans q)
   ·rw[q]at k;cases k
  rw[ame (r.bx _) (nJ he),amd,Am,adE i];rfl
 split at h
 ·rename_i b;simp only[afz,agQ]at b;obtain⟨_,_,h⟩:=aC h
  try dsimp only at h
  obtain⟨y,e,h⟩:=aC h;cases e;by_cases he: (vC x x.c.r x.c.a).2=0
  ·simp only[he,afK]at h;obtain⟨y,f,p,w,o,_,K⟩:=Va hs (show(c7 x.s.O x.s.T x.c.r x.c.a true).2.2=0 from he);refine fin (x.o (vC x x.c.r x.c.a).1) _ ?_ (hL.put K (by rw[f];rfl) λz q=>by injection q with q;rw[<-q];exact(hL.own _ y f).more p c.1 c.2 o) rfl (.inr (by simp[b])) h;have t:=(CI hs f).1;exact hs.qh (hs.O.held (fV t))
  ·simp only[he,aha]at h;exact fin x _ hs hL rfl (.inr (by simp[b])) h
 ·rename_i b;split at h
  ·rename_i l;have g: (decide (x.c.r≠0)&&decide (x.c.b=1))=false:=by simpa using b
   obtain⟨_,hm,h⟩:=aC h;obtain⟨y,e,h⟩:=aC h
   try dsimp only at h
   obtain⟨_,ho,h⟩:=aC h;obtain⟨z,j,h⟩:=aC h;cases j;obtain⟨_,he,h⟩:=aC h;cases h;exact hL.send ((U8 e).trans (GC (nJ ho) (CG hs e).1.tr)) rfl (GD hs hm) (hs.bx _) c.1 c.2 rfl g (nJ he)
  ·rename_i l;obtain⟨z,j,h⟩:=aC h;cases j;exact fin _ _ hs hL rfl (.inl (afH λq=>l q)) h
omit hs ht iH in
theorem aAF(ht:x.aa<8)(h:vF x= .ok a):Lv a.1.s 8 []:=by
 unfold vF at h
 try dsimp only at h
 obtain⟨_,_,h⟩:=aC h;cases h;obtain⟨d,c⟩:=aAj (x.s.bp x.aa);exact hL.box ht (λh _=>by rw[d]) λb=>by rw[c];exact hL.dead _ ht b
omit ht iH in
theorem aml{t:Nat}(c:t<8)(h: (lG x t>>=λy=>.ok (y,bD))= .ok a):Lv a.1.s 8 []:=by
 obtain⟨y,e,h⟩:=aC h;cases h;obtain⟨z,b,L,_⟩:=amk hs hL c;rw[e]at b;injection b with b
 rw[b];exact L
theorem aAG(d:gE x.c)(h:ib x= .ok a):Lv a.1.s 8 []:=by
 have c:=d.r;unfold ib at h;split at h
 all_goals try(first
  |exact aAo hL h|exact aAp hL h|exact aAq hL h|exact aAr hs hL h|exact aAs hs hL h|exact aAt hL h|exact aAu hL h|exact aAv hL h|exact aAw hL h|exact aAx hL h
  |exact aAy hs hL c h|exact aAz hs hL h|exact aAA hs hL ht iH c h|exact aAB hs hL ht iH h|exact aAC hs hL ht iH h|exact aAD hs hL ht iH h|exact aAE hs hL h|exact aAF hL ht h|exact aml hs hL ht h)
 ·unfold xu at h;obtain⟨_,b,h⟩:=aC h;have b:=xW b;simp only[afz,agQ]at b;exact aml hs hL b.1 h
 ·cases h
end
def amm{s:bm}(hs:aW s)(hL:Lv s 8 [])(d:gE c)(run:aD):Lv (dg s aa c run).1 8 []:=by
 rw[F2];cases h:gS ⟨s,aa,c,run,0,false,[]⟩with
 |error e=>omega
 |ok a=>
  obtain⟨y,r⟩:=a;obtain⟨_,b,h⟩:=aC (show(ask _ _>>=λ_=>ib _)=_ from h);have b:=xW b;simp only[afz,agQ]at b;exact aAG (x:=⟨s,aa,c,run,0,false,[]⟩) (a:=(y,r)) hs hL b.1 b.2 d h
def aAH{s:bm}(hs:aW s)(hL:Lv s 8 []){t:Nat}(ht:t<8)(b:s.alive t=true)(run:aD): (dg s t {jm with op:=20} run).1.alive=ao s.alive t false:=by
 obtain⟨y,e,_,h⟩:=amk (x:=⟨s,t,{jm with op:=20},run,0,false,[]⟩) hs hL ht;rw[F2];have:gS ⟨s,t,{jm with op:=20},run,0,false,[]⟩= .ok (y,bD):=by
  unfold gS;rw[show(decide (t<8)&&s.alive t)=true by grind];show(lG ⟨s,t,{jm with op:=20},run,0,false,[]⟩ t>>=λy=>(.ok (y,bD):R (ay×bt)))=_;rw[e];rfl
 grind
theorem amn: ∀ (l:List aD) (x:Core),(l.foldl b8 x).S=x.S
 | [],_=>rfl
 |_::l,x=>amn l _
def aAI{s:bB}(f:aW s.x.S)(b:Lv s.x.S 8 [])(d:gE s.c.c):Lv (oC s).x.S 8 []:=by
 unfold oC;obtain⟨s',a⟩: ∃s',s'=(if 0<s.c.run.2/\dO s.x.S s.c.aa s.c.c≠s.c.run.2 then{s with x:=b8 s.x s.c.run,c:={s.c with run:=(0,0)}}else s):=⟨_,rfl⟩;have e:s'.x.S=s.x.S/\s'.c.c=s.c.c:=by rw[a];split<;>exact⟨rfl,rfl⟩
 dsimp only;rw[<-a];rw[<-e.1]at f b;rw[<-e.2]at d;split
 ·exact b
 ·show Lv (List.foldl b8 _ _).S 8 [];rw[amn];exact amm f b d _
def aAJ(s:bB): (ic s).1.x.S=s.x.S/\ (ic s).1.c.c=s.c.c:=by
 unfold ic;split
 ·simp
 split
 ·simp
 split<;>exact⟨rfl,rfl⟩
def aAK(s:bB): (ie s).1.x.S=s.x.S/\ (ie s).1.c.c=s.c.c:=by
 unfold ie
 grind
def aAL(s:bB): (iA s).1.x.S=s.x.S/\ (iA s).1.c.c=s.c.c:=by
 unfold iA;dsimp only;split
 ·simp
 split<;>exact⟨rfl,rfl⟩
def aAM(s:bB): (jl s).1.x.S=s.x.S/\ (jl s).1.c.c=s.c.c:=by
 unfold jl
 grind
def aAN{x:Core}{c:Call}(d:jH x)(f:fS c)(k:Lv x.S 8 []):Lv (fw x c).x.S 8 []:=by
 obtain⟨o,j⟩:=aAJ ⟨x,c,bD,false⟩;unfold fw;dsimp only;generalize ic ⟨x,c,bD,false⟩=s1 at*;split
 ·grind
 obtain⟨n,i⟩:=aAK s1.1;generalize ie s1.1=s2 at*;split
 ·grind
 obtain⟨m,h⟩:=aAL s2.1;generalize iA s2.1=a at*;split
 ·grind
 obtain⟨l,g⟩:=aAM a.1;generalize jl a.1=b at*;have e:b.1.x.S=x.S:=by grind
 split
 ·grind
 ·exact aAI (by rw[e];exact d.S) (by grind) (by rw[g,h,i,j];exact f.iV)
structure CK(m:aQ):Prop where
 s:Lv m.ai.S 8 []
 b: ∀i,i<8->(m.aB i).busy=true->m.ai.S.alive i=true
theorem CM(m:aQ): ∀k,(fZ m k).ai.S=m.ai.S
 |0=>rfl
 |k+1=>by
  rw[Ah];unfold kb;split
  ·exact CM m k
  ·exact CM m k
theorem Vc(m:aQ): ∀k,k<=8-> ∀i,i<k->((fZ m k).aB i).busy=true->m.ai.S.alive i=true
 |0,_,i,b,_=>by omega
 |k+1,d,i,b,a=>by
  rw[Ah]at a;unfold kb at a;split at a
  ·have a: (ao (fZ m k).aB k _ i).busy=true:=a;by_cases e:i=k
   ·rw[e,bS]at a;cases a
   ·rw[bT e]at a;exact Vc m k (by omega) i (by omega) a
  ·rename_i c;by_cases e:i=k
   ·subst e;cases q:m.ai.S.alive i with
    |true=>rfl
    |false=>exact absurd ⟨a,by unfold rI;rw[CM,q,aqb]⟩ c
   ·exact Vc m k (by omega) i (by omega) a
def Vd(h:Lv m.ai.S 8 []):CK (jT m):=by
 have e:jT m=fZ m 8:=rfl;rw[e];refine⟨by rw[CM];exact h,λi a b=>?_⟩;rw[CM];exact Vc m 8 (aef 8) i a b
def amo(a:dv m)(b:Lv m.ai.S 8 [])(t:Nat):Lv (pY m t).ai.S 8 []:=by
 have h:=aAN a.ai (a.c t) b;unfold pY;dsimp only;split<;>exact h
def aAO(a:dv m)(b:Lv m.ai.S 8 []){t:Nat}(c:t<8):Lv (rJ m t).ai.S 8 []:=by
 unfold rJ;dsimp only;split
 ·exact amo a b t
 split
 ·exact amo (m:=CE m t) (a.wanted c) b t
 omega
def aAP:gE {jm with op:=20}:=⟨by decide,by decide,by decide,by decide,by decide,by decide⟩
theorem aAQ(m:aQ)(t:Nat): (vI m t).ai.S=(dg m.ai.S t {jm with op:=20} (0,0)).1:=rfl
def CK.pick(h:CK m)(c:qt m)(d:m.now<=4000)(b:Nat):CK (gT m b).1:=by
 have a:=c.ok.Ai (n:=m.now+1) (by omega);unfold gT;dsimp only;split
 ·exact h
 split
 ·split
  ·refine Vd ?_;have: (gC m.ai).1.S=m.ai.S:=by unfold gC;grind
   rw[this];exact h.s
  omega
 split
 ·exact h
 split
 ·exact Vd (amm c.ok.ai.S h.s aAP _)
 ·exact Vd (aAO a h.s (anS b (by decide)))
def aAR(aK:List lB)(k:Nat):CK (eY n aK k):=by
 have a: ∀h,Kf lI h=none:=λh=>by unfold Kf;rw[MA (show lI.T.ar h=false from UE h)];rfl
 refine⟨⟨λh x e=>?_,λh _=>?_,λi _ _=>rfl⟩,λi _ q=>by cases q⟩
 ·rw[show Kf (eY n aK k).ai.S h=none from a h]at e;cases e
 ·rw[show Kf (eY n aK k).ai.S h=none from a h];rfl
structure oP(n:Nat)(m:aQ)(k:Nat):Prop where
 p:eo n m
 i:qt m
 l:CK m
 now:m.now<=k
theorem oP.pick(h:oP n m k)(c:k<=4000)(b:Nat):oP n (gT m b).1 (k+1):=by
 have a:=ag2 h.now c;obtain⟨d,e⟩:=ax6 h.i a b;exact⟨h.p.pick h.i a b,d,h.l.pick h.i a b,by have:=h.now;omega⟩
def aAS(h:1<=n/\n<=64)(aK:List lB)(k:Nat):oP n (eY n aK k) 0:=⟨alL aK k,alj h aK k,aAR aK k,aef 0⟩
def aAT(b:cg t): ∀ (n h:Nat),dep t h<=n->t.ar h=true-> ∃r,fk t r=true:=by
 intro n
 induction n with
 |zero=>
  intro h d a;refine⟨h,Al.2 ⟨a,afH λhu=>?_⟩⟩;have:=xm b hu;omega
 |succ n c=>
  intro h d a;by_cases hu:bq t h=0
  ·exact⟨h,Al.2 ⟨a,hu⟩⟩
  ·exact c (bq t h) (by have:=xm b hu;omega) (B1 hu).1
def aAU{s:bm}(c:aW s)(L:Lv s 8 [])(k: ∀i,i<8->s.alive i=false):bc s.T.b=[]:=by
 cases e:bc s.T.b with
 |nil=>rfl
 |cons h l=>
  have j:s.T.ar h=true:=(ia c.T.b).1 (by grind);obtain⟨r,g⟩:=aAT c.tr _ h (aef _) j;have d:Kf s r=some (Ak s.O r):=by unfold Kf;grind
  rcases L.own r _ d with⟨_,b,f⟩|q| ⟨_,b,f⟩
  ·grind
  ·have m:=L.qi r (Fw (Al.1 g).1);rw[d]at m;have b: (mU (some (Ak s.O r))).toNat=1:=by show(decide (_=2)).toNat=1;grind
   have f:x0 s.bp r=0:=by
    unfold x0;have: ((List.range 8).map λi=>iW r (du (s.bp i)))=(List.range 8).map λ_=>0:=akJ λi a=>by
     have:=L.dead i (aiF.1 a) (k i (aiF.1 a));unfold du;rw[this];rfl
    rw[this];rfl
   have n:iW r []=0:=rfl;omega
  ·obtain⟨i,a⟩:=Nat.exists_testBit_of_ne_zero b
   grind
def Ve(h:oP n m k)(b: ∀i,i<8->m.ai.S.alive i=false):nL m=0/\nN m=0/\ ∀i,i<8->(m.aB i).busy=false:=by
 have c: ∀i,i<8->(m.aB i).busy=false:=λi a=>by
  cases q: (m.aB i).busy with
  |false=>rfl
  |true=>have:=h.l.b i a q;grind
 refine⟨?_,?_,c⟩
 ·unfold nL;rw[aAU h.i.ok.ai.S h.l.s b];rfl
 ·unfold nN;have: (List.range 8).flatMap (λt=>[gY m t])=(List.range 8).flatMap λ_=>[(0,0)]:=KW λt d=>by
   unfold gY oD
   grind
  rw[this];rfl
def amp(h:oP n m k)(b:1<=n)(a:uy m=true):Aj m=true:=by
 unfold uy at a;simp only[afz,afy,aiF,axm]at a;obtain⟨c,c0,_⟩:=Ve h a.1;have d:=GA h.p h.i.ok.ai.S.T.b;rw[aAa h.p h.i.ok.ai.S.T.b h.i.ok.ai.P b]
 grind
def x5(m:aQ)(k:Nat):aQ:=(List.range k).foldl (λm t=>(gT m (16+t)).1) m
def amq(m:aQ)(k:Nat):x5 m (k+1)=(gT (x5 m k) (16+k)).1:=by unfold x5;rw[anC,amu];rfl
def aAV(h:oP n m k){t:Nat}(d:t<8): ∀i,i=t\/m.ai.S.alive i=false->(gT m (16+t)).1.ai.S.alive i=false:=by
 have e: (16+t) % 8=t:=by omega
 have f: ∀m:aQ,(jT m).ai.S=m.ai.S:=λm=>CM m 8
 intro i c;unfold gT;rw[adE (by omega),adE (by omega),e];by_cases a:rI m t=true
 ·rw[adE (by grind),adG (by omega)];have b:m.ai.S.alive t=true:=by unfold rI at a;grind
  rw[f,aAQ];rw[aAH h.i.ok.ai.S h.l.s d b];by_cases q:i=t
  ·rw[q,bS]
  ·rw[bT q];grind
 ·have a:rI m t=false:=by grind
  rw[adG a];rcases c with rfl|c
  ·unfold rI at a;grind
  omega
theorem amr{n k:Nat}{m:aQ}(h:oP n m k)(b:k<=3000): ∀j,j<=8->oP n (x5 m j) (k+j)/\ ∀i,i<j->(x5 m j).ai.S.alive i=false
 |0,_=>⟨h,λi c=>by omega⟩
 |j+1,d=>by
  obtain⟨a,e⟩:=amr h b j (by omega);rw[amq];refine⟨a.pick (by omega) _,λi c=>aAV a (by omega) i ?_⟩
  grind
def aAW(c: ∀i,i<8->(m.aB i).busy=false):jT m=m:=by
 have key: ∀k,k<=8->fZ m k=m:=by
  intro k
  induction k with
  |zero=>intro _;rfl
  |succ k a=>
   intro b;rw[Ah,a (by omega)];unfold kb
   grind
 exact key 8 (aef 8)
structure DS(n:Nat)(m:aQ)(k j:Nat):Prop where
 p:oP n m k
 d: ∀i,i<8->m.ai.S.alive i=false
 q:m.ai.Q.length=j
def DS.UY(h:DS n m k (j+1))(c:k<=4000):DS n (gT m 8).1 (k+1) j/\ (gT m 8).2=0:=by
 obtain⟨_,_,d⟩:=Ve h.p h.d;have b:=h.p.pick c 8;have g:=h.q;cases f:m.ai.Q with
 |nil=>grind
 |cons a l=>
  have e:gT m 8=({m with ai:={m.ai with P:=kS m.ai.P a,Q:=l},now:=m.now+1},0):=by
   have e1:gC m.ai=({m.ai with P:=kS m.ai.P a,Q:=l},true):=by unfold gC;rw[f]
   unfold gT;rw[adE (by omega),adG rfl,e1];rw[adG rfl,aAW];exact d
  refine⟨⟨b,?_,?_⟩,by rw[e]⟩
  ·rw[e];exact h.d
  grind
def DS.empty(h:DS n m k 0): (gT m 8).2=10:=by
 have a:m.ai.Q=[]:=ate h.q;unfold gT gC
 grind
def DS.quiet(h:DS n m k j):uy m=decide (j=0):=by
 have c: (List.range 8).all (λt=>!m.ai.S.alive t)=true:=afy.2 λt a=>by rw[h.d t (aiF.1 a)];rfl
 have b:=h.q;unfold uy
 grind
section
set_option maxHeartbeats 2000000
section
variable{np:Int}{aK:List lB}{aX:lB}{pv:AV}(h:Gs np aK aX pv)
include h
theorem aAX(H:List ae)(lo:oN):
  ∃cr,D XC (.fn (.func 7) [] []) [.agg (dX np pv aX)] ⟨H,lo⟩=some cr/\ ∃E,cr= .ret (.bool true) E:=by
 refine cN EH λN hN=>?_
 have hw:=az8;have hr:=ayC h;have hl: (dX np pv aX).length=3:=rfl;have ht:List.take 3 (dX np pv aX)=dX np pv aX:=rfl;have P:=λH lo=>c0 (ayE h H lo)
 have Q: ∀E:AS,∃E',aV.ret (finish N lo (.bool true) E).1 (finish N lo (.bool true) E).2= .ret (.bool true) E':=λE=>⟨_,by rw[alv (aee _)]⟩
 obtain⟨Vf,FZ⟩:=hw (H++[.box (dX np pv aX) none]) none;obtain⟨g,hg⟩: ∃g,g=Mk aK aX:=⟨_,rfl⟩;rw[<-hg]at P;cases g with
 |true=>
  simp(disch:=omega) only[go_sem,simprocAttr,EH,hN,hl,ht,P,FZ];exact Q Vf
 |false=>
  have ams:v7 aK aX=false/\aX.length<=1500:=by
   unfold Mk at hg;have hg:=hg.symm;simp only[Bool.or_eq_false_iff,decide_eq_false_iff_not]at hg;exact⟨hg.1,by omega⟩
  have T:=λH lo=>c0 (ayG h ams.1 H lo)
  obtain⟨sm,l⟩: ∃g,g=pZ ⟨np,aK,aX.map UInt8.toNat⟩:=⟨_,rfl⟩;rw[<-l]at T;cases sm with
  |false=>
   simp(disch:=omega) only[go_sem,simprocAttr,EH,hN,hl,ht,P,T,FZ];exact Q Vf
  |true=>
   clear FZ Vf;obtain⟨kv,o1,o2⟩:=ayF h ams.1 (H++[.box (dX np pv aX) none]) none;have o1:=c0 o1;have Um: ∃n:Nat,np=n:=⟨np.toNat,by unfold pZ at l;have l:=l.symm;simp at l;omega⟩;obtain⟨n,rfl⟩:=Um;have U:1<=n/\n<=64/\aX.length<=4000:=by unfold pZ at l;have l:=l.symm;simp at l;omega
   obtain⟨cr,n1,aE,lo1,rfl,n2,n3⟩:=alh o2 l.symm (N+1) (H++[.box (dX n pv aX) none]) (by simp[hN]) none;have s:=alk (N:=N+1) (n:=n) (aK:=aK) (pv:=pv) (kv:=kv) (H:=H++[.box (dX n pv aX) none]) (by simp[hN]) n2;have X: (mT (eY n aK aK.length) n (N+1) pv kv aE (H++[.box (dX n pv aX) none]))[N]?=some (.box (dX n pv aX) none):=by
    unfold mT;rw[acV (by simp[hN]),dI hN];rfl
   have u:=aAS ⟨U.1,U.2.1⟩ aK aK.length;have K:=alr n aK aK.length;obtain⟨M,hM⟩: ∃M,M=N+1+1:=⟨_,rfl⟩;obtain⟨p,hp⟩: ∃p,p=N+1+3:=⟨_,rfl⟩;obtain⟨q,hq⟩: ∃q,q=N+1+2:=⟨_,rfl⟩;rw[<-hM,<-hp,<-hq]at s;rw[<-hM]at n1;have hpn:dJ EK.ptr (AV.ptr M 0) AV.eI=some false:=rfl;generalize mT (eY n aK aK.length) n (N+1) pv kv aE (H++[.box (dX n pv aX) none])=W0 at*;generalize eY n aK aK.length=m0 at*;have sn: (dX (n:Int) pv aX)[0]?=some (.int .i64 n):=rfl;have sk: (dX (n:Int) pv aX)[2]?=some (S aX):=rfl;have Vg: ∀a b c d,(wC a b c d).length=4:=λ_ _ _ _=>rfl
   have g0: ∀x y z w,(wC x y z w)[0]?=some (.int .i64 x):=λ_ _ _ _=>rfl
   have g1: ∀x y z w,(wC x y z w)[1]?=some (.int .i64 y):=λ_ _ _ _=>rfl
   have g2: ∀x y z w,(wC x y z w)[2]?=some (.int .i64 z):=λ_ _ _ _=>rfl
   have g3: ∀x y z w,(wC x y z w)[3]?=some (.int .i64 w):=λ_ _ _ _=>rfl
   have z4: ∀a b c d,aO [AV.int .i64 0,.int .i64 0,.int .i64 0,.int .i64 0] 0 (wC a b c d)=wC a b c d:=λ_ _ _ _=>rfl
   have r4: ∀a b c d,aL (wC a b c d)=0:=λ_ _ _ _=>rfl
   have amt: ∀ {m:aQ} {qv ev:AV} {aE aP:Nat->AV} {W:List ae} {k:Nat},bQ (N+1) M p q m qv ev aE aP W->oP n m k->mg m->k<=4000-> ∀lo,D XC (.fn (.func 34) [] []) [.ptr M 0] ⟨W,lo⟩=some (.ret (.az [.agg (wC (mh m) (nL m) (nN m) m.ai.Q.length),.int .i64 0]) ⟨W,lo⟩):=λ {m qv ev aE aP W k} ha hp hr hk lo=>by
    have hQ:=hp.i.q;have L:=hp.now;have R:=al7 ha hp.i.ok (λi=>by have:=hr i;unfold kn at this;omega) (by omega) hp.p lo;obtain⟨q0,q1,q2,q3⟩:=al6 m;rw[show jr (dY m)=wC (mh m) (nL m) (nN m) m.ai.Q.length by unfold jr wC;rw[q0,q1,q2,q3]]at R;exact R
   simp(disch:=omega) only[go_sem,simprocAttr,EH,hN,hl,ht,P,T,o1,n1,hpn];refine ja aX.length (λk e W ak=> ∃m qv ev aE aP,e 1= .ptr N 0/\e 3= .ptr M 0/\e 5= .int .i64 k/\bQ (N+1) M p q m qv ev aE aP W/\oP n m k/\mg m/\W[N]?=some (.box (dX n pv aX) none)) 0 (by omega) ?_ ?_
   ·exact⟨m0,.av,.av,aE,λ_=>.av,rfl,rfl,rfl,s,u,K,X⟩
   clear s u K X n1 n2 n3 o1 P T;rintro k hk e W ak ⟨m,qv,ev,aE,aP,e1,e3,e5,s,u,K,X⟩ nn hn;simp(disch:=omega) only[cb,go_sem,simprocAttr,aek,e1,e3,e5,X,sk];refine⟨λhh=>?_,λhh=>?_⟩
   ·have SW:k<aX.length:=by omega
    have hbb:=(aX.getD k 0).toNat_lt;have L:=u.now;obtain⟨cr,v,C,I,t,r,Y,F,rfl,Z,p3,p4⟩:=Gq Gt s u.i (by omega) (aX.getD k 0).toNat hbb ak;have G:=u.pick (by omega) (aX.getD k 0).toNat;have A:=UL u.i.ok.ai.S K (aX.getD k 0).toNat;have V:Y[N]?=some (.box (dX n pv aX) none):=by rw[p3.low N (by omega)];exact X
    generalize(gT m (aX.getD k 0).toNat).1=o at*;have R:=amt Z G A (by omega);have aA0:=GA G.p G.i.ok.ai.S.T.b;have hQ:o.ai.Q.length<1073741824:=by omega
    have Vh:=Z.app [.box (wC (mh o) (nL o) (nN o) o.ai.Q.length) none];have c2:=λlo=>UZ Vh G.i.ok.ai.P hQ lo
    have c3:=λlo=>Mt Vh hQ lo
    have hqw:=amp G U.1;have hsI: (mh o:Int)+nL o+nN o+o.ai.Q.length=n:=by omega
    generalize uy o=qe at*;generalize Aj o=we at*;have O: ∃m qv ev aE aP,bQ (N+1) M p q m qv ev aE aP (Y++[.box (wC (mh o) (nL o) (nN o) o.ai.Q.length) none])/\oP n m (k+1)/\mg m:=⟨o,C,I,t,r,Vh,G,A⟩;cases qe with
    |false=>
     simp(disch:=omega) only[go_sem,simprocAttr,e1,e3,e5,v,R,z4,r4,Vg,g0,g1,g2,g3,hsI,bf V,sn,c3];exact⟨by omega,SW,O⟩
    |true=>
     obtain rfl:=hqw rfl;simp(disch:=omega) only[go_sem,simprocAttr,e1,e3,e5,v,R,z4,r4,Vg,g0,g1,g2,g3,hsI,bf V,sn,c3,c2];exact⟨by omega,SW,O⟩
   ·obtain rfl:k=aX.length:=by omega
    have yu:=amr u (by omega);have hkn:=u.now;refine ja 8 (λj e W ak=> ∃qv ev aE aP,e 3= .ptr M 0/\e 8= .int .u8 j/\bQ (N+1) M p q (x5 m j) qv ev aE aP W/\mg (x5 m j)) 0 (by omega) ?_ ?_
    ·refine⟨qv,ev,aE,aP,?_⟩;simp(disch:=omega) only[go_sem,simprocAttr,e3];exact⟨s,K⟩
    clear s X e1 e3 e5;rintro j hj e W ak ⟨qv,ev,aE,aP,e3,e8,s,K⟩ n2 hn2;obtain⟨u,hd⟩:=yu j hj;simp(disch:=omega) only[cb,go_sem,simprocAttr,aej,e3,e8];refine⟨λhh=>?_,λhh=>?_⟩
    ·have Vi:j<8:=by omega
     have L:=u.now;obtain⟨cr,v,C,I,t,r,Y,F,rfl,Z,p3,p4⟩:=Gq Gt s u.i (by omega) (16+j) (by omega) ak;have A:=UL u.i.ok.ai.S K (16+j);rw[<-amq]at Z A;have hcj: ((16+j:Nat):Int)=16+(j:Int):=by omega
     rw[hcj]at v;simp(disch:=omega) only[go_sem,simprocAttr,e3,e8,v];exact⟨Vi,C,I,t,r,Z,A⟩
    ·obtain rfl:j=8:=by omega
     clear yu;generalize x5 m 8=o at*;obtain⟨r0,r1,_⟩:=Ve u hd;have R:=amt s u K (by omega);rw[r0,r1]at R;have aA0:=GA u.p u.i.ok.ai.S.T.b;obtain⟨J,hqn⟩: ∃J,J=o.ai.Q.length:=⟨_,rfl⟩;have B:DS n o (aX.length+8) J:=⟨u,hd,hqn.symm⟩;obtain⟨a,haa⟩: ∃a,W.length=a:=⟨_,rfl⟩;obtain⟨f,hf⟩: ∃f,f=mh o:=⟨_,rfl⟩;rw[<-hqn,<-hf]at R;simp(disch:=omega) only[go_sem,simprocAttr,R,z4,r4,Vg,g1,g2,haa];have hMa:M<a/\p<a/\q<a:=by
      have:=s.lt;have:=s.co.lt;have:=eg s.co.ik;omega
     refine ja J (λj e W ak=> ∃m qv ev aE aP,e 3= .ptr M 0/\e 9= .ptr a 0/\e 11= .int .i64 j/\bQ (N+1) M p q m qv ev aE aP W/\DS n m (aX.length+8+j) (J-j)/\mg m/\W[a]?=some (.box (wC f 0 0 J) none)) 0 (by omega) ?_ ?_
     ·refine⟨o,qv,ev,aE,aP,?_⟩;simp(disch:=omega) only[go_sem,simprocAttr,e3];exact⟨s.app _,B,K⟩
     clear s u K B hd R e3 e8 qv ev aE aP;rintro j hj e W ak ⟨m,qv,ev,aE,aP,e3,e9,e11,s,B,K,X⟩ n3 hn3;simp(disch:=omega) only[cb,go_sem,simprocAttr,aei,e3,e9,e11,X,g3];have L:=B.p.now;have hQ:m.ai.Q.length<1073741824:=by rw[B.q];omega
     have c3:=λlo=>Mt s hQ lo
     rw[B.quiet]at c3;refine⟨λhh=>?_,λhh=>?_⟩
     ·have Vi:j<J:=by omega
      obtain⟨cr,v,C,I,t,r,Y,F,rfl,Z,p3,p4⟩:=Gq Gt s B.p.i (by omega) 8 (by omega) ak;have A:=UL B.p.i.ok.ai.S K 8;have V:Y[a]?=some (.box (wC f 0 0 J) none):=p3.own (by simp;omega) X;obtain⟨d1,d2⟩:=DS.UY (j:=J- (j+1)) (by rw[show J- (j+1)+1=J-j by omega];exact B) (by omega);rw[d2]at v;have v:D XC (.fn (.func 30) [] []) [.ptr M 0,.int .u8 8] ⟨W,ak⟩=some (.ret (.int .i64 0) ⟨Y,F⟩):=v;rw[adO (by omega)]at c3;simp(disch:=omega) only[go_sem,simprocAttr,e3,e9,e11,c3,v];exact⟨Vi,_,C,I,t,r,Z,d1,A,V⟩
     ·obtain rfl:j=J:=by omega
      rw[show j-j=0 by omega]at B;have c2:=λlo=>UZ s B.p.i.ok.ai.P hQ lo
      rw[aec (show j-j=0 by omega)]at c3;rw[amp B.p U.1 (by rw[B.quiet];rfl)]at c2;obtain⟨cr,v,C,I,t,r,Y,F,rfl,Z,p3,p4⟩:=Gq Gt s B.p.i (by omega) 8 (by omega) ak;rw[B.empty]at v;have v:D XC (.fn (.func 30) [] []) [.ptr M 0,.int .u8 8] ⟨W,ak⟩=some (.ret (.int .i64 10) ⟨Y,F⟩):=v;obtain⟨H7,Wp⟩:=hw Y F;simp(disch:=omega) only[go_sem,simprocAttr,e3,c3,c2,v,Wp];exact Q H7
theorem aA4: ∃E,D XC (.fn (.func 7) [] []) [.agg (dX np pv aX)] ⟨[],none⟩=some (.ret (.bool true) E):=by
 obtain⟨b,a,E,rfl⟩:=aAX h [] none
 grind
end
end
set_option maxHeartbeats 1000000 in
set_option maxRecDepth 100000 in
def aA5(n:Nat)(f:0<n)(d:n<=1024)(w:World):
  Calls Tryz.prog 192 #[.slice none 0 0,.int .i64 n] w λe w'=> ∃cs:Array Value,e= .returned (.slice (some ⟨w.heap.size,0,none⟩) 0 (grownCap w n 0 fb))/\w'=w.drew.alloc (.cells cs fb)/\cs.size=grownCap w n 0 fb*2:=by
 go_enter Tryz.func192,Tryz.ntmps192
 have c:Tryz.t100.bytes=16:=by kernel_rfl
 have b:Builtin.nextslicecap n 0=n:=by unfold Builtin.nextslicecap;simp;omega
 go_wp2
 all_goals first
  | (exfalso;simp only[c,b]at*;omega)
  | (go_ret;refine⟨rfl,_,rfl,?_⟩;have a:=azI w n 0 fb;unfold grownCap fb at a⊢;simp only[aB1,aBX,aA1,afx,anD];generalize(Question.appendCap n 0 _).cut _=q at*;omega)
set_option maxHeartbeats 1000000 in
set_option maxRecDepth 100000 in
def aA6(w:World):
  Calls Tryz.prog 192 #[.slice none 0 0,.int .i64 0] w λe w'=>e= .returned (.slice none 0 0)/\w'=w:=by
 go_enter Tryz.func192,Tryz.ntmps192
 go_wp2
 all_goals(go_ret;exact⟨rfl,rfl⟩)
def aA7{f:Nat}{fn:Func}(d:Tryz.prog.funcs[f]?=some fn)(g:fn.body.isSome=true)(a: (fn.name== "runtime.NumGoroutine")=false)(args:Array Value)(w:World):
  (callFunc f args).run Tryz.prog w= .ok (.enter f args) w:=by
 have b: ¬fn.name= "runtime.NumGoroutine" :=by grind
 obtain⟨c,e⟩:=aqD.1 g;simp[callFunc,aqa,d,b,e]
def aA8(B:Nat)(b:World):gP Tryz.prog B b 192 Ct:=by
 intro args E s h G w a hw i;rw[aA7 (f:=192) (fn:=Tryz.f192) Tryz.func192 (by rfl) (by rfl)];show CallsIn (W none) 0 Tryz.prog _ a w _;rw[anX];refine callsIn_wide.2 ?_;unfold Ct at h;split at h
 ·rename_i n;simp only[aF]at i;obtain⟨v0,q,r,rfl,v1,p,rfl,rfl,rfl⟩:=i;obtain rfl:a= #[.slice none 0 0,.int .i64 n]:=by grind
  split at h
  ·rename_i g;subst g;cases h;refine(aA6 w).mono ?_;rintro e w' ⟨rfl,rfl⟩;exact⟨G,G.le_refl,hw,rfl,.refl _⟩
  ·split at h
   ·rename_i g;obtain⟨k,rfl⟩: ∃k:Nat,n=k:=⟨n.toNat,by omega⟩;cases h;refine(aA5 k (by omega) (by omega) w).mono ?_;rintro e w' ⟨cs,rfl,rfl,d⟩;obtain⟨m,o,v2,e1,g1,g2,l,j⟩:=GU hw (sz:=2) (af:=[]) (c:=cs) (vs:=[]) (post:=cs.toList) (w':=w.drew) fb rfl (λel h=>by cases h) rfl (λv h=>by cases h) d (aee _) 0 rfl rfl hw.drew;cases e1;exact⟨m,g1,g2,l,j⟩
   ·cases h
 grind
end Go.Proofs.YteplichagkpciaaGreatDoor
