/- A part. -/
import Derived.Test.YtcdeobefbpnfeaaGreatDoorM3
import Derived.KernelRfl
import Derived.Test.YtcdeobefbpnfeaaGreatDoorProg
import Derived.WalkKit
import Derived.Lib.AppendZerosOnto
set_option linter.all false
set_option maxRecDepth 10000
set_option maxHeartbeats 1000000
namespace Go.Proofs.YtcdeobefbpnfeaaGreatDoor
open Go Go.Den Go.RowKit
variable{l:List aD}{n t aa i M p q j k sz:Nat}{x y:aC}{a:aC×bG}{c:cy}{m:aW}{qv ev pv kv v:AV}{aE aO:Nat->AV}{lo:oN}{aF:List lB}{af:List lA}{α:Type}{W0:List ae}
def anb:=@List.countP_le_length
def ax2:=@List.any_eq_true
def azv:=@Bool.or_eq_false_iff
def az2:=@decide_eq_true_iff
def aAD:=@List.any_eq_false
def aAG:=@List.all_eq_false
structure RO(x:aC)(a:aC×bG):Prop where
 s:br a.1.s
 back:a.1.back=x.back
 w:a.2.w<4294967296
 v:a.2.v<18446744073709551616
def ax8{r:ds}(h:gj r)(d:n<=2048)(b: ∀x∈l,1<=x.2/\x.1+x.2<=64)(c:aL l<=64):gj {r with runs:=l,len:=n}:=⟨h.up,h.dG,d,h.cells,b,c⟩
theorem VB{b:Bool}{e:Nat}{u:Unit}(h:ask b e= .ok u):b=true:=by
 unfold ask at h;grind
theorem ax9{r:aD}(h:qd (l++[r]) n=true):1<=r.2/\r.1+r.2<=64:=by
 unfold qd at h;rw[Mc]at h;simp only[ahV]at h;cases hm:mN [] l with
 |none=>grind
 |some m=>
  rw[hm]at h;unfold mN at h;cases b:iW m r with
  |none=>grind
  |some a=>
   unfold iW at b;split at b
   ·rename_i c;unfold lq at c
    grind
   grind
def Na{h:Nat}(b:br x.s)(c:h<4294967296)(e:nC x h t= .ok y):br y.s/\y.back=x.back:=by
 obtain⟨_,_,e⟩:=bu e;cases e;exact⟨b.vP (b.O.iW c),rfl⟩
def VC{h:Nat}{r:ds}(b:br x.s)(c:gj r)(e:oK x h r= .ok y):br y.s/\y.back=x.back:=by
 obtain⟨_,_,e⟩:=bu e;cases e;exact⟨b.vO (b.eB.set c),rfl⟩
def VD{h:Nat}(b:br x.s)(e:xh x h= .ok y):br y.s/\y.back=x.back:=by
 obtain⟨_,_,e⟩:=bu e;cases e;exact⟨b.vO (b.eB.cut h),rfl⟩
section
variable{x:aC}(hx:m0 x){a:aC×bG}
include hx
theorem aya(h:xi x= .ok a):RO x a:=by
 unfold xi at h;have b: (iB x.s.T x.c.r (min x.c.a 65)).2.1<4294967296:=ajy hx.s.T.b;have c:br (x.t (iB x.s.T x.c.r (min x.c.a 65)).1).s:=hx.s.vO (hx.s.eB.new _ _ hx.c.r);by_cases d:x.c.r=0
 ·simp only[d,ne_eq,not_true,ajc,ahJ]at h;obtain⟨_,_,h⟩:=bu h;obtain⟨y,e,h⟩:=bu h;cases h;rw[d]at b c;obtain⟨g,f⟩:=Na c b e;exact⟨g,f,b,by show 0<18446744073709551616;omega⟩
 ·simp only[d,ne_eq,not_false_eq_true,ajc,ahJ]at h;obtain⟨_,_,h⟩:=bu h;obtain⟨_,_,h⟩:=bu h;obtain⟨y,e,h⟩:=bu h;cases e;cases h;exact⟨c,rfl,b,by show 0<18446744073709551616;omega⟩
theorem al2{w:Nat}(h:vz x w= .ok a):RO x a/\a.2=bX:=by
 obtain⟨_,_,h⟩:=bu h;obtain⟨_,_,h⟩:=bu h;obtain⟨_,_,h⟩:=bu h;obtain⟨_,_,h⟩:=bu h;cases h;exact⟨⟨hx.s,rfl,by show 0<4294967296;omega,by show 0<18446744073709551616;omega⟩,rfl⟩
theorem ayb(h:Cg x= .ok a):RO x a:=by
 obtain⟨_,_,h⟩:=bu h;obtain⟨_,_,h⟩:=bu h;obtain⟨y,e,h⟩:=bu h;obtain⟨z,g,h⟩:=bu h;cases h;obtain⟨f,d⟩:=VD hx.s e;obtain⟨c,b⟩:=Na f hx.c.r g;exact⟨c,b.trans d,by show 0<4294967296;omega,by show 0<18446744073709551616;omega⟩
theorem ayc(h:Ch x= .ok a):RO x a:=by
 obtain⟨_,_,h⟩:=bu h;obtain⟨_,_,h⟩:=bu h;obtain⟨_,_,h⟩:=bu h;cases h;exact⟨hx.s.vO (hx.s.eB.auZ _ _ hx.c.s),rfl,by show 0<4294967296;omega,by show 0<18446744073709551616;omega⟩
theorem ayd(h:Ci x= .ok a):RO x a:=by
 obtain⟨_,_,h⟩:=bu h;obtain⟨y,e,h⟩:=bu h;obtain⟨_,_,h⟩:=bu h;cases h;obtain⟨b,c⟩:=VD hx.s e;exact⟨b.vP (b.O.freeze hx.c.r),c,by show 0<4294967296;omega,by show 0<18446744073709551616;omega⟩
theorem aye(h:zP x= .ok a):RO x a:=by
 obtain⟨_,_,h⟩:=bu h;obtain⟨_,_,h⟩:=bu h;obtain⟨_,_,h⟩:=bu h;cases h;exact⟨hx.s.vP (hx.s.O.held hx.c.r),rfl,by show 0<4294967296;omega,by show 0<18446744073709551616;omega⟩
theorem ayf(b: ∀t,(lu x.s.K t).2.1<4294967296)(h:vA x= .ok a):RO x a:=by
 unfold vA at h;obtain⟨_,_,h⟩:=bu h;obtain⟨_,_,h⟩:=bu h;obtain⟨_,_,h⟩:=bu h
 try rfl
 have d:=hx.t;have c:uj ⟨x.c.r,x.aa % 256,x.c.a % 256,decide (x.c.b=1),x.c.s⟩:=⟨hx.c.r,aoo _ (by omega),aoo _ (by omega),hx.c.s⟩;split at h
 ·obtain⟨_,_,h⟩:=bu h;obtain⟨_,_,h⟩:=bu h;cases h;exact⟨hx.s.CN (hx.s.tok.ajr c),rfl,b _,by show 0<18446744073709551616;omega⟩
 ·obtain⟨_,_,h⟩:=bu h;obtain⟨_,_,h⟩:=bu h;obtain⟨_,_,h⟩:=bu h;cases h;exact⟨hx.s.CN (hx.s.tok.ajr c),rfl,b _,by show 0<18446744073709551616;omega⟩
theorem ayg(h:Ck x= .ok a):RO x a:=by
 obtain⟨_,_,h⟩:=bu h;obtain⟨_,_,h⟩:=bu h;cases h;exact⟨hx.s.CN (hx.s.tok.ret _),rfl,by show 0<4294967296;omega,by show 0<18446744073709551616;omega⟩
theorem ayh(h:Cl x= .ok a):RO x a:=by
 obtain⟨_,_,h⟩:=bu h;cases h;exact⟨hx.s.CO (hx.s.bx _).close,rfl,by show 0<4294967296;omega,by show 0<18446744073709551616;omega⟩
theorem ayi(h:vB x= .ok a):RO x a:=by
 obtain⟨_,_,h⟩:=bu h;cases h;exact⟨hx.s.Uy,rfl,by show 0<4294967296;omega,by show 0<18446744073709551616;omega⟩
theorem ayj(h:sZ x= .ok a):RO x a:=by
 unfold sZ at h;obtain⟨c,hm⟩:=(hx.s.bx x.aa).take;have b:br (x.bx x.aa (mQ (x.s.c8 x.aa)).1).s:=hx.s.CO c
 try dsimp only at h
 obtain⟨_,_,h⟩:=bu h;split at h
 ·obtain⟨y,e,h⟩:=bu h;cases h;obtain⟨f,d⟩:=Na b hm.aQ e;exact⟨f,d,hm.aQ,hm.word⟩
 ·obtain⟨y,e,h⟩:=bu h;cases e;cases h;exact⟨b,rfl,hm.aQ,hm.word⟩
theorem ayk(e:x.run.1<=64/\x.run.2<=64)(h:mT x= .ok a):RO x a:=by
 unfold mT at h
 try dsimp only at h
 have d:=hx.s.T.get x.c.r;cases m:qg (min x.c.a 129) (min x.c.b 9)with
 |none=>rw[m]at h;cases h
 |some n=>
  rw[m]at h;obtain⟨_,e1,h⟩:=bu h;cases e1;obtain⟨_,_,h⟩:=bu h;obtain⟨_,_,h⟩:=bu h;split at h
  ·rename_i k u;obtain⟨z,l,h⟩:=bu h;cases h;have b:k+min x.c.a 129<=2048:=by
    have:=CP u;have:=d.aL;omega
   obtain⟨j,i⟩:=VC (r:={(aM x.s.T x.c.r).1 with len:=k+min x.c.a 129}) hx.s ⟨d.up,d.dG,b,d.cells,d.runs,d.aL⟩ l;exact⟨j,i,by show 0<4294967296;omega,by show k<18446744073709551616;omega⟩
  ·obtain⟨_,g,h⟩:=bu h;have g:=VB g
   try dsimp only at h
   split at h
   ·cases h;exact⟨hx.s,rfl,by show 0<4294967296;omega,by show 0<18446744073709551616;omega⟩
   ·obtain⟨_,hm,h⟩:=bu h;have hm:=VB hm;obtain⟨z,l,h⟩:=bu h;cases h;simp only[alR]at g;simp only[ahV,alR]at hm;have t:=ajz (aM x.s.T x.c.r).1.runs x.run;have o:=d.dG;have p:=d.aL;have f:1<=x.run.2/\x.run.1+x.run.2<=64:=ax9 hm.2;have b: (match hZ ((aM x.s.T x.c.r).1.runs++[x.run]) (aL (aM x.s.T x.c.r).1.runs*32) (min x.c.a 129) (min x.c.b 9)with|some a=>a+min x.c.a 129|none=>aL (aM x.s.T x.c.r).1.runs*32)<=2048:=by
     split
     ·rename_i q;exact agD (CP q) (by omega)
     ·exact agD (amE 32 (show _<=64 by omega)) (by decide)
    obtain⟨j,i⟩:=VC (x:={s:=x.s,aa:=x.aa,c:=x.c,run:=x.run,mR:=n,asks:=x.asks,back:=x.back}) hx.s (ax8 d b (λr e=>by
     rcases ae2.1 e with e|e
     ·exact d.runs r e
     ·rw[ae5.1 e];exact f) (by omega)) l
    refine⟨j,i,by show 0<4294967296;omega,?_⟩;show(hZ ((aM x.s.T x.c.r).1.runs++[x.run]) (aL (aM x.s.T x.c.r).1.runs*32) (min x.c.a 129) (min x.c.b 9)).getD 0<_;cases q:hZ ((aM x.s.T x.c.r).1.runs++[x.run]) (aL (aM x.s.T x.c.r).1.runs*32) (min x.c.a 129) (min x.c.b 9)with
    |none=>show 0<_;omega
    |some k=>have:=CP q;show k<_;omega
theorem ayl(h:s6 x= .ok a):RO x a:=by
 unfold s6 at h;obtain⟨_,_,h⟩:=bu h;have key:dV (nA x.s.T x.c.r (min x.c.a 8) x.c.s (decide ((bP x.s.O x.s.T x.c.s).kind=3))).1:=by
  rw[aji];split
  ·exact hx.s.eB.set ((hx.s.T.get x.c.r).setCells λi=>by
    unfold au;split
    ·exact hx.c.s
    ·exact(hx.s.T.get x.c.r).cells i)
  ·exact hx.s.eB
 try rfl
 split at h
 ·obtain⟨_,_,h⟩:=bu h
  try rfl
  obtain⟨_,_,h⟩:=bu h;cases h;exact⟨hx.s.vO key,rfl,by show 0<4294967296;omega,by show 0<18446744073709551616;omega⟩
 ·try dsimp only at h
  obtain⟨_,_,h⟩:=bu h;cases h;exact⟨hx.s.vO key,rfl,by show 0<4294967296;omega,by show 0<18446744073709551616;omega⟩
theorem aym(h:Cm x= .ok a):RO x a:=by
 obtain⟨_,_,h⟩:=bu h;obtain⟨_,_,h⟩:=bu h;cases h;refine⟨hx.s,rfl,?_,by show 0<18446744073709551616;omega⟩;unfold sY;split
 ·simp
 ·split
  ·simp
  ·dsimp only;split
   ·simp
   ·split
    ·simp
    ·exact(hx.s.T.get x.c.r).cells _
theorem ayn(h:rn x= .ok a):RO x a:=by
 unfold rn at h;obtain⟨_,_,h⟩:=bu h;obtain⟨_,_,h⟩:=bu h
 try dsimp only at h
 have j:=hx.t;have hm: ∀b,vK ⟨x.aa % 256,x.c.v,x.c.r,b⟩:=λb=>⟨by grind,hx.c.v,hx.c.r⟩
 have fin: ∀ (y:aC) (b:Bool),br y.s->y.back=x.back->(cD (oJ (y.s.c8 x.c.a) ⟨x.aa % 256,x.c.v,x.c.r,b⟩).2>>=λ_=>(Pure.pure (y.bx x.c.a (oJ (y.s.c8 x.c.a) ⟨x.aa % 256,x.c.v,x.c.r,b⟩).1,bX):R (aC×bG)))= .ok a->RO x a:=by
  intro y b d g h;obtain⟨_,_,h⟩:=bu h;cases h;exact⟨d.CO ((d.bx _).put (hm b)),g,by show 0<4294967296;omega,by show 0<18446744073709551616;omega⟩
 split at h
 ·obtain⟨_,_,h⟩:=bu h
  try dsimp only at h
  obtain⟨y,e,h⟩:=bu h;cases e;refine fin _ _ ?_ ?_ h
  ·split
   ·exact hx.s.vP (hx.s.O.held hx.c.r)
   ·exact hx.s
  ·split<;>rfl
 ·split at h
  ·obtain⟨_,_,h⟩:=bu h;obtain⟨y,e,h⟩:=bu h;obtain⟨f,i⟩:=VD hx.s e
   try dsimp only at h
   obtain⟨_,_,h⟩:=bu h;obtain⟨z,c,h⟩:=bu h;cases c;exact fin (y.o (xe y.s.O y.s.T x.c.r).1) _ (f.vP (f.O.fly hx.c.r)) i h
  ·obtain⟨z,c,h⟩:=bu h;cases c;exact fin _ _ hx.s rfl h
end
structure GI(y:aC):Prop where
 s:br y.s
 fg:Go.Proofs.YtcdeobefbpnfeaaGreatDoor.fg y<=2048
 runs: ∀r∈y.back,r.1<=64/\r.2<=64
def GI.len(h:GI y):y.back.length<=4096:=by have:=h.fg;unfold Go.Proofs.YtcdeobefbpnfeaaGreatDoor.fg at this;omega
theorem GI.set{z:aC}(h:GI y)(b:br z.s)(c:z.back=y.back)(d:z.s.T=y.s.T):GI z:=
 ⟨b,by have:=h.fg;unfold Go.Proofs.YtcdeobefbpnfeaaGreatDoor.fg at*;grind,by rw[c];exact h.runs⟩
theorem al3: ∀ (l:lN) (y:aC),br y.s->(∀r∈y.back,r.1<=64/\r.2<=64)-> ∀r∈(l.foldl jk y).back,r.1<=64/\r.2<=64
 | [],_,_,h=>h
 |a::l,y,c,h=>al3 l (jk y a) (UD [a] y c) λr b=>by
  rcases ae2.1 (show r∈y.back++(aM y.s.T a).1.runs from b)with b|b
  ·grind
  ·have:=(c.T.get a).runs r b;omega
def GI.gone(h:GI y)(a:Nat):GI (gU y a):=⟨UJ h.s a,agD (UH h.s a) h.fg,al3 _ y h.s h.runs⟩
def GI.kN{z:aC}{a:Nat}(h:GI y)(c:a<4294967296)(b:lD y a aa= .ok z):GI z:=by
 obtain⟨_,_,b⟩:=bu b;have d:GI (y.o (dH y.s.O y.s.T a aa false).1):=h.set (h.s.vP (h.s.O.held c)) rfl rfl;cases b;split
 ·exact d.gone a
 omega
theorem GI.foldlM{β:Type}{P:β->Prop}{f:aC->β->R aC}(d: ∀y b z,GI y->P b->f y b= .ok z->GI z): ∀ (l:List β) (y z:aC),(∀b∈l,P b)->GI y->l.foldlM f y= .ok z->GI z
 | [],y,z,_,h,e=>by cases e;exact h
 |b::l,y,z,g,h,e=>by
  obtain⟨w,e1,j⟩:=bu (show(f y b>>=λw=>l.foldlM f w)= .ok z from by grind);exact GI.foldlM d l w z (λc i=>g c (agE _ i)) (d y b w h (g b (alc ..)) e1) j
theorem GI.foldl{β:Type}{f:aC->β->aC}(c: ∀y b,GI y->GI (f y b)): ∀ (l:List β) (y:aC),GI y->GI (l.foldl f y)
 | [],_,h=>h
 |b::l,y,h=>GI.foldl c l (f y b) (c y b h)
def GI.dies(h:GI x)(e:qh x aa= .ok y):GI y:=by
 rw[ajH]at e;obtain⟨w,e1,g⟩:=bu e;have q:GI (vT x aa):=h.set ((h.s.CO jq.gone).Uy) rfl rfl;have p:GI w:=GI.foldlM (P:=vK) (λy m z b hm e=>by
  unfold CR at e;split at e
  ·cases e;exact b
  ·split at e
   ·obtain⟨k,j⟩:=Na b.s hm.aQ e;obtain⟨_,_,e⟩:=bu e;cases e;exact b.set k j rfl
   ·cases e;exact b.gone _) _ _ _ (λm hm=>by
    obtain⟨i,_,rfl⟩:=ago.1 hm;exact(h.s.bx aa).ring _) q e1
 unfold UL at g;have o:=GI.foldl (f:=λy h=>y.k (mP y.s.K h).1) (λy a b=>b.set (b.s.CN (b.s.tok.ret a)) rfl rfl) (sX w.s.K aa) w p;have d:=λl=>GI.foldl (f:=gU) (λy a b=>b.gone a) l _ o
 refine GI.foldlM (P:=λa=>a<4294967296) (λy a z b c e=>b.kN c e) _ _ _ (λa c=>?_) (d _) g;have n:=(agy.1 c).1;exact fF ((gi (d _).s.T.b).1 n)
theorem GI.start{s:bF}(d:br s)(aa:Nat)(c:cy)(run:aD)(n:Nat)(b:Bool):GI ⟨s,aa,c,run,n,b,[]⟩:=by
 refine⟨d,?_,λr e=>by grind⟩;have:=lC s.T.b;show([]:List aD).length+64*(bo s.T.b).length<=2048
 grind
structure RD(c:cy)(a:aC×bG):Prop where
 s:br a.1.s
 len:a.1.back.length<=4096
 runs: ∀r∈a.1.back,r.1<=64/\r.2<=64
 v:c.op=3->a.2.v=0
 w:a.2.w<4294967296
 v2:a.2.v<18446744073709551616
def RO.d(h:RO x a)(b:GI x)(d:c.op=3->a.2.v=0):RD c a:=
 ⟨h.s,by rw[h.back];exact b.len,by rw[h.back];exact b.runs,d,h.w,h.v⟩
def GI.d(h:GI y):RD c (y,bX):=⟨h.s,h.len,h.runs,λ_=>rfl,by show 0<4294967296;omega,by show 0<18446744073709551616;omega⟩
theorem ayo(hx:m0 x)(d:GI x)(h:zL x= .ok a):RD x.c a:=by
 unfold zL at h;obtain⟨_,_,h⟩:=bu h;obtain⟨_,_,h⟩:=bu h
 try rfl
 obtain⟨y,e,h⟩:=bu h;cases h;have b:=hx.s.T.get x.c.r;have c:gj {dR with dG:=(aM x.s.T x.c.r).1.dG}:=⟨by simp[dR],b.dG,by simp[dR],by simp[dR],by simp[dR],by simp[dR,aL]⟩;obtain⟨g,f⟩:=VC (x:={x with back:=x.back++(aM x.s.T x.c.r).1.runs}) hx.s c e;have i: (aM x.s.T x.c.r).1.runs.length<=64:=agD (T6 λr h=>(b.runs r h).1) b.aL;refine⟨g,?_,?_,λ_=>rfl,by show 0<4294967296;omega,by show 0<18446744073709551616;omega⟩
 ·rw[f];have:=d.fg;unfold fg at this
  grind
 ·rw[f];intro r hm;rcases ae2.1 (show r∈x.back++(aM x.s.T x.c.r).1.runs from hm)with hm|hm
  ·exact d.runs r hm
  ·have:=b.runs r hm;omega
def ayp(b:GI x)(h:zM x= .ok a):RD x.c a:=by
 obtain⟨_,_,h⟩:=bu h;cases h;exact(b.gone _).d
def ayq(hx:m0 x)(b:GI x)(h:Cj x= .ok a):RD x.c a:=by
 obtain⟨_,_,h⟩:=bu h;obtain⟨y,e,h⟩:=bu h;cases h;exact(b.kN hx.c.r e).d
def al4(b:GI x)(h: (qh x t>>=λy=>.ok (y,bX))= .ok a):RD x.c a:=by
 obtain⟨y,e,h⟩:=bu h;cases h;exact(b.dies e).d
theorem ayr{k:bq}(c:hY k.b){x:Tok}: (lu k x).2.1<4294967296:=by
 unfold lu;split
 ·simp
 ·split
  ·rename_i i b;split
   ·exact F7 (sW b).1 (c i).1
   grind
  grind
def ays(hx:m0 x)(b:GI x)(c:x.run.1<=64/\x.run.2<=64)(h:mg x= .ok a):RD x.c a:=by
 unfold mg at h;split at h
 all_goals try(rename_i ho;first
  |exact(aya hx h).d b (λq=>absurd (ho ▸ q) (by decide))
  |exact(ayk hx c h).d b (λq=>absurd (ho ▸ q) (by decide))
  |exact(al2 hx h).1.d b (λq=>ahX bG.v (al2 hx h).2)
  |exact ayo hx b h
  |exact ayp b h
  |exact ayq hx b h
  |exact al4 b h
  |exact(ayb hx h).d b (λq=>absurd (ho ▸ q) (by decide))
  |exact(ayc hx h).d b (λq=>absurd (ho ▸ q) (by decide))
  |exact(ayd hx h).d b (λq=>absurd (ho ▸ q) (by decide))
  |exact(aye hx h).d b (λq=>absurd (ho ▸ q) (by decide))
  |exact(ayf hx (λt=>ayr hx.s.K.b) h).d b (λq=>absurd (ho ▸ q) (by decide))
  |exact(ayg hx h).d b (λq=>absurd (ho ▸ q) (by decide))
  |exact(ayn hx h).d b (λq=>absurd (ho ▸ q) (by decide))
  |exact(ayj hx h).d b (λq=>absurd (ho ▸ q) (by decide))
  |exact(ayh hx h).d b (λq=>absurd (ho ▸ q) (by decide))
  |exact(ayl hx h).d b (λq=>absurd (ho ▸ q) (by decide))
  |exact(aym hx h).d b (λq=>absurd (ho ▸ q) (by decide))
  |exact(ayi hx h).d b (λq=>absurd (ho ▸ q) (by decide)))
 ·unfold Cn at h;obtain⟨_,_,h⟩:=bu h;exact al4 b h
 ·cases h
theorem al5{s:bF}(d:br s)(j:j8 c){run:aD}(f:run.1<=64/\run.2<=64):rP (dX s aa c run) c/\ (dX s aa c run).2.1.v<18446744073709551616:=by
 rw[av9];cases h:jI ⟨s,aa,c,run,0,false,[]⟩with
 |error e=>
  have:=(ajW h).2;exact⟨⟨d,by simp,λr f=>(by grind),λ_=>by show 0<18446744073709551616;omega,by show 0<4294967296;omega,by grind⟩,by show 0<18446744073709551616;omega⟩
 |ok a=>
  obtain⟨y,r⟩:=a;have he:=UO h;obtain⟨_,g,h⟩:=bu (show(ask _ _>>=λ_=>mg _)=_ from h);have g:=VB g;have i:aa<8:=by grind
  have b:=ays (x:=⟨s,aa,c,run,0,false,[]⟩) ⟨d,i,j,by grind,by grind⟩ (GI.start d ..) f h;exact⟨⟨b.s,b.len,b.runs,λq=>by rw[show r.v=0 from b.v q];decide,b.w,by grind⟩,b.v2⟩
def VE{s:bF}(b:br s)(e:j8 c){run:aD}(d:run.1<=64/\run.2<=64):rP (dX s aa c run) c:=(al5 b e d).1
structure SK(s:bR)(c0:cy)(n:Nat):Prop where
 S:br s.x.S
 P:gb s.x.P
 M: ∀i,iH (s.x.M i)
 Q: ∀k∈s.x.Q,k<2147483648
 len:s.x.Q.length<=n
 c:fY s.c
 run:s.c.run.1<=64/\s.c.run.2<=64
 cc:s.c.c=c0
 w:s.r.w<4294967296
 e:s.r.e<4294967296
 v:s.r.v<18446744073709551616
theorem al6: ∀ (l:lN) (f g:Nat->Nat) (P:cU),gb P->(∀i,g i<256)->gb (l.foldl (λP i=>vC P (f i) (g i)) P)
 | [],_,_,_,a,_=>a
 |i::l,f,g,P,a,b=>al6 l f g _ (a.write _ _ (b i)) b
section
variable{s:bR}{c0:cy}{n:Nat}(h:SK s c0 n)
include h
theorem SK.jc:j8 c0:=h.cc ▸ h.c.jc
theorem SK.ends{r:bG}(b:r.w<4294967296)(e:r.e<4294967296)(c:r.v<18446744073709551616):SK (rB s r) c0 (n+64):=by
 refine⟨h.S,h.P,UT h.M _,λk a=>?_,?_,h.c,h.run,h.cc,b,e,c⟩
 ·rcases ae2.1 (show k∈s.x.Q++gl s.c.run from a)with a|a
  ·exact h.Q k a
  ·obtain⟨i,d,rfl⟩:=ago.1 a;have:=al1.1 d;have:=h.run;omega
 ·show(xl _ _).Q.length<=_;rw[alK];have:=h.len;have:=h.run;omega
theorem SK.check(b: ∀a∈s8 s.x.S c0,a<4294967296):SK (lE s).1 c0 (n+64):=by
 have c:=h.len;unfold lE;rw[h.cc];split
 ·exact⟨h.S,h.P,h.M,h.Q,by grind,h.c,h.run,h.cc,h.w,h.e,h.v⟩
 split
 ·exact⟨h.S,h.P,h.M,h.Q,by grind,h.c,h.run,h.cc,h.w,h.e,h.v⟩
 split
 ·refine h.ends (by show 0<_;omega) ?_ (by show 0<_;omega);show oL s.x.S s.c.aa c0<_;unfold oL;split
  ·omega
  ·exact(VE h.S h.jc (run:=(0,0)) ⟨by simp,by simp⟩).e
 ·exact⟨h.S,h.P,h.M,h.Q,by grind,⟨h.c.aa,h.c.jc,b,h.c.run,h.c.fo⟩,h.run,h.cc,h.w,h.e,h.v⟩
theorem SK.marks:SK (lF s).1 c0 n:=by
 unfold lF;split
 ·exact h
 ·rename_i a l c;refine⟨h.S,h.P,awr h.M _,h.Q,h.len,?_,?_,?_,h.w,h.e,h.v⟩
  ·show fY (if(jn s.x.M (aR a) s.c.aa).2 then{s.c with aY:=l}else s.c);split
   ·exact⟨h.c.aa,h.c.jc,λb d=>h.c.aY b (by grind),h.c.run,h.c.fo⟩
   ·exact h.c
  ·show(if(jn s.x.M (aR a) s.c.aa).2 then{s.c with aY:=l}else s.c).run.1<=64/\ (if(jn s.x.M (aR a) s.c.aa).2 then{s.c with aY:=l}else s.c).run.2<=64;split
   ·exact h.run
   ·exact h.run
  ·show(if(jn s.x.M (aR a) s.c.aa).2 then{s.c with aY:=l}else s.c).c=c0;split
   ·exact h.cc
   ·exact h.cc
theorem SK.ayt:SK (lG s).1 c0 (n+64):=by
 have d:=h.len;have c:=akZ s.x.S s.c.aa s.c.c;unfold lG;dsimp only;split
 ·exact⟨h.S,h.P,h.M,h.Q,by grind,h.c,h.run,h.cc,h.w,h.e,h.v⟩
 have a:=h.P.akX (fk s.x.S s.c.aa s.c.c);split
 ·have b:SK {s with x:={s.x with P:=(jJ s.x.P (fk s.x.S s.c.aa s.c.c)).1}} c0 n:=⟨h.S,a,h.M,h.Q,h.len,h.c,h.run,h.cc,h.w,h.e,h.v⟩;refine b.ends (by show 0<_;omega) ?_ (by show 0<_;omega);unfold jJ
  grind
 ·rename_i he;have:=aw1 h.P _ (by omega) (Decidable.not_not.1 he);exact⟨h.S,a,h.M,h.Q,by grind,⟨h.c.aa,h.c.jc,h.c.aY,⟨by grind,by show fk _ _ _<_;omega⟩,h.c.fo⟩,⟨by show(jJ _ _).2.1<=_;omega,by show fk _ _ _<=_;omega⟩,h.cc,h.w,h.e,h.v⟩
theorem SK.ayu:SK (mh s).1 c0 n:=by
 unfold mh;split
 ·exact h
 ·have:=h.run;exact⟨h.S,h.P.clear _,h.M,h.Q,h.len,⟨h.c.aa,h.c.jc,h.c.aY,h.c.run,by grind⟩,h.run,h.cc,h.w,h.e,h.v⟩
theorem SK.eZ:SK (Go.Proofs.YtcdeobefbpnfeaaGreatDoor.eZ s) c0 (n+64):=by
 have c:=h.len;unfold Go.Proofs.YtcdeobefbpnfeaaGreatDoor.eZ;split
 ·have b:=h.run;refine⟨h.S,h.P,h.M,λk a=>?_,?_,⟨h.c.aa,h.c.jc,h.c.aY,⟨by simp,by simp⟩,h.c.fo⟩,⟨by simp,by simp⟩,h.cc,h.w,h.e,h.v⟩
  ·rcases ae2.1 (show k∈s.x.Q++gl s.c.run from a)with a|a
   ·exact h.Q k a
   ·obtain⟨i,d,rfl⟩:=ago.1 a
    grind
  ·show(s.x.Q++gl s.c.run).length<=_;rw[aeZ];have: (gl s.c.run).length=s.c.run.2:=by simp[gl]
   omega
 ·exact⟨h.S,h.P,h.M,h.Q,by omega,h.c,h.run,h.cc,h.w,h.e,h.v⟩
theorem SK.ayv:SK (vD s) c0 (n+262400):=by
 rw[ald];have a:=h.eZ;generalize Go.Proofs.YtcdeobefbpnfeaaGreatDoor.eZ s=st at a;obtain⟨b,d⟩:=al5 a.S a.jc (aa:=st.c.aa) (run:=st.c.run) a.run;unfold MW;rw[a.cc];dsimp only;split
 ·have:=a.ends b.w b.e d;exact⟨this.S,this.P,this.M,this.Q,by have:=this.len;omega,this.c,this.run,this.cc,this.w,this.e,this.v⟩
 ·have v:=a.len;have q:=b.len;have w:gb (Ao st.x.P c0 (jl st.x.S c0).1):=by
   unfold Ao;split
   ·exact al6 _ _ _ _ a.P λi=>aoo _ (by omega)
   ·exact a.P
  generalize t: ({st.x with S:=(dX st.x.S st.c.aa c0 st.c.run).1,P:=Ao st.x.P c0 (jl st.x.S c0).1}:Core)=X;have e:X.Q=st.x.Q:=by grind
  have j:X.M=st.x.M:=by grind
  have g:gb X.P:=by grind
  have f:br X.S:=by rw[<-t];exact b.S
  obtain⟨o,m,l⟩:=Vh (dX st.x.S st.c.aa c0 st.c.run).2.2 X;have k:=CV (dX st.x.S st.c.aa c0 st.c.run).2.2 X λr p=>(b.runs r p).2
  have u:SK {st with x:=(dX st.x.S st.c.aa c0 st.c.run).2.2.foldl c9 X,c:={st.c with run:=(0,0)}} c0 (n+262336):=
   ⟨o ▸ f,m ▸ g,by rw[show((dX st.x.S st.c.aa c0 st.c.run).2.2.foldl c9 X).M=X.M from l,j];exact a.M,Vi _ X b.runs (by rw[e];exact a.Q),by
     rw[e]at k;exact agD k (by omega),⟨a.c.aa,a.c.jc,a.c.aY,⟨by show 0<_;omega,by show 0<_;omega⟩,a.c.fo⟩,⟨by show 0<=_;omega,by show 0<=_;omega⟩,a.cc,a.w,a.e,a.v⟩
  refine u.ends b.w b.e ?_;show Ap _ _ _ _<_;unfold Ap;split
  ·exact Vd a.P _ _ d _ (ak2 a.S c0).1
  omega
theorem SK.mono{m:Nat}(a:n<=m):SK s c0 m:=⟨h.S,h.P,h.M,h.Q,by have:=h.len;omega,h.c,h.run,h.cc,h.w,h.e,h.v⟩
end
theorem ayw{t:aw}(c:dV t){h a:Nat}(b:a∈under t h):t.az a=true:=by
 unfold under at b;split at b
 ·rename_i d;exact Cf c.ok.b d b
 grind
def ayx{s:bF}(i:br s): ∀a∈s8 s c,a<4294967296:=by
 have g: ∀h,∀a∈oM s h,a<4294967296:=λh a d=>by
  unfold oM at d;split at d
  ·rename_i j;rw[ae5.1 d];exact fF j
  ·cases d
 have e: ∀h,∀a∈under s.T h,a<4294967296:=λh a d=>fF (ayw i.eB d)
 intro a d;unfold s8 at d;split at d
 ·exact g _ a d
 split at d
 ·exact e _ a d
 split at d
 ·split at d
  ·cases d
  ·rename_i f;split at d
   ·exact e _ a d
   ·rcases ae2.1 d with d|d
    ·exact e _ a d
    ·rw[ae5.1 d];refine fF (b:=s.T.b) ?_;simp only[not_or,Bool.not_eq_false]at f;exact f.2
 (repeat' split at d)<;>first|exact g _ a d|exact e _ a d|cases d
def al7{x:Core}{c:Call}(a:ka x)(i:fY c)(g:c.run.1<=64/\c.run.2<=64):SK (gn x c) c.c (x.Q.length+262528):=by
 have j:SK ⟨x,c,bX,false⟩ c.c x.Q.length:=⟨a.S,a.P,a.M,a.Q,ae0 _,i,g,rfl,by show 0<_;omega,by show 0<_;omega,by show 0<_;omega⟩;have f:=j.check (ayx a.S);have e:=f.marks;have d:=e.ayt;have b:=d.ayu;unfold gn;dsimp only;split
 ·exact f.mono (by omega)
 split
 ·exact e.mono (by omega)
 split
 ·exact d.mono (by omega)
 split
 ·exact b.mono (by omega)
 ·exact b.ayv.mono (by omega)
def ayy(h:dh m)(t:Nat): (gn m.ai (m.aB t).c).r.v<18446744073709551616:=(al7 h.ai (h.c t) (h.run t)).v
def al8(h:dh m)(e:m.ai.Q.length<2147483648)(t:Nat):alW m t/\ (xN m t).ai.Q.length<=m.ai.Q.length+262528:=by
 have a:=al7 h.ai (h.c t) (h.run t);have d:SK ⟨m.ai,(m.aB t).c,bX,false⟩ (m.aB t).c.c m.ai.Q.length:=⟨h.ai.S,h.ai.P,h.ai.M,h.ai.Q,ae0 _,h.c t,h.run t,rfl,by show 0<_;omega,by show 0<_;omega,by show 0<_;omega⟩;have b:=d.eZ;have c:=a.len;refine⟨⟨?_,⟨⟨a.S,a.P,a.M,a.Q,by show(gn _ _).x.Q.length<_;omega⟩,λj=>?_,λj=>?_,λj=>?_,h.now,h.ev,λj=>?_⟩,⟨a.w,a.e⟩,?_⟩,c⟩
 ·rw[b.cc];exact VE b.S (h.c t).jc b.run
 ·show lQ (au m.aB t _ j).t;unfold au;split
  ·exact h.t t
  ·exact h.t j
 ·show fY (au m.aB t _ j).c;unfold au;split
  ·exact a.c
  ·exact h.c j
 ·show(au m.aB t _ j).fr<_;unfold au;split
  ·exact h.fr t
  ·exact h.fr j
 ·show(au m.aB t _ j).c.run.1<=64/\ (au m.aB t _ j).c.run.2<=64;unfold au;split
  ·exact a.run
  ·exact h.run j
 ·rw[a.cc];exact(h.c t).jc.op
def ayz{t:Task}(h:lQ t){v:Nat}(a:v<18446744073709551616): ∀j,au t.aY i v j<18446744073709551616:=λj=>by
 unfold au;split
 ·omega
 ·exact h.aY j
def ayA{t:Task}(h:lQ t):lQ (rF t):=by
 unfold rF;split
 ·exact h
 split
 ·exact h
 ·rename_i x c;have e:t.next<t.code.length:=(adN.1 c).1;have f:=h.len;have b:=GS h c;have a: ∀v,v<18446744073709551616->lQ {t with aY:=au t.aY (x.a % 8) v,next:=t.next+1}:=λv d=>
   ⟨h.len,h.ins,by show t.next+1<=64;omega,ayz h d⟩
  dsimp only;split
  ·exact a _ (by have:=b.n;omega)
  split
  ·exact a _ (aoo _ (by decide))
  split
  ·exact a _ (aoo _ (by decide))
  split
  ·exact a _ (aoo _ (by decide))
  split
  ·rename_i i;refine⟨h.len,h.ins,?_,h.aY⟩;show x.n<=64;exact b.j (.inl i)
  split
  ·rename_i g;refine⟨h.len,h.ins,?_,h.aY⟩;have:=b.j (.inr g);show(if _ then x.n else t.next+1)<=64;split
   ·omega
   ·exact agD e f
  ·exact⟨h.len,h.ins,by show t.next+1<=64;omega,h.aY⟩
theorem ayB{t:Task}(h:lQ t){r:bG}(c:r.v<18446744073709551616)(b:r.w<4294967296)(f:r.e<4294967296):lQ (ua t r):=by
 unfold ua;split
 ·exact h
 ·rename_i x a;have d:t.next<t.code.length:=(adN.1 a).1;have e:=h.len;split
  ·refine⟨h.len,h.ins,by grind,λj=>?_⟩;show au (au (au t.aY (x.a % 8) r.v) 4 r.w) 7 r.e j<_;unfold au;split
   ·omega
   ·split
    ·omega
    ·split
     ·omega
     ·exact h.aY j
  omega
structure rR(m:aW):Prop where
 ok:dh m
 q:m.ai.Q.length<=263200*m.now
 e:m.aV.length<=m.now
def dh.C5(h:dh m)(a:n<2147483648):dh {m with now:=n}:=⟨h.ai,h.t,h.c,h.fr,a,h.ev,h.run⟩
theorem dh.ended(h:dh m){c:Call}{run:aD}{r:bG}(b:r.v<18446744073709551616)(a:r.w<4294967296)(d:r.e<4294967296)(e:m.aV.length<2147483647):dh (LR m t c run r):=by
 refine⟨h.ai,λj=>?_,λj=>?_,λj=>?_,h.now,?_,λj=>?_⟩
 ·show lQ (au m.aB t _ j).t;unfold au;split
  ·exact ayB (h.t t) b a d
  ·exact h.t j
 ·show fY (au m.aB t _ j).c;unfold au;split
  ·exact C0
  ·exact h.c j
 ·show(au m.aB t _ j).fr<_;unfold au;split
  ·exact h.fr t
  ·exact h.fr j
 ·show(m.aV++[_]).length<_
  grind
 ·show(au m.aB t _ j).c.run.1<=64/\ (au m.aB t _ j).c.run.2<=64;unfold au;split
  ·exact⟨by show 0<=64;omega,by show 0<=64;omega⟩
  ·exact h.run j
structure GZ(a b:aW):Prop where
 q:b.ai.Q.length<=a.ai.Q.length+262600
 e:b.aV.length<=a.aV.length+1
 n:b.now=a.now
theorem al9(h:dh m)(c:m.ai.Q.length<2147483648)(b:m.aV.length<2147483647)(t:Nat):dh (uc m t)/\GZ m (uc m t):=by
 obtain⟨a,d⟩:=al8 h c t;rw[alO];split
 ·refine⟨a.m'.ended (ayy h t) a.r.1 a.r.2 b,by show(xN m t).ai.Q.length<=_;omega,?_,rfl⟩;show(m.aV++[_]).length<=_
  grind
 ·exact⟨a.m',by omega,by show m.aV.length<=_;omega,rfl⟩
def ama(h:dh m)(c:m.ai.Q.length<2147483648)(b:m.aV.length<2147483647)(d:t<8):dh (vE m t)/\GZ m (vE m t):=by
 unfold vE;dsimp only;split
 ·exact al9 h c b t
 split
 ·obtain⟨e,a⟩:=al9 (m:=M9 m t) (h.wanted d) c b t;exact⟨e,a.q,a.e,a.n⟩
 ·refine⟨⟨h.ai,λj=>?_,λj=>?_,λj=>?_,h.now,h.ev,λj=>?_⟩,by simp,by simp,rfl⟩
  ·show lQ (au m.aB t _ j).t;unfold au;split
   ·exact ayA (h.t t)
   ·exact h.t j
  ·show fY (au m.aB t _ j).c;unfold au;split
   ·exact h.c t
   ·exact h.c j
  ·show(au m.aB t _ j).fr<_;unfold au;split
   ·exact h.fr t
   ·exact h.fr j
  ·show(au m.aB t _ j).c.run.1<=64/\ (au m.aB t _ j).c.run.2<=64;unfold au;split
   ·exact h.run t
   ·exact h.run j
def ayC:j8 fI:=⟨by decide,by decide,by decide,by decide,by decide,by decide⟩
def amb(h:dh m)(t:Nat):rP (dX m.ai.S t fI (0,0)) fI:=VE h.ai.S ayC ⟨by simp,by simp⟩
theorem amc(h:dh m)(g:m.ai.Q.length<2147483648)(f:m.aV.length<2147483647)(t:Nat):dh (Cr m t)/\GZ m (Cr m t):=by
 have b:=amb h t;have d:=CV (dX m.ai.S t fI (0,0)).2.2 m.ai λr c=>(b.runs r c).2
 have e:=b.len;have a:=ka.alb (x:=m.ai) h.ai b.runs (by omega);refine⟨⟨⟨b.S,a.P,a.M,a.Q,a.Ql⟩,h.t,h.c,h.fr,h.now,?_,h.run⟩,?_,?_,rfl⟩
 ·show(m.aV++[_]).length<_
  grind
 ·exact agD d (by omega)
 ·show(m.aV++[_]).length<=_
  grind
def ayD(h:dh m)(a:m.ai.Q.length<1073741824):dh (lH m)/\ (lH m).ai.Q.length<=m.ai.Q.length+512:=by
 obtain⟨c,b⟩:=Vv h a 8 (by omega);exact⟨c,b⟩
theorem amd(m:aW)(i:Nat): (mj m i).aV=m.aV/\ (mj m i).now=m.now:=by unfold mj;grind
theorem Nb(m:aW): ∀k,(iI m k).aV=m.aV/\ (iI m k).now=m.now
 |0=>⟨rfl,rfl⟩
 |k+1=>by rw[M6];exact⟨(amd _ _).1.trans (Nb m k).1,(amd _ _).2.trans (Nb m k).2⟩
theorem ame{x:Core}(h:ka x):ka (jo x).1/\ (jo x).1.Q.length<=x.Q.length:=by
 unfold jo;split
 ·grind
 ·rename_i a l c;exact⟨⟨h.S,h.P.back _,h.M,λk b=>h.Q k (by grind),by have:=h.Ql;grind⟩,by grind⟩
theorem rR.clear{a:aW}(h:rR a)(e:dh m)(b:GZ a {m with now:=a.now})(g:m.now=a.now+1)(i:a.now<=4000):rR (lH m):=by
 have o:m.ai.Q.length<=a.ai.Q.length+262600:=b.q;have n:m.aV.length<=a.aV.length+1:=b.e;have l:=h.q;have k:=h.e;obtain⟨f,j⟩:=ayD e (by omega);obtain⟨d,c⟩:=Nb m 8;have d: (lH m).aV=m.aV:=d;have c: (lH m).now=m.now:=c;exact⟨f,by omega,by grind⟩
theorem ayE(h:rR m)(e:m.now<=4000)(b:Nat):rR (lI m b).1/\ (lI m b).1.now<=m.now+1:=by
 have g:=h.q;have he:=h.e;have c:=(h.ok.C5 (n:=m.now+1) (by omega));have key: ∀m':aW,dh m'->GZ m {m' with now:=m.now}->m'.now=m.now+1->rR (lH m')/\ (lH m').now<=m.now+1:=λm' d a f=>
  ⟨h.clear d a f e,by have: (lH m').now=m'.now:=(Nb m' 8).2;omega⟩
 unfold lI;dsimp only;split
 ·grind
 split
 ·split
  ·obtain⟨d,a⟩:=ame h.ok.ai;exact key _ ⟨d,h.ok.t,h.ok.c,h.ok.fr,by show m.now+1<_;omega,h.ok.ev,h.ok.run⟩ ⟨by show(jo m.ai).1.Q.length<=_;omega,by show m.aV.length<=_;omega,rfl⟩ rfl
  grind
 split
 ·exact⟨h,azV m.now⟩
 split
 ·obtain⟨d,a⟩:=amc c (by show m.ai.Q.length<_;omega) (by show m.aV.length<_;omega) (b % 8);exact key _ d ⟨a.q,a.e,rfl⟩ a.n
 ·obtain⟨d,a⟩:=ama c (by show m.ai.Q.length<_;omega) (by show m.aV.length<_;omega) (aoo b (by decide));exact key _ d ⟨a.q,a.e,rfl⟩ a.n
def bI.C5{H:List ae}(h:bI n M p q m qv ev aE aO H)(k:Nat):
 bI n M p q {m with now:=k} qv ev aE aO (H.set M (.box (cJ {m with now:=k} p aE aO ev) none)):=h.set rfl rfl h.cv h.rv
def ayF{H:List ae}(hD: ∀op,kO op)(d:bI n M p q m qv ev aE aO H)(l:rR m)(hn:m.now<=4000)(b:Nat)(hb:b<256)(lo:oN):
  ∃J,D XC (.fn (.func 35) [] []) [.ptr M 0,.int .u8 b] ⟨H,lo⟩=some J/\gY n M p q H lo (lI m b).1 qv ev (.int .i64 (lI m b).2) J:=by
 refine cA sM λN t=>?_
 have GY:M<N:=by rw[<-t];exact d.lt
 have oU:p<N:=by rw[<-t];exact d.co.lt
 have Vz:=d.co.mp;have hq:=l.q;have he:=l.e;have Y:b % 8<8:=aoo _ (by decide);have e: (b:Int).tmod 8=((b % 8:Nat):Int):=by rw[Int.tmod_eq_emod_of_nonneg (by omega)];omega
 have i:IntKind.i64.wrap ((b % 8:Nat):Int)=((b % 8:Nat):Int):=wrap_i64 (by omega) (by omega);have A:IntKind.i64.wrap ((m.now:Int)+1)=((m.now+1:Nat):Int):=wrap_i64 (by omega) (by omega);have g:=l.ok.C5 (n:=m.now+1) (by omega);have hA:=d.C5 (m.now+1);have hF:=d.fM (.box (cJ {m with now:=m.now+1} p aE aO ev) none);have f:dA EK.ptr (AV.ptr M 0) AV.dy=some false:=rfl;have o:aJ (cJ m p aE aO ev) 193 [.int .i64 ((m.now:Int)+1)]=cJ {m with now:=m.now+1} p aE aO ev:=alG (n:=m.now+1);unfold lI;dsimp only;by_cases k1:8<b/\b<16\/24<=b
 ·rw[aez k1];have g1: (8:Int)<b:=by omega
  by_cases k2:b<16
  ·have g2: (b:Int)<16:=by omega
   simp only[go_sem,simprocAttr,sM,e,i,f,g1,g2];exact gY.fin d t d Fm.refl (fH.no ⟨rfl,rfl⟩) (ae4 _)
  ·have g2: ¬(b:Int)<16:=by omega
   have I: (24:Int)<=b:=by omega
   simp only[go_sem,simprocAttr,sM,e,i,f,g1,g2,I];exact gY.fin d t d Fm.refl (fH.no ⟨rfl,rfl⟩) (ae4 _)
 rw[aeu k1];have I: ¬(24:Int)<=b:=by omega
 have E: ∀ (m':aW) (y C:AV) (nP s:Nat->AV) (W:List ae) (ak:oN),dh m'->m'.ai.Q.length<1073741824->bI n M p q m' y C nP s W->Fm n [M,p,q] H W->fH (y=qv/\C=ev) p ak->
   ∃v w c,D XC (.fn (.func 68) [] []) [.ptr M 0] ⟨W,ak⟩=some (.ret v ⟨w,c⟩)/\gY n M p q H lo (lH m') qv ev (.int .i64 0) (.ret (finish N lo (.int .i64 0) ⟨w,c⟩).1 (finish N lo (.int .i64 0) ⟨w,c⟩).2):=by
  intro m' y C nP s W ak h1 h2 h3 h4 h5;obtain⟨J,G,x,P,u,r,w,c,rfl,F,c3,c4⟩:=axR h3 h1 h2 ak;exact⟨_,w,c,G,gY.fin d t F (h4.trans c3) (h5.step c4 λa b=>⟨b.1.trans a.1,b.2.trans a.2⟩) (ae4 _)⟩
 by_cases k8:b=8
 ·rw[aez k8];have g1: ¬(8:Int)<b:=by omega
  have B: (b:Int)=8:=by omega
  obtain⟨J,Q,x,W,c,rfl,r2,U,r4⟩:=aw0 d.co l.ok.ai none;have k:=d.ai r2 U;obtain⟨T,ro2⟩:=ame l.ok.ai;cases L: (jo m.ai).2 with
  |false=>
   rw[L]at Q;rw[aeu (by decide)];have e1: ({m with ai:=(jo m.ai).1}:aW)=m:=by
    have: (jo m.ai).1=m.ai:=by
     unfold jo at L⊢;split
     ·rfl
     ·rename_i h;rw[h]at L;cases L
    rw[this]
   rw[e1]at k;simp only[go_sem,simprocAttr,sM,f,B,d.box,qy,Q];exact gY.fin d t k (bI.fc U) ((gq.n r4).imp (λq=>⟨q.1,q.2,rfl⟩) id) (ae4 _)
  |true=>
   rw[L]at Q;rw[aez rfl];have M7:=k.C5 (m.now+1);have hF3:=(bI.fc (M:=M) U).trans (k.fM (.box (cJ {{m with ai:=(jo m.ai).1}with now:=m.now+1} p aE aO ev) none));obtain⟨v,w,K,G,F⟩:=E {m with ai:=(jo m.ai).1,now:=m.now+1} _ _ _ _ _ c ⟨T,l.ok.t,l.ok.c,l.ok.fr,by show m.now+1<_;omega,l.ok.ev,l.ok.run⟩ (by show(jo m.ai).1.Q.length<_;omega) M7 hF3 ((gq.n r4).imp (λq=>⟨q.1,q.2,rfl⟩) id);have Au:=k.box;have o:aJ (cJ {m with ai:=(jo m.ai).1} p aE aO ev) 193 [.int .i64 ((m.now:Int)+1)]=cJ {m with ai:=(jo m.ai).1,now:=m.now+1} p aE aO ev:=alG (m:={m with ai:=(jo m.ai).1}) (n:=m.now+1);have Z:=Ar (m:={m with ai:=(jo m.ai).1}) (p:=p) (aE:=aE) (aO:=aO) (ev:=ev);simp only[go_sem,simprocAttr,sM,f,B,d.box,qy,Q,Au,Z,A,o,oY,G];exact F
 rw[aeu k8];have B: ¬(b:Int)=8:=by omega
 have j:=λlo=>M5 d (b % 8) lo
 cases O:j0 m (b % 8)with
 |false=>
  rw[O]at j;rw[aez rfl];by_cases z:16<=b
  ·have g1: (8:Int)<b:=by omega
   have g2: ¬(b:Int)<16:=by omega
   simp only[go_sem,simprocAttr,sM,e,i,f,g1,g2,I,B,j];exact gY.fin d t d Fm.refl (fH.no ⟨rfl,rfl⟩) (ae4 _)
  ·have g1: ¬(8:Int)<b:=by omega
   simp only[go_sem,simprocAttr,sM,e,i,f,g1,I,B,j];exact gY.fin d t d Fm.refl (fH.no ⟨rfl,rfl⟩) (ae4 _)
 |true=>
  rw[O]at j;rw[aeu (by decide)];by_cases z:16<=b
  ·rw[aez z];have g1: (8:Int)<b:=by omega
   have g2: ¬(b:Int)<16:=by omega
   have g5: (16:Int)<=b:=by omega
   obtain⟨J,s1,x,P,u,r,W,c,rfl,s2,S,R⟩:=ax1 hD hA g (b % 8) Y (by show m.ai.Q.length<_;omega) (amb g _) none;obtain⟨X,V⟩:=amc g (by show m.ai.Q.length<_;omega) (by show m.aV.length<_;omega) (b % 8);have o3:_<=m.ai.Q.length+262600:=V.q;obtain⟨v,w,K,G,F⟩:=E _ _ _ _ _ _ c X (by omega) s2 (hF.trans S) (gq.n R);simp only[go_sem,simprocAttr,sM,e,i,f,g1,g2,I,B,g5,j,d.box,Ar,A,o,oY,s1,G];exact F
  ·rw[aeu z];have g1: ¬(8:Int)<b:=by omega
   have g5: ¬(16:Int)<=b:=by omega
   obtain⟨J,s1,x,P,u,r,W,c,rfl,s2,S,R⟩:=axZ hD hA g (b % 8) Y (by show m.ai.Q.length<_;omega) (λm h1 h2=>(al8 h1 h2 _).1) none;obtain⟨X,V⟩:=ama g (by show m.ai.Q.length<_;omega) (by show m.aV.length<_;omega) Y;have o3:_<=m.ai.Q.length+262600:=V.q;obtain⟨v,w,K,G,F⟩:=E _ _ _ _ _ _ c X (by omega) s2 (hF.trans S) (gq.n R);simp only[go_sem,simprocAttr,sM,e,i,f,g1,I,B,g5,j,d.box,Ar,A,o,oY,s1,G];exact F
def xP:bF:={oP with alive:=λ_=>false,born:=λ_=>false}
theorem VF:nc=bn xP:=rfl
def ayH(H:List ae)(lo:oN):D X0 (.fn (.func 87) [] []) [] ⟨H,lo⟩=some (.ret (.agg (bn oP)) ⟨H,lo⟩):=by
 refine aH QT λN a=>?_
 have d:=ag8 (s:=xP) (i:=0) (v:=true) (by omega);have c:=ag9 (s:={xP with alive:=au xP.alive 0 true}) (i:=0) (v:=true) (by omega);have b: ({xP with alive:=au xP.alive 0 true,born:=au xP.born 0 true}:bF)=oP:=by rfl
 simp only[F1,go_sem,simprocAttr,QT,a,VF,d,c,b,en,mL,MH,GA]
def ayI(n:Nat)(h:1<=n/\n<=64)(H:List ae)(lo:oN):D X0 (.fn (.func 139) [] []) [.int .i64 n] ⟨H,lo⟩=some (.ret (.agg [.sl [[.int .i64 0,.int .i64 n]] true]) ⟨H,lo⟩):=by
 refine aH Q7 λN a=>?_
 have e: ¬(n:Int)<1:=by omega
 have d:min (n:Int) 64=n:=by omega
 have c:cb [[AV.int IntKind.i64 0,AV.int IntKind.i64 n]]<=N+1:=ae4 _;have b:cb [[AV.int IntKind.i64 0,AV.int IntKind.i64 n]]<=N:=ae4 _;simp only[F1,go_sem,simprocAttr,Q7,a,e,d,c,b]
def G4:cU:=⟨0,[],λ_ _=>0,true⟩
def uw(n:Nat):cU:=⟨n,[(0,n)],λ_ _=>0,true⟩
theorem amf{v:AV}: ∀n,gT n [v]=List.replicate n v
 |0=>rfl
 |n+1=>by show[v]++gT n [v]=_;rw[amf n];rfl
theorem amg{v:AV}{m:Nat}: ∀n,arr n (λ_=>List.replicate m v)=List.replicate (n*m) v
 |0=>by rw[Nat.zero_mul];rfl
 |n+1=>by rw[zv,amg n,aAB,aqt]
theorem ayJ:qs (λ_=>0)=List.replicate 32 (AV.int .u8 0):=rfl
def ayK:aeX=ck G4:=by
 show[AV.int .i64 0,.aq]++gT 2048 [AV.int .u8 0]=[AV.int .i64 0,.aq]++arr 64 λ_=>qs λ_=>0
 rw[amf,ayJ,amg]
theorem aC7:ck G4=AV.int .i64 0:: .aq::arr 64 λ_=>qs λ_=>0:=rfl
theorem aC8:ck (uw n)=AV.int .i64 n:: .sl [[.int .i64 0,.int .i64 n]] true::arr 64 λ_=>qs λ_=>0:=rfl
def amh{N id o:Nat}{k:IntKind}{a:Int}{H:List ae}(h:N<=id):finish N lo (.ax [.ptr id o,.int k a]) ⟨H,none⟩=(.ax [.ptr id o,.int k a],⟨H,lo⟩):=by
 have b: ¬(AV.ax [.ptr id o,.int k a]).refs<=N:=by simp only[AV.refs,aI];omega
 refine adV b ?_;rw[IH,aeu b,iN,Pw h]
def ayL{N id o:Nat}{k:IntKind}{a:Int}{H:List ae}(h:N<=id):finish N lo (.ax [.ptr id o,.int k a]) ⟨H,some j⟩=(.ax [.ptr id o,.int k a],⟨H,cM lo j⟩):=by
 have b: ¬(AV.ax [.ptr id o,.int k a]).refs<=N:=by simp only[AV.refs,aI];omega
 rw[D2];split
 ·rw[IH,aeu b,iN,Pw h];rfl
 ·rfl
def ayM(n:Nat)(h:1<=n/\n<=64)(N:Nat)(H:List ae)(d:H.length=N)(lo:oN):D X0 (.fn (.func 98) [] []) [.int .i64 n] ⟨H,lo⟩=some (.ret (.ax [.ptr N 0,.int .i64 0]) ⟨H++[.box (ck (uw n)) none],lo⟩):=by
 refine aH QY λM g=>?_
 have f: ¬(n:Int)<1:=by omega
 have e: ¬(64:Int)<n:=by omega
 have b:=λH lo=>ayI n h H lo
 have c:1<=(ck G4).length:=by rw[xI];omega
 have a:1<=(List.drop 1 (ck G4)).length:=by rw[amM,xI];omega
 have he:AV.int .i64 n::AV.sl [[.int .i64 0,.int .i64 n]] true::List.drop 1 (List.drop 1 (ck G4))=ck (uw n):=by rfl
 simp only[go_sem,simprocAttr,QY,d,f,e,b,ayK,c,a,he];rw[amh (by omega)]
theorem Nc:kp=bn xP++([.dy]++(cS (λ_=>xj)++[.aq])):=rfl
def ayN(n:Nat)(h:1<=n/\n<=64)(N:Nat)(H:List ae)(e:H.length=N)(lo:oN):D X0 (.fn (.func 63) [] []) [.int .i64 n] ⟨H,lo⟩=some (.ret (.ax [.ptr (N+1) 0,.int .i64 0]) ⟨H++[.box (ck (uw n)) none,.box (bQ ⟨oP,uw n,λ_=>xj,[]⟩ N .aq) none],lo⟩):=by
 refine aH QJ λM j=>?_
 obtain rfl:M=N:=by omega
 have f:=λlo=>ayM n h M H e lo
 have i:=λH lo=>ayH H lo
 have d:List.drop 952 kp=[.dy]++(cS (λ_=>xj)++[.aq]):=by rw[Nc];exact List.drop_left' (en _)
 have g:kp.length=1274:=by rw[Nc,aeZ,en,aeZ,aeZ,eC];rfl
 have a:aJ (bn oP++List.drop 952 kp) 952 [.ptr M 0]=bQ ⟨oP,uw n,λ_=>xj,[]⟩ M .aq:=by
  rw[d,fy (by rw[en];omega),en];rfl
 have c:953<=952+(List.drop 952 kp).length:=by rw[d];simp[eC]
 have b:952<=kp.length:=by rw[g];omega
 simp only[go_sem,simprocAttr,QJ,e,f,i,en,b,c,a];rw[amh (by omega)]
theorem ami:IX=[.dy]++(arr 8 (λ_=>xL Cq .aq .aq)++[.int .i64 0,.aq]):=rfl
def fT(n:Nat)(aF:List lB)(k:Nat):aW:=⟨⟨oP,uw n,λ_=>xj,[]⟩,λi=>{Cq with t:={ub with code:=if i<k then((aF[i]?).bind decode).getD []else[]}},0,[]⟩
theorem ayO(n:Nat)(aF:List lB)(aK:lN):fT n aF aF.length=TC ⟨n,aF,aK⟩:=by
 unfold fT TC
 congr 1
 grind
def mq(m:aW)(n N:Nat)(pv kv:AV)(aE:Nat->AV)(H:List ae):List ae:=
 H++[.box [.int .i64 n,pv,kv] none,.box (cJ m (N+3) aE (λ_=>.aq) .aq) none,.box (ck (uw n)) none,.box (bQ ⟨oP,uw n,λ_=>xj,[]⟩ (N+2) .aq) none]
theorem amj{N:Nat}{H:List ae}(a:H.length=N): (mq m n N pv kv aE H)[N+1]?=some (.box (cJ m (N+3) aE (λ_=>.aq) .aq) none):=by
 unfold mq;grind
def ayP{m':aW}{N:Nat}{nP:Nat->AV}{H:List ae}(a:H.length=N): (mq m n N pv kv aE H).set (N+1) (.box (cJ m' (N+3) nP (λ_=>.aq) .aq) none)=mq m' n N pv kv nP H:=by
 unfold mq;simp_all
theorem ayQ{cv:AV}(c:k<aF.length)(b:k<8):
  aJ (cJ (fT n aF k) p aE (λ_=>.aq) .aq) (1+k*24) (dc {ub with code:=(decode (aF.getD k default)).getD []} cv)=cJ (fT n aF (k+1)) p (au aE k cv) (λ_=>.aq) .aq:=by
 have g:=GW (m:=fT n aF k) (p:=p) (aE:=aE) (aO:=λ_=>.aq) (ev:=.aq) (o:=0) (vs:=dc {ub with code:=(decode (aF.getD k default)).getD []} cv) (r:={Cq with t:={ub with code:=(decode (aF.getD k default)).getD []}}) (cv:=cv) (rv:=.aq) b (by rw[xK];omega) rfl;have e:au (λ_=>AV.aq) k AV.aq=λ_=>AV.aq:=mJ (f:=λ_=>AV.aq)
 have d: ({fT n aF k with aB:=au (fT n aF k).aB k {Cq with t:={ub with code:=(decode (aF.getD k default)).getD []}}}:aW)=fT n aF (k+1):=by
  have a:au (fT n aF k).aB k {Cq with t:={ub with code:=(decode (aF.getD k default)).getD []}}=(fT n aF (k+1)).aB:=by
   unfold au fT
   grind
  rw[a];rfl
 grind
def ayR{aK:lB}(h:GU n aF aK pv kv)(w:nE ⟨n,aF,aK.map UInt8.toNat⟩=true)(N:Nat)(H:List ae)(q:H.length=N)(lo:oN):
  ∃O,D XC (.fn (.func 34) [] []) [.agg [.int .i64 n,pv,kv]] ⟨H,lo⟩=some O/\ ∃aE ak,O= .ret (.ax [.ptr (N+1) 0,.int .i64 0]) ⟨mq (fT n aF aF.length) n N pv kv aE H,ak⟩/\
   (∀i,Rv (aE i) 5 (((fT n aF aF.length).aB i).t.code.map db))/\ (ak=lo\/ ∃j,N<=j/\ak=cM lo j):=by
 obtain⟨v,d,Q⟩:1<=n/\n<=64/\aF.length<=8:=by unfold nE at w;simp at w;omega
 have a:=λH lo=>c0 (axM h (by omega) H lo)
 rw[w]at a;refine cA Qy λM Y=>?_
 obtain rfl:M=N:=by omega
 have F:=λB lo=>c0 (ayN n ⟨v,d⟩ (M+2) (H++[.box [.int .i64 n,pv,kv] none,.box B none]) (by simp[q]) lo)
 have b:=h.pr;have r:aJ IX 0 [.ptr (M+3) 0]=cJ (fT n aF 0) (M+3) (λ_=>.aq) (λ_=>.aq) .aq:=by rw[ami];rfl
 have x:1<=IX.length:=by rw[ami];simp
 have y: ¬M+2<=M:=by omega
 have G:M+2+1=M+3:=rfl;have z:=λE=>b.bJ (E:=E)
 simp only[go_sem,simprocAttr,Qy,q,a,F,r,x,y,z,G];refine gE aF.length (λk e W ak=> ∃aE,e 4= .ptr (M+1) 0/\e 22=pv/\e 23= .int .i64 aF.length/\e 24= .int .i64 k/\W=mq (fT n aF k) n M pv kv aE H/\ (∀i,Rv (aE i) 5 (((fT n aF k).aB i).t.code.map db))/\ak=some (M+1)) 0 (by omega) ?_ ?_
 ·refine⟨λ_=>.aq,?_⟩;simp only[go_sem,simprocAttr];exact⟨rfl,λi=>.aq,rfl⟩
 rintro k X e W ak ⟨aE,L,o,l,g,rfl,f,rfl⟩ U V;simp only[bO,go_sem,simprocAttr,afj,L,o,l,g];refine⟨λR=>?_,λR=>?_⟩
 ·have c:k<aF.length:=by omega
  have T:k<8:=by omega
  obtain⟨cv,t1,t2⟩:=axN (aF.getD k default) (mq (fT n aF k) n M pv kv aE H) (some (M+1));have t1:=c0 t1;have C: (0:Int)<=k/\ (k:Int)<8:=by omega
  have S:=amj (m:=fT n aF k) (n:=n) (pv:=pv) (kv:=kv) (aE:=aE) q;have P:=λm' nP=>ayP (m:=fT n aF k) (m':=m') (n:=n) (pv:=pv) (kv:=kv) (aE:=aE) (nP:=nP) q
  have s:=ayQ (n:=n) (p:=M+3) (cv:=cv) (aE:=aE) c T;have u:=GP (t:={ub with code:=(decode (aF.getD k default)).getD []}) (cL t2 (bB (λ_=>rfl) _));have A:1+k*24+10<=195:=by omega
  simp(disch:=omega) only[go_sem,simprocAttr,L,o,l,g,b.bW,b.cp,sC,t1,C,S,P,s,u,A,oY,xK];refine⟨by omega,by omega,au aE k cv,rfl,λi=>?_⟩;by_cases K:i=k
  ·subst K;have e:aF.getD i default=aF[i]:=by simp[List.getD,c]
   rw[cw];have I: ((fT n aF (i+1)).aB i).t.code=(decode (aF.getD i default)).getD []:=by
    show(if i<i+1 then((aF[i]?).bind decode).getD []else[])=_;rw[aez (by omega),adQ c,e];rfl
   rw[I];exact t2
  ·rw[cR K];have I: ((fT n aF (k+1)).aB i).t.code=((fT n aF k).aB i).t.code:=by
    show(if i<k+1 then((aF[i]?).bind decode).getD []else[])=(if i<k then((aF[i]?).bind decode).getD []else[]);by_cases J:i<k
    ·rw[aez J,aez (by omega)]
    ·rw[aeu J,aeu (by omega)]
   rw[I];exact f i
 ·obtain rfl:k=aF.length:=by omega
  rw[ayL (by omega)];exact⟨aE,_,rfl,f,.inr ⟨M+1,by omega,rfl⟩⟩
theorem amk: ∀ (s:lB),∀x∈rD s,x.n<65536
 |a::b::c::d::e::f::r,x,h=>by
  rcases agF.1 h with rfl|h
  ·have:=e.toNat_lt;have:=f.toNat_lt
   grind
  ·exact amk r x h
 | [],x,h=>by cases h
 | [_],x,h=>by cases h
 | [_,_],x,h=>by cases h
 | [_,_,_],x,h=>by cases h
 | [_,_,_,_],x,h=>by cases h
 | [_,_,_,_,_],x,h=>by cases h
theorem ayS{s:lB}{l:List dU}(h:decode s=some l):l.length<=64/\ ∀x∈l,GO x:=by
 unfold decode at h;split at h
 ·cases h
 split at h
 ·rename_i hm;cases h;unfold qi at hm;simp only[ahV,alR,agx]at hm;refine⟨hm.1,λx a=>?_⟩;have b:=hm.2 x a;unfold rC at b;simp at b;have c:=amk s x a;exact⟨by omega,by omega,by omega,by omega,c,λd=>by omega⟩
 grind
theorem aml(h:Nat):az (λ_=>⟨0,false,false⟩) h=false:=by
 unfold az;grind
theorem ayT:br oP:=by
 have a:hY (λ_=>⟨0,false,false⟩):=λi=>⟨ae4 _,λh=>by rfl⟩
 refine⟨⟨⟨a,λi=>CB⟩,λh=>?_,λi=>?_⟩,⟨λi=>by show 0<4294967296;omega,λi=>Uc⟩,⟨⟨a,λi h=>(by cases h),λi=>aiq⟩,λi=>CM _,[],.nil,λh q=>(by cases q),λh q=>?_,.nil,λh q=>(by cases q)⟩,λi=>⟨by show 0<4;omega,by show 0<=4;omega,λj=>Ul⟩⟩
 ·have e:aS oP.T h=[]:=by
    unfold aS eO bt;have:oP.T.az h=false:=aml h
    grind
  grind
 ·exact CM _
 ·rw[show az oP.K.b h=false from aml h]at q;cases q
def ayU:iH xj:=⟨by trivial,by trivial,λi=>by show 0<8;omega,λi j h=>by cases h⟩
def ayV(h:1<=n/\n<=64):gb (uw n):=⟨h.2,⟨List.pairwise_singleton _ _,λx a=>by rw[ae5.1 a];omega⟩,λi j=>by show 0<256;omega⟩
theorem ayW(h:1<=n/\n<=64)(aF:List lB)(k:Nat):rR (fT n aF k):=by
 refine⟨⟨⟨ayT,ayV h,λi=>ayU,λk d=>(by cases d),by show 0<_;omega⟩,λi=>?_,λi=>C0,λi=>by show 0<_;omega,by show 0<_;omega,by show 0<_;omega,λi=>⟨by show 0<=64;omega,by show 0<=64;omega⟩⟩,by show 0<=_;omega,by show 0<=_;omega⟩;have a: (if i<k then((aF[i]?).bind decode).getD []else[]).length<=64/\ ∀x∈(if i<k then((aF[i]?).bind decode).getD []else[]),GO x:=by
  split
  ·cases c: (aF[i]?).bind decode with
   |none=>simp
   |some l=>
    obtain⟨s,_,b⟩:=anf.1 c;exact ayS b
  grind
 exact⟨a.1,a.2,by show 0<=64;omega,λj=>by show 0<_;omega⟩
theorem ayX{N:Nat}{H:List ae}(b:H.length=N)
  (a: ∀i,Rv (aE i) 5 (((fT n aF aF.length).aB i).t.code.map db)):
  bI N (N+1) (N+3) (N+2) (fT n aF aF.length) .aq .aq aE (λ_=>.aq) (mq (fT n aF aF.length) n N pv kv aE H):=
 ⟨by omega,⟨by unfold mq;grind,by omega,by unfold mq;rw[bA b];rfl,by unfold mq;rw[bA b];rfl,cW.aq⟩,amj b,cW.aq,a,λi=>.aq⟩
theorem ayY{N id o:Nat}{vs:lA}{ak:oN}{H:List ae}(h:N<=id):finish N lo (.ax (.ptr id o::vs)) ⟨H,ak⟩=(.ax (.ptr id o::vs),⟨H,gu lo ak⟩):=by
 have a: ¬(AV.ax (.ptr id o::vs)).refs<=N:=by simp only[AV.refs,aI];omega
 have b: ∀E,Den.freeze E N 12 (.ax (.ptr id o::vs))=none:=λE=>by rw[IH,aeu a,iN,Pw h]
 cases ak with
 |none=>rw[yH,aeu a,b]
 |some j=>
  rw[D2,b,aeu a]
  grind
theorem bI.mono{a:Nat}{H:List ae}(h:bI n M p q m qv ev aE aO H)(b:a<=n):bI a M p q m qv ev aE aO H:=
 ⟨h.Mq,⟨by have:=h.co.mp;omega,h.co.qp,h.co.box,h.co.ib,h.co.jb.mono (by omega)⟩,h.box,h.rQ.mono (by omega),h.cv,h.rv⟩
def G5(e:Nat):lA:=[.int .i64 e]
theorem bI.ayZ{H W:List ae}{ty:TypeId}(h:bI n M p q m qv ev aE aO H)(k:ty≠ot\/sz≠1)(j:ty≠nb\/sz≠14)
  (b: ∀ (i:Nat) (o:ae),(∀a d,o≠ae.row a sz ty d)->H[i]?=some o->W[i]?=some o) (g:H.length<=W.length):bI n M p q m qv ev aE aO W:=by
 have c: ∀cs tg,∀a d,ae.box cs tg≠ .row a sz ty d:=λ_ _ _ _ e=>by cases e
 refine⟨h.Mq,⟨by have:=h.co.mp;omega,h.co.qp,b _ _ (c _ _) h.co.box,b _ _ (c _ _) h.co.ib,h.co.jb.nX λid aj all f=>b _ _ (λa d e=>?_) f⟩,b _ _ (c _ _) h.box,h.rQ.nX λid aj all f=>b _ _ (λa d e=>?_) f,h.cv,h.rv⟩
 ·grind
 grind
def runK(n:Nat)(aF:List lB)(aK:lB)(k:Nat):aW×lN:=
 ((aK.take k).map UInt8.toNat).foldl (λp b=>((lI p.1 b).1,p.2++[(lI p.1 b).2])) (fT n aF aF.length,[])
theorem G6{aK:lB}(h:k<aK.length):
  runK n aF aK (k+1)=((lI (runK n aF aK k).1 (aK.getD k default).toNat).1,(runK n aF aK k).2++[(lI (runK n aF aK k).1 (aK.getD k default).toNat).2]):=by
 have e:aK.getD k default=aK[k]:=by grind
 unfold runK;rw[agu,adQ h,agp,amG,e];rfl
def VG(n:Nat)(aF:List lB)(aK:lB):runK n aF aK aK.length=zQ ⟨n,aF,aK.map UInt8.toNat⟩:=by
 unfold runK zQ;rw[agk,ayO n aF (aK.map UInt8.toNat)]
theorem C6{n:Nat}(h:1<=n/\n<=64)(aF:List lB){aK:lB}(a:aK.length<=4000): ∀k,k<=aK.length->rR (runK n aF aK k).1/\ (runK n aF aK k).1.now<=k
 |0,_=>⟨ayW h aF _,ae0 0⟩
 |k+1,c=>by
  obtain⟨b,f⟩:=C6 h aF a k (by omega);obtain⟨e,d⟩:=ayE b (by omega) (aK.getD k default).toNat;rw[G6 (by omega)]
  grind
theorem amm{n:Nat}{aF:List lB}{aK:lB}: ∀k,k<=aK.length->(runK n aF aK k).2.length=k
 |0,_=>rfl
 |k+1,a=>by rw[G6 (by omega)];rw[aeZ,amm k (by omega)];rfl
def amn{aK:lB}(hD: ∀op,kO op)(h:GU n aF aK pv kv)(j:nE ⟨n,aF,aK.map UInt8.toNat⟩=true)(N:Nat)(H:List ae)(r:H.length=N)(lo:oN):
  ∃x,D XC (.fn (.func 10) [] []) [.agg [.int .i64 n,pv,kv]] ⟨H,lo⟩=some x/\ ∃M p q qv ev aE aO b H' ak,x= .ret (.ax [.ptr M 0,b,.int .i64 0]) ⟨H',ak⟩/\
   bI N M p q (zQ ⟨n,aF,aK.map UInt8.toNat⟩).1 qv ev aE aO H'/\cW N H' b 1 uQ ((zQ ⟨n,aF,aK.map UInt8.toNat⟩).2.map G5)/\H.length<=H'.length/\ (∀i,i<N->H'[i]?=H[i]?)/\N<=M/\N<=p/\N<=q:=by
 obtain⟨C,m,F⟩:1<=n/\n<=64/\aK.length<=4000:=by unfold nE at j;simp at j;omega
 refine cA Qp λM hM=>?_
 obtain rfl:M=N:=by omega
 have C4:=cL h.pr (bB (λ_=>rfl) _);have PG:=cL h.pk (bB (λ_=>rfl) _);obtain⟨x,R,aE,Af,rfl,Q,n3⟩:=ayR h j (M+1) (H++[.box [.int .i64 n,pv,kv] none]) (by simp[r]) none;have L:M+1+1=M+2:=rfl;have G:=λE=>h.pk.bJ (E:=E)
 have f:=ayX (N:=M+1) (n:=n) (aF:=aF) (pv:=pv) (kv:=kv) (H:=H++[.box [.int .i64 n,pv,kv] none]) (by simp[r]) Q;have S: (mq (fT n aF aF.length) n (M+1) pv kv aE (H++[.box [.int .i64 n,pv,kv] none]))[M]?=some (.box [.int .i64 n,pv,kv] none):=by
  unfold mq;rw[acK (by simp[r]),dq r];rfl
 simp only[go_sem,simprocAttr,Qp,r,L,R,S,G];refine gE aK.length (λk e W ak=> ∃qv ev aE aO b,e 5= .ptr (M+2) 0/\e 7=b/\e 19=kv/\e 20= .int .i64 aK.length/\e 21= .int .i64 k/\bI (M+1) (M+2) (M+4) (M+3) (runK n aF aK k).1 qv ev aE aO W/\cW M W b 1 uQ ((runK n aF aK k).2.map G5)/\H.length<=W.length/\ ∀i,i<M->W[i]?=H[i]?) 0 (by omega) ?_ ?_
 ·refine⟨.aq,.aq,aE,λ_=>.aq,.aq,?_⟩;simp only[go_sem,simprocAttr];refine⟨f,cW.aq,by unfold mq;simp,λi I=>?_⟩;unfold mq;rw[acK (by simp;omega),acK (by omega)]
 clear f S R Q n3 aE;rintro k hk e W ak ⟨qv,ev,aE,aO,b,U,e7,u,t,s,f,T,hl,c⟩ nn hn;simp only[bO,go_sem,simprocAttr,afc,U,e7,u,t,s];refine⟨λhh=>?_,λhh=>?_⟩
 ·have o:k<aK.length:=by omega
  obtain⟨Z,o2⟩:=C6 ⟨C,m⟩ aF F k (by omega);have hb:=(aK.getD k default).toNat_lt;obtain⟨x,Y,z,P,v,l,V,B,rfl,X,w,p4⟩:=ayF hD f Z (by omega) (aK.getD k default).toNat hb ak;have J:M<=V.length:=by have:=w.len;omega
  have K:cW M V b 1 uQ ((runK n aF aK k).2.map G5):=T.nX λid aj all g=>w.box id _ (by
   have h1:=f.box;have h2:=f.co.box;have h3:=f.co.ib;intro j;simp at j;rcases j with rfl|rfl|rfl
   ·rw[h1]at g;cases g
   ·rw[h2]at g;cases g
   ·rw[h3]at g;cases g) (λq=>by
   rcases q with⟨a,d,q⟩| ⟨a,d,q⟩
   ·injection q with _ _ q;cases q
   ·injection q with _ q;cases q) g
  obtain⟨A,W3,g1,g2,g3,g4,g5,g6,g7,g8⟩:=cW.append (bytes:=8) (lo:=B) (y:=G5 (lI (runK n aF aK k).1 (aK.getD k default).toNat).2) K J (by omega) rfl rfl (by rw[ae3,amm k (by omega)];unfold room;omega);have O:=X.ayZ (sz:=1) (ty:=uQ) (.inl (by decide)) (.inl (by decide)) g5 g3;unfold G5 at g1;simp(disch:=omega) only[go_sem,simprocAttr,U,e7,u,t,s,h.pk.bW,h.pk.cp,bC,Y,g1];rw[G6 o];refine⟨by omega,o,z,P,v,l,A,rfl,O,?_,by have:=w.len;omega,λi I=>(g4 i I).trans ((w.low i (by omega) (by simp;omega)).trans (c i I))⟩;rw[agp];exact g2
 ·obtain rfl:k=aK.length:=by omega
  rw[ayY (by omega),<-VG];exact⟨M+2,M+4,M+3,qv,ev,aE,aO,b,W,_,rfl,f.mono (by omega),T,by omega,c,by omega,by omega,by omega⟩
theorem Nd{E:AS}(h:Rd E v sz af): (v= .aq/\af=[])\/dA .sl v .aq=some false:=by
 have a:=h.kind;cases v<;>first|exact .inr rfl|grind|skip
 ·exact .inl ⟨rfl,by have:=h.eq;simp[Den.elems]at this;omega⟩
theorem Nf{l:List α}{g:α->lA}{ty:TypeId}{bytes N:Nat}{H:List ae}(a:H.length=N)(b:0<sz)(i: ∀x,(g x).length=sz)(c: ∀x,aI (g x)=0)(e:l≠[])(d:l.length*bytes<=room):
  dv ⟨H,none⟩ ty sz bytes (.sl [] true) (l.map g)=some (.ref N 0 sz 0 l.length false,⟨H++[.row 0 sz ty (l.map g)],none⟩)/\finish N lo (.ref N 0 sz 0 l.length false) ⟨H++[.row 0 sz ty (l.map g)],none⟩=(.sl (l.map g) false,⟨H,lo⟩):=by
 have f:0<l.length:=azW.2 e;have ha: (l.map g).all (λel=>el.length==sz)=true:=by grind
 have ho:aP N (H++[.row 0 sz ty (l.map g)]) (.ref N 0 sz 0 l.length false) sz ty (l.map g):=
  ⟨λel h=>by grind,.inr ⟨N,0,ae0 _,by simp,dq a⟩⟩
 refine⟨?_,?_⟩
 ·simp only[dv,ha];rw[aez ⟨b,trivial⟩,aeu (by rw[ae3];omega),aez ⟨by simpa using d,rfl⟩];simp[AS.push,a]
 ·rw[Gm (.inl rfl) ho (by rw[bB c];omega),kj a];rfl
def ay0{l:lN}{H:List ae}(h:Rd ⟨H,none⟩ v 1 (l.map fS))(e:l.length*8<=room)(lo:oN):
  ∃v',D X0 (.fn (.func 40) [] []) [v] ⟨H,lo⟩=some (.ret v' ⟨H,lo⟩)/\Rv v' 1 (l.map fS):=by
 have d:=h.eq;have a:dA EK.sl AV.aq AV.aq=some true:=rfl;have e3:cb ([]:List lA)=0:=rfl;rcases Nd h with⟨rfl,he⟩|he
 ·refine⟨.aq,?_,by rw[he];exact .aq⟩;refine aH zj λN b=>?_
  simp(disch:=omega) only[F1,go_sem,simprocAttr,zj,a]
 ·by_cases c:l=[]
  ·subst c;refine⟨.sl [] true,?_,.sl (λel h=>by cases h)⟩;refine aH zj λN b=>?_
   have e1:dv ⟨H,none⟩ ot 1 8 (.sl [] true) []=some (.sl [] true,⟨H,none⟩):=rfl;simp(disch:=omega) only[F1,go_sem,simprocAttr,zj,he,d,e1,e3]
  ·refine⟨.sl (l.map fS) false,?_,.sl (λel h=>by obtain⟨x,_,rfl⟩:=ago.1 h;rfl)⟩;refine aH zj λN b=>?_
   obtain⟨e1,f⟩:=Nf (sz:=1) (ty:=ot) (bytes:=8) (lo:=lo) (g:=fS) b (by omega) (λ_=>rfl) (λ_=>rfl) c e;simp only[go_sem,simprocAttr,zj,he,d,e1,f]
def ay1{l:lN}{H:List ae}(h:Rd ⟨H,none⟩ v 1 (l.map hC))(e:l.length*4<=room)(lo:oN):
  ∃v',D X0 (.fn (.func 110) [] []) [v] ⟨H,lo⟩=some (.ret v' ⟨H,lo⟩)/\Rv v' 1 (l.map hC):=by
 have d:=h.eq;have a:dA EK.sl AV.aq AV.aq=some true:=rfl;have e3:cb ([]:List lA)=0:=rfl;rcases Nd h with⟨rfl,he⟩|he
 ·refine⟨.aq,?_,by rw[he];exact .aq⟩;refine aH zm λN b=>?_
  simp(disch:=omega) only[F1,go_sem,simprocAttr,zm,a]
 ·by_cases c:l=[]
  ·subst c;refine⟨.sl [] true,?_,.sl (λel h=>by cases h)⟩;refine aH zm λN b=>?_
   have e1:dv ⟨H,none⟩ b8 1 4 (.sl [] true) []=some (.sl [] true,⟨H,none⟩):=rfl;simp(disch:=omega) only[F1,go_sem,simprocAttr,zm,he,d,e1,e3]
  ·refine⟨.sl (l.map hC) false,?_,.sl (λel h=>by obtain⟨x,_,rfl⟩:=ago.1 h;rfl)⟩;refine aH zm λN b=>?_
   obtain⟨e1,f⟩:=Nf (sz:=1) (ty:=b8) (bytes:=4) (lo:=lo) (g:=hC) b (by omega) (λ_=>rfl) (λ_=>rfl) c e;simp only[go_sem,simprocAttr,zm,he,d,e1,f]
def cW.refs{N:Nat}{H:List ae}{ty:TypeId}(h:cW N H v sz ty af):v.refs<=H.length:=by
 rcases h.2 with⟨rfl,_⟩| ⟨id,aj,off,all,_,rfl,a,_⟩
 ·exact ae4 _
 ·have:=dZ a;simp only[AV.refs];omega
section
variable{n M p q:Nat}{m:aW}{qv ev:AV}{aE aO:Nat->AV}{H:List ae}(ha:bI n M p q m qv ev aE aO H)
include ha
theorem Ng(A:m.ai.Q.length<1073741824)(lo:oN):
  ∃v,D XC (.fn (.func 15) [] []) [.ptr M 0] ⟨H,lo⟩=some (.ret (.agg (bQ m.ai q v)) ⟨H,lo⟩)/\Rv v 1 (m.ai.Q.map fS):=by
 obtain⟨N,z⟩: ∃N,H.length=N:=⟨_,rfl⟩;have u:=ha.co.jb.app [.box kp none,.box (bQ m.ai q qv) none];obtain⟨v,r,c⟩:=ay0 (u.rd (lo:=none)) (by unfold room;omega) none;have r:=c0 r;refine⟨v,?_,c⟩;refine aH Qt λK B=>?_
 obtain rfl:K=N:=by omega
 have s:kp.length=1274:=by rw[Nc,aeZ,en,aeZ,aeZ,eC];rfl
 have w: ∀l:lA,l.length=1274->aJ kp 0 l=l:=λl h=>kG (by rw[s,h])
 have y:aI (bQ m.ai q qv)<=K:=by
  rw[U1];have:=ha.co.jb.refs;have:=ha.co.qp;have:=ha.co.lt;omega
 have b:aI (bQ m.ai q v)<=K:=by
  rw[U1];have:=cL c (bB (λ_=>rfl) _);have:=ha.co.qp;have:=ha.co.lt;omega
 have a:=nL (c ⟨H,none⟩);have o:aI (bQ m.ai q qv)<=K+1+1:=by omega
 have k:v.refs<=K+1+1:=by have:=cL c (bB (λ_=>rfl) _);omega
 have j:aI (bQ m.ai q v)<=K+1:=by omega
 have d:dA EK.ptr (AV.ptr M 0) AV.dy=some false:=rfl;have f:=bf (L:=[.box kp none]) ha.box;have e:=bf (L:=[.box kp none]) ha.co.box;have i:=An (x:=m.ai) (q:=q) (qv:=qv);have g:=An (x:=m.ai) (q:=q) (qv:=v);have t: ∀l:lA,l.length=1274->List.take 1274 l=l:=λl h=>by rw[<-h,agk]
 simp only[F1,go_sem,simprocAttr,Qt,z,d,f,e,qy,r,w,t,i,g,KL,KS,s,o,k,j,b,a.1,a.2]
end
section
variable{n M p q:Nat}{m:aW}{qv ev:AV}{aE aO:Nat->AV}{H:List ae}
def C7(M t:Nat)(H:List ae)(lo:oN):D XC (.fn (.func 44) [] []) [.ptr M 0,.int .i64 t] ⟨H,lo⟩=some (.ret (.bool (decide (t<8))) ⟨H,lo⟩):=by
 refine aH Ku λN d=>?_
 have a:dA EK.ptr (AV.ptr M 0) AV.dy=some false:=rfl;have c: (t:Int)>=0:=by omega
 by_cases h:t<8
 ·have b: (t:Int)<8:=by omega
  rw[aeD h];simp(disch:=omega) only[F1,go_sem,simprocAttr,Ku,a,c,b]
 ·have b: ¬(t:Int)<8:=by omega
  rw[aeC h];simp(disch:=omega) only[F1,go_sem,simprocAttr,Ku,a,c,b]
theorem amo(c:Call)(v:AV): (bN c v).length=12:=rfl
theorem cl7(c:Call)(v:AV): (bN c v)[7]?=some (.bool c.checked):=rfl
theorem cl1(c:Call)(v:AV):Den.part true 6 (bN c v) 1=some (.agg (bp c.c)):=rfl
def VH(c:Call)(v:AV):aI (bN c v)=v.refs:=by simp[bN,aI,AV.refs,bp,aA]
theorem clT(c:Call)(v:AV):List.take 12 (bN c v)=bN c v:=rfl
def CC:=gG @amo<|gG @cl7<|gG @cl1<|gG @VH<|gG @clT<|gG @apA.{0} @amR.{0}
def oZ(m:aW)(t:Nat)(rv:AV):AV:=match nD m t with
 |some c=>.ax [.agg (bN c rv),.bool true]
 |none=>.ax [.agg (bN gV .aq),.bool false]
def ams(u:bI n M p q m qv ev aE aO H)(C: ∀i,(m.aB i).c.aY.length<1073741824)(t:Nat)(lo:oN):
  ∃rv,D XC (.fn (.func 74) [] []) [.ptr M 0,.int .i64 t] ⟨H,lo⟩=some (.ret (oZ m t rv) ⟨H,lo⟩)/\ (∀c,nD m t=some c->Rv rv 1 (c.aY.map hC)):=by
 by_cases a:t<8
 ·have A: (t:Int)<8:=by omega
  have B: (0:Int)<=t:=by omega
  obtain⟨v,g,x⟩:=ay1 (lo:=none) (H:=H++[.box (bN gV .aq) none,.box (bN (m.aB t).c (aO t)) none]) ((u.rv t) _) (by have:=C t;unfold room;omega);have g:=c0 g;have e:=nL (x ⟨H,none⟩);have j:=cL x (bB (λ_=>rfl) _);have h:=cL (u.rv t) (bB (λ_=>rfl) _);have o: ∀v:AV,aI (bN (m.aB t).c v)=v.refs:=λv=>by simp[bN,aI,AV.refs,bp,aA]
  have z: ∀L,(H++L)[M]?=some (.box (cJ m p aE aO ev) none):=λL=>bf u.box
  have y: ∀v,bN gV v=[(.int .i64 0),(.int .u8 0),(.int .u32 0),(.int .u32 0),(.int .u32 0),(.int .u32 0),(.int .u64 0),(.bool false),v,(.int .i64 0),(.int .i64 0),(.int .i64 0)]:=λv=>rfl
  have r: ∀v,(bN (m.aB t).c v).length=12:=λv=>rfl
  have s: ∀v,(bN (m.aB t).c v)[8]?=some v:=λv=>rfl
  have l: ∀v w,aJ (bN (m.aB t).c v) 8 [w]=bN (m.aB t).c w:=λv w=>rfl
  have k: ∀v,List.take 12 (bN (m.aB t).c v)=bN (m.aB t).c v:=λv=>rfl
  cases d: (m.aB t).busy
  ·refine⟨.aq,?_,λc b=>by unfold nD at b;simp[d]at b⟩;have hu:oZ m t .aq= .ax [.agg (bN gV .aq),.bool false]:=by unfold oZ nD;simp[d]
   rw[hu];refine aH zl λN f=>?_
   simp only[F1,go_sem,simprocAttr,zl,f,C7,aeD a,z,xM a,d,B,A,y]
  ·rw[y]at g;refine⟨v,?_,λc b=>by unfold nD at b;simp[d,a]at b;subst b;exact x⟩;have hu:oZ m t v= .ax [.agg (bN (m.aB t).c v),.bool true]:=by unfold oZ nD;simp[d,a]
   rw[hu];refine aH zl λN f=>?_
   simp only[F1,go_sem,simprocAttr,zl,f,C7,aeD a,z,xM a,CZ a,d,B,A,g,o,j,h,r,s,l,k,e.1,e.2,apA,amR]
 ·have hu:oZ m t .aq= .ax [.agg (bN gV .aq),.bool false]:=by unfold oZ nD;simp[a]
  refine⟨.aq,?_,λc b=>by unfold nD at b;simp[a]at b⟩;rw[hu];refine aH zl λN f=>?_
  simp only[F1,go_sem,simprocAttr,zl,f,C7,aeC a];rfl
def amt(z: ∀op,kO op)(f:bI n M p q m qv ev aE aO H)(r:dh m)(o: ∀i,(m.aB i).c.aY.length<1073741824)(t:Nat)(lo:oN):
  D XC (.fn (.func 39) [] []) [.ptr M 0,.int .i64 t] ⟨H,lo⟩=some (.ret (.bool (rG m t)) ⟨H,lo⟩):=by
 refine aH BU λN g=>?_
 obtain⟨rv,d,l⟩:=ams f o t none;have a:=λL lo=>M5 (f.app L) t lo
 have x: ∀L,(H++L)[M]?=some (.box (cJ m p aE aO ev) none):=λL=>bf f.box
 have j: ∀L,(H++L)[p]?=some (.box (bQ m.ai q qv) none):=λL=>bf f.co.box
 cases hu:nD m t with
 |none=>
  have e1:rG m t=false:=by unfold rG;rw[hu]
  have k:oZ m t rv= .ax [.agg (bN gV .aq),.bool false]:=by unfold oZ;rw[hu]
  rw[e1];rw[k]at d;have v:AV.refs .aq=0:=rfl;simp only[F1,go_sem,simprocAttr,BU,g,d,CC,↓CC,v]
 |some c=>
  have y:t<8/\c=(m.aB t).c:=by
   unfold nD at hu;split at hu
   ·rename_i h;injection hu with hu;exact⟨h.1,hu.symm⟩
   ·cases hu
  have e1:rG m t=(j0 m t&& !c.checked&&Co m.ai.S t c.c):=by unfold rG;rw[hu]
  have k:oZ m t rv= .ax [.agg (bN c rv),.bool true]:=by unfold oZ;rw[hu]
  have hw:=λH lo=>akt m.ai.S r.ai.S t (by omega) c.c (by rw[y.2];exact(r.c t).jc) (z _) H lo
  have e:=l c hu;have w:=nL (e ⟨H,none⟩);have b:=cL e (bB (λ_=>rfl) _);rw[e1];rw[k]at d;clear o l;cases u:j0 m t
  ·rw[u]at a;simp only[F1,go_sem,simprocAttr,BU,g,d,a,CC,↓CC,b];rfl
  ·rw[u]at a;cases s:c.checked
   ·simp only[F1,go_sem,simprocAttr,BU,g,d,a,x,j,hw,s,CC,↓CC,b,qy,KL,↓KL]
   ·simp only[F1,go_sem,simprocAttr,BU,g,d,a,s,CC,↓CC,b];rfl
def VI(g: ∀op,kO op)(c:bI n M p q m qv ev aE aO H)(f:dh m)(e: ∀i,(m.aB i).c.aY.length<1073741824)(t:Nat)(lo:oN):
  D XC (.fn (.func 18) [] []) [.ptr M 0,.int .i64 t] ⟨H,lo⟩=some (.ret (.bool (oO m t)) ⟨H,lo⟩):=by
 refine aH Fk λN j=>?_
 have h:=amt g c f e t;have a:=M5 c t;unfold oO;cases b:decide (t<8)
 ·simp(disch:=omega) only[F1,go_sem,simprocAttr,Fk,C7,b];rfl
 ·cases d:j0 m t
  ·rw[d]at a;simp(disch:=omega) only[F1,go_sem,simprocAttr,Fk,C7,b,a];rfl
  ·rw[d]at a;simp(disch:=omega) only[F1,go_sem,simprocAttr,Fk,C7,b,a,h]
end
theorem ay2{s:bF}(a:br s)(c:cy): (s8 s c).length<=39135394:=by
 have d:=z5 a.tr c.r;have b: ∀h,(oM s h).length<=1:=λh=>by unfold oM;grind
 unfold s8
 grind
def jN(c:Call):Prop:=c.aY.length<=39135394
def ay3{x:Core}{c:Call}(i:br x.S)(h:jN c):jN (gn x c).c:=by
 have b:jN (lE ⟨x,c,bX,false⟩).1.c:=by
  unfold lE;repeat' split
  all_goals first|exact h|exact ay2 i _
 have d: ∀s:bR,jN s.c->jN (lF s).1.c:=λs a=>by
  unfold lF;split
  ·exact a
  ·rename_i e;dsimp only;split
   ·have:s.c.aY.length<=39135394:=a;rw[e,agt]at this;exact agD (azV _) this
   ·exact a
 have f: ∀s:bR,jN s.c->jN (lG s).1.c:=λs a=>by
  unfold lG;dsimp only;repeat' split
  all_goals exact a
 have g: ∀s:bR,jN s.c->jN (mh s).1.c:=λs a=>by
  unfold mh;split<;>exact a
 have j: ∀s:bR,jN s.c->jN (vD s).c:=λs a=>by
  unfold vD;dsimp only;repeat' split
  all_goals exact a
 unfold gn;dsimp only
 repeat' split
 ·exact b
 ·exact d _ b
 ·exact f _ (d _ b)
 ·exact g _ (f _ (d _ b))
 ·exact j _ (g _ (f _ (d _ b)))
def o5(m:aW):Prop:= ∀i,jN (m.aB i).c
def VJ:jN gV:=ae4 _
def o5.set(h:o5 m){r:Runner}(a:jN r.c)(i:Nat):jN (au m.aB t r i).c:=by
 unfold au;split
 ·omega
 ·exact h i
def ay4(h:o5 m)(i:Nat):o5 (mj m i):=by
 unfold mj;split
 ·exact h.set VJ
 omega
def VK(h:o5 m):o5 (lH m):=by
 unfold lH;generalize List.range 8=l
 induction l generalizing m with
 |nil=>exact h
 |cons a l b=>exact b (ay4 h a)
def amu(a:br m.ai.S)(h:o5 m)(t:Nat):o5 (uc m t):=by
 have b:=ay3 (x:=m.ai) a (h t);unfold uc;dsimp only;split
 ·intro i;by_cases q:i=t
  ·subst q;show jN (Runner.c (au _ _ _ _));rw[cw];exact VJ
  ·show jN (Runner.c (au _ _ _ i));rw[cR q];show jN (Runner.c (au m.aB t _ i));rw[cR q];exact h i
 ·exact h.set b
def ay5(a:br m.ai.S)(h:o5 m)(b:Nat):o5 (lI m b).1:=by
 unfold lI;dsimp only
 repeat' split
 ·exact h
 ·exact VK (m:={m with ai:=_,now:=_}) h
 ·exact h
 ·exact h
 ·exact VK (m:=Cr _ _) h
 ·refine VK ?_;unfold vE;dsimp only
  repeat' split
  ·refine amu ?_ ?_ _;exact a;exact h
  ·refine amu ?_ ?_ _;exact a;exactλi=>h.set VJ i
  ·exactλi=>h.set (t:=b % 8) (r:={m.aB (b % 8)with t:=rF (m.aB (b % 8)).t}) (h (b % 8)) i
def ay6(n:Nat)(aF:List lB)(k:Nat):o5 (fT n aF k):=λi=>ae4 _
theorem VL{n:Nat}(h:1<=n/\n<=64)(aF:List lB){aK:lB}(a:aK.length<=4000): ∀k,k<=aK.length->o5 (runK n aF aK k).1
 |0,_=>ay6 _ _ _
 |k+1,b=>by
  rw[G6 (by omega)];exact ay5 (C6 h aF a k (by omega)).1.ok.ai.S (VL h aF a k (by omega)) _
def o6(x:dU):lA:=[.int .i64 x.op,.int .i64 x.a,.int .i64 x.b,.int .i64 x.c,.int .i64 x.n]
def ay7(v:AV)(l:List dU)(E:l.length<2147483648)(H:List ae)(h:Rd ⟨H,none⟩ v 5 (l.map o6))(lo:oN):
  D X0 (.fn (.func 61) [] []) [v] ⟨H,lo⟩=some (.ret (.bool (qi l)) ⟨H,lo⟩):=by
 refine aH Kx λN s=>?_
 unfold qi;by_cases c:l.length<=64
 ·have p: ¬((l.length:Nat):Int)>64:=by omega
  rw[aeD c,alk];simp only[go_sem,simprocAttr,Kx,h.bJ,p];refine dQ l.length (λk e W=>H<+:W/\e 0=v/\e 3= .int .i64 k/\ ∀j,j<k->rC (l.getD j default) l.length=true) 0 (by omega) ?_ ?_
  ·simp only[go_sem,simprocAttr];exact⟨aq8,λj o=>absurd o (aol j)⟩
  rintro k F e W ⟨d,q,e3,g⟩ n B;have hw:=h.mono (ak:=none) d;simp only[bO,F1,go_sem,simprocAttr,afp,q,e3,hw.bJ];refine⟨λC=>?_,λC=>?_⟩
  ·have b:k<l.length:=by omega
   have a: ∀x,Den.part true 5 (o6 x) 0=some (.agg (o6 x)):=λ_=>rfl
   have r: ∀x:dU,(o6 x)[0]?=some (.int .i64 x.op):=λ_=>rfl
   have z: ∀x:dU,(o6 x)[1]?=some (.int .i64 x.a):=λ_=>rfl
   have y: ∀x:dU,(o6 x)[2]?=some (.int .i64 x.b):=λ_=>rfl
   have w: ∀x:dU,(o6 x)[3]?=some (.int .i64 x.c):=λ_=>rfl
   have u: ∀x:dU,(o6 x)[4]?=some (.int .i64 x.n):=λ_=>rfl
   have t: ∀x:dU,(o6 x).length=5:=λ_=>rfl
   have rr: ∀x:dU,aI (o6 x)=0:=λ_=>rfl
   have A:=hw.ext (L:=[.box (o6 (l.getD k default)) none]) (ak:=none);have m: ∀L,fX ⟨W++L,none⟩ .sl v=some (.int .i64 l.length):=λL=>(hw.ext (L:=L) (ak:=none)).bJ
   simp(disch:=omega) only[go_sem,simprocAttr,hw.bW,hw.cp,↓a,B,t,rr,r];refine⟨by omega,?_⟩;generalize f:l.getD k default=x at*;refine wz 62 (.bool (!rC x l.length)) [0,3] rfl rfl ?_ λG=>?_
   ·unfold rC;simp(disch:=omega) only[R4,go_sem,simprocAttr,r,z,y,w,u,m,q]
    (repeat' (first|apply And.intro|intro _))
    all_goals(refine ahX AV.bool (aon.2 ?_);simp[];try(intros;omega))
   cases hm:rC x l.length
   ·simp only[F1,go_sem,simprocAttr];have a: (l.all λx=>rC x l.length)=false:=by
     rw[aAG];exact⟨x,by rw[<-f];exact dY b,by rw[hm];decide⟩
    rw[a];exact dk rfl (lL s λi g=>by obtain⟨L,rfl⟩:=d;rw[aev,acK (by omega)])
   ·simp(disch:=omega) only[go_sem,simprocAttr,q,e3];refine⟨b,d.trans (aok _ _),nF g (by rw[f,hm])⟩
  ·have a: (l.all λx=>rC x l.length)=true:=by
     rw[agx];intro x f;obtain⟨j,o,rfl⟩:=aqN f;have:=g j (by omega);rwa[show l.getD j default=l[j] by simp[List.getD,o]]at this
   rw[a];exact dk rfl (lL s λi g=>by obtain⟨L,rfl⟩:=d;rw[acK (by omega)])
 ·have p: ((l.length:Nat):Int)>64:=by omega
  rw[aeC c,ahM];simp(disch:=omega) only[F1,go_sem,simprocAttr,Kx,h.bJ,p]
def ay8(s:lB)(F:s.length<=1000)(H:List ae)(lo:oN):
  ∃v,D X0 (.fn (.func 33) [] []) [S s] ⟨H,lo⟩=some (.ret (.ax [v,.bool (decode s).isSome]) ⟨H,lo⟩):=by
 suffices A: ∃h,D X0 (.fn (.func 33) [] []) [S s] ⟨H,lo⟩=some h/\ (λh=> ∃v,h=aX.ret (.ax [v,.bool (decode s).isSome]) ⟨H,lo⟩) h by
  obtain⟨h,x,v,rfl⟩:=A;exact⟨v,x⟩
 refine cA Qx λN m=>?_
 simp only[go_sem,simprocAttr,Qx];refine dQ (s.length/6) (λk e W=>e 0=S (s.drop (6*k))/\H<+:W/\aP N W (e 4) 5 aeV ((gP s k).map o6)) 0 (by omega) ?_ ?_
 ·simp only[go_sem,simprocAttr];exact⟨aq8,aP.aq⟩
 rintro k G e W ⟨z,a,p⟩ n B;have C: (s.drop (6*k)).length=s.length-6*k:=amM ..;have f: (gP s k).length=k:=by simp[gP]
 simp only[bO,go_sem,simprocAttr,afi,z,B];refine⟨λE=>?_,λE=>?_⟩
 ·have c:k<s.length/6:=by omega
  have I:6<=(s.drop (6*k)).length:=by omega
  have q:uB (S (s.drop (6*k))) (some (.int .i64 6)) none=some (S (s.drop (6*(k+1)))):=by
   rw[Im,aez ⟨by omega,by omega⟩,ao5];rfl
  have d: ∀j,((s.drop (6*k)).getD j 0).toNat<256:=λj=>UInt8.toNat_lt _
  have Q:=d 0;have P:=d 1;have O:=d 2;have M:=d 3;have K:=d 4;have J:=d 5;simp(disch:=omega) only[go_sem,simprocAttr];refine⟨by omega,by omega,by omega,by omega,by omega,by omega,?_⟩;refine pE (N:=N) (H0:=H) (bytes:=40) (ys:=[o6 (qx (s.drop (6*k)))]) p a m (by omega) (by intro el t;rw[ae5.1 t];rfl) rfl (by rw[ae3,f];show(k+1)*40<=room;unfold room;omega) λv' R o r=>?_
  simp only[go_sem,simprocAttr,z,q];refine⟨c,r,?_⟩;rw[Vr,agp];exact o
 ·have c:k=s.length/6:=by omega
  by_cases y:s.length % 6=0
  ·have l: ¬(0:Int)< ((s.drop (6*k)).length:Nat):=by omega
   have b:=λlo=>ay7 (e 4) (gP s k) (by omega) W (iZ p none) lo
   have g:rD s=gP s k:=by rw[c];exact alE y
   have u:decode s=if qi (gP s k)then some (gP s k)else none:=by
    unfold decode;by_cases x:s.length<=384
    ·rw[aeu (by omega),g]
    ·rw[aez (by omega)];have:qi (gP s k)=false:=by unfold qi;rw[aeC (by rw[f];omega)];rfl
     rw[this];rfl
   rw[u];cases hm:qi (gP s k)with
   |true=>
    rw[hm]at b;simp only[go_sem,simprocAttr,l,b];rw[p.adS (by rw[bB (λ_=>rfl)];omega) (ae4 _)];exact⟨_,dk rfl (lL m λi w=>by obtain⟨L,rfl⟩:=a;rw[acK (by omega)])⟩
   |false=>
    rw[hm]at b;simp only[go_sem,simprocAttr,l,b];rw[oR rfl];exact⟨.aq,dk rfl (lL m λi w=>by obtain⟨L,rfl⟩:=a;rw[acK (by omega)])⟩
  ·have l: (0:Int)< ((s.drop (6*k)).length:Nat):=by omega
   have u:decode s=none:=by unfold decode;rw[aez (.inl y)]
   rw[u];simp only[go_sem,simprocAttr,l];rw[oR rfl];exact⟨.aq,dk rfl (lL m λi w=>by obtain⟨L,rfl⟩:=a;rw[acK (by omega)])⟩
def fu(aL:Int)(pv:AV)(aK:lB):lA:=[.int .i64 aL,pv,S aK]
structure Nh(aL:Int)(aF:List lB)(aK:lB)(pv:AV):Prop where
 pg: -9223372036854775808<=aL/\aL<9223372036854775808
 pr:Rv pv 1 (aF.map sC)
def vX(aF:List lB)(aK:lB):Bool:=decide (20<aF.length)|| (decide (6000<aK.length)||aF.any λp=>decide (1000<p.length))
def Ni(aF:List lB)(aK:lB):Bool:=vX aF aK||decide (1500<aK.length)
section
variable{aL:Int}{aF:List lB}{aK:lB}{pv:AV}(h:Nh aL aF aK pv)
include h
theorem ay9:aI (fu aL pv aK)=0:=by
 have:=cL h.pr (bB (λ_=>rfl) _);simp[fu,aI,AV.refs,S,this]
theorem aza(H:List ae)(lo:oN):D X0 (.fn (.func 32) [] []) [.agg (fu aL pv aK)] ⟨H,lo⟩=some (.ret (.bool (vX aF aK)) ⟨H,lo⟩):=by
 refine aH Fo λN f=>?_
 have g1: (fu aL pv aK)[1]?=some pv:=rfl;have g2: (fu aL pv aK)[2]?=some (S aK):=rfl;unfold vX;by_cases g:20<aF.length
 ·have a: (aF.length:Int)>20:=by omega
  rw[aeD g,aqF];simp only[F1,go_sem,simprocAttr,Fo,f,g1,h.pr.bJ,a]
 by_cases l:6000<aK.length
 ·have a: ¬(aF.length:Int)>20:=by omega
  have b: (aK.length:Int)>6000:=by omega
  rw[aeC g,aeD l,aqF,aqR];simp only[F1,go_sem,simprocAttr,Fo,f,g1,g2,h.pr.bJ,a,b]
 have a: ¬(aF.length:Int)>20:=by omega
 have b: ¬(aK.length:Int)>6000:=by omega
 rw[aeC g,aeC l,aqR,aqR];simp only[go_sem,simprocAttr,Fo,f,g1,g2,h.pr.bJ,a,b];refine dQ aF.length (λk e W=>W=H++[.box (fu aL pv aK) none]/\e 1= .ptr N 0/\e 3= .int .i64 k/\ ∀j,j<k->(λp:lB=>decide (1000<p.length)) (aF.getD j default)=false) 0 (by omega) ?_ ?_
 ·simp only[go_sem,simprocAttr];exactλj d=>absurd d (aol j)
 rintro k t e W ⟨rfl,e1,e3,i⟩ n s;simp(disch:=omega) only[bO,F1,go_sem,simprocAttr,afh,e1,e3,g1,h.pr.bJ];refine⟨λr=>?_,λr=>?_⟩
 ·have c:k<aF.length:=by omega
  simp(disch:=omega) only[bO,F1,go_sem,simprocAttr,e1,e3,h.pr.bW,h.pr.cp,↓pS];refine⟨by omega,λo=>?_,λo=>?_⟩
  ·rw[(ax2).2 ⟨_,dY c,aeD (by omega)⟩]
  ·exact⟨c,nF (p:=λj=>decide (1000< (aF.getD j default).length)=false) i (aeC (by omega))⟩
 ·have: (aF.any λp=>decide (1000<p.length))=false:=by
    rw[aAD];intro x m;obtain⟨j,d,rfl⟩:=aqN m;have:=i j (by omega);rw[show aF.getD j default=aF[j] by simp[List.getD,d]]at this;exactλq=>by rw[show decide (1000<aF[j].length)=false from this]at q;cases q
  rw[this]
theorem azb(H:List ae)(lo:oN):D X0 (.fn (.func 7) [] []) [.agg (fu aL pv aK)] ⟨H,lo⟩=some (.ret (.bool (Ni aF aK)) ⟨H,lo⟩):=by
 refine aH Ko λN e=>?_
 have g2: (fu aL pv aK)[2]?=some (S aK):=rfl;have c: (fu aL pv aK).length=3:=rfl;have b:List.take 3 (fu aL pv aK)=fu aL pv aK:=rfl;have e1:decide ((aK.length:Int)>1500)=decide (1500<aK.length):=agv.2 (by omega);have a:=aza h;unfold Ni;cases d:vX aF aK
 ·rw[d]at a;simp only[F1,go_sem,simprocAttr,Ko,e,g2,a,c,b,e1]
 ·rw[d]at a;simp only[F1,go_sem,simprocAttr,Ko,e,a,c,b]
theorem azc(i:vX aF aK=false)(H:List ae)(lo:oN): ∃kv,D X0 (.fn (.func 11) [] []) [.agg (fu aL pv aK)] ⟨H,lo⟩=some (.ret (.agg [.int .i64 aL,pv,kv]) ⟨H,lo⟩)/\GU aL aF aK pv kv:=by
 have g:aF.length<=20/\aK.length<=6000:=by
  unfold vX at i
  grind
 refine⟨.sl (aK.map bC) false,?_,⟨h.pr,.sl λel d=>by obtain⟨x,_,rfl⟩:=ago.1 d;rfl,by omega,by omega⟩⟩;refine aH Qq λN j=>?_
 have k: (fu aL pv aK)[0]?=some (.int .i64 aL):=rfl;have g1: (fu aL pv aK)[1]?=some pv:=rfl;have g2: (fu aL pv aK)[2]?=some (S aK):=rfl;have b:=cL h.pr (bB (λ_=>rfl) _);have c:Ik (S aK)=some (.sl (aK.map bC) false):=by
  have e:Ik (S aK)=if aK.length<=room then some (.sl (aK.map bC) false)else none:=rfl
  rw[e,aez (by unfold room;omega)]
 have f:cb (aK.map bC)=0:=bB (λ_=>rfl) _;have a:=nL (h.pr ⟨[],none⟩);simp only[F1,go_sem,simprocAttr,Qq,j,k,g1,g2,c,a.1,a.2,b,f,apA,amR]
theorem azd(t:vX aF aK=false)(H:List ae)(lo:oN):D X0 (.fn (.func 8) [] []) [.agg (fu aL pv aK)] ⟨H,lo⟩=some (.ret (.bool (nE ⟨aL,aF,aK.map UInt8.toNat⟩)) ⟨H,lo⟩):=by
 refine aH Qn λN F=>?_
 have A: (fu aL pv aK)[0]?=some (.int .i64 aL):=rfl;have g1: (fu aL pv aK)[1]?=some pv:=rfl;have g2: (fu aL pv aK)[2]?=some (S aK):=rfl;obtain⟨w,f⟩: ∃b,b=decide (1<=aL/\aL<=64/\1<=aF.length/\aF.length<=8/\aK.length<=4000):=⟨_,rfl⟩;have r:nE ⟨aL,aF,aK.map UInt8.toNat⟩=(w&&aF.all (λp=>(decode p).isSome)&& (aK.map UInt8.toNat).all lJ):=by unfold nE;rw[ae3,f]
 rw[r];simp only[go_sem,simprocAttr,Qn,F,A];refine wz 33 (.bool (!w)) [1] rfl rfl ?_ λG=>?_
 ·rw[f];simp(disch:=omega) only[R4,go_sem,simprocAttr,A,g1,g2,h.pr.bJ];generalize aF.length=np
  (repeat' (first|apply And.intro|intro _))
  all_goals(refine ahX AV.bool (aon.2 ?_);simp[];try(intros;omega))
 cases w
 ·simp(disch:=omega) only[F1,go_sem,simprocAttr];rfl
 have f:=(aqA f.symm);simp only[go_sem,simprocAttr];refine dQ aF.length (λk e W=>W=H++[.box (fu aL pv aK) none]/\e 1= .ptr N 0/\e 3= .int .i64 k/\ ∀j,j<k->(λp:lB=>(decode p).isSome) (aF.getD j default)=true) 0 (by omega) ?_ ?_
 ·simp only[go_sem,simprocAttr];exactλj g=>absurd g (aol j)
 rintro k I e W ⟨rfl,e1,e3,l⟩ n C;simp(disch:=omega) only[bO,go_sem,simprocAttr,afb,e1,e3,g1,h.pr.bJ];refine⟨λq=>?_,λq=>?_⟩
 ·have a:k<aF.length:=by omega
  have s: (aF.getD k default).length<=1000:=by
   unfold vX at t;simp only[azv,aAD,alR]at t;have:=t.2.2 _ (dY a);omega
  obtain⟨v,u⟩:=ay8 (aF.getD k default) s (H++[.box (fu aL pv aK) none]) none;simp(disch:=omega) only[go_sem,simprocAttr,h.pr.bW,h.pr.cp,↓pS,u];refine⟨by omega,?_⟩;cases m: (decode (aF.getD k default)).isSome
  ·simp(disch:=omega) only[F1,go_sem,simprocAttr];have: (aF.all λp=>(decode p).isSome)=false:=by
    rw[aAG];exact⟨_,dY a,by rw[m];decide⟩
   rw[this];rfl
  ·simp(disch:=omega) only[go_sem,simprocAttr,e1,e3];exact⟨a,nF (p:=λj=>(decode (aF.getD j default)).isSome=true) l m⟩
 have d: (aF.all λp=>(decode p).isSome)=true:=by
  rw[agx];intro x o;obtain⟨j,g,rfl⟩:=aqN o;have:=l j (by omega);rwa[show aF.getD j default=aF[j] by simp[List.getD,g]]at this
 rw[d,alk];clear l d;refine dQ aK.length (λk e W=>W=H++[.box (fu aL pv aK) none]/\e 1= .ptr N 0/\e 6= .int .i64 k/\ ∀j,j<k->lJ (aK.getD j 0).toNat=true) 0 (by omega) ?_ ?_
 ·simp only[go_sem,simprocAttr,e1];exactλj g=>absurd g (aol j)
 clear e1 e3 q;rintro i E e W ⟨rfl,e1,e6,l⟩ n C;simp(disch:=omega) only[bO,F1,go_sem,simprocAttr,afa,e1,e6,g2];refine⟨λq=>?_,λq=>?_⟩
 ·have a:i<aK.length:=by omega
  have o:=(aK.getD i 0).toNat_lt;refine⟨by omega,?_⟩;generalize z: (aK.getD i 0).toNat=c at*;refine wz 72 (.bool (!lJ c)) [1,6] rfl rfl ?_ λG=>?_
  ·unfold lJ;simp only[R4,go_sem,simprocAttr]
   (repeat' (first|apply And.intro|intro _))
   all_goals(refine ahX AV.bool (aon.2 ?_);simp[];try(intros;omega))
  cases m:lJ c
  ·simp(disch:=omega) only[F1,go_sem,simprocAttr];have: (aK.map UInt8.toNat).all lJ=false:=by
    rw[aAG];exact⟨c,ago.2 ⟨aK.getD i 0,by rw[show aK.getD i 0=aK[i] by simp[List.getD,a]];exact arj a,z⟩,by rw[m];decide⟩
   rw[this]
  ·simp(disch:=omega) only[go_sem,simprocAttr,e1,e6];exact⟨a,nF (p:=λj=>lJ (aK.getD j 0).toNat=true) l (by rw[z,m])⟩
 ·have d: (aK.map UInt8.toNat).all lJ=true:=by
    rw[agx];intro x o;obtain⟨y,B,rfl⟩:=ago.1 o;obtain⟨j,g,rfl⟩:=aqN B;have:=l j (by omega);rwa[show aK.getD j 0=aK[j] by simp[List.getD,g]]at this
  rw[d]
end
theorem amv(k:Nat): ∀t:List (Nat×lB×Nat),eu (.int .u8 k) (sj t)=some ((t.find? λx=>decide (k=x.1)).map λx=>.fn (.func x.2.2) [] [])
 | []=>rfl
 |a::t=>by
  have b:=amv k t;show eu (.int .u8 k) ((.int .u8 a.1,.fn (.func a.2.2) [] [])::sj t)=_;rw[Mk,List.find?_cons]
  grind
def aze{X:Ctx}{t:List (Nat×lB×Nat)}{g:Nat}(h:X.fV g=some (sj t))(k:Nat)(E:AS)(a:Bool):
  jx X.fV E .int .du (.lR g) (.int .u8 k) a=some (match(t.find? λx=>decide (k=x.1)).map λx=>x.2.2 with|some f=>if a then .ax [.fn (.func f) [] [],.bool true]else .fn (.func f) [] []|none=>if a then .ax [.du,.bool false]else .du):=by
 have e:jx X.fV E .int .du (.lR g) (.int .u8 k) a=match X.fV g with
  |some es=>(match eu (.int .u8 k) es with|some (some v)=>some (if a then .ax [v,.bool true]else v)|some none=>some (if a then .ax [.du,.bool false]else .du)|none=>none)
  |none=>none:=rfl
 rw[e,h];dsimp only;rw[amv];cases t.find? λx=>decide (k=x.1)<;>rfl
theorem aC9{t:List (Nat×lB×Nat)}(h:t.all (λx=>decide (x.1<n))=true)(a:n<=k): (t.find? λx=>decide (k=x.1))=none:=by grind
def azf(a:Nat): ((xa.find? λx=>decide (a=x.1)).map λx=>x.2.2)=rL a:=by
 by_cases h:a<23
 ·have: ∀i:Fin 23,((xa.find? λx=>decide (i.1=x.1)).map λx=>x.2.2)=rL i.1:=by decide
  exact this ⟨a,h⟩
 ·match a,h with
  |n+23,_=>rfl
theorem C8(a:Nat):kO a:=λE=>by
 rw[aze (X:=XA) (t:=xa) rfl,azf]
 grind
theorem amw{E:AS}(h:v.refs<=n): (finish n lo v E).1=v:=by
 obtain⟨W,l⟩:=E;cases l with
 |none=>rw[yH,aez h]
 |some j=>
  rw[D2,aez h]
  grind
def azg{H:List ae}(h:Rd ⟨H,none⟩ v 2 (l.map aA))(e:l.length*16<=room)(lo:oN):
  ∃v',D X0 (.fn (.func 112) [] []) [v] ⟨H,lo⟩=some (.ret v' ⟨H,lo⟩)/\Rv v' 2 (l.map aA):=by
 have d:=h.eq;have a:dA EK.sl AV.aq AV.aq=some true:=rfl;have e3:cb ([]:List lA)=0:=rfl;rcases Nd h with⟨rfl,he⟩|he
 ·refine⟨.aq,?_,by rw[he];exact .aq⟩;refine aH zn λN b=>?_
  simp(disch:=omega) only[F1,go_sem,simprocAttr,zn,a]
 ·by_cases c:l=[]
  ·subst c;refine⟨.sl [] true,?_,.sl (λel h=>by cases h)⟩;refine aH zn λN b=>?_
   have e1:dv ⟨H,none⟩ eX 2 16 (.sl [] true) []=some (.sl [] true,⟨H,none⟩):=rfl;simp(disch:=omega) only[F1,go_sem,simprocAttr,zn,he,d,e1,e3]
  ·refine⟨.sl (l.map aA) false,?_,.sl (λel h=>by obtain⟨x,_,rfl⟩:=ago.1 h;rfl)⟩;refine aH zn λN b=>?_
   obtain⟨e1,f⟩:=Nf (sz:=2) (ty:=eX) (bytes:=16) (lo:=lo) (g:=aA) b (by omega) (λ_=>rfl) (λ_=>rfl) c e;simp only[go_sem,simprocAttr,zn,he,d,e1,f]
def azh(h:Rv v 2 (l.map aA))(e:l.length<=64)(H:List ae)(lo:oN):
  ∃v',D X0 (.fn (.func 79) [] []) [.agg [v]] ⟨H,lo⟩=some (.ret v' ⟨H,lo⟩)/\Rv v' 2 (l.map aA):=by
 obtain⟨v',d,b⟩:=azg (H:=H++[.box [v] none]) (h _) (by unfold room;omega) none;refine⟨v',?_,b⟩;refine aH QR λN c=>?_
 have a:=cL b (bB (λ_=>rfl) _);simp only[F1,go_sem,simprocAttr,QR,c,d,a]
section
variable{p:cU}{q:Nat}{H:List ae}(h:H[q]?=some (.box (ck p) none))
include h
theorem azi(lo:oN):D X0 (.fn (.func 78) [] []) [.ptr q 0] ⟨H,lo⟩=some (.ret (.agg [nM p]) ⟨H,lo⟩):=by
 refine aH QQ λN d=>?_
 have b:dA EK.ptr (AV.ptr q 0) AV.dy=some false:=rfl;have a:=cL (xH p) (bB (λ_=>rfl) _);have c:=bf (L:=[.box [.aq] none]) h;simp only[F1,go_sem,simprocAttr,QQ,d,b,c,↓xJ,a]
theorem azj(lo:oN):D X0 (.fn (.func 43) [] []) [.ptr q 0] ⟨H,lo⟩=some (.ret (.int .i64 p.n) ⟨H,lo⟩):=by
 refine aH QC λN c=>?_
 have a:dA EK.ptr (AV.ptr q 0) AV.dy=some false:=rfl;have b: (ck p)[0]?=some (.int .i64 p.n):=rfl;simp(disch:=omega) only[F1,go_sem,simprocAttr,QC,a,h,b]
end
section
variable{S:Type}{V:YV S}{b:Nat}
def Nj(X:Ctx)(V:YV S)(b:Nat)(y:AV)(x:lA)(s:S)(Q:Bool->S->Prop):Prop:=
 ∀W,V.P s W->b<=W.length-> ∀lo,∃c d a,D X y x ⟨W,lo⟩=some (.ret (.bool c) ⟨a,lo⟩)/\V.P d a/\W.length<=a.length/\ (∀i,i<W.length-> ¬V.cH i->a[i]?=W[i]?)/\Q c d
theorem azk{X:Ctx}(hr: ∀s,V.row s=none)(r:b<=V.c){y:AV}{x:lA}{s:S}{Q:Bool->S->Prop}(h:IN X V b y x s Q):Nj X V b y x s Q:=by
 intro W g f lo;obtain⟨c,d,o,ak,n,m,a,_,l,k⟩:=h W g f lo;rcases l with⟨rfl,_⟩| ⟨j,q,p,_⟩
 ·exact⟨c,d,o,n,m,a.1,λi e hp=>a.2 i e hp (by grind),k⟩
 ·omega
structure fJ(V:YV S)(W0:List ae)(s:S)(W:List ae):Prop where
 P:V.P s W
 len:W0.length<=W.length
 fr: ∀i,i<W0.length-> ¬V.cH i->W[i]?=W0[i]?
variable(hV:V.Ok)(hr: ∀s,V.row s=none)(hp: ∀i,V.cH i->i<b)
include hV hr hp
theorem fJ.cut{W c:List ae}{s:S}(g:b<=W0.length)(h:fJ V W0 s W)(f:W0.length<=c.length)(d: ∀i,i<W0.length->c[i]?=W[i]?):fJ V W0 s c:=
 ⟨hV.st _ _ _ h.P λi a=>(by grind),f,λi a e=>(d i a).trans (h.fr i a e)⟩
omit hV hr hp in
theorem fJ.step{W a:List ae}{s c:S}(h:fJ V W0 s W)(j:V.P c a)(g:W.length<=a.length)(f: ∀i,i<W.length-> ¬V.cH i->a[i]?=W[i]?):fJ V W0 c a:=
 ⟨j,agD h.len g,λi e d=>by rw[f i (by have:=h.len;omega) d];exact h.fr i e d⟩
theorem azl(hb:b<=W0.length){y:AV}{yb:Nat}(Z:W0[yb]?=some (.box [y] none))(L: ¬V.cH yb){u:AV}(M:Rv v 2 (l.map aA))(Q:RB l){I:Nat->S->Prop}{J:S->Prop}{s:S}
  (t: ∀j,j<l.length-> ∀i,i< (l.getD j default).2-> ∀s,I (p+aL (l.take j)+i) s->Nj XC V b y [.int .i64 ((l.getD j default).1+i:Nat),u] s (λc a=>if c=true then I (p+aL (l.take j)+i+1) a else J a))
  (hP:V.P s W0) (h0:I p s) (lo:oN):
  ∃c a o,D XC (.fn (.func 77) [] [.ptr yb 0]) [v,u] ⟨W0,lo⟩=some (.ret (.bool c) ⟨o,lo⟩)/\fJ V W0 a o/\o.length=W0.length/\ (if c=true then I (p+aL l) a else J a):=by
 suffices h: ∃F,D XC (.fn (.func 77) [] [.ptr yb 0]) [v,u] ⟨W0,lo⟩=some F/\
   (λF=> ∃c a o,F=aX.ret (.bool c) ⟨o,lo⟩/\fJ V W0 a o/\o.length=W0.length/\ (if c=true then I (p+aL l) a else J a)) F by
  obtain⟨F,h1,c,a,o,rfl,q⟩:=h;exact⟨c,a,o,h1,q⟩
 refine uf QP rfl rfl rfl λN hN=>?_
 have DT:=dZ Z;have fin: ∀ {W:List ae} {s:S} {c:Bool},fJ V W0 s W->finish N lo (.bool c) ⟨W,none⟩=(.bool c,⟨W.take N,lo⟩)/\fJ V W0 s (W.take N)/\ (W.take N).length=W0.length:=λ {W s c} R=>by
  have Q:=R.len;refine⟨oR rfl,R.cut hV hr hp hb (by rw[agw];omega) (λi hi=>agz (by omega)),by rw[agw];omega⟩
 simp only[go_sem,simprocAttr,QP,M.bJ];refine dQ l.length (λk e W=> ∃a,I (p+aL (l.take k)) a/\fJ V W0 a W/\e 1=u/\e 2= .ptr yb 0/\e 9=v/\e 10= .int .i64 l.length/\e 11= .int .i64 k) 0 (by omega) ?_ ?_
 ·simp only[go_sem,simprocAttr];exact⟨s,by simpa[aL]using h0,⟨hP,ae0 _,λ_ _ _=>rfl⟩⟩
 rintro k R e W1 ⟨s1,T,z,e1,H,B,g,f⟩ n hn;simp only[bO,F1,go_sem,simprocAttr,afy,B,g,f];refine⟨λh=>?_,λh=>?_⟩
 rotate_left
 ·obtain rfl:k=l.length:=by omega
  rw[agk]at T;obtain⟨f1,f2,f3⟩:=fin (c:=true) z;exact⟨_,_,_,rfl,f2,f3,T⟩
 have m:k<l.length:=by omega
 have uN:=Q.2 _ (dY m);have P:=L9 m;have t:=t k m;generalize O:l.getD k default=r at*;have L4:N<=n:=by have:=z.len;omega
 simp(disch:=omega) only[go_sem,simprocAttr,M.bW,M.cp,h,hn,O];refine dQ r.2 (λi e W=> ∃a,I (p+aL (l.take k)+i) a/\fJ V W0 a W/\W[n]?=some (.box (aA r) none)/\e 1=u/\e 2= .ptr yb 0/\e 7= .ptr n 0/\e 9=v/\e 10= .int .i64 l.length/\e 11= .int .i64 k/\e 16= .int .i64 r.2/\e 17= .int .i64 i) 0 (by omega) ?_ ?_
 ·simp(disch:=omega) only[go_sem,simprocAttr,e1,H,B,g,f];exact⟨s1,T,z.cut hV hr hp hb (by have:=z.len;rw[aeZ];omega) λi hi=>acK (by have:=z.len;omega)⟩
 rintro i hi e W2 ⟨s2,A,d,G,e1,H,e7,B,g,f,E,C⟩ n2 hn2;simp only[bO,go_sem,simprocAttr,afx,e1,H,B,g,f,E,C];refine⟨λh2=>?_,λh2=>?_⟩
 rotate_left
 ·obtain rfl:i=r.2:=by omega
  have:=Q.1;exact⟨m,s2,by rw[P,<-ajK];exact A,d,ahX _ (wrap_i64 (by omega) (by omega))⟩
 have w:i<r.2:=by omega
 obtain⟨c,s3,W3,K,p2,p3,Y,X⟩:=t i w s2 A W2 d.P (by have:=d.len;omega) none;have x:=d.step p2 p3 Y;have U:W2[yb]?=some (.box [y] none):=by rw[d.fr yb (by omega) L];exact Z
 have w3:W3[n]?=some (.box (aA r) none):=by rw[Y n (dZ G) (λq=>by have:=hp _ q;omega)];exact G
 have r0: (aA r)[0]?=some (.int .i64 r.1):=rfl;rw[anc]at K;cases c
 ·obtain⟨f1,f2,f3⟩:=fin (c:=false) x;simp(disch:=omega) only[go_sem,simprocAttr,e1,e7,U,G,K];exact⟨_,_,_,by rw[f1],f2,f3,X⟩
 ·simp(disch:=omega) only[go_sem,simprocAttr,e1,H,e7,B,g,f,E,C,U,G,K];exact⟨w,s3,X,x,w3⟩
end
def iJ(l:List aD):lN:=l.flatMap gl
def amx(r:aD): (gl r).length=r.2:=by simp[gl]
theorem vY: ∀l:List aD,(iJ l).length=aL l
 | []=>rfl
 |r::l=>by
  show(gl r++iJ l).length=r.2+aL l;rw[aeZ,amx,vY l]
def G7(a b:List aD):iJ (a++b)=iJ a++iJ b:=amL
theorem VM[Inhabited α]{l:List α}(h:k<l.length):l.getD k default=l[k]:=by grind
def amy[Inhabited α]{l:List α}(h:k<l.length):l=l.take k++(l.getD k default::l.drop (k+1)):=by simp_all
def amz(c:j<l.length)(a:i< (l.getD j default).2): (iJ l)[aL (l.take j)+i]?=some ((l.getD j default).1+i):=by
 have d:=ahX iJ (amy c);rw[d,G7];generalize l.getD j default=r at*;rw[ags (by rw[vY];omega),vY,aid];show(gl r++iJ (l.drop (j+1)))[i]?=_;rw[acK (by rw[amx];exact a)];simp[gl,a]
def amA{β:Type}[Inhabited α]{l:List α}(f:α->List β)(h:k<l.length): (l.take (k+1)).flatMap f=(l.take k).flatMap f++f (l.getD k default):=by
 rw[agu,adQ h,VM h,amL];simp
theorem amB{β:Type}[Inhabited α]{l:List α}(f:α->List β)(h:k<l.length):l.flatMap f=(l.take k).flatMap f++(f (l.getD k default)++(l.drop (k+1)).flatMap f):=by
 have a:=ahX (List.flatMap f) (amy h)
 grind
def jO(m:aW)(t:Nat):aD:=match nD m t with|some c=>c.run|none=>(0,0)
def nQ(m:aW)(h:Nat):List aD:=(aM m.ai.S.T h).1.runs
def pF(P i:Nat)(k:Nat):lA:=[.int .i64 k,.ptr P i]
def cY(m:aW):List (Nat×Nat):=
 (iJ m.ai.P.free).map (·,0)++((iJ ((bo m.ai.S.T.b).flatMap (nQ m))).map (·,1)++((iJ ((List.range 8).flatMap λt=>[jO m t])).map (·,2)++m.ai.Q.map (·,3)))
def rS(P:Nat)(m:aW):List lA:=(cY m).map λx=>pF P x.2 x.1
def azm(P:Nat)(m:aW):rS P m=(iJ m.ai.P.free).map (pF P 0)++((iJ ((bo m.ai.S.T.b).flatMap (nQ m))).map (pF P 1)++((iJ ((List.range 8).flatMap λt=>[jO m t])).map (pF P 2)++m.ai.Q.map (pF P 3))):=by
 unfold rS cY;simp only[agp,ax7];rfl
section
variable{S:Type}{V:YV S}{b:Nat}(hV:V.Ok)(hr: ∀s,V.row s=none)(hp: ∀i,V.cH i->i<b)
include hV hr hp
theorem VN(t:b<=W0.length){y:AV}{yb:Nat}(n:W0[yb]?=some (.box [y] none))(d: ¬V.cH yb){P c:Nat}(p:Rv v 2 (l.map aA))(q:RB l){I:Nat->S->Prop}{J:S->Prop}{s:S}
  {xs A B:List lA} (o:xs=A++((iJ l).map (pF P c)++B))  (r:k=A.length)
  (e: ∀j x s,xs[j]?=some x->I j s->Nj XC V b y x s (λc a=>if c=true then I (j+1) a else J a))
  (u:V.P s W0) (z:I k s) (lo:oN):
  ∃g a f,D XC (.fn (.func 77) [] [.ptr yb 0]) [v,.ptr P c] ⟨W0,lo⟩=some (.ret (.bool g) ⟨f,lo⟩)/\fJ V W0 a f/\f.length=W0.length/\ (if g=true then I (k+aL l) a else J a):=by
 refine azl hV hr hp t n d p q (λj h i m s w=>?_) u z lo;refine e _ _ s ?_ w;rw[o,r,ajK,ags (by omega),aid,acK,agA,amz h m]
 ·rfl
 ·have:=adN.1 (amz h m)
  grind
end
section
set_option maxHeartbeats 2000000
theorem azn{N:Nat}{H W:List ae}{ty:TypeId}(h:aP N H v sz ty af)(e: ∀i,N<=i->i<H.length->W[i]?=H[i]?):aP N W v sz ty af:=by
 refine⟨h.1,?_⟩;rcases h.2 with q| ⟨id,aj,d,b,a⟩
 ·grind
 grind
def amC(a b:List aD):aL (a++b)=aL a+aL b:=by unfold aL;simp
def azo{x:Core}:Den.part true 96 (bQ x q qv) 0=some (.agg (b9 x.S.T.b)):=by
 unfold bQ;rw[mK (by rw[en];omega) (by omega)];unfold bn;rw[mK (by rw[iw];omega) (by omega)];exact Ti
def azp{x:Core}:Den.part true 480 (bQ x q qv) 0=some (.agg (aN x.S.T)):=by
 unfold bQ;rw[mK (by rw[en];omega) (by omega)];exact vt
section
variable{n M p q:Nat}{m:aW}{qv ev cv:AV}{aE aO:Nat->AV}{H:List ae}(ha:bI n M p q m qv ev aE aO H)(hm:dh m)(G8: ∀i,(m.aB i).c.aY.length<1073741824)(G9:Rv cv 1 (m.ai.Q.map fS))(hQl:m.ai.Q.length<1073741824)
include ha hm G8 G9 hQl
theorem azr{S:Type}{V:YV S}{b:Nat}(hV:V.Ok)(hr: ∀s,V.row s=none)(hc:b<=V.c)(amD: ∀s W,V.P s W-> ∃R,W=H++R)(a P:Nat):
  PB XC V b (.fn (.func 76) [] [.ptr (a+2) 0,.ptr (a+1) 0,.ptr a 0]) a [.box [.ptr M 0] none,.box [.ptr P 0] none,.box (bQ m.ai q cv) none] (rS P m):=by
 intro yi I J Gj G W s hP h0 uP aDa hG lo;obtain⟨y,hy⟩: ∃y,y=AV.fn (.yield yi) [] []:=⟨_,rfl⟩;rw[<-hy]at G⊢;have hp: ∀i,V.cH i->i<b:=λi u=>(Gj i u).1
 have G: ∀j x s,(rS P m)[j]?=some x->I j s->Nj XC V b y x s (λc f=>if c=true then I (j+1) f else J f):=λj x s h1 h2=>azk hr hc (G j x s h1 h2)
 suffices h: ∃cr,D XC (.fn (.func 76) [] [.ptr (a+2) 0,.ptr (a+1) 0,.ptr a 0]) [y] ⟨W,lo⟩=some cr/\
   (λcr=> ∃f d,cr=aX.ret (.ax []) ⟨d,lo⟩/\fJ V W f d/\ (I (rS P m).length f\/J f)) cr by
  obtain⟨cr,h1,f,d,rfl,q1,q2⟩:=h;exact⟨f,d,lo,h1,q1.P,q2,by have:=q1.len;omega,λi u hq _=>q1.fr i (by omega) hq,.inl ⟨rfl,hr f⟩⟩
 have MV: ∀E,od E y none=some (.ptr E.heap.length 0,E.push (.box [y] none)):=λE=>by rw[hy];rfl
 refine uf KB rfl rfl rfl λN hN=>?_
 obtain rfl:N=b:=by omega
 have g0:W[a]?=some (.box [.ptr M 0] none):=hG 0 (by simp);have g1:W[a+1]?=some (.box [.ptr P 0] none):=hG 1 (by simp);have g2:W[a+2]?=some (.box (bQ m.ai q cv) none):=hG 2 (by simp);have np: ∀j,j<3-> ¬V.cH (a+j):=λj hj h=>(Gj _ h).2 ⟨by omega,by simp;omega⟩
 have Z:=azm P m;have w0: ∀L,(W++L)[a]?=some (.box [.ptr M 0] none):=λL=>bf g0
 have w1: ∀L,(W++L)[a+1]?=some (.box [.ptr P 0] none):=λL=>bf g1
 have w2: ∀L,(W++L)[a+2]?=some (.box (bQ m.ai q cv) none):=λL=>bf g2
 obtain⟨R,hR⟩:=amD s W hP;have Dx:=c0 (azi (H:=W++[.box [y] none]) (by rw[hR,aev];exact(ha.app _).co.ib) none);obtain⟨fv,f1,f2⟩:=azh (xH m.ai.P) hm.ai.P.free.ok.1 (W++[.box [y] none]) none;have f1:=c0 f1;have Ha: ¬V.cH N:=λh=>by have:=hp _ h;omega
 have down: ∀ {z:List ae} {f:S} {d:List ae},N<=z.length->(∀i,i<N-> ¬V.cH i->z[i]?=W[i]?)->fJ V z f d->fJ V W f d:=λ {z f d} h1 h2 h=>⟨h.P,by have:=h.len;omega,λi u hq=>(h.fr i (by omega) hq).trans (h2 i (by omega) hq)⟩
 have fin: ∀ {f:S} {d:List ae},fJ V W f d->finish N lo (.ax []) ⟨d,none⟩=(.ax [],⟨d.take N,lo⟩)/\fJ V W f (d.take N):=λ {f d} hk=>by
  have hl:=hk.len;exact⟨oR rfl,hk.cut hV hr hp (by omega) (by rw[agw];omega) (λi u=>agz (by omega))⟩
 have WZ: ∀ {L:List ae},∀i,i<N-> ¬V.cH i->(W++L)[i]?=W[i]?:=λi u _=>acK (by omega)
 have D9:V.P s (W++[.box [y] none]):=hV.st _ _ _ hP λi u=>by
  rcases u with u|u
  ·exact acK (by have:=hp i u;omega)
  ·rw[hr]at u;cases u
 have wk:RB m.ai.P.free:=⟨by have:=hm.ai.P.free.ok.1;omega,λx Z=>by have:=(hm.ai.P.free.bd x Z).2;omega⟩;have wu: (W++[.box [y] none])[N]?=some (.box [y] none):=by rw[dq hN];rfl
 obtain⟨c,s1,W1,a1,a2,a3,a4⟩:=VN (J:=J) hV hr hp (W0:=W++[.box [y] none]) (by simp;omega) (y:=y) (yb:=N) wu Ha (P:=P) (c:=0) f2 wk (A:=[]) Z rfl G D9 h0 none;have k1:fJ V W s1 W1:=down (by simp;omega) WZ a2;cases c
 ·obtain⟨e1,e2⟩:=fin k1;simp(disch:=omega) only[go_sem,simprocAttr,KB,hN,MV,w1,w2,GK,Dx,f1,a1];rw[e1];exact⟨_,_,rfl,e2,.inr a4⟩
 have v2:W1[a+2]?=some (.box (bQ m.ai q cv) none):=by rw[k1.fr _ (by have:=dZ g2;omega) (np 2 (by omega))];exact g2
 have Bd:W1.length=N+1:=by rw[a3];simp;omega
 obtain⟨v,L,i1,i2⟩:=L6 m.ai.S.T.b hm.ai.S.T.b (N+1) W1 Bd none;have i1':D X (.fn (.func 19) [] []) [.agg (b9 m.ai.S.T.b)] ⟨W1,none⟩=some _:=ql (p:=mn) rfl i1;have i1:=cX i1';have Q:=(iZ i2 none).bJ;have hlb:96<=(bQ m.ai q cv).length:=by rw[An];omega
 have hb:=azo (x:=m.ai) (q:=q) (qv:=cv);simp(disch:=omega) only[go_sem,simprocAttr,KB,hN,MV,w1,w2,GK,Dx,f1,a1,v2,↓hb,i1,Q];obtain⟨z,U⟩: ∃z,z=W1++L:=⟨_,rfl⟩;have hBl:N+1<=z.length:=by rw[U,aeZ];omega
 have Nk: ∀i,i<N-> ¬V.cH i->z[i]?=W[i]?:=λi u hq=>by rw[U,acK (by omega)];exact k1.fr i (by omega) hq
 have hBy:z[N]?=some (.box [y] none):=by rw[U,acK (by omega),a2.fr N (by simp;omega) Ha];exact wu
 have kB:fJ V z s1 z:=by
  refine⟨hV.st _ _ _ a2.P λi u=>?_,ae0 _,λ_ _ _=>rfl⟩;rcases u with u|u
  ·rw[U];exact acK (by have:=hp i u;omega)
  ·rw[hr]at u;cases u
 rw[<-U];rw[<-U]at i2;clear Q i1 i1' a1 Dx f1 hb;have facts: ∀ {f:S} {d:List ae},fJ V z f d->d[N]?=some (.box [y] none)/\d[a]?=some (.box [.ptr M 0] none)/\d[a+1]?=some (.box [.ptr P 0] none)/\d[a+2]?=some (.box (bQ m.ai q cv) none)/\N+1<=d.length/\ (∃R,d=H++R)/\aP (N+1+1) d v 1 b8 ((bo m.ai.S.T.b).map hC):=λ {f d} h=>by
  have hl:=h.len;have l2:=dZ g2;refine⟨?_,?_,?_,?_,by omega,amD _ _ h.P,azn i2 λi h1 h2=>h.fr i h2 λhq=>by have:=hp i hq;omega⟩
  ·rw[h.fr N (by omega) Ha];exact hBy
  ·rw[h.fr a (by omega) (np 0 (by omega)),Nk a (by omega) (np 0 (by omega))];exact g0
  ·rw[h.fr _ (by omega) (np 1 (by omega)),Nk _ (by omega) (np 1 (by omega))];exact g1
  ·rw[h.fr _ (by omega) (np 2 (by omega)),Nk _ (by omega) (np 2 (by omega))];exact g2
 have T: ∀ {f:S} {d:List ae},fJ V z f d->finish N lo (.ax []) ⟨d,none⟩=(.ax [],⟨d.take N,lo⟩)/\fJ V W f (d.take N):=λ {f d} hk=>fin (down (by omega) Nk hk)
 have push: ∀ {f:S} {d:List ae} (o:ae),fJ V z f d->V.P f (d++[o]):=λ {f d} o h=>hV.st _ _ _ h.P λi u=>by
  rcases u with u|u
  ·exact acK (by have:=hp i u;have:=h.len;omega)
  ·rw[hr]at u;cases u
 have bk: ∀ {f s2:S} {d F:List ae} {o:ae},fJ V z f d->fJ V (d++[o]) s2 F->fJ V z s2 F:=λ {f s2 d F o} h h2=>⟨h2.P,by have:=h.len;have:=h2.len;simp at this;omega,λi u hq=>by
  have:=h.len;rw[h2.fr i (by simp;omega) hq,acK (by omega)];exact h.fr i u hq⟩
 obtain⟨l,hl⟩: ∃l,l=bo m.ai.S.T.b:=⟨_,rfl⟩;rw[<-hl]at Z i2 facts⊢;obtain⟨Y,Nl⟩: ∃Y,Y=List.range 8:=⟨_,rfl⟩;rw[<-Nl]at Z;have L0:l.length<=32:=by rw[hl];exact lC _
 refine dQ l.length (λk e d=> ∃f,I (aL m.ai.P.free+aL ((l.take k).flatMap (nQ m))) f/\fJ V z f d/\e 1= .ptr (a+2) 0/\e 2= .ptr (a+1) 0/\e 3= .ptr a 0/\e 4= .ptr N 0/\e 5= .fn (.func 77) [] [.ptr N 0]/\e 31=v/\e 32= .int .i64 l.length/\e 33= .int .i64 k) 0 (by omega) ?_ ?_
 ·simp(disch:=omega) only[go_sem,simprocAttr];exact⟨s1,by simpa[aL]using a4,kB⟩
 rintro k hk e F ⟨s2,w,K,e1,e2,e3,e4,e5,e31,e32,e33⟩ n2 C;obtain⟨u0,u1,u2,u3,u4,⟨R2,u5⟩,u6⟩:=facts K;simp(disch:=omega) only[bO,go_sem,simprocAttr,afw,e31,e32,e33];refine⟨λh=>?_,λh=>?_⟩
 ·have r:k<l.length:=by omega
  have jR:Rd ⟨F,none⟩ v 1 (l.map hC):=iZ u6 none;have hL:=jR.cp (X:=XC) (off:=0) (n:=1) (agg:=false) r;rw[pH]at hL;have gA:l.getD k default∈bo m.ai.S.T.b:=by rw[<-hl];exact dY r
  have gA:=(gi hm.ai.S.T.b).1 gA;have Nm:=amA (nQ m) r;have Nn:=amB (nQ m) r;generalize l.getD k default=h at*;have hh:=fF gA;have IK:=c0 (ue m.ai.S.T hm.ai.S.T h hh F none);have hro:=hm.ai.S.T.get h;obtain⟨c,s3,W3,b1,b2,b3,b4⟩:=VN (J:=J) hV hr hp (W0:=F++[.box (bS (aM m.ai.S.T h).1) none]) (by simp;omega) (y:=y) (yb:=N) (bf u0) Ha (P:=P) (c:=1) (l:=nQ m h) (v:=ek (aM m.ai.S.T h).1.runs) (mM _) hro.rb.1
   (A:=(iJ m.ai.P.free).map (pF P 0)++(iJ ((l.take k).flatMap (nQ m))).map (pF P 1)) (B:=(iJ ((l.drop (k+1)).flatMap (nQ m))).map (pF P 1)++((iJ (Y.flatMap λt=>[jO m t])).map (pF P 2)++m.ai.Q.map (pF P 3)))
   (by rw[Z,Nn,G7,G7];simp only[agp,aev]) (by simp only[aeZ,ae3,vY]) G (push _ K) w none
  have k3:=bk K b2;have hT:=azp (x:=m.ai) (q:=q) (qv:=cv);have r2: (bS (aM m.ai.S.T h).1)[2]?=some (ek (aM m.ai.S.T h).1.runs):=rfl;have v1: (F++[.box (bS (aM m.ai.S.T h).1) none])[a+1]?=some (.box [.ptr P 0] none):=bf u2;cases c
  ·obtain⟨q1,q2⟩:=T k3;simp(disch:=omega) only[go_sem,simprocAttr,e1,e2,e5,C,jR.bW,hL,u3,↓hT,IK,ml,jK,v1,b1];exact⟨by omega,by rw[q1];exact⟨_,_,rfl,q2,.inr b4⟩⟩
  simp(disch:=omega) only[go_sem,simprocAttr,e1,e2,e3,e4,e5,e31,e32,e33,C,jR.bW,hL,u3,↓hT,IK,ml,jK,v1,b1];refine⟨by omega,r,s3,?_,k3⟩;rw[Nm,amC,<-ajK];exact b4
 obtain rfl:k=l.length:=by omega
 rw[agk]at w;clear u0 u1 u2 u3 u4 u5 u6;refine dQ 8 (λk e d=> ∃f,I (aL m.ai.P.free+aL (l.flatMap (nQ m))+aL ((Y.take k).flatMap λt=>[jO m t])) f/\fJ V z f d/\e 1= .ptr (a+2) 0/\e 2= .ptr (a+1) 0/\e 3= .ptr a 0/\e 4= .ptr N 0/\e 5= .fn (.func 77) [] [.ptr N 0]/\e 56= .int .i64 k) 0 (by omega) ?_ ?_
 ·simp(disch:=omega) only[go_sem,simprocAttr,e1,e2,e3,e4,e5];exact⟨s2,by simpa[aL]using w,K⟩
 rintro k hk e F ⟨s2,w,K,e1,e2,e3,e4,e5,e56⟩ n2 C;obtain⟨u0,u1,u2,u3,u4,⟨R2,u5⟩,u6⟩:=facts K;simp(disch:=omega) only[bO,go_sem,simprocAttr,afv,e1,e3,e56];refine⟨λh=>?_,λh=>?_⟩
 ·have r:k<Y.length:=by rw[Nl];simp;omega
  have Nm:=amA (λt=>[jO m t]) r;have Nn:=amB (λt=>[jO m t]) r;have hgk:Y.getD k default=k:=by rw[VM r];simp[Nl]
  rw[hgk]at Nm Nn;obtain⟨rv,c1,c2⟩:=ams (H:=F) (by rw[u5];exact ha.app _) G8 k none;obtain⟨cl,kZ,O⟩: ∃cl,(∃b,oZ m k rv= .ax [.agg cl,.bool b])/\cl.length=12/\Den.part true 2 cl 9=some (.agg (aA (jO m k)))/\aJ [(.int .i64 0),(.int .u8 0),(.int .u32 0),(.int .u32 0),(.int .u32 0),(.int .u32 0),(.int .u64 0),(.bool false),.aq,(.int .i64 0),(.int .i64 0),(.int .i64 0)] 0 cl=cl/\aI cl=0:=by
   unfold oZ jO;cases hmu:nD m k with
   |none=>exact⟨_,⟨_,rfl⟩,rfl,rfl,rfl,rfl⟩
   |some c=>exact⟨_,⟨_,rfl⟩,rfl,rfl,rfl,by rw[VH];exact cL (c2 c hmu) (bB (λ_=>rfl) _)⟩
  obtain⟨⟨b0,hu⟩,amJ,O,Mg,IG⟩:=And.intro kZ O;have hur: (jO m k).1<65536/\ (jO m k).2<65536:=by
   unfold jO nD;split
   ·rename_i c hc;split at hc
    ·cases hc;exact(hm.c k).run
    ·cases hc
   ·decide
  have MM: ∀g,Rv (.sl [aA (jO m k)] g) 2 ([jO m k].map aA):=λg=>.sl (by intro el h;simp at h;subst h;rfl)
  obtain⟨c,s3,W3,b1,b2,b3,b4⟩:=VN (J:=J) hV hr hp (W0:=F++[.box cl none]) (by simp;omega) (y:=y) (yb:=N) (bf u0) Ha (P:=P) (c:=2) (l:=[jO m k]) (MM true) ⟨by simp,λx Z=>by simp at Z;subst Z;omega⟩
   (A:=(iJ m.ai.P.free).map (pF P 0)++((iJ (l.flatMap (nQ m))).map (pF P 1)++(iJ ((Y.take k).flatMap λt=>[jO m t])).map (pF P 2))) (B:=(iJ ((Y.drop (k+1)).flatMap λt=>[jO m t])).map (pF P 2)++m.ai.Q.map (pF P 3))
   (by rw[Z,Nn,G7,G7];simp only[agp,aev]) (by simp only[aeZ,ae3,vY,ajK]) G (push _ K) w none
  have k3:=bk K b2;have v1: (F++[.box cl none])[a+1]?=some (.box [.ptr P 0] none):=bf u2;rw[hu]at c1;cases c
  ·obtain⟨q1,q2⟩:=T k3;simp(disch:=omega) only[go_sem,simprocAttr,e2,e5,C,u1,c1,Mg,amJ,IG,v1,↓O,b1];rw[q1];exact⟨_,_,rfl,q2,.inr b4⟩
  simp(disch:=omega) only[go_sem,simprocAttr,e1,e2,e3,e4,e5,e56,C,u1,c1,Mg,amJ,IG,v1,↓O,b1];refine⟨by omega,s3,?_,k3⟩;rw[Nm,amC,<-ajK];exact b4
 obtain rfl:k=8:=by omega
 rw[show Y.take 8=Y by rw[Nl];rfl]at w;clear u0 u1 u2 u4 u5 u6;simp(disch:=omega) only[go_sem,simprocAttr,u3,U5,G9.bJ];refine dQ m.ai.Q.length (λk e d=> ∃f,I (aL m.ai.P.free+aL (l.flatMap (nQ m))+aL (Y.flatMap λt=>[jO m t])+k) f/\fJ V z f d/\e 1= .ptr (a+2) 0/\e 2= .ptr (a+1) 0/\e 3= .ptr a 0/\e 4= .ptr N 0/\e 76=cv/\e 77= .int .i64 m.ai.Q.length/\e 78= .int .i64 k) 0 (by omega) ?_ ?_
 ·simp(disch:=omega) only[go_sem,simprocAttr,e1,e2,e3,e4];exact⟨s2,w,K⟩
 rintro k hk e F ⟨s2,w,K,e1,e2,e3,e4,e76,e77,e78⟩ n2 C;obtain⟨u0,u1,u2,u3,u4,⟨R2,u5⟩,u6⟩:=facts K;simp(disch:=omega) only[bO,F1,go_sem,simprocAttr,afu,e76,e77,e78];refine⟨λh=>?_,λh=>?_⟩
 ·have r:k<m.ai.Q.length:=by omega
  have No: (rS P m)[aL m.ai.P.free+aL (l.flatMap (nQ m))+aL (Y.flatMap λt=>[jO m t])+k]?=some (pF P 3 (m.ai.Q.getD k default)):=by
   rw[Z,<-aev,<-aev,ags (by simp only[aeZ,ae3,vY];omega)];simp only[aeZ,ae3,vY,aid,agA];rw[adQ r,VM r];rfl
  have hL:=G9.cp (X:=XC) (E:=⟨F,none⟩) (off:=0) (n:=1) (agg:=false) r;have pq: ∀x:Nat,Den.part false 1 (fS x) 0=some (.int .i64 x):=λ_=>rfl
  rw[pq]at hL;have hQi:m.ai.Q.getD k default<2147483648:=hm.ai.Q _ (dY r);generalize m.ai.Q.getD k default=pg at*;obtain⟨c,s3,W3,b1,b2,b3,b4,b5⟩:=G _ _ s2 No w F K.P (by omega) none;have b1:D XC y [.int .i64 pg,.ptr P 3] ⟨F,none⟩=_:=b1;have k3:=K.step b2 b3 b4;cases c
  ·obtain⟨q1,q2⟩:=T k3;simp(disch:=omega) only[go_sem,simprocAttr,e2,e4,G9.bW,hL,C,u0,u2,b1];exact⟨by omega,by rw[q1];exact⟨_,_,rfl,q2,.inr b5⟩⟩
  simp(disch:=omega) only[go_sem,simprocAttr,e1,e2,e3,e4,e76,e77,e78,G9.bW,hL,C,u0,u2,b1];exact⟨by omega,r,s3,b5,k3⟩
 obtain rfl:k=m.ai.Q.length:=by omega
 obtain⟨q1,q2⟩:=T K;refine⟨_,_,rfl,q2,.inl ?_⟩;have: (rS P m).length=aL m.ai.P.free+aL (l.flatMap (nQ m))+aL (Y.flatMap λt=>[jO m t])+m.ai.Q.length:=by
  rw[Z];simp only[aeZ,ae3,vY];omega
 rw[this];exact w
end
end
def xQ(m:aW):Nat:=aL m.ai.P.free
def xR(m:aW):Nat:=aL ((bo m.ai.S.T.b).flatMap (nQ m))
def xS(m:aW):Nat:=aL ((List.range 8).flatMap λt=>[jO m t])
section
set_option maxHeartbeats 2000000
section
variable{n M p q:Nat}{m:aW}{qv ev:AV}{aE aO:Nat->AV}{H:List ae}(ha:bI n M p q m qv ev aE aO H)(hQ:m.ai.Q.length<1073741824)
include ha hQ
theorem azw(P:Nat)(i:P<H.length)(K:Nat)(k:H.length=K)(lo:oN): ∃cv,Rv cv 1 (m.ai.Q.map fS)/\D XC (.fn (.func 42) [] []) [.ptr M 0,.ptr P 0] ⟨H,lo⟩=some (.ret (.fn (.func 76) [] [.ptr (K+2) 0,.ptr (K+1) 0,.ptr K 0]) ⟨H++[.box [.ptr M 0] none,.box [.ptr P 0] none,.box (bQ m.ai q cv) none],lo⟩):=by
 obtain⟨cv,f,b⟩:=Ng (ha.app [.box [.ptr M 0] none,.box [.ptr P 0] none]) hQ none;refine⟨cv,b,?_⟩;refine aH QB λN e=>?_
 obtain rfl:K=N:=by omega
 have j:=ha.lt;have a:kp.length=1274:=by rw[Nc,aeZ,en,aeZ,aeZ,eC];rfl
 have c:aJ kp 0 (bQ m.ai q cv)=bQ m.ai q cv:=kG (by rw[a,An]);have d:aI (bQ m.ai q cv)<=K+2:=by
  rw[U1];have:=cL b (bB (λ_=>rfl) _);have:=ha.co.qp;have:=ha.co.lt;omega
 have h: ∀E:AS,od E (.ptr M 0) none=some (.ptr E.heap.length 0,E.push (.box [.ptr M 0] none)):=λ_=>rfl
 have g: ∀E:AS,od E (.ptr P 0) none=some (.ptr E.heap.length 0,E.push (.box [.ptr P 0] none)):=λ_=>rfl
 simp only[go_sem,simprocAttr,QB,e,h,g,f,c,a,An];rw[aez (by omega),zX (by omega)]
end
def cI(L:List (Nat×Nat))(i:Nat):Nat:=L.countP λx=>x.2==i
theorem azx(L:List (Nat×Nat))(x:Nat×Nat)(i:Nat):cI (L++[x]) i=cI L i+if x.2=i then 1 else 0:=by
 unfold cI
 grind
def sI(L:List (Nat×Nat))(k:Nat):Bool:=decide (k∈L.map (·.1))
theorem azy(L:List (Nat×Nat))(x:Nat×Nat):sI (L++[x])=au (sI L) x.1 true:=by
 unfold sI au
 grind
def dJ(L:List (Nat×Nat)):lA:=[.int .i64 (cI L 0),.int .i64 (cI L 1),.int .i64 (cI L 2),.int .i64 (cI L 3)]
def xT(f:Nat->Bool):lA:=arr 64 λk=>[.bool (f k)]
def azz{f:Nat->Bool}(h:k<64):Den.part false 1 (xT f) k=some (.bool (f k)):=by
 have:=jG (ag:=false) (m:=1) (n:=64) (k:=1) (i:=k) (o:=0) (f:=λi=>[AV.bool (f i)]) (λ_=>rfl) h (by omega) (by omega);rw[show k*1+0=k by omega]at this;exact this
def azA{f:Nat->Bool}(h:k<64):aJ (xT f) k [.bool true]=xT (au f k true):=by
 have:=ln (n:=64) (k:=1) (i:=k) (o:=0) (vs:=[AV.bool true]) (f:=λi=>[AV.bool (f i)]) (λ_=>rfl) h (by simp);rw[show k*1+0=k by omega]at this;unfold xT;rw[this];exact ahX (arr 64) (oG (λv:Bool=>[AV.bool v]) f k true).symm
theorem azB(f:Nat->Bool): (xT f).length=64:=by rfl
def Hb{L:List (Nat×Nat)}(h:i<4): (dJ L)[i]?=some (.int .i64 (cI L i)):=by
 rcases(show i=0\/i=1\/i=2\/i=3 by omega)with rfl|rfl|rfl|rfl<;>rfl
def azC{L:List (Nat×Nat)}(h:i<4):aJ (dJ L) i [.int .i64 ((cI L i:Nat)+1:Int)]=dJ (L++[(k,i)]):=by
 unfold dJ;rcases(show i=0\/i=1\/i=2\/i=3 by omega)with rfl|rfl|rfl|rfl<;>simp[azx,aJ]
theorem azD{x:Nat×Nat}(h:x∈cY m):x.2<4:=by
 unfold cY at h
 grind
theorem azE(m:aW):cI (cY m) 0=xQ m/\cI (cY m) 1=xR m/\cI (cY m) 2=xS m/\cI (cY m) 3=m.ai.Q.length:=by
 unfold cI cY xQ xR xS;simp only[List.countP_append,List.countP_map,<-vY];have key: ∀ (i j:Nat) (l:lN),List.countP ((λx:Nat×Nat=>x.2==j) ∘ λk=>(k,i)) l=if i=j then l.length else 0:=by
  intro i j l
  induction l with
  |nil=>simp
  |cons a l b=>grind
 simp_all
end
def azF(t:aw)(h:Nat):Bool:=t.az h&&decide (bt t h=0)
def azG(o:bK)(h:Nat):Ow:=if(o (aR h)).root=h then(o (aR h)).own else vx
def Kf(s:bF)(h:Nat):Option Ow:=if azF s.T h=true then some (azG s.O h)else none
theorem amN{t:aw}(a:ca t){h:Nat}(b:t.az h=true):root t h=h↔bt t h=0:=by
 unfold root;rw[aez b];constructor
 ·intro e;refine amp λhu=>?_
  have hm:h∈aS t h:=by
   have c:=mZ a hu
   grind
  have:=Ad a _ h (ae0 _) hm;omega
 ·intro hu;rw[qf a,aez hu];rfl
structure KP(s s':bF)(h:Nat)(o:Option Ow):Prop where
 k: ∀z,Kf s' z=if z=h then o else Kf s z
 al:s'.alive=s.alive
 bx:s'.c8=s.c8
def azH(s:bR): (lE s).1.x.S=s.x.S/\ (lE s).1.c.c=s.c.c:=by
 unfold lE;split
 ·simp
 split
 ·simp
 split<;>exact⟨rfl,rfl⟩
theorem azI(s:bR): (lF s).1.x.S=s.x.S/\ (lF s).1.c.c=s.c.c:=by
 unfold lF
 grind
def azJ(s:bR): (lG s).1.x.S=s.x.S/\ (lG s).1.c.c=s.c.c:=by
 unfold lG;dsimp only;split
 ·simp
 split<;>exact⟨rfl,rfl⟩
theorem azK(s:bR): (mh s).1.x.S=s.x.S/\ (mh s).1.c.c=s.c.c:=by
 unfold mh
 grind
instance:Inhabited Event:=⟨⟨0,mU,(0,0),bX,0,0⟩⟩
def azL{l:List Event}{H:List ae}(h:Rd ⟨H,none⟩ v 14 (l.map cE))(e:l.length*96<=room)(lo:oN):
  ∃v',D X0 (.fn (.func 41) [] []) [v] ⟨H,lo⟩=some (.ret v' ⟨H,lo⟩)/\Rv v' 14 (l.map cE):=by
 have d:=h.eq;have a:dA EK.sl AV.aq AV.aq=some true:=rfl;have e3:cb ([]:List lA)=0:=rfl;rcases Nd h with⟨rfl,he⟩|he
 ·refine⟨.aq,?_,by rw[he];exact .aq⟩;refine aH zk λN b=>?_
  simp(disch:=omega) only[F1,go_sem,simprocAttr,zk,a]
 ·by_cases c:l=[]
  ·subst c;refine⟨.sl [] true,?_,.sl (λel h=>by cases h)⟩;refine aH zk λN b=>?_
   have e1:dv ⟨H,none⟩ nb 14 96 (.sl [] true) []=some (.sl [] true,⟨H,none⟩):=rfl;simp(disch:=omega) only[F1,go_sem,simprocAttr,zk,he,d,e1,e3]
  ·refine⟨.sl (l.map cE) false,?_,.sl (λel h=>by obtain⟨x,_,rfl⟩:=ago.1 h;rfl)⟩;refine aH zk λN b=>?_
   obtain⟨e1,f⟩:=Nf (sz:=14) (ty:=nb) (bytes:=96) (lo:=lo) (g:=cE) b (by omega) (λ_=>rfl) (λ_=>rfl) c e;simp only[go_sem,simprocAttr,zk,he,d,e1,f]
section
variable{n M p q:Nat}{m:aW}{qv ev:AV}{aE aO:Nat->AV}{H:List ae}(ha:bI n M p q m qv ev aE aO H)
include ha
theorem VO(f:m.aV.length<1000000)(lo:oN): ∃v,D XC (.fn (.func 16) [] []) [.ptr M 0] ⟨H,lo⟩=some (.ret v ⟨H,lo⟩)/\Rv v 14 (m.aV.map cE):=by
 obtain⟨v,c,d⟩:=azL (ha.rQ.rd (lo:=none)) (by unfold room;omega) none;have c:=c0 c;refine⟨v,?_,d⟩;refine aH Qu λN e=>?_
 have b:dA EK.ptr (AV.ptr M 0) AV.dy=some false:=rfl;have a:=cL d (bB (λ_=>rfl) _);simp(disch:=omega) only[F1,go_sem,simprocAttr,Qu,b,ha.box,Vs,c,a]
end
def cF(t:Nat)(l:List Event):List Event:=l.filter λe=>decide (e.aa=t)
theorem azM{l:List Event}(j:Rv v 14 (l.map cE))(K:l.length<10000)(t:Nat)(H:List ae)(lo:oN):
  ∃w,D X0 (.fn (.func 69) [] []) [v,.int .i64 t] ⟨H,lo⟩=some (.ret w ⟨H,lo⟩)/\Rv w 14 ((cF t l).map cE):=by
 suffices J: ∃s,D X0 (.fn (.func 69) [] []) [v,.int .i64 t] ⟨H,lo⟩=some s/\ (λs=> ∃w,s= .ret w ⟨H,lo⟩/\Rv w 14 ((cF t l).map cE)) s by grind
 refine cA QM λN F=>?_
 have b: ∀e,(cE e).length=14:=λ_=>rfl
 have het: ∀e,List.take 14 (cE e)=cE e:=λ_=>rfl
 have r: ∀e,aI (cE e)=0:=λ_=>rfl
 have G: ∀e,(cE e)[0]?=some (.int .i64 e.aa):=λ_=>rfl
 have f: ∀e,Den.part true 14 (cE e) 0=some (.agg (cE e)):=λ_=>rfl
 have d: ∀e,aJ [AV.int .i64 0,.int .u8 0,.int .u32 0,.int .u32 0,.int .u32 0,.int .u32 0,.int .u64 0,.int .i64 0,.int .i64 0,.int .i64 0,.int .u64 0,.int .u32 0,.int .i64 0,.int .i64 0] 0 (cE e)=cE e:=λe=>kG (by rfl)
 simp only[go_sem,simprocAttr,QM,j.bJ];refine gE l.length (λk e W ak=> ∃w,ak=none/\H<+:W/\aP N W w 14 nb ((cF t (l.take k)).map cE)/\e 1= .int .i64 t/\e 5=w/\e 8=v/\e 9= .int .i64 l.length/\e 10= .int .i64 k) 0 (by omega) ?_ ?_
 ·refine⟨.aq,rfl,List.prefix_refl _,aP.aq,?_⟩;simp only[go_sem,simprocAttr]
 rintro k O e W ak ⟨w,rfl,y,i,e1,A,e8,z,h⟩ n C;simp only[bO,F1,go_sem,simprocAttr,aft,A,e8,z,h];refine⟨λI=>?_,λI=>?_⟩
 ·have a:k<l.length:=by omega
  have hle:=ahK (λe=>decide (e.aa=t)) (l.take k);rw[agw]at hle;have o:l.take (k+1)=l.take k++[l.getD k default]:=by rw[List.take_succ,adQ a,agn,adQ a];rfl
  by_cases c: (l.getD k default).aa=t
  ·have B: ((l.getD k default).aa:Int)=t:=by omega
   have g:cF t (l.take (k+1))=cF t (l.take k)++[l.getD k default]:=by unfold cF;rw[o,aoU];simp only[List.filter_cons,List.filter_nil,c,decide_true,ahJ]
   simp(disch:=omega) only[go_sem,simprocAttr,e1,A,j.bW,j.cp,f,b,het,r,d,G,B,C];refine⟨by omega,?_⟩;refine aqW (N:=N) (H0:=H) (bytes:=96) (ys:=[cE (l.getD k default)]) i.ext (y.trans (aok _ _)) F (by omega) (by intro el b;rw[ae5.1 b];rfl) rfl (by
    rw[ae3];show((cF t (l.take k)).length+1)*96<=room;unfold cF room;omega) λv' P u x _ _=>?_
   simp(disch:=omega) only[go_sem,simprocAttr,e1,e8,z,h];rw[g,agp];exact⟨a,v',x,u,rfl⟩
  ·have B: ¬((l.getD k default).aa:Int)=t:=by omega
   have g:cF t (l.take (k+1))=cF t (l.take k):=by unfold cF;rw[o,aoU];simp only[List.filter_cons,List.filter_nil,c,ax4,ajc,agm,agB]
   simp(disch:=omega) only[go_sem,simprocAttr,e1,A,e8,z,h,j.bW,j.cp,f,b,r,d,G,B,C];rw[g];exact⟨by omega,a,w,y.trans (aok _ _),i.ext,rfl⟩
 ·obtain rfl:k=l.length:=by omega
  rw[agk]at i;have E:=i.D5 (lo:=lo) (by rw[bB (λ_=>rfl)];omega);rw[yH]at E;rw[E];obtain⟨L,rfl⟩:=y;exact⟨_,dk rfl (aop F),i.pG⟩
theorem amO{t:aw}(a:ca t){x:Nat}(c:t.az x=true)(b:bt t x≠0):root t x=root t (bt t x):=by
 have hm:t.az (bt t x)=true:=LN a (by rw[mZ a b];grind);unfold root;rw[aez c,aez hm,mZ a b,List.getLastD_cons]
def Hc{t:aw}(c:ca t){x:Nat}(b:t.az x=true)(a:bt t x=0):root t x=x:=(amN c b).2 a
theorem Np{t:aw}(a:ca t): ∀ (n x:Nat),dep t x<=n->t.az x=true->t.az (root t x)=true/\bt t (root t x)=0/\ (x=root t x\/root t x∈aS t x)
 |n,x,c,b=>by
  by_cases hu:bt t x=0
  ·rw[Hc a b hu];grind
  ·have hm:t.az (bt t x)=true:=LN a (by rw[mZ a hu];grind);have d:=Ad a _ x (ae0 _) (show bt t x∈aS t x by rw[mZ a hu];grind);cases n with
   |zero=>omega
   |succ n=>
    obtain⟨g,f,e⟩:=Np a n (bt t x) (by omega) hm;rw[amO a b hu];rw[mZ a hu]
    grind
theorem amP{t:aw}(a:ca t){r:Nat}(c:t.az r=true)(d:bt t r=0): ∀ (n x:Nat),dep t x<=n->t.az x=true->r∈aS t x->root t x=r
 |n,x,g,f,hm=>by
  have hu:bt t x≠0:=λe=>by rw[qf a,aez e]at hm;cases hm
  have b:t.az (bt t x)=true:=LN a (by rw[mZ a hu];grind);have h:=Ad a _ x (ae0 _) (show bt t x∈aS t x by rw[mZ a hu];grind);rw[amO a f hu];rw[mZ a hu]at hm;cases n with
  |zero=>omega
  |succ n=>
   rcases agF.1 hm with e|hm
   ·rw[<-e];exact Hc a c d
   ·exact amP a c d n _ (by omega) b hm
def azN{t:aw}(f:dV t){r x:Nat}(c:t.az r=true)(g:bt t r=0):x∈under t r↔t.az x=true/\root t x=r:=by
 have a:=f.tr;have e:under t r=dC t r:=aez c;rw[e];constructor
 ·intro h;have d:=Cf f.ok.b c h;refine⟨d,?_⟩;rcases MA a 32 r h with rfl|i
  ·exact Hc a c g
  ·exact amP a c g _ x (ae0 _) d i
 ·rintro⟨d,rfl⟩;obtain⟨_,_,b⟩:=Np a _ x (ae0 _) d;rcases b with b|b
  ·rw[<-b];exact Uv a x
  ·exact ajn f.ok.b a _ _ (ae0 _) b
theorem VP{α:Type}{f:α->Nat}{I:List α}: ∀ {R:lN},R.Nodup->(R.map λr=>I.countP λx=>decide (f x=r)).sum=I.countP λx=>decide (f x∈R)
 | [],_=>by simp
 |r::R,h=>by
  have b:=au0.1 h;have key: ∀l:List α,(l.countP λx=>decide (f x=r))+(l.countP λx=>decide (f x∈R))=l.countP λx=>decide (f x∈r::R):=λl=>by
   induction l with
   |nil=>rfl
   |cons a l c=>grind
  rw[amF,List.sum_cons,VP b.2,key]
def azO{t:aw}(a:dV t){r:Nat}(b:t.az r=true)(c:bt t r=0): (under t r).length=(bo t.b).countP λx=>decide (root t x=r):=by
 rw[List.countP_eq_length_filter];refine List.Perm.length_eq ((List.perm_ext_iff_of_nodup (UG a.tr r) ((MC t.b).filter _)).2 λx=>?_);rw[azN a b c,agy,gi a.ok.b,az2];rfl
def azP{o:bK}{t:aw}(a:dV t){x:Nat}(b:t.az x=true):bP o t (root t x)=bP o t x:=by
 obtain⟨d,c,_⟩:=Np a.tr _ x (ae0 _) b;unfold bP;rw[Hc a.tr d c]
theorem azQ{o:bK}{t:aw}(a:dV t)(p:Ow->Bool): ((fR o t p).map λr=>(under t r).length).sum=(bo t.b).countP λx=>p (bP o t x):=by
 have j: ∀r∈fR o t p,t.az r=true/\bt t r=0/\p (bP o t r)=true:=λr d=>by
  obtain⟨g,b⟩:=agy.1 d;have c:=(gi a.ok.b).1 g;unfold rK at b;rw[ahV,az2]at b;exact⟨c,(amN a.tr c).1 b.1,b.2⟩
 have e: (fR o t p).map (λr=>(under t r).length)=(fR o t p).map λr=>(bo t.b).countP λx=>decide (root t x=r):=
  arp λr d=>azO a (j r d).1 (j r d).2.1
 have i: (fR o t p).Nodup:=(MC t.b).filter _;rw[e,VP (f:=root t) i];refine List.countP_congr λx k=>?_
 have c:t.az x=true:=(gi a.ok.b).1 k;obtain⟨g,b,_⟩:=Np a.tr _ x (ae0 _) c;rw[az2,<-azP a c];constructor
 ·grind
 ·intro h;refine agy.2 ⟨(gi a.ok.b).2 g,?_⟩;unfold rK;rw[Hc a.tr g b,h,aeD rfl];rfl
theorem aDf{α:Type}{g:α->Nat}: ∀l:List α,(∀x∈l,g x<8)->((List.range 8).map λt=>l.countP λx=>decide (g x=t)).sum=l.length
 |l,h=>by
  rw[VP (f:=g) (aAM)];simp_all
def azR(s:bR): (vD s).c.c=s.c.c:=by
 unfold vD;dsimp only;split<;>split<;>rfl
theorem azS(x:Core)(c:Call): (gn x c).c.c=c.c:=by
 obtain⟨_,f⟩:=azH ⟨x,c,bX,false⟩;unfold gn;dsimp only;generalize lE ⟨x,c,bX,false⟩=s1 at*;split
 ·omega
 obtain⟨_,e⟩:=azI s1.1;generalize lF s1.1=s2 at*;split
 ·grind
 obtain⟨_,d⟩:=azJ s2.1;generalize lG s2.1=a at*;split
 ·grind
 obtain⟨_,b⟩:=azK a.1;split
 ·grind
 ·rw[azR,b,d,e,f]
def xU(c:cy):Prop:=1<=c.op/\c.op<=22
structure iK(m:aW):Prop where
 ev: ∀e∈m.aV,e.aa<8/\xU e.c/\e.fr<2147483648/\e.to<2147483648
 bz: ∀i,(m.aB i).busy=true->xU (m.aB i).c.c
section
variable{m:aW}(h:iK m)
include h
theorem iK.of{m':aW}(b:m'.aB=m.aB)(a:m'.aV=m.aV):iK m':=⟨by rw[a];exact h.ev,by rw[b];exact h.bz⟩
theorem iK.Vu(k:Nat):iK (mj m k):=by
 unfold mj;split
 ·refine⟨h.ev,λi a=>?_⟩;have a: (au m.aB k _ i).busy=true:=a;show xU (au m.aB k _ i).c.c;by_cases e:i=k
  ·rw[e,cw]at a;cases a
  ·rw[cR e]at a⊢;exact h.bz i a
 omega
theorem iK.clear:iK (lH m):=by
 have e:lH m=iI m 8:=rfl
 suffices ∀k,iK (iI m k)from this 8
 intro k
 induction k with
 |zero=>exact h
 |succ k a=>rw[M6];exact iK.Vu a k
theorem iK.calls(c:dh m)(d:t<8)(a: (m.aB t).busy=true):iK (uc m t):=by
 have k:=azS m.ai (m.aB t).c;have b:=h.bz t a;rw[<-k]at b;unfold uc;dsimp only;split
 ·refine⟨λe he=>?_,λi a=>?_⟩
  ·rcases ae2.1 he with he|he
   ·exact h.ev e he
   ·rw[ae5.1 he];exact⟨d,b,by show(au m.aB t _ t).fr<_;rw[cw];exact c.fr t,c.now⟩
  ·have a: (au (au m.aB t _) t _ i).busy=true:=a;show xU (au (au m.aB t _) t _ i).c.c;by_cases e:i=t
   ·rw[e,cw]at a;cases a
   ·rw[cR e,cR e]at a⊢;exact h.bz i a
 ·refine⟨h.ev,λi a=>?_⟩;have a: (au m.aB t _ i).busy=true:=a;show xU (au m.aB t _ i).c.c;by_cases e:i=t
  ·rw[e,cw];exact b
  ·rw[cR e]at a⊢;exact h.bz i a
theorem iK.steps(c:dh m)(b:t<8):iK (vE m t):=by
 unfold vE;dsimp only;split
 ·rename_i a;exact h.calls c b a
 split
 ·rename_i hw;refine iK.calls ?_ (c.wanted b) b (by show(au m.aB t _ t).busy=true;rw[cw]);refine⟨h.ev,λi a=>?_⟩;have a: (au m.aB t _ i).busy=true:=a;show xU (au m.aB t _ i).c.c;by_cases e:i=t
  ·rw[e,cw];unfold iE at hw⊢;unfold xU;split
   ·simp
   ·rename_i x d;have ho:=((c.t t).ins x (alL d)).op
    grind
  ·rw[cR e]at a⊢;exact h.bz i a
 ·refine⟨h.ev,λi a=>?_⟩;have a: (au m.aB t _ i).busy=true:=a;show xU (au m.aB t _ i).c.c;by_cases e:i=t
  ·rw[e,cw]at a⊢;grind
  ·rw[cR e]at a⊢;exact h.bz i a
theorem iK.pick(c:rR m)(d:m.now<=4000)(b:Nat):iK (lI m b).1:=by
 unfold lI;dsimp only;have a:b % 8<8:=by omega
 split
 ·exact h
 split
 ·split
  ·exact(h.of (m':={m with ai:=(jo m.ai).1,now:=m.now+1}) rfl rfl).clear
  omega
 split
 ·exact h
 split
 ·refine iK.clear ⟨λe he=>?_,h.bz⟩;rcases ae2.1 he with he|he
  ·exact h.ev e he
  ·rw[ae5.1 he];exact⟨a,⟨show(1:Nat)<=20 by decide,show(20:Nat)<=22 by decide⟩,by grind,by grind⟩
 ·exact(iK.steps (h.of (m':={m with now:=m.now+1}) rfl rfl) (c.ok.C5 (by omega)) a).clear
end
theorem VQ{n:Nat}(a:1<=n/\n<=64)(aF:List lB){aK:lB}(b:aK.length<=4000): ∀k,k<=aK.length->iK (runK n aF aK k).1
 |0,_=>⟨λe he=>(by cases he),λi d=>(by cases d)⟩
 |k+1,c=>by
  obtain⟨f,g⟩:=C6 a aF b k (by omega);rw[G6 c];exact(VQ a aF b k (by omega)).pick f (by omega) _
def Ok3(x:Ow):Prop:=(x.kind=1/\x.aa<8)\/x.kind=2\/x.kind=3
def LW(s:bF):Prop:= ∀z x,Kf s z=some x->Ok3 x
section
variable{s s':bF}{h:Nat}{o:Option Ow}
end
section
variable{x:aC}{a:aC×bG}(hs:br x.s)(hL:LW x.s)(ht:x.aa<8)(gC:x.s.alive x.aa=true)
include hs hL
omit hs in
omit hs in
omit hs in
omit hs in
omit hs in
omit hs in
omit hs in
omit hs in
omit hs in
include ht gC
omit gC in
omit gC in
omit ht gC in
omit gC in
omit ht gC in
omit hs ht gC in
omit ht gC in
omit hs in
omit gC in
end
def vZ(e:Event):Nat:=min e.c.op 23 % 23
def C9(m:aW)(d:Nat):Nat:=m.aV.countP λe=>decide (vZ e=d)
section
set_option maxHeartbeats 2000000
def ux(m:aW)(j:Nat):Bool:=match(cY m)[j]? with
 |some y=>decide (64<=y.1)||sI ((cY m).take j) y.1
 |none=>false
theorem VS{m:aW}: ∀ {j:Nat},j<=(cY m).length->(∀i,i<j->ux m i=false)->(((cY m).take j).map (·.1)).Nodup/\ ∀z∈((cY m).take j).map (·.1),z<64
 |0,_,_=>⟨by simp,by simp⟩
 |j+1,e,h=>by
  obtain⟨k,g⟩:=VS (m:=m) (j:=j) (by omega) λi f=>h i (by omega)
  have a:=h j (by omega);have b: (cY m)[j]?=some (cY m)[j]:=adQ (by omega);unfold ux at a;rw[b]at a;simp only[azv,decide_eq_false_iff_not]at a;have d: (cY m)[j].1∉((cY m).take j).map (·.1):=of_decide_eq_false a.2;rw[agu,b,agp]
  grind
def kQ(m:aW):List (Nat×Nat)×Nat:=if((List.range (cY m).length).any (ux m)|| !decide (xQ m+xR m+xS m+m.ai.Q.length=m.ai.P.n))=true then([],12)else(cY m,0)
section
variable{n M p q:Nat}{m:aW}{qv ev:AV}{aE aO:Nat->AV}{H:List ae}(ha:bI n M p q m qv ev aE aO H)(hm:dh m)(G8: ∀i,(m.aB i).c.aY.length<1073741824)(hQ:m.ai.Q.length<1073741824)
include ha hm G8 hQ
theorem amQ(lo:oN):D XC (.fn (.func 17) [] []) [.ptr M 0] ⟨H,lo⟩=some (.ret (.ax [.agg (dJ (kQ m).1),.int .i64 (kQ m).2]) ⟨H,lo⟩):=by
 refine aH Qv λN U=>?_
 have VT:dA EK.ptr (AV.ptr M 0) AV.dy=some false:=rfl;have z0: [AV.int .i64 0,.int .i64 0,.int .i64 0,.int .i64 0]=dJ []:=rfl;have z1:aeY=xT (sI []):=rfl;obtain⟨cv,c2,c1⟩:=azw (ha.app [.box (dJ []) none,.box [.int .i64 0] none,.box (dJ []) none,.box (xT (sI [])) none]) hQ (N+2) (by simp;omega) (N+4) (by simp;omega) none;have aDg:=hm.ai.P.n;simp only[go_sem,simprocAttr,Qv,U,VT,z0,z1,c1];have hx: ∀ {j:Nat} {x:lA},(rS (N+2) m)[j]?=some x-> ∃y,(cY m)[j]?=some y/\x=pF (N+2) y.2 y.1:=λ {j x} h=>by
  unfold rS at h;rw[agA]at h;cases T: (cY m)[j]? with
  |none=>rw[T]at h;cases h
  |some y=>rw[T]at h;cases h;exact⟨y,rfl,rfl⟩
 refine aeU (S:=List (Nat×Nat)×Bool) (λe=>e 0= .ptr M 0/\e 2= .ptr N 0/\e 3= .ptr (N+1) 0/\e 4= .ptr (N+2) 0/\e 5= .ptr (N+3) 0) (by simp only[go_sem,simprocAttr]) (rS (N+2) m) U [.box [.ptr M 0] none,.box [.ptr (N+2) 0] none,.box (bQ m.ai q cv) none] (λs=>[.box (dJ []) none,.box [.int .i64 (if s.2 then 12 else 0)] none,.box (dJ s.1) none,.box (xT (sI s.1)) none]) (nB:=4) (λ_=>rfl) ([],false)
  (λj s=>s=((cY m).take j,false)/\ ∀i,i<j->ux m i=false) (λex s=>ex= .ret/\s.2=true/\ ∃j,j< (cY m).length/\ux m j=true) rfl ?_ (by simp) ⟨rfl,λi hi=>absurd hi (aol i)⟩ (λex s h=>⟨.ret,by rw[h.1];rfl,by rw[h.1];rfl,by rw[h.1];rfl⟩) ?_ ?_ ?_
 ·refine azr (cv:=cv) ha hm G8 c2 hQ ?_ (λ_=>rfl) (ae0 _) ?_ (N+4) (N+2)
  ·refine IP (PM ?_);intro s;rfl
  ·intro s W h;refine⟨W.drop N,?_⟩;have:=iR.take (N:=N) h.1.1 U;rw[<-this,amI]
 ·rintro e ⟨e0,P,e3,e4,e5⟩ j x s Gc ⟨rfl,d⟩;obtain⟨⟨pg,i⟩,T,rfl⟩:=hx Gc;obtain⟨J,hje⟩:=adN.1 T;have Z: (pg,i)∈cY m:=hje ▸ arj J;have hi4:i<4:=azD Z;have F: (cY m).take (j+1)=(cY m).take j++[(pg,i)]:=by rw[agu,T];rfl
  have G:=azy ((cY m).take j) (pg,i);have M8:=azC (L:=(cY m).take j) (k:=pg) hi4;have VU:=Hb (L:=(cY m).take j) hi4;have kZ:cI ((cY m).take j) i<9223372036854775807:=by
   have h1:cI ((cY m).take j) i<=((cY m).take j).length:=anb;obtain⟨g1,g2⟩:=VS (m:=m) (j:=j) (by omega) d;have h2:=Gx _ (List.range 64) g1 λz hz=>al1.2 (g2 z hz)
   rw[ae3,axi]at h2;omega
  have o:ux m j=(decide (64<=pg)||sI ((cY m).take j) pg):=by unfold ux;rw[T]
  have B:=nF (p:=λi=>ux m i=false) d;generalize(cY m).take j=L at*;refine⟨rfl,λW n' hn hnl K=>?_⟩;simp only[go_sem,simprocAttr,ij,pF];refine⟨[],by simp,λW2 TL hg2=>?_⟩;simp only[eK,eJ,alS,agr,Nat.reduceAdd]at hg2;obtain⟨w0,w1,E,Q⟩:=hg2;have w1:W2[N+1]?=some (.box [.int .i64 0] none):=w1;have p1: ¬(pg:Int)<0:=by omega
  have z4: [AV.int .i64 0,.int .i64 0,.int .i64 0,.int .i64 0]=dJ []:=rfl;have t: ∀L,(dJ L).length=4:=λ_=>rfl
  have l: ∀L,aI (dJ L)=0:=λ_=>rfl
  have u:List.drop 4 (dJ [])=[]:=rfl;by_cases g1:64<=pg
  ·have p2: (pg:Int)>=64:=by omega
   rw[aeD g1,aqF]at o;simp(disch:=omega) only[go_sem,simprocAttr,Kq,P,e3,w0,w1,p1,p2,z4,t,l,u,IU];refine⟨(L,true),?_,λk IM L7=>?_,rfl,j,J,o⟩
   ·simp only[eK,eJ,alS,agr,Nat.reduceAdd];refine⟨?_,?_,?_,?_⟩
    ·rw[acG (by omega)];exact cQ w0
    ·rw[ae1 (by rw[agq];exact dZ w1)];rfl
    ·rw[acG (by omega),acG (by omega)];exact E
    ·rw[acG (by omega),acG (by omega)];exact Q
   ·rw[acG (by omega),acG (by omega)]
  ·have p2: ¬(pg:Int)>=64:=by omega
   rw[aeC g1,aqR]at o;have hs2:=azA (f:=sI L) (show pg<64 by omega);have A:=azz (f:=sI L) (show pg<64 by omega);cases C:sI L pg with
   |true=>
    rw[C]at o A;simp(disch:=omega) only[go_sem,simprocAttr,Kq,P,e3,e5,w0,w1,Q,A,p1,p2,z4,t,l,u,IU];refine⟨by omega,?_⟩;refine⟨(L,true),?_,λk IM L7=>?_,rfl,j,J,o⟩
    ·simp only[eK,eJ,alS,agr,Nat.reduceAdd];refine⟨?_,?_,?_,?_⟩
     ·rw[acG (by omega)];exact cQ w0
     ·rw[ae1 (by rw[agq];exact dZ w1)];rfl
     ·rw[acG (by omega),acG (by omega)];exact E
     ·rw[acG (by omega),acG (by omega)];exact Q
    ·rw[acG (by omega),acG (by omega)]
   |false=>
    rw[C]at o A;simp(disch:=omega) only[go_sem,simprocAttr,Kq,e5,E,Q,M8,VU,hs2,A,p1,p2,oq];refine⟨by omega,by omega,by rw[azB];omega,by show i+1<=4;omega,(L++[(pg,i)],false),?_,λk IM L7=>?_,by rw[F],B o⟩
    ·simp only[eK,eJ,alS,agr,Nat.reduceAdd];refine⟨?_,?_,?_,?_⟩
     ·rw[acG (by omega),acG (by omega)];exact w0
     ·rw[acG (by omega),acG (by omega)];exact w1
     ·rw[ae1 (by simp;omega)]
     ·rw[acG (by omega),ae1 (by omega),G]
    ·rw[acG (by omega),acG (by omega)]
 ·rintro e ⟨e0,P,e3,e4,e5⟩ s w p yI ⟨rfl,d⟩ r K hd;have V: (rS (N+2) m).length=(cY m).length:=ae3 _;rw[V]at d;rw[V,agk]at K;simp only[eK,eJ,alS,agr,Nat.reduceAdd]at K;obtain⟨w0,w1,E,Q⟩:=K;have w1:w[N+1]?=some (.box [.int .i64 0] none):=w1;have v: (List.range (cY m).length).any (ux m)=false:=by
   rw[aAD];intro i hi;rw[d i (al1.1 hi)];exact Bool.false_ne_true
  have F:=iR.take r U;obtain⟨R,hR⟩: ∃R,w=H++R:=⟨w.drop N,by rw[<-F,amI]⟩;have O:=ha.app R;rw[<-hR]at O;obtain⟨cv',d1,d2⟩:=Ng O hQ none;have Y:=c0 (azj O.co.ib none);have g9: (bQ m.ai q cv')[952]?=some (.ptr q 0):=GK;obtain⟨n0,n1,n2,n3⟩:=azE m;have f0: (dJ (cY m))[0]?=some (.int .i64 (xQ m)):=by rw[Hb (by omega),n0]
  have f1: (dJ (cY m))[1]?=some (.int .i64 (xR m)):=by rw[Hb (by omega),n1]
  have f2: (dJ (cY m))[2]?=some (.int .i64 (xS m)):=by rw[Hb (by omega),n2]
  have f3: (dJ (cY m))[3]?=some (.int .i64 m.ai.Q.length):=by rw[Hb (by omega),n3]
  have I:Den.part true 4 (dJ (cY m)) 0=some (.agg (dJ (cY m))):=rfl;have t: ∀L,(dJ L).length=4:=λ_=>rfl
  have l: ∀L,aI (dJ L)=0:=λ_=>rfl
  have u:List.drop 4 (dJ [])=[]:=rfl;have s1: ∀a b c,(((w.set N a).set (N+1) b).set p c).take N=H:=λa b c=>(((r.set (by omega)).set (by omega)).set (by omega)).take U
  have s2: ∀a b,((w.set N a).set (N+1) b)[p]?=some .fx:=λa b=>by rw[acG (by omega),acG (by omega)];exact hd
  have s3: ∀a,(w.set N a)[N+1]?=some (.box [.int .i64 0] none):=λa=>by rw[acG (by omega)];exact w1
  have s4: ∀a b c,(((w.set N a).set (N+1) b).set p c)[N]?=some a:=λa b c=>by rw[acG (by omega),acG (by omega)];exact cQ w0
  have s5: ∀a b c,(((w.set N a).set (N+1) b).set p c)[N+1]?=some b:=λa b c=>by rw[acG (by omega),ae1 (by rw[agq];exact dZ w1)]
  have X: ∀L,List.take 4 (dJ L)=dJ L:=λ_=>rfl
  unfold kQ;rw[v,aqR];by_cases hT:xQ m+xR m+xS m+m.ai.Q.length=m.ai.P.n
  ·have g: ((xQ m:Int)+xR m+xS m+m.ai.Q.length)=m.ai.P.n:=by omega
   rw[aeD hT,asJ,aeu Bool.false_ne_true];simp(disch:=omega) only[go_sem,simprocAttr,e0,P,e3,e4,w0,E,d1,Y,g9,f0,f1,f2,f3,g,I,t,l,u,agB,lK,s2,s3,s4,s5];rw[oR (by simp[AV.refs,aI,l]),s1]
  ·have Da:xQ m<1000/\xR m<1000/\xS m<1000:=by
     obtain⟨g1,g2⟩:=VS (m:=m) (ae0 _) d;rw[agk]at g1 g2;have h2:=Gx _ (List.range 64) g1 λz hz=>al1.2 (g2 z hz)
     rw[ae3,axi]at h2;have q0:cI (cY m) 0<=(cY m).length:=anb;have q1:cI (cY m) 1<=(cY m).length:=anb;have q2:cI (cY m) 2<=(cY m).length:=anb;omega
   have g: ¬((xQ m:Int)+xR m+xS m+m.ai.Q.length)=m.ai.P.n:=by omega
   rw[aeC hT,axg,aez rfl];simp(disch:=omega) only[go_sem,simprocAttr,e0,P,e3,e4,w0,E,d1,Y,g9,f0,f1,f2,f3,g,t,l,u,agB,lK,s2,s3,s4,s5,X];rw[oR (by simp[AV.refs,aI,l]),s1]
 ·rintro e ⟨e0,P,e3,e4,e5⟩ ex s w p yI ⟨rfl,hs,i,hi,hbi⟩ r K hd;simp only[eK,eJ,alS,agr,Nat.reduceAdd]at K;obtain⟨w0,w1,E,Q⟩:=K;rw[aez hs]at w1;have v: (List.range (cY m).length).any (ux m)=true:=ax2.2 ⟨i,al1.2 hi,hbi⟩;unfold kQ;rw[v,aqF,aez rfl];have G: ∀a,(w.set p a).take N=H:=λa=>(r.set (by omega)).take U
  have I: ∀L,Den.part true 4 (dJ L) 0=some (.agg (dJ L)):=λ_=>rfl
  simp(disch:=omega) only[go_sem,simprocAttr,P,e3,w0,w1,hd,lK,↓I];rw[oR (by simp[AV.refs,aI,dJ]),G]
end
end
section
variable{n M p q:Nat}{m:aW}{qv ev:AV}{aE aO:Nat->AV}{H:List ae}(ha:bI n M p q m qv ev aE aO H)
include ha
theorem amT(lo:oN):D XC (.fn (.func 13) [] []) [.ptr M 0] ⟨H,lo⟩=some (.ret (.int .i64 m.now) ⟨H,lo⟩):=by
 refine aH Qr λN b=>?_
 have a:dA EK.ptr (AV.ptr M 0) AV.dy=some false:=rfl;simp(disch:=omega) only[F1,go_sem,simprocAttr,Qr,a,ha.box,Ar]
def Db(m:aW):lN:=if(List.range 8).any (oO m)then[]else(List.range 8).filter (rG m)
theorem amU(z: ∀op,kO op)(x:dh m)(w: ∀i,(m.aB i).c.aY.length<1073741824)(lo:oN):
  ∃v,D XC (.fn (.func 14) [] []) [.ptr M 0] ⟨H,lo⟩=some (.ret v ⟨H,lo⟩)/\Rv v 1 ((Db m).map fS):=by
 suffices I: ∃j,D XC (.fn (.func 14) [] []) [.ptr M 0] ⟨H,lo⟩=some j/\ (λj=> ∃v,j=aX.ret v ⟨H,lo⟩/\Rv v 1 ((Db m).map fS)) j by grind
 refine cA Qs λN y=>?_
 simp only[go_sem,simprocAttr,Qs];refine dQ 8 (λk e W=> ∃v',e 0= .ptr M 0/\e 3=v'/\e 4= .fn (.func 39) [.ptr M 0] []/\e 8= .int .i64 k/\aP N W v' 1 ot (((List.range k).filter (rG m)).map fS)/\H<+:W/\ ∀i,i<k->oO m i=false) 0 (by omega) ?_ ?_
 ·refine⟨.aq,?_⟩;simp only[go_sem,simprocAttr];exact⟨aP.aq,List.prefix_refl _,λ_ h=>absurd h (aol _)⟩
 rintro k J e W ⟨v',u,e3,t,e8,f,B,d⟩ G C;obtain⟨L,rfl⟩:=B;have a:=VI z (ha.app L) x w k;have b:=λlo=>alj (fs:=[.ptr M 0]) (args:=[.int .i64 k]) (amt z (ha.app L) x w k lo)
 simp only[bO,go_sem,simprocAttr,aff,u,e3,e8];refine⟨λF=>?_,λF=>?_⟩
 ·have r:k<8:=by omega
  cases g:oO m k with
  |true=>
   rw[g]at a;simp(disch:=omega) only[F1,go_sem,simprocAttr,a];refine⟨_,rfl,?_⟩;have:Db m=[]:=aez (ax2.2 ⟨k,al1.2 r,g⟩);rw[this];exact .aq
  |false=>
   rw[g]at a;have c:=nF (p:=λi=>oO m i=false) d g;cases hw:rG m k with
   |true=>
    rw[hw]at b;simp only[go_sem,simprocAttr,e3,t,a,b];refine pE (H0:=H) (ys:=[[.int .i64 k]]) f (aok _ _) y (by omega) (by intro el s;rw[ae5.1 s];rfl) rfl (by unfold room;have:=ahK (rG m) (List.range k);simp at this⊢;omega) λv2 W l o=>?_
    simp(disch:=omega) only[go_sem,simprocAttr,u,t,e8];refine⟨by omega,v2,rfl,?_,o,c⟩;rw[aoU,agp];simpa[hw,fS]using l
   |false=>
    rw[hw]at b;simp(disch:=omega) only[go_sem,simprocAttr,u,e3,t,e8,a,b];refine⟨by omega,v',rfl,?_,aok _ _,c⟩;rw[aoU,agp];simpa[hw]using f
 ·obtain rfl:k=8:=by omega
  rw[f.D5 (by rw[bB (λ_=>rfl)];omega),kj y];refine⟨_,rfl,?_⟩;have:Db m=(List.range 8).filter (rG m):=aeu λh=>by
   obtain⟨i,E,A⟩:=ax2.1 h;rw[d i (al1.1 E)]at A;cases A
  rw[this];exact aP.pG f
end
section
set_option maxHeartbeats 2000000
theorem Nq[Inhabited α](p:α->Bool){l:List α}(h:k<l.length): (l.take (k+1)).countP p=(l.take k).countP p+(p (l.getD k default)).toNat:=by
 rw[agu,adQ h,List.countP_append,agn,adQ h]
 grind
theorem VV(e:Event): (cE e).length=14:=rfl
theorem VW(e:Event):aI (cE e)=0:=rfl
theorem VX(e:Event):Den.part true 14 (cE e) 0=some (.agg (cE e)):=rfl
theorem amV{f:AV}{l:List Event}{p:Event->Bool}(g:Rv v 14 (l.map cE))(s:l.length<100000)(H:List ae)(q: ∀J lo,∀k,k<l.length->D XC f [.agg (cE (l.getD k default))] ⟨H++J,lo⟩=some (.ret (.bool (p (l.getD k default))) ⟨H++J,lo⟩))(lo:oN):
  D XC (.fn (.func 37) [] []) [f,v] ⟨H,lo⟩=some (.ret (.int .i64 (l.countP p)) ⟨H,lo⟩):=by
 refine aH QA λN w=>?_
 simp only[go_sem,simprocAttr,QA,g.bJ];refine dQ l.length (λk e W=> ∃J,W=H++J/\e 0=f/\e 5= .int .i64 ((l.take k).countP p)/\e 8=v/\e 9= .int .i64 l.length/\e 10= .int .i64 k) 0 (by omega) ?_ ?_
 ·refine⟨[],?_⟩;simp only[go_sem,simprocAttr];rfl
 rintro k t e W ⟨J,rfl,m,i,e8,h,d⟩ r n;have u: (l.take k).countP p<=l.length:=agD anb (by grind);simp(disch:=omega) only[bO,F1,go_sem,simprocAttr,afm,i,e8,h,d];refine⟨λo=>?_,λo=>?_⟩
 ·have b:k<l.length:=by omega
  have a:=λL lo=>q (J++L) lo k b
  have c:=Nq p b;cases j:p (l.getD k default)with
  |true=>
   rw[j]at a c;simp(disch:=omega) only[go_sem,simprocAttr,m,i,e8,h,d,g.bW,g.cp,↓VX,VV,VW,a]
   grind
  |false=>
   rw[j]at a c;simp(disch:=omega) only[go_sem,simprocAttr,m,i,e8,h,d,g.bW,g.cp,↓VX,VV,VW,a];exact⟨by omega,b,_,rfl,by rw[c];rfl⟩
 grind
def azY(e:Event)(H:List ae)(lo:oN):D XC (.fn (.func 70) [] []) [.agg (cE e)] ⟨H,lo⟩=some (.ret (.bool (decide (e.r.e≠0))) ⟨H,lo⟩):=by
 refine aH Kz λN b=>?_
 have d: (cE e)[9]?=some (.int .i64 e.r.e):=rfl;by_cases c:e.r.e=0
 ·have a: (e.r.e:Int)=0:=by omega
  rw[aeC (by omega)];simp only[F1,go_sem,simprocAttr,Kz,b,d,a]
 ·have a: ¬(e.r.e:Int)=0:=by omega
  rw[aeD c];simp only[F1,go_sem,simprocAttr,Kz,b,d,a]
theorem azZ(e:Event)(i:e.c.op<256){d:Nat}{H:List ae}(h:H[q]?=some (.box [.int .i64 d] none))(lo:oN):D XC (.fn (.func 38) [] [.ptr q 0]) [.agg (cE e)] ⟨H,lo⟩=some (.ret (.bool (decide (vZ e=d))) ⟨H,lo⟩):=by
 refine fj Kt λN g=>?_
 have g1: (cE e)[1]?=some (.int .u8 e.c.op):=rfl;have f:=bf (L:=[.box (cE e) none]) h;have hm:min (e.c.op:Int) 23=((min e.c.op 23:Nat):Int):=by omega
 have b: ((min e.c.op 23:Nat):Int).tmod 23=(vZ e:Nat):=by rfl
 have j:vZ e<23:=by grind
 by_cases c:vZ e=d
 ·have a: ((vZ e:Nat):Int)=d:=by omega
  rw[aeD c];simp(disch:=omega) only[F1,go_sem,simprocAttr,Kt,g,f,g1,hm,b,a]
 ·have a: ¬((vZ e:Nat):Int)=d:=by omega
  rw[aeC c];simp(disch:=omega) only[F1,go_sem,simprocAttr,Kt,g,f,g1,hm,b,a]
end
section
set_option maxHeartbeats 4000000
def o7(l:List Event):Nat:=l.countP λe=>decide ¬e.r.e=0
def iL(l:List Event):Int:=l.foldl (λa e=>max a ((e.to:Int)-e.fr+1)) 0
def m6(m:aW)(t:Nat):lN:=fR m.ai.S.O m.ai.S.T (j5 t)
def v5(m:aW)(l:lN):Nat:=(l.map λr=>(under m.ai.S.T r).length).sum
def jd(m:aW)(t:Nat)(d:Int)(b:Nat)(a:Bool):lA:=[.int .i64 (cF t m.aV).length,.int .i64 (o7 (cF t m.aV)),.int .i64 d,.int .i64 b,.int .i64 (fR m.ai.S.O m.ai.S.T (j6 t)).length,.int .i64 (sX m.ai.S.K t).length,.bool (m.ai.S.alive t),.bool a]
def jP(m:aW)(t:Nat):lA:=jd m t (iL (cF t m.aV)) (v5 m (m6 m t)) (j0 m t&& !oO m t)
def amW{l:List Event}(h:k<l.length):iL (l.take (k+1))=max (iL (l.take k)) (((l.getD k default).to:Int)- (l.getD k default).fr+1):=by
 unfold iL;rw[agu,adQ h,amG,agn,adQ h];rfl
theorem VY{l:List Event}(a: ∀e∈l,e.fr<2147483648/\e.to<2147483648): ∀ {k:Nat},k<=l.length->0<=iL (l.take k)/\iL (l.take k)<=2147483648
 |0,_=>⟨Int.le_refl 0,by show(0:Int)<=_;omega⟩
 |k+1,h=>by
  obtain⟨f,d⟩:=VY a (k:=k) (by omega);have b:=a _ (dY (show k<l.length by omega));rw[amW (by omega)];omega
def amX{l:lN}(h:k<l.length):v5 m (l.take (k+1))=v5 m (l.take k)+(under m.ai.S.T (l.getD k default)).length:=by
 unfold v5;rw[agu,adQ h,agp,List.sum_append,agn,adQ h];simp
theorem amY{m:aW}(a:ca m.ai.S.T)(l:lN): ∀ {k:Nat},k<=l.length->v5 m (l.take k)<=k*39135393
 |0,_=>ae4 _
 |k+1,h=>by
  have d:=amY a l (k:=k) (by omega);have b:=z5 a (l.getD k default);rw[amX (by omega)];omega
section
variable{n M p q:Nat}{m:aW}{qv ev:AV}{aE aO:Nat->AV}{H:List ae}(hD: ∀op,kO op)(ha:bI n M p q m qv ev aE aO H)(hm:dh m)(xO:iK m)(hr: ∀i,(m.aB i).c.aY.length<1073741824)(hQ:m.ai.Q.length<1073741824)(hE:m.aV.length<10000)
include hD ha hm xO hr hQ hE
theorem az0(ht:t<8)(lo:oN):D XC (.fn (.func 36) [] []) [.ptr M 0,.int .i64 t] ⟨H,lo⟩=some (.ret (.agg (jP m t)) ⟨H,lo⟩):=by
 refine aH Qz λN I=>?_
 obtain⟨g,A⟩: ∃g:ae,g= .box [.int .i64 0,.int .i64 0,.int .i64 0,.int .i64 0,.int .i64 0,.int .i64 0,.bool false,.bool false] none:=⟨_,rfl⟩;obtain⟨cv,d1,d2⟩:=Ng (ha.app [g]) hQ none;have hA:=ha.app [g,.box (bn m.ai.S) none];obtain⟨v,v1,v2⟩:=VO hA (by omega) none;obtain⟨w,t1,t2⟩:=azM v2 (by omega) t (H++[g,.box (bn m.ai.S) none]) none;have t1:=c0 t1;have hol: (cF t m.aV).length<=m.aV.length:=ahK _ _;have r1:=amV (f:=.fn (.func 70) [] []) (p:=λe=>decide (e.r.e≠0)) t2 (by omega) (H++[g,.box (bn m.ai.S) none,g]) (λJ lo k hk=>azY _ _ lo) none;obtain⟨hv,h1,h2,h3⟩:=aiG m.ai.S.O hm.ai.S.O m.ai.S.T hm.ai.S.T hm.ai.S.tr t (by omega) (H++[g,.box (bn m.ai.S) none,g]) none;have h1:=cX h1;obtain⟨kv,k1,k2,k3⟩:=Ug m.ai.S.K hm.ai.S.K t (H++[g,.box (bn m.ai.S) none,g]) none;have k1:=cX k1;rw[A]at d1 v1 t1 r1 h1 k1;have xD:Den.part false 1 (bn m.ai.S) (936+t)=some (.bool (m.ai.S.alive t)):=LK ht;have Hd: (0:Int)<=t/\ (t:Int)<8:=by omega
 simp(disch:=omega) only[go_sem,simprocAttr,Qz,I,d1,↓MR,VF,en,mL,GA,v1,t1,t2.bJ,r1,h1,h2.bJ,k1,k2.bJ,↓Ca,↓vt,↓F4,Hd,↓xD];have hle: ∀e∈cF t m.aV,e.fr<2147483648/\e.to<2147483648:=λe he=>(xO.ev e (agy.1 he).1).2.2
 have a2: ∀d rg wt,(jd m t d rg wt)[2]?=some (.int .i64 d):=λ_ _ _=>rfl
 have a3: ∀d rg wt,(jd m t d rg wt)[3]?=some (.int .i64 rg):=λ_ _ _=>rfl
 have a6: ∀d rg wt,(jd m t d rg wt)[6]?=some (.bool (m.ai.S.alive t)):=λ_ _ _=>rfl
 have s2: ∀d rg wt (x:Int),aJ (jd m t d rg wt) 2 [.int .i64 x]=jd m t x rg wt:=λ_ _ _ _=>rfl
 have s3: ∀d rg wt (a b:Nat),aJ (jd m t d rg wt) 3 [.int .i64 ((a:Int)+b)]=jd m t d (a+b) wt:=λ_ _ _ _ _=>rfl
 have s7: ∀d rg wt x,aJ (jd m t d rg wt) 7 [.bool x]=jd m t d rg x:=λ_ _ _ _=>rfl
 have al: ∀d rg wt,(jd m t d rg wt).length=8:=λ_ _ _=>rfl
 have ar: ∀d rg wt,aI (jd m t d rg wt)=0:=λ_ _ _=>rfl
 have at8: ∀d rg wt,List.take 8 (jd m t d rg wt)=jd m t d rg wt:=λ_ _ _=>rfl
 refine dQ (cF t m.aV).length (λk e W=> ∃J,W=H++g:: .box (bn m.ai.S) none:: .box (jd m t (iL ((cF t m.aV).take k)) 0 false) none::J/\e 0= .ptr M 0/\e 1= .int .i64 t/\e 4= .ptr N 0/\e 5= .ptr (N+1) 0/\e 7= .ptr (N+2) 0/\e 43=w/\e 44= .int .i64 (cF t m.aV).length/\e 45= .int .i64 k) 0 (by omega) ?_ ?_
 ·refine⟨[],?_⟩;simp(disch:=omega) only[go_sem,simprocAttr,A];rfl
 ·rintro k hk e W ⟨J,rfl,O,e1,G,K,e7,F,C,B⟩ nn o;simp(disch:=omega) only[bO,go_sem,simprocAttr,afl,e1,K,F,C,B,↓Ca,↓vt];refine⟨λhh=>?_,λhh=>?_⟩
  ·have h:k< (cF t m.aV).length:=by omega
   obtain⟨q1,q2⟩:=VY hle (k:=k) (by omega);have q3:=hle _ (dY h);have q4:=amW h;have g12: ∀e,(cE e)[12]?=some (.int .i64 e.fr):=λ_=>rfl
   have g13: ∀e,(cE e)[13]?=some (.int .i64 e.to):=λ_=>rfl
   have l: ∀L,(H++g:: .box (bn m.ai.S) none:: .box (jd m t (iL ((cF t m.aV).take k)) 0 false) none::L)[N+2]?=some (.box (jd m t (iL ((cF t m.aV).take k)) 0 false) none):=λL=>by rw[bA I];rfl
   simp(disch:=omega) only[go_sem,simprocAttr,O,e1,G,K,e7,F,C,B,t2.bW,t2.cp,↓VX,VV,VW,l,a2,g12,g13,s2,al];rw[q4];exact⟨by omega,h,_,rfl⟩
  ·have z:k=(cF t m.aV).length:=by omega
   subst z;rw[agk]at*;obtain⟨LG,T⟩: ∃x,x=iL (cF t m.aV):=⟨_,rfl⟩;rw[<-T];obtain⟨rv,o1,Z,o3⟩:=aiF m.ai.S.O hm.ai.S.O m.ai.S.T hm.ai.S.T hm.ai.S.tr t (H++g:: .box (bn m.ai.S) none:: .box (jd m t LG 0 false) none::J) none;have o1:=cX o1;have hb5: ∀x L,(H++g:: .box (bn m.ai.S) none:: .box x none::L)[N+1]?=some (.box (bn m.ai.S) none):=λx L=>by rw[bA I];rfl
   have l: ∀x L,(H++g:: .box (bn m.ai.S) none:: .box x none::L)[N+2]?=some (.box x none):=λx L=>by rw[bA I];rfl
   simp(disch:=omega) only[go_sem,simprocAttr,o1,Z.bJ];have uN: (m6 m t).length<=32:=agD (ahK _ _) (lC _);have C2:m6 m t=fR m.ai.S.O m.ai.S.T (j5 t):=rfl;rw[<-C2]at Z⊢;refine gE (m6 m t).length (λk e W ak=> ∃J,W=H++g:: .box (bn m.ai.S) none:: .box (jd m t LG (v5 m ((m6 m t).take k)) false) none::J/\e 0= .ptr M 0/\e 1= .int .i64 t/\e 4= .ptr N 0/\e 5= .ptr (N+1) 0/\e 7= .ptr (N+2) 0/\e 67=rv/\e 68= .int .i64 (m6 m t).length/\e 69= .int .i64 k/\ (ak=none\/ ∃j,N<=j/\ak=some j)) 0 (by omega) ?_ ?_
   ·refine⟨J,?_⟩;simp(disch:=omega) only[go_sem,simprocAttr,O,e1,G,K,e7];exact⟨rfl,.inl trivial⟩
   clear o1 O e1 G K e7 F C B o;rintro k hk e W ak ⟨J,rfl,O,e1,G,K,e7,X,V,U,s⟩ nn o;simp(disch:=omega) only[bO,go_sem,simprocAttr,afk,e7,X,V,U];refine⟨λhh=>?_,λhh=>?_⟩
   ·have h:k< (m6 m t).length:=by omega
    have hrg:m.ai.S.T.az ((m6 m t).getD k default)=true:=(gi hm.ai.S.T.b).1 (agy.1 (dY h)).1;obtain⟨u,J2,P,Y,u2,u3⟩:=Gl m.ai.S.T hm.ai.S.T hm.ai.S.tr ((m6 m t).getD k default) (fF hrg) nn _ o ak;have Y:=cX Y;have ul:=(iZ u2 P).bJ;have q4:=amX (m:=m) h;have q5:=amY (m:=m) hm.ai.S.tr (m6 m t) (k:=k) (by omega);have q6:=z5 hm.ai.S.tr ((m6 m t).getD k default);have R:= @List.take_left _ (H++g:: .box (bn m.ai.S) none:: .box (jd m t LG (v5 m ((m6 m t).take k)) false) none::J) J2;simp only[aev,ahY]at Y ul R;have hg1:=λx y=>aql (E:=⟨_,ak⟩) (E':=⟨_,P⟩) (a:=N+2) (b:=x) (c:=y) R (by simp;omega)
    have Nr: ∀x,Den.part false 1 (hC x) 0=some (.int .u32 x):=λ_=>rfl
    simp(disch:=omega) only[go_sem,simprocAttr,O,e1,G,K,e7,X,V,U,Z.bW,Z.cp,↓Nr,hb5,l,↓vt,Y,ul,a3,hg1,s3,al];rw[q4];refine⟨by omega,h,_,rfl,?_⟩;have hnN:N<=nn:=by rw[<-o];simp;omega
    rcases s with rfl| ⟨j,hj,rfl⟩
    ·rcases u3 with rfl| ⟨j,hj,rfl⟩
     ·exact .inl rfl
     ·exact .inr ⟨j,by omega,rfl⟩
    ·rcases u3 with rfl| ⟨i,hi,rfl⟩
     ·exact .inr ⟨j,hj,rfl⟩
     ·exact .inr ⟨_,by omega,akA (lo:=none) (a:=j) (b:=i)⟩
   ·have z:k=(m6 m t).length:=by omega
    subst z;rw[agk]at*;subst A;have Q:j0 m t=m.ai.S.alive t:=by unfold j0;rw[aeD ht,alk]
    have jR:=λL lo=>VI hD (ha.app L) hm hr t lo
    have S:jP m t=jd m t LG (v5 m (m6 m t)) (j0 m t&& !oO m t):=by rw[T];rfl
    cases r:m.ai.S.alive t with
    |false=>
     rw[r]at a6;simp(disch:=omega) only[go_sem,simprocAttr,G,e7,l,a6,s7,al,ar,at8];rw[iG s (by show aI _<=N;rw[ar];omega),kj I,S,Q,r];rfl
    |true=>
     rw[r]at a6;simp(disch:=omega) only[go_sem,simprocAttr,O,e1,G,e7,l,a6,s7,al,ar,at8,jR];rw[iG s (by show aI _<=N;rw[ar];omega),kj I,S,Q,r];rfl
end
end
section
set_option maxHeartbeats 4000000
def Dc:lA:=[.int .i64 0,.int .i64 0,.int .i64 0,.int .i64 0,.int .i64 0,.int .i64 0,.bool false,.bool false]
def qz:lA:=[.int .i64 0,.int .i64 0,.int .i64 0,.int .i64 0]
def ic(m:aW)(v:AV)(a b:Nat)(pc:lA):lA:=[.int .i64 m.now]++(arr 8 (λi=>if i<a then jP m i else Dc)++(arr 23 (λd=>[.int .i64 (if d<b then C9 m d else 0:Nat)])++(pc++[v])))
def dW(m:aW)(v:AV):lA:=ic m v 8 23 (dJ (kQ m).1)
def VZ(m:aW)(i a:Nat): (if i<a then jP m i else Dc).length=8:=by split<;>rfl
def az5(m:aW)(i a:Nat):aI (if i<a then jP m i else Dc)=0:=by split<;>rfl
section
variable{m:aW}{v:AV}{a b:Nat}{pc:lA}
def xV: (arr 8 (λi=>if i<a then jP m i else Dc)).length=64:=zw (k:=8) (λi=>VZ m i a) 8
theorem Ns: (arr 23 (λd=>[AV.int .i64 (if d<b then C9 m d else 0:Nat)])).length=23:=by rfl
def Nt(h:pc.length=4): (ic m v a b pc).length=93:=by unfold ic;simp only[aeZ,xV,Ns,h];rfl
def V0(h:aI pc=0):aI (ic m v a b pc)=v.refs:=by
 unfold ic;rw[nW,nW,nW,nW,h,B8 (λi=>az5 m i a),B8 (λ_=>rfl)];simp[aI,AV.refs]
theorem az6(h:a<8):aJ (ic m v a b pc) (1+a*8) (jP m a)=ic m v (a+1) b pc:=by
 unfold ic;have d: (jP m a).length=8:=rfl;rw[fy (by simp),show 1+a*8- [AV.int .i64 m.now].length=a*8+0 by simp,nr (by rw[xV,d];omega),ln (k:=8) (f:=λi=>if i<a then jP m i else Dc) (λi=>VZ m i a) h (by omega)]
 congr 2
 refine vm λj _=>?_
 by_cases e:j=a
 ·subst e;rw[cw,aeu (Nat.lt_irrefl j),aez (aqS j)];rfl
 ·rw[cR e]
  grind
theorem az7(h:b<23):aJ (ic m v a b pc) (65+b) [.int .i64 (C9 m b)]=ic m v a (b+1) pc:=by
 unfold ic;rw[fy (by grind),fy (by rw[xV];grind),xV,show 65+b- [AV.int .i64 m.now].length-64=b*1+0 by simp,nr (by rw[Ns];grind),ln (k:=1) (f:=λd=>[AV.int .i64 (if d<b then C9 m d else 0:Nat)]) (λ_=>rfl) h (by simp)]
 congr 3
 refine vm λj _=>?_
 by_cases e:j=b
 ·subst e;rw[cw,aeu (Nat.lt_irrefl j),aez (aqS j)];rfl
 ·rw[cR e]
  grind
def az8{d:lA}(h:pc.length=4)(e:d.length=4):aJ (ic m v a b pc) 88 d=ic m v a b d:=by
 unfold ic;rw[fy (by simp),fy (by rw[xV];simp),fy (by rw[xV,Ns];simp),xV,Ns,show 88- [AV.int .i64 m.now].length-64-23=0 by simp,nr (by omega),kG (by omega)]
end
section
variable{n M p q:Nat}{m:aW}{qv ev:AV}{aE aO:Nat->AV}{H:List ae}(hD: ∀op,kO op)(ha:bI n M p q m qv ev aE aO H)(hm:dh m)(xO:iK m)(hr: ∀i,(m.aB i).c.aY.length<1073741824)(hQ:m.ai.Q.length<1073741824)(hE:m.aV.length<10000)
include hD ha hm xO hr hQ hE
theorem amZ(lo:oN): ∃v,D XC (.fn (.func 12) [] []) [.ptr M 0] ⟨H,lo⟩=some (.ret (.ax [.agg (dW m v),.int .i64 0]) ⟨H,lo⟩)/\Rv v 1 ((Db m).map fS):=by
 obtain⟨v,w1,O⟩:=amU (ha.app [.box eg none]) hD hm hr none;refine⟨v,?_,O⟩;refine aH Fj λN F=>?_
 have Z:dA EK.ptr (AV.ptr M 0) AV.dy=some false:=rfl;have t1:=amT (ha.app [.box eg none]) none;have z:=nL (O ⟨H,none⟩);have A:=cL O (bB (λ_=>rfl) _);have g:eg.length=93:=rfl;have R: (List.drop 1 eg).length=92:=rfl;have T: (AV.int .i64 m.now::aJ (List.drop 1 eg) 91 [v])=ic m v 0 0 qz:=rfl;have S:aJ eg 0 (ic m v 0 0 qz)=ic m v 0 0 qz:=kG (by rw[g,Nt rfl]);have P:=Nt (m:=m) (v:=v) (a:=0) (b:=0) (pc:=qz) rfl;have y:=V0 (m:=m) (v:=v) (a:=0) (b:=0) (pc:=qz) rfl;rw[A]at y;simp only[go_sem,simprocAttr,Fj,F,Z,t1,w1,z.1,z.2,g,R,T,S,P,y];have Q:=λa b=>Nt (m:=m) (v:=v) (a:=a) (b:=b) (pc:=qz) rfl
 refine dQ 8 (λk e W=>W=H++[.box eg none,.box (ic m v k 0 qz) none]/\e 0= .ptr M 0/\e 2= .ptr N 0/\e 3= .int .i64 0/\e 4= .ptr (N+1) 0/\e 15= .int .i64 k) 0 (by omega) ?_ ?_
 ·simp only[go_sem,simprocAttr]
 rintro k hk e W ⟨rfl,r,t,e3,s,o⟩ nn hnn;have hA:=ha.app [.box eg none,.box (ic m v k 0 qz) none];simp only[bO,go_sem,simprocAttr,afe,r,o];refine⟨λhh=>?_,λhh=>?_⟩
 ·have j:k<8:=by omega
  have Hd: (0:Int)<=k/\ (k:Int)<8:=by omega
  have hac:=λlo=>az0 hD hA hm xO hr hQ hE j lo
  have gC: (jP m k).length=8:=rfl;have har:aI (jP m k)=0:=rfl;have E: ∀L x,(H++ .box eg none:: .box x none::L)[N+1]?=some (.box x none):=λL x=>by rw[bA F];rfl
  simp(disch:=omega) only[go_sem,simprocAttr,r,t,e3,s,o,Hd,hac,gC,har,Q,E,az6 j];exact⟨by omega,j⟩
 ·obtain rfl:k=8:=by omega
  refine dQ 23 (λd e W=> ∃J,W=H++ .box eg none:: .box (ic m v 8 d qz) none::J/\e 0= .ptr M 0/\e 2= .ptr N 0/\e 3= .int .i64 0/\e 4= .ptr (N+1) 0/\e 25= .int .i64 d) 0 (by omega) ?_ ?_
  ·refine⟨[],?_⟩;simp only[go_sem,simprocAttr,r,t,e3,s]
  clear r t e3 s o;rintro d hd e W ⟨J,rfl,r,t,e3,s,K⟩ n2 hn2;simp only[bO,go_sem,simprocAttr,afd,r,K];refine⟨λhh=>?_,λhh=>?_⟩
  ·have B:d<23:=by omega
   have I: (0:Int)<=d/\ (d:Int)<23:=by omega
   obtain⟨u,l⟩: ∃u,u=H++ .box eg none:: .box (ic m v 8 d qz) none:: (J++[ae.box [AV.int .i64 d] none]):=⟨_,rfl⟩;have G:=ha.app (.box eg none:: .box (ic m v 8 d qz) none:: (J++[ae.box [AV.int .i64 d] none]));rw[<-l]at G;obtain⟨w,v1,v2⟩:=VO G (by omega) none;have hq:u[H.length+(J.length+1+1)]?=some (.box [.int .i64 d] none):=by
    rw[l];simp
   have C:D XC (.fn (.func 37) [] []) [.fn (.func 38) [] [.ptr (H.length+(J.length+1+1)) 0],w] ⟨u,none⟩=some (.ret (.int .i64 (C9 m d)) ⟨u,none⟩):=amV (f:=.fn (.func 38) [] [.ptr (H.length+(J.length+1+1)) 0]) (p:=λe=>decide (vZ e=d)) v2 (by omega) u (λJ' lo k hk=>azZ _ (by have:=(xO.ev _ (dY hk)).2.1.2;omega) (bf hq) lo) none;rw[l]at v1 C;have E: ∀L x,(H++ .box eg none:: .box x none::L)[N+1]?=some (.box x none):=λL x=>by rw[bA F];rfl
   simp(disch:=omega) only[go_sem,simprocAttr,r,t,e3,s,K,v1,C,I,Q,E,az7 B];exact⟨by omega,B,_,rfl⟩
  ·obtain rfl:d=23:=by omega
   have Nu:=λL lo=>amQ (ha.app L) hm hr hQ lo
   have E: ∀L x,(H++ .box eg none:: .box x none::L)[N+1]?=some (.box x none):=λL x=>by rw[bA F];rfl
   have Da: ∀L x,(H++ .box eg none:: .box x none::L)[N]?=some (.box eg none):=λL x=>dq F
   have h4: (dJ (kQ m).1).length=4:=rfl;have h0:aI (dJ (kQ m).1)=0:=rfl;have X:aJ (ic m v 8 23 qz) 88 (dJ (kQ m).1)=dW m v:=az8 rfl rfl;have h: (dW m v).length=93:=Nt rfl;have V:aI (dW m v)=0:=by unfold dW;rw[V0 h0,A]
   have U:aJ eg 0 (dW m v)=dW m v:=kG (by rw[g,h]);have Y:Den.part true 93 (dW m v) 0=some (.agg (dW m v)):=vo h;have C2:List.take 93 (dW m v)=dW m v:=aeE (by rw[h];omega);simp(disch:=omega) only[F1,go_sem,simprocAttr,t,s,Nu,E,Da,h4,h0,X,h,V,U,↓Y,Q,g]
end
end
section
set_option maxHeartbeats 2000000
def uy:lB:=[31,0,0,0,0,0]
def nR:aW:=(zQ ⟨2,[uy],[0]⟩).1
theorem aAb:nR.now=1:=by rfl
theorem aAc:Db nR=[0]:=by rfl
theorem aAd:nR.ai.S.alive 0=true:=by rfl
theorem aAe: (j0 nR 0&& !oO nR 0)=true:=by rfl
theorem aAf:nR.ai.S.alive 1=false:=by rfl
theorem aAg:cI (kQ nR).1 0=2:=by rfl
theorem aAh:nE ⟨2,[uy],List.map UInt8.toNat [0]⟩=true:=by rfl
def aAi(H:List ae)(lo:oN):D XC (.fn (.func 12) [] []) [.dy] ⟨H,lo⟩=some (.ret (.ax [.agg eg,.int .i64 1]) ⟨H,lo⟩):=by
 refine aH Fj λN f=>?_
 have e:dA EK.ptr AV.dy AV.dy=some true:=rfl;have a:eg.length=93:=rfl;have b:aI eg=0:=rfl;have c:aJ eg 0 eg=eg:=kG rfl;have d:Den.part true 93 eg 0=some (.agg eg):=vo a;simp only[F1,go_sem,simprocAttr,Fj,f,e,a,b,c,↓d]
section
variable{m:aW}{v:AV}
theorem am0: (dW m v)[0]?=some (.int .i64 m.now):=rfl
theorem am1: (dW m v)[92]?=some v:=rfl
theorem aAj: (dW m v)[7]?=some (.bool (m.ai.S.alive 0)):=rfl
theorem aAk: (dW m v)[8]?=some (.bool (j0 m 0&& !oO m 0)):=rfl
theorem aAl: (dW m v)[15]?=some (.bool (m.ai.S.alive 1)):=rfl
theorem aAm: (dW m v)[88]?=some (.int .i64 (cI (kQ m).1 0)):=rfl
theorem am2: (dW m v).length=93:=by rfl
theorem am3:aI (dW m v)=v.refs:=V0 rfl
theorem am4:aJ eg 0 (dW m v)=dW m v:=by rfl
end
theorem aAn(H:List ae)(lo:oN): ∃E,D XC (.fn (.func 9) [] []) [] ⟨H,lo⟩=some (.ret (.bool true) E):=by
 suffices J: ∃b,D XC (.fn (.func 9) [] []) [] ⟨H,lo⟩=some b/\ (λb=> ∃E,b= .ret (.bool true) E) b by grind
 refine cA Qo λN x=>?_
 have s:GU 2 [uy] [0] (.sl [[S uy]] true) (.sl [[.int .u8 0]] true):=⟨.sl (λel h=>by grind),.sl (af:=[[.int .u8 0]]) (λel h=>by grind),by decide,by decide⟩;obtain⟨b,f,M,p,q,qv,ev,aE,aO,u,H1,g,rfl,e,I,G,F⟩:=amn (n:=2) C8 s aAh N H x none;have f:D XC (.fn (.func 10) [] []) [.agg [.int .i64 2,.sl [[S [31,0,0,0,0,0]]] true,.sl [[.int .u8 0]] true]] ⟨H,none⟩=_:=f;obtain⟨a,j⟩:=C6 (n:=2) (by decide) [uy] (aK:=[0]) (by decide) 1 (ae0 _);have d:=VL (n:=2) (by decide) [uy] (aK:=[0]) (by decide) 1 (ae0 _);have c:=VQ (n:=2) (by decide) [uy] (aK:=[0]) (by decide) 1 (ae0 _);have em:runK 2 [uy] [0] 1=zQ ⟨2,[uy],[0]⟩:=VG 2 [uy] [0];rw[em]at a j d c;have e:bI N M p q nR qv ev aE aO H1:=e;have a:rR nR:=a;have j:nR.now<=1:=j;have d:o5 nR:=d;have c:iK nR:=c;obtain⟨v,B,t⟩:=amZ C8 e a.ok c (λi=>by have:=d i;unfold jN at this;omega) (by have:=a.q;omega) (by have:=a.e;omega) g;have o:=cL t (bB (λ_=>rfl) _);have g1:=aAb;have g2:=aAc;have A:=aAd;have z:=aAe;have y:=aAf;have K:=aAg;rw[g2]at t;have C: ∀E,fX E .sl v=some (.int .i64 1):=λE=>t.bJ
 have w:=λL lo=>aAi L lo
 have l:eg.length=93:=rfl;have k:aI eg=0:=rfl;have r:aJ eg 0 eg=eg:=kG rfl;have e1: (nR.now:Int)=1:=by omega
 have e6: (cI (kQ nR).1 0:Int)=2:=by omega
 simp only[go_sem,simprocAttr,Qo,f,B,w,l,k,r,am2,am3,am4,o,am0,am1,aAj,aAk,aAl,aAm,C,e1,A,z,y,e6];exact⟨_,by rw[amw (ae4 _)]⟩
end
section
set_option maxHeartbeats 4000000
section
variable{m:aW}{v:AV}
end
end
section
set_option maxHeartbeats 4000000
theorem aAo{s:bF}:Den.part true 96 (bn s) 0=some (.agg (b9 s.T.b)):=by rfl
theorem aAp{N a b c o:Nat}{ty:TypeId}{H:List ae}(h:aP N H v sz ty af)(d:j<af.length): (FP.rd a b c).ok (mD k (ef v j o))=true:=by
 rcases h.2 with⟨_,rfl⟩| ⟨id,aj,_,rfl,_⟩
 ·grind
 ·rfl
section
variable{np:Int}{aF:List lB}{aK:lB}{pv:AV}(h:Nh np aF aK pv)
include h
end
end
section
set_option maxHeartbeats 4000000
def Av:List EK->lA->Bool
 | [],[]=>true
 |.int::a,.int _ _::xs=>Av a xs
 |.bool::a,.bool _::xs=>Av a xs
 |_,_=>false
theorem V4: ∀ (a:List EK) (xs:lA),Av a xs=true->xs.length=a.length/\iM a xs xs=some true
 | [],[],_=>⟨rfl,rfl⟩
 |.int::a,.int _ _::xs,h=>by
  obtain⟨c,b⟩:=V4 a xs h;exact⟨by grind,by rw[Pv,if_pos rfl,b]⟩
 |.bool::a,.bool _::xs,h=>by
  obtain⟨c,b⟩:=V4 a xs h;exact⟨by grind,by rw[adT,if_pos rfl,b]⟩
theorem V5{a:List EK}{xs:lA}(h:Av a xs=true):dA (.agg a) (.agg xs) (.agg xs)=some true:=by
 obtain⟨c,b⟩:=V4 a xs h;show(if xs.length=a.length/\xs.length=a.length then iM a xs xs else none)=_
 grind
section
variable{m:aW}{v:AV}
def aAq(h:t<8):Den.part true 8 (dW m v) (1+t*8)=some (.agg (jP m t)):=by
 have e:Den.part true 8 (dW m v) (1+t*8+0)=Den.part true 8 (jP m t) 0:=by
  unfold dW ic;rw[jY (by simp),show 1+t*8+0- [AV.int .i64 m.now].length=t*8+0 by simp,mK (by rw[xV];omega) (by omega),jG (k:=8) (f:=λi=>if i<8 then jP m i else Dc) (λi=>VZ m i 8) h (by omega) (by omega),aez h]
 exact e.trans (vo rfl)
def m7(m:aW)(k:Nat):lA:=arr 23 λd=>[.int .i64 ((m.aV.take k).countP λe=>decide (e.c.op=d):Nat)]
theorem am5: (m7 m k).length=23:=by rfl
def aAr{d:Nat}(h:d<23): (m7 m k)[d]?=some (.int .i64 ((m.aV.take k).countP λe=>decide (e.c.op=d):Nat)):=by
 have:Den.part false 1 (m7 m k) (d*1+0)=some (.int .i64 ((m.aV.take k).countP λe=>decide (e.c.op=d):Nat)):=by
  unfold m7;rw[jG (k:=1) (λ_=>rfl) h (by omega) (by omega)];rfl
 rw[show d*1+0=d by omega]at this;exact this
def aAs(h:k<m.aV.length)(c: (m.aV.getD k default).c.op<23):
  aJ (m7 m k) (m.aV.getD k default).c.op [.int .i64 (((m.aV.take k).countP (λe=>decide (e.c.op=(m.aV.getD k default).c.op)):Nat)+1:Int)]=m7 m (k+1):=by
 generalize b:m.aV.getD k default=x at*;have e:=ln (k:=1) (f:=λd=>[AV.int .i64 ((m.aV.take k).countP λe=>decide (e.c.op=d):Nat)]) (o:=0) (vs:=[.int .i64 (((m.aV.take k).countP (λe=>decide (e.c.op=x.c.op)):Nat)+1:Int)]) (λ_=>rfl) c (by simp);unfold m7;rw[show x.c.op*1+0=x.c.op by omega]at e;rw[e];refine vm λj _=>?_
 have a:=Nq (λe:Event=>decide (e.c.op=j)) h;rw[b]at a;by_cases g:j=x.c.op
 ·subst g;rw[cw,a,aeD rfl];rfl
 ·rw[cR g,a,aeC (λq=>g q.symm)];rfl
theorem aAt(h:iK m):Den.part true 23 (dW m v) 65=some (.agg (m7 m m.aV.length)):=by
 have e:Den.part true 23 (dW m v) 65=some (.agg (arr 23 (λd=>[AV.int .i64 (if d<23 then C9 m d else 0:Nat)]))):=by rfl
 rw[e];unfold m7;rw[agk]
 congr 2
 refine vm λj b=>?_
 rw[aez b]
 congr 2
 refine ahX Int.ofNat (List.countP_congr λx a=>?_);obtain⟨_,⟨f,c⟩,_⟩:=h.ev x a;unfold vZ
 grind
theorem aAu:Av [.int,.int,.int,.int,.int,.int,.int,.int,.int,.int,.int,.int,.int,.int,.int,.int,.int,.int,.int,.int,.int,.int,.int] (m7 m k)=true:=rfl
theorem aAv:Den.part true 4 (dW m v) 88=some (.agg (dJ (kQ m).1)):=by rfl
end
def fU(a b:Nat)(c:Int)(d e f:Nat)(g h:Bool):lA:=[.int .i64 a,.int .i64 b,.int .i64 c,.int .i64 d,.int .i64 e,.int .i64 f,.bool g,.bool h]
theorem aAw{l:List Event}(h:k<l.length):cF t (l.take (k+1))=cF t (l.take k)++if(l.getD k default).aa=t then[l.getD k default]else[]:=by
 unfold cF;rw[agu,adQ h,aoU,agn,adQ h]
 grind
theorem am6(l:List Event)(e:Event):iL (l++[e])=max (iL l) ((e.to:Int)-e.fr+1):=by unfold iL;grind
theorem am7(l:List Event)(e:Event):o7 (l++[e])=o7 l+(decide ¬e.r.e=0).toNat:=by
 unfold o7;grind
theorem aAx{l:List Event}(a: ∀e∈l,e.fr<2147483648/\e.to<2147483648):0<=iL l/\iL l<=2147483648:=by
 have:=VY a (ae0 _)
 grind
def v7(m:aW)(t x:Nat):Bool:=rK m.ai.S.O m.ai.S.T (j6 t) x
def v8(m:aW)(t x:Nat):Bool:=j5 t (bP m.ai.S.O m.ai.S.T x)
theorem aAy(b:br m.ai.S)(d:t<8):fU (cF t m.aV).length (o7 (cF t m.aV)) (iL (cF t m.aV)) ((bo m.ai.S.T.b).countP (v8 m t)) ((bo m.ai.S.T.b).countP (v7 m t)) (sX m.ai.S.K t).length (m.ai.S.alive t) (m.ai.S.alive t&& !oO m t)=jP m t:=by
 have e1:v5 m (m6 m t)=(bo m.ai.S.T.b).countP (v8 m t):=azQ b.eB (j5 t);have c: (fR m.ai.S.O m.ai.S.T (j6 t)).length=(bo m.ai.S.T.b).countP (v7 m t):=by
  unfold fR;rw[<-List.countP_eq_length_filter];rfl
 have a:j0 m t=m.ai.S.alive t:=by unfold j0;grind
 unfold jP jd;rw[e1,c,a];rfl
end
section
set_option maxHeartbeats 4000000
theorem aAz{N o:Nat}{ty:TypeId}{H:List ae}(h:aP N H v sz ty af)(a:j<af.length): ((mD k (ef v j o)).ok (mD k (ef v j o))&&FP.q.ok (mD k (ef v j o)))=true:=by
 rcases h.2 with⟨_,rfl⟩| ⟨id,aj,_,rfl,_⟩
 ·grind
 ·rfl
section
variable{np:Int}{aF:List lB}{aK:lB}{pv:AV}(h:Nh np aF aK pv)
include h
theorem aAA(H:List ae)(lo:oN):
  ∃cr,D XC (.fn (.func 3) [] []) [.agg (fu np pv aK)] ⟨H,lo⟩=some cr/\ ∃E,cr= .ret (.bool true) E:=by
 refine cA Fi λN hN=>?_
 have hw:=aAn;have hr:=ay9 h;have hl: (fu np pv aK).length=3:=rfl;have ht:List.take 3 (fu np pv aK)=fu np pv aK:=rfl;have Nv:=λH lo=>c0 (azb h H lo)
 have V: ∀E:AS,∃E',aX.ret (finish N lo (.bool true) E).1 (finish N lo (.bool true) E).2= .ret (.bool true) E':=λE=>⟨_,by rw[amw (ae4 _)]⟩
 obtain⟨V6,Gy⟩:=hw (H++[.box (fu np pv aK) none]) none;obtain⟨g,hg⟩: ∃g,g=Ni aF aK:=⟨_,rfl⟩;rw[<-hg]at Nv;cases g with
 |true=>
  simp(disch:=omega) only[go_sem,simprocAttr,Fi,hN,hl,ht,Nv,Gy];exact V V6
 |false=>
  have am8:vX aF aK=false/\aK.length<=1500:=by
   unfold Ni at hg;have hg:=hg.symm;simp only[azv,decide_eq_false_iff_not]at hg;exact⟨hg.1,by omega⟩
  have AN:=λH lo=>c0 (azd h am8.1 H lo)
  obtain⟨sm,l⟩: ∃g,g=nE ⟨np,aF,aK.map UInt8.toNat⟩:=⟨_,rfl⟩;rw[<-l]at AN;cases sm with
  |false=>
   simp(disch:=omega) only[go_sem,simprocAttr,Fi,hN,hl,ht,Nv,AN,Gy];exact V V6
  |true=>
   clear Gy V6;obtain⟨kv,o1,o2⟩:=azc h am8.1 (H++[.box (fu np pv aK) none]) none;have o1:=c0 o1;have Vk: ∃n:Nat,np=n:=⟨np.toNat,by unfold nE at l;have l:=l.symm;simp at l;omega⟩;obtain⟨n,rfl⟩:=Vk;have C:1<=n/\n<=64/\aK.length<=4000:=by unfold nE at l;have l:=l.symm;simp at l;omega
   obtain⟨cr,r1,M,p,q,qv,ev,aE,aO,ov2,H1,Af,rfl,r2,r3,r4,r5⟩:=amn C8 o2 l.symm (N+1) (H++[.box (fu n pv aK) none]) (by simp[hN]) none;have VT:dA EK.ptr (AV.ptr M 0) AV.dy=some false:=rfl;obtain⟨O,k2⟩:=C6 ⟨C.1,C.2.1⟩ aF C.2.2 aK.length (ae0 _);have k3:=VL ⟨C.1,C.2.1⟩ aF C.2.2 aK.length (ae0 _);have k4:=VQ ⟨C.1,C.2.1⟩ aF C.2.2 aK.length (ae0 _);rw[VG]at O k2 k3 k4;generalize(zQ ⟨n,aF,aK.map UInt8.toNat⟩).1=m at*;have hQ:m.ai.Q.length<1073741824:=by have:=O.q;omega
   have hE:m.aV.length<10000:=by have:=O.e;omega
   have Nw: ∀i,(m.aB i).c.aY.length<1073741824:=λi=>by have:=k3 i;unfold jN at this;omega
   obtain⟨v,c1,c2⟩:=amZ C8 r2 O.ok k4 Nw hQ hE Af;have hv0:=cL c2 (bB (λ_=>rfl) _);have hzl:eg.length=93:=rfl;have hzr:aI eg=0:=rfl;obtain⟨a,He⟩: ∃a,H1.length=a:=⟨_,rfl⟩;have hA:=r2.app [.box (dW m v) none];have n1:=λlo=>amT hA lo
   obtain⟨wv,w1,w2⟩:=amU hA C8 O.ok Nw Af;obtain⟨cv,d1,d2⟩:=Ng hA hQ Af;obtain⟨Nx,x1,Q⟩:=VO (r2.app [.box (dW m v) none,.box (bn m.ai.S) none]) (by omega) Af;have Da: ∀L,(H1++ .box (dW m v) none::L)[a]?=some (.box (dW m v) none):=λL=>dq He
   have VU:=λE=>(c2 E).bJ
   have HH:=λE=>(w2 E).bJ
   simp(disch:=omega) only[go_sem,simprocAttr,Fi,hN,hl,ht,Nv,AN,o1,r1,VT,c1,hzl,am2,am3,am4,hv0,He,n1,w1,Da,am0,am1,VU,HH,d1,↓MR,VF,en,mL,GA,x1];refine gE m.aV.length (λk e W ak=>W=H1++[.box (dW m v) none,.box (bn m.ai.S) none,.box (m7 m k) none]/\e 3= .ptr M 0/\e 6= .ptr a 0/\e 8= .ptr (a+1) 0/\e 9=Nx/\e 10= .ptr (a+2) 0/\e 11= .int .i64 k) 0 (by omega) ?_ ?_
   ·simp(disch:=omega) only[go_sem,simprocAttr];rfl
   clear c1 n1 w1 d1 d2 x1 HH w2;have Au: ∀L x y,(H1++ .box (dW m v) none::x::y::L)[a+2]?=some y:=λL x y=>by rw[bA He];rfl
   have hb1: ∀L x,(H1++ .box (dW m v) none::x::L)[a+1]?=some x:=λL x=>by rw[bA He];rfl
   have na:=λE=>(Q E).bJ
   rintro k hk e W mW ⟨rfl,e3,e6,e8,B,V7,V8⟩ T r;simp(disch:=omega) only[bO,go_sem,simprocAttr,ae9,e3,B,V8,na];refine⟨λu=>?_,λu=>?_⟩
   ·have s:k<m.aV.length:=by omega
    obtain⟨_,⟨ho1,ho2⟩,_⟩:=k4.ev _ (dY s);have g1: ∀e,Den.part false 1 (cE e) 1=some (.int .u8 e.c.op):=λ_=>rfl
    have qL:=aAs s (by omega);have hat:=aAr (m:=m) (k:=k) (d:=(m.aV.getD k default).c.op) (by omega);have kZ: (m.aV.take k).countP (λe=>decide (e.c.op=(m.aV.getD k default).c.op))<=10000:=by
     have: (m.aV.take k).countP (λe=>decide (e.c.op=(m.aV.getD k default).c.op))<=_:=anb;rw[agw]at this;omega
    have aAE: (((m.aV.getD k default).c.op:Nat):Int)<=22:=by omega
    generalize Y:m.aV.getD k default=P at*;have aAF:0<=((P.c.op:Nat):Int)/\ ((P.c.op:Nat):Int)<23:=by omega
    simp(disch:=omega) only[go_sem,simprocAttr,e3,e6,e8,B,V7,V8,Q.bW,Q.Io,Q.cp,Y,g1,Au,aAE,aAF,hat,qL,am5];exact⟨u,u,by omega,s⟩
   ·obtain rfl:k=m.aV.length:=by omega
    have Nu:=λlo=>amQ (r2.app [.box (dW m v) none,.box (bn m.ai.S) none,.box (m7 m m.aV.length) none]) O.ok Nw hQ lo
    have No:=V5 (aAu (m:=m) (k:=m.aV.length));have hq2:=V5 (show Av [.int,.int,.int,.int] (dJ (kQ m).1)=true from rfl);have p1:=aAt (v:=v) k4;have p2:=aAv (m:=m) (v:=v);have p3:Den.part true 23 (m7 m m.aV.length) 0=some (.agg (m7 m m.aV.length)):=vo am5;have p4:Den.part true 4 (dJ (kQ m).1) 0=some (.agg (dJ (kQ m).1)):=rfl;have h4: (dJ (kQ m).1).length=4:=rfl;have h40:aI (dJ (kQ m).1)=0:=rfl;have h4d: ∀L,aJ [.int .i64 0,.int .i64 0,.int .i64 0,.int .i64 0] 0 (dJ L)=dJ L:=λ_=>rfl
    simp(disch:=omega) only[go_sem,simprocAttr,e6,V7,Nu,↓p1,↓p2,↓p3,↓p4,No,hq2,h4,h40,h4d,Da,Au,He];refine gE 8 (λk e W ak=> ∃J,W=H1++ .box (dW m v) none:: .box (bn m.ai.S) none::J/\e 3= .ptr M 0/\e 6= .ptr a 0/\e 8= .ptr (a+1) 0/\e 9=Nx/\e 14= .int .i64 k) 0 (by omega) ?_ ?_
    ·refine⟨[.box (m7 m m.aV.length) none,.box (dJ (kQ m).1) none],?_⟩;simp(disch:=omega) only[go_sem,simprocAttr,e3,e6,e8,B]
    clear e3 e6 e8 B V7 V8 Nu No hq2 p1 p2;rintro t hk e W Cz ⟨J,rfl,e3,e6,e8,B,j⟩ T r;have ha2:=r2.app (.box (dW m v) none:: .box (bn m.ai.S) none::J);obtain⟨K,Hf⟩: ∃K,K=H1++ .box (dW m v) none:: .box (bn m.ai.S) none::J:=⟨_,rfl⟩;rw[<-Hf]at r ha2⊢;have q0: ∀L,(K++L)[a]?=some (.box (dW m v) none):=λL=>bf (by rw[Hf];exact Da _)
    have q1: ∀L,(K++L)[a+1]?=some (.box (bn m.ai.S) none):=λL=>bf (by rw[Hf];exact hb1 _ _)
    have q1':K[a+1]?=some (.box (bn m.ai.S) none):=by rw[Hf];exact hb1 _ _
    simp(disch:=omega) only[bO,go_sem,simprocAttr,ae8,e8,j];refine⟨λu=>?_,λu=>?_⟩
    ·have s:t<8:=by omega
     have xD: (bn m.ai.S)[936+t]?=some (.bool (m.ai.S.alive t)):=LK s;have Hd: (0:Int)<=t/\ (t:Int)<8:=by omega
     have jR:=λL lo=>VI C8 (ha2.app L) O.ok Nw t lo
     have z8: ∀b c,[AV.int .i64 0,.int .i64 0,.int .i64 0,.int .i64 0,.int .i64 0,.int .i64 0,.bool b,.bool c]=fU 0 0 0 0 0 0 b c:=λ_ _=>rfl
     cases gC:m.ai.S.alive t<;>rw[gC]at xD<;>simp(disch:=omega) only[go_sem,simprocAttr,e3,e8,j,q1,Hd,xD,jR,r]
     all_goals
      obtain⟨AL,hAL⟩: ∃x,x=m.ai.S.alive t:=⟨_,rfl⟩;obtain⟨WT,hWT⟩: ∃x,x=(m.ai.S.alive t&& !oO m t):=⟨_,rfl⟩;have S: ∀L x,(K++x::L)[T]?=some x:=λL x=>dq r
      refine gE m.aV.length (λk e W ak=>W=K++[.box (fU (cF t (m.aV.take k)).length (o7 (cF t (m.aV.take k))) (iL (cF t (m.aV.take k))) 0 0 0 AL WT) none]/\e 3= .ptr M 0/\e 6= .ptr a 0/\e 8= .ptr (a+1) 0/\e 9=Nx/\e 14= .int .i64 t/\e 15= .ptr T 0/\e 16= .int .i64 k) 0 (by omega) ?_ ?_
      ·simp(disch:=omega) only[go_sem,simprocAttr,e3,e6,e8,B,j];rw[hAL,hWT,gC];rfl
      clear e3 e6 e8 B j jR xD;have a0: ∀a b c d e f g h,(fU a b c d e f g h)[0]?=some (.int .i64 a):=λ_ _ _ _ _ _ _ _=>rfl
      have a1: ∀a b c d e f g h,(fU a b c d e f g h)[1]?=some (.int .i64 b):=λ_ _ _ _ _ _ _ _=>rfl
      have a2: ∀a b c d e f g h,(fU a b c d e f g h)[2]?=some (.int .i64 c):=λ_ _ _ _ _ _ _ _=>rfl
      have a3: ∀a b c d e f g h,(fU a b c d e f g h)[3]?=some (.int .i64 d):=λ_ _ _ _ _ _ _ _=>rfl
      have a4: ∀a b c d e f g h,(fU a b c d e f g h)[4]?=some (.int .i64 e):=λ_ _ _ _ _ _ _ _=>rfl
      have al: ∀a b c d e f g h,(fU a b c d e f g h).length=8:=λ_ _ _ _ _ _ _ _=>rfl
      have s0: ∀ (a b:Nat) c d e f g h,aJ (fU a b c d e f g h) 0 [.int .i64 ((a:Int)+1)]=fU (a+1) b c d e f g h:=λ_ _ _ _ _ _ _ _=>rfl
      have s1: ∀ (a b:Nat) c d e f g h,aJ (fU a b c d e f g h) 1 [.int .i64 ((b:Int)+1)]=fU a (b+1) c d e f g h:=λ_ _ _ _ _ _ _ _=>rfl
      have s2: ∀ (a b:Nat) c d e f g h (x:Int),aJ (fU a b c d e f g h) 2 [.int .i64 x]=fU a b x d e f g h:=λ_ _ _ _ _ _ _ _ _=>rfl
      have s3: ∀ (a b:Nat) c (d e f:Nat) g h,aJ (fU a b c d e f g h) 3 [.int .i64 ((d:Int)+1)]=fU a b c (d+1) e f g h:=λ_ _ _ _ _ _ _ _=>rfl
      have s4: ∀ (a b:Nat) c (d e f:Nat) g h,aJ (fU a b c d e f g h) 4 [.int .i64 ((e:Int)+1)]=fU a b c d (e+1) f g h:=λ_ _ _ _ _ _ _ _=>rfl
      have s5: ∀ (a b:Nat) c (d e f f':Nat) g h,aJ (fU a b c d e f g h) 5 [.int .i64 (f':Int)]=fU a b c d e f' g h:=λ_ _ _ _ _ _ _ _ _=>rfl
      have hle: ∀k,∀e∈cF t (m.aV.take k),e.fr<2147483648/\e.to<2147483648:=λk e he=>(k4.ev e (ahZ (agy.1 he).1)).2.2
      rintro k hk e W Cx ⟨rfl,e3,e6,e8,B,j,z,Hg⟩ n3 hn3;simp(disch:=omega) only[bO,go_sem,simprocAttr,ae7,e8,B,Hg,na,q1,↓aAo];refine⟨λu=>?_,λu=>?_⟩
      ·have R:k<m.aV.length:=by omega
       have Z:=aAw (t:=t) R;have hlL:=aAx (hle k);have DR: (cF t (m.aV.take k)).length<=10000:=by
        have: (cF t (m.aV.take k)).length<=_:=ahK _ _;rw[agw]at this;omega
       have pt:o7 (cF t (m.aV.take k))<=10000:=agD anb DR;have om:=(k4.ev _ (dY R)).2.2;have U:=λn off=>Q.aqm (n:=n) (off:=off) R
       generalize Y:m.aV.getD k default=P at*;generalize cF t (m.aV.take k)=L at*;have f0: (cE P)[0]?=some (.int .i64 P.aa):=rfl;have f9: (cE P)[9]?=some (.int .i64 P.r.e):=rfl;have f12: (cE P)[12]?=some (.int .i64 P.fr):=rfl;have f13: (cE P)[13]?=some (.int .i64 P.to):=rfl;by_cases c:P.aa=t
       ·have c': (P.aa:Int)=t:=by omega
        rw[aez c]at Z;by_cases c1:P.r.e=0
        ·have V9: (P.r.e:Int)=0:=by omega
         simp(disch:=omega) only[go_sem,simprocAttr,e3,e6,e8,B,j,z,Hg,Q.bW,Q.Io,Q.cp,U,Y,f0,f9,f12,f13,c',V9,S,a0,a2,s0,s2,al];rw[Z,aeZ,am7,am6,aeC (by simp[c1])];exact⟨u,u,u,u,R,rfl⟩
        ·have V9: ¬(P.r.e:Int)=0:=by omega
         simp(disch:=omega) only[go_sem,simprocAttr,e3,e6,e8,B,j,z,Hg,Q.bW,Q.Io,Q.cp,U,Y,f0,f9,f12,f13,c',V9,S,a0,a1,a2,s0,s1,s2,al];rw[Z,aeZ,am7,am6,aeD c1];exact⟨u,u,u,u,R,rfl⟩
       ·have c': ¬(P.aa:Int)=t:=by omega
        rw[aeu c]at Z;simp(disch:=omega) only[go_sem,simprocAttr,e3,e6,e8,B,j,z,Hg,Q.bW,Q.Io,Q.cp,Y,f0,c'];rw[Z,agB];exact⟨u,R,rfl⟩
      ·obtain rfl:k=m.aV.length:=by omega
       rw[agk];have hn4: ∀x,(K++[ae.box x none]).length=T+1:=λx=>by simp[r]
       obtain⟨w,J2,i1,i2⟩:=L6 m.ai.S.T.b O.ok.ai.S.T.b (T+1) _ (hn4 (fU (cF t m.aV).length (o7 (cF t m.aV)) (iL (cF t m.aV)) 0 0 0 AL WT)) Cx;have i1:=cX (ql (f:=19) (p:=mn) rfl i1);simp only[aev,ahY,ah1]at i1 i2;simp(disch:=omega) only[go_sem,simprocAttr,i1];have Ob:=lC m.ai.S.T.b;obtain⟨I,hI⟩: ∃I,I=bo m.ai.S.T.b:=⟨_,rfl⟩;rw[<-hI]at i2 Ob;refine gE I.length (λk e W ak=> ∃J,W=K++ .box (fU (cF t m.aV).length (o7 (cF t m.aV)) (iL (cF t m.aV)) ((I.take k).countP (v8 m t)) ((I.take k).countP (v7 m t)) 0 AL WT) none::J/\aP (T+1) W w 1 b8 (I.map hC)/\e 3= .ptr M 0/\e 6= .ptr a 0/\e 8= .ptr (a+1) 0/\e 9=Nx/\e 14= .int .i64 t/\e 15= .ptr T 0/\e 17=w/\e 18= .int .i64 k) 0 (by omega) ?_ ?_
       ·refine⟨J2,rfl,aP.le i2 (azV _),?_⟩;simp(disch:=omega) only[go_sem,simprocAttr,e3,e6,e8,B,j,z]
       clear e3 e6 e8 B j z Hg i1 i2;rintro k hk e W Wa ⟨J3,rfl,i2,e3,e6,e8,B,j,z,Hh,Hi⟩ n5 hn5;have hlm:=(iZ i2 Wa).bJ;simp(disch:=omega) only[bO,go_sem,simprocAttr,ae6,e8,j,Hh,Hi,hlm,q1,↓Ca,↓vt,↓F4];refine⟨λu=>?_,λu=>?_⟩
       ·have A:k<I.length:=by omega
        have hg:m.ai.S.T.az (I.getD k default)=true:=(gi O.ok.ai.S.T.b).1 (by rw[<-hI];exact dY A);have how:=λL lo=>c0 (z9 m.ai.S.O O.ok.ai.S.O m.ai.S.T O.ok.ai.S.T O.ok.ai.S.tr (I.getD k default) (fF hg) L lo)
        have C2:=λL lo=>c0 (xn m.ai.S.T O.ok.ai.S.T O.ok.ai.S.tr (I.getD k default) (fF hg) L lo)
        have Wb:=O.ok.ai.S.O.of m.ai.S.T (I.getD k default);have vq:=Nq (v8 m t) A;have p7:=Nq (v7 m t) A;have kZ: (I.take k).countP (v8 m t)<=32/\ (I.take k).countP (v7 m t)<=32:=by
         have: (I.take k).length<=32:=by rw[agw];omega
         exact⟨agD anb this,agD anb this⟩
        have Nr: ∀x,Den.part false 1 (hC x) 0=some (.int .u32 x):=λ_=>rfl
        have L3: ∀x L,aP (T+1) (K++ .box x none:: (J3++L)) w 1 b8 (I.map hC):=λx L=>by
         have:=aP.ext (L:=L) (aP.mX i2 (S _ _) (o:=.box x none));rw[DX r]at this;simpa using this
        have IF:=λx L lo ag n off=>(iZ (L3 x L) lo).cp (X:=XC) (agg:=ag) (n:=n) (off:=off) A
        have Du:=(iZ i2 Wa).bW (k:=.i64) (a:=(k:Int));have hJ: ∀x o,(K++x:: (J3++[o]))[T+(J3.length+1)]?=some o:=λx o=>by rw[bA r];simp
        have hJs: ∀x o o2,(K++x:: (J3++[o])).set (T+(J3.length+1)) o2=K++x:: (J3++[o2]):=λx o o2=>by rw[mC r];simp
        have U:=λb c=>aAp (a:=a+1) (b:=b) (c:=c) (k:=1) (o:=0) i2 (show k< (I.map hC).length by rw[ae3];exact A)
        have eo:v8 m t (I.getD k default)=j5 t (bP m.ai.S.O m.ai.S.T (I.getD k default)):=rfl;have eh:v7 m t (I.getD k default)=(decide (root m.ai.S.T (I.getD k default)=I.getD k default)&&j6 t (bP m.ai.S.O m.ai.S.T (I.getD k default))):=rfl;rw[eo]at vq;rw[eh]at p7;generalize bP m.ai.S.O m.ai.S.T (I.getD k default)=G at*;have hoc:=Aa G;rw[hoc]at how;simp(disch:=omega) only[go_sem,simprocAttr,Du,IF,↓Nr,U,how,r,hJ,hJs];have hhb:mO G.hold t=G.hold.testBit t:=by unfold mO;rw[ane s]
        have Oy:=Wb.aa;have hwr:IntKind.i64.wrap (G.aa:Int)=(G.aa:Int):=wrap_i64 (by omega) (by omega);have HC:=ajs (x:=G.hold) s;have hand:dp .and (.int .u8 ((G.hold/2^t:Nat):Int)) (.int .u8 1)=some (.int .u8 ((G.hold/2^t % 2:Nat):Int)):=ajt Wb.hold;have hbt:=Uk Wb.hold s;obtain⟨bb,hbb⟩: ∃d,G.hold.testBit t=d:=⟨_,rfl⟩;have Au:decide (((G.hold/2^t % 2:Nat):Int)=1)=bb:=by rw[<-hbb,<-hbt];exact agv.2 (by omega)
        obtain⟨d1,g1⟩: ∃d,decide (G.kind=1)=d:=⟨_,rfl⟩;obtain⟨d3,g3⟩: ∃d,decide (G.kind=3)=d:=⟨_,rfl⟩;obtain⟨dt,gt⟩: ∃d,decide (G.aa=t)=d:=⟨_,rfl⟩;obtain⟨dr,gr⟩: ∃d,decide (root m.ai.S.T (I.getD k default)=I.getD k default)=d:=⟨_,rfl⟩;have j1:decide ((G.kind:Int)=1)=d1:=by rw[<-g1];exact agv.2 (by omega)
        have j3:decide ((G.kind:Int)=3)=d3:=by rw[<-g3];exact agv.2 (by omega)
        have jt:decide ((G.aa:Int)=t)=dt:=by rw[<-gt];exact agv.2 (by omega)
        have jr:decide ((root m.ai.S.T (I.getD k default):Int)=(I.getD k default:Nat))=dr:=by rw[<-gr];exact agv.2 (by omega)
        rw[show j5 t G=(d1&&dt) by unfold j5;rw[g1,gt]]at vq;rw[show j6 t G=(d3&&bb) by unfold j6;rw[g3,hhb,hbb,aeD s,alk],gr]at p7;have F: ∀ (a b:Nat) o,a=(I.take (k+1)).countP (v8 m t)->b=(I.take (k+1)).countP (v7 m t)->(∃J,K++ae.box (fU (cF t m.aV).length (o7 (cF t m.aV)) (iL (cF t m.aV)) a b 0 AL WT) none:: (J3++[o])=K++ae.box (fU (cF t m.aV).length (o7 (cF t m.aV)) (iL (cF t m.aV)) ((I.take (k+1)).countP (v8 m t)) ((I.take (k+1)).countP (v7 m t)) 0 AL WT) none::J/\aP (T+1) (K++ae.box (fU (cF t m.aV).length (o7 (cF t m.aV)) (iL (cF t m.aV)) a b 0 AL WT) none:: (J3++[o])) w 1 b8 (I.map hC)):=λa b o ha hb=>by subst ha hb;exact⟨_,rfl,L3 _ _⟩
        cases d3 with
        |false=>
         rw[ahM,aqy]at p7;cases d1 with
         |true=>
          cases dt<;>simp(disch:=omega) only[go_sem,simprocAttr,e3,e6,e8,B,j,z,Hh,Hi,hwr,j1,j3,jt,r,hJ,S,a3,s3,al]<;>exact⟨u,A,F _ _ _ vq.symm p7.symm⟩
         |false=>
          simp(disch:=omega) only[go_sem,simprocAttr,e3,e6,e8,B,j,z,Hh,Hi,j1,j3,r,hJ];exact⟨u,A,F _ _ _ vq.symm p7.symm⟩
        |true=>
         have:d1=false:=by rw[<-g1];exact aeC (by have:=aqA g3;omega)
         subst this;rw[alk]at p7;cases bb with
         |false=>
          rw[aqy]at p7;simp(disch:=omega) only[go_sem,simprocAttr,e3,e6,e8,B,j,z,Hh,Hi,j1,j3,r,hJ,HC,hand,Au];exact⟨u,A,F _ _ _ vq.symm p7.symm⟩
         |true=>
          cases dr<;>simp(disch:=omega) only[go_sem,simprocAttr,e3,e6,e8,B,j,z,Hh,Hi,j1,j3,r,hJ,S,a4,s4,al,HC,hand,Au,q1,↓vt,Du,IF,↓Nr,U,C2,jr]<;>exact⟨u,u,u,aAz i2 (by rw[ae3];exact A),A,F _ _ _ vq.symm p7.symm⟩
       ·obtain rfl:k=I.length:=by omega
        rw[agk]at*;subst hAL hWT;obtain⟨kv,g1,g2,g3⟩:=Ug m.ai.S.K O.ok.ai.S.K t (K++ .box (fU (cF t m.aV).length (o7 (cF t m.aV)) (iL (cF t m.aV)) (I.countP (v8 m t)) (I.countP (v7 m t)) 0 (m.ai.S.alive t) (m.ai.S.alive t&& !oO m t)) none::J3) Wa;have g1:=cX g1;have Ea:=aAy O.ok.ai.S s;rw[<-hI]at Ea;have hag: ∀a b c d e f g h,Den.part true 8 (fU a b c d e f g h) 0=some (.agg (fU a b c d e f g h)):=λ_ _ _ _ _ _ _ _=>rfl
        have hq3:=V5 (show Av [.int,.int,.int,.int,.int,.int,.bool,.bool] (jP m t)=true from rfl);have ht8:List.take 8 (jP m t)=jP m t:=rfl;have hl8: (jP m t).length=8:=rfl;have Gk:=aAq (m:=m) (v:=v) s;simp(disch:=omega) only[go_sem,simprocAttr,e3,e6,e8,B,j,z,q0,g1,g2.bJ,S,r,s5,al,Ea,↓Gk,hq3,ht8,hl8];exact⟨by omega,s,_,by rw[Hf];simp only[aev,ahY];rfl⟩
    ·obtain⟨IQ,Xk⟩:=hw K Cz;simp(disch:=omega) only[go_sem,simprocAttr,Xk];exact V IQ
theorem aAR: ∃E,D XC (.fn (.func 3) [] []) [.agg (fu np pv aK)] ⟨[],none⟩=some (.ret (.bool true) E):=by
 obtain⟨b,a,E,rfl⟩:=aAA h [] none
 grind
end
end
set_option maxHeartbeats 1000000 in
set_option maxRecDepth 100000 in
def aAS(n:Nat)(f:0<n)(d:n<=1024)(w:World):
  Calls Tryz.prog 226 #[.slice none 0 0,.int .i64 n] w λe w'=> ∃cs:Array Value,e= .returned (.slice (some ⟨w.heap.size,0,none⟩) 0 (grownCap w n 0 eX))/\w'=w.drew.alloc (.cells cs eX)/\cs.size=grownCap w n 0 eX*2:=by
 go_enter Tryz.func226,Tryz.ntmps226
 have c:Tryz.t106.bytes=16:=by kernel_rfl
 have b:Builtin.nextslicecap n 0=n:=by unfold Builtin.nextslicecap;simp;omega
 go_wp2
 all_goals first
  | (exfalso;simp only[c,b]at*;omega)
  | (go_ret;refine⟨rfl,_,rfl,?_⟩;have a:=azU w n 0 eX;unfold grownCap eX at a⊢;simp only[aAK,aAI,aAa,agt,am9];generalize(Question.appendCap n 0 _).cut _=q at*;omega)
set_option maxHeartbeats 1000000 in
set_option maxRecDepth 100000 in
def aAT(w:World):
  Calls Tryz.prog 226 #[.slice none 0 0,.int .i64 0] w λe w'=>e= .returned (.slice none 0 0)/\w'=w:=by
 go_enter Tryz.func226,Tryz.ntmps226
 go_wp2
 all_goals(go_ret;exact⟨rfl,rfl⟩)
theorem aAU{f:Nat}{fn:Func}(d:Tryz.prog.funcs[f]?=some fn)(g:fn.body.isSome=true)(a: (fn.name== "runtime.NumGoroutine")=false)(args:Array Value)(w:World):
  (callFunc f args).run Tryz.prog w= .ok (.enter f args) w:=by
 have b: ¬fn.name= "runtime.NumGoroutine" :=by grind
 obtain⟨c,e⟩:=asE.1 g;simp[callFunc,aq6,d,b,e]
theorem aAV(B:Nat)(b:World):gB Tryz.prog B b 226 CU:=by
 intro args E s h G w a hw i;rw[aAU (f:=226) (fn:=Tryz.f226) Tryz.func226 (by rfl) (by rfl)];show CallsIn (W none) 0 Tryz.prog _ a w _;rw[aoF];refine callsIn_wide.2 ?_;unfold CU at h;split at h
 ·rename_i n;simp only[aG]at i;obtain⟨v0,q,r,rfl,v1,p,rfl,rfl,rfl⟩:=i;obtain rfl:a= #[.slice none 0 0,.int .i64 n]:=by grind
  split at h
  ·rename_i g;subst g;cases h;refine(aAT w).mono ?_;rintro e w' ⟨rfl,rfl⟩;exact⟨G,G.le_refl,hw,rfl,.refl _⟩
  ·split at h
   ·rename_i g;obtain⟨k,rfl⟩: ∃k:Nat,n=k:=⟨n.toNat,by omega⟩;cases h;refine(aAS k (by omega) (by omega) w).mono ?_;rintro e w' ⟨cs,rfl,rfl,d⟩;obtain⟨m,o,v2,e1,g1,g2,l,j⟩:=Hw hw (sz:=2) (af:=[]) (c:=cs) (vs:=[]) (post:=cs.toList) (w':=w.drew) eX rfl (λel h=>by cases h) rfl (λv h=>by cases h) d (ae4 _) 0 rfl rfl hw.drew;cases e1;exact⟨m,g1,g2,l,j⟩
   ·cases h
 grind
end Go.Proofs.YtcdeobefbpnfeaaGreatDoor
