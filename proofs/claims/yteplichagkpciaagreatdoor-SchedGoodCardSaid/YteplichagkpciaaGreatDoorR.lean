/- A part. -/
import Derived.Test.YteplichagkpciaaGreatDoorM3
import Derived.Test.YteplichagkpciaaGreatDoorK3
import Derived.Test.YteplichagkpciaaGreatDoorD2
import Derived.Test.YteplichagkpciaaGreatDoorTie
import Derived.Test.YteplichagkpciaaGreatDoorCards
import Derived.ProofKit
import Derived.Lay
import Derived.LaidMore
import Derived.ChangeShapes
import Derived.SevenTiedAt
import Derived.Stop.Joined
set_option linter.all false
set_option maxRecDepth 10000
set_option maxHeartbeats 1000000
namespace Go.Proofs.YteplichagkpciaaGreatDoor
open Go Go.Den Go.RowKit Go.ChangeShapes Go.WideShapes Go.ChangeAt Go.Proofs.YteplichagkpciaaGreatDoor
variable{f:Nat}
section
set_option maxRecDepth 100000
theorem own:ownKnob Tryz.prog.godebug=none:=by rfl
theorem Nn{α:Type}{k:Nat}{v:α}: ∀ {l:List (Nat×α)},l.lookup k=some v->(k,v)∈l
 | [],h=>by cases h
 | (a,b)::l,h=>by
   rw[List.lookup_cons]at h;split at h
   ·grind
   ·exact ahd _ (Nn h)
noncomputable def anD(a:lB):lN:=(List.range Tryz.prog.funcs.size).filter λf=>(Tryz.prog.funcs[f]?).any (·.name.toUTF8.data.toList==a)
def aBI:xd.all (λx=>anD x.2.1==[x.2.2])=true:=by kernel_rfl
theorem aBJ:xd.all (λx=>!x.2.1.isEmpty)=true:=by rfl
def aBK:xd.Pairwise λx y=>x.1≠y.1:=by decide
def aBL:xc.all (λx=>anD x.2.1==[x.2.2])=true:=by kernel_rfl
theorem aBM:xc.all (λx=>!x.2.1.isEmpty)=true:=by rfl
def aBN:xc.Pairwise λx y=>x.1≠y.1:=by decide
abbrev Laid(W:World):Prop:=laidMetH Tryz.prog Rows.schedGoodRow.laid W
abbrev No(W:World)(g:Nat)(es:List (AV×AV)):Prop:=g<W.heap.size/\ ∃a r ms clock,r<W.heap.size/\W.cell? ⟨g,0,none⟩=some (.map (some r))/\W.heap[r]?=some (.map ms clock)/\eN (G0 W.heap.size W) a ms.toList/\ ∀k v,dR k es=some v->dR k a=some v
theorem aBO{W:World}(h:Laid W):No W uO (qI xd):=
 afg (h.funcs amu) rfl (by rfl) (t:=244) (by rfl) Tryz.underlying244 Tryz.underlying5 Tryz.underlying242
  (λx a=>by have:=ag6.1 aBI x a;exact aud.1 this) (λx a e=>by have:=ag6.1 aBJ x a;grind) aBK
theorem aBP{W:World}(h:Laid W):No W uN (qI xc):=
 afg (h.funcs (ahd _ amu)) rfl (by rfl) (t:=168) (by rfl) Tryz.underlying168 Tryz.underlying5 Tryz.underlying166
  (λx a=>by have:=ag6.1 aBL x a;exact aud.1 this) (λx a e=>by have:=ag6.1 aBM x a;grind) aBN
def aBQ{W:World}{g:Nat}{es:List (AV×AV)}(h:No W g es):g<W.heap.size/\ ∃vs:List Value,(∀ (j:Nat) v,vs[j]?=some v->W.cell? ⟨g,j,none⟩=some v)/\Den.Leaves vs/\Den.aD (G0 W.heap.size W) [AV.iY g] vs:=by
 obtain⟨b,c,r,ms,clock,l,k,i,f,e⟩:=h;refine⟨b,[.map (some r)],λj v m=>?_,λv a=>by simp at a;subst a;rfl,aD.single.2 ⟨⟨r,rfl⟩,?_⟩⟩
 ·grind
 ·show(if g<W.heap.size then W.cell? ⟨g,0,none⟩else none)=_
  grind
theorem anE{W:World}(h:Laid W): ∀g t,BZ.lookup g=some t->No W g (qI t):=λg t hg=>by
 have hm:=Nn hg;simp only[BZ,aiK,aq5,List.mem_nil_iff,or_false]at hm;rcases hm with⟨rfl,rfl⟩| ⟨rfl,rfl⟩
 ·exact aBP h
 ·exact aBO h
def anF{W:World}(h:Laid W):fo X0 W.heap.size W:=by
 refine⟨λg cs hg=>?_,λg es hg=>?_⟩
 ·obtain⟨t,a,rfl⟩:=agY.1 (show(BZ.lookup g).map (λ_=>[AV.iY g])=some cs from hg);exact aBQ (anE h g t a)
 ·obtain⟨t,a,rfl⟩:=agY.1 (show(BZ.lookup g).map qI=some es from hg);exact anE h g t a
theorem qo:o5 Tryz.prog X0:=λf pf h=>by
 have a: (if kL.contains f then none else zl.lookup f)=some pf:=h;split at a
 ·grind
 ·exact agN _ (Nn a)
theorem cP{pf:PF}(h:zl.lookup f=some pf):eO Tryz.prog f pf:=agN _ (Nn h)
theorem W9:Pd Tryz.prog xH:=λg pr h=>by
 have a: (if g=yG then some w9 else if g=AY then some w4 else none)=some pr:=h;split at a
 ·rename_i e;cases a;subst e;exact⟨false,Tryz.f308,Tryz.func308,ar6⟩
 split at a
 ·rename_i e;cases a;subst e;exact⟨false,Tryz.f115,Tryz.func115,ar3⟩
 grind
section
variable{B:Nat}{w:World}
def eK{g:Nat}{p q:lA->AS->Option aS}{R:Option (lA->AS->Option aS)}(b:ga Tryz.prog B w g q)(a:R=some p->ga Tryz.prog B w f p)(h: (if f=g then some q else R)=some p):ga Tryz.prog B w f p:=by grind
abbrev uh(B:Nat)(w:World)(X:Ctx):Prop:= ∀f p,X.bU f=some p->ga Tryz.prog B w f p
variable(hg:fo X0 B w)
include hg
theorem z7:ga Tryz.prog B w iG l6:=wy hg qo (λf p h=>by cases h) (cP (by rfl))
theorem aBR:uh B w X1:=λf p h=>eK (z7 hg) (λh=>by cases h) h
theorem CW:ga Tryz.prog B w j5 nz:=wy (X:=X1) hg qo (aBR hg) (cP (by rfl))
theorem aBS:uh B w X2:=λf p h=>eK (z7 hg) (eK (CW hg) (λh=>by cases h)) h
theorem GW:ga Tryz.prog B w mv qb:=wy (X:=X2) hg qo (aBS hg) (cP (by rfl))
theorem aBT:uh B w X3:=λf p h=>eK (z7 hg) (eK (CW hg) (eK (GW hg) (λh=>by cases h))) h
theorem Np:ga Tryz.prog B w m4 rF:=wy (X:=X3) hg qo (aBT hg) (cP (by rfl))
theorem aBU:uh B w X4:=λf p h=>eK (z7 hg) (eK (CW hg) (eK (GW hg) (eK (Np hg) (λh=>by cases h)))) h
theorem Xa:ga Tryz.prog B w qL xr:=wy (X:=X4) hg qo (aBU hg) (cP (by rfl))
theorem aBV:uh B w X5:=λf p h=>eK (z7 hg) (eK (CW hg) (eK (GW hg) (eK (Np hg) (eK (Xa hg) (λh=>by cases h))))) h
theorem anG:ga Tryz.prog B w sh zJ:=wy (X:=X5) hg qo (aBV hg) (cP (by rfl))
theorem aBW:uh B w X6:=λf p h=>eK (z7 hg) (eK (CW hg) (eK (GW hg) (eK (Np hg) (eK (Xa hg) (eK (anG hg) (λh=>by cases h)))))) h
theorem aBX:ga Tryz.prog B w pq Ch:=wy (X:=X6) hg qo (aBW hg) (cP (by rfl))
theorem Xb:uh B w X:=λf p h=>eK (z7 hg) (eK (CW hg) (eK (GW hg) (eK (Np hg) (eK (Xa hg) (eK (anG hg) (eK (aBX hg) (λh=>by cases h))))))) h
theorem aBY:ga Tryz.prog B w yF Cr:=Pj (X:=X) hg qo (Xb hg) W9 Tryz.func307 ar5
theorem aBZ:ga Tryz.prog B w yD Cs:=Pj (X:=X) hg qo (Xb hg) W9 Tryz.func275 ar4
theorem anH:uh B w XA:=λf p h=>eK (aBY hg) (eK (aBZ hg) (Xb hg f p)) h
theorem aB0:ga Tryz.prog B w wB Gs:=Pj (X:=XA) hg qo (anH hg) W9 Tryz.func91 ar2
theorem anI:uh B w XB:=λf p h=>eK (aB0 hg) (anH hg f p) h
theorem aB1:ga Tryz.prog B w po Gw:=wy (X:=XB) hg qo (anI hg) (cP (by rfl))
theorem aB2:uh B w XC:=λf p h=>eK (aB1 hg) (eK (aBH B w) (anI hg f p)) h
end
def aB3{W:World}(g:Laid W){f:FuncId}{fn:Func}(c:Tryz.prog.funcs[f]?=some fn)(l:fn.body.isSome=true)(b: (fn.name== "runtime.NumGoroutine")=false)
  {args:lA} {a:Array Value} (j:aD (Gh.start W) args a.toList) (h: ∃E,D XC (.fn (.func f) [] []) args ⟨[],none⟩=some (.ret (.bool true) E)):
  Calls Tryz.prog f a W λe w'=>e= .returned (.bool true)/\Below W.heap.size W w':=by
 obtain⟨E,h⟩:=h;refine(ap2 (X:=XC) (anF g) qo (aB2 (anF g)) c l b j h).mono ?_;rintro e w' ⟨G,v',rfl,i,k⟩;obtain rfl:v'= .bool true:=i
 grind
theorem aB4(os:Os)(args:Array Value):Laid ((World.doorLaid Tryz.prog 600 os).forCall (λ_ _=>0) ⟨#[],args,[]⟩).memory:=
 laidMetH_of_parts3 (fuel:=8) (laidMet_of_run' 8 (by kernel_rfl) (by kernel_rfl)) (by kernel_rfl) (by kernel_rfl)
section
variable{H:Type}{enc:TypeId×Value->H}{W:World}{sp:Nat->Bool}{held:Bool}{base:Nat}{v:Value}{d:DataW H}{ps:List MemPlace}
def z8{t:Nat}{k:IntKind}{b:lA}{lo a:Int}(c:Tryz.prog.underlying t=some (.int k))(h:gb Tryz.prog (f+1) t d b)(e: ∀n,(Lit.int k n).wf=true->lo<=n/\n<=a): ∃n:Int,b=[.int k n]/\lo<=n/\n<=a:=by
 unfold gb at h
 grind
def Xc(n:Int)(h: (Lit.int .u8 n).wf=true):0<=n/\n<=255:=by simpa[Lit.wf,IntKind.min,IntKind.max,IntKind.signed,IntKind.bits]using h
def aB5(n:Int)(h: (Lit.int .u16 n).wf=true):0<=n/\n<=65535:=by simpa[Lit.wf,IntKind.min,IntKind.max,IntKind.signed,IntKind.bits]using h
def aB6(n:Int)(h: (Lit.int .u64 n).wf=true):0<=n/\n<=18446744073709551615:=by simpa[Lit.wf,IntKind.min,IntKind.max,IntKind.signed,IntKind.bits]using h
def Xd(n:Int)(h: (Lit.int .i64 n).wf=true): -9223372036854775808<=n/\n<=9223372036854775807:=by simpa[Lit.wf,IntKind.min,IntKind.max,IntKind.signed,IntKind.bits]using h
def anJ{α:Type}{e sz:Nat}{g:α->lA}{p:α->Prop}{es:List (DataW H)}{af:List lA}(j:es.length=af.length)(h: ∀ (i:Nat) (a:DataW H) (b:lA),es[i]?=some a->af[i]?=some b->b.length=sz/\gb Tryz.prog f e a b)
  (hg: ∀ (a:DataW H) b,gb Tryz.prog f e a b-> ∃x,b=g x/\p x): ∃l:List α,af=l.map g/\ ∀x∈l,p x:=by
 induction af generalizing es with
 |nil=>simp
 |cons b af c=>
  cases es with
  |nil=>grind
  |cons a es=>
   obtain⟨l,rfl,k⟩:=c (by simpa using j) λi a b o k=>h (i+1) a b (by grind) (by grind)
   obtain⟨x,rfl,n⟩:=hg a b (h 0 a b rfl rfl).2;exact⟨x::l,rfl,λy m=>by grind⟩
def aB7(a:Value.okWide Tryz.prog W .any base 107 v)(h:DataW.Trod enc Tryz.prog W 0 sp held 107 v d ps): ∃n:Nat,v= .int .u16 n/\n<65536:=by
 obtain⟨n,rfl,_,_,hw⟩:=open_int Tryz.underlying107 a h;have:=aB5 n hw;exact⟨n.toNat,by grind,by omega⟩
def aB8{b:lA}{d:DataW H}(h:gb Tryz.prog (f+2) 22 d b): ∃ (pv:AV) (l:List lB),b=[pv]/\Rv pv 1 (l.map sC):=by
 unfold gb at h;rcases h with⟨_,rfl⟩| ⟨es,rest,af,_,rfl,c,_,h⟩
 ·exact⟨_,[],rfl,.ai⟩
 ·obtain⟨l,rfl,_⟩:=anJ (α:=lB) (g:=sC) (p:=λ_=>True) c h (λa b h=>by
    unfold gb at h;obtain⟨s,_,rfl,_⟩:=h;exact⟨s.data.toList,rfl,trivial⟩)
  exact⟨_,l,rfl,.sl λel h=>by obtain⟨x,_,rfl⟩:=ag2.1 h;rfl⟩
def aB9(b:Value.okWide Tryz.prog W .any base 24 v)(h:DataW.Trod enc Tryz.prog W 0 sp held 24 v d ps):
  ∃ (aN:Int) (aC:List lB) (aW:lB) (pv:AV),an (Gh.start W) (.agg (dX aN pv aW)) v/\Nk aN aC aW pv:=by
 obtain⟨xs,g,a,l⟩:=afL (f:=8) Tryz.underlying24 (by rfl) b h;unfold gb at a;obtain⟨m,_,a⟩:=a;obtain⟨_,_,_,_,_,rfl,j,_,_,_,_,_,rfl,i,_,_,_,_,_,rfl,c,_,rfl⟩:=a;obtain⟨aN,rfl,k⟩:=z8 Tryz.underlying3 j Xd;obtain⟨pv,aC,rfl,e⟩:=aB8 i;unfold gb at c;obtain⟨s,_,rfl,_⟩:=c;exact⟨aN,aC,s.data.toList,pv,g,⟨by omega,e⟩⟩
def aCa{b:lA}{d:DataW H}(h:gb Tryz.prog (f+2) 32 d b): ∃ (c:AV) (l:lN),b=[c]/\Rv c 1 (l.map uC)/\ ∀t∈l,t<256:=by
 unfold gb at h;rcases h with⟨_,rfl⟩| ⟨es,rest,af,_,rfl,e,_,h⟩
 ·exact⟨_,[],rfl,.ai,λt h=>by cases h⟩
 ·obtain⟨l,rfl,i⟩:=anJ (α:=Nat) (g:=uC) (p:=λt=>t<256) e h (λa b h=>by
    obtain⟨n,rfl,j⟩:=z8 Tryz.underlying5 h Xc;exact⟨n.toNat,by unfold uC;grind,by omega⟩)
  exact⟨_,l,rfl,.sl λel h=>by obtain⟨x,_,rfl⟩:=ag2.1 h;rfl,i⟩
def aCb(i:Value.okWide Tryz.prog W .any base 106 v)(h:DataW.Trod enc Tryz.prog W 0 sp held 106 v d ps):
  ∃ (x:cA) (e:AV),an (Gh.start W) (.agg (a0 x e)) v/\vS x/\Rv e 1 (x.order.map uC):=by
 obtain⟨xs,o,c,y⟩:=afL (f:=8) Tryz.underlying106 (by kernel_rfl) i h;unfold gb at c;rw[Tryz.underlying106]at c;obtain⟨z,_,c⟩:=c;obtain⟨_,_,_,_,_,rfl,u,_,_,_,_,_,rfl,t,_,_,_,_,_,rfl,s,_,_,_,_,_,rfl,r,_,_,_,_,_,rfl,q,_,_,_,_,_,rfl,p,_,rfl⟩:=c;obtain⟨k,rfl,F⟩:=z8 Tryz.underlying5 u Xc;obtain⟨e,l,rfl,j,m⟩:=aCa t;obtain⟨a,rfl,E⟩:=z8 Tryz.underlying70 s aB6;obtain⟨ev,rfl,D⟩:=z8 Tryz.underlying3 r Xd;obtain⟨b,rfl,C⟩:=z8 Tryz.underlying5 q Xc;obtain⟨g,rfl,A⟩:=z8 Tryz.underlying3 p Xd;obtain⟨k,rfl⟩: ∃n:Nat,k=n:=⟨k.toNat,by omega⟩;obtain⟨a,rfl⟩: ∃n:Nat,a=n:=⟨a.toNat,by omega⟩;obtain⟨b,rfl⟩: ∃n:Nat,b=n:=⟨b.toNat,by omega⟩;exact⟨⟨k,l,a,ev,b,g⟩,e,o,⟨by show k<256;omega,m,by show a<18446744073709551616;omega,by show-9223372036854775808<=ev/\ev<9223372036854775808;omega,by show b<256;omega,by show-9223372036854775808<=g/\g<9223372036854775808;omega⟩,j⟩
end
end
end Go.Proofs.YteplichagkpciaaGreatDoor
